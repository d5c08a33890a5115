/- FnExactLead: the program's Lead returns what the reference's returns, for all arguments (a node, a node, a flag). No condition. -/
import Derived.Test.YtockoilcnmljiaaGreatRows
import Derived.WalkKit
import Derived.ProofKit
import Derived.OpenShut
import Derived.ShutString
import Derived.ChangeOld
import Derived.ChangeSame
import Derived.Below
import Derived.Carry
import Derived.SizedLaws
import Derived.Test.YtockoilcnmljiaaGreatMf
set_option linter.all false
set_option linter.unusedSimpArgs false
set_option linter.unusedVariables false
set_option linter.unnecessarySimpa false
set_option linter.unusedSectionVars false
namespace Go.Proofs.YtockoilcnmljiaaGreat
set_option maxRecDepth 100000
section
variable (pr:dA) (cv:Cv Rz) (J:Nat→St→Option Rz)
def mV (x0:aB) (i0:Int) (i1:Int):St:=(St.mk [(1,(.ptr 1 [] 0)),(31,(.sl (some true) 3 x0.bV.length (ab (bd (some true)) x0.bV))),(32,(.int .i64 i0)),(33,(.int .i64 i1))] [(1,[(.sl (some true) 16 x0.nodes.length (ab (U (some true)) x0.nodes)),(.sl (some true) 3 x0.bV.length (ab (bd (some true)) x0.bV)),(.sl (some true) 2 x0.log.length (ab (cD (some true)) x0.log)),(sI (some true) x0.safe),(.int .i64 x0.gen)])] [] 0)
def ke (x0:aB) (i0:Int) (i1:Int):St:=(St.mk [(1,(.ptr 1 [] 0)),(76,(.sl (some true) 2 x0.log.length (ab (cD (some true)) x0.log))),(77,(.int .i64 i0)),(78,(.int .i64 i1))] [(1,[(.sl (some true) 16 x0.nodes.length (ab (U (some true)) x0.nodes)),(.sl (some true) 3 x0.bV.length (ab (bd (some true)) x0.bV)),(.sl (some true) 2 x0.log.length (ab (cD (some true)) x0.log)),(sI (some true) x0.safe),(.int .i64 x0.gen)])] [] 0)
def kf (x0:aB) (i0:Int) (i1:Int):St:=(St.mk [(1,(.ptr 1 [] 0)),(96,(sI (some true) x0.safe)),(97,(.int .i64 i0)),(98,(.int .i64 i1))] [(1,[(.sl (some true) 16 x0.nodes.length (ab (U (some true)) x0.nodes)),(.sl (some true) 3 x0.bV.length (ab (bd (some true)) x0.bV)),(.sl (some true) 2 x0.log.length (ab (cD (some true)) x0.log)),(sI (some true) x0.safe),(.int .i64 x0.gen)])] [] 0)
theorem Kq:Told cfg Tryz.prog 23 Tryz.f23:=⟨by kernel_rfl,Tryz.func23,by kernel_rfl⟩
theorem Kr (x0:aB):aO pr cv J 23 Tryz.f23 [(.agg (dk (some true) x0))]=
    let y1:Option (D × List D):=(some ((.bool false),[.undef]))
    (cv 74 [(.agg [(.sl (some true) 16 x0.nodes.length (ab (U (some true)) x0.nodes)),(.sl (some true) 3 x0.bV.length (ab (bd (some true)) x0.bV)),(.sl (some true) 2 x0.log.length (ab (cD (some true)) x0.log)),(sI (some true) x0.safe),(.int .i64 x0.gen)])] (.bool (fun bR=>(.done (br (br bR false true) y1 (br (pr.lt 40 (pr.aX x0.bV.length)) y1 (br (pr.lt 200 (pr.aX x0.log.length)) y1 (cv 75 [(.int .i64 x0.gen),(.int .i64 2),(.int .i64 100000)] (.bool (fun eP=>(.done (br (br eP false true) y1 (J 0 (mV x0 (pr.aX x0.bV.length) 0)))))))))))))):=by kernel_rfl
theorem Dy (x0:aB) (i0:Int) (i1:Int):bF pr cv J 23 Tryz.f23 [.undef] 0 (mV x0 i0 i1)=
    let y1:Int:=(pr.bm (ab (bd (some true)) x0.bV) (pr.idx 0 i1 3))
    let y2:Option (D × List D):=(some ((.bool false),[.undef]))
    let y3:Int:=(pr.bm (ab (bd (some true)) x0.bV) ((pr.idx 0 i1 3)+1))
    let y4:List D:=(pr.ba (ab (U (some true)) x0.nodes) ((pr.idx 0 y1 16)+12))
    let y5:Nat:=(pr.idx 0 y3 1)
    (br (pr.lt i1 i0) (br (pr.bz i1 x0.bV.length) (br (br (pr.cg .i64 (ab (bd (some true)) x0.bV) (pr.idx 0 i1 3)) (br (pr.cg .i64 (ab (bd (some true)) x0.bV) ((pr.idx 0 i1 3)+1)) (br (pr.bG 1 (ab (bd (some true)) x0.bV) ((pr.idx 0 i1 3)+2)) true false) false) false) (cv 76 [(.int .i64 y1)] (.bool (fun bR=>(.done (br (br bR false true) y2 (cv 76 [(.int .i64 y3)] (.bool (fun eP=>(.done (br (br eP false true) y2 (br (pr.eq y1 y3) y2 (br (pr.bz y1 x0.nodes.length) (br (br (pr.bG 1 (ab (U (some true)) x0.nodes) ((pr.idx 0 y1 16)+12)) true false) (br (pr.bz y3 (pr.aZ (ab (U (some true)) x0.nodes) ((pr.idx 0 y1 16)+12))) (br (br (pr.cI y4 y5) true false) (br (br (pr.bT y4 y5) false true) y2 (br (pr.lt 400 (pr.aX (pr.aZ (ab (bd (some true)) x0.bV) ((pr.idx 0 i1 3)+2)))) y2 (J 0 (mV x0 i0 (pr.ar .add .i64 i1 1))))) none) none) none) none)))))))))))) none) none) (J 2 (ke x0 (pr.aX x0.log.length) 0))):=by kernel_rfl
theorem Dz (x0:aB) (i0:Int) (i1:Int):bF pr cv J 23 Tryz.f23 [.undef] 2 (ke x0 i0 i1)=
    let y1:Option (D × List D):=(some ((.bool false),[.undef]))
    (br (pr.lt i1 i0) (br (pr.bz i1 x0.log.length) (br (br (pr.cg .i64 (ab (cD (some true)) x0.log) (pr.idx 0 i1 2)) (br (pr.cg .i64 (ab (cD (some true)) x0.log) ((pr.idx 0 i1 2)+1)) true false) false) (cv 77 [(.int .i64 (pr.bm (ab (cD (some true)) x0.log) (pr.idx 0 i1 2)))] (.bool (fun bR=>(.done (br (br bR false true) y1 (cv 75 [(.int .i64 (pr.bm (ab (cD (some true)) x0.log) ((pr.idx 0 i1 2)+1))),(.int .i64 0),(.int .i64 i1)] (.bool (fun eP=>(.done (br (br eP false true) y1 (J 2 (ke x0 i0 (pr.ar .add .i64 i1 1))))))))))))) none) none) (J 4 (kf x0 (pr.aX x0.safe.length) 0))):=by kernel_rfl
theorem DA (x0:aB) (i0:Int) (i1:Int):bF pr cv J 23 Tryz.f23 [.undef] 4 (kf x0 i0 i1)=
    let y1:Option (D × List D):=(some ((.bool false),[.undef]))
    let y2:Option Rz:=(J 4 (kf x0 i0 (pr.ar .add .i64 i1 1)))
    (br (pr.lt i1 i0) (br (pr.bz i1 x0.safe.length) (br (br (pr.cg .i64 (ints x0.safe) (pr.idx 0 i1 1)) true false) (cv 75 [(.int .i64 (pr.bm (ints x0.safe) (pr.idx 0 i1 1))),(.int .i64 1),(.int .i64 (pr.aX x0.log.length))] (.bool (fun bR=>(.done (br (br bR false true) y1 (br (pr.lt 0 i1) (br (pr.bz (pr.ar .sub .i64 i1 1) x0.safe.length) (br (br (pr.cg .i64 (ints x0.safe) (pr.idx 0 (pr.ar .sub .i64 i1 1) 1)) true false) (br (pr.le (pr.bm (ints x0.safe) (pr.idx 0 i1 1)) (pr.bm (ints x0.safe) (pr.idx 0 (pr.ar .sub .i64 i1 1) 1))) y1 y2) none) none) y2)))))) none) none) (some ((.bool true),[.undef]))):=by kernel_rfl
def lT (x0:aB) (i0:Int):St:=(St.mk [(1,(.ptr 1 [] 0)),(3,(.int .i64 i0))] [(1,[(.sl (some true) 16 x0.nodes.length (ab (U (some true)) x0.nodes)),(.sl (some true) 3 x0.bV.length (ab (bd (some true)) x0.bV)),(.sl (some true) 2 x0.log.length (ab (cD (some true)) x0.log)),(sI (some true) x0.safe),(.int .i64 x0.gen)])] [] 0)
def lU (x0:aB) (i0:Int) (i1:Int):St:=(St.mk [(1,(.ptr 1 [] 0)),(3,(.int .i64 i0)),(4,(.int .i64 i1))] [(1,[(.sl (some true) 16 x0.nodes.length (ab (U (some true)) x0.nodes)),(.sl (some true) 3 x0.bV.length (ab (bd (some true)) x0.bV)),(.sl (some true) 2 x0.log.length (ab (cD (some true)) x0.log)),(sI (some true) x0.safe),(.int .i64 x0.gen)])] [] 0)
def jr (x0:aB) (i0:Int):St:=(St.mk [(1,(.ptr 1 [] 0)),(5,(.int .i64 i0))] [(1,[(.sl (some true) 16 x0.nodes.length (ab (U (some true)) x0.nodes)),(.sl (some true) 3 x0.bV.length (ab (bd (some true)) x0.bV)),(.sl (some true) 2 x0.log.length (ab (cD (some true)) x0.log)),(sI (some true) x0.safe),(.int .i64 x0.gen)])] [] 0)
theorem Is:Told cfg Tryz.prog 70 Tryz.f70:=⟨by kernel_rfl,Tryz.func70,by kernel_rfl⟩
theorem It (x0:aB):aO pr cv J 70 Tryz.f70 [(.agg (dk (some true) x0))]=
    (J 0 (lT x0 0)):=by kernel_rfl
theorem CE (x0:aB) (i0:Int):bF pr cv J 70 Tryz.f70 [.undef] 0 (lT x0 i0)=
    (br (pr.lt i0 3) (J 2 (lU x0 i0 0)) (J 4 (jr x0 0))):=by kernel_rfl
theorem CF (x0:aB) (i0:Int) (i1:Int):bF pr cv J 70 Tryz.f70 [.undef] 2 (lU x0 i0 i1)=
    let y1:List D:=(pr.ba (ab (U (some true)) x0.nodes) ((pr.idx 0 i0 16)+12))
    let y2:List D:=(pr.ba (ab (U (some true)) x0.nodes) ((pr.idx 0 i1 16)+12))
    (br (pr.lt i1 3) (br (pr.bz i0 x0.nodes.length) (br (br (pr.bG 1 (ab (U (some true)) x0.nodes) ((pr.idx 0 i0 16)+12)) true false) (br (pr.bz i1 (pr.aZ (ab (U (some true)) x0.nodes) ((pr.idx 0 i0 16)+12))) (br (br (pr.cI y1 (pr.idx 0 i1 1)) true false) (br (pr.bz i1 x0.nodes.length) (br (br (pr.bG 1 (ab (U (some true)) x0.nodes) ((pr.idx 0 i1 16)+12)) true false) (br (pr.bz i0 (pr.aZ (ab (U (some true)) x0.nodes) ((pr.idx 0 i1 16)+12))) (br (br (pr.cI y2 (pr.idx 0 i0 1)) true false) (br (br (pr.beq (pr.bT y1 (pr.idx 0 i1 1)) (pr.bT y2 (pr.idx 0 i0 1))) false true) (some ((.bool false),[.undef])) (J 2 (lU x0 i0 (pr.ar .add .i64 i1 1)))) none) none) none) none) none) none) none) none) (J 0 (lT x0 (pr.ar .add .i64 i0 1)))):=by kernel_rfl
theorem CG (x0:aB) (i0:Int):bF pr cv J 70 Tryz.f70 [.undef] 4 (jr x0 i0)=
    let y1:Int:=(pr.bm (ab (bd (some true)) x0.bV) (pr.idx 0 i0 3))
    let y2:Option (D × List D):=(some ((.bool false),[.undef]))
    let y3:Int:=(pr.bm (ab (bd (some true)) x0.bV) ((pr.idx 0 i0 3)+1))
    let y4:List D:=(pr.ba (ab (U (some true)) x0.nodes) ((pr.idx 0 y1 16)+12))
    let y5:Nat:=(pr.idx 0 y3 1)
    (br (pr.lt i0 (pr.aX x0.bV.length)) (br (pr.bz i0 x0.bV.length) (br (br (pr.cg .i64 (ab (bd (some true)) x0.bV) (pr.idx 0 i0 3)) (br (pr.cg .i64 (ab (bd (some true)) x0.bV) ((pr.idx 0 i0 3)+1)) (br (pr.bG 1 (ab (bd (some true)) x0.bV) ((pr.idx 0 i0 3)+2)) true false) false) false) (cv 69 [(.int .i64 y1),(.int .i64 0),(.int .i64 2)] (.bool (fun bR=>(.done (br (br bR false true) y2 (cv 69 [(.int .i64 y3),(.int .i64 0),(.int .i64 2)] (.bool (fun eP=>(.done (br (br eP false true) y2 (br (pr.eq y1 y3) y2 (br (pr.bz y1 x0.nodes.length) (br (br (pr.bG 1 (ab (U (some true)) x0.nodes) ((pr.idx 0 y1 16)+12)) true false) (br (pr.bz y3 (pr.aZ (ab (U (some true)) x0.nodes) ((pr.idx 0 y1 16)+12))) (br (br (pr.cI y4 y5) true false) (br (br (pr.bT y4 y5) false true) y2 (br (pr.lt 400 (pr.aX (pr.aZ (ab (bd (some true)) x0.bV) ((pr.idx 0 i0 3)+2)))) y2 (J 4 (jr x0 (pr.ar .add .i64 i0 1))))) none) none) none) none)))))))))))) none) none) (some ((.bool (pr.le (pr.aX x0.bV.length) 40)),[.undef]))):=by kernel_rfl
def mW (x0:aB) (i0:Int):St:=(St.mk [(1,(.ptr 1 [] 0)),(3,(.int .i64 i0))] [(1,[(.sl (some true) 16 x0.nodes.length (ab (U (some true)) x0.nodes)),(.sl (some true) 3 x0.bV.length (ab (bd (some true)) x0.bV)),(.sl (some true) 2 x0.log.length (ab (cD (some true)) x0.log)),(sI (some true) x0.safe),(.int .i64 x0.gen)])] [] 0)
def mX (x0:aB) (i0:Int) (i1:Int) (i2:Int) (b3:Bool) (b4:Bool) (g5:Bool) (n6:Nat) (c7:List D) (g8:Bool) (n9:Nat) (yg:List D) (g11:Bool) (fL:Nat) (gu:List D) (mD:Bool) (gC:Bool) (j9:Bool) (i17:Int) (g18:Bool) (Pv:Nat) (Pw:List D) (g21:Bool) (uF:Nat) (uG:List D) (g24:Bool) (n25:Nat) (Px:List D) (Py:Bool) (yj:Nat) (yk:List D) (PA:Bool) (n31:Nat) (c32:List D) (g33:Bool) (n34:Nat) (c35:List D):St:=(St.mk [(1,(.ptr 1 [] 0)),(3,(.int .i64 i0)),(4,(.ptr 4 [] 0)),(5,(.int .i64 i1))] [(1,[(.sl (some true) 16 x0.nodes.length (ab (U (some true)) x0.nodes)),(.sl (some true) 3 x0.bV.length (ab (bd (some true)) x0.bV)),(.sl (some true) 2 x0.log.length (ab (cD (some true)) x0.log)),(sI (some true) x0.safe),(.int .i64 x0.gen)]),(4,[(.int .i64 i2),(.bool b3),(.bool b4),(.sl (some g5) 1 n6 c7),(.sl (some g8) 1 n9 yg),(.sl (some g11) 1 fL gu),(.bool mD),(.bool gC),(.bool j9),(.int .i64 i17),(.sl (some g18) 1 Pv Pw),(.sl (some g21) 1 uF uG),(.sl (some g24) 1 n25 Px),(.sl (some Py) 1 yj yk),(.sl (some PA) 1 n31 c32),(.sl (some g33) 1 n34 c35)])] [] 0)
def kg (x0:aB) (i0:Int):St:=(St.mk [(1,(.ptr 1 [] 0)),(6,(.int .i64 i0))] [(1,[(.sl (some true) 16 x0.nodes.length (ab (U (some true)) x0.nodes)),(.sl (some true) 3 x0.bV.length (ab (bd (some true)) x0.bV)),(.sl (some true) 2 x0.log.length (ab (cD (some true)) x0.log)),(sI (some true) x0.safe),(.int .i64 x0.gen)])] [] 0)
def kh (x0:aB) (i0:Int):St:=(St.mk [(1,(.ptr 1 [] 0)),(7,(.int .i64 i0))] [(1,[(.sl (some true) 16 x0.nodes.length (ab (U (some true)) x0.nodes)),(.sl (some true) 3 x0.bV.length (ab (bd (some true)) x0.bV)),(.sl (some true) 2 x0.log.length (ab (cD (some true)) x0.log)),(sI (some true) x0.safe),(.int .i64 x0.gen)])] [] 0)
theorem Kt:Told cfg Tryz.prog 21 Tryz.f21:=⟨by kernel_rfl,Tryz.func21,by kernel_rfl⟩
theorem Ku (x0:aB):aO pr cv J 21 Tryz.f21 [(.agg (dk (some true) x0))]=
    let y1:Option (D × List D):=(some ((.bool false),[.undef]))
    (br (br (pr.eq (pr.aX x0.nodes.length) 3) false true) y1 (br (pr.lt 200 (pr.aX x0.log.length)) y1 (cv 69 [(.int .i64 x0.gen),(.int .i64 2),(.int .i64 100000)] (.bool (fun bR=>(.done (br (br bR false true) y1 (J 0 (mW x0 0))))))))):=by kernel_rfl
theorem DB (x0:aB) (i0:Int):bF pr cv J 21 Tryz.f21 [.undef] 0 (mW x0 i0)=
    let y1:Int:=(pr.bm (ab (U (some true)) x0.nodes) (pr.idx 0 i0 16))
    let y2:Option (D × List D):=(some ((.bool false),[.undef]))
    let y3:D:=(.int .i64 y1)
    let y4:D:=(.bool (pr.bT (ab (U (some true)) x0.nodes) ((pr.idx 0 i0 16)+1)))
    let y5:D:=(.bool (pr.bT (ab (U (some true)) x0.nodes) ((pr.idx 0 i0 16)+2)))
    let y6:Option Bool:=(some (pr.bD (ab (U (some true)) x0.nodes) ((pr.idx 0 i0 16)+3)))
    let y7:Nat:=(pr.aZ (ab (U (some true)) x0.nodes) ((pr.idx 0 i0 16)+3))
    let y8:List D:=(pr.ba (ab (U (some true)) x0.nodes) ((pr.idx 0 i0 16)+3))
    let y9:Option Bool:=(some (pr.bD (ab (U (some true)) x0.nodes) ((pr.idx 0 i0 16)+4)))
    let y10:Nat:=(pr.aZ (ab (U (some true)) x0.nodes) ((pr.idx 0 i0 16)+4))
    let y11:List D:=(pr.ba (ab (U (some true)) x0.nodes) ((pr.idx 0 i0 16)+4))
    let y12:Option Bool:=(some (pr.bD (ab (U (some true)) x0.nodes) ((pr.idx 0 i0 16)+5)))
    let y13:Nat:=(pr.aZ (ab (U (some true)) x0.nodes) ((pr.idx 0 i0 16)+5))
    let y14:List D:=(pr.ba (ab (U (some true)) x0.nodes) ((pr.idx 0 i0 16)+5))
    let y15:D:=(.bool (pr.bT (ab (U (some true)) x0.nodes) ((pr.idx 0 i0 16)+6)))
    let y16:D:=(.bool (pr.bT (ab (U (some true)) x0.nodes) ((pr.idx 0 i0 16)+7)))
    let y17:D:=(.bool (pr.bT (ab (U (some true)) x0.nodes) ((pr.idx 0 i0 16)+8)))
    let y18:Int:=(pr.bm (ab (U (some true)) x0.nodes) ((pr.idx 0 i0 16)+9))
    let y19:D:=(.int .i64 y18)
    let y20:Option Bool:=(some (pr.bD (ab (U (some true)) x0.nodes) ((pr.idx 0 i0 16)+10)))
    let y21:Nat:=(pr.aZ (ab (U (some true)) x0.nodes) ((pr.idx 0 i0 16)+10))
    let y22:List D:=(pr.ba (ab (U (some true)) x0.nodes) ((pr.idx 0 i0 16)+10))
    let y23:Option Bool:=(some (pr.bD (ab (U (some true)) x0.nodes) ((pr.idx 0 i0 16)+11)))
    let y24:Nat:=(pr.aZ (ab (U (some true)) x0.nodes) ((pr.idx 0 i0 16)+11))
    let y25:List D:=(pr.ba (ab (U (some true)) x0.nodes) ((pr.idx 0 i0 16)+11))
    let y26:Option Bool:=(some (pr.bD (ab (U (some true)) x0.nodes) ((pr.idx 0 i0 16)+12)))
    let y27:Nat:=(pr.aZ (ab (U (some true)) x0.nodes) ((pr.idx 0 i0 16)+12))
    let y28:List D:=(pr.ba (ab (U (some true)) x0.nodes) ((pr.idx 0 i0 16)+12))
    let y29:Option Bool:=(some (pr.bD (ab (U (some true)) x0.nodes) ((pr.idx 0 i0 16)+13)))
    let y30:Nat:=(pr.aZ (ab (U (some true)) x0.nodes) ((pr.idx 0 i0 16)+13))
    let y31:List D:=(pr.ba (ab (U (some true)) x0.nodes) ((pr.idx 0 i0 16)+13))
    let y32:Option Bool:=(some (pr.bD (ab (U (some true)) x0.nodes) ((pr.idx 0 i0 16)+14)))
    let y33:Nat:=(pr.aZ (ab (U (some true)) x0.nodes) ((pr.idx 0 i0 16)+14))
    let y34:List D:=(pr.ba (ab (U (some true)) x0.nodes) ((pr.idx 0 i0 16)+14))
    let y35:Option Bool:=(some (pr.bD (ab (U (some true)) x0.nodes) ((pr.idx 0 i0 16)+15)))
    let y36:Nat:=(pr.aZ (ab (U (some true)) x0.nodes) ((pr.idx 0 i0 16)+15))
    let y37:List D:=(pr.ba (ab (U (some true)) x0.nodes) ((pr.idx 0 i0 16)+15))
    (br (pr.lt i0 3) (br (pr.bz i0 x0.nodes.length) (br (br (pr.cg .i64 (ab (U (some true)) x0.nodes) (pr.idx 0 i0 16)) (br (pr.cI (ab (U (some true)) x0.nodes) ((pr.idx 0 i0 16)+1)) (br (pr.cI (ab (U (some true)) x0.nodes) ((pr.idx 0 i0 16)+2)) (br (pr.bG 1 (ab (U (some true)) x0.nodes) ((pr.idx 0 i0 16)+3)) (br (pr.bG 1 (ab (U (some true)) x0.nodes) ((pr.idx 0 i0 16)+4)) (br (pr.bG 1 (ab (U (some true)) x0.nodes) ((pr.idx 0 i0 16)+5)) (br (pr.cI (ab (U (some true)) x0.nodes) ((pr.idx 0 i0 16)+6)) (br (pr.cI (ab (U (some true)) x0.nodes) ((pr.idx 0 i0 16)+7)) (br (pr.cI (ab (U (some true)) x0.nodes) ((pr.idx 0 i0 16)+8)) (br (pr.cg .i64 (ab (U (some true)) x0.nodes) ((pr.idx 0 i0 16)+9)) (br (pr.bG 1 (ab (U (some true)) x0.nodes) ((pr.idx 0 i0 16)+10)) (br (pr.bG 1 (ab (U (some true)) x0.nodes) ((pr.idx 0 i0 16)+11)) (br (pr.bG 1 (ab (U (some true)) x0.nodes) ((pr.idx 0 i0 16)+12)) (br (pr.bG 1 (ab (U (some true)) x0.nodes) ((pr.idx 0 i0 16)+13)) (br (pr.bG 1 (ab (U (some true)) x0.nodes) ((pr.idx 0 i0 16)+14)) (br (pr.bG 1 (ab (U (some true)) x0.nodes) ((pr.idx 0 i0 16)+15)) true false) false) false) false) false) false) false) false) false) false) false) false) false) false) false) false) (br (br (pr.eq y1 i0) false true) y2 (cv 41 [(.agg [y3,y4,y5,(.sl y6 1 y7 y8),(.sl y9 1 y10 y11),(.sl y12 1 y13 y14),y15,y16,y17,y19,(.sl y20 1 y21 y22),(.sl y23 1 y24 y25),(.sl y26 1 y27 y28),(.sl y29 1 y30 y31),(.sl y32 1 y33 y34),(.sl y35 1 y36 y37)])] (.bool (fun bR=>(.done (br (br bR false true) y2 (br (pr.lt (pr.aX x0.log.length) y18) y2 (J 2 (mX x0 i0 0 y1 (pr.bT (ab (U (some true)) x0.nodes) ((pr.idx 0 i0 16)+1)) (pr.bT (ab (U (some true)) x0.nodes) ((pr.idx 0 i0 16)+2)) (pr.bD (ab (U (some true)) x0.nodes) ((pr.idx 0 i0 16)+3)) y7 y8 (pr.bD (ab (U (some true)) x0.nodes) ((pr.idx 0 i0 16)+4)) y10 y11 (pr.bD (ab (U (some true)) x0.nodes) ((pr.idx 0 i0 16)+5)) y13 y14 (pr.bT (ab (U (some true)) x0.nodes) ((pr.idx 0 i0 16)+6)) (pr.bT (ab (U (some true)) x0.nodes) ((pr.idx 0 i0 16)+7)) (pr.bT (ab (U (some true)) x0.nodes) ((pr.idx 0 i0 16)+8)) y18 (pr.bD (ab (U (some true)) x0.nodes) ((pr.idx 0 i0 16)+10)) y21 y22 (pr.bD (ab (U (some true)) x0.nodes) ((pr.idx 0 i0 16)+11)) y24 y25 (pr.bD (ab (U (some true)) x0.nodes) ((pr.idx 0 i0 16)+12)) y27 y28 (pr.bD (ab (U (some true)) x0.nodes) ((pr.idx 0 i0 16)+13)) y30 y31 (pr.bD (ab (U (some true)) x0.nodes) ((pr.idx 0 i0 16)+14)) y33 y34 (pr.bD (ab (U (some true)) x0.nodes) ((pr.idx 0 i0 16)+15)) y36 y37))))))))) none) none) (J 4 (kg x0 0))):=by kernel_rfl
theorem DC (x0:aB) (i0:Int) (i1:Int) (i2:Int) (b3:Bool) (b4:Bool) (g5:Bool) (n6:Nat) (c7:List D) (g8:Bool) (n9:Nat) (yg:List D) (g11:Bool) (fL:Nat) (gu:List D) (mD:Bool) (gC:Bool) (j9:Bool) (i17:Int) (g18:Bool) (Pv:Nat) (Pw:List D) (g21:Bool) (uF:Nat) (uG:List D) (g24:Bool) (n25:Nat) (Px:List D) (Py:Bool) (yj:Nat) (yk:List D) (PA:Bool) (n31:Nat) (c32:List D) (g33:Bool) (n34:Nat) (c35:List D):bF pr cv J 21 Tryz.f21 [.undef] 2 (mX x0 i0 i1 i2 b3 b4 g5 n6 c7 g8 n9 yg g11 fL gu mD gC j9 i17 g18 Pv Pw g21 uF uG g24 n25 Px Py yj yk PA n31 c32 g33 n34 c35)=
    (br (pr.lt i1 8) (br (pr.bz i1 n6) (br (br (pr.cg .i64 c7 (pr.idx 0 i1 1)) true false) (br (pr.lt (pr.aX x0.log.length) (pr.bm c7 (pr.idx 0 i1 1))) (some ((.bool false),[.undef])) (J 2 (mX x0 i0 (pr.ar .add .i64 i1 1) i2 b3 b4 g5 n6 c7 g8 n9 yg g11 fL gu mD gC j9 i17 g18 Pv Pw g21 uF uG g24 n25 Px Py yj yk PA n31 c32 g33 n34 c35))) none) none) (J 0 (mW x0 (pr.ar .add .i64 i0 1)))):=by kernel_rfl
theorem DD (x0:aB) (i0:Int):bF pr cv J 21 Tryz.f21 [.undef] 4 (kg x0 i0)=
    let y1:Option (D × List D):=(some ((.bool false),[.undef]))
    (br (pr.lt i0 (pr.aX x0.log.length)) (br (pr.bz i0 x0.log.length) (br (br (pr.cg .i64 (ab (cD (some true)) x0.log) (pr.idx 0 i0 2)) true false) (cv 69 [(.int .i64 (pr.bm (ab (cD (some true)) x0.log) (pr.idx 0 i0 2))),(.int .i64 0),(.int .i64 7)] (.bool (fun bR=>(.done (br (br bR false true) y1 (br (pr.bz i0 x0.log.length) (br (br (pr.cg .i64 (ab (cD (some true)) x0.log) ((pr.idx 0 i0 2)+1)) true false) (cv 69 [(.int .i64 (pr.bm (ab (cD (some true)) x0.log) ((pr.idx 0 i0 2)+1))),(.int .i64 0),(.int .i64 i0)] (.bool (fun eP=>(.done (br (br eP false true) y1 (J 4 (kg x0 (pr.ar .add .i64 i0 1)))))))) none) none)))))) none) none) (J 6 (kh x0 0))):=by kernel_rfl
theorem DE (x0:aB) (i0:Int):bF pr cv J 21 Tryz.f21 [.undef] 6 (kh x0 i0)=
    let y1:Bool:=(br (pr.cg .i64 (ints x0.safe) (pr.idx 0 i0 1)) true false)
    let y2:Option (D × List D):=(some ((.bool false),[.undef]))
    let y3:Option Rz:=(J 6 (kh x0 (pr.ar .add .i64 i0 1)))
    (br (pr.lt i0 (pr.aX x0.safe.length)) (br (pr.bz i0 x0.safe.length) (br y1 (cv 69 [(.int .i64 (pr.bm (ints x0.safe) (pr.idx 0 i0 1))),(.int .i64 1),(.int .i64 (pr.aX x0.log.length))] (.bool (fun bR=>(.done (br (br bR false true) y2 (br (pr.lt 0 i0) (br (pr.bz (pr.ar .sub .i64 i0 1) x0.safe.length) (br (br (pr.cg .i64 (ints x0.safe) (pr.idx 0 (pr.ar .sub .i64 i0 1) 1)) true false) (br (pr.bz i0 x0.safe.length) (br y1 (br (pr.le (pr.bm (ints x0.safe) (pr.idx 0 i0 1)) (pr.bm (ints x0.safe) (pr.idx 0 (pr.ar .sub .i64 i0 1) 1))) y2 y3) none) none) none) none) y3)))))) none) none) (cv 70 [(.agg [(.sl (some true) 16 x0.nodes.length (ab (U (some true)) x0.nodes)),(.sl (some true) 3 x0.bV.length (ab (bd (some true)) x0.bV)),(.sl (some true) 2 x0.log.length (ab (cD (some true)) x0.log)),(sI (some true) x0.safe),(.int .i64 x0.gen)])] (.bool (fun eP=>(.done (some ((.bool eP),[.undef]))))))):=by kernel_rfl
end
structure Kv (w:aB) (x:dr):Prop where
  src:0≤x.src∧x.src≤2
  dst:0≤x.dst∧x.dst≤2
  ne:¬x.src=x.dst
  conn:(w.nodes.getD x.src.toNat n0).conn.getD x.dst.toNat false=true
  len:x.bytes.length≤400
structure QB (x:gx) (i:Nat):Prop where
  cell:0≤x.cell∧x.cell≤7
  up:0≤x.up∧x.up≤i
structure Y5 (w:aB) (i:Nat):Prop where
  wT:1≤w.safe.getD i 0∧w.safe.getD i 0≤w.log.length
  up:0 < (i:Int)→¬w.safe.getD i 0≤w.safe.getD (i - 1) 0
structure Y6 (w:aB):Prop where
  sy:∀ i k,i < 3→k < 3→FO w i k
  wr:∀ i,i < w.bV.length→Kv w (w.bV.getD i w0)
  bV:(w.bV.length:Int)≤40
structure Aw (w:aB):Prop where
  ns:Ko w
  bV:(w.bV.length:Int)≤40
  log:(w.log.length:Int)≤200
  gen:2≤w.gen∧w.gen≤100000
  wr:∀ i,i < w.bV.length→Kv w (w.bV.getD i w0)
  rc:∀ i,i < w.log.length→QB (w.log.getD i r0) i
  sf:∀ i,i < w.safe.length→Y5 w i
open Classical in
noncomputable def pI (p:Prop):Bool:=decide p
open Classical in
theorem aaF {p:Prop} (h:p):pI p=true:=by unfold pI; exact decide_eq_true h
open Classical in
theorem agn {p:Prop} (h:¬p):pI p=false:=by unfold pI; exact decide_eq_false h
open Classical in
theorem ae1 {p:Prop} (h:pI p=true):p:=by unfold pI at h; exact of_decide_eq_true h
theorem ae2 {p q:Prop} (h:p↔q):pI p=pI q:=by rw [propext h]
theorem fw {p:Prop} {l:List D} (h:¬p):(some ((.bool false,l):Rz))=some (.bool (pI p),l):=by rw [agn h]
theorem NB {p:Prop} {l:List D} (h:p):(some ((.bool true,l):Rz))=some (.bool (pI p),l):=by rw [aaF h]
noncomputable def ki (w:aB):Bool:=pI (Aw w)
noncomputable def CH (w:aB):Bool:=pI (Y6 w)
theorem yL {w:aB} (h:ki w=true):Aw w:=ae1 h
open Classical in
theorem ago {w:aB} (h:Ko w):pR w=true:=by unfold pR; exact decide_eq_true h
theorem okW {w:aB} (ok:dg w) {i:Nat} (h:i < w.bV.length):j0 (w.bV.getD i w0):=ok.xD _ (Dm h)
theorem fp {p:Nat→Prop} {i:Nat} (h:∀ a,a < i→p a) (hi:p i):∀ a,a < i+1→p a:=by
  intro a ha
  by_cases e:a=i
  · rw [e]; exact hi
  · exact h a (by omega)
theorem Kw (w:aB) (q0:dg w):Cm 23 [.agg (dk (some true) w)] (.bool (ki w),[.undef]):=by
  unfold ki
  have b1:=q0.nodes
  have b2:=q0.bV
  have b3:=q0.log
  have b4:=q0.safe
  refine Cm.step Kq [.undef] fun J hJ=>?_
  rw [Kr]
  try simp (disch:=first | assumption | omega) only [go_sem]
  refine ie (fun h=>?_) (fun h=>fw fun o=>h (ago o.ns))
  have ns:=agm h
  have nl:=ns.len
  try simp (disch:=first | assumption | omega) only [go_sem]
  refine bK (fun h=>fw fun o=>absurd o.bV (by omega)) (fun h1=>?_)
  try simp (disch:=first | assumption | omega) only [go_sem]
  refine bK (fun h=>fw fun o=>absurd o.log (by omega)) (fun h2=>?_)
  try simp (disch:=first | assumption | omega) only [go_sem]
  refine bK (fun h3=>?_) (fun h=>fw fun o=>h o.gen)
  have Ux:(∀ i,i < w.bV.length→Kv w (w.bV.getD i w0))→(∀ i,i < w.log.length→QB (w.log.getD i r0) i)→WP 23 Tryz.f23 [.undef] 4 (kf w w.safe.length ((0:Nat):Int)) (.bool (pI (Aw w)),[.undef]):=by
    intro wr rc
    refine WP.up (H:=fun i:Nat=>kf w w.safe.length (i:Int)) w.safe.length (fun i=>∀ a,a < i→Y5 w a) (fun i hi inv J hJ next=>?_) 0 (by omega) (fun a h=>absurd h (by omega))
    rw [DA]
    try simp (disch:=first | assumption | omega) only [go_sem]
    refine bK (fun hl=>?_) (fun hl=>NB ⟨ns,by omega,by omega,h3,wr,rc,fun a ha=>inv a (by omega)⟩)
    try simp (disch:=first | assumption | omega) only [go_sem]
    refine bK (fun hr=>?_) (fun h=>fw fun o=>h (o.sf i (by omega)).wT)
    try simp (disch:=first | assumption | omega) only [go_sem]
    refine bK (fun hp=>?_) (fun hp=>?_)
    · try simp (disch:=first | assumption | omega) only [go_sem]
      rw [show ((i:Int) - 1).toNat=i - 1 by omega]
      refine bK (fun h=>fw fun o=>(o.sf i (by omega)).up hp h) (fun hu=>?_)
      exact next (by omega) (fp inv ⟨hr,fun _=>hu⟩)
    · try simp (disch:=first | assumption | omega) only [go_sem]
      exact next (by omega) (fp inv ⟨hr,fun h=>absurd h hp⟩)
  have second:(∀ i,i < w.bV.length→Kv w (w.bV.getD i w0))→WP 23 Tryz.f23 [.undef] 2 (ke w w.log.length ((0:Nat):Int)) (.bool (pI (Aw w)),[.undef]):=by
    intro wr
    refine WP.up (H:=fun i:Nat=>ke w w.log.length (i:Int)) w.log.length (fun i=>∀ a,a < i→QB (w.log.getD a r0) a) (fun i hi inv J hJ next=>?_) 0 (by omega) (fun a h=>absurd h (by omega))
    rw [Dz]
    try simp (disch:=first | assumption | omega) only [go_sem]
    refine bK (fun hl=>?_) (fun hl=>hJ _ _ (Ux wr fun a ha=>inv a (by omega)))
    try simp (disch:=first | assumption | omega) only [go_sem]
    refine bK (fun hr=>?_) (fun h=>fw fun o=>h (o.rc i (by omega)).cell)
    try simp (disch:=first | assumption | omega) only [go_sem]
    refine bK (fun hu=>?_) (fun h=>fw fun o=>h (o.rc i (by omega)).up)
    try simp (disch:=first | assumption | omega) only [go_sem]
    exact next (by omega) (fp inv ⟨hr,hu⟩)
  refine hJ _ _ ?_
  refine WP.up (H:=fun i:Nat=>mV w w.bV.length (i:Int)) w.bV.length (fun i=>∀ a,a < i→Kv w (w.bV.getD a w0)) (fun i hi inv J hJ next=>?_) 0 (by omega) (fun a h=>absurd h (by omega))
  rw [Dy]
  try simp (disch:=first | assumption | omega) only [go_sem]
  refine bK (fun hl=>?_) (fun hl=>hJ _ _ (second fun a ha=>inv a (by omega)))
  have ow:=okW q0 (show i < w.bV.length by omega)
  try simp (disch:=first | assumption | omega) only [go_sem]
  refine bK (fun hs=>?_) (fun h=>fw fun o=>h (o.wr i (by omega)).src)
  try simp (disch:=first | assumption | omega) only [go_sem]
  refine bK (fun hd=>?_) (fun h=>fw fun o=>h (o.wr i (by omega)).dst)
  try simp (disch:=first | assumption | omega) only [go_sem]
  refine bK (fun h=>fw fun o=>(o.wr i (by omega)).ne h) (fun hn=>?_)
  have cs:=(iN (ns.nd (w.bV.getD i w0).src.toNat (by omega)).ok).conn
  try simp (disch:=first | assumption | omega) only [go_sem]
  refine ie (fun hc=>?_) (fun h=>fw fun o=>h (o.wr i (by omega)).conn)
  try simp (disch:=first | assumption | omega) only [go_sem]
  refine bK (fun h=>fw fun o=>absurd (o.wr i (by omega)).len (by omega)) (fun hb=>?_)
  try simp (disch:=first | assumption | omega) only [go_sem]
  exact next (by omega) (fp inv ⟨hs,hd,hn,hc,by omega⟩)
@[go_sem] theorem abY (w:aB) (q0:dg w) (t:bE Rz):aL 23 [.agg (gU (some true) w)] t=feed t [.bool (ki w)]:=by
  exact bH (r:=.bool (ki w)) (s:=.bool) (ss:=[.undef]) (Kw w q0) (by kernel_rfl) (by simp only [au,bq,aU,bt,bu,af,aj,Bool.and_self]) (by simp only [af,aF,au,aj,Bool.and_self]) (by first | rfl | simp only [aq,aS,aR,bn,bo,aT,bp,Bool.and_self]) (by first | rfl | simp only [List.all_cons,List.all_nil,aq,Bool.and_self]) t
theorem ae3 {w:aB} {i k:Nat} (hi:i < 3) (hk:k < 3) (o:∀ i k,i < 3→k < 3→FO w i k):(w.nodes.getD i n0).conn.getD k false=(w.nodes.getD k n0).conn.getD i false:=by
  have h1:=o i k hi hk
  have h2:=o k i hk hi
  unfold FO at h1 h2
  cases h:(w.nodes.getD i n0).conn.getD k false<;>cases h':(w.nodes.getD k n0).conn.getD i false<;>simp_all
theorem Iu (w:aB) (q0:dg w) (q1:w.nodes.length=3) (q2:∀ i,i < 3→((w.nodes.getD i n0).conn.length:Int)=3):Cm 70 [.agg (dk (some true) w)] (.bool (CH w),[.undef]):=by
  unfold CH
  have b2:=q0.bV
  refine Cm.step Is [.undef] fun J hJ=>?_
  rw [It]
  have second:(∀ i k,i < 3→k < 3→FO w i k)→WP 70 Tryz.f70 [.undef] 4 (jr w ((0:Nat):Int)) (.bool (pI (Y6 w)),[.undef]):=by
    intro sy
    refine WP.up (H:=fun i:Nat=>jr w (i:Int)) w.bV.length (fun i=>∀ a,a < i→Kv w (w.bV.getD a w0)) (fun i hi inv J hJ next=>?_) 0 (by omega) (fun a h=>absurd h (by omega))
    rw [CG]
    try simp (disch:=first | assumption | omega) only [go_sem]
    refine bK (fun hl=>?_) (fun hl=>?_)
    · have ow:=okW q0 (show i < w.bV.length by omega)
      try simp (disch:=first | assumption | omega) only [go_sem]
      refine bK (fun hs=>?_) (fun h=>fw fun o=>h (o.wr i (by omega)).src)
      try simp (disch:=first | assumption | omega) only [go_sem]
      refine bK (fun hd=>?_) (fun h=>fw fun o=>h (o.wr i (by omega)).dst)
      try simp (disch:=first | assumption | omega) only [go_sem]
      refine bK (fun h=>fw fun o=>(o.wr i (by omega)).ne h) (fun hn=>?_)
      have cs:=q2 (w.bV.getD i w0).src.toNat (by omega)
      try simp (disch:=first | assumption | omega) only [go_sem]
      refine ie (fun hc=>?_) (fun h=>fw fun o=>h (o.wr i (by omega)).conn)
      try simp (disch:=first | assumption | omega) only [go_sem]
      refine bK (fun h=>fw fun o=>absurd (o.wr i (by omega)).len (by omega)) (fun hb=>?_)
      try simp (disch:=first | assumption | omega) only [go_sem]
      exact next (by omega) (fp inv ⟨hs,hd,hn,hc,by omega⟩)
    · by_cases h:(w.bV.length:Int)≤40
      · rw [decide_eq_true h]
        exact NB ⟨sy,fun a ha=>inv a (by omega),h⟩
      · rw [decide_eq_false h]
        exact fw fun o=>h o.bV
  refine hJ _ _ ?_
  refine WP.upw (H:=fun i:Nat=>lT w (i:Int)) 3 (fun i=>∀ a,a < i→∀ k,k < 3→(w.nodes.getD a n0).conn.getD k false=(w.nodes.getD k n0).conn.getD a false) (fun i hi inv next=>?_) 0 (by omega) (fun a h=>absurd h (by omega))
  refine WP.step fun J hJ=>?_
  rw [CE]
  try simp (disch:=first | assumption | omega) only [go_sem]
  refine bK (fun hl=>?_) (fun hl=>hJ _ _ (second fun a k ha hk h=>by rw [← inv a (by omega) k hk]; exact h))
  refine hJ _ _ ?_
  refine WP.up (H:=fun k:Nat=>lU w (i:Int) (k:Int)) 3 (fun k=>∀ b,b < k→(w.nodes.getD i n0).conn.getD b false=(w.nodes.getD b n0).conn.getD i false) (fun k hk inv2 J hJ xj=>?_) 0 (by omega) (fun a h=>absurd h (by omega))
  rw [CF]
  try simp (disch:=first | assumption | omega) only [go_sem]
  refine bK (fun Gx=>?_) (fun Gx=>?_)
  · have ci:=q2 i (by omega)
    have ck:=q2 k (by omega)
    try simp (disch:=first | assumption | omega) only [go_sem]
    refine bK (fun he=>?_) (fun h=>fw fun o=>h (ae3 (by omega) (by omega) o.sy))
    try simp (disch:=first | assumption | omega) only [go_sem]
    exact xj (by omega) (fp inv2 he)
  · try simp (disch:=first | assumption | omega) only [go_sem]
    exact hJ _ _ (next (by omega) (fp inv fun b hb=>inv2 b (by omega)))
@[go_sem] theorem aaG (w:aB) (q0:dg w) (q1:w.nodes.length=3) (q2:∀ i,i < 3→((w.nodes.getD i n0).conn.length:Int)=3) (t:bE Rz):aL 70 [.agg (gU (some true) w)] t=feed t [.bool (CH w)]:=by
  exact bH (r:=.bool (CH w)) (s:=.bool) (ss:=[.undef]) (Iu w q0 q1 q2) (by kernel_rfl) (by simp only [au,bq,aU,bt,bu,af,aj,Bool.and_self]) (by simp only [af,aF,au,aj,Bool.and_self]) (by first | rfl | simp only [aq,aS,aR,bn,bo,aT,bp,Bool.and_self]) (by first | rfl | simp only [List.all_cons,List.all_nil,aq,Bool.and_self]) t
theorem ae4 {l:Int} {xs:List Int} {n:Nat} (e:xs.length=n) (h:∀ k,k < n→xs.getD k 0≤l):∀ x∈xs,x≤l:=by
  intro x hx
  obtain ⟨k,hk,rfl⟩:=List.getElem_of_mem hx
  rw [← ef (d:=0) hk]
  exact h k (by omega)
theorem QC {xs:List Int} (h:j6 xs=true):xs.length=8:=by
  unfold j6 at h
  simp only [Bool.and_eq_true,decide_eq_true_eq] at h
  omega
theorem Kx (w:aB) (q0:dg w):Cm 21 [.agg (dk (some true) w)] (.bool (ki w),[.undef]):=by
  unfold ki
  have b1:=q0.nodes
  have b2:=q0.bV
  have b3:=q0.log
  have b4:=q0.safe
  refine Cm.step Kt [.undef] fun J hJ=>?_
  rw [Ku]
  try simp (disch:=first | assumption | omega) only [go_sem]
  refine bK (fun h3=>?_) (fun h=>fw fun o=>h (by have:=o.ns.len; omega))
  have nl:w.nodes.length=3:=by omega
  try simp (disch:=first | assumption | omega) only [go_sem]
  refine bK (fun h=>fw fun o=>absurd o.log (by omega)) (fun h2=>?_)
  try simp (disch:=first | assumption | omega) only [go_sem]
  refine bK (fun h3=>?_) (fun h=>fw fun o=>h o.gen)
  try simp (disch:=first | assumption | omega) only [go_sem]
  have ae5:(∀ i,i < 3→Kn w i)→(∀ i,i < w.log.length→QB (w.log.getD i r0) i)→WP 21 Tryz.f21 [.undef] 6 (kh w ((0:Nat):Int)) (.bool (pI (Aw w)),[.undef]):=by
    intro nd rc
    refine WP.up (H:=fun i:Nat=>kh w (i:Int)) w.safe.length (fun i=>∀ a,a < i→Y5 w a) (fun i hi inv J hJ next=>?_) 0 (by omega) (fun a h=>absurd h (by omega))
    rw [DE]
    try simp (disch:=first | assumption | omega) only [go_sem]
    refine bK (fun hl=>?_) (fun hl=>?_)
    · try simp (disch:=first | assumption | omega) only [go_sem]
      refine bK (fun hr=>?_) (fun h=>fw fun o=>h (o.sf i (by omega)).wT)
      try simp (disch:=first | assumption | omega) only [go_sem]
      refine bK (fun hp=>?_) (fun hp=>?_)
      · try simp (disch:=first | assumption | omega) only [go_sem]
        rw [show ((i:Int) - 1).toNat=i - 1 by omega]
        refine bK (fun h=>fw fun o=>(o.sf i (by omega)).up hp h) (fun hu=>?_)
        exact next (by omega) (fp inv ⟨hr,fun _=>hu⟩)
      · try simp (disch:=first | assumption | omega) only [go_sem]
        exact next (by omega) (fp inv ⟨hr,fun h=>absurd h hp⟩)
    · have hc:∀ i,i < 3→((w.nodes.getD i n0).conn.length:Int)=3:=fun i hi=>(iN (nd i hi).ok).conn
      try simp (disch:=first | assumption | omega) only [go_sem]
      unfold CH
      rw [ae2 (p:=Y6 w) (q:=Aw w) ⟨fun o=>⟨⟨nl,nd,o.sy⟩,o.bV,by omega,h3,o.wr,rc,fun a ha=>inv a (by omega)⟩,fun o=>⟨o.ns.sy,o.wr,o.bV⟩⟩]
  have Ux:(∀ i,i < 3→Kn w i)→WP 21 Tryz.f21 [.undef] 4 (kg w ((0:Nat):Int)) (.bool (pI (Aw w)),[.undef]):=by
    intro nd
    refine WP.up (H:=fun i:Nat=>kg w (i:Int)) w.log.length (fun i=>∀ a,a < i→QB (w.log.getD a r0) a) (fun i hi inv J hJ next=>?_) 0 (by omega) (fun a h=>absurd h (by omega))
    rw [DD]
    try simp (disch:=first | assumption | omega) only [go_sem]
    refine bK (fun hl=>?_) (fun hl=>hJ _ _ (ae5 nd fun a ha=>inv a (by omega)))
    try simp (disch:=first | assumption | omega) only [go_sem]
    refine bK (fun hr=>?_) (fun h=>fw fun o=>h (o.rc i (by omega)).cell)
    try simp (disch:=first | assumption | omega) only [go_sem]
    refine bK (fun hu=>?_) (fun h=>fw fun o=>h (o.rc i (by omega)).up)
    try simp (disch:=first | assumption | omega) only [go_sem]
    exact next (by omega) (fp inv ⟨hr,hu⟩)
  refine hJ _ _ ?_
  refine WP.upw (H:=fun i:Nat=>mW w (i:Int)) 3 (fun i=>∀ a,a < i→Kn w a) (fun i hi inv next=>?_) 0 (by omega) (fun a h=>absurd h (by omega))
  refine WP.step fun J hJ=>?_
  rw [DB]
  try simp (disch:=first | assumption | omega) only [go_sem]
  refine bK (fun hl=>?_) (fun hl=>hJ _ _ (Ux fun a ha=>inv a (by omega)))
  have oi:=okN q0 (show i < w.nodes.length by omega)
  try simp (disch:=first | assumption | omega) only [go_sem]
  refine bK (fun hd=>?_) (fun h=>fw fun o=>h (o.ns.nd i (by omega)).id)
  try simp (disch:=first | assumption | omega) only [go_sem]
  refine ie (fun hn=>?_) (fun h=>fw fun o=>h (o.ns.nd i (by omega)).ok)
  try simp (disch:=first | assumption | omega) only [go_sem]
  refine bK (fun h=>fw fun o=>absurd (o.ns.nd i (by omega)).last (by omega)) (fun hla=>?_)
  try simp (disch:=first | assumption | omega) only [go_sem]
  have i8:=QC (iN hn).image
  refine hJ _ _ ?_
  refine WP.up (H:=fun k:Nat=>mX w i k _ _ _ _ _ _ _ _ _ _ _ _ _ _ _ _ _ _ _ _ _ _ _ _ _ _ _ _ _ _ _ _ _ _) 8 (fun k=>∀ b,b < k→(w.nodes.getD i n0).image.getD b 0≤w.log.length) (fun k hk inv2 J hJ xj=>?_) 0 (by omega) (fun a h=>absurd h (by omega))
  rw [DC]
  try simp (disch:=first | assumption | omega) only [go_sem]
  refine bK (fun hk8=>?_) (fun hk8=>?_)
  · try simp (disch:=first | assumption | omega) only [go_sem]
    refine bK (fun h=>fw fun o=>absurd ((o.ns.nd i (by omega)).cells _ (Dm (d:=0) (show k < (w.nodes.getD i n0).image.length by omega))) (by omega)) (fun hc=>?_)
    try simp (disch:=first | assumption | omega) only [go_sem]
    exact xj (by omega) (fp inv2 (by omega))
  · try simp (disch:=first | assumption | omega) only [go_sem]
    exact hJ _ _ (next (by omega) (fp inv ⟨hn,hd,by omega,ae4 i8 fun k hk=>inv2 k (by omega)⟩))
@[go_sem] theorem abZ (w:aB) (q0:dg w) (t:bE Rz):aL 21 [.agg (gU (some true) w)] t=feed t [.bool (ki w)]:=by
  exact bH (r:=.bool (ki w)) (s:=.bool) (ss:=[.undef]) (Kx w q0) (by kernel_rfl) (by simp only [au,bq,aU,bt,bu,af,aj,Bool.and_self]) (by simp only [af,aF,au,aj,Bool.and_self]) (by first | rfl | simp only [aq,aS,aR,bn,bo,aT,bp,Bool.and_self]) (by first | rfl | simp only [List.all_cons,List.all_nil,aq,Bool.and_self]) t
end Go.Proofs.YtockoilcnmljiaaGreat
namespace Go.Proofs.YtockoilcnmljiaaGreat
set_option maxRecDepth 100000
section
variable (pr:dA) (cv:Cv Rz) (J:Nat→St→Option Rz)
theorem RA:Told cfg Tryz.prog 26 Tryz.f26:=⟨by kernel_rfl,Tryz.func26,by kernel_rfl⟩
theorem RB (x0:aB) (x1:Int) (x2:Int):aO pr cv J 26 Tryz.f26 [(.agg (dk (some true) x0)),(.int .i64 x1),(.int .i64 x2)]=
    let y1:Option (D × List D):=(some ((.aP [(.int .i64 0),(.int .i64 2)]),[.undef,.undef,.undef]))
    let y2:List D:=(pr.ba (ab (U (some true)) x0.nodes) ((pr.idx 0 x1 16)+3))
    (cv 23 [(.agg [(.sl (some true) 16 x0.nodes.length (ab (U (some true)) x0.nodes)),(.sl (some true) 3 x0.bV.length (ab (bd (some true)) x0.bV)),(.sl (some true) 2 x0.log.length (ab (cD (some true)) x0.log)),(sI (some true) x0.safe),(.int .i64 x0.gen)])] (.bool (fun bR=>(.done (br (br bR false true) y1 (cv 76 [(.int .i64 x1)] (.bool (fun eP=>(.done (br (br eP false true) y1 (cv 77 [(.int .i64 x2)] (.bool (fun iC=>(.done (br (br iC false true) y1 (br (pr.bz x1 x0.nodes.length) (br (br (pr.cI (ab (U (some true)) x0.nodes) ((pr.idx 0 x1 16)+2)) true false) (br (br (pr.bT (ab (U (some true)) x0.nodes) ((pr.idx 0 x1 16)+2)) false true) y1 (br (pr.bz x1 x0.nodes.length) (br (br (pr.bG 1 (ab (U (some true)) x0.nodes) ((pr.idx 0 x1 16)+3)) true false) (br (pr.bz x2 (pr.aZ (ab (U (some true)) x0.nodes) ((pr.idx 0 x1 16)+3))) (br (br (pr.cg .i64 y2 (pr.idx 0 x2 1)) true false) (some ((.aP [(.int .i64 (pr.bm y2 (pr.idx 0 x2 1))),(.int .i64 0)]),[.undef,.undef,.undef])) none) none) none) none)) none) none)))))))))))))))):=by kernel_rfl
theorem RC:Told cfg Tryz.prog 25 Tryz.f25:=⟨by kernel_rfl,Tryz.func25,by kernel_rfl⟩
theorem RD (x0:aB) (x1:Int) (x2:Int):aO pr cv J 25 Tryz.f25 [(.agg (dk (some true) x0)),(.int .i64 x1),(.int .i64 x2)]=
    let y1:Option (D × List D):=(some ((.aP [(.int .i64 0),(.int .i64 2)]),[.undef,.undef,.undef]))
    let y2:List D:=(pr.ba (ab (U (some true)) x0.nodes) ((pr.idx 0 x1 16)+3))
    (cv 21 [(.agg [(.sl (some true) 16 x0.nodes.length (ab (U (some true)) x0.nodes)),(.sl (some true) 3 x0.bV.length (ab (bd (some true)) x0.bV)),(.sl (some true) 2 x0.log.length (ab (cD (some true)) x0.log)),(sI (some true) x0.safe),(.int .i64 x0.gen)])] (.bool (fun bR=>(.done (br (br bR false true) y1 (cv 69 [(.int .i64 x1),(.int .i64 0),(.int .i64 2)] (.bool (fun eP=>(.done (br (br eP false true) y1 (cv 69 [(.int .i64 x2),(.int .i64 0),(.int .i64 7)] (.bool (fun iC=>(.done (br (br iC false true) y1 (br (pr.bz x1 x0.nodes.length) (br (br (pr.cI (ab (U (some true)) x0.nodes) ((pr.idx 0 x1 16)+2)) true false) (br (br (pr.bT (ab (U (some true)) x0.nodes) ((pr.idx 0 x1 16)+2)) false true) y1 (br (pr.bz x1 x0.nodes.length) (br (br (pr.bG 1 (ab (U (some true)) x0.nodes) ((pr.idx 0 x1 16)+3)) true false) (br (pr.bz x2 (pr.aZ (ab (U (some true)) x0.nodes) ((pr.idx 0 x1 16)+3))) (br (br (pr.cg .i64 y2 (pr.idx 0 x2 1)) true false) (some ((.aP [(.int .i64 (pr.bm y2 (pr.idx 0 x2 1))),(.int .i64 0)]),[.undef,.undef,.undef])) none) none) none) none)) none) none)))))))))))))))):=by kernel_rfl
end
open Classical in
noncomputable def ko (w:aB) (a c:Int):Int × Int:=if Aw w∧(0≤a∧a≤2)∧(0≤c∧c≤7)∧(w.nodes.getD a.toNat n0).cn=true then ((w.nodes.getD a.toNat n0).image.getD c.toNat 0,0) else (0,2)
theorem qE {w:aB} {a c:Int} {l:List D} (h:¬(Aw w∧(0≤a∧a≤2)∧(0≤c∧c≤7)∧(w.nodes.getD a.toNat n0).cn=true)):(some ((.aP [.int .i64 0,.int .i64 2],l):Rz))=some (.aP [.int .i64 (ko w a c).1,.int .i64 (ko w a c).2],l):=by
  unfold ko; rw [if_neg h]
theorem QD {w:aB} {a c:Int} {l:List D} (h:Aw w∧(0≤a∧a≤2)∧(0≤c∧c≤7)∧(w.nodes.getD a.toNat n0).cn=true):(some ((.aP [.int .i64 ((w.nodes.getD a.toNat n0).image.getD c.toNat 0),.int .i64 0],l):Rz))=some (.aP [.int .i64 (ko w a c).1,.int .i64 (ko w a c).2],l):=by
  unfold ko; rw [if_pos h]
theorem Iv {w:aB} (h:¬ki w=true):¬Aw w:=fun o=>h (aaF o)
theorem RE (w:aB) (a:Int) (c:Int) (q0:dg w):Cm 26 [.agg (dk (some true) w),.int .i64 a,.int .i64 c] (.aP [.int .i64 ((ko w a c).1),.int .i64 ((ko w a c).2)],[.undef,.undef,.undef]):=by
  refine Cm.step RA [.undef,.undef,.undef] fun J hJ=>?_
  rw [RB]
  try simp (disch:=first | assumption | omega) only [go_sem]
  refine ie (fun h=>?_) (fun h=>qE fun o=>Iv h o.1)
  have o:=yL h
  try simp (disch:=first | assumption | omega) only [go_sem]
  refine bK (fun ha=>?_) (fun h=>qE fun o=>h o.2.1)
  try simp (disch:=first | assumption | omega) only [go_sem]
  refine bK (fun hc=>?_) (fun h=>qE fun o=>h o.2.2.1)
  have nl:=o.ns.len
  have i8:=QC (iN (o.ns.nd a.toNat (by omega)).ok).image
  try simp (disch:=first | assumption | omega) only [go_sem]
  refine ie (fun hp=>?_) (fun h=>qE fun o=>h o.2.2.2)
  try simp (disch:=first | assumption | omega) only [go_sem]
  exact QD ⟨o,ha,hc,hp⟩
@[go_sem] theorem afq (w:aB) (a:Int) (c:Int) (q0:dg w) (t:bE Rz):aL 26 [.agg (gU (some true) w),.int .i64 a,.int .i64 c] t=feed t [.int .i64 ((ko w a c).1),.int .i64 ((ko w a c).2)]:=by
  exact bH (r:=.aP [.int .i64 ((ko w a c).1),.int .i64 ((ko w a c).2)]) (s:=.aP [.int .i64,.int .i64]) (ss:=[.undef,.undef,.undef]) (RE w a c q0) (by kernel_rfl) (by simp only [au,bq,aU,bt,bu,af,aj,Bool.and_self]) (by simp only [af,aF,au,aj,Bool.and_self]) (by first | rfl | simp only [aq,aS,aR,bn,bo,aT,bp,Bool.and_self]) (by first | rfl | simp only [List.all_cons,List.all_nil,aq,Bool.and_self]) t
theorem RF (w:aB) (a:Int) (c:Int) (q0:dg w):Cm 25 [.agg (dk (some true) w),.int .i64 a,.int .i64 c] (.aP [.int .i64 ((ko w a c).1),.int .i64 ((ko w a c).2)],[.undef,.undef,.undef]):=by
  refine Cm.step RC [.undef,.undef,.undef] fun J hJ=>?_
  rw [RD]
  try simp (disch:=first | assumption | omega) only [go_sem]
  refine ie (fun h=>?_) (fun h=>qE fun o=>Iv h o.1)
  have o:=yL h
  try simp (disch:=first | assumption | omega) only [go_sem]
  refine bK (fun ha=>?_) (fun h=>qE fun o=>h o.2.1)
  try simp (disch:=first | assumption | omega) only [go_sem]
  refine bK (fun hc=>?_) (fun h=>qE fun o=>h o.2.2.1)
  have nl:=o.ns.len
  have i8:=QC (iN (o.ns.nd a.toNat (by omega)).ok).image
  try simp (disch:=first | assumption | omega) only [go_sem]
  refine ie (fun hp=>?_) (fun h=>qE fun o=>h o.2.2.2)
  try simp (disch:=first | assumption | omega) only [go_sem]
  exact QD ⟨o,ha,hc,hp⟩
@[go_sem] theorem afr (w:aB) (a:Int) (c:Int) (q0:dg w) (t:bE Rz):aL 25 [.agg (gU (some true) w),.int .i64 a,.int .i64 c] t=feed t [.int .i64 ((ko w a c).1),.int .i64 ((ko w a c).2)]:=by
  exact bH (r:=.aP [.int .i64 ((ko w a c).1),.int .i64 ((ko w a c).2)]) (s:=.aP [.int .i64,.int .i64]) (ss:=[.undef,.undef,.undef]) (RF w a c q0) (by kernel_rfl) (by simp only [au,bq,aU,bt,bu,af,aj,Bool.and_self]) (by simp only [af,aF,au,aj,Bool.and_self]) (by first | rfl | simp only [aq,aS,aR,bn,bo,aT,bp,Bool.and_self]) (by first | rfl | simp only [List.all_cons,List.all_nil,aq,Bool.and_self]) t
end Go.Proofs.YtockoilcnmljiaaGreat
namespace Go.Proofs.YtockoilcnmljiaaGreat
set_option maxRecDepth 100000
section
variable (pr:dA) (cv:Cv Rz) (J:Nat→St→Option Rz)
def ly (x0:aB) (i0:Int) (i1:Int) (n2:Nat) (c3:List D):St:=(St.mk [(3,(.ref 10003 [] 0 none)),(8,(.sl (some true) 16 x0.nodes.length (ab (U (some true)) x0.nodes))),(9,(.int .i64 i0)),(10,(.int .i64 i1))] [(10003,[(.sl none 1 n2 c3)])] [] 0)
theorem M9:Told cfg Tryz.prog 82 Tryz.f82:=⟨by kernel_rfl,Tryz.func82,by kernel_rfl⟩
theorem Na (x0:aB):aO pr cv J 82 Tryz.f82 [(.agg (dk (some true) x0))]=
    (J 0 (ly x0 (pr.aX x0.nodes.length) 0 0 [])):=by kernel_rfl
theorem FP (x0:aB) (i0:Int) (i1:Int) (n2:Nat) (c3:List D):bF pr cv J 82 Tryz.f82 [.undef] 0 (ly x0 i0 i1 n2 c3)=
    (br (pr.lt i1 i0) (br (pr.bz i1 x0.nodes.length) (br (br (pr.cg .i64 (ab (U (some true)) x0.nodes) (pr.idx 0 i1 16)) (br (pr.cI (ab (U (some true)) x0.nodes) ((pr.idx 0 i1 16)+1)) (br (pr.cI (ab (U (some true)) x0.nodes) ((pr.idx 0 i1 16)+2)) (br (pr.bG 1 (ab (U (some true)) x0.nodes) ((pr.idx 0 i1 16)+3)) (br (pr.bG 1 (ab (U (some true)) x0.nodes) ((pr.idx 0 i1 16)+4)) (br (pr.bG 1 (ab (U (some true)) x0.nodes) ((pr.idx 0 i1 16)+5)) (br (pr.cI (ab (U (some true)) x0.nodes) ((pr.idx 0 i1 16)+6)) (br (pr.cI (ab (U (some true)) x0.nodes) ((pr.idx 0 i1 16)+7)) (br (pr.cI (ab (U (some true)) x0.nodes) ((pr.idx 0 i1 16)+8)) (br (pr.cg .i64 (ab (U (some true)) x0.nodes) ((pr.idx 0 i1 16)+9)) (br (pr.bG 1 (ab (U (some true)) x0.nodes) ((pr.idx 0 i1 16)+10)) (br (pr.bG 1 (ab (U (some true)) x0.nodes) ((pr.idx 0 i1 16)+11)) (br (pr.bG 1 (ab (U (some true)) x0.nodes) ((pr.idx 0 i1 16)+12)) (br (pr.bG 1 (ab (U (some true)) x0.nodes) ((pr.idx 0 i1 16)+13)) (br (pr.bG 1 (ab (U (some true)) x0.nodes) ((pr.idx 0 i1 16)+14)) (br (pr.bG 1 (ab (U (some true)) x0.nodes) ((pr.idx 0 i1 16)+15)) true false) false) false) false) false) false) false) false) false) false) false) false) false) false) false) false) (br (pr.bT (ab (U (some true)) x0.nodes) ((pr.idx 0 i1 16)+2)) (br (br (pr.flat [(.int .i64 i1)]) (pr.fits (n2+1) 8) false) (J 0 (ly x0 i0 (pr.ar .add .i64 i1 1) (n2+1) (List.append c3 [(.int .i64 i1)]))) none) (J 0 (ly x0 i0 (pr.ar .add .i64 i1 1) n2 c3))) none) none) (some ((.sl none 1 n2 c3),[.undef]))):=by kernel_rfl
theorem Iw:Told cfg Tryz.prog 28 Tryz.f28:=⟨by kernel_rfl,Tryz.func28,by kernel_rfl⟩
theorem Ix (x0:aB):aO pr cv J 28 Tryz.f28 [(.agg (dk (some true) x0))]=
    let y1:Option (D × List D):=(some ((.bool false),[.undef]))
    (cv 23 [(.agg [(.sl (some true) 16 x0.nodes.length (ab (U (some true)) x0.nodes)),(.sl (some true) 3 x0.bV.length (ab (bd (some true)) x0.bV)),(.sl (some true) 2 x0.log.length (ab (cD (some true)) x0.log)),(sI (some true) x0.safe),(.int .i64 x0.gen)])] (.bool (fun bR=>(.done (br bR (cv 82 [(.agg [(.sl (some true) 16 x0.nodes.length (ab (U (some true)) x0.nodes)),(.sl (some true) 3 x0.bV.length (ab (bd (some true)) x0.bV)),(.sl (some true) 2 x0.log.length (ab (cD (some true)) x0.log)),(sI (some true) x0.safe),(.int .i64 x0.gen)])] (.ty eG.I (fun (fo:List Int)=>(.done (br (pr.le (pr.aX fo.length) 1) (br (pr.bz 0 x0.nodes.length) (br (br (pr.cI (ab (U (some true)) x0.nodes) ((pr.idx 0 0 16)+7)) true false) (br (pr.bT (ab (U (some true)) x0.nodes) ((pr.idx 0 0 16)+7)) (br (pr.bz 1 x0.nodes.length) (br (br (pr.cI (ab (U (some true)) x0.nodes) ((pr.idx 0 1 16)+7)) true false) (some ((.bool (br (pr.bT (ab (U (some true)) x0.nodes) ((pr.idx 0 1 16)+7)) false true)),[.undef])) none) none) (some ((.bool true),[.undef]))) none) none) y1))))) y1))))):=by kernel_rfl
def lV (x0:aB) (i0:Int) (i1:Int):St:=(St.mk [(1,(.ptr 1 [] 0)),(3,(.int .i64 i0)),(4,(.int .i64 i1))] [(1,[(.sl (some true) 16 x0.nodes.length (ab (U (some true)) x0.nodes)),(.sl (some true) 3 x0.bV.length (ab (bd (some true)) x0.bV)),(.sl (some true) 2 x0.log.length (ab (cD (some true)) x0.log)),(sI (some true) x0.safe),(.int .i64 x0.gen)])] [] 0)
theorem Iy:Told cfg Tryz.prog 27 Tryz.f27:=⟨by kernel_rfl,Tryz.func27,by kernel_rfl⟩
theorem Iz (x0:aB):aO pr cv J 27 Tryz.f27 [(.agg (dk (some true) x0))]=
    (cv 21 [(.agg [(.sl (some true) 16 x0.nodes.length (ab (U (some true)) x0.nodes)),(.sl (some true) 3 x0.bV.length (ab (bd (some true)) x0.bV)),(.sl (some true) 2 x0.log.length (ab (cD (some true)) x0.log)),(sI (some true) x0.safe),(.int .i64 x0.gen)])] (.bool (fun bR=>(.done (br (br bR false true) (some ((.bool false),[.undef])) (J 0 (lV x0 0 0))))))):=by kernel_rfl
theorem CI (x0:aB) (i0:Int) (i1:Int):bF pr cv J 27 Tryz.f27 [.undef] 0 (lV x0 i0 i1)=
    (br (pr.lt i1 3) (br (pr.bz i1 x0.nodes.length) (br (br (pr.cI (ab (U (some true)) x0.nodes) ((pr.idx 0 i1 16)+2)) true false) (cv 81 [(.bool (pr.bT (ab (U (some true)) x0.nodes) ((pr.idx 0 i1 16)+2)))] (.int (fun dm=>(.done (J 0 (lV x0 (pr.ar .add .i64 i0 dm) (pr.ar .add .i64 i1 1))))))) none) none) (br (pr.le i0 1) (br (pr.bz 0 x0.nodes.length) (br (br (pr.cI (ab (U (some true)) x0.nodes) ((pr.idx 0 0 16)+7)) true false) (br (pr.bT (ab (U (some true)) x0.nodes) ((pr.idx 0 0 16)+7)) (br (pr.bz 1 x0.nodes.length) (br (br (pr.cI (ab (U (some true)) x0.nodes) ((pr.idx 0 1 16)+7)) true false) (some ((.bool (br (pr.bT (ab (U (some true)) x0.nodes) ((pr.idx 0 1 16)+7)) false true)),[.undef])) none) none) (some ((.bool true),[.undef]))) none) none) (some ((.bool false),[.undef])))):=by kernel_rfl
end
attribute [go_sem] SM
def ga (w:aB):Nat→List Int
  | 0=>[]
  | i+1=>if (w.nodes.getD i n0).cn=true then ga w i++[(i:Int)] else ga w i
theorem Lw {w:aB} {i:Nat} (h:(w.nodes.getD i n0).cn=true):ga w (i+1)=ga w i++[(i:Int)]:=by
  show (if _ then _ else _)=_
  rw [if_pos h]
theorem Lx {w:aB} {i:Nat} (h:¬(w.nodes.getD i n0).cn=true):ga w (i+1)=ga w i:=by
  show (if _ then _ else _)=_
  rw [if_neg h]
theorem xJ (w:aB):∀ i,(ga w i).length≤i
  | 0=>by simp [ga]
  | i+1=>by
    have:=xJ w i
    unfold ga
    split
    · simp; omega
    · omega
theorem Nb (w:aB) (q0:dg w):Cm 82 [.agg (dk (some true) w)] (sI none (ga w w.nodes.length),[.undef]):=by
  have b1:=q0.nodes
  refine Cm.step M9 [.undef] fun J hJ=>?_
  rw [Na]
  try simp (disch:=first | assumption | omega) only [go_sem]
  refine hJ _ _ ?_
  refine WP.up (H:=fun i:Nat=>ly w w.nodes.length (i:Int) (ga w i).length (ints (ga w i))) w.nodes.length (fun _=>True) (fun i hi _ J hJ next=>?_) 0 (by omega) trivial
  rw [FP]
  have bl:=xJ w i
  try simp (disch:=first | assumption | omega) only [go_sem]
  refine bK (fun hl=>?_) (fun hl=>?_)
  · have next:=next (by omega) trivial
    try simp (disch:=first | assumption | omega) only [go_sem]
    refine ie (fun hp=>?_) (fun hp=>?_)
    · rw [Lw hp,List.length_append] at next
      try simp (disch:=first | assumption | omega) only [go_sem]
      exact next
    · rw [Lx hp] at next
      try simp (disch:=first | assumption | omega) only [go_sem]
      exact next
  · rw [show i=w.nodes.length by omega]
@[go_sem] theorem acq (w:aB) (q0:dg w) (t:bE Rz):aL 82 [.agg (gU (some true) w)] t=feed t [enc .I (ga w w.nodes.length)]:=by
  exact bH (r:=enc .I (ga w w.nodes.length)) (s:=.ty .I) (ss:=[.undef]) (Nb w q0) (by kernel_rfl) (by simp only [au,bq,aU,bt,bu,af,aj,Bool.and_self]) (by simp only [af,aF,au,aj,Bool.and_self]) (by first | rfl | simp only [aq,aS,aR,bn,bo,aT,bp,Bool.and_self]) (by first | rfl | simp only [List.all_cons,List.all_nil,aq,Bool.and_self]) t
noncomputable def mE (w:aB):Bool:=ki w&&(decide (((ga w 3).length:Int)≤1)&&!((w.nodes.getD 0 n0).mt.bO&&(w.nodes.getD 1 n0).mt.bO))
theorem IA (w:aB) (q0:dg w):Cm 28 [.agg (dk (some true) w)] (.bool (mE w),[.undef]):=by
  unfold mE
  refine Cm.step Iw [.undef] fun J hJ=>?_
  rw [Ix]
  try simp (disch:=first | assumption | omega) only [go_sem]
  refine nC fun h=>?_
  have o:=yL h
  have nl:=o.ns.len
  rw [show ga w 3=ga w w.nodes.length by rw [nl]]
  try simp (disch:=first | assumption | omega) only [go_sem]
  refine nC fun _=>?_
  try simp (disch:=first | assumption | omega) only [go_sem]
  cases (w.nodes.getD 0 n0).mt.bO with
  | true=>
    try simp (disch:=first | assumption | omega) only [go_sem]
    rfl
  | false=>rfl
@[go_sem] theorem aaH (w:aB) (q0:dg w) (t:bE Rz):aL 28 [.agg (gU (some true) w)] t=feed t [.bool (mE w)]:=by
  exact bH (r:=.bool (mE w)) (s:=.bool) (ss:=[.undef]) (IA w q0) (by kernel_rfl) (by simp only [au,bq,aU,bt,bu,af,aj,Bool.and_self]) (by simp only [af,aF,au,aj,Bool.and_self]) (by first | rfl | simp only [aq,aS,aR,bn,bo,aT,bp,Bool.and_self]) (by first | rfl | simp only [List.all_cons,List.all_nil,aq,Bool.and_self]) t
theorem IB (w:aB) (q0:dg w):Cm 27 [.agg (dk (some true) w)] (.bool (mE w),[.undef]):=by
  unfold mE
  refine Cm.step Iy [.undef] fun J hJ=>?_
  rw [Iz]
  try simp (disch:=first | assumption | omega) only [go_sem]
  refine ie (fun h=>?_) (fun h=>by rw [(Bool.not_eq_true _).mp h]; rfl)
  have o:=yL h
  have nl:=o.ns.len
  refine hJ _ _ ?_
  refine WP.up (H:=fun i:Nat=>lV w ((ga w i).length:Int) (i:Int)) 3 (fun _=>True) (fun i hi _ J hJ next=>?_) 0 (by omega) trivial
  rw [CI]
  have bl:=xJ w i
  try simp (disch:=first | assumption | omega) only [go_sem]
  refine bK (fun hl=>?_) (fun hl=>?_)
  · have next:=next (by omega) trivial
    try simp (disch:=first | assumption | omega) only [go_sem]
    by_cases hp:(w.nodes.getD i n0).cn=true
    · rw [Lw hp,List.length_append] at next
      rw [hp]
      unfold qc
      try simp (disch:=first | assumption | omega) only [go_sem]
      exact next
    · rw [Lx hp] at next
      rw [(Bool.not_eq_true _).mp hp]
      unfold qc
      try simp (disch:=first | assumption | omega) only [go_sem]
      exact next
  · rw [show i=3 by omega]
    rw [h]
    try simp (disch:=first | assumption | omega) only [go_sem]
    refine bK (fun hc=>?_) (fun hc=>?_)
    · rw [decide_eq_true hc]
      try simp (disch:=first | assumption | omega) only [go_sem]
      cases (w.nodes.getD 0 n0).mt.bO with
      | true=>
        try simp (disch:=first | assumption | omega) only [go_sem]
        rfl
      | false=>rfl
    · rw [decide_eq_false hc]
      rfl
@[go_sem] theorem aaI (w:aB) (q0:dg w) (t:bE Rz):aL 27 [.agg (gU (some true) w)] t=feed t [.bool (mE w)]:=by
  exact bH (r:=.bool (mE w)) (s:=.bool) (ss:=[.undef]) (IB w q0) (by kernel_rfl) (by simp only [au,bq,aU,bt,bu,af,aj,Bool.and_self]) (by simp only [af,aF,au,aj,Bool.and_self]) (by first | rfl | simp only [aq,aS,aR,bn,bo,aT,bp,Bool.and_self]) (by first | rfl | simp only [List.all_cons,List.all_nil,aq,Bool.and_self]) t
end Go.Proofs.YtockoilcnmljiaaGreat
namespace Go.Proofs.YtockoilcnmljiaaGreat
set_option maxRecDepth 100000
def lz (w:aB) (n:Int):List Int:=(jE w.log w.log.length n).reverse
theorem Ly (w:aB) (n:Int) (h:n≤w.log.length):(lz w n).length≤w.log.length:=by
  have:=SF (log:=w.log) w.log.length n
  unfold lz
  rw [List.length_reverse]
  omega
theorem QE (w:aB) (n:Int) (ok:dg w):Cm 89 [.agg (dk (some true) w),.int .i64 n] (sI none (lz w n),[.undef,.undef]):=PV true w ok n
theorem QF (w:aB) (n:Int) (ok:dg w):Cm 87 [.agg (dk (some true) w),.int .i64 n] (sI none (lz w n),[.undef,.undef]):=PU true w ok n
@[go_sem] theorem ae6 (w:aB) (n:Int) (q0:dg w) (t:bE Rz):aL 89 [.agg (gU (some true) w),.int .i64 n] t=feed t [enc .I (lz w n)]:=by
  exact bH (r:=enc .I (lz w n)) (s:=.ty .I) (ss:=[.undef,.undef]) (QE w n q0) (by kernel_rfl) (by simp only [au,bq,aU,bt,bu,af,aj,Bool.and_self]) (by simp only [af,aF,au,aj,Bool.and_self]) (by first | rfl | simp only [aq,aS,aR,bn,bo,aT,bp,Bool.and_self]) (by first | rfl | simp only [List.all_cons,List.all_nil,aq,Bool.and_self]) t
@[go_sem] theorem ae7 (w:aB) (n:Int) (q0:dg w) (t:bE Rz):aL 87 [.agg (gU (some true) w),.int .i64 n] t=feed t [enc .I (lz w n)]:=by
  exact bH (r:=enc .I (lz w n)) (s:=.ty .I) (ss:=[.undef,.undef]) (QF w n q0) (by kernel_rfl) (by simp only [au,bq,aU,bt,bu,af,aj,Bool.and_self]) (by simp only [af,aF,au,aj,Bool.and_self]) (by first | rfl | simp only [aq,aS,aR,bn,bo,aT,bp,Bool.and_self]) (by first | rfl | simp only [List.all_cons,List.all_nil,aq,Bool.and_self]) t
section
variable (g:Bool) (n:Nat) (c:List D)
@[go_sem] theorem aoC:ad.bG 1 [.sl (some g) 1 n c] 0=true:=rfl
@[go_sem] theorem aoD:ad.bD [.sl (some g) 1 n c] 0=g:=rfl
@[go_sem] theorem aoE:ad.aZ [.sl (some g) 1 n c] 0=n:=rfl
@[go_sem] theorem aoF:ad.ba [.sl (some g) 1 n c] 0=c:=rfl
end
theorem Lz {α:Type} {e:α→List D} {k:Nat} (h:∀ x,(e x).length=k):∀ (xs:List α) (n:Nat),List.take (Nat.mul n k) (ab e xs)=ab e (xs.take n)
  | [],n=>by simp [ab]
  | x::xs,0=>by show List.take (0*k) _=_; simp [ab]
  | x::xs,n+1=>by
    have e1:ab e (x::xs)=e x++ab e xs:=by simp [ab]
    have e2:ab e ((x::xs).take (n+1))=e x++ab e (xs.take n):=by simp [ab]
    rw [e1,e2,List.take_append]
    have e3:Nat.mul (n+1) k=n*k+k:=Nat.succ_mul n k
    rw [e3,h x,List.take_of_length_le (by rw [h x]; omega),show n*k+k - k=Nat.mul n k by show _=n*k; omega,Lz h xs n]
@[go_sem] theorem takeN (g:Option Bool) (xs:List ae) (n:Nat):List.take (Nat.mul n 16) (ab (U g) xs)=ab (U g) (xs.take n):=Lz (e:=U g) (fun _=>rfl) xs n
attribute [go_sem] List.drop_zero
@[go_sem] theorem getD_take {α:Type} {xs:List α} {m i:Nat} {d:α} (h:i < m):(xs.take m).getD i d=xs.getD i d:=by
  rw [List.getD_eq_getElem?_getD,List.getD_eq_getElem?_getD,List.getElem?_take_of_lt h]
section
variable (pr:dA) (cv:Cv Rz) (J:Nat→St→Option Rz)
def eU (g:Bool) (xs:List Int) (c0:List D) (n1:Nat) (i2:Int) (i3:Int):St:=(St.mk [(0,(sI (some g) xs)),(1,(.fn 129 [(.cJ c0 n1)])),(7,(.int .i64 i2)),(8,(.int .i64 i3))] [] [] 0)
theorem qF:Told cfg Tryz.prog 150 Tryz.f150:=⟨by kernel_rfl,Tryz.func150,by kernel_rfl⟩
theorem qG (u0:List D) (v0:Nat) (g:Bool) (xs:List Int):aO pr cv J 150 Tryz.f150 [(sI (some g) xs),(.fn 129 [(.cJ u0 v0)])]=
    (J 0 (eU g xs u0 v0 (pr.aX xs.length) 0)):=by kernel_rfl
theorem js (g:Bool) (xs:List Int) (c0:List D) (n1:Nat) (i2:Int) (i3:Int):bF pr cv J 150 Tryz.f150 [.undef,.undef] 0 (eU g xs c0 n1 i2 i3)=
    (br (pr.lt i3 i2) (br (pr.bz i3 xs.length) (br (br (pr.cg .i64 (ints xs) (pr.idx 0 i3 1)) true false) (cv 129 [(.int .i64 (pr.bm (ints xs) (pr.idx 0 i3 1))),(.cJ c0 n1)] (.bool (fun bR=>(.done (br bR (some ((.int .i64 i3),[.undef,.undef])) (J 0 (eU g xs c0 n1 i2 (pr.ar .add .i64 i3 1)))))))) none) none) (some ((.int .i64 (-1)),[.undef,.undef]))):=by kernel_rfl
theorem pe:Told cfg Tryz.prog 124 Tryz.f124:=⟨by kernel_rfl,Tryz.func124,by kernel_rfl⟩
theorem pf (u0:List D) (v0:Nat) (g:Bool) (xs:List Int):aO pr cv J 124 Tryz.f124 [(sI (some g) xs),(.fn 129 [(.cJ u0 v0)])]=
    (cv 150 [(sI (some g) xs),(.fn 129 [(.cJ u0 v0)])] (.int (fun dm=>(.done (some ((.bool (pr.le 0 dm)),[.undef,.undef])))))):=by kernel_rfl
end
theorem Nc (u0:List D) (v0:Nat) (g:Bool) (xs:List Int) (p:Int→Bool) (hb:xs.length < 4611686018427387904) (hc:∀ i,i < xs.length→∀ t:bE Rz,aL 129 [.int .i64 (xs.getD i 0),.cJ u0 v0] t=feed t [.bool (p (xs.getD i 0))]):Cm 150 [.sl (some g) 1 xs.length (ints xs),.fn 129 [.cJ u0 v0]] (.int .i64 (wA p xs),[.undef,.undef]):=by
  refine Cm.step qF [.undef,.undef] fun J hJ=>?_
  rw [qG]
  refine hJ _ _ ?_
  refine QA (d:=0) (H:=fun i=>eU g xs u0 v0 xs.length (i:Nat)) (fun i hi J=>?_) (fun J=>?_)
  · rw [js]
    simp (disch:=first | assumption | omega) only [go_sem,hc i hi]
    cases p (xs.getD i 0) with
    | true=>rfl
    | false=>
      simp (disch:=first | assumption | omega) only [go_sem]
      rfl
  · rw [js]
    simp (disch:=first | assumption | omega) only [go_sem]
theorem FQ (u0:List D) (v0:Nat) (g:Bool) (xs:List Int) (p:Int→Bool) (hb:xs.length < 4611686018427387904) (hc:∀ i,i < xs.length→∀ t:bE Rz,aL 129 [.int .i64 (xs.getD i 0),.cJ u0 v0] t=feed t [.bool (p (xs.getD i 0))]):Cm 124 [.sl (some g) 1 xs.length (ints xs),.fn 129 [.cJ u0 v0]] (.bool (xs.any p),[.undef,.undef]):=by
  refine Cm.step pe [.undef,.undef] fun J hJ=>?_
  rw [pf]
  have:=aW (Nc u0 v0 g xs p hb hc) (by kernel_rfl)
  rw [this]
  show some ((.bool (decide (0≤wA p xs)),[.undef,.undef]):Rz)=_
  rw [SU]
section
variable (pr:dA) (cv:Cv Rz) (J:Nat→St→Option Rz)
theorem IC:Told cfg Tryz.prog 129 Tryz.f129:=⟨by kernel_rfl,Tryz.func129,by kernel_rfl⟩
theorem ID (ys:List Int) (g:Bool) (a:Int):aO pr cv J 129 Tryz.f129 [(.int .i64 a),(.cJ [(sI (some g) ys)] 0)]=
    (br (br (pr.bG 1 [(sI (some g) ys)] 0) true false) (cv 86 [(.sl (some (pr.bD [(sI (some g) ys)] 0)) 1 (pr.aZ [(sI (some g) ys)] 0) (pr.ba [(sI (some g) ys)] 0)),(.int .i64 a)] (.bool (fun bR=>(.done (some ((.bool (br bR false true)),[.undef,.undef])))))) none):=by kernel_rfl
theorem Nd:Told cfg Tryz.prog 88 Tryz.f88:=⟨by kernel_rfl,Tryz.func88,by kernel_rfl⟩
theorem Nf (x0:List Int) (x1:List Int):aO pr cv J 88 Tryz.f88 [(sI (some true) x0),(sI (some true) x1)]=
    (cv 124 [(sI (some true) x0),(.fn 129 [(.cJ [(sI (some true) x1)] 0)])] (.bool (fun bR=>(.done (some ((.bool (br bR false true)),[.undef,.undef])))))):=by kernel_rfl
def iO (x0:aB) (n0:Nat) (c1:List D) (i2:Int) (i3:Int):St:=(St.mk [(1,(.ptr 1 [] 0)),(11,(.sl (some true) 16 n0 c1)),(12,(.int .i64 i2)),(13,(.int .i64 i3))] [(1,[(.sl (some true) 16 x0.nodes.length (ab (U (some true)) x0.nodes)),(.sl (some true) 3 x0.bV.length (ab (bd (some true)) x0.bV)),(.sl (some true) 2 x0.log.length (ab (cD (some true)) x0.log)),(sI (some true) x0.safe),(.int .i64 x0.gen)])] [] 0)
theorem FR:Told cfg Tryz.prog 32 Tryz.f32:=⟨by kernel_rfl,Tryz.func32,by kernel_rfl⟩
theorem FT (x0:aB):aO pr cv J 32 Tryz.f32 [(.agg (dk (some true) x0))]=
    (cv 23 [(.agg [(.sl (some true) 16 x0.nodes.length (ab (U (some true)) x0.nodes)),(.sl (some true) 3 x0.bV.length (ab (bd (some true)) x0.bV)),(.sl (some true) 2 x0.log.length (ab (cD (some true)) x0.log)),(sI (some true) x0.safe),(.int .i64 x0.gen)])] (.bool (fun bR=>(.done (br (br bR false true) (some ((.bool false),[.undef])) (br (pr.wT 0 2 x0.nodes.length) (J 0 (iO x0 (pr.pV 2 0) (List.take (Nat.mul (pr.pV 2 0) 16) (List.drop (Nat.mul (pr.jk 0) 16) (ab (U (some true)) x0.nodes))) (pr.aX (pr.pV 2 0)) 0)) none)))))):=by kernel_rfl
theorem Ay (x0:aB) (n0:Nat) (c1:List D) (i2:Int) (i3:Int):bF pr cv J 32 Tryz.f32 [.undef] 0 (iO x0 n0 c1 i2 i3)=
    let y1:Option Rz:=(J 0 (iO x0 n0 c1 i2 (pr.ar .add .i64 i3 1)))
    let y2:Option Rz:=(cv 89 [(.agg [(.sl (some true) 16 x0.nodes.length (ab (U (some true)) x0.nodes)),(.sl (some true) 3 x0.bV.length (ab (bd (some true)) x0.bV)),(.sl (some true) 2 x0.log.length (ab (cD (some true)) x0.log)),(sI (some true) x0.safe),(.int .i64 x0.gen)]),(.int .i64 (pr.bm c1 ((pr.idx 0 i3 16)+9)))] (.ty eG.I (fun (ax:List Int)=>(.done (cv 88 [(sI (some true) x0.safe),(iB true (sI none ax))] (.bool (fun eP=>(.done (br (br eP false true) (some ((.bool false),[.undef])) y1)))))))))
    (br (pr.lt i3 i2) (br (pr.bz i3 n0) (br (br (pr.cg .i64 c1 (pr.idx 0 i3 16)) (br (pr.cI c1 ((pr.idx 0 i3 16)+1)) (br (pr.cI c1 ((pr.idx 0 i3 16)+2)) (br (pr.bG 1 c1 ((pr.idx 0 i3 16)+3)) (br (pr.bG 1 c1 ((pr.idx 0 i3 16)+4)) (br (pr.bG 1 c1 ((pr.idx 0 i3 16)+5)) (br (pr.cI c1 ((pr.idx 0 i3 16)+6)) (br (pr.cI c1 ((pr.idx 0 i3 16)+7)) (br (pr.cI c1 ((pr.idx 0 i3 16)+8)) (br (pr.cg .i64 c1 ((pr.idx 0 i3 16)+9)) (br (pr.bG 1 c1 ((pr.idx 0 i3 16)+10)) (br (pr.bG 1 c1 ((pr.idx 0 i3 16)+11)) (br (pr.bG 1 c1 ((pr.idx 0 i3 16)+12)) (br (pr.bG 1 c1 ((pr.idx 0 i3 16)+13)) (br (pr.bG 1 c1 ((pr.idx 0 i3 16)+14)) (br (pr.bG 1 c1 ((pr.idx 0 i3 16)+15)) true false) false) false) false) false) false) false) false) false) false) false) false) false) false) false) false) (br (pr.bT c1 ((pr.idx 0 i3 16)+2)) y2 (br (pr.bT c1 ((pr.idx 0 i3 16)+6)) (br (br (pr.bT c1 ((pr.idx 0 i3 16)+7)) false true) (br (pr.bT c1 ((pr.idx 0 i3 16)+8)) y2 y1) y1) y1)) none) none) (some ((.bool true),[.undef]))):=by kernel_rfl
def gE (x0:aB) (i0:Int):St:=(St.mk [(1,(.ptr 1 [] 0)),(3,(.int .i64 i0))] [(1,[(.sl (some true) 16 x0.nodes.length (ab (U (some true)) x0.nodes)),(.sl (some true) 3 x0.bV.length (ab (bd (some true)) x0.bV)),(.sl (some true) 2 x0.log.length (ab (cD (some true)) x0.log)),(sI (some true) x0.safe),(.int .i64 x0.gen)])] [] 0)
def iP (x0:aB) (i0:Int) (i1:Int) (n2:Nat) (c3:List D):St:=(St.mk [(1,(.ptr 1 [] 0)),(3,(.int .i64 i0)),(5,(.ref 10005 [] 0 none)),(6,(.int .i64 i1))] [(1,[(.sl (some true) 16 x0.nodes.length (ab (U (some true)) x0.nodes)),(.sl (some true) 3 x0.bV.length (ab (bd (some true)) x0.bV)),(.sl (some true) 2 x0.log.length (ab (cD (some true)) x0.log)),(sI (some true) x0.safe),(.int .i64 x0.gen)]),(10005,[(.sl none 1 n2 c3)])] [] 0)
theorem FU:Told cfg Tryz.prog 31 Tryz.f31:=⟨by kernel_rfl,Tryz.func31,by kernel_rfl⟩
theorem FV (x0:aB):aO pr cv J 31 Tryz.f31 [(.agg (dk (some true) x0))]=
    (cv 21 [(.agg [(.sl (some true) 16 x0.nodes.length (ab (U (some true)) x0.nodes)),(.sl (some true) 3 x0.bV.length (ab (bd (some true)) x0.bV)),(.sl (some true) 2 x0.log.length (ab (cD (some true)) x0.log)),(sI (some true) x0.safe),(.int .i64 x0.gen)])] (.bool (fun bR=>(.done (br (br bR false true) (some ((.bool false),[.undef])) (J 0 (gE x0 0))))))):=by kernel_rfl
theorem Az (x0:aB) (i0:Int):bF pr cv J 31 Tryz.f31 [.undef] 0 (gE x0 i0)=
    let y1:Option Rz:=(J 0 (gE x0 (pr.ar .add .i64 i0 1)))
    let y2:Option Rz:=(cv 87 [(.agg [(.sl (some true) 16 x0.nodes.length (ab (U (some true)) x0.nodes)),(.sl (some true) 3 x0.bV.length (ab (bd (some true)) x0.bV)),(.sl (some true) 2 x0.log.length (ab (cD (some true)) x0.log)),(sI (some true) x0.safe),(.int .i64 x0.gen)]),(.int .i64 (pr.bm (ab (U (some true)) x0.nodes) ((pr.idx 0 i0 16)+9)))] (.ty eG.I (fun (ax:List Int)=>(.done (J 2 (iP x0 i0 0 ax.length (ints ax)))))))
    (br (pr.lt i0 2) (br (pr.bz i0 x0.nodes.length) (br (br (pr.cg .i64 (ab (U (some true)) x0.nodes) (pr.idx 0 i0 16)) (br (pr.cI (ab (U (some true)) x0.nodes) ((pr.idx 0 i0 16)+1)) (br (pr.cI (ab (U (some true)) x0.nodes) ((pr.idx 0 i0 16)+2)) (br (pr.bG 1 (ab (U (some true)) x0.nodes) ((pr.idx 0 i0 16)+3)) (br (pr.bG 1 (ab (U (some true)) x0.nodes) ((pr.idx 0 i0 16)+4)) (br (pr.bG 1 (ab (U (some true)) x0.nodes) ((pr.idx 0 i0 16)+5)) (br (pr.cI (ab (U (some true)) x0.nodes) ((pr.idx 0 i0 16)+6)) (br (pr.cI (ab (U (some true)) x0.nodes) ((pr.idx 0 i0 16)+7)) (br (pr.cI (ab (U (some true)) x0.nodes) ((pr.idx 0 i0 16)+8)) (br (pr.cg .i64 (ab (U (some true)) x0.nodes) ((pr.idx 0 i0 16)+9)) (br (pr.bG 1 (ab (U (some true)) x0.nodes) ((pr.idx 0 i0 16)+10)) (br (pr.bG 1 (ab (U (some true)) x0.nodes) ((pr.idx 0 i0 16)+11)) (br (pr.bG 1 (ab (U (some true)) x0.nodes) ((pr.idx 0 i0 16)+12)) (br (pr.bG 1 (ab (U (some true)) x0.nodes) ((pr.idx 0 i0 16)+13)) (br (pr.bG 1 (ab (U (some true)) x0.nodes) ((pr.idx 0 i0 16)+14)) (br (pr.bG 1 (ab (U (some true)) x0.nodes) ((pr.idx 0 i0 16)+15)) true false) false) false) false) false) false) false) false) false) false) false) false) false) false) false) false) (br (br (pr.bT (ab (U (some true)) x0.nodes) ((pr.idx 0 i0 16)+2)) false true) (br (pr.bT (ab (U (some true)) x0.nodes) ((pr.idx 0 i0 16)+6)) (br (br (pr.bT (ab (U (some true)) x0.nodes) ((pr.idx 0 i0 16)+7)) false true) (br (br (pr.bT (ab (U (some true)) x0.nodes) ((pr.idx 0 i0 16)+8)) false true) y1 y2) y1) y1) y2) none) none) (some ((.bool true),[.undef]))):=by kernel_rfl
theorem AA (x0:aB) (i0:Int) (i1:Int) (n2:Nat) (c3:List D):bF pr cv J 31 Tryz.f31 [.undef] 2 (iP x0 i0 i1 n2 c3)=
    (br (pr.lt i1 (pr.aX x0.safe.length)) (br (pr.bz i1 x0.safe.length) (br (br (pr.cg .i64 (ints x0.safe) (pr.idx 0 i1 1)) true false) (cv 84 [(.sl (some true) 1 n2 (cu true c3)),(.int .i64 (pr.bm (ints x0.safe) (pr.idx 0 i1 1)))] (.bool (fun bR=>(.done (br (br bR false true) (some ((.bool false),[.undef])) (J 2 (iP x0 i0 (pr.ar .add .i64 i1 1) n2 c3))))))) none) none) (J 0 (gE x0 (pr.ar .add .i64 i0 1)))):=by kernel_rfl
end
theorem IE (ys:List Int) (a:Int) (h:ys.length < 4611686018427387904):Cm 129 [.int .i64 a,.cJ [sI (some true) ys] 0] (.bool (!decide (a∈ys)),[.undef,.undef]):=by
  refine Cm.step IC [.undef,.undef] fun J hJ=>?_
  rw [ID]
  simp (disch:=first | assumption | omega) only [go_sem]
  cases decide (a∈ys)<;>rfl
@[go_sem] theorem Y7 (ys:List Int) (g:Bool) (m n:Nat) (xs:List Int) (hn:n=xs.length) (hm:m=ys.length) (hb:xs.length < 4611686018427387904) (h:ys.length < 4611686018427387904) (t:bE Rz):aL 124 [.sl (some g) 1 n (ints xs),.fn 129 [.cJ [.sl (some true) 1 m (ints ys)] 0]] t=feed t [.bool (xs.any fun a=>!decide (a∈ys))]:=by
  subst hn
  subst hm
  exact aW (FQ _ _ g xs _ hb fun i hi t=>aW (IE ys _ h) (by kernel_rfl) t) (by kernel_rfl) t
def sV (xs ys:List Int):Bool:=xs.all fun a=>decide (a∈ys)
theorem uS {xs ys:List Int}:sV xs ys=true↔∀ x∈xs,x∈ys:=by simp [sV]
theorem Ng (xs:List Int) (ys:List Int) (q0:xs.length < 4611686018427387904) (q1:ys.length < 4611686018427387904):Cm 88 [sI (some true) xs,sI (some true) ys] (.bool (sV xs ys),[.undef,.undef]):=by
  refine Cm.step Nd [.undef,.undef] fun J hJ=>?_
  rw [Nf]
  simp (disch:=first | assumption | omega) only [go_sem]
  rw [show sV xs ys=!(xs.any fun a=>!decide (a∈ys)) by simp [sV,List.all_eq_not_any_not]]
  cases xs.any fun a=>!decide (a∈ys)<;>rfl
@[go_sem] theorem acr (Lv:Nat) (xs:List Int) (ys0:Nat) (ys:List Int) (e0:Lv=xs.length) (e1:ys0=ys.length) (q0:xs.length < 4611686018427387904) (q1:ys.length < 4611686018427387904) (t:bE Rz):aL 88 [.sl (some true) 1 Lv (ints xs),.sl (some true) 1 ys0 (ints ys)] t=feed t [.bool (sV xs ys)]:=by
  subst e0
  subst e1
  exact bH (r:=.bool (sV xs ys)) (s:=.bool) (ss:=[.undef,.undef]) (Ng xs ys q0 q1) (by kernel_rfl) (by simp only [au,bq,aU,bt,bu,af,aj,Bool.and_self]) (by simp only [af,aF,au,aj,Bool.and_self]) (by first | rfl | simp only [aq,aS,aR,bn,bo,aT,bp,Bool.and_self]) (by first | rfl | simp only [List.all_cons,List.all_nil,aq,Bool.and_self]) t
def ia (n:ae):Bool:=n.cn||(n.mt.cK&&(!n.mt.bO&&n.mt.held))
section
variable {n:ae}
theorem ld1 (hp:n.cn=true):ia n=true:=by simp [ia,hp]
theorem ld2 (hf:n.mt.cK=true) (ho:¬n.mt.bO=true) (hh:n.mt.held=true):ia n=true:=by simp [ia,hf,ho,hh]
theorem ln1 (hp:¬n.cn=true) (ho:n.mt.bO=true):¬ia n=true:=by simp [ia,hp,ho]
theorem ln2 (hp:¬n.cn=true) (hh:¬n.mt.held=true):¬ia n=true:=by simp [ia,hp,hh]
theorem ln3 (hp:¬n.cn=true) (hf:¬n.mt.cK=true):¬ia n=true:=by simp [ia,hp,hf]
end
def QG (w:aB) (i:Nat):Prop:=ia (w.nodes.getD i n0)=true→∀ x∈w.safe,x∈lz w (w.nodes.getD i n0).mt.last
structure NC (w:aB):Prop where
  ok:Aw w
  all:∀ i,i < 2→QG w i
noncomputable def lA (w:aB):Bool:=pI (NC w)
theorem FW (w:aB) (q0:dg w):Cm 32 [.agg (dk (some true) w)] (.bool (lA w),[.undef]):=by
  unfold lA
  have b3:=q0.log
  have b4:=q0.safe
  refine Cm.step FR [.undef] fun J hJ=>?_
  rw [FT]
  try simp (disch:=first | assumption | omega) only [go_sem]
  refine ie (fun h=>?_) (fun h=>fw fun o=>Iv h o.ok)
  have o:=yL h
  have nl:=o.ns.len
  have tl:(w.nodes.take 2).length=2:=by rw [List.length_take]; omega
  try simp (disch:=first | assumption | omega) only [go_sem]
  refine hJ _ _ ?_
  refine WP.up (H:=fun i:Nat=>iO w 2 (ab (U (some true)) (w.nodes.take 2)) 2 (i:Int)) 2 (fun i=>∀ a,a < i→QG w a) (fun i hi inv J hJ next=>?_) 0 (by omega) (fun a h=>absurd h (by omega))
  rw [Ay]
  try simp (disch:=first | assumption | omega) only [go_sem]
  refine bK (fun hl=>?_) (fun hl=>NB ⟨o,fun a ha=>inv a (by omega)⟩)
  have nx:=(o.ns.nd i (by omega)).last
  have cl:=Ly w (w.nodes.getD i n0).mt.last (by omega)
  try simp (disch:=first | assumption | omega) only [go_sem]
  have uT:QG w i→J 0 (iO w 2 (ab (U (some true)) (List.take 2 w.nodes)) 2 ((i:Int)+1))=some (.bool (pI (NC w)),[.undef]):=fun h=>next (by omega) (fp inv h)
  refine ie (fun hp=>?_) (fun hp=>?_)
  · have le:ia (w.nodes.getD i n0)=true:=ld1 hp
    try simp (disch:=first | assumption | omega) only [go_sem]
    refine ie (fun ha=>?_) (fun ha=>fw fun o=>ha (uS.2 (o.all i (by omega) le)))
    try simp (disch:=first | assumption | omega) only [go_sem]
    exact uT fun _=>uS.1 ha
  · try simp (disch:=first | assumption | omega) only [go_sem]
    refine ie (fun hf=>?_) (fun hf=>?_)
    · try simp (disch:=first | assumption | omega) only [go_sem]
      refine ie (fun ho=>?_) (fun ho=>?_)
      · have le:¬ia (w.nodes.getD i n0)=true:=ln1 hp ho
        try simp (disch:=first | assumption | omega) only [go_sem]
        exact uT fun h=>absurd h le
      · try simp (disch:=first | assumption | omega) only [go_sem]
        refine ie (fun hh=>?_) (fun hh=>?_)
        · have le:ia (w.nodes.getD i n0)=true:=ld2 hf ho hh
          try simp (disch:=first | assumption | omega) only [go_sem]
          refine ie (fun ha=>?_) (fun ha=>fw fun o=>ha (uS.2 (o.all i (by omega) le)))
          try simp (disch:=first | assumption | omega) only [go_sem]
          exact uT fun _=>uS.1 ha
        · have le:¬ia (w.nodes.getD i n0)=true:=ln2 hp hh
          try simp (disch:=first | assumption | omega) only [go_sem]
          exact uT fun h=>absurd h le
    · have le:¬ia (w.nodes.getD i n0)=true:=ln3 hp hf
      try simp (disch:=first | assumption | omega) only [go_sem]
      exact uT fun h=>absurd h le
@[go_sem] theorem Y8 (w:aB) (q0:dg w) (t:bE Rz):aL 32 [.agg (gU (some true) w)] t=feed t [.bool (lA w)]:=by
  exact bH (r:=.bool (lA w)) (s:=.bool) (ss:=[.undef]) (FW w q0) (by kernel_rfl) (by simp only [au,bq,aU,bt,bu,af,aj,Bool.and_self]) (by simp only [af,aF,au,aj,Bool.and_self]) (by first | rfl | simp only [aq,aS,aR,bn,bo,aT,bp,Bool.and_self]) (by first | rfl | simp only [List.all_cons,List.all_nil,aq,Bool.and_self]) t
theorem FX (w:aB) (q0:dg w):Cm 31 [.agg (dk (some true) w)] (.bool (lA w),[.undef]):=by
  unfold lA
  have b3:=q0.log
  have b4:=q0.safe
  refine Cm.step FU [.undef] fun J hJ=>?_
  rw [FV]
  try simp (disch:=first | assumption | omega) only [go_sem]
  refine ie (fun h=>?_) (fun h=>fw fun o=>Iv h o.ok)
  have o:=yL h
  have nl:=o.ns.len
  try simp (disch:=first | assumption | omega) only [go_sem]
  refine hJ _ _ ?_
  refine WP.upw (H:=fun i:Nat=>gE w (i:Int)) 2 (fun i=>∀ a,a < i→QG w a) (fun i hi inv next=>?_) 0 (by omega) (fun a h=>absurd h (by omega))
  refine WP.step fun J hJ=>?_
  rw [Az]
  try simp (disch:=first | assumption | omega) only [go_sem]
  refine bK (fun hl=>?_) (fun hl=>NB ⟨o,fun a ha=>inv a (by omega)⟩)
  have nx:=(o.ns.nd i (by omega)).last
  have cl:=Ly w (w.nodes.getD i n0).mt.last (by omega)
  have uT:QG w i→J 0 (gE w ((i:Int)+1))=some (.bool (pI (NC w)),[.undef]):=fun h=>hJ _ _ (next (by omega) (fp inv h))
  have inner:ia (w.nodes.getD i n0)=true→WP 31 Tryz.f31 [.undef] 2 (iP w i ((0:Nat):Int) (lz w (w.nodes.getD i n0).mt.last).length (ints (lz w (w.nodes.getD i n0).mt.last))) (.bool (pI (NC w)),[.undef]):=by
    intro le
    refine WP.up (H:=fun k:Nat=>iP w i (k:Int) (lz w (w.nodes.getD i n0).mt.last).length (ints (lz w (w.nodes.getD i n0).mt.last))) w.safe.length (fun k=>∀ b,b < k→w.safe.getD b 0∈lz w (w.nodes.getD i n0).mt.last) (fun k hk inv2 J hJ xj=>?_) 0 (by omega) (fun a h=>absurd h (by omega))
    rw [AA]
    try simp (disch:=first | assumption | omega) only [go_sem]
    refine bK (fun F7=>?_) (fun F7=>?_)
    · try simp (disch:=first | assumption | omega) only [go_sem]
      refine bK (fun hm=>?_) (fun hm=>fw fun o=>hm (o.all i (by omega) le _ (Dm (by omega))))
      try simp (disch:=first | assumption | omega) only [go_sem]
      exact xj (by omega) (fp inv2 hm)
    · try simp (disch:=first | assumption | omega) only [go_sem]
      refine hJ _ _ (next (by omega) (fp inv fun _ x hx=>?_))
      obtain ⟨b,hb,rfl⟩:=List.getElem_of_mem hx
      rw [← ef (d:=0) hb]
      exact inv2 b (by omega)
  try simp (disch:=first | assumption | omega) only [go_sem]
  refine ie (fun hp=>?_) (fun hp=>?_)
  · have le:ia (w.nodes.getD i n0)=true:=ld1 hp
    try simp (disch:=first | assumption | omega) only [go_sem]
    exact hJ _ _ (inner le)
  · try simp (disch:=first | assumption | omega) only [go_sem]
    refine ie (fun hf=>?_) (fun hf=>?_)
    · try simp (disch:=first | assumption | omega) only [go_sem]
      refine ie (fun ho=>?_) (fun ho=>?_)
      · have le:¬ia (w.nodes.getD i n0)=true:=ln1 hp ho
        try simp (disch:=first | assumption | omega) only [go_sem]
        exact uT fun h=>absurd h le
      · try simp (disch:=first | assumption | omega) only [go_sem]
        refine ie (fun hh=>?_) (fun hh=>?_)
        · have le:ia (w.nodes.getD i n0)=true:=ld2 hf ho hh
          try simp (disch:=first | assumption | omega) only [go_sem]
          exact hJ _ _ (inner le)
        · have le:¬ia (w.nodes.getD i n0)=true:=ln2 hp hh
          try simp (disch:=first | assumption | omega) only [go_sem]
          exact uT fun h=>absurd h le
    · have le:¬ia (w.nodes.getD i n0)=true:=ln3 hp hf
      try simp (disch:=first | assumption | omega) only [go_sem]
      exact uT fun h=>absurd h le
@[go_sem] theorem Y9 (w:aB) (q0:dg w) (t:bE Rz):aL 31 [.agg (gU (some true) w)] t=feed t [.bool (lA w)]:=by
  exact bH (r:=.bool (lA w)) (s:=.bool) (ss:=[.undef]) (FX w q0) (by kernel_rfl) (by simp only [au,bq,aU,bt,bu,af,aj,Bool.and_self]) (by simp only [af,aF,au,aj,Bool.and_self]) (by first | rfl | simp only [aq,aS,aR,bn,bo,aT,bp,Bool.and_self]) (by first | rfl | simp only [List.all_cons,List.all_nil,aq,Bool.and_self]) t
end Go.Proofs.YtockoilcnmljiaaGreat
namespace Go.Proofs.YtockoilcnmljiaaGreat
set_option maxRecDepth 100000
section
variable (pr:dA) (cv:Cv Rz) (J:Nat→St→Option Rz)
theorem CJ:Told cfg Tryz.prog 4 Tryz.f4:=⟨by kernel_rfl,Tryz.func4,by kernel_rfl⟩
theorem CK (g0:Bool) (x0:ae) (g1:Bool) (x1:ae) (x2:Bool):aO pr cv J 4 Tryz.f4 [(.agg (U (some g0) x0)),(.agg (U (some g1) x1)),(.bool x2)]=
    let y1:Option (D × List D):=(some ((.bool true),[.undef,.undef,.undef]))
    let y2:Option (D × List D):=(some ((.bool false),[.undef,.undef,.undef]))
    (cv 11 [(.agg (U (some g0) x0)),(.int .i64 1048576)] (.int (fun dm=>(.done (br (pr.lt dm 0) y1 (cv 11 [(.agg (U (some g1) x1)),(.int .i64 dm)] (.int (fun gK=>(.done (br (pr.lt gK 0) y1 (cv 13 [(.agg (U (some g0) x0))] (.ty eG.node (fun (my:ae)=>(.done (cv 13 [(.agg (U (some g1) x1))] (.ty eG.node (fun (r8:ae)=>(.done (cv 18 [(.agg (cu true (U none my))),(.agg (cu true (U none r8))),(.bool x2)] (.ty eG.node (fun (Qn:ae)=>(.bool (fun rl=>(.done (cv 13 [(.agg (U (some g0) x0))] (.ty eG.node (fun (oJ:ae)=>(.done (cv 13 [(.agg (U (some g1) x1))] (.ty eG.node (fun (pJ:ae)=>(.done (cv 19 [(.agg (cu true (U none oJ))),(.agg (cu true (U none pJ))),(.bool x2)] (.ty eG.node (fun (iQ:ae)=>(.bool (fun vb9=>(.done (cv 15 [(.agg (cu true (U none iQ))),(.agg (cu true (U none Qn)))] (.bool (fun aeS=>(.done (br (br aeS false true) y2 (br (br (pr.beq vb9 rl) false true) y2 (cv 13 [(.agg (U (some g0) x0))] (.ty eG.node (fun (aiX:ae)=>(.done (cv 15 [(.agg (cu true (U none oJ))),(.agg (cu true (U none aiX)))] (.bool (fun zO=>(.done (br (br zO false true) y2 (cv 13 [(.agg (U (some g1) x1))] (.ty eG.node (fun (aiY:ae)=>(.done (cv 15 [(.agg (cu true (U none pJ))),(.agg (cu true (U none aiY)))] (.bool (fun Qf=>(.done (br (br Qf false true) y2 (br (br (br (pr.nl (ints oJ.image)) (br (pr.nl (ints oJ.mt.aA)) (br (pr.nl (rows none oJ.mt.bits)) (br (pr.nl (bytes oJ.aN.a)) (br (pr.nl (bytes oJ.aN.b)) (br (pr.nl (aG oJ.conn)) (br (pr.nl (rows none oJ.sync)) (br (pr.nl (aG oJ.aM)) (br (pr.nl (ints oJ.wait)) true false) false) false) false) false) false) false) false) false) true false) (cv 16 [(.agg (U none oJ)),(.int .i64 1)] (.int (fun aiZ=>(.int (fun aoG=>(.bool (fun aoH=>(.bool (fun Cj=>(.sl (fun zP=>(fun qd=>(.sl (fun Uq=>(fun Ur=>(.sl (fun ai0=>(fun ai1=>(.bool (fun aoI=>(.bool (fun aoJ=>(.bool (fun aoK=>(.int (fun aoL=>(.sl (fun ai2=>(fun ai3=>(.sl (fun ai4=>(fun ai5=>(.sl (fun ai6=>(fun ai7=>(.sl (fun ai8=>(fun ai9=>(.sl (fun aja=>(fun ajb=>(.sl (fun ajc=>(fun ajd=>(.done (br (br (br (pr.nl qd) (br (pr.nl Ur) (br (pr.nl ai1) (br (pr.nl ai3) (br (pr.nl ai5) (br (pr.nl ai7) (br (pr.nl ai9) (br (pr.nl ajb) (br (pr.nl ajd) true false) false) false) false) false) false) false) false) false) true false) (br (br (br (pr.neq oJ.image.length zP) (br (pr.neq oJ.mt.aA.length Uq) (br (pr.neq oJ.mt.bits.length ai0) (br (pr.neq oJ.aN.a.length ai2) (br (pr.neq oJ.aN.b.length ai4) (br (pr.neq oJ.conn.length ai6) (br (pr.neq oJ.sync.length ai8) (br (pr.neq oJ.aM.length aja) (br (pr.neq oJ.wait.length ajc) true false) false) false) false) false) false) false) false) false) true false) (br (br (br (pr.nl (ints pJ.image)) (br (pr.nl (ints pJ.mt.aA)) (br (pr.nl (rows none pJ.mt.bits)) (br (pr.nl (bytes pJ.aN.a)) (br (pr.nl (bytes pJ.aN.b)) (br (pr.nl (aG pJ.conn)) (br (pr.nl (rows none pJ.sync)) (br (pr.nl (aG pJ.aM)) (br (pr.nl (ints pJ.wait)) true false) false) false) false) false) false) false) false) false) true false) (cv 16 [(.agg (U none pJ)),(.int .i64 aiZ)] (.int (fun aje=>(.int (fun aoM=>(.bool (fun aoN=>(.bool (fun aoO=>(.sl (fun ajf=>(fun ajg=>(.sl (fun ajh=>(fun aji=>(.sl (fun ajj=>(fun ajk=>(.bool (fun aoP=>(.bool (fun aoQ=>(.bool (fun aoR=>(.int (fun aoS=>(.sl (fun ajl=>(fun ajm=>(.sl (fun ajn=>(fun ajo=>(.sl (fun ajp=>(fun ajq=>(.sl (fun ajr=>(fun ajs=>(.sl (fun ajt=>(fun aju=>(.sl (fun ajv=>(fun ajw=>(.done (br (br (br (pr.nl ajg) (br (pr.nl aji) (br (pr.nl ajk) (br (pr.nl ajm) (br (pr.nl ajo) (br (pr.nl ajq) (br (pr.nl ajs) (br (pr.nl aju) (br (pr.nl ajw) true false) false) false) false) false) false) false) false) false) true false) (br (br (br (pr.neq pJ.image.length ajf) (br (pr.neq pJ.mt.aA.length ajh) (br (pr.neq pJ.mt.bits.length ajj) (br (pr.neq pJ.aN.a.length ajl) (br (pr.neq pJ.aN.b.length ajn) (br (pr.neq pJ.conn.length ajp) (br (pr.neq pJ.sync.length ajr) (br (pr.neq pJ.aM.length ajt) (br (pr.neq pJ.wait.length ajv) true false) false) false) false) false) false) false) false) false) true false) (br (pr.lt aje 0) y2 (cv 15 [(.agg (cu true (U none iQ))),(.agg (cu true (U none Qn)))] (.bool (fun ajx=>(.done (br (br ajx false true) y2 (br (br (pr.beq vb9 rl) false true) y2 (br (br (br (pr.nl (ints iQ.image)) (br (pr.nl (ints iQ.mt.aA)) (br (pr.nl (rows none iQ.mt.bits)) (br (pr.nl (bytes iQ.aN.a)) (br (pr.nl (bytes iQ.aN.b)) (br (pr.nl (aG iQ.conn)) (br (pr.nl (rows none iQ.sync)) (br (pr.nl (aG iQ.aM)) (br (pr.nl (ints iQ.wait)) true false) false) false) false) false) false) false) false) false) true false) (cv 16 [(.agg (U none iQ)),(.int .i64 1)] (.int (fun ae8=>(.int (fun aoT=>(.bool (fun aoU=>(.bool (fun aoV=>(.sl (fun Za=>(fun Zb=>(.sl (fun Zc=>(fun Zd=>(.sl (fun Ze=>(fun Zf=>(.bool (fun aoW=>(.bool (fun aoX=>(.bool (fun aoY=>(.int (fun aoZ=>(.sl (fun Zg=>(fun Zh=>(.sl (fun Zi=>(fun Zj=>(.sl (fun Zk=>(fun Zl=>(.sl (fun Zm=>(fun Zn=>(.sl (fun Zo=>(fun Zp=>(.sl (fun Zq=>(fun Zr=>(.done (br (br (br (pr.nl Zb) (br (pr.nl Zd) (br (pr.nl Zf) (br (pr.nl Zh) (br (pr.nl Zj) (br (pr.nl Zl) (br (pr.nl Zn) (br (pr.nl Zp) (br (pr.nl Zr) true false) false) false) false) false) false) false) false) false) true false) (br (br (br (pr.neq iQ.image.length Za) (br (pr.neq iQ.mt.aA.length Zc) (br (pr.neq iQ.mt.bits.length Ze) (br (pr.neq iQ.aN.a.length Zg) (br (pr.neq iQ.aN.b.length Zi) (br (pr.neq iQ.conn.length Zk) (br (pr.neq iQ.sync.length Zm) (br (pr.neq iQ.aM.length Zo) (br (pr.neq iQ.wait.length Zq) true false) false) false) false) false) false) false) false) false) true false) (cv 17 [(.agg [(.int .i64 iQ.id),(.bool iQ.up),(.bool iQ.cn),(.sl (some true) 1 Za (cu true Zb)),(.sl (some true) 1 Zc (cu true Zd)),(.sl (some true) 1 Ze (cu true Zf)),(.bool iQ.mt.cK),(.bool iQ.mt.bO),(.bool iQ.mt.held),(.int .i64 iQ.mt.last),(.sl (some true) 1 Zg (cu true Zh)),(.sl (some true) 1 Zi (cu true Zj)),(.sl (some true) 1 Zk (cu true Zl)),(.sl (some true) 1 Zm (cu true Zn)),(.sl (some true) 1 Zo (cu true Zp)),(.sl (some true) 1 Zq (cu true Zr))]),(.int .i64 1)] (.int (fun ae9=>(.done (br (pr.lt ae9 0) y2 (br (br (pr.eq ae9 ae8) false true) y2 (cv 13 [(.agg (U (some g0) x0))] (.ty eG.node (fun (ajy:ae)=>(.done (cv 13 [(.agg (U (some g1) x1))] (.ty eG.node (fun (ajz:ae)=>(.done (cv 19 [(.agg (cu true (U none ajy))),(.agg (cu true (U none ajz))),(.bool x2)] (.ty eG.node (fun (ajA:ae)=>(.bool (fun ajB=>(.done (cv 15 [(.agg (cu true (U none ajA))),(.agg (cu true (U none Qn)))] (.bool (fun ajC=>(.done (br (br ajC false true) y2 (br (br (pr.beq ajB rl) false true) y2 (cv 17 [(.agg [(.int .i64 iQ.id),(.bool iQ.up),(.bool iQ.cn),(.sl (some true) 1 Za (cu true Zb)),(.sl (some true) 1 Zc (cu true Zd)),(.sl (some true) 1 Ze (cu true Zf)),(.bool iQ.mt.cK),(.bool iQ.mt.bO),(.bool iQ.mt.held),(.int .i64 iQ.mt.last),(.sl (some true) 1 Zg (cu true Zh)),(.sl (some true) 1 Zi (cu true Zj)),(.sl (some true) 1 Zk (cu true Zl)),(.sl (some true) 1 Zm (cu true Zn)),(.sl (some true) 1 Zo (cu true Zp)),(.sl (some true) 1 Zq (cu true Zr))]),(.int .i64 1)] (.int (fun aaK=>(.done (br (pr.lt aaK 0) y2 (br (br (pr.eq aaK ae8) false true) y2 y1)))))))))))))))))))))))))))))))) none) none)))))))))))))))))))))))))))))))))))))))))))))) none)))))))) none) none)))))))))))))))))))))))))))))))))))))))))))))) none) none) none)))))))))))))))))))))))))))))))))))))))))))))) none))))))))))))))))))))))))))))))))))))))))))))))))))))))))))))))):=by kernel_rfl
end
theorem ab0 {x y:ae} {q:Bool} (ok:bU x):bU (lx x y q).1:=by
  unfold lx
  split
  · exact ⟨ok.image,ok.mt,ok.aN,ok.conn,ok.sync,ok.aM,ok.wait⟩
  · exact ok
theorem Nh (n:ae) (ln:rn n) (hi:G2 n) (m:ae) (lm:rn m) (him:G2 m) (q:Bool):Cm 4 [.agg (U (some false) n),.agg (U (some false) m),.bool q] (.bool true,[.undef,.undef,.undef]):=by
  have _:=hi
  have _:=him
  refine Cm.step CJ _ fun J _=>?_
  rw [CK]
  have a1:=zD (n:=n) (l:=1048576) (by omega) (by omega)
  simp (disch:=first | assumption | omega) only [go_sem]
  refine bK (fun _=>rfl) (fun hv=>?_)
  have a2:=zD (n:=m) (l:=ew n 1048576) (by omega) (by omega)
  simp (disch:=first | assumption | omega) only [go_sem]
  refine bK (fun _=>rfl) (fun hv2=>?_)
  have ok:bU n:=a1.2.2 (by omega)
  have okm:bU m:=a2.2.2 (by omega)
  have ok2:bU (lx n m q).1:=ab0 ok
  have b1:=FK ok
  have b2:=FK okm
  have b3:=FK ok2
  simp (disch:=first | assumption | omega) only [go_sem]
end Go.Proofs.YtockoilcnmljiaaGreat
namespace Go.Proofs.YtockoilcnmljiaaGreat.fnExactLead
open Go.ChangeShapes Go.WideShapes Go.ChangeAt Go.RowKit
set_option maxRecDepth 100000
theorem own:ownKnob Tryz.prog.godebug=none:=by kernel_rfl
theorem laidOut:laidOutB Tryz.prog=true:=by kernel_rfl
theorem lifted (os:Os) (started:os.Started) (H:Type) (enc:TypeId × Value→H):
    ReturnsInHanded {} Tryz.checked os 4 .any (Rows.fnExactLeadSpec.pre6 enc Tryz.prog Tryz.f4 Rows.fnExactLeadRow.domain false) (Rows.fnExactLeadSpec.post enc Tryz.prog Tryz.f4 false true false false):=by
  refine returnsInHanded_of_change_sized (C:=Tryz.checked) own started (by kernel_rfl) Tryz.func4
    (ChangeSpec.witness6 (enc:=enc) (C:=Tryz.checked) false ⟨#[],#[.agg #[.int .i64 0,.bool false,.bool false,.slice none 0 0,.slice none 0 0,.slice none 0 0,.bool false,.bool false,.bool false,.int .i64 0,.slice none 0 0,.slice none 0 0,.slice none 0 0,.slice none 0 0,.slice none 0 0,.slice none 0 0],.agg #[.int .i64 0,.bool false,.bool false,.slice none 0 0,.slice none 0 0,.slice none 0 0,.bool false,.bool false,.bool false,.int .i64 0,.slice none 0 0,.slice none 0 0,.slice none 0 0,.slice none 0 0,.slice none 0 0,.slice none 0 0],.bool false],[]⟩ 8 (by kernel_rfl) (by kernel_rfl) (by kernel_rfl) (by kernel_rfl)) ?_
  intro W base args ds gs before aaL hW ao0 afa _
  have cV:(DataW.weightsEach Tryz.prog (Tryz.f4.params.toList++Rows.fnExactLeadSpec.plain.varTypes Tryz.prog) (ds++gs)).all (·≤reachBytes)=true:=afa
  have AZ:∀ (j:Nat) t v,Tryz.f4.params[j]?=some t→args[j]?=some v→Value.okWide Tryz.prog W .any base t v:=aaL
  have hW':=hW
  obtain ⟨p,q,Vd,hV,rfl,hfz,fr⟩:=hW
  have hA:DataW.TrodAll enc Tryz.prog W 0 (fun _=>true) true Tryz.f4.params.toList args.toList ds p:=Vd
  rw [Tryz.params4] at hA AZ cV
  obtain ⟨v0,vs0,d0,ds0,p0,q0,amJ,rfl,rfl,h0,r0⟩:=trodAll_cons hA
  obtain ⟨v1,vs1,d1,gp,p1,q1,amK,rfl,rfl,h1,r1⟩:=trodAll_cons r0
  obtain ⟨v2,vs2,d2,tu,p2,q2,amL,rfl,rfl,h2,r2⟩:=trodAll_cons r1
  obtain ⟨rfl,rfl,rfl⟩:=trodAll_nil r2
  obtain rfl:args=#[v0,v1,v2]:=by cases args; simp_all
  obtain ⟨rfl,rfl⟩:=trodVars_none hV
  have k0:=h0
  have lt0:∀ x∈p0,x.block < W.heap.size:=by obtain ⟨m,hm⟩:=k0; exact DataW.trod_lt m _ _ _ hm
  obtain ⟨us0,rfl,_⟩:=okWide_struct Tryz.underlying31 (AZ 0 31 v0 rfl rfl)
  obtain ⟨an6,hf0⟩:=h0
  have So:∀ z∈d0.weights Tryz.prog 31,z≤reachBytes:=fun z hz=>by
    have:=List.all_eq_true.1 cV z (DataW.weights_mem_each (j:=0) (t:=31) (d:=d0) rfl rfl z hz)
    simpa using this
  obtain ⟨amP,ajD,agp⟩:=x5 (X:=Lk W [] (fun _=>True)) Po PH hf0 (by kernel_rfl) So
  obtain ⟨n0,rfl,ln0,in0⟩:=SB ajD
  have k1:=h1
  have lt1:∀ x∈p1,x.block < W.heap.size:=by obtain ⟨m,hm⟩:=k1; exact DataW.trod_lt m _ _ _ hm
  obtain ⟨KT,rfl,_⟩:=okWide_struct Tryz.underlying31 (AZ 1 31 v1 rfl rfl)
  obtain ⟨an7,Vz⟩:=h1
  have Sp:∀ z∈d1.weights Tryz.prog 31,z≤reachBytes:=fun z hz=>by
    have:=List.all_eq_true.1 cV z (DataW.weights_mem_each (j:=1) (t:=31) (d:=d1) rfl rfl z hz)
    simpa using this
  obtain ⟨amT,ajE,agq⟩:=x5 (X:=Lk W [] (fun _=>True)) Po PH Vz (by kernel_rfl) Sp
  obtain ⟨n1,rfl,ln1,in1⟩:=SB ajE
  have k2:=h2
  have lt2:∀ x∈p2,x.block < W.heap.size:=by obtain ⟨m,hm⟩:=k2; exact DataW.trod_lt m _ _ _ hm
  obtain ⟨x2,rfl⟩:=okWide_bool Tryz.underlying4 (AZ 2 4 v2 rfl rfl)
  obtain ⟨an8,VA⟩:=h2
  have Sq:∀ z∈d2.weights Tryz.prog 4,z≤reachBytes:=fun z hz=>by
    have:=List.all_eq_true.1 cV z (DataW.weights_mem_each (j:=2) (t:=4) (d:=d2) rfl rfl z hz)
    simpa using this
  obtain ⟨amW,ajF,agr⟩:=x5 (X:=Lk W [] (fun _=>True)) Po .bool VA (by kernel_rfl) Sq
  obtain ⟨y2,rfl⟩:=ajF
  clear Vd aaL afa cV
  refine (V3 zx (f:=4) (vs:=#[.agg us0,.agg KT,.bool x2]) (by kernel_rfl) (Nh n0 ln0 in0 n1 ln1 in1 y2) (by simp [dQ,ch,dp,fy,cf]) (.cons (Sy agp) (.cons (Sy agq) (.cons (abu agr (by simp) (by simp)) .nil)))).mono fun e W' ⟨he,bel⟩=>?_
  subst he
  exact ⟨_,rfl,_,_,_,[],_,[],hW',trodAll_mk1 (shut_bool Tryz.underlying4 _),trodAll_mk3 (Below.trod laidOut (by kernel_rfl) (of_decide_eq_true (by kernel_rfl)) k0 bel lt0) (Below.trod laidOut (by kernel_rfl) (of_decide_eq_true (by kernel_rfl)) k1 bel lt1) (Below.trod laidOut (by kernel_rfl) (of_decide_eq_true (by kernel_rfl)) k2 bel lt2),rfl,bel.frame _,fun h=>by cases h⟩
theorem over:Rows.fnExactLeadRow.holds Tryz.pinned (OpenSpec.ofChange Rows.fnExactLeadSpec):=
  OpenClaim.holds_of_wide 4 Tryz.f4 rfl rfl rfl rfl rfl rfl rfl ⟨rfl,rfl,rfl,rfl,rfl⟩ rfl rfl rfl rfl rfl (by kernel_rfl) Tryz.func4 (by kernel_rfl)
    (of_decide_eq_true (by kernel_rfl)) (by unfold Func.isWrapper; first | (rw [if_pos (by decide+kernel)]; kernel_rfl) | (rw [if_neg (by decide+kernel)]; exact ⟨rfl,rfl⟩))
    (fun os started H enc _=>lifted os started H enc)
theorem proved:Rows.FnExactLeadSaid:=over
#print axioms proved
end Go.Proofs.YtockoilcnmljiaaGreat.fnExactLead
namespace Go.Proofs.YtockoilcnmljiaaGreat
theorem fnExactLead_holds:Rows.FnExactLeadSaid:=fnExactLead.proved
end Go.Proofs.YtockoilcnmljiaaGreat
