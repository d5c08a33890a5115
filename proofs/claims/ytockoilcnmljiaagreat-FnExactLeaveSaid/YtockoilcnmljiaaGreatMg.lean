/- FnExactLeave: the program's Leave returns what the reference's returns, for all arguments (a node). No condition. -/
import Derived.Test.YtockoilcnmljiaaGreatRows
import Derived.WalkKit
import Derived.ProofKit
import Derived.OpenShut
import Derived.ShutString
import Derived.ChangeOld
import Derived.ChangeSame
import Derived.Below
import Derived.Carry
import Derived.SizedLaws
import Derived.Test.YtockoilcnmljiaaGreatMf
set_option linter.all false
set_option linter.unusedSimpArgs false
set_option linter.unusedVariables false
set_option linter.unnecessarySimpa false
set_option linter.unusedSectionVars false
namespace Go.Proofs.YtockoilcnmljiaaGreat
set_option maxRecDepth 100000
section
variable (pr:dT) (cv:Cv Rz) (J:Nat→St→Option Rz)
def mC (x0:aW) (i0:Int) (i1:Int):St:=(St.mk [(1,(.ptr 1 [] 0)),(31,(.sl (some true) 3 x0.cz.length (ab (bp (some true)) x0.cz))),(32,(.int .i64 i0)),(33,(.int .i64 i1))] [(1,[(.sl (some true) 16 x0.nodes.length (ab (U (some true)) x0.nodes)),(.sl (some true) 3 x0.cz.length (ab (bp (some true)) x0.cz)),(.sl (some true) 2 x0.log.length (ab (cP (some true)) x0.log)),(sI (some true) x0.safe),(.int .i64 x0.gen)])] [] 0)
def j1 (x0:aW) (i0:Int) (i1:Int):St:=(St.mk [(1,(.ptr 1 [] 0)),(76,(.sl (some true) 2 x0.log.length (ab (cP (some true)) x0.log))),(77,(.int .i64 i0)),(78,(.int .i64 i1))] [(1,[(.sl (some true) 16 x0.nodes.length (ab (U (some true)) x0.nodes)),(.sl (some true) 3 x0.cz.length (ab (bp (some true)) x0.cz)),(.sl (some true) 2 x0.log.length (ab (cP (some true)) x0.log)),(sI (some true) x0.safe),(.int .i64 x0.gen)])] [] 0)
def j2 (x0:aW) (i0:Int) (i1:Int):St:=(St.mk [(1,(.ptr 1 [] 0)),(96,(sI (some true) x0.safe)),(97,(.int .i64 i0)),(98,(.int .i64 i1))] [(1,[(.sl (some true) 16 x0.nodes.length (ab (U (some true)) x0.nodes)),(.sl (some true) 3 x0.cz.length (ab (bp (some true)) x0.cz)),(.sl (some true) 2 x0.log.length (ab (cP (some true)) x0.log)),(sI (some true) x0.safe),(.int .i64 x0.gen)])] [] 0)
theorem Jc:Told cfg Tryz.prog 23 Tryz.f23:=⟨by kernel_rfl,Tryz.func23,by kernel_rfl⟩
theorem Jd (x0:aW):aQ pr cv J 23 Tryz.f23 [(.agg (eM (some true) x0))]=
    let y1:Option (D × List D):=(some ((.bool false),[.undef]))
    (cv 74 [(.agg [(.sl (some true) 16 x0.nodes.length (ab (U (some true)) x0.nodes)),(.sl (some true) 3 x0.cz.length (ab (bp (some true)) x0.cz)),(.sl (some true) 2 x0.log.length (ab (cP (some true)) x0.log)),(sI (some true) x0.safe),(.int .i64 x0.gen)])] (.bool (fun cf=>(.done (br (br cf false true) y1 (br (pr.lt 40 (pr.aS x0.cz.length)) y1 (br (pr.lt 200 (pr.aS x0.log.length)) y1 (cv 75 [(.int .i64 x0.gen),(.int .i64 2),(.int .i64 100000)] (.bool (fun eN=>(.done (br (br eN false true) y1 (J 0 (mC x0 (pr.aS x0.cz.length) 0)))))))))))))):=by kernel_rfl
theorem Cx (x0:aW) (i0:Int) (i1:Int):bJ pr cv J 23 Tryz.f23 [.undef] 0 (mC x0 i0 i1)=
    let y1:Int:=(pr.bn (ab (bp (some true)) x0.cz) (pr.idx 0 i1 3))
    let y2:Option (D × List D):=(some ((.bool false),[.undef]))
    let y3:Int:=(pr.bn (ab (bp (some true)) x0.cz) ((pr.idx 0 i1 3)+1))
    let y4:List D:=(pr.aV (ab (U (some true)) x0.nodes) ((pr.idx 0 y1 16)+12))
    let y5:Nat:=(pr.idx 0 y3 1)
    (br (pr.lt i1 i0) (br (pr.bD i1 x0.cz.length) (br (br (pr.cw .i64 (ab (bp (some true)) x0.cz) (pr.idx 0 i1 3)) (br (pr.cw .i64 (ab (bp (some true)) x0.cz) ((pr.idx 0 i1 3)+1)) (br (pr.bU 1 (ab (bp (some true)) x0.cz) ((pr.idx 0 i1 3)+2)) true false) false) false) (cv 76 [(.int .i64 y1)] (.bool (fun cf=>(.done (br (br cf false true) y2 (cv 76 [(.int .i64 y3)] (.bool (fun eN=>(.done (br (br eN false true) y2 (br (pr.eq y1 y3) y2 (br (pr.bD y1 x0.nodes.length) (br (br (pr.bU 1 (ab (U (some true)) x0.nodes) ((pr.idx 0 y1 16)+12)) true false) (br (pr.bD y3 (pr.aR (ab (U (some true)) x0.nodes) ((pr.idx 0 y1 16)+12))) (br (br (pr.df y4 y5) true false) (br (br (pr.cg y4 y5) false true) y2 (br (pr.lt 400 (pr.aS (pr.aR (ab (bp (some true)) x0.cz) ((pr.idx 0 i1 3)+2)))) y2 (J 0 (mC x0 i0 (pr.ar .add .i64 i1 1))))) none) none) none) none)))))))))))) none) none) (J 2 (j1 x0 (pr.aS x0.log.length) 0))):=by kernel_rfl
theorem Cy (x0:aW) (i0:Int) (i1:Int):bJ pr cv J 23 Tryz.f23 [.undef] 2 (j1 x0 i0 i1)=
    let y1:Option (D × List D):=(some ((.bool false),[.undef]))
    (br (pr.lt i1 i0) (br (pr.bD i1 x0.log.length) (br (br (pr.cw .i64 (ab (cP (some true)) x0.log) (pr.idx 0 i1 2)) (br (pr.cw .i64 (ab (cP (some true)) x0.log) ((pr.idx 0 i1 2)+1)) true false) false) (cv 77 [(.int .i64 (pr.bn (ab (cP (some true)) x0.log) (pr.idx 0 i1 2)))] (.bool (fun cf=>(.done (br (br cf false true) y1 (cv 75 [(.int .i64 (pr.bn (ab (cP (some true)) x0.log) ((pr.idx 0 i1 2)+1))),(.int .i64 0),(.int .i64 i1)] (.bool (fun eN=>(.done (br (br eN false true) y1 (J 2 (j1 x0 i0 (pr.ar .add .i64 i1 1))))))))))))) none) none) (J 4 (j2 x0 (pr.aS x0.safe.length) 0))):=by kernel_rfl
theorem Cz (x0:aW) (i0:Int) (i1:Int):bJ pr cv J 23 Tryz.f23 [.undef] 4 (j2 x0 i0 i1)=
    let y1:Option (D × List D):=(some ((.bool false),[.undef]))
    let y2:Option Rz:=(J 4 (j2 x0 i0 (pr.ar .add .i64 i1 1)))
    (br (pr.lt i1 i0) (br (pr.bD i1 x0.safe.length) (br (br (pr.cw .i64 (ints x0.safe) (pr.idx 0 i1 1)) true false) (cv 75 [(.int .i64 (pr.bn (ints x0.safe) (pr.idx 0 i1 1))),(.int .i64 1),(.int .i64 (pr.aS x0.log.length))] (.bool (fun cf=>(.done (br (br cf false true) y1 (br (pr.lt 0 i1) (br (pr.bD (pr.ar .sub .i64 i1 1) x0.safe.length) (br (br (pr.cw .i64 (ints x0.safe) (pr.idx 0 (pr.ar .sub .i64 i1 1) 1)) true false) (br (pr.le (pr.bn (ints x0.safe) (pr.idx 0 i1 1)) (pr.bn (ints x0.safe) (pr.idx 0 (pr.ar .sub .i64 i1 1) 1))) y1 y2) none) none) y2)))))) none) none) (some ((.bool true),[.undef]))):=by kernel_rfl
def lD (x0:aW) (i0:Int):St:=(St.mk [(1,(.ptr 1 [] 0)),(3,(.int .i64 i0))] [(1,[(.sl (some true) 16 x0.nodes.length (ab (U (some true)) x0.nodes)),(.sl (some true) 3 x0.cz.length (ab (bp (some true)) x0.cz)),(.sl (some true) 2 x0.log.length (ab (cP (some true)) x0.log)),(sI (some true) x0.safe),(.int .i64 x0.gen)])] [] 0)
def lE (x0:aW) (i0:Int) (i1:Int):St:=(St.mk [(1,(.ptr 1 [] 0)),(3,(.int .i64 i0)),(4,(.int .i64 i1))] [(1,[(.sl (some true) 16 x0.nodes.length (ab (U (some true)) x0.nodes)),(.sl (some true) 3 x0.cz.length (ab (bp (some true)) x0.cz)),(.sl (some true) 2 x0.log.length (ab (cP (some true)) x0.log)),(sI (some true) x0.safe),(.int .i64 x0.gen)])] [] 0)
def jf (x0:aW) (i0:Int):St:=(St.mk [(1,(.ptr 1 [] 0)),(5,(.int .i64 i0))] [(1,[(.sl (some true) 16 x0.nodes.length (ab (U (some true)) x0.nodes)),(.sl (some true) 3 x0.cz.length (ab (bp (some true)) x0.cz)),(.sl (some true) 2 x0.log.length (ab (cP (some true)) x0.log)),(sI (some true) x0.safe),(.int .i64 x0.gen)])] [] 0)
theorem He:Told cfg Tryz.prog 70 Tryz.f70:=⟨by kernel_rfl,Tryz.func70,by kernel_rfl⟩
theorem Hf (x0:aW):aQ pr cv J 70 Tryz.f70 [(.agg (eM (some true) x0))]=
    (J 0 (lD x0 0)):=by kernel_rfl
theorem BD (x0:aW) (i0:Int):bJ pr cv J 70 Tryz.f70 [.undef] 0 (lD x0 i0)=
    (br (pr.lt i0 3) (J 2 (lE x0 i0 0)) (J 4 (jf x0 0))):=by kernel_rfl
theorem BE (x0:aW) (i0:Int) (i1:Int):bJ pr cv J 70 Tryz.f70 [.undef] 2 (lE x0 i0 i1)=
    let y1:List D:=(pr.aV (ab (U (some true)) x0.nodes) ((pr.idx 0 i0 16)+12))
    let y2:List D:=(pr.aV (ab (U (some true)) x0.nodes) ((pr.idx 0 i1 16)+12))
    (br (pr.lt i1 3) (br (pr.bD i0 x0.nodes.length) (br (br (pr.bU 1 (ab (U (some true)) x0.nodes) ((pr.idx 0 i0 16)+12)) true false) (br (pr.bD i1 (pr.aR (ab (U (some true)) x0.nodes) ((pr.idx 0 i0 16)+12))) (br (br (pr.df y1 (pr.idx 0 i1 1)) true false) (br (pr.bD i1 x0.nodes.length) (br (br (pr.bU 1 (ab (U (some true)) x0.nodes) ((pr.idx 0 i1 16)+12)) true false) (br (pr.bD i0 (pr.aR (ab (U (some true)) x0.nodes) ((pr.idx 0 i1 16)+12))) (br (br (pr.df y2 (pr.idx 0 i0 1)) true false) (br (br (pr.beq (pr.cg y1 (pr.idx 0 i1 1)) (pr.cg y2 (pr.idx 0 i0 1))) false true) (some ((.bool false),[.undef])) (J 2 (lE x0 i0 (pr.ar .add .i64 i1 1)))) none) none) none) none) none) none) none) none) (J 0 (lD x0 (pr.ar .add .i64 i0 1)))):=by kernel_rfl
theorem BF (x0:aW) (i0:Int):bJ pr cv J 70 Tryz.f70 [.undef] 4 (jf x0 i0)=
    let y1:Int:=(pr.bn (ab (bp (some true)) x0.cz) (pr.idx 0 i0 3))
    let y2:Option (D × List D):=(some ((.bool false),[.undef]))
    let y3:Int:=(pr.bn (ab (bp (some true)) x0.cz) ((pr.idx 0 i0 3)+1))
    let y4:List D:=(pr.aV (ab (U (some true)) x0.nodes) ((pr.idx 0 y1 16)+12))
    let y5:Nat:=(pr.idx 0 y3 1)
    (br (pr.lt i0 (pr.aS x0.cz.length)) (br (pr.bD i0 x0.cz.length) (br (br (pr.cw .i64 (ab (bp (some true)) x0.cz) (pr.idx 0 i0 3)) (br (pr.cw .i64 (ab (bp (some true)) x0.cz) ((pr.idx 0 i0 3)+1)) (br (pr.bU 1 (ab (bp (some true)) x0.cz) ((pr.idx 0 i0 3)+2)) true false) false) false) (cv 69 [(.int .i64 y1),(.int .i64 0),(.int .i64 2)] (.bool (fun cf=>(.done (br (br cf false true) y2 (cv 69 [(.int .i64 y3),(.int .i64 0),(.int .i64 2)] (.bool (fun eN=>(.done (br (br eN false true) y2 (br (pr.eq y1 y3) y2 (br (pr.bD y1 x0.nodes.length) (br (br (pr.bU 1 (ab (U (some true)) x0.nodes) ((pr.idx 0 y1 16)+12)) true false) (br (pr.bD y3 (pr.aR (ab (U (some true)) x0.nodes) ((pr.idx 0 y1 16)+12))) (br (br (pr.df y4 y5) true false) (br (br (pr.cg y4 y5) false true) y2 (br (pr.lt 400 (pr.aS (pr.aR (ab (bp (some true)) x0.cz) ((pr.idx 0 i0 3)+2)))) y2 (J 4 (jf x0 (pr.ar .add .i64 i0 1))))) none) none) none) none)))))))))))) none) none) (some ((.bool (pr.le (pr.aS x0.cz.length) 40)),[.undef]))):=by kernel_rfl
def mD (x0:aW) (i0:Int):St:=(St.mk [(1,(.ptr 1 [] 0)),(3,(.int .i64 i0))] [(1,[(.sl (some true) 16 x0.nodes.length (ab (U (some true)) x0.nodes)),(.sl (some true) 3 x0.cz.length (ab (bp (some true)) x0.cz)),(.sl (some true) 2 x0.log.length (ab (cP (some true)) x0.log)),(sI (some true) x0.safe),(.int .i64 x0.gen)])] [] 0)
def mE (x0:aW) (i0:Int) (i1:Int) (i2:Int) (b3:Bool) (b4:Bool) (g5:Bool) (n6:Nat) (c7:List D) (g8:Bool) (n9:Nat) (xm:List D) (g11:Bool) (fE:Nat) (gg:List D) (me:Bool) (gu:Bool) (jY:Bool) (i17:Int) (g18:Bool) (NY:Nat) (NZ:List D) (g21:Bool) (tN:Nat) (tO:List D) (g24:Bool) (Y0:Nat) (N0:List D) (N1:Bool) (xr:Nat) (xx:List D) (N3:Bool) (n31:Nat) (Y1:List D) (Y2:Bool) (n34:Nat) (Y3:List D):St:=(St.mk [(1,(.ptr 1 [] 0)),(3,(.int .i64 i0)),(4,(.ptr 4 [] 0)),(5,(.int .i64 i1))] [(1,[(.sl (some true) 16 x0.nodes.length (ab (U (some true)) x0.nodes)),(.sl (some true) 3 x0.cz.length (ab (bp (some true)) x0.cz)),(.sl (some true) 2 x0.log.length (ab (cP (some true)) x0.log)),(sI (some true) x0.safe),(.int .i64 x0.gen)]),(4,[(.int .i64 i2),(.bool b3),(.bool b4),(.sl (some g5) 1 n6 c7),(.sl (some g8) 1 n9 xm),(.sl (some g11) 1 fE gg),(.bool me),(.bool gu),(.bool jY),(.int .i64 i17),(.sl (some g18) 1 NY NZ),(.sl (some g21) 1 tN tO),(.sl (some g24) 1 Y0 N0),(.sl (some N1) 1 xr xx),(.sl (some N3) 1 n31 Y1),(.sl (some Y2) 1 n34 Y3)])] [] 0)
def j3 (x0:aW) (i0:Int):St:=(St.mk [(1,(.ptr 1 [] 0)),(6,(.int .i64 i0))] [(1,[(.sl (some true) 16 x0.nodes.length (ab (U (some true)) x0.nodes)),(.sl (some true) 3 x0.cz.length (ab (bp (some true)) x0.cz)),(.sl (some true) 2 x0.log.length (ab (cP (some true)) x0.log)),(sI (some true) x0.safe),(.int .i64 x0.gen)])] [] 0)
def j4 (x0:aW) (i0:Int):St:=(St.mk [(1,(.ptr 1 [] 0)),(7,(.int .i64 i0))] [(1,[(.sl (some true) 16 x0.nodes.length (ab (U (some true)) x0.nodes)),(.sl (some true) 3 x0.cz.length (ab (bp (some true)) x0.cz)),(.sl (some true) 2 x0.log.length (ab (cP (some true)) x0.log)),(sI (some true) x0.safe),(.int .i64 x0.gen)])] [] 0)
theorem Je:Told cfg Tryz.prog 21 Tryz.f21:=⟨by kernel_rfl,Tryz.func21,by kernel_rfl⟩
theorem Jf (x0:aW):aQ pr cv J 21 Tryz.f21 [(.agg (eM (some true) x0))]=
    let y1:Option (D × List D):=(some ((.bool false),[.undef]))
    (br (br (pr.eq (pr.aS x0.nodes.length) 3) false true) y1 (br (pr.lt 200 (pr.aS x0.log.length)) y1 (cv 69 [(.int .i64 x0.gen),(.int .i64 2),(.int .i64 100000)] (.bool (fun cf=>(.done (br (br cf false true) y1 (J 0 (mD x0 0))))))))):=by kernel_rfl
theorem CA (x0:aW) (i0:Int):bJ pr cv J 21 Tryz.f21 [.undef] 0 (mD x0 i0)=
    let y1:Int:=(pr.bn (ab (U (some true)) x0.nodes) (pr.idx 0 i0 16))
    let y2:Option (D × List D):=(some ((.bool false),[.undef]))
    let y3:D:=(.int .i64 y1)
    let y4:D:=(.bool (pr.cg (ab (U (some true)) x0.nodes) ((pr.idx 0 i0 16)+1)))
    let y5:D:=(.bool (pr.cg (ab (U (some true)) x0.nodes) ((pr.idx 0 i0 16)+2)))
    let y6:Option Bool:=(some (pr.bo (ab (U (some true)) x0.nodes) ((pr.idx 0 i0 16)+3)))
    let y7:Nat:=(pr.aR (ab (U (some true)) x0.nodes) ((pr.idx 0 i0 16)+3))
    let y8:List D:=(pr.aV (ab (U (some true)) x0.nodes) ((pr.idx 0 i0 16)+3))
    let y9:Option Bool:=(some (pr.bo (ab (U (some true)) x0.nodes) ((pr.idx 0 i0 16)+4)))
    let y10:Nat:=(pr.aR (ab (U (some true)) x0.nodes) ((pr.idx 0 i0 16)+4))
    let y11:List D:=(pr.aV (ab (U (some true)) x0.nodes) ((pr.idx 0 i0 16)+4))
    let y12:Option Bool:=(some (pr.bo (ab (U (some true)) x0.nodes) ((pr.idx 0 i0 16)+5)))
    let y13:Nat:=(pr.aR (ab (U (some true)) x0.nodes) ((pr.idx 0 i0 16)+5))
    let y14:List D:=(pr.aV (ab (U (some true)) x0.nodes) ((pr.idx 0 i0 16)+5))
    let y15:D:=(.bool (pr.cg (ab (U (some true)) x0.nodes) ((pr.idx 0 i0 16)+6)))
    let y16:D:=(.bool (pr.cg (ab (U (some true)) x0.nodes) ((pr.idx 0 i0 16)+7)))
    let y17:D:=(.bool (pr.cg (ab (U (some true)) x0.nodes) ((pr.idx 0 i0 16)+8)))
    let y18:Int:=(pr.bn (ab (U (some true)) x0.nodes) ((pr.idx 0 i0 16)+9))
    let y19:D:=(.int .i64 y18)
    let y20:Option Bool:=(some (pr.bo (ab (U (some true)) x0.nodes) ((pr.idx 0 i0 16)+10)))
    let y21:Nat:=(pr.aR (ab (U (some true)) x0.nodes) ((pr.idx 0 i0 16)+10))
    let y22:List D:=(pr.aV (ab (U (some true)) x0.nodes) ((pr.idx 0 i0 16)+10))
    let y23:Option Bool:=(some (pr.bo (ab (U (some true)) x0.nodes) ((pr.idx 0 i0 16)+11)))
    let y24:Nat:=(pr.aR (ab (U (some true)) x0.nodes) ((pr.idx 0 i0 16)+11))
    let y25:List D:=(pr.aV (ab (U (some true)) x0.nodes) ((pr.idx 0 i0 16)+11))
    let y26:Option Bool:=(some (pr.bo (ab (U (some true)) x0.nodes) ((pr.idx 0 i0 16)+12)))
    let y27:Nat:=(pr.aR (ab (U (some true)) x0.nodes) ((pr.idx 0 i0 16)+12))
    let y28:List D:=(pr.aV (ab (U (some true)) x0.nodes) ((pr.idx 0 i0 16)+12))
    let y29:Option Bool:=(some (pr.bo (ab (U (some true)) x0.nodes) ((pr.idx 0 i0 16)+13)))
    let y30:Nat:=(pr.aR (ab (U (some true)) x0.nodes) ((pr.idx 0 i0 16)+13))
    let y31:List D:=(pr.aV (ab (U (some true)) x0.nodes) ((pr.idx 0 i0 16)+13))
    let y32:Option Bool:=(some (pr.bo (ab (U (some true)) x0.nodes) ((pr.idx 0 i0 16)+14)))
    let y33:Nat:=(pr.aR (ab (U (some true)) x0.nodes) ((pr.idx 0 i0 16)+14))
    let y34:List D:=(pr.aV (ab (U (some true)) x0.nodes) ((pr.idx 0 i0 16)+14))
    let y35:Option Bool:=(some (pr.bo (ab (U (some true)) x0.nodes) ((pr.idx 0 i0 16)+15)))
    let y36:Nat:=(pr.aR (ab (U (some true)) x0.nodes) ((pr.idx 0 i0 16)+15))
    let y37:List D:=(pr.aV (ab (U (some true)) x0.nodes) ((pr.idx 0 i0 16)+15))
    (br (pr.lt i0 3) (br (pr.bD i0 x0.nodes.length) (br (br (pr.cw .i64 (ab (U (some true)) x0.nodes) (pr.idx 0 i0 16)) (br (pr.df (ab (U (some true)) x0.nodes) ((pr.idx 0 i0 16)+1)) (br (pr.df (ab (U (some true)) x0.nodes) ((pr.idx 0 i0 16)+2)) (br (pr.bU 1 (ab (U (some true)) x0.nodes) ((pr.idx 0 i0 16)+3)) (br (pr.bU 1 (ab (U (some true)) x0.nodes) ((pr.idx 0 i0 16)+4)) (br (pr.bU 1 (ab (U (some true)) x0.nodes) ((pr.idx 0 i0 16)+5)) (br (pr.df (ab (U (some true)) x0.nodes) ((pr.idx 0 i0 16)+6)) (br (pr.df (ab (U (some true)) x0.nodes) ((pr.idx 0 i0 16)+7)) (br (pr.df (ab (U (some true)) x0.nodes) ((pr.idx 0 i0 16)+8)) (br (pr.cw .i64 (ab (U (some true)) x0.nodes) ((pr.idx 0 i0 16)+9)) (br (pr.bU 1 (ab (U (some true)) x0.nodes) ((pr.idx 0 i0 16)+10)) (br (pr.bU 1 (ab (U (some true)) x0.nodes) ((pr.idx 0 i0 16)+11)) (br (pr.bU 1 (ab (U (some true)) x0.nodes) ((pr.idx 0 i0 16)+12)) (br (pr.bU 1 (ab (U (some true)) x0.nodes) ((pr.idx 0 i0 16)+13)) (br (pr.bU 1 (ab (U (some true)) x0.nodes) ((pr.idx 0 i0 16)+14)) (br (pr.bU 1 (ab (U (some true)) x0.nodes) ((pr.idx 0 i0 16)+15)) true false) false) false) false) false) false) false) false) false) false) false) false) false) false) false) false) (br (br (pr.eq y1 i0) false true) y2 (cv 41 [(.agg [y3,y4,y5,(.sl y6 1 y7 y8),(.sl y9 1 y10 y11),(.sl y12 1 y13 y14),y15,y16,y17,y19,(.sl y20 1 y21 y22),(.sl y23 1 y24 y25),(.sl y26 1 y27 y28),(.sl y29 1 y30 y31),(.sl y32 1 y33 y34),(.sl y35 1 y36 y37)])] (.bool (fun cf=>(.done (br (br cf false true) y2 (br (pr.lt (pr.aS x0.log.length) y18) y2 (J 2 (mE x0 i0 0 y1 (pr.cg (ab (U (some true)) x0.nodes) ((pr.idx 0 i0 16)+1)) (pr.cg (ab (U (some true)) x0.nodes) ((pr.idx 0 i0 16)+2)) (pr.bo (ab (U (some true)) x0.nodes) ((pr.idx 0 i0 16)+3)) y7 y8 (pr.bo (ab (U (some true)) x0.nodes) ((pr.idx 0 i0 16)+4)) y10 y11 (pr.bo (ab (U (some true)) x0.nodes) ((pr.idx 0 i0 16)+5)) y13 y14 (pr.cg (ab (U (some true)) x0.nodes) ((pr.idx 0 i0 16)+6)) (pr.cg (ab (U (some true)) x0.nodes) ((pr.idx 0 i0 16)+7)) (pr.cg (ab (U (some true)) x0.nodes) ((pr.idx 0 i0 16)+8)) y18 (pr.bo (ab (U (some true)) x0.nodes) ((pr.idx 0 i0 16)+10)) y21 y22 (pr.bo (ab (U (some true)) x0.nodes) ((pr.idx 0 i0 16)+11)) y24 y25 (pr.bo (ab (U (some true)) x0.nodes) ((pr.idx 0 i0 16)+12)) y27 y28 (pr.bo (ab (U (some true)) x0.nodes) ((pr.idx 0 i0 16)+13)) y30 y31 (pr.bo (ab (U (some true)) x0.nodes) ((pr.idx 0 i0 16)+14)) y33 y34 (pr.bo (ab (U (some true)) x0.nodes) ((pr.idx 0 i0 16)+15)) y36 y37))))))))) none) none) (J 4 (j3 x0 0))):=by kernel_rfl
theorem CB (x0:aW) (i0:Int) (i1:Int) (i2:Int) (b3:Bool) (b4:Bool) (g5:Bool) (n6:Nat) (c7:List D) (g8:Bool) (n9:Nat) (xm:List D) (g11:Bool) (fE:Nat) (gg:List D) (me:Bool) (gu:Bool) (jY:Bool) (i17:Int) (g18:Bool) (NY:Nat) (NZ:List D) (g21:Bool) (tN:Nat) (tO:List D) (g24:Bool) (Y0:Nat) (N0:List D) (N1:Bool) (xr:Nat) (xx:List D) (N3:Bool) (n31:Nat) (Y1:List D) (Y2:Bool) (n34:Nat) (Y3:List D):bJ pr cv J 21 Tryz.f21 [.undef] 2 (mE x0 i0 i1 i2 b3 b4 g5 n6 c7 g8 n9 xm g11 fE gg me gu jY i17 g18 NY NZ g21 tN tO g24 Y0 N0 N1 xr xx N3 n31 Y1 Y2 n34 Y3)=
    (br (pr.lt i1 8) (br (pr.bD i1 n6) (br (br (pr.cw .i64 c7 (pr.idx 0 i1 1)) true false) (br (pr.lt (pr.aS x0.log.length) (pr.bn c7 (pr.idx 0 i1 1))) (some ((.bool false),[.undef])) (J 2 (mE x0 i0 (pr.ar .add .i64 i1 1) i2 b3 b4 g5 n6 c7 g8 n9 xm g11 fE gg me gu jY i17 g18 NY NZ g21 tN tO g24 Y0 N0 N1 xr xx N3 n31 Y1 Y2 n34 Y3))) none) none) (J 0 (mD x0 (pr.ar .add .i64 i0 1)))):=by kernel_rfl
theorem CC (x0:aW) (i0:Int):bJ pr cv J 21 Tryz.f21 [.undef] 4 (j3 x0 i0)=
    let y1:Option (D × List D):=(some ((.bool false),[.undef]))
    (br (pr.lt i0 (pr.aS x0.log.length)) (br (pr.bD i0 x0.log.length) (br (br (pr.cw .i64 (ab (cP (some true)) x0.log) (pr.idx 0 i0 2)) true false) (cv 69 [(.int .i64 (pr.bn (ab (cP (some true)) x0.log) (pr.idx 0 i0 2))),(.int .i64 0),(.int .i64 7)] (.bool (fun cf=>(.done (br (br cf false true) y1 (br (pr.bD i0 x0.log.length) (br (br (pr.cw .i64 (ab (cP (some true)) x0.log) ((pr.idx 0 i0 2)+1)) true false) (cv 69 [(.int .i64 (pr.bn (ab (cP (some true)) x0.log) ((pr.idx 0 i0 2)+1))),(.int .i64 0),(.int .i64 i0)] (.bool (fun eN=>(.done (br (br eN false true) y1 (J 4 (j3 x0 (pr.ar .add .i64 i0 1)))))))) none) none)))))) none) none) (J 6 (j4 x0 0))):=by kernel_rfl
theorem CD (x0:aW) (i0:Int):bJ pr cv J 21 Tryz.f21 [.undef] 6 (j4 x0 i0)=
    let y1:Bool:=(br (pr.cw .i64 (ints x0.safe) (pr.idx 0 i0 1)) true false)
    let y2:Option (D × List D):=(some ((.bool false),[.undef]))
    let y3:Option Rz:=(J 6 (j4 x0 (pr.ar .add .i64 i0 1)))
    (br (pr.lt i0 (pr.aS x0.safe.length)) (br (pr.bD i0 x0.safe.length) (br y1 (cv 69 [(.int .i64 (pr.bn (ints x0.safe) (pr.idx 0 i0 1))),(.int .i64 1),(.int .i64 (pr.aS x0.log.length))] (.bool (fun cf=>(.done (br (br cf false true) y2 (br (pr.lt 0 i0) (br (pr.bD (pr.ar .sub .i64 i0 1) x0.safe.length) (br (br (pr.cw .i64 (ints x0.safe) (pr.idx 0 (pr.ar .sub .i64 i0 1) 1)) true false) (br (pr.bD i0 x0.safe.length) (br y1 (br (pr.le (pr.bn (ints x0.safe) (pr.idx 0 i0 1)) (pr.bn (ints x0.safe) (pr.idx 0 (pr.ar .sub .i64 i0 1) 1))) y2 y3) none) none) none) none) y3)))))) none) none) (cv 70 [(.agg [(.sl (some true) 16 x0.nodes.length (ab (U (some true)) x0.nodes)),(.sl (some true) 3 x0.cz.length (ab (bp (some true)) x0.cz)),(.sl (some true) 2 x0.log.length (ab (cP (some true)) x0.log)),(sI (some true) x0.safe),(.int .i64 x0.gen)])] (.bool (fun eN=>(.done (some ((.bool eN),[.undef]))))))):=by kernel_rfl
end
structure Jg (w:aW) (x:dn):Prop where
  src:0≤x.src∧x.src≤2
  dst:0≤x.dst∧x.dst≤2
  ne:¬x.src=x.dst
  conn:(w.nodes.getD x.src.toNat n0).conn.getD x.dst.toNat false=true
  len:x.bytes.length≤400
structure OX (x:ik) (i:Nat):Prop where
  cell:0≤x.cell∧x.cell≤7
  up:0≤x.up∧x.up≤i
structure Xs (w:aW) (i:Nat):Prop where
  wS:1≤w.safe.getD i 0∧w.safe.getD i 0≤w.log.length
  up:0 < (i:Int)→¬w.safe.getD i 0≤w.safe.getD (i - 1) 0
structure Xt (w:aW):Prop where
  sy:∀ i k,i < 3→k < 3→EJ w i k
  wr:∀ i,i < w.cz.length→Jg w (w.cz.getD i w0)
  cz:(w.cz.length:Int)≤40
structure BG (w:aW):Prop where
  ns:Ja w
  cz:(w.cz.length:Int)≤40
  log:(w.log.length:Int)≤200
  gen:2≤w.gen∧w.gen≤100000
  wr:∀ i,i < w.cz.length→Jg w (w.cz.getD i w0)
  rc:∀ i,i < w.log.length→OX (w.log.getD i r0) i
  sf:∀ i,i < w.safe.length→Xs w i
open Classical in
noncomputable def tp (p:Prop):Bool:=decide p
open Classical in
theorem Y4 {p:Prop} (h:p):tp p=true:=by unfold tp; exact decide_eq_true h
open Classical in
theorem aeD {p:Prop} (h:¬p):tp p=false:=by unfold tp; exact decide_eq_false h
open Classical in
theorem adj {p:Prop} (h:tp p=true):p:=by unfold tp at h; exact of_decide_eq_true h
theorem adk {p q:Prop} (h:p↔q):tp p=tp q:=by rw [propext h]
theorem gk {p:Prop} {l:List D} (h:¬p):(some ((.bool false,l):Rz))=some (.bool (tp p),l):=by rw [aeD h]
theorem Y5 {p:Prop} {l:List D} (h:p):(some ((.bool true,l):Rz))=some (.bool (tp p),l):=by rw [Y4 h]
noncomputable def lg (w:aW):Bool:=tp (BG w)
noncomputable def BH (w:aW):Bool:=tp (Xt w)
theorem Vq {w:aW} (h:lg w=true):BG w:=adj h
open Classical in
theorem aeE {w:aW} (h:Ja w):pg w=true:=by unfold pg; exact decide_eq_true h
theorem okW {w:aW} (ok:fp w) {i:Nat} (h:i < w.cz.length):jP (w.cz.getD i w0):=ok.wz _ (I5 h)
theorem gS {p:Nat→Prop} {i:Nat} (h:∀ a,a < i→p a) (hi:p i):∀ a,a < i+1→p a:=by
  intro a ha
  by_cases e:a=i
  · rw [e]; exact hi
  · exact h a (by omega)
theorem Jh (w:aW) (q0:fp w):Cm 23 [.agg (eM (some true) w)] (.bool (lg w),[.undef]):=by
  unfold lg
  have b1:=q0.nodes
  have b2:=q0.cz
  have b3:=q0.log
  have b4:=q0.safe
  refine Cm.step Jc [.undef] fun J hJ=>?_
  rw [Jd]
  try simp (disch:=first | assumption | omega) only [go_sem]
  refine nU (fun h=>?_) (fun h=>gk fun o=>h (aeE o.ns))
  have ns:=aeC h
  have nl:=ns.len
  try simp (disch:=first | assumption | omega) only [go_sem]
  refine bM (fun h=>gk fun o=>absurd o.cz (by omega)) (fun h1=>?_)
  try simp (disch:=first | assumption | omega) only [go_sem]
  refine bM (fun h=>gk fun o=>absurd o.log (by omega)) (fun h2=>?_)
  try simp (disch:=first | assumption | omega) only [go_sem]
  refine bM (fun h3=>?_) (fun h=>gk fun o=>h o.gen)
  have SJ:(∀ i,i < w.cz.length→Jg w (w.cz.getD i w0))→(∀ i,i < w.log.length→OX (w.log.getD i r0) i)→WP 23 Tryz.f23 [.undef] 4 (j2 w w.safe.length ((0:Nat):Int)) (.bool (tp (BG w)),[.undef]):=by
    intro wr rc
    refine WP.up (H:=fun i:Nat=>j2 w w.safe.length (i:Int)) w.safe.length (fun i=>∀ a,a < i→Xs w a) (fun i hi inv J hJ next=>?_) 0 (by omega) (fun a h=>absurd h (by omega))
    rw [Cz]
    try simp (disch:=first | assumption | omega) only [go_sem]
    refine bM (fun hl=>?_) (fun hl=>Y5 ⟨ns,by omega,by omega,h3,wr,rc,fun a ha=>inv a (by omega)⟩)
    try simp (disch:=first | assumption | omega) only [go_sem]
    refine bM (fun hr=>?_) (fun h=>gk fun o=>h (o.sf i (by omega)).wS)
    try simp (disch:=first | assumption | omega) only [go_sem]
    refine bM (fun hp=>?_) (fun hp=>?_)
    · try simp (disch:=first | assumption | omega) only [go_sem]
      rw [show ((i:Int) - 1).toNat=i - 1 by omega]
      refine bM (fun h=>gk fun o=>(o.sf i (by omega)).up hp h) (fun hu=>?_)
      exact next (by omega) (gS inv ⟨hr,fun _=>hu⟩)
    · try simp (disch:=first | assumption | omega) only [go_sem]
      exact next (by omega) (gS inv ⟨hr,fun h=>absurd h hp⟩)
  have second:(∀ i,i < w.cz.length→Jg w (w.cz.getD i w0))→WP 23 Tryz.f23 [.undef] 2 (j1 w w.log.length ((0:Nat):Int)) (.bool (tp (BG w)),[.undef]):=by
    intro wr
    refine WP.up (H:=fun i:Nat=>j1 w w.log.length (i:Int)) w.log.length (fun i=>∀ a,a < i→OX (w.log.getD a r0) a) (fun i hi inv J hJ next=>?_) 0 (by omega) (fun a h=>absurd h (by omega))
    rw [Cy]
    try simp (disch:=first | assumption | omega) only [go_sem]
    refine bM (fun hl=>?_) (fun hl=>hJ _ _ (SJ wr fun a ha=>inv a (by omega)))
    try simp (disch:=first | assumption | omega) only [go_sem]
    refine bM (fun hr=>?_) (fun h=>gk fun o=>h (o.rc i (by omega)).cell)
    try simp (disch:=first | assumption | omega) only [go_sem]
    refine bM (fun hu=>?_) (fun h=>gk fun o=>h (o.rc i (by omega)).up)
    try simp (disch:=first | assumption | omega) only [go_sem]
    exact next (by omega) (gS inv ⟨hr,hu⟩)
  refine hJ _ _ ?_
  refine WP.up (H:=fun i:Nat=>mC w w.cz.length (i:Int)) w.cz.length (fun i=>∀ a,a < i→Jg w (w.cz.getD a w0)) (fun i hi inv J hJ next=>?_) 0 (by omega) (fun a h=>absurd h (by omega))
  rw [Cx]
  try simp (disch:=first | assumption | omega) only [go_sem]
  refine bM (fun hl=>?_) (fun hl=>hJ _ _ (second fun a ha=>inv a (by omega)))
  have ow:=okW q0 (show i < w.cz.length by omega)
  try simp (disch:=first | assumption | omega) only [go_sem]
  refine bM (fun hs=>?_) (fun h=>gk fun o=>h (o.wr i (by omega)).src)
  try simp (disch:=first | assumption | omega) only [go_sem]
  refine bM (fun hd=>?_) (fun h=>gk fun o=>h (o.wr i (by omega)).dst)
  try simp (disch:=first | assumption | omega) only [go_sem]
  refine bM (fun h=>gk fun o=>(o.wr i (by omega)).ne h) (fun hn=>?_)
  have cs:=(iG (ns.nd (w.cz.getD i w0).src.toNat (by omega)).ok).conn
  try simp (disch:=first | assumption | omega) only [go_sem]
  refine nU (fun hc=>?_) (fun h=>gk fun o=>h (o.wr i (by omega)).conn)
  try simp (disch:=first | assumption | omega) only [go_sem]
  refine bM (fun h=>gk fun o=>absurd (o.wr i (by omega)).len (by omega)) (fun hb=>?_)
  try simp (disch:=first | assumption | omega) only [go_sem]
  exact next (by omega) (gS inv ⟨hs,hd,hn,hc,by omega⟩)
@[go_sem] theorem aak (w:aW) (q0:fp w) (t:bG Rz):aO 23 [.agg (mS (some true) w)] t=feed t [.bool (lg w)]:=by
  exact bO (r:=.bool (lg w)) (s:=.bool) (ss:=[.undef]) (Jh w q0) (by kernel_rfl) (by simp only [av,bA,ba,bB,bC,ai,aj,Bool.and_self]) (by simp only [ai,aJ,av,aj,Bool.and_self]) (by first | rfl | simp only [au,aY,aX,bu,bw,aZ,bz,Bool.and_self]) (by first | rfl | simp only [List.all_cons,List.all_nil,au,Bool.and_self]) t
theorem adl {w:aW} {i k:Nat} (hi:i < 3) (hk:k < 3) (o:∀ i k,i < 3→k < 3→EJ w i k):(w.nodes.getD i n0).conn.getD k false=(w.nodes.getD k n0).conn.getD i false:=by
  have h1:=o i k hi hk
  have h2:=o k i hk hi
  unfold EJ at h1 h2
  cases h:(w.nodes.getD i n0).conn.getD k false<;>cases h':(w.nodes.getD k n0).conn.getD i false<;>simp_all
theorem Hg (w:aW) (q0:fp w) (q1:w.nodes.length=3) (q2:∀ i,i < 3→((w.nodes.getD i n0).conn.length:Int)=3):Cm 70 [.agg (eM (some true) w)] (.bool (BH w),[.undef]):=by
  unfold BH
  have b2:=q0.cz
  refine Cm.step He [.undef] fun J hJ=>?_
  rw [Hf]
  have second:(∀ i k,i < 3→k < 3→EJ w i k)→WP 70 Tryz.f70 [.undef] 4 (jf w ((0:Nat):Int)) (.bool (tp (Xt w)),[.undef]):=by
    intro sy
    refine WP.up (H:=fun i:Nat=>jf w (i:Int)) w.cz.length (fun i=>∀ a,a < i→Jg w (w.cz.getD a w0)) (fun i hi inv J hJ next=>?_) 0 (by omega) (fun a h=>absurd h (by omega))
    rw [BF]
    try simp (disch:=first | assumption | omega) only [go_sem]
    refine bM (fun hl=>?_) (fun hl=>?_)
    · have ow:=okW q0 (show i < w.cz.length by omega)
      try simp (disch:=first | assumption | omega) only [go_sem]
      refine bM (fun hs=>?_) (fun h=>gk fun o=>h (o.wr i (by omega)).src)
      try simp (disch:=first | assumption | omega) only [go_sem]
      refine bM (fun hd=>?_) (fun h=>gk fun o=>h (o.wr i (by omega)).dst)
      try simp (disch:=first | assumption | omega) only [go_sem]
      refine bM (fun h=>gk fun o=>(o.wr i (by omega)).ne h) (fun hn=>?_)
      have cs:=q2 (w.cz.getD i w0).src.toNat (by omega)
      try simp (disch:=first | assumption | omega) only [go_sem]
      refine nU (fun hc=>?_) (fun h=>gk fun o=>h (o.wr i (by omega)).conn)
      try simp (disch:=first | assumption | omega) only [go_sem]
      refine bM (fun h=>gk fun o=>absurd (o.wr i (by omega)).len (by omega)) (fun hb=>?_)
      try simp (disch:=first | assumption | omega) only [go_sem]
      exact next (by omega) (gS inv ⟨hs,hd,hn,hc,by omega⟩)
    · by_cases h:(w.cz.length:Int)≤40
      · rw [decide_eq_true h]
        exact Y5 ⟨sy,fun a ha=>inv a (by omega),h⟩
      · rw [decide_eq_false h]
        exact gk fun o=>h o.cz
  refine hJ _ _ ?_
  refine WP.upw (H:=fun i:Nat=>lD w (i:Int)) 3 (fun i=>∀ a,a < i→∀ k,k < 3→(w.nodes.getD a n0).conn.getD k false=(w.nodes.getD k n0).conn.getD a false) (fun i hi inv next=>?_) 0 (by omega) (fun a h=>absurd h (by omega))
  refine WP.step fun J hJ=>?_
  rw [BD]
  try simp (disch:=first | assumption | omega) only [go_sem]
  refine bM (fun hl=>?_) (fun hl=>hJ _ _ (second fun a k ha hk h=>by rw [← inv a (by omega) k hk]; exact h))
  refine hJ _ _ ?_
  refine WP.up (H:=fun k:Nat=>lE w (i:Int) (k:Int)) 3 (fun k=>∀ b,b < k→(w.nodes.getD i n0).conn.getD b false=(w.nodes.getD b n0).conn.getD i false) (fun k hk inv2 J hJ Cn=>?_) 0 (by omega) (fun a h=>absurd h (by omega))
  rw [BE]
  try simp (disch:=first | assumption | omega) only [go_sem]
  refine bM (fun Fl=>?_) (fun Fl=>?_)
  · have ci:=q2 i (by omega)
    have ck:=q2 k (by omega)
    try simp (disch:=first | assumption | omega) only [go_sem]
    refine bM (fun he=>?_) (fun h=>gk fun o=>h (adl (by omega) (by omega) o.sy))
    try simp (disch:=first | assumption | omega) only [go_sem]
    exact Cn (by omega) (gS inv2 he)
  · try simp (disch:=first | assumption | omega) only [go_sem]
    exact hJ _ _ (next (by omega) (gS inv fun b hb=>inv2 b (by omega)))
@[go_sem] theorem Y6 (w:aW) (q0:fp w) (q1:w.nodes.length=3) (q2:∀ i,i < 3→((w.nodes.getD i n0).conn.length:Int)=3) (t:bG Rz):aO 70 [.agg (mS (some true) w)] t=feed t [.bool (BH w)]:=by
  exact bO (r:=.bool (BH w)) (s:=.bool) (ss:=[.undef]) (Hg w q0 q1 q2) (by kernel_rfl) (by simp only [av,bA,ba,bB,bC,ai,aj,Bool.and_self]) (by simp only [ai,aJ,av,aj,Bool.and_self]) (by first | rfl | simp only [au,aY,aX,bu,bw,aZ,bz,Bool.and_self]) (by first | rfl | simp only [List.all_cons,List.all_nil,au,Bool.and_self]) t
theorem adm {l:Int} {xs:List Int} {n:Nat} (e:xs.length=n) (h:∀ k,k < n→xs.getD k 0≤l):∀ x∈xs,x≤l:=by
  intro x hx
  obtain ⟨k,hk,rfl⟩:=List.getElem_of_mem hx
  rw [← ed (d:=0) hk]
  exact h k (by omega)
theorem OY {xs:List Int} (h:jV xs=true):xs.length=8:=by
  unfold jV at h
  simp only [Bool.and_eq_true,decide_eq_true_eq] at h
  omega
theorem Ji (w:aW) (q0:fp w):Cm 21 [.agg (eM (some true) w)] (.bool (lg w),[.undef]):=by
  unfold lg
  have b1:=q0.nodes
  have b2:=q0.cz
  have b3:=q0.log
  have b4:=q0.safe
  refine Cm.step Je [.undef] fun J hJ=>?_
  rw [Jf]
  try simp (disch:=first | assumption | omega) only [go_sem]
  refine bM (fun h3=>?_) (fun h=>gk fun o=>h (by have:=o.ns.len; omega))
  have nl:w.nodes.length=3:=by omega
  try simp (disch:=first | assumption | omega) only [go_sem]
  refine bM (fun h=>gk fun o=>absurd o.log (by omega)) (fun h2=>?_)
  try simp (disch:=first | assumption | omega) only [go_sem]
  refine bM (fun h3=>?_) (fun h=>gk fun o=>h o.gen)
  try simp (disch:=first | assumption | omega) only [go_sem]
  have adn:(∀ i,i < 3→I9 w i)→(∀ i,i < w.log.length→OX (w.log.getD i r0) i)→WP 21 Tryz.f21 [.undef] 6 (j4 w ((0:Nat):Int)) (.bool (tp (BG w)),[.undef]):=by
    intro nd rc
    refine WP.up (H:=fun i:Nat=>j4 w (i:Int)) w.safe.length (fun i=>∀ a,a < i→Xs w a) (fun i hi inv J hJ next=>?_) 0 (by omega) (fun a h=>absurd h (by omega))
    rw [CD]
    try simp (disch:=first | assumption | omega) only [go_sem]
    refine bM (fun hl=>?_) (fun hl=>?_)
    · try simp (disch:=first | assumption | omega) only [go_sem]
      refine bM (fun hr=>?_) (fun h=>gk fun o=>h (o.sf i (by omega)).wS)
      try simp (disch:=first | assumption | omega) only [go_sem]
      refine bM (fun hp=>?_) (fun hp=>?_)
      · try simp (disch:=first | assumption | omega) only [go_sem]
        rw [show ((i:Int) - 1).toNat=i - 1 by omega]
        refine bM (fun h=>gk fun o=>(o.sf i (by omega)).up hp h) (fun hu=>?_)
        exact next (by omega) (gS inv ⟨hr,fun _=>hu⟩)
      · try simp (disch:=first | assumption | omega) only [go_sem]
        exact next (by omega) (gS inv ⟨hr,fun h=>absurd h hp⟩)
    · have hc:∀ i,i < 3→((w.nodes.getD i n0).conn.length:Int)=3:=fun i hi=>(iG (nd i hi).ok).conn
      try simp (disch:=first | assumption | omega) only [go_sem]
      unfold BH
      rw [adk (p:=Xt w) (q:=BG w) ⟨fun o=>⟨⟨nl,nd,o.sy⟩,o.cz,by omega,h3,o.wr,rc,fun a ha=>inv a (by omega)⟩,fun o=>⟨o.ns.sy,o.wr,o.cz⟩⟩]
  have SJ:(∀ i,i < 3→I9 w i)→WP 21 Tryz.f21 [.undef] 4 (j3 w ((0:Nat):Int)) (.bool (tp (BG w)),[.undef]):=by
    intro nd
    refine WP.up (H:=fun i:Nat=>j3 w (i:Int)) w.log.length (fun i=>∀ a,a < i→OX (w.log.getD a r0) a) (fun i hi inv J hJ next=>?_) 0 (by omega) (fun a h=>absurd h (by omega))
    rw [CC]
    try simp (disch:=first | assumption | omega) only [go_sem]
    refine bM (fun hl=>?_) (fun hl=>hJ _ _ (adn nd fun a ha=>inv a (by omega)))
    try simp (disch:=first | assumption | omega) only [go_sem]
    refine bM (fun hr=>?_) (fun h=>gk fun o=>h (o.rc i (by omega)).cell)
    try simp (disch:=first | assumption | omega) only [go_sem]
    refine bM (fun hu=>?_) (fun h=>gk fun o=>h (o.rc i (by omega)).up)
    try simp (disch:=first | assumption | omega) only [go_sem]
    exact next (by omega) (gS inv ⟨hr,hu⟩)
  refine hJ _ _ ?_
  refine WP.upw (H:=fun i:Nat=>mD w (i:Int)) 3 (fun i=>∀ a,a < i→I9 w a) (fun i hi inv next=>?_) 0 (by omega) (fun a h=>absurd h (by omega))
  refine WP.step fun J hJ=>?_
  rw [CA]
  try simp (disch:=first | assumption | omega) only [go_sem]
  refine bM (fun hl=>?_) (fun hl=>hJ _ _ (SJ fun a ha=>inv a (by omega)))
  have oi:=okN q0 (show i < w.nodes.length by omega)
  try simp (disch:=first | assumption | omega) only [go_sem]
  refine bM (fun hd=>?_) (fun h=>gk fun o=>h (o.ns.nd i (by omega)).id)
  try simp (disch:=first | assumption | omega) only [go_sem]
  refine nU (fun hn=>?_) (fun h=>gk fun o=>h (o.ns.nd i (by omega)).ok)
  try simp (disch:=first | assumption | omega) only [go_sem]
  refine bM (fun h=>gk fun o=>absurd (o.ns.nd i (by omega)).last (by omega)) (fun hla=>?_)
  try simp (disch:=first | assumption | omega) only [go_sem]
  have i8:=OY (iG hn).image
  refine hJ _ _ ?_
  refine WP.up (H:=fun k:Nat=>mE w i k _ _ _ _ _ _ _ _ _ _ _ _ _ _ _ _ _ _ _ _ _ _ _ _ _ _ _ _ _ _ _ _ _ _) 8 (fun k=>∀ b,b < k→(w.nodes.getD i n0).image.getD b 0≤w.log.length) (fun k hk inv2 J hJ Cn=>?_) 0 (by omega) (fun a h=>absurd h (by omega))
  rw [CB]
  try simp (disch:=first | assumption | omega) only [go_sem]
  refine bM (fun hk8=>?_) (fun hk8=>?_)
  · try simp (disch:=first | assumption | omega) only [go_sem]
    refine bM (fun h=>gk fun o=>absurd ((o.ns.nd i (by omega)).cells _ (I5 (d:=0) (show k < (w.nodes.getD i n0).image.length by omega))) (by omega)) (fun hc=>?_)
    try simp (disch:=first | assumption | omega) only [go_sem]
    exact Cn (by omega) (gS inv2 (by omega))
  · try simp (disch:=first | assumption | omega) only [go_sem]
    exact hJ _ _ (next (by omega) (gS inv ⟨hn,hd,by omega,adm i8 fun k hk=>inv2 k (by omega)⟩))
@[go_sem] theorem aal (w:aW) (q0:fp w) (t:bG Rz):aO 21 [.agg (mS (some true) w)] t=feed t [.bool (lg w)]:=by
  exact bO (r:=.bool (lg w)) (s:=.bool) (ss:=[.undef]) (Ji w q0) (by kernel_rfl) (by simp only [av,bA,ba,bB,bC,ai,aj,Bool.and_self]) (by simp only [ai,aJ,av,aj,Bool.and_self]) (by first | rfl | simp only [au,aY,aX,bu,bw,aZ,bz,Bool.and_self]) (by first | rfl | simp only [List.all_cons,List.all_nil,au,Bool.and_self]) t
end Go.Proofs.YtockoilcnmljiaaGreat
namespace Go.Proofs.YtockoilcnmljiaaGreat
set_option maxRecDepth 100000
section
variable (pr:dT) (cv:Cv Rz) (J:Nat→St→Option Rz)
theorem PV:Told cfg Tryz.prog 26 Tryz.f26:=⟨by kernel_rfl,Tryz.func26,by kernel_rfl⟩
theorem PW (x0:aW) (x1:Int) (x2:Int):aQ pr cv J 26 Tryz.f26 [(.agg (eM (some true) x0)),(.int .i64 x1),(.int .i64 x2)]=
    let y1:Option (D × List D):=(some ((.aL [(.int .i64 0),(.int .i64 2)]),[.undef,.undef,.undef]))
    let y2:List D:=(pr.aV (ab (U (some true)) x0.nodes) ((pr.idx 0 x1 16)+3))
    (cv 23 [(.agg [(.sl (some true) 16 x0.nodes.length (ab (U (some true)) x0.nodes)),(.sl (some true) 3 x0.cz.length (ab (bp (some true)) x0.cz)),(.sl (some true) 2 x0.log.length (ab (cP (some true)) x0.log)),(sI (some true) x0.safe),(.int .i64 x0.gen)])] (.bool (fun cf=>(.done (br (br cf false true) y1 (cv 76 [(.int .i64 x1)] (.bool (fun eN=>(.done (br (br eN false true) y1 (cv 77 [(.int .i64 x2)] (.bool (fun iq=>(.done (br (br iq false true) y1 (br (pr.bD x1 x0.nodes.length) (br (br (pr.df (ab (U (some true)) x0.nodes) ((pr.idx 0 x1 16)+2)) true false) (br (br (pr.cg (ab (U (some true)) x0.nodes) ((pr.idx 0 x1 16)+2)) false true) y1 (br (pr.bD x1 x0.nodes.length) (br (br (pr.bU 1 (ab (U (some true)) x0.nodes) ((pr.idx 0 x1 16)+3)) true false) (br (pr.bD x2 (pr.aR (ab (U (some true)) x0.nodes) ((pr.idx 0 x1 16)+3))) (br (br (pr.cw .i64 y2 (pr.idx 0 x2 1)) true false) (some ((.aL [(.int .i64 (pr.bn y2 (pr.idx 0 x2 1))),(.int .i64 0)]),[.undef,.undef,.undef])) none) none) none) none)) none) none)))))))))))))))):=by kernel_rfl
theorem PX:Told cfg Tryz.prog 25 Tryz.f25:=⟨by kernel_rfl,Tryz.func25,by kernel_rfl⟩
theorem PY (x0:aW) (x1:Int) (x2:Int):aQ pr cv J 25 Tryz.f25 [(.agg (eM (some true) x0)),(.int .i64 x1),(.int .i64 x2)]=
    let y1:Option (D × List D):=(some ((.aL [(.int .i64 0),(.int .i64 2)]),[.undef,.undef,.undef]))
    let y2:List D:=(pr.aV (ab (U (some true)) x0.nodes) ((pr.idx 0 x1 16)+3))
    (cv 21 [(.agg [(.sl (some true) 16 x0.nodes.length (ab (U (some true)) x0.nodes)),(.sl (some true) 3 x0.cz.length (ab (bp (some true)) x0.cz)),(.sl (some true) 2 x0.log.length (ab (cP (some true)) x0.log)),(sI (some true) x0.safe),(.int .i64 x0.gen)])] (.bool (fun cf=>(.done (br (br cf false true) y1 (cv 69 [(.int .i64 x1),(.int .i64 0),(.int .i64 2)] (.bool (fun eN=>(.done (br (br eN false true) y1 (cv 69 [(.int .i64 x2),(.int .i64 0),(.int .i64 7)] (.bool (fun iq=>(.done (br (br iq false true) y1 (br (pr.bD x1 x0.nodes.length) (br (br (pr.df (ab (U (some true)) x0.nodes) ((pr.idx 0 x1 16)+2)) true false) (br (br (pr.cg (ab (U (some true)) x0.nodes) ((pr.idx 0 x1 16)+2)) false true) y1 (br (pr.bD x1 x0.nodes.length) (br (br (pr.bU 1 (ab (U (some true)) x0.nodes) ((pr.idx 0 x1 16)+3)) true false) (br (pr.bD x2 (pr.aR (ab (U (some true)) x0.nodes) ((pr.idx 0 x1 16)+3))) (br (br (pr.cw .i64 y2 (pr.idx 0 x2 1)) true false) (some ((.aL [(.int .i64 (pr.bn y2 (pr.idx 0 x2 1))),(.int .i64 0)]),[.undef,.undef,.undef])) none) none) none) none)) none) none)))))))))))))))):=by kernel_rfl
end
open Classical in
noncomputable def j8 (w:aW) (a c:Int):Int × Int:=if BG w∧(0≤a∧a≤2)∧(0≤c∧c≤7)∧(w.nodes.getD a.toNat n0).cE=true then ((w.nodes.getD a.toNat n0).image.getD c.toNat 0,0) else (0,2)
theorem pY {w:aW} {a c:Int} {l:List D} (h:¬(BG w∧(0≤a∧a≤2)∧(0≤c∧c≤7)∧(w.nodes.getD a.toNat n0).cE=true)):(some ((.aL [.int .i64 0,.int .i64 2],l):Rz))=some (.aL [.int .i64 (j8 w a c).1,.int .i64 (j8 w a c).2],l):=by
  unfold j8; rw [if_neg h]
theorem OZ {w:aW} {a c:Int} {l:List D} (h:BG w∧(0≤a∧a≤2)∧(0≤c∧c≤7)∧(w.nodes.getD a.toNat n0).cE=true):(some ((.aL [.int .i64 ((w.nodes.getD a.toNat n0).image.getD c.toNat 0),.int .i64 0],l):Rz))=some (.aL [.int .i64 (j8 w a c).1,.int .i64 (j8 w a c).2],l):=by
  unfold j8; rw [if_pos h]
theorem Vr {w:aW} (h:¬lg w=true):¬BG w:=fun o=>h (Y4 o)
theorem PZ (w:aW) (a:Int) (c:Int) (q0:fp w):Cm 26 [.agg (eM (some true) w),.int .i64 a,.int .i64 c] (.aL [.int .i64 ((j8 w a c).1),.int .i64 ((j8 w a c).2)],[.undef,.undef,.undef]):=by
  refine Cm.step PV [.undef,.undef,.undef] fun J hJ=>?_
  rw [PW]
  try simp (disch:=first | assumption | omega) only [go_sem]
  refine nU (fun h=>?_) (fun h=>pY fun o=>Vr h o.1)
  have o:=Vq h
  try simp (disch:=first | assumption | omega) only [go_sem]
  refine bM (fun ha=>?_) (fun h=>pY fun o=>h o.2.1)
  try simp (disch:=first | assumption | omega) only [go_sem]
  refine bM (fun hc=>?_) (fun h=>pY fun o=>h o.2.2.1)
  have nl:=o.ns.len
  have i8:=OY (iG (o.ns.nd a.toNat (by omega)).ok).image
  try simp (disch:=first | assumption | omega) only [go_sem]
  refine nU (fun hp=>?_) (fun h=>pY fun o=>h o.2.2.2)
  try simp (disch:=first | assumption | omega) only [go_sem]
  exact OZ ⟨o,ha,hc,hp⟩
@[go_sem] theorem adH (w:aW) (a:Int) (c:Int) (q0:fp w) (t:bG Rz):aO 26 [.agg (mS (some true) w),.int .i64 a,.int .i64 c] t=feed t [.int .i64 ((j8 w a c).1),.int .i64 ((j8 w a c).2)]:=by
  exact bO (r:=.aL [.int .i64 ((j8 w a c).1),.int .i64 ((j8 w a c).2)]) (s:=.aL [.int .i64,.int .i64]) (ss:=[.undef,.undef,.undef]) (PZ w a c q0) (by kernel_rfl) (by simp only [av,bA,ba,bB,bC,ai,aj,Bool.and_self]) (by simp only [ai,aJ,av,aj,Bool.and_self]) (by first | rfl | simp only [au,aY,aX,bu,bw,aZ,bz,Bool.and_self]) (by first | rfl | simp only [List.all_cons,List.all_nil,au,Bool.and_self]) t
theorem P2 (w:aW) (a:Int) (c:Int) (q0:fp w):Cm 25 [.agg (eM (some true) w),.int .i64 a,.int .i64 c] (.aL [.int .i64 ((j8 w a c).1),.int .i64 ((j8 w a c).2)],[.undef,.undef,.undef]):=by
  refine Cm.step PX [.undef,.undef,.undef] fun J hJ=>?_
  rw [PY]
  try simp (disch:=first | assumption | omega) only [go_sem]
  refine nU (fun h=>?_) (fun h=>pY fun o=>Vr h o.1)
  have o:=Vq h
  try simp (disch:=first | assumption | omega) only [go_sem]
  refine bM (fun ha=>?_) (fun h=>pY fun o=>h o.2.1)
  try simp (disch:=first | assumption | omega) only [go_sem]
  refine bM (fun hc=>?_) (fun h=>pY fun o=>h o.2.2.1)
  have nl:=o.ns.len
  have i8:=OY (iG (o.ns.nd a.toNat (by omega)).ok).image
  try simp (disch:=first | assumption | omega) only [go_sem]
  refine nU (fun hp=>?_) (fun h=>pY fun o=>h o.2.2.2)
  try simp (disch:=first | assumption | omega) only [go_sem]
  exact OZ ⟨o,ha,hc,hp⟩
@[go_sem] theorem adI (w:aW) (a:Int) (c:Int) (q0:fp w) (t:bG Rz):aO 25 [.agg (mS (some true) w),.int .i64 a,.int .i64 c] t=feed t [.int .i64 ((j8 w a c).1),.int .i64 ((j8 w a c).2)]:=by
  exact bO (r:=.aL [.int .i64 ((j8 w a c).1),.int .i64 ((j8 w a c).2)]) (s:=.aL [.int .i64,.int .i64]) (ss:=[.undef,.undef,.undef]) (P2 w a c q0) (by kernel_rfl) (by simp only [av,bA,ba,bB,bC,ai,aj,Bool.and_self]) (by simp only [ai,aJ,av,aj,Bool.and_self]) (by first | rfl | simp only [au,aY,aX,bu,bw,aZ,bz,Bool.and_self]) (by first | rfl | simp only [List.all_cons,List.all_nil,au,Bool.and_self]) t
end Go.Proofs.YtockoilcnmljiaaGreat
namespace Go.Proofs.YtockoilcnmljiaaGreat
set_option maxRecDepth 100000
section
variable (pr:dT) (cv:Cv Rz) (J:Nat→St→Option Rz)
theorem zE:Told cfg Tryz.prog 3 Tryz.f3:=⟨by kernel_rfl,Tryz.func3,by kernel_rfl⟩
theorem zF (g0:Bool) (x0:ae):aQ pr cv J 3 Tryz.f3 [(.agg (U (some g0) x0))]=
    let y1:Option (D × List D):=(some ((.bool true),[.undef]))
    let y2:Option (D × List D):=(some ((.bool false),[.undef]))
    (cv 11 [(.agg (U (some g0) x0)),(.int .i64 1048576)] (.int (fun dm=>(.done (br (pr.lt dm 0) y1 (cv 13 [(.agg (U (some g0) x0))] (.ty fk.node (fun (ff:ae)=>(.done (cv 12 [(.agg (cA true (U none ff)))] (.ty fk.node (fun (kS:ae)=>(.bool (fun vh=>(.done (cv 13 [(.agg (U (some g0) x0))] (.ty fk.node (fun (mQ:ae)=>(.done (cv 14 [(.agg (cA true (U none mQ)))] (.ty fk.node (fun (hI:ae)=>(.bool (fun pQ=>(.done (cv 15 [(.agg (cA true (U none hI))),(.agg (cA true (U none kS)))] (.bool (fun Uw=>(.done (br (br Uw false true) y2 (br (br (pr.beq pQ vh) false true) y2 (cv 13 [(.agg (U (some g0) x0))] (.ty fk.node (fun (vm8:ae)=>(.done (cv 15 [(.agg (cA true (U none mQ))),(.agg (cA true (U none vm8)))] (.bool (fun vb9=>(.done (br (br vb9 false true) y2 (br (br (br (pr.nl (ints mQ.image)) (br (pr.nl (ints mQ.mt.ay)) (br (pr.nl (rows none mQ.mt.bits)) (br (pr.nl (bytes mQ.aM.a)) (br (pr.nl (bytes mQ.aM.b)) (br (pr.nl (aD mQ.conn)) (br (pr.nl (rows none mQ.sync)) (br (pr.nl (aD mQ.aK)) (br (pr.nl (ints mQ.wait)) true false) false) false) false) false) false) false) false) false) true false) (cv 16 [(.agg (U none mQ)),(.int .i64 1)] (.int (fun ag5=>(.int (fun yN=>(.bool (fun Bk=>(.bool (fun al7=>(.sl (fun WK=>(fun Sd=>(.sl (fun WL=>(fun Se=>(.sl (fun HY=>(fun DW=>(.bool (fun al8=>(.bool (fun Sw=>(.bool (fun al9=>(.int (fun adb=>(.sl (fun SB=>(fun SC=>(.sl (fun ag6=>(fun ag7=>(.sl (fun ag8=>(fun ag9=>(.sl (fun aha=>(fun ahb=>(.sl (fun ahc=>(fun ahd=>(.sl (fun ahe=>(fun ahf=>(.done (br (br (br (pr.nl Sd) (br (pr.nl Se) (br (pr.nl DW) (br (pr.nl SC) (br (pr.nl ag7) (br (pr.nl ag9) (br (pr.nl ahb) (br (pr.nl ahd) (br (pr.nl ahf) true false) false) false) false) false) false) false) false) false) true false) (br (br (br (pr.neq mQ.image.length WK) (br (pr.neq mQ.mt.ay.length WL) (br (pr.neq mQ.mt.bits.length HY) (br (pr.neq mQ.aM.a.length SB) (br (pr.neq mQ.aM.b.length ag6) (br (pr.neq mQ.conn.length ag8) (br (pr.neq mQ.sync.length aha) (br (pr.neq mQ.aK.length ahc) (br (pr.neq mQ.wait.length ahe) true false) false) false) false) false) false) false) false) false) true false) (br (pr.lt ag5 0) y2 (cv 15 [(.agg (cA true (U none hI))),(.agg (cA true (U none kS)))] (.bool (fun ahg=>(.done (br (br ahg false true) y2 (br (br (pr.beq pQ vh) false true) y2 (br (br (br (pr.nl (ints hI.image)) (br (pr.nl (ints hI.mt.ay)) (br (pr.nl (rows none hI.mt.bits)) (br (pr.nl (bytes hI.aM.a)) (br (pr.nl (bytes hI.aM.b)) (br (pr.nl (aD hI.conn)) (br (pr.nl (rows none hI.sync)) (br (pr.nl (aD hI.aK)) (br (pr.nl (ints hI.wait)) true false) false) false) false) false) false) false) false) false) true false) (cv 16 [(.agg (U none hI)),(.int .i64 1)] (.int (fun ado=>(.int (fun ama=>(.bool (fun amb=>(.bool (fun amc=>(.sl (fun Xu=>(fun Xv=>(.sl (fun Xw=>(fun Xx=>(.sl (fun Xy=>(fun Xz=>(.bool (fun amd=>(.bool (fun ame=>(.bool (fun amf=>(.int (fun amg=>(.sl (fun XA=>(fun XB=>(.sl (fun XC=>(fun XD=>(.sl (fun XE=>(fun XF=>(.sl (fun XG=>(fun XH=>(.sl (fun XI=>(fun XJ=>(.sl (fun XK=>(fun XL=>(.done (br (br (br (pr.nl Xv) (br (pr.nl Xx) (br (pr.nl Xz) (br (pr.nl XB) (br (pr.nl XD) (br (pr.nl XF) (br (pr.nl XH) (br (pr.nl XJ) (br (pr.nl XL) true false) false) false) false) false) false) false) false) false) true false) (br (br (br (pr.neq hI.image.length Xu) (br (pr.neq hI.mt.ay.length Xw) (br (pr.neq hI.mt.bits.length Xy) (br (pr.neq hI.aM.a.length XA) (br (pr.neq hI.aM.b.length XC) (br (pr.neq hI.conn.length XE) (br (pr.neq hI.sync.length XG) (br (pr.neq hI.aK.length XI) (br (pr.neq hI.wait.length XK) true false) false) false) false) false) false) false) false) false) true false) (cv 17 [(.agg [(.int .i64 hI.id),(.bool hI.up),(.bool hI.cE),(.sl (some true) 1 Xu (cA true Xv)),(.sl (some true) 1 Xw (cA true Xx)),(.sl (some true) 1 Xy (cA true Xz)),(.bool hI.mt.cI),(.bool hI.mt.bN),(.bool hI.mt.held),(.int .i64 hI.mt.last),(.sl (some true) 1 XA (cA true XB)),(.sl (some true) 1 XC (cA true XD)),(.sl (some true) 1 XE (cA true XF)),(.sl (some true) 1 XG (cA true XH)),(.sl (some true) 1 XI (cA true XJ)),(.sl (some true) 1 XK (cA true XL))]),(.int .i64 1)] (.int (fun adp=>(.done (br (pr.lt adp 0) y2 (br (br (pr.eq adp ado) false true) y2 (cv 13 [(.agg (U (some g0) x0))] (.ty fk.node (fun (ahh:ae)=>(.done (cv 14 [(.agg (cA true (U none ahh)))] (.ty fk.node (fun (ahi:ae)=>(.bool (fun ahj=>(.done (cv 15 [(.agg (cA true (U none ahi))),(.agg (cA true (U none kS)))] (.bool (fun ahk=>(.done (br (br ahk false true) y2 (br (br (pr.beq ahj vh) false true) y2 (cv 17 [(.agg [(.int .i64 hI.id),(.bool hI.up),(.bool hI.cE),(.sl (some true) 1 Xu (cA true Xv)),(.sl (some true) 1 Xw (cA true Xx)),(.sl (some true) 1 Xy (cA true Xz)),(.bool hI.mt.cI),(.bool hI.mt.bN),(.bool hI.mt.held),(.int .i64 hI.mt.last),(.sl (some true) 1 XA (cA true XB)),(.sl (some true) 1 XC (cA true XD)),(.sl (some true) 1 XE (cA true XF)),(.sl (some true) 1 XG (cA true XH)),(.sl (some true) 1 XI (cA true XJ)),(.sl (some true) 1 XK (cA true XL))]),(.int .i64 1)] (.int (fun adq=>(.done (br (pr.lt adq 0) y2 (br (br (pr.eq adq ado) false true) y2 y1)))))))))))))))))))))))))))) none) none)))))))))))))))))))))))))))))))))))))))))))))) none)))))))) none) none)))))))))))))))))))))))))))))))))))))))))))))) none))))))))))))))))))))))))))))))))))))))))):=by kernel_rfl
end
theorem XM {n:ae} (ok:bS n):bS (je n).1:=by
  unfold je
  split
  · exact ⟨ok.image,ok.mt,ok.aM,ok.conn,ok.sync,ok.aK,by simp⟩
  · exact ok
theorem Jj (n:ae) (ln:ta n) (hi:Oa n):Cm 3 [.agg (U (some false) n)] (.bool true,[.undef]):=by
  have _:=hi
  refine Cm.step zE _ fun J _=>?_
  rw [zF]
  have a1:=FR (n:=n) (l:=1048576) (by omega) (by omega)
  simp (disch:=first | assumption | omega) only [go_sem]
  refine bM (fun _=>rfl) (fun hv=>?_)
  have ok:bS n:=a1.2.2 (by omega)
  have ok2:=XM ok
  have b1:=OW ok
  have b2:=OW ok2
  simp (disch:=first | assumption | omega) only [go_sem]
end Go.Proofs.YtockoilcnmljiaaGreat
namespace Go.Proofs.YtockoilcnmljiaaGreat.fnExactLeave
open Go.ChangeShapes Go.WideShapes Go.ChangeAt Go.RowKit
set_option maxRecDepth 100000
theorem own:ownKnob Tryz.prog.godebug=none:=by kernel_rfl
theorem laidOut:laidOutB Tryz.prog=true:=by kernel_rfl
theorem lifted (os:Os) (started:os.Started) (H:Type) (enc:TypeId × Value→H):
    ReturnsInHanded {} Tryz.checked os 3 .any (Rows.fnExactLeaveSpec.pre6 enc Tryz.prog Tryz.f3 Rows.fnExactLeaveRow.domain false) (Rows.fnExactLeaveSpec.post enc Tryz.prog Tryz.f3 false true false false):=by
  refine returnsInHanded_of_change_sized (C:=Tryz.checked) own started (by kernel_rfl) Tryz.func3
    (ChangeSpec.witness6 (enc:=enc) (C:=Tryz.checked) false ⟨#[],#[.agg #[.int .i64 0,.bool false,.bool false,.slice none 0 0,.slice none 0 0,.slice none 0 0,.bool false,.bool false,.bool false,.int .i64 0,.slice none 0 0,.slice none 0 0,.slice none 0 0,.slice none 0 0,.slice none 0 0,.slice none 0 0]],[]⟩ 8 (by kernel_rfl) (by kernel_rfl) (by kernel_rfl) (by kernel_rfl)) ?_
  intro W base args ds gs before Y7 hW amh adr _
  have cX:(DataW.weightsEach Tryz.prog (Tryz.f3.params.toList++Rows.fnExactLeaveSpec.plain.varTypes Tryz.prog) (ds++gs)).all (·≤reachBytes)=true:=adr
  have Hq:∀ (j:Nat) t v,Tryz.f3.params[j]?=some t→args[j]?=some v→Value.okWide Tryz.prog W .any base t v:=Y7
  have hW':=hW
  obtain ⟨p,q,Tv,hV,rfl,hfz,fh⟩:=hW
  have hA:DataW.TrodAll enc Tryz.prog W 0 (fun _=>true) true Tryz.f3.params.toList args.toList ds p:=Tv
  rw [Tryz.params3] at hA Hq cX
  obtain ⟨v0,vs0,d0,ds0,p0,q0,akl,rfl,rfl,h0,r0⟩:=trodAll_cons hA
  obtain ⟨rfl,rfl,rfl⟩:=trodAll_nil r0
  obtain rfl:args=#[v0]:=by cases args; simp_all
  obtain ⟨rfl,rfl⟩:=trodVars_none hV
  have k0:=h0
  have lt0:∀ x∈p0,x.block < W.heap.size:=by obtain ⟨m,hm⟩:=k0; exact DataW.trod_lt m _ _ _ hm
  obtain ⟨us0,rfl,_⟩:=okWide_struct Tryz.underlying31 (Hq 0 31 v0 rfl rfl)
  obtain ⟨alC,hf0⟩:=h0
  have QE:∀ z∈d0.weights Tryz.prog 31,z≤reachBytes:=fun z hz=>by
    have:=List.all_eq_true.1 cX z (DataW.weights_mem_each (j:=0) (t:=31) (d:=d0) rfl rfl z hz)
    simpa using this
  obtain ⟨akp,ahl,aeF⟩:=HH (X:=Lk W [] (fun _=>True)) ack UM hf0 (by kernel_rfl) QE
  obtain ⟨n0,rfl,ln0,in0⟩:=ZQ ahl
  clear Tv Y7 adr cX
  refine (Um yC (f:=3) (vs:=#[.agg us0]) (by kernel_rfl) (Jj n0 ln0 in0) (by simp [dM,bZ,dj,fr,bY]) (.cons (ZO aeF) .nil)).mono fun e W' ⟨he,bel⟩=>?_
  subst he
  exact ⟨_,rfl,_,_,_,[],_,[],hW',trodAll_mk1 (shut_bool Tryz.underlying4 _),trodAll_mk1 (Below.trod laidOut (by kernel_rfl) (of_decide_eq_true (by kernel_rfl)) k0 bel lt0),rfl,bel.frame _,fun h=>by cases h⟩
theorem over:Rows.fnExactLeaveRow.holds Tryz.pinned (OpenSpec.ofChange Rows.fnExactLeaveSpec):=
  OpenClaim.holds_of_wide 3 Tryz.f3 rfl rfl rfl rfl rfl rfl rfl ⟨rfl,rfl,rfl,rfl,rfl⟩ rfl rfl rfl rfl rfl (by kernel_rfl) Tryz.func3 (by kernel_rfl)
    (of_decide_eq_true (by kernel_rfl)) (by unfold Func.isWrapper; first | (rw [if_pos (by decide+kernel)]; kernel_rfl) | (rw [if_neg (by decide+kernel)]; exact ⟨rfl,rfl⟩))
    (fun os started H enc _=>lifted os started H enc)
theorem proved:Rows.FnExactLeaveSaid:=over
#print axioms proved
end Go.Proofs.YtockoilcnmljiaaGreat.fnExactLeave
namespace Go.Proofs.YtockoilcnmljiaaGreat
theorem fnExactLeave_holds:Rows.FnExactLeaveSaid:=fnExactLeave.proved
end Go.Proofs.YtockoilcnmljiaaGreat
