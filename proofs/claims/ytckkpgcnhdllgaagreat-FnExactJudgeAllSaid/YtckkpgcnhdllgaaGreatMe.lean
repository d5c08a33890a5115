/- What the proof of FnExactJudgeAll stands on, part 5: an abstract machine on plain data, its soundness, and the contracts of functions. -/
import Derived.Test.YtckkpgcnhdllgaaGreatMd
set_option linter.all false
set_option linter.unusedSimpArgs false
set_option linter.unusedVariables false
set_option linter.unnecessarySimpa false
set_option linter.unusedSectionVars false
namespace Go.Proofs.YtckkpgcnhdllgaaGreat
set_option maxRecDepth 100000
section
variable (pr:dC) (cv:Cv Rz) (J:Nat->St->Option Rz)
def mW (g0:Bool) (n1:Nat) (c2:List D) (i3:Int) (i4:Int):St:=(St.mk [(0,(.sl (some g0) 16 n1 c2)),(1,(.int .i64 i3)),(5,(.int .i64 i4))] [] [] 0)
theorem zb:Told cfg Tryz.prog 113 Tryz.f113:=⟨by kernel_rfl,Tryz.func113,by kernel_rfl⟩
theorem zc (g0:Bool) (n0:Nat) (c0:List D) (a1:Int):aW pr cv J 113 Tryz.f113 [(.sl (some g0) 16 n0 c0),(.int .i64 a1)]=
 (br (pr.lt (pr.ar .sub .i64 a1 (pr.aV n0)) 0) (some ((.int .i64 (-1)),[.undef,.undef])) (J 0 (mW g0 n0 c0 (pr.ar .sub .i64 a1 (pr.aV n0)) 0))):=by kernel_rfl
theorem py (g0:Bool) (n1:Nat) (c2:List D) (i3:Int) (i4:Int):bL pr cv J 113 Tryz.f113 [.undef,.undef] 0 (mW g0 n1 c2 i3 i4)=
 (br (pr.lt i4 (pr.aV n1)) (br (pr.bm i4 n1) (br (br (pr.bR .i64 c2 (pr.idx 0 i4 16)) (br (pr.bW c2 ((pr.idx 0 i4 16)+1)) (br (pr.bW c2 ((pr.idx 0 i4 16)+2)) (br (pr.aN 1 c2 ((pr.idx 0 i4 16)+3)) (br (pr.aN 1 c2 ((pr.idx 0 i4 16)+4)) (br (pr.aN 1 c2 ((pr.idx 0 i4 16)+5)) (br (pr.bW c2 ((pr.idx 0 i4 16)+6)) (br (pr.bW c2 ((pr.idx 0 i4 16)+7)) (br (pr.bW c2 ((pr.idx 0 i4 16)+8)) (br (pr.bR .i64 c2 ((pr.idx 0 i4 16)+9)) (br (pr.aN 1 c2 ((pr.idx 0 i4 16)+10)) (br (pr.aN 1 c2 ((pr.idx 0 i4 16)+11)) (br (pr.aN 1 c2 ((pr.idx 0 i4 16)+12)) (br (pr.aN 1 c2 ((pr.idx 0 i4 16)+13)) (br (pr.aN 1 c2 ((pr.idx 0 i4 16)+14)) (br (pr.aN 1 c2 ((pr.idx 0 i4 16)+15)) true false) false) false) false) false) false) false) false) false) false) false) false) false) false) false) false) (cv 15 [(.agg [(.int .i64 (pr.aO c2 (pr.idx 0 i4 16))),(.bool (pr.bC c2 ((pr.idx 0 i4 16)+1))),(.bool (pr.bC c2 ((pr.idx 0 i4 16)+2))),(.sl (some (pr.aG c2 ((pr.idx 0 i4 16)+3))) 1 (pr.aD c2 ((pr.idx 0 i4 16)+3)) (pr.aF c2 ((pr.idx 0 i4 16)+3))),(.sl (some (pr.aG c2 ((pr.idx 0 i4 16)+4))) 1 (pr.aD c2 ((pr.idx 0 i4 16)+4)) (pr.aF c2 ((pr.idx 0 i4 16)+4))),(.sl (some (pr.aG c2 ((pr.idx 0 i4 16)+5))) 1 (pr.aD c2 ((pr.idx 0 i4 16)+5)) (pr.aF c2 ((pr.idx 0 i4 16)+5))),(.bool (pr.bC c2 ((pr.idx 0 i4 16)+6))),(.bool (pr.bC c2 ((pr.idx 0 i4 16)+7))),(.bool (pr.bC c2 ((pr.idx 0 i4 16)+8))),(.int .i64 (pr.aO c2 ((pr.idx 0 i4 16)+9))),(.sl (some (pr.aG c2 ((pr.idx 0 i4 16)+10))) 1 (pr.aD c2 ((pr.idx 0 i4 16)+10)) (pr.aF c2 ((pr.idx 0 i4 16)+10))),(.sl (some (pr.aG c2 ((pr.idx 0 i4 16)+11))) 1 (pr.aD c2 ((pr.idx 0 i4 16)+11)) (pr.aF c2 ((pr.idx 0 i4 16)+11))),(.sl (some (pr.aG c2 ((pr.idx 0 i4 16)+12))) 1 (pr.aD c2 ((pr.idx 0 i4 16)+12)) (pr.aF c2 ((pr.idx 0 i4 16)+12))),(.sl (some (pr.aG c2 ((pr.idx 0 i4 16)+13))) 1 (pr.aD c2 ((pr.idx 0 i4 16)+13)) (pr.aF c2 ((pr.idx 0 i4 16)+13))),(.sl (some (pr.aG c2 ((pr.idx 0 i4 16)+14))) 1 (pr.aD c2 ((pr.idx 0 i4 16)+14)) (pr.aF c2 ((pr.idx 0 i4 16)+14))),(.sl (some (pr.aG c2 ((pr.idx 0 i4 16)+15))) 1 (pr.aD c2 ((pr.idx 0 i4 16)+15)) (pr.aF c2 ((pr.idx 0 i4 16)+15)))]),(.int .i64 i3)] (.int (fun ef=>(.done (br (pr.lt ef 0) (some ((.int .i64 (-1)),[.undef,.undef])) (J 0 (mW g0 n1 c2 ef (pr.ar .add .i64 i4 1)))))))) none) none) (some ((.int .i64 i3),[.undef,.undef]))):=by kernel_rfl
def j7 (g0:Bool) (n1:Nat) (c2:List D) (i3:Int) (n4:Nat) (c5:List D):St:=(St.mk [(0,(.sl (some g0) 16 n1 c2)),(3,(.ref 10003 [] 0 none)),(4,(.int .i64 i3))] [(10003,[(.sl none 16 n4 c5)])] [] 0)
theorem JY:Told cfg Tryz.prog 120 Tryz.f120:=⟨by kernel_rfl,Tryz.func120,by kernel_rfl⟩
theorem JZ (g0:Bool) (n0:Nat) (c0:List D):aW pr cv J 120 Tryz.f120 [(.sl (some g0) 16 n0 c0)]=
 (br (pr.sZ (pr.aV n0) (pr.aV n0) 248) (J 0 (j7 g0 n0 c0 0 (pr.iv (pr.aV n0)) (fa (pr.iv (pr.aV n0)) [(.int .i64 0),(.bool false),(.bool false),(.nil 1),(.nil 1),(.nil 1),(.bool false),(.bool false),(.bool false),(.int .i64 0),(.nil 1),(.nil 1),(.nil 1),(.nil 1),(.nil 1),(.nil 1)]))) none):=by kernel_rfl
theorem uL (g0:Bool) (n1:Nat) (c2:List D) (i3:Int) (n4:Nat) (c5:List D):bL pr cv J 120 Tryz.f120 [.undef] 0 (j7 g0 n1 c2 i3 n4 c5)=
 (br (pr.lt i3 (pr.aV n1)) (br (pr.bm i3 n1) (br (br (pr.bR .i64 c2 (pr.idx 0 i3 16)) (br (pr.bW c2 ((pr.idx 0 i3 16)+1)) (br (pr.bW c2 ((pr.idx 0 i3 16)+2)) (br (pr.aN 1 c2 ((pr.idx 0 i3 16)+3)) (br (pr.aN 1 c2 ((pr.idx 0 i3 16)+4)) (br (pr.aN 1 c2 ((pr.idx 0 i3 16)+5)) (br (pr.bW c2 ((pr.idx 0 i3 16)+6)) (br (pr.bW c2 ((pr.idx 0 i3 16)+7)) (br (pr.bW c2 ((pr.idx 0 i3 16)+8)) (br (pr.bR .i64 c2 ((pr.idx 0 i3 16)+9)) (br (pr.aN 1 c2 ((pr.idx 0 i3 16)+10)) (br (pr.aN 1 c2 ((pr.idx 0 i3 16)+11)) (br (pr.aN 1 c2 ((pr.idx 0 i3 16)+12)) (br (pr.aN 1 c2 ((pr.idx 0 i3 16)+13)) (br (pr.aN 1 c2 ((pr.idx 0 i3 16)+14)) (br (pr.aN 1 c2 ((pr.idx 0 i3 16)+15)) true false) false) false) false) false) false) false) false) false) false) false) false) false) false) false) false) (cv 17 [(.agg [(.int .i64 (pr.aO c2 (pr.idx 0 i3 16))),(.bool (pr.bC c2 ((pr.idx 0 i3 16)+1))),(.bool (pr.bC c2 ((pr.idx 0 i3 16)+2))),(.sl (some (pr.aG c2 ((pr.idx 0 i3 16)+3))) 1 (pr.aD c2 ((pr.idx 0 i3 16)+3)) (pr.aF c2 ((pr.idx 0 i3 16)+3))),(.sl (some (pr.aG c2 ((pr.idx 0 i3 16)+4))) 1 (pr.aD c2 ((pr.idx 0 i3 16)+4)) (pr.aF c2 ((pr.idx 0 i3 16)+4))),(.sl (some (pr.aG c2 ((pr.idx 0 i3 16)+5))) 1 (pr.aD c2 ((pr.idx 0 i3 16)+5)) (pr.aF c2 ((pr.idx 0 i3 16)+5))),(.bool (pr.bC c2 ((pr.idx 0 i3 16)+6))),(.bool (pr.bC c2 ((pr.idx 0 i3 16)+7))),(.bool (pr.bC c2 ((pr.idx 0 i3 16)+8))),(.int .i64 (pr.aO c2 ((pr.idx 0 i3 16)+9))),(.sl (some (pr.aG c2 ((pr.idx 0 i3 16)+10))) 1 (pr.aD c2 ((pr.idx 0 i3 16)+10)) (pr.aF c2 ((pr.idx 0 i3 16)+10))),(.sl (some (pr.aG c2 ((pr.idx 0 i3 16)+11))) 1 (pr.aD c2 ((pr.idx 0 i3 16)+11)) (pr.aF c2 ((pr.idx 0 i3 16)+11))),(.sl (some (pr.aG c2 ((pr.idx 0 i3 16)+12))) 1 (pr.aD c2 ((pr.idx 0 i3 16)+12)) (pr.aF c2 ((pr.idx 0 i3 16)+12))),(.sl (some (pr.aG c2 ((pr.idx 0 i3 16)+13))) 1 (pr.aD c2 ((pr.idx 0 i3 16)+13)) (pr.aF c2 ((pr.idx 0 i3 16)+13))),(.sl (some (pr.aG c2 ((pr.idx 0 i3 16)+14))) 1 (pr.aD c2 ((pr.idx 0 i3 16)+14)) (pr.aF c2 ((pr.idx 0 i3 16)+14))),(.sl (some (pr.aG c2 ((pr.idx 0 i3 16)+15))) 1 (pr.aD c2 ((pr.idx 0 i3 16)+15)) (pr.aF c2 ((pr.idx 0 i3 16)+15)))])] (.ty gW.node (fun (aL:ae)=>(.done (br (pr.bm i3 n4) (br (br (pr.ne c5) (br (pr.slot c5 (pr.idx 0 i3 16)) (br (pr.slot (List.set c5 (pr.idx 0 i3 16) (.int .i64 aL.id)) ((pr.idx 0 i3 16)+1)) (br (pr.slot (List.set (List.set c5 (pr.idx 0 i3 16) (.int .i64 aL.id)) ((pr.idx 0 i3 16)+1) (.bool aL.up)) ((pr.idx 0 i3 16)+2)) (br (pr.kL 1 (List.set (List.set (List.set c5 (pr.idx 0 i3 16) (.int .i64 aL.id)) ((pr.idx 0 i3 16)+1) (.bool aL.up)) ((pr.idx 0 i3 16)+2) (.bool aL.cQ)) ((pr.idx 0 i3 16)+3)) (br (pr.kL 1 (List.set (List.set (List.set (List.set c5 (pr.idx 0 i3 16) (.int .i64 aL.id)) ((pr.idx 0 i3 16)+1) (.bool aL.up)) ((pr.idx 0 i3 16)+2) (.bool aL.cQ)) ((pr.idx 0 i3 16)+3) (.sl none 1 (List.length aL.image) (List.map (.int .i64) aL.image))) ((pr.idx 0 i3 16)+4)) (br (pr.kL 1 (List.set (List.set (List.set (List.set (List.set c5 (pr.idx 0 i3 16) (.int .i64 aL.id)) ((pr.idx 0 i3 16)+1) (.bool aL.up)) ((pr.idx 0 i3 16)+2) (.bool aL.cQ)) ((pr.idx 0 i3 16)+3) (.sl none 1 (List.length aL.image) (List.map (.int .i64) aL.image))) ((pr.idx 0 i3 16)+4) (.sl none 1 (List.length (ae.mt aL).aP) (List.map (.int .i64) (ae.mt aL).aP))) ((pr.idx 0 i3 16)+5)) (br (pr.slot (List.set (List.set (List.set (List.set (List.set (List.set c5 (pr.idx 0 i3 16) (.int .i64 aL.id)) ((pr.idx 0 i3 16)+1) (.bool aL.up)) ((pr.idx 0 i3 16)+2) (.bool aL.cQ)) ((pr.idx 0 i3 16)+3) (.sl none 1 (List.length aL.image) (List.map (.int .i64) aL.image))) ((pr.idx 0 i3 16)+4) (.sl none 1 (List.length (ae.mt aL).aP) (List.map (.int .i64) (ae.mt aL).aP))) ((pr.idx 0 i3 16)+5) (.sl none 1 (List.length (ae.mt aL).bits) (List.map (fun xs=>(.sl none 1 (List.length xs) (ints xs))) (ae.mt aL).bits))) ((pr.idx 0 i3 16)+6)) (br (pr.slot (List.set (List.set (List.set (List.set (List.set (List.set (List.set c5 (pr.idx 0 i3 16) (.int .i64 aL.id)) ((pr.idx 0 i3 16)+1) (.bool aL.up)) ((pr.idx 0 i3 16)+2) (.bool aL.cQ)) ((pr.idx 0 i3 16)+3) (.sl none 1 (List.length aL.image) (List.map (.int .i64) aL.image))) ((pr.idx 0 i3 16)+4) (.sl none 1 (List.length (ae.mt aL).aP) (List.map (.int .i64) (ae.mt aL).aP))) ((pr.idx 0 i3 16)+5) (.sl none 1 (List.length (ae.mt aL).bits) (List.map (fun xs=>(.sl none 1 (List.length xs) (ints xs))) (ae.mt aL).bits))) ((pr.idx 0 i3 16)+6) (.bool (ae.mt aL).dk)) ((pr.idx 0 i3 16)+7)) (br (pr.slot (List.set (List.set (List.set (List.set (List.set (List.set (List.set (List.set c5 (pr.idx 0 i3 16) (.int .i64 aL.id)) ((pr.idx 0 i3 16)+1) (.bool aL.up)) ((pr.idx 0 i3 16)+2) (.bool aL.cQ)) ((pr.idx 0 i3 16)+3) (.sl none 1 (List.length aL.image) (List.map (.int .i64) aL.image))) ((pr.idx 0 i3 16)+4) (.sl none 1 (List.length (ae.mt aL).aP) (List.map (.int .i64) (ae.mt aL).aP))) ((pr.idx 0 i3 16)+5) (.sl none 1 (List.length (ae.mt aL).bits) (List.map (fun xs=>(.sl none 1 (List.length xs) (ints xs))) (ae.mt aL).bits))) ((pr.idx 0 i3 16)+6) (.bool (ae.mt aL).dk)) ((pr.idx 0 i3 16)+7) (.bool (ae.mt aL).bY)) ((pr.idx 0 i3 16)+8)) (br (pr.slot (List.set (List.set (List.set (List.set (List.set (List.set (List.set (List.set (List.set c5 (pr.idx 0 i3 16) (.int .i64 aL.id)) ((pr.idx 0 i3 16)+1) (.bool aL.up)) ((pr.idx 0 i3 16)+2) (.bool aL.cQ)) ((pr.idx 0 i3 16)+3) (.sl none 1 (List.length aL.image) (List.map (.int .i64) aL.image))) ((pr.idx 0 i3 16)+4) (.sl none 1 (List.length (ae.mt aL).aP) (List.map (.int .i64) (ae.mt aL).aP))) ((pr.idx 0 i3 16)+5) (.sl none 1 (List.length (ae.mt aL).bits) (List.map (fun xs=>(.sl none 1 (List.length xs) (ints xs))) (ae.mt aL).bits))) ((pr.idx 0 i3 16)+6) (.bool (ae.mt aL).dk)) ((pr.idx 0 i3 16)+7) (.bool (ae.mt aL).bY)) ((pr.idx 0 i3 16)+8) (.bool (ae.mt aL).held)) ((pr.idx 0 i3 16)+9)) (br (pr.kL 1 (List.set (List.set (List.set (List.set (List.set (List.set (List.set (List.set (List.set (List.set c5 (pr.idx 0 i3 16) (.int .i64 aL.id)) ((pr.idx 0 i3 16)+1) (.bool aL.up)) ((pr.idx 0 i3 16)+2) (.bool aL.cQ)) ((pr.idx 0 i3 16)+3) (.sl none 1 (List.length aL.image) (List.map (.int .i64) aL.image))) ((pr.idx 0 i3 16)+4) (.sl none 1 (List.length (ae.mt aL).aP) (List.map (.int .i64) (ae.mt aL).aP))) ((pr.idx 0 i3 16)+5) (.sl none 1 (List.length (ae.mt aL).bits) (List.map (fun xs=>(.sl none 1 (List.length xs) (ints xs))) (ae.mt aL).bits))) ((pr.idx 0 i3 16)+6) (.bool (ae.mt aL).dk)) ((pr.idx 0 i3 16)+7) (.bool (ae.mt aL).bY)) ((pr.idx 0 i3 16)+8) (.bool (ae.mt aL).held)) ((pr.idx 0 i3 16)+9) (.int .i64 (ae.mt aL).last)) ((pr.idx 0 i3 16)+10)) (br (pr.kL 1 (List.set (List.set (List.set (List.set (List.set (List.set (List.set (List.set (List.set (List.set (List.set c5 (pr.idx 0 i3 16) (.int .i64 aL.id)) ((pr.idx 0 i3 16)+1) (.bool aL.up)) ((pr.idx 0 i3 16)+2) (.bool aL.cQ)) ((pr.idx 0 i3 16)+3) (.sl none 1 (List.length aL.image) (List.map (.int .i64) aL.image))) ((pr.idx 0 i3 16)+4) (.sl none 1 (List.length (ae.mt aL).aP) (List.map (.int .i64) (ae.mt aL).aP))) ((pr.idx 0 i3 16)+5) (.sl none 1 (List.length (ae.mt aL).bits) (List.map (fun xs=>(.sl none 1 (List.length xs) (ints xs))) (ae.mt aL).bits))) ((pr.idx 0 i3 16)+6) (.bool (ae.mt aL).dk)) ((pr.idx 0 i3 16)+7) (.bool (ae.mt aL).bY)) ((pr.idx 0 i3 16)+8) (.bool (ae.mt aL).held)) ((pr.idx 0 i3 16)+9) (.int .i64 (ae.mt aL).last)) ((pr.idx 0 i3 16)+10) (.sl none 1 (List.length (ae.cE aL).a) (List.map dP (ae.cE aL).a))) ((pr.idx 0 i3 16)+11)) (br (pr.kL 1 (List.set (List.set (List.set (List.set (List.set (List.set (List.set (List.set (List.set (List.set (List.set (List.set c5 (pr.idx 0 i3 16) (.int .i64 aL.id)) ((pr.idx 0 i3 16)+1) (.bool aL.up)) ((pr.idx 0 i3 16)+2) (.bool aL.cQ)) ((pr.idx 0 i3 16)+3) (.sl none 1 (List.length aL.image) (List.map (.int .i64) aL.image))) ((pr.idx 0 i3 16)+4) (.sl none 1 (List.length (ae.mt aL).aP) (List.map (.int .i64) (ae.mt aL).aP))) ((pr.idx 0 i3 16)+5) (.sl none 1 (List.length (ae.mt aL).bits) (List.map (fun xs=>(.sl none 1 (List.length xs) (ints xs))) (ae.mt aL).bits))) ((pr.idx 0 i3 16)+6) (.bool (ae.mt aL).dk)) ((pr.idx 0 i3 16)+7) (.bool (ae.mt aL).bY)) ((pr.idx 0 i3 16)+8) (.bool (ae.mt aL).held)) ((pr.idx 0 i3 16)+9) (.int .i64 (ae.mt aL).last)) ((pr.idx 0 i3 16)+10) (.sl none 1 (List.length (ae.cE aL).a) (List.map dP (ae.cE aL).a))) ((pr.idx 0 i3 16)+11) (.sl none 1 (List.length (ae.cE aL).b) (List.map dP (ae.cE aL).b))) ((pr.idx 0 i3 16)+12)) (br (pr.kL 1 (List.set (List.set (List.set (List.set (List.set (List.set (List.set (List.set (List.set (List.set (List.set (List.set (List.set c5 (pr.idx 0 i3 16) (.int .i64 aL.id)) ((pr.idx 0 i3 16)+1) (.bool aL.up)) ((pr.idx 0 i3 16)+2) (.bool aL.cQ)) ((pr.idx 0 i3 16)+3) (.sl none 1 (List.length aL.image) (List.map (.int .i64) aL.image))) ((pr.idx 0 i3 16)+4) (.sl none 1 (List.length (ae.mt aL).aP) (List.map (.int .i64) (ae.mt aL).aP))) ((pr.idx 0 i3 16)+5) (.sl none 1 (List.length (ae.mt aL).bits) (List.map (fun xs=>(.sl none 1 (List.length xs) (ints xs))) (ae.mt aL).bits))) ((pr.idx 0 i3 16)+6) (.bool (ae.mt aL).dk)) ((pr.idx 0 i3 16)+7) (.bool (ae.mt aL).bY)) ((pr.idx 0 i3 16)+8) (.bool (ae.mt aL).held)) ((pr.idx 0 i3 16)+9) (.int .i64 (ae.mt aL).last)) ((pr.idx 0 i3 16)+10) (.sl none 1 (List.length (ae.cE aL).a) (List.map dP (ae.cE aL).a))) ((pr.idx 0 i3 16)+11) (.sl none 1 (List.length (ae.cE aL).b) (List.map dP (ae.cE aL).b))) ((pr.idx 0 i3 16)+12) (.sl none 1 (List.length aL.conn) (List.map .bool aL.conn))) ((pr.idx 0 i3 16)+13)) (br (pr.kL 1 (List.set (List.set (List.set (List.set (List.set (List.set (List.set (List.set (List.set (List.set (List.set (List.set (List.set (List.set c5 (pr.idx 0 i3 16) (.int .i64 aL.id)) ((pr.idx 0 i3 16)+1) (.bool aL.up)) ((pr.idx 0 i3 16)+2) (.bool aL.cQ)) ((pr.idx 0 i3 16)+3) (.sl none 1 (List.length aL.image) (List.map (.int .i64) aL.image))) ((pr.idx 0 i3 16)+4) (.sl none 1 (List.length (ae.mt aL).aP) (List.map (.int .i64) (ae.mt aL).aP))) ((pr.idx 0 i3 16)+5) (.sl none 1 (List.length (ae.mt aL).bits) (List.map (fun xs=>(.sl none 1 (List.length xs) (ints xs))) (ae.mt aL).bits))) ((pr.idx 0 i3 16)+6) (.bool (ae.mt aL).dk)) ((pr.idx 0 i3 16)+7) (.bool (ae.mt aL).bY)) ((pr.idx 0 i3 16)+8) (.bool (ae.mt aL).held)) ((pr.idx 0 i3 16)+9) (.int .i64 (ae.mt aL).last)) ((pr.idx 0 i3 16)+10) (.sl none 1 (List.length (ae.cE aL).a) (List.map dP (ae.cE aL).a))) ((pr.idx 0 i3 16)+11) (.sl none 1 (List.length (ae.cE aL).b) (List.map dP (ae.cE aL).b))) ((pr.idx 0 i3 16)+12) (.sl none 1 (List.length aL.conn) (List.map .bool aL.conn))) ((pr.idx 0 i3 16)+13) (.sl none 1 (List.length aL.sync) (List.map (fun xs=>(.sl none 1 (List.length xs) (ints xs))) aL.sync))) ((pr.idx 0 i3 16)+14)) (br (pr.kL 1 (List.set (List.set (List.set (List.set (List.set (List.set (List.set (List.set (List.set (List.set (List.set (List.set (List.set (List.set (List.set c5 (pr.idx 0 i3 16) (.int .i64 aL.id)) ((pr.idx 0 i3 16)+1) (.bool aL.up)) ((pr.idx 0 i3 16)+2) (.bool aL.cQ)) ((pr.idx 0 i3 16)+3) (.sl none 1 (List.length aL.image) (List.map (.int .i64) aL.image))) ((pr.idx 0 i3 16)+4) (.sl none 1 (List.length (ae.mt aL).aP) (List.map (.int .i64) (ae.mt aL).aP))) ((pr.idx 0 i3 16)+5) (.sl none 1 (List.length (ae.mt aL).bits) (List.map (fun xs=>(.sl none 1 (List.length xs) (ints xs))) (ae.mt aL).bits))) ((pr.idx 0 i3 16)+6) (.bool (ae.mt aL).dk)) ((pr.idx 0 i3 16)+7) (.bool (ae.mt aL).bY)) ((pr.idx 0 i3 16)+8) (.bool (ae.mt aL).held)) ((pr.idx 0 i3 16)+9) (.int .i64 (ae.mt aL).last)) ((pr.idx 0 i3 16)+10) (.sl none 1 (List.length (ae.cE aL).a) (List.map dP (ae.cE aL).a))) ((pr.idx 0 i3 16)+11) (.sl none 1 (List.length (ae.cE aL).b) (List.map dP (ae.cE aL).b))) ((pr.idx 0 i3 16)+12) (.sl none 1 (List.length aL.conn) (List.map .bool aL.conn))) ((pr.idx 0 i3 16)+13) (.sl none 1 (List.length aL.sync) (List.map (fun xs=>(.sl none 1 (List.length xs) (ints xs))) aL.sync))) ((pr.idx 0 i3 16)+14) (.sl none 1 (List.length aL.bU) (List.map .bool aL.bU))) ((pr.idx 0 i3 16)+15)) true false) false) false) false) false) false) false) false) false) false) false) false) false) false) false) false) false) (cv 999999 [(.sl none 0 0 (List.set (List.set (List.set (List.set (List.set (List.set (List.set (List.set (List.set (List.set (List.set (List.set (List.set (List.set (List.set (List.set c5 (pr.idx 0 i3 16) (.int .i64 aL.id)) ((pr.idx 0 i3 16)+1) (.bool aL.up)) ((pr.idx 0 i3 16)+2) (.bool aL.cQ)) ((pr.idx 0 i3 16)+3) (.sl none 1 (List.length aL.image) (List.map (.int .i64) aL.image))) ((pr.idx 0 i3 16)+4) (.sl none 1 (List.length (ae.mt aL).aP) (List.map (.int .i64) (ae.mt aL).aP))) ((pr.idx 0 i3 16)+5) (.sl none 1 (List.length (ae.mt aL).bits) (List.map (fun xs=>(.sl none 1 (List.length xs) (ints xs))) (ae.mt aL).bits))) ((pr.idx 0 i3 16)+6) (.bool (ae.mt aL).dk)) ((pr.idx 0 i3 16)+7) (.bool (ae.mt aL).bY)) ((pr.idx 0 i3 16)+8) (.bool (ae.mt aL).held)) ((pr.idx 0 i3 16)+9) (.int .i64 (ae.mt aL).last)) ((pr.idx 0 i3 16)+10) (.sl none 1 (List.length (ae.cE aL).a) (List.map dP (ae.cE aL).a))) ((pr.idx 0 i3 16)+11) (.sl none 1 (List.length (ae.cE aL).b) (List.map dP (ae.cE aL).b))) ((pr.idx 0 i3 16)+12) (.sl none 1 (List.length aL.conn) (List.map .bool aL.conn))) ((pr.idx 0 i3 16)+13) (.sl none 1 (List.length aL.sync) (List.map (fun xs=>(.sl none 1 (List.length xs) (ints xs))) aL.sync))) ((pr.idx 0 i3 16)+14) (.sl none 1 (List.length aL.bU) (List.map .bool aL.bU))) ((pr.idx 0 i3 16)+15) (.sl none 1 (List.length aL.wait) (List.map (.int .i64) aL.wait))))] (.sl (fun Ch=>(fun uM=>(.done (J 0 (j7 g0 n1 c2 (pr.ar .add .i64 i3 1) n4 uM))))))) none) none))))) none) none) (some ((.sl none 16 n4 c5),[.undef]))):=by kernel_rfl
def j8 (g0:Bool) (n1:Nat) (c2:List D) (g3:Bool) (n4:Nat) (c5:List D) (i6:Int):St:=(St.mk [(0,(.sl (some g0) 16 n1 c2)),(1,(.sl (some g3) 16 n4 c5)),(5,(.int .i64 i6))] [] [] 0)
theorem J0:Told cfg Tryz.prog 127 Tryz.f127:=⟨by kernel_rfl,Tryz.func127,by kernel_rfl⟩
theorem J1 (g0:Bool) (n0:Nat) (c0:List D) (g1:Bool) (n1:Nat) (c1:List D):aW pr cv J 127 Tryz.f127 [(.sl (some g0) 16 n0 c0),(.sl (some g1) 16 n1 c1)]=
 (br (br (pr.eq (pr.aV n0) (pr.aV n1)) false true) (some ((.bool false),[.undef,.undef])) (J 0 (j8 g0 n0 c0 g1 n1 c1 0))):=by kernel_rfl
theorem uN (g0:Bool) (n1:Nat) (c2:List D) (g3:Bool) (n4:Nat) (c5:List D) (i6:Int):bL pr cv J 127 Tryz.f127 [.undef,.undef] 0 (j8 g0 n1 c2 g3 n4 c5 i6)=
 (br (pr.lt i6 (pr.aV n1)) (br (pr.bm i6 n1) (br (br (pr.bR .i64 c2 (pr.idx 0 i6 16)) (br (pr.bW c2 ((pr.idx 0 i6 16)+1)) (br (pr.bW c2 ((pr.idx 0 i6 16)+2)) (br (pr.aN 1 c2 ((pr.idx 0 i6 16)+3)) (br (pr.aN 1 c2 ((pr.idx 0 i6 16)+4)) (br (pr.aN 1 c2 ((pr.idx 0 i6 16)+5)) (br (pr.bW c2 ((pr.idx 0 i6 16)+6)) (br (pr.bW c2 ((pr.idx 0 i6 16)+7)) (br (pr.bW c2 ((pr.idx 0 i6 16)+8)) (br (pr.bR .i64 c2 ((pr.idx 0 i6 16)+9)) (br (pr.aN 1 c2 ((pr.idx 0 i6 16)+10)) (br (pr.aN 1 c2 ((pr.idx 0 i6 16)+11)) (br (pr.aN 1 c2 ((pr.idx 0 i6 16)+12)) (br (pr.aN 1 c2 ((pr.idx 0 i6 16)+13)) (br (pr.aN 1 c2 ((pr.idx 0 i6 16)+14)) (br (pr.aN 1 c2 ((pr.idx 0 i6 16)+15)) true false) false) false) false) false) false) false) false) false) false) false) false) false) false) false) false) (br (pr.bm i6 n4) (br (br (pr.bR .i64 c5 (pr.idx 0 i6 16)) (br (pr.bW c5 ((pr.idx 0 i6 16)+1)) (br (pr.bW c5 ((pr.idx 0 i6 16)+2)) (br (pr.aN 1 c5 ((pr.idx 0 i6 16)+3)) (br (pr.aN 1 c5 ((pr.idx 0 i6 16)+4)) (br (pr.aN 1 c5 ((pr.idx 0 i6 16)+5)) (br (pr.bW c5 ((pr.idx 0 i6 16)+6)) (br (pr.bW c5 ((pr.idx 0 i6 16)+7)) (br (pr.bW c5 ((pr.idx 0 i6 16)+8)) (br (pr.bR .i64 c5 ((pr.idx 0 i6 16)+9)) (br (pr.aN 1 c5 ((pr.idx 0 i6 16)+10)) (br (pr.aN 1 c5 ((pr.idx 0 i6 16)+11)) (br (pr.aN 1 c5 ((pr.idx 0 i6 16)+12)) (br (pr.aN 1 c5 ((pr.idx 0 i6 16)+13)) (br (pr.aN 1 c5 ((pr.idx 0 i6 16)+14)) (br (pr.aN 1 c5 ((pr.idx 0 i6 16)+15)) true false) false) false) false) false) false) false) false) false) false) false) false) false) false) false) false) (cv 20 [(.agg [(.int .i64 (pr.aO c2 (pr.idx 0 i6 16))),(.bool (pr.bC c2 ((pr.idx 0 i6 16)+1))),(.bool (pr.bC c2 ((pr.idx 0 i6 16)+2))),(.sl (some (pr.aG c2 ((pr.idx 0 i6 16)+3))) 1 (pr.aD c2 ((pr.idx 0 i6 16)+3)) (pr.aF c2 ((pr.idx 0 i6 16)+3))),(.sl (some (pr.aG c2 ((pr.idx 0 i6 16)+4))) 1 (pr.aD c2 ((pr.idx 0 i6 16)+4)) (pr.aF c2 ((pr.idx 0 i6 16)+4))),(.sl (some (pr.aG c2 ((pr.idx 0 i6 16)+5))) 1 (pr.aD c2 ((pr.idx 0 i6 16)+5)) (pr.aF c2 ((pr.idx 0 i6 16)+5))),(.bool (pr.bC c2 ((pr.idx 0 i6 16)+6))),(.bool (pr.bC c2 ((pr.idx 0 i6 16)+7))),(.bool (pr.bC c2 ((pr.idx 0 i6 16)+8))),(.int .i64 (pr.aO c2 ((pr.idx 0 i6 16)+9))),(.sl (some (pr.aG c2 ((pr.idx 0 i6 16)+10))) 1 (pr.aD c2 ((pr.idx 0 i6 16)+10)) (pr.aF c2 ((pr.idx 0 i6 16)+10))),(.sl (some (pr.aG c2 ((pr.idx 0 i6 16)+11))) 1 (pr.aD c2 ((pr.idx 0 i6 16)+11)) (pr.aF c2 ((pr.idx 0 i6 16)+11))),(.sl (some (pr.aG c2 ((pr.idx 0 i6 16)+12))) 1 (pr.aD c2 ((pr.idx 0 i6 16)+12)) (pr.aF c2 ((pr.idx 0 i6 16)+12))),(.sl (some (pr.aG c2 ((pr.idx 0 i6 16)+13))) 1 (pr.aD c2 ((pr.idx 0 i6 16)+13)) (pr.aF c2 ((pr.idx 0 i6 16)+13))),(.sl (some (pr.aG c2 ((pr.idx 0 i6 16)+14))) 1 (pr.aD c2 ((pr.idx 0 i6 16)+14)) (pr.aF c2 ((pr.idx 0 i6 16)+14))),(.sl (some (pr.aG c2 ((pr.idx 0 i6 16)+15))) 1 (pr.aD c2 ((pr.idx 0 i6 16)+15)) (pr.aF c2 ((pr.idx 0 i6 16)+15)))]),(.agg [(.int .i64 (pr.aO c5 (pr.idx 0 i6 16))),(.bool (pr.bC c5 ((pr.idx 0 i6 16)+1))),(.bool (pr.bC c5 ((pr.idx 0 i6 16)+2))),(.sl (some (pr.aG c5 ((pr.idx 0 i6 16)+3))) 1 (pr.aD c5 ((pr.idx 0 i6 16)+3)) (pr.aF c5 ((pr.idx 0 i6 16)+3))),(.sl (some (pr.aG c5 ((pr.idx 0 i6 16)+4))) 1 (pr.aD c5 ((pr.idx 0 i6 16)+4)) (pr.aF c5 ((pr.idx 0 i6 16)+4))),(.sl (some (pr.aG c5 ((pr.idx 0 i6 16)+5))) 1 (pr.aD c5 ((pr.idx 0 i6 16)+5)) (pr.aF c5 ((pr.idx 0 i6 16)+5))),(.bool (pr.bC c5 ((pr.idx 0 i6 16)+6))),(.bool (pr.bC c5 ((pr.idx 0 i6 16)+7))),(.bool (pr.bC c5 ((pr.idx 0 i6 16)+8))),(.int .i64 (pr.aO c5 ((pr.idx 0 i6 16)+9))),(.sl (some (pr.aG c5 ((pr.idx 0 i6 16)+10))) 1 (pr.aD c5 ((pr.idx 0 i6 16)+10)) (pr.aF c5 ((pr.idx 0 i6 16)+10))),(.sl (some (pr.aG c5 ((pr.idx 0 i6 16)+11))) 1 (pr.aD c5 ((pr.idx 0 i6 16)+11)) (pr.aF c5 ((pr.idx 0 i6 16)+11))),(.sl (some (pr.aG c5 ((pr.idx 0 i6 16)+12))) 1 (pr.aD c5 ((pr.idx 0 i6 16)+12)) (pr.aF c5 ((pr.idx 0 i6 16)+12))),(.sl (some (pr.aG c5 ((pr.idx 0 i6 16)+13))) 1 (pr.aD c5 ((pr.idx 0 i6 16)+13)) (pr.aF c5 ((pr.idx 0 i6 16)+13))),(.sl (some (pr.aG c5 ((pr.idx 0 i6 16)+14))) 1 (pr.aD c5 ((pr.idx 0 i6 16)+14)) (pr.aF c5 ((pr.idx 0 i6 16)+14))),(.sl (some (pr.aG c5 ((pr.idx 0 i6 16)+15))) 1 (pr.aD c5 ((pr.idx 0 i6 16)+15)) (pr.aF c5 ((pr.idx 0 i6 16)+15)))])] (.bool (fun bH=>(.done (br (br bH false true) (some ((.bool false),[.undef,.undef])) (J 0 (j8 g0 n1 c2 g3 n4 c5 (pr.ar .add .i64 i6 1)))))))) none) none) none) none) (some ((.bool true),[.undef,.undef]))):=by kernel_rfl
theorem MP:Told cfg Tryz.prog 191 Tryz.f191:=⟨by kernel_rfl,Tryz.func191,by kernel_rfl⟩
theorem MQ (a0:Int) (a1:Int) (g2:Bool) (n2:Nat) (c2:List D) (a3:Int):aW pr cv J 191 Tryz.f191 [(.agg [(.int .i64 a0),(.int .i64 a1),(.sl (some g2) 1 n2 c2)]),(.int .i64 a3)]=
 (cv 159 [(.sl (some g2) 1 n2 c2),(.int .i64 a3)] (.int (fun ef=>(.done (br (pr.lt ef 0) (some ((.int .i64 (-1)),[.undef,.undef])) (some ((.int .i64 ef),[.undef,.undef]))))))):=by kernel_rfl
theorem MR:Told cfg Tryz.prog 197 Tryz.f197:=⟨by kernel_rfl,Tryz.func197,by kernel_rfl⟩
theorem MS (a0:Int) (a1:Int) (g2:Bool) (n2:Nat) (c2:List D):aW pr cv J 197 Tryz.f197 [(.agg [(.int .i64 a0),(.int .i64 a1),(.sl (some g2) 1 n2 c2)])]=
 (cv 166 [(.sl (some g2) 1 n2 c2)] (.sl (fun dN=>(fun dr=>(.done (br (br (br (pr.nl dr) true false) true false) (some ((.agg [(.int .i64 a0),(.int .i64 a1),(.sl none 1 dN dr)]),[.undef])) none)))))):=by kernel_rfl
theorem MT:Told cfg Tryz.prog 207 Tryz.f207:=⟨by kernel_rfl,Tryz.func207,by kernel_rfl⟩
theorem MU (a0:Int) (a1:Int) (g2:Bool) (n2:Nat) (c2:List D) (a3:Int) (a4:Int) (g5:Bool) (n5:Nat) (c5:List D):aW pr cv J 207 Tryz.f207 [(.agg [(.int .i64 a0),(.int .i64 a1),(.sl (some g2) 1 n2 c2)]),(.agg [(.int .i64 a3),(.int .i64 a4),(.sl (some g5) 1 n5 c5)])]=
 let y1:Option (D × List D):=(some ((.bool false),[.undef,.undef]))
 (br (br (pr.eq a0 a3) false true) y1 (br (br (pr.eq a1 a4) false true) y1 (cv 175 [(.sl (some g2) 1 n2 c2),(.sl (some g5) 1 n5 c5)] (.bool (fun bH=>(.done (br (br bH false true) y1 (some ((.bool true),[.undef,.undef]))))))))):=by kernel_rfl
def mX (g0:Bool) (n1:Nat) (c2:List D) (i3:Int) (i4:Int):St:=(St.mk [(0,(.sl (some g0) 3 n1 c2)),(1,(.int .i64 i3)),(5,(.int .i64 i4))] [] [] 0)
theorem zd:Told cfg Tryz.prog 114 Tryz.f114:=⟨by kernel_rfl,Tryz.func114,by kernel_rfl⟩
theorem ze (g0:Bool) (n0:Nat) (c0:List D) (a1:Int):aW pr cv J 114 Tryz.f114 [(.sl (some g0) 3 n0 c0),(.int .i64 a1)]=
 (br (pr.lt (pr.ar .sub .i64 a1 (pr.aV n0)) 0) (some ((.int .i64 (-1)),[.undef,.undef])) (J 0 (mX g0 n0 c0 (pr.ar .sub .i64 a1 (pr.aV n0)) 0))):=by kernel_rfl
theorem pA (g0:Bool) (n1:Nat) (c2:List D) (i3:Int) (i4:Int):bL pr cv J 114 Tryz.f114 [.undef,.undef] 0 (mX g0 n1 c2 i3 i4)=
 (br (pr.lt i4 (pr.aV n1)) (br (pr.bm i4 n1) (br (br (pr.bR .i64 c2 (pr.idx 0 i4 3)) (br (pr.bR .i64 c2 ((pr.idx 0 i4 3)+1)) (br (pr.aN 1 c2 ((pr.idx 0 i4 3)+2)) true false) false) false) (cv 191 [(.agg [(.int .i64 (pr.aO c2 (pr.idx 0 i4 3))),(.int .i64 (pr.aO c2 ((pr.idx 0 i4 3)+1))),(.sl (some (pr.aG c2 ((pr.idx 0 i4 3)+2))) 1 (pr.aD c2 ((pr.idx 0 i4 3)+2)) (pr.aF c2 ((pr.idx 0 i4 3)+2)))]),(.int .i64 i3)] (.int (fun ef=>(.done (br (pr.lt ef 0) (some ((.int .i64 (-1)),[.undef,.undef])) (J 0 (mX g0 n1 c2 ef (pr.ar .add .i64 i4 1)))))))) none) none) (some ((.int .i64 i3),[.undef,.undef]))):=by kernel_rfl
def j9 (g0:Bool) (n1:Nat) (c2:List D) (i3:Int) (n4:Nat) (c5:List D):St:=(St.mk [(0,(.sl (some g0) 3 n1 c2)),(3,(.ref 10003 [] 0 none)),(4,(.int .i64 i3))] [(10003,[(.sl none 3 n4 c5)])] [] 0)
theorem J2:Told cfg Tryz.prog 121 Tryz.f121:=⟨by kernel_rfl,Tryz.func121,by kernel_rfl⟩
theorem J3 (g0:Bool) (n0:Nat) (c0:List D):aW pr cv J 121 Tryz.f121 [(.sl (some g0) 3 n0 c0)]=
 (br (pr.sZ (pr.aV n0) (pr.aV n0) 40) (J 0 (j9 g0 n0 c0 0 (pr.iv (pr.aV n0)) (fa (pr.iv (pr.aV n0)) [(.int .i64 0),(.int .i64 0),(.nil 1)]))) none):=by kernel_rfl
theorem uO (g0:Bool) (n1:Nat) (c2:List D) (i3:Int) (n4:Nat) (c5:List D):bL pr cv J 121 Tryz.f121 [.undef] 0 (j9 g0 n1 c2 i3 n4 c5)=
 (br (pr.lt i3 (pr.aV n1)) (br (pr.bm i3 n1) (br (br (pr.bR .i64 c2 (pr.idx 0 i3 3)) (br (pr.bR .i64 c2 ((pr.idx 0 i3 3)+1)) (br (pr.aN 1 c2 ((pr.idx 0 i3 3)+2)) true false) false) false) (cv 197 [(.agg [(.int .i64 (pr.aO c2 (pr.idx 0 i3 3))),(.int .i64 (pr.aO c2 ((pr.idx 0 i3 3)+1))),(.sl (some (pr.aG c2 ((pr.idx 0 i3 3)+2))) 1 (pr.aD c2 ((pr.idx 0 i3 3)+2)) (pr.aF c2 ((pr.idx 0 i3 3)+2)))])] (.int (fun ef=>(.int (fun iD=>(.sl (fun pg=>(fun ji=>(.done (br (br (br (pr.nl ji) true false) true false) (br (pr.bm i3 n4) (br (br (pr.ne c5) (br (pr.slot c5 (pr.idx 0 i3 3)) (br (pr.slot (List.set c5 (pr.idx 0 i3 3) (.int .i64 ef)) ((pr.idx 0 i3 3)+1)) (br (pr.kL 1 (List.set (List.set c5 (pr.idx 0 i3 3) (.int .i64 ef)) ((pr.idx 0 i3 3)+1) (.int .i64 iD)) ((pr.idx 0 i3 3)+2)) true false) false) false) false) (cv 999999 [(.sl none 0 0 (List.set (List.set (List.set c5 (pr.idx 0 i3 3) (.int .i64 ef)) ((pr.idx 0 i3 3)+1) (.int .i64 iD)) ((pr.idx 0 i3 3)+2) (.sl none 1 pg ji)))] (.sl (fun vn4=>(fun Qt=>(.done (J 0 (j9 g0 n1 c2 (pr.ar .add .i64 i3 1) n4 Qt))))))) none) none) none)))))))))) none) none) (some ((.sl none 3 n4 c5),[.undef]))):=by kernel_rfl
def ka (g0:Bool) (n1:Nat) (c2:List D) (g3:Bool) (n4:Nat) (c5:List D) (i6:Int):St:=(St.mk [(0,(.sl (some g0) 3 n1 c2)),(1,(.sl (some g3) 3 n4 c5)),(5,(.int .i64 i6))] [] [] 0)
theorem J4:Told cfg Tryz.prog 128 Tryz.f128:=⟨by kernel_rfl,Tryz.func128,by kernel_rfl⟩
theorem J5 (g0:Bool) (n0:Nat) (c0:List D) (g1:Bool) (n1:Nat) (c1:List D):aW pr cv J 128 Tryz.f128 [(.sl (some g0) 3 n0 c0),(.sl (some g1) 3 n1 c1)]=
 (br (br (pr.eq (pr.aV n0) (pr.aV n1)) false true) (some ((.bool false),[.undef,.undef])) (J 0 (ka g0 n0 c0 g1 n1 c1 0))):=by kernel_rfl
theorem uP (g0:Bool) (n1:Nat) (c2:List D) (g3:Bool) (n4:Nat) (c5:List D) (i6:Int):bL pr cv J 128 Tryz.f128 [.undef,.undef] 0 (ka g0 n1 c2 g3 n4 c5 i6)=
 (br (pr.lt i6 (pr.aV n1)) (br (pr.bm i6 n1) (br (br (pr.bR .i64 c2 (pr.idx 0 i6 3)) (br (pr.bR .i64 c2 ((pr.idx 0 i6 3)+1)) (br (pr.aN 1 c2 ((pr.idx 0 i6 3)+2)) true false) false) false) (br (pr.bm i6 n4) (br (br (pr.bR .i64 c5 (pr.idx 0 i6 3)) (br (pr.bR .i64 c5 ((pr.idx 0 i6 3)+1)) (br (pr.aN 1 c5 ((pr.idx 0 i6 3)+2)) true false) false) false) (cv 207 [(.agg [(.int .i64 (pr.aO c2 (pr.idx 0 i6 3))),(.int .i64 (pr.aO c2 ((pr.idx 0 i6 3)+1))),(.sl (some (pr.aG c2 ((pr.idx 0 i6 3)+2))) 1 (pr.aD c2 ((pr.idx 0 i6 3)+2)) (pr.aF c2 ((pr.idx 0 i6 3)+2)))]),(.agg [(.int .i64 (pr.aO c5 (pr.idx 0 i6 3))),(.int .i64 (pr.aO c5 ((pr.idx 0 i6 3)+1))),(.sl (some (pr.aG c5 ((pr.idx 0 i6 3)+2))) 1 (pr.aD c5 ((pr.idx 0 i6 3)+2)) (pr.aF c5 ((pr.idx 0 i6 3)+2)))])] (.bool (fun bH=>(.done (br (br bH false true) (some ((.bool false),[.undef,.undef])) (J 0 (ka g0 n1 c2 g3 n4 c5 (pr.ar .add .i64 i6 1)))))))) none) none) none) none) (some ((.bool true),[.undef,.undef]))):=by kernel_rfl
theorem QC:Told cfg Tryz.prog 198 Tryz.f198:=⟨by kernel_rfl,Tryz.func198,by kernel_rfl⟩
theorem QD (a0:Int) (a1:Int):aW pr cv J 198 Tryz.f198 [(.agg [(.int .i64 a0),(.int .i64 a1)])]=
 (some ((.agg [(.int .i64 a0),(.int .i64 a1)]),[.undef])):=by kernel_rfl
theorem QE:Told cfg Tryz.prog 208 Tryz.f208:=⟨by kernel_rfl,Tryz.func208,by kernel_rfl⟩
theorem QF (a0:Int) (a1:Int) (a2:Int) (a3:Int):aW pr cv J 208 Tryz.f208 [(.agg [(.int .i64 a0),(.int .i64 a1)]),(.agg [(.int .i64 a2),(.int .i64 a3)])]=
 let y1:Option (D × List D):=(some ((.bool false),[.undef,.undef]))
 (br (br (pr.eq a0 a2) false true) y1 (br (br (pr.eq a1 a3) false true) y1 (some ((.bool true),[.undef,.undef])))):=by kernel_rfl
theorem MV:Told cfg Tryz.prog 115 Tryz.f115:=⟨by kernel_rfl,Tryz.func115,by kernel_rfl⟩
theorem MW (g0:Bool) (n0:Nat) (c0:List D) (a1:Int):aW pr cv J 115 Tryz.f115 [(.sl (some g0) 2 n0 c0),(.int .i64 a1)]=
 (br (pr.lt (pr.ar .sub .i64 a1 (pr.aV n0)) 0) (some ((.int .i64 (-1)),[.undef,.undef])) (some ((.int .i64 (pr.ar .sub .i64 a1 (pr.aV n0))),[.undef,.undef]))):=by kernel_rfl
def ll (g0:Bool) (n1:Nat) (c2:List D) (i3:Int) (n4:Nat) (c5:List D):St:=(St.mk [(0,(.sl (some g0) 2 n1 c2)),(3,(.ref 10003 [] 0 none)),(4,(.int .i64 i3))] [(10003,[(.sl none 2 n4 c5)])] [] 0)
theorem MX:Told cfg Tryz.prog 122 Tryz.f122:=⟨by kernel_rfl,Tryz.func122,by kernel_rfl⟩
theorem MY (g0:Bool) (n0:Nat) (c0:List D):aW pr cv J 122 Tryz.f122 [(.sl (some g0) 2 n0 c0)]=
 (br (pr.sZ (pr.aV n0) (pr.aV n0) 16) (J 0 (ll g0 n0 c0 0 (pr.iv (pr.aV n0)) (fa (pr.iv (pr.aV n0)) [(.int .i64 0),(.int .i64 0)]))) none):=by kernel_rfl
theorem wx (g0:Bool) (n1:Nat) (c2:List D) (i3:Int) (n4:Nat) (c5:List D):bL pr cv J 122 Tryz.f122 [.undef] 0 (ll g0 n1 c2 i3 n4 c5)=
 (br (pr.lt i3 (pr.aV n1)) (br (pr.bm i3 n1) (br (br (pr.bR .i64 c2 (pr.idx 0 i3 2)) (br (pr.bR .i64 c2 ((pr.idx 0 i3 2)+1)) true false) false) (cv 198 [(.agg [(.int .i64 (pr.aO c2 (pr.idx 0 i3 2))),(.int .i64 (pr.aO c2 ((pr.idx 0 i3 2)+1)))])] (.int (fun ef=>(.int (fun iD=>(.done (br (pr.bm i3 n4) (br (br (pr.ne c5) (br (pr.slot c5 (pr.idx 0 i3 2)) (br (pr.slot (List.set c5 (pr.idx 0 i3 2) (.int .i64 ef)) ((pr.idx 0 i3 2)+1)) true false) false) false) (cv 999999 [(.sl none 0 0 (List.set (List.set c5 (pr.idx 0 i3 2) (.int .i64 ef)) ((pr.idx 0 i3 2)+1) (.int .i64 iD)))] (.sl (fun pg=>(fun ji=>(.done (J 0 (ll g0 n1 c2 (pr.ar .add .i64 i3 1) n4 ji))))))) none) none))))))) none) none) (some ((.sl none 2 n4 c5),[.undef]))):=by kernel_rfl
def lp (g0:Bool) (n1:Nat) (c2:List D) (g3:Bool) (n4:Nat) (c5:List D) (i6:Int):St:=(St.mk [(0,(.sl (some g0) 2 n1 c2)),(1,(.sl (some g3) 2 n4 c5)),(5,(.int .i64 i6))] [] [] 0)
theorem MZ:Told cfg Tryz.prog 129 Tryz.f129:=⟨by kernel_rfl,Tryz.func129,by kernel_rfl⟩
theorem M0 (g0:Bool) (n0:Nat) (c0:List D) (g1:Bool) (n1:Nat) (c1:List D):aW pr cv J 129 Tryz.f129 [(.sl (some g0) 2 n0 c0),(.sl (some g1) 2 n1 c1)]=
 (br (br (pr.eq (pr.aV n0) (pr.aV n1)) false true) (some ((.bool false),[.undef,.undef])) (J 0 (lp g0 n0 c0 g1 n1 c1 0))):=by kernel_rfl
theorem wy (g0:Bool) (n1:Nat) (c2:List D) (g3:Bool) (n4:Nat) (c5:List D) (i6:Int):bL pr cv J 129 Tryz.f129 [.undef,.undef] 0 (lp g0 n1 c2 g3 n4 c5 i6)=
 (br (pr.lt i6 (pr.aV n1)) (br (pr.bm i6 n1) (br (br (pr.bR .i64 c2 (pr.idx 0 i6 2)) (br (pr.bR .i64 c2 ((pr.idx 0 i6 2)+1)) true false) false) (br (pr.bm i6 n4) (br (br (pr.bR .i64 c5 (pr.idx 0 i6 2)) (br (pr.bR .i64 c5 ((pr.idx 0 i6 2)+1)) true false) false) (cv 208 [(.agg [(.int .i64 (pr.aO c2 (pr.idx 0 i6 2))),(.int .i64 (pr.aO c2 ((pr.idx 0 i6 2)+1)))]),(.agg [(.int .i64 (pr.aO c5 (pr.idx 0 i6 2))),(.int .i64 (pr.aO c5 ((pr.idx 0 i6 2)+1)))])] (.bool (fun bH=>(.done (br (br bH false true) (some ((.bool false),[.undef,.undef])) (J 0 (lp g0 n1 c2 g3 n4 c5 (pr.ar .add .i64 i6 1)))))))) none) none) none) none) (some ((.bool true),[.undef,.undef]))):=by kernel_rfl
theorem J6:Told cfg Tryz.prog 34 Tryz.f34:=⟨by kernel_rfl,Tryz.func34,by kernel_rfl⟩
theorem J7 (g0:Bool) (n0:Nat) (c0:List D) (g1:Bool) (n1:Nat) (c1:List D) (g2:Bool) (n2:Nat) (c2:List D) (g3:Bool) (n3:Nat) (c3:List D) (a4:Int) (a5:Int):aW pr cv J 34 Tryz.f34 [(.agg [(.sl (some g0) 16 n0 c0),(.sl (some g1) 3 n1 c1),(.sl (some g2) 2 n2 c2),(.sl (some g3) 1 n3 c3),(.int .i64 a4)]),(.int .i64 a5)]=
 let y1:Option (D × List D):=(some ((.int .i64 (-1)),[.undef,.undef]))
 (cv 113 [(.sl (some g0) 16 n0 c0),(.int .i64 a5)] (.int (fun ef=>(.done (br (pr.lt ef 0) y1 (cv 114 [(.sl (some g1) 3 n1 c1),(.int .i64 ef)] (.int (fun iD=>(.done (br (pr.lt iD 0) y1 (cv 115 [(.sl (some g2) 2 n2 c2),(.int .i64 iD)] (.int (fun uK=>(.done (br (pr.lt uK 0) y1 (cv 64 [(.sl (some g3) 1 n3 c3),(.int .i64 uK)] (.int (fun Ho=>(.done (br (pr.lt Ho 0) y1 (some ((.int .i64 Ho),[.undef,.undef])))))))))))))))))))))):=by kernel_rfl
theorem J8:Told cfg Tryz.prog 36 Tryz.f36:=⟨by kernel_rfl,Tryz.func36,by kernel_rfl⟩
theorem J9 (g0:Bool) (n0:Nat) (c0:List D) (g1:Bool) (n1:Nat) (c1:List D) (g2:Bool) (n2:Nat) (c2:List D) (g3:Bool) (n3:Nat) (c3:List D) (a4:Int):aW pr cv J 36 Tryz.f36 [(.agg [(.sl (some g0) 16 n0 c0),(.sl (some g1) 3 n1 c1),(.sl (some g2) 2 n2 c2),(.sl (some g3) 1 n3 c3),(.int .i64 a4)])]=
 (cv 120 [(.sl (some g0) 16 n0 c0)] (.sl (fun dN=>(fun dr=>(.done (br (br (br (pr.nl dr) true false) true false) (cv 121 [(.sl (some g1) 3 n1 c1)] (.sl (fun pg=>(fun ji=>(.done (br (br (br (pr.nl ji) true false) true false) (cv 122 [(.sl (some g2) 2 n2 c2)] (.sl (fun vn4=>(fun Qt=>(.done (br (br (br (pr.nl Qt) true false) true false) (cv 71 [(.sl (some g3) 1 n3 c3)] (.sl (fun vn6=>(fun vc7=>(.done (br (br (br (pr.nl vc7) true false) true false) (some ((.agg [(.sl none 16 dN dr),(.sl none 3 pg ji),(.sl none 2 vn4 Qt),(.sl none 1 vn6 vc7),(.int .i64 a4)]),[.undef])) none)))))) none)))))) none)))))) none)))))):=by kernel_rfl
theorem Ka:Told cfg Tryz.prog 38 Tryz.f38:=⟨by kernel_rfl,Tryz.func38,by kernel_rfl⟩
theorem Kb (g0:Bool) (n0:Nat) (c0:List D) (g1:Bool) (n1:Nat) (c1:List D) (g2:Bool) (n2:Nat) (c2:List D) (g3:Bool) (n3:Nat) (c3:List D) (a4:Int) (g5:Bool) (n5:Nat) (c5:List D) (g6:Bool) (n6:Nat) (c6:List D) (g7:Bool) (n7:Nat) (c7:List D) (g8:Bool) (n8:Nat) (c8:List D) (a9:Int):aW pr cv J 38 Tryz.f38 [(.agg [(.sl (some g0) 16 n0 c0),(.sl (some g1) 3 n1 c1),(.sl (some g2) 2 n2 c2),(.sl (some g3) 1 n3 c3),(.int .i64 a4)]),(.agg [(.sl (some g5) 16 n5 c5),(.sl (some g6) 3 n6 c6),(.sl (some g7) 2 n7 c7),(.sl (some g8) 1 n8 c8),(.int .i64 a9)])]=
 let y1:Option (D × List D):=(some ((.bool false),[.undef,.undef]))
 (cv 127 [(.sl (some g0) 16 n0 c0),(.sl (some g5) 16 n5 c5)] (.bool (fun bH=>(.done (br (br bH false true) y1 (cv 128 [(.sl (some g1) 3 n1 c1),(.sl (some g6) 3 n6 c6)] (.bool (fun eQ=>(.done (br (br eQ false true) y1 (cv 129 [(.sl (some g2) 2 n2 c2),(.sl (some g7) 2 n7 c7)] (.bool (fun gi=>(.done (br (br gi false true) y1 (cv 19 [(.sl (some g3) 1 n3 c3),(.sl (some g8) 1 n8 c8)] (.bool (fun wk=>(.done (br (br wk false true) y1 (br (br (pr.eq a4 a9) false true) y1 (some ((.bool true),[.undef,.undef]))))))))))))))))))))))):=by kernel_rfl
end
theorem pB (i w:Nat):ad.idx 0 (i:Int) w=i*w:=by rw [aaL,abn]
section
variable {α:Type} {e:α->List D} {w:Nat} (hw:∀ x,(e x).length=w) {xs:List α} {i k:Nat} (hi:i < xs.length) (hk:k < w)
include hw hi hk
theorem zf (kk:IntKind):ad.bR kk (ab e xs) (i*w+k)=ad.bR kk (e xs[i]) k:=by simp only [ad,mU hw xs hi hk]
theorem vv:ad.aO (ab e xs) (i*w+k)=ad.aO (e xs[i]) k:=by simp only [ad,mU hw xs hi hk]
theorem Ci:ad.bW (ab e xs) (i*w+k)=ad.bW (e xs[i]) k:=by simp only [ad,mU hw xs hi hk]
theorem zg:ad.bC (ab e xs) (i*w+k)=ad.bC (e xs[i]) k:=by simp only [ad,mU hw xs hi hk]
theorem pR (s:Nat):ad.aN s (ab e xs) (i*w+k)=ad.aN s (e xs[i]) k:=by simp only [ad,mU hw xs hi hk]
theorem nw:ad.aG (ab e xs) (i*w+k)=ad.aG (e xs[i]) k:=by simp only [ad,mU hw xs hi hk]
theorem ny:ad.aD (ab e xs) (i*w+k)=ad.aD (e xs[i]) k:=by simp only [ad,mU hw xs hi hk]
theorem nz:ad.aF (ab e xs) (i*w+k)=ad.aF (e xs[i]) k:=by simp only [ad,mU hw xs hi hk]
end
theorem Hr {g:Bool} {xs:List ae} {i:Nat} (h:i < xs.length):ad.bR .i64 (ab (U (some g)) xs) (i*16)=true:=(zf (e:=U (some g)) (w:=16) (fun _=>rfl) (k:=0) h (by omega) _).trans rfl
theorem Ht {g:Bool} {xs:List ae} {i:Nat} (h:i < xs.length):ad.aO (ab (U (some g)) xs) (i*16)=xs[i].id:=(vv (e:=U (some g)) (w:=16) (fun _=>rfl) (k:=0) h (by omega)).trans rfl
theorem Hu {g:Bool} {xs:List ae} {i:Nat} (h:i < xs.length):ad.bW (ab (U (some g)) xs) (i*16+1)=true:=(Ci (e:=U (some g)) (w:=16) (fun _=>rfl) (k:=1) h (by omega)).trans rfl
theorem Hv {g:Bool} {xs:List ae} {i:Nat} (h:i < xs.length):ad.bC (ab (U (some g)) xs) (i*16+1)=xs[i].up:=(zg (e:=U (some g)) (w:=16) (fun _=>rfl) (k:=1) h (by omega)).trans rfl
theorem Hw {g:Bool} {xs:List ae} {i:Nat} (h:i < xs.length):ad.bW (ab (U (some g)) xs) (i*16+2)=true:=(Ci (e:=U (some g)) (w:=16) (fun _=>rfl) (k:=2) h (by omega)).trans rfl
theorem Hy {g:Bool} {xs:List ae} {i:Nat} (h:i < xs.length):ad.bC (ab (U (some g)) xs) (i*16+2)=xs[i].cQ:=(zg (e:=U (some g)) (w:=16) (fun _=>rfl) (k:=2) h (by omega)).trans rfl
theorem Hz {g:Bool} {xs:List ae} {i:Nat} (h:i < xs.length):ad.aN 1 (ab (U (some g)) xs) (i*16+3)=true:=(pR (e:=U (some g)) (w:=16) (fun _=>rfl) (k:=3) h (by omega) _).trans rfl
theorem HA {g:Bool} {xs:List ae} {i:Nat} (h:i < xs.length):ad.aG (ab (U (some g)) xs) (i*16+3)=g:=(nw (e:=U (some g)) (w:=16) (fun _=>rfl) (k:=3) h (by omega)).trans rfl
theorem HB {g:Bool} {xs:List ae} {i:Nat} (h:i < xs.length):ad.aD (ab (U (some g)) xs) (i*16+3)=xs[i].image.length:=(ny (e:=U (some g)) (w:=16) (fun _=>rfl) (k:=3) h (by omega)).trans rfl
theorem HC {g:Bool} {xs:List ae} {i:Nat} (h:i < xs.length):ad.aF (ab (U (some g)) xs) (i*16+3)=ints xs[i].image:=(nz (e:=U (some g)) (w:=16) (fun _=>rfl) (k:=3) h (by omega)).trans rfl
theorem HD {g:Bool} {xs:List ae} {i:Nat} (h:i < xs.length):ad.aN 1 (ab (U (some g)) xs) (i*16+4)=true:=(pR (e:=U (some g)) (w:=16) (fun _=>rfl) (k:=4) h (by omega) _).trans rfl
theorem HE {g:Bool} {xs:List ae} {i:Nat} (h:i < xs.length):ad.aG (ab (U (some g)) xs) (i*16+4)=g:=(nw (e:=U (some g)) (w:=16) (fun _=>rfl) (k:=4) h (by omega)).trans rfl
theorem HF {g:Bool} {xs:List ae} {i:Nat} (h:i < xs.length):ad.aD (ab (U (some g)) xs) (i*16+4)=xs[i].mt.aP.length:=(ny (e:=U (some g)) (w:=16) (fun _=>rfl) (k:=4) h (by omega)).trans rfl
theorem HG {g:Bool} {xs:List ae} {i:Nat} (h:i < xs.length):ad.aF (ab (U (some g)) xs) (i*16+4)=ints xs[i].mt.aP:=(nz (e:=U (some g)) (w:=16) (fun _=>rfl) (k:=4) h (by omega)).trans rfl
theorem HH {g:Bool} {xs:List ae} {i:Nat} (h:i < xs.length):ad.aN 1 (ab (U (some g)) xs) (i*16+5)=true:=(pR (e:=U (some g)) (w:=16) (fun _=>rfl) (k:=5) h (by omega) _).trans rfl
theorem HI {g:Bool} {xs:List ae} {i:Nat} (h:i < xs.length):ad.aG (ab (U (some g)) xs) (i*16+5)=g:=(nw (e:=U (some g)) (w:=16) (fun _=>rfl) (k:=5) h (by omega)).trans rfl
theorem HJ {g:Bool} {xs:List ae} {i:Nat} (h:i < xs.length):ad.aD (ab (U (some g)) xs) (i*16+5)=xs[i].mt.bits.length:=(ny (e:=U (some g)) (w:=16) (fun _=>rfl) (k:=5) h (by omega)).trans rfl
theorem HK {g:Bool} {xs:List ae} {i:Nat} (h:i < xs.length):ad.aF (ab (U (some g)) xs) (i*16+5)=rows (some g) xs[i].mt.bits:=(nz (e:=U (some g)) (w:=16) (fun _=>rfl) (k:=5) h (by omega)).trans rfl
theorem HL {g:Bool} {xs:List ae} {i:Nat} (h:i < xs.length):ad.bW (ab (U (some g)) xs) (i*16+6)=true:=(Ci (e:=U (some g)) (w:=16) (fun _=>rfl) (k:=6) h (by omega)).trans rfl
theorem HM {g:Bool} {xs:List ae} {i:Nat} (h:i < xs.length):ad.bC (ab (U (some g)) xs) (i*16+6)=xs[i].mt.dk:=(zg (e:=U (some g)) (w:=16) (fun _=>rfl) (k:=6) h (by omega)).trans rfl
theorem HN {g:Bool} {xs:List ae} {i:Nat} (h:i < xs.length):ad.bW (ab (U (some g)) xs) (i*16+7)=true:=(Ci (e:=U (some g)) (w:=16) (fun _=>rfl) (k:=7) h (by omega)).trans rfl
theorem HO {g:Bool} {xs:List ae} {i:Nat} (h:i < xs.length):ad.bC (ab (U (some g)) xs) (i*16+7)=xs[i].mt.bY:=(zg (e:=U (some g)) (w:=16) (fun _=>rfl) (k:=7) h (by omega)).trans rfl
theorem HP {g:Bool} {xs:List ae} {i:Nat} (h:i < xs.length):ad.bW (ab (U (some g)) xs) (i*16+8)=true:=(Ci (e:=U (some g)) (w:=16) (fun _=>rfl) (k:=8) h (by omega)).trans rfl
theorem HQ {g:Bool} {xs:List ae} {i:Nat} (h:i < xs.length):ad.bC (ab (U (some g)) xs) (i*16+8)=xs[i].mt.held:=(zg (e:=U (some g)) (w:=16) (fun _=>rfl) (k:=8) h (by omega)).trans rfl
theorem HR {g:Bool} {xs:List ae} {i:Nat} (h:i < xs.length):ad.bR .i64 (ab (U (some g)) xs) (i*16+9)=true:=(zf (e:=U (some g)) (w:=16) (fun _=>rfl) (k:=9) h (by omega) _).trans rfl
theorem HS {g:Bool} {xs:List ae} {i:Nat} (h:i < xs.length):ad.aO (ab (U (some g)) xs) (i*16+9)=xs[i].mt.last:=(vv (e:=U (some g)) (w:=16) (fun _=>rfl) (k:=9) h (by omega)).trans rfl
theorem Cj {g:Bool} {xs:List ae} {i:Nat} (h:i < xs.length):ad.aN 1 (ab (U (some g)) xs) (i*16+10)=true:=(pR (e:=U (some g)) (w:=16) (fun _=>rfl) (k:=10) h (by omega) _).trans rfl
theorem Ck {g:Bool} {xs:List ae} {i:Nat} (h:i < xs.length):ad.aG (ab (U (some g)) xs) (i*16+10)=g:=(nw (e:=U (some g)) (w:=16) (fun _=>rfl) (k:=10) h (by omega)).trans rfl
theorem Cl {g:Bool} {xs:List ae} {i:Nat} (h:i < xs.length):ad.aD (ab (U (some g)) xs) (i*16+10)=xs[i].cE.a.length:=(ny (e:=U (some g)) (w:=16) (fun _=>rfl) (k:=10) h (by omega)).trans rfl
theorem Cn {g:Bool} {xs:List ae} {i:Nat} (h:i < xs.length):ad.aF (ab (U (some g)) xs) (i*16+10)=bytes xs[i].cE.a:=(nz (e:=U (some g)) (w:=16) (fun _=>rfl) (k:=10) h (by omega)).trans rfl
theorem Co {g:Bool} {xs:List ae} {i:Nat} (h:i < xs.length):ad.aN 1 (ab (U (some g)) xs) (i*16+11)=true:=(pR (e:=U (some g)) (w:=16) (fun _=>rfl) (k:=11) h (by omega) _).trans rfl
theorem Cp {g:Bool} {xs:List ae} {i:Nat} (h:i < xs.length):ad.aG (ab (U (some g)) xs) (i*16+11)=g:=(nw (e:=U (some g)) (w:=16) (fun _=>rfl) (k:=11) h (by omega)).trans rfl
theorem Cq {g:Bool} {xs:List ae} {i:Nat} (h:i < xs.length):ad.aD (ab (U (some g)) xs) (i*16+11)=xs[i].cE.b.length:=(ny (e:=U (some g)) (w:=16) (fun _=>rfl) (k:=11) h (by omega)).trans rfl
theorem Cr {g:Bool} {xs:List ae} {i:Nat} (h:i < xs.length):ad.aF (ab (U (some g)) xs) (i*16+11)=bytes xs[i].cE.b:=(nz (e:=U (some g)) (w:=16) (fun _=>rfl) (k:=11) h (by omega)).trans rfl
theorem Cs {g:Bool} {xs:List ae} {i:Nat} (h:i < xs.length):ad.aN 1 (ab (U (some g)) xs) (i*16+12)=true:=(pR (e:=U (some g)) (w:=16) (fun _=>rfl) (k:=12) h (by omega) _).trans rfl
theorem Ct {g:Bool} {xs:List ae} {i:Nat} (h:i < xs.length):ad.aG (ab (U (some g)) xs) (i*16+12)=g:=(nw (e:=U (some g)) (w:=16) (fun _=>rfl) (k:=12) h (by omega)).trans rfl
theorem Cu {g:Bool} {xs:List ae} {i:Nat} (h:i < xs.length):ad.aD (ab (U (some g)) xs) (i*16+12)=xs[i].conn.length:=(ny (e:=U (some g)) (w:=16) (fun _=>rfl) (k:=12) h (by omega)).trans rfl
theorem Cw {g:Bool} {xs:List ae} {i:Nat} (h:i < xs.length):ad.aF (ab (U (some g)) xs) (i*16+12)=bB xs[i].conn:=(nz (e:=U (some g)) (w:=16) (fun _=>rfl) (k:=12) h (by omega)).trans rfl
theorem Cx {g:Bool} {xs:List ae} {i:Nat} (h:i < xs.length):ad.aN 1 (ab (U (some g)) xs) (i*16+13)=true:=(pR (e:=U (some g)) (w:=16) (fun _=>rfl) (k:=13) h (by omega) _).trans rfl
theorem Cy {g:Bool} {xs:List ae} {i:Nat} (h:i < xs.length):ad.aG (ab (U (some g)) xs) (i*16+13)=g:=(nw (e:=U (some g)) (w:=16) (fun _=>rfl) (k:=13) h (by omega)).trans rfl
theorem Cz {g:Bool} {xs:List ae} {i:Nat} (h:i < xs.length):ad.aD (ab (U (some g)) xs) (i*16+13)=xs[i].sync.length:=(ny (e:=U (some g)) (w:=16) (fun _=>rfl) (k:=13) h (by omega)).trans rfl
theorem CA {g:Bool} {xs:List ae} {i:Nat} (h:i < xs.length):ad.aF (ab (U (some g)) xs) (i*16+13)=rows (some g) xs[i].sync:=(nz (e:=U (some g)) (w:=16) (fun _=>rfl) (k:=13) h (by omega)).trans rfl
theorem CB {g:Bool} {xs:List ae} {i:Nat} (h:i < xs.length):ad.aN 1 (ab (U (some g)) xs) (i*16+14)=true:=(pR (e:=U (some g)) (w:=16) (fun _=>rfl) (k:=14) h (by omega) _).trans rfl
theorem CC {g:Bool} {xs:List ae} {i:Nat} (h:i < xs.length):ad.aG (ab (U (some g)) xs) (i*16+14)=g:=(nw (e:=U (some g)) (w:=16) (fun _=>rfl) (k:=14) h (by omega)).trans rfl
theorem CD {g:Bool} {xs:List ae} {i:Nat} (h:i < xs.length):ad.aD (ab (U (some g)) xs) (i*16+14)=xs[i].bU.length:=(ny (e:=U (some g)) (w:=16) (fun _=>rfl) (k:=14) h (by omega)).trans rfl
theorem CE {g:Bool} {xs:List ae} {i:Nat} (h:i < xs.length):ad.aF (ab (U (some g)) xs) (i*16+14)=bB xs[i].bU:=(nz (e:=U (some g)) (w:=16) (fun _=>rfl) (k:=14) h (by omega)).trans rfl
theorem CF {g:Bool} {xs:List ae} {i:Nat} (h:i < xs.length):ad.aN 1 (ab (U (some g)) xs) (i*16+15)=true:=(pR (e:=U (some g)) (w:=16) (fun _=>rfl) (k:=15) h (by omega) _).trans rfl
theorem CG {g:Bool} {xs:List ae} {i:Nat} (h:i < xs.length):ad.aG (ab (U (some g)) xs) (i*16+15)=g:=(nw (e:=U (some g)) (w:=16) (fun _=>rfl) (k:=15) h (by omega)).trans rfl
theorem CH {g:Bool} {xs:List ae} {i:Nat} (h:i < xs.length):ad.aD (ab (U (some g)) xs) (i*16+15)=xs[i].wait.length:=(ny (e:=U (some g)) (w:=16) (fun _=>rfl) (k:=15) h (by omega)).trans rfl
theorem CI {g:Bool} {xs:List ae} {i:Nat} (h:i < xs.length):ad.aF (ab (U (some g)) xs) (i*16+15)=ints xs[i].wait:=(nz (e:=U (some g)) (w:=16) (fun _=>rfl) (k:=15) h (by omega)).trans rfl
theorem HT {g:Bool} {xs:List dn} {i:Nat} (h:i < xs.length):ad.bR .i64 (ab (aB (some g)) xs) (i*3)=true:=(zf (e:=aB (some g)) (w:=3) (fun _=>rfl) (k:=0) h (by omega) _).trans rfl
theorem HU {g:Bool} {xs:List dn} {i:Nat} (h:i < xs.length):ad.aO (ab (aB (some g)) xs) (i*3)=xs[i].src:=(vv (e:=aB (some g)) (w:=3) (fun _=>rfl) (k:=0) h (by omega)).trans rfl
theorem HV {g:Bool} {xs:List dn} {i:Nat} (h:i < xs.length):ad.bR .i64 (ab (aB (some g)) xs) (i*3+1)=true:=(zf (e:=aB (some g)) (w:=3) (fun _=>rfl) (k:=1) h (by omega) _).trans rfl
theorem HW {g:Bool} {xs:List dn} {i:Nat} (h:i < xs.length):ad.aO (ab (aB (some g)) xs) (i*3+1)=xs[i].dst:=(vv (e:=aB (some g)) (w:=3) (fun _=>rfl) (k:=1) h (by omega)).trans rfl
theorem HX {g:Bool} {xs:List dn} {i:Nat} (h:i < xs.length):ad.aN 1 (ab (aB (some g)) xs) (i*3+2)=true:=(pR (e:=aB (some g)) (w:=3) (fun _=>rfl) (k:=2) h (by omega) _).trans rfl
theorem HY {g:Bool} {xs:List dn} {i:Nat} (h:i < xs.length):ad.aG (ab (aB (some g)) xs) (i*3+2)=g:=(nw (e:=aB (some g)) (w:=3) (fun _=>rfl) (k:=2) h (by omega)).trans rfl
theorem HZ {g:Bool} {xs:List dn} {i:Nat} (h:i < xs.length):ad.aD (ab (aB (some g)) xs) (i*3+2)=xs[i].bytes.length:=(ny (e:=aB (some g)) (w:=3) (fun _=>rfl) (k:=2) h (by omega)).trans rfl
theorem H0 {g:Bool} {xs:List dn} {i:Nat} (h:i < xs.length):ad.aF (ab (aB (some g)) xs) (i*3+2)=bytes xs[i].bytes:=(nz (e:=aB (some g)) (w:=3) (fun _=>rfl) (k:=2) h (by omega)).trans rfl
theorem u7 {g:Bool} {xs:List fe} {i:Nat} (h:i < xs.length):ad.bR .i64 (ab (bj (some g)) xs) (i*2)=true:=(zf (e:=bj (some g)) (w:=2) (fun _=>rfl) (k:=0) h (by omega) _).trans rfl
theorem u9 {g:Bool} {xs:List fe} {i:Nat} (h:i < xs.length):ad.aO (ab (bj (some g)) xs) (i*2)=xs[i].cell:=(vv (e:=bj (some g)) (w:=2) (fun _=>rfl) (k:=0) h (by omega)).trans rfl
theorem va {g:Bool} {xs:List fe} {i:Nat} (h:i < xs.length):ad.bR .i64 (ab (bj (some g)) xs) (i*2+1)=true:=(zf (e:=bj (some g)) (w:=2) (fun _=>rfl) (k:=1) h (by omega) _).trans rfl
theorem vd {g:Bool} {xs:List fe} {i:Nat} (h:i < xs.length):ad.aO (ab (bj (some g)) xs) (i*2+1)=xs[i].up:=(vv (e:=bj (some g)) (w:=2) (fun _=>rfl) (k:=1) h (by omega)).trans rfl
section
variable {A L B:List D} {m k:Nat} {d:D}
theorem H3 (hA:A.length=m) (hk:k < L.length):List.set (A++(L++B)) (m+k) d=A++(L.set k d++B):=by
 subst hA;rw [List.set_append_right _ _ (by omega),List.set_append_left _ _ (by omega)]
 simp
theorem Kc (hA:A.length=m) (hk:0 < L.length):List.set (A++(L++B)) m d=A++(L.set 0 d++B):=H3 (k:=0) hA hk
theorem WS (hA:A.length=m) (hk:k < L.length):(A++(L++B))[m+k]?=L[k]?:=by
 subst hA;rw [aa6 (by omega),abc (by omega)]
 simp
theorem DJ (hA:A.length=m) (hk:k < L.length):ad.slot (A++(L++B)) (m+k)=ad.slot L k:=by simp only [ad,WS hA hk]
theorem FT (hA:A.length=m) (hk:0 < L.length):ad.slot (A++(L++B)) m=ad.slot L 0:=DJ (k:=0) hA hk
theorem Kd (s:Nat) (hA:A.length=m) (hk:k < L.length):ad.kL s (A++(L++B)) (m+k)=ad.kL s L k:=by simp only [ad,WS hA hk]
theorem Uq (hk:0 < L.length):ad.ne (A++(L++B))=true:=by
 simp only [ad];cases A with
 | nil=>cases L with
  | nil=>simp at hk
  | cons _ _=>rfl
 | cons _ _=>rfl
theorem Ke (l:List D) (n:Nat):ad.slot (d::l) (n+1)=ad.slot l n:=rfl
theorem Kf (l:List D) (kk:IntKind) (x:Int):ad.slot (.int kk x::l) 0=true:=rfl
theorem Kg (l:List D) (x:Bool):ad.slot (.bool x::l) 0=true:=rfl
theorem Kh (s:Nat) (l:List D) (n:Nat):ad.kL s (d::l) (n+1)=ad.kL s l n:=rfl
theorem Ki (l c:List D) (n:Nat):ad.kL 1 (.sl none 1 n c::l) 0=true:=rfl
end
theorem yi {α:Type} {e:α->List D} {w:Nat} (hw:∀ x,(e x).length=w) (xs:List α):(ab e xs).length=xs.length*w:=by
 induction xs with
 | nil=>simp [ab]
 | cons x xs ih=>
  have h:ab e (x::xs)=e x++ab e xs:=by simp [ab]
  rw [h,aad,hw,ih,aa7,Nat.succ_mul];omega
theorem QG {α:Type} (e:α->List D) (xs ys:List α):ab e (xs++ys)=ab e xs++ab e ys:=by simp [ab]
theorem Ai {α:Type} (e:α->List D) {xs:List α} {i:Nat} (h:i < xs.length):ab e xs=ab e (xs.take i)++(e xs[i]++ab e (xs.drop (i+1))):=by
 have e1:xs.take i++xs[i]::xs.drop (i+1)=xs:=by rw [abM h,ae1]
 have h2:ab e (xs[i]::xs.drop (i+1))=e xs[i]++ab e (xs.drop (i+1)):=by simp only [ab,abo]
 rw [<- h2,<- QG,e1]
theorem FU {α:Type} (e:α->List D) {xs:List α} {i:Nat} (h:i < xs.length) (x:α):ab e (xs.set i x)=ab e (xs.take i)++(e x++ab e (xs.drop (i+1))):=by
 have e1:xs.set i x=xs.take i++x::xs.drop (i+1):=List.set_eq_take_append_cons_drop.trans (if_pos h);have h2:ab e (x::xs.drop (i+1))=e x++ab e (xs.drop (i+1)):=by simp [ab]
 rw [e1,QG,h2]
theorem CJ {α:Type} (e:α->List D) (z:List D) (x:α) (h:z.map sq=e x) (n:Nat):fa n z=ab e (List.replicate n x):=by
 unfold fa ab;rw [h];simp [List.flatMap]
def wz:ae:=⟨0,false,false,[],⟨[],[],false,false,false,0⟩,⟨[],[]⟩,[],[],[],[]⟩
theorem H4:∀ l:List D,ad.nl l=cq l:=fun _=>rfl
theorem RG (a b:List D):cq (a++b)=(cq a&&cq b):=by
 induction a with
 | nil=>simp [cq]
 | cons x a ih=>simp [cq,ih,Bool.and_assoc]
theorem CK {α:Type} {e:α->List D} (h:∀ x,ad.nl (e x)=true) (xs:List α):ad.nl (ab e xs)=true:=by
 induction xs with
 | nil=>rfl
 | cons x xs ih=>
  have h1:ab e (x::xs)=e x++ab e xs:=by simp [ab]
  rw [h1,H4,RG,<- H4,<- H4,h,ih];rfl
theorem ahf (xs:List ae):ad.nl (ab (U none) xs)=true:=CK (fun x=>by
 have h1:=gR; have h2:=yZ; have h3:=eN; have h4:=DI;simp only [H4] at h1 h2 h3 h4 ⊢;simp only [cq,cg,h1,h2,h3,h4,tC]) xs
theorem ahg (xs:List dn):ad.nl (ab (aB none) xs)=true:=CK (fun x=>by
 have h3:=eN;simp only [H4] at h3 ⊢;simp only [cq,cg,h3,tC]) xs
theorem ahh (g:Option Bool) (xs:List fe):ad.nl (ab (bj g) xs)=true:=CK (fun _=>rfl) xs
def jA (x:dn):Prop:=x.bytes.length<=1048576
structure cd (w:ak):Prop where
 nodes:w.nodes.length<=1048576
 node:∀ n∈w.nodes,cz n
 aH:w.aH.length<=1048576
 yg:∀ x∈w.aH,jA x
 log:w.log.length<=1048576
 safe:w.safe.length<=1048576
theorem Zp (g:Bool) (x:dn) (h:jA x):Cm 197 [.agg (aB (some g) x)] (.agg (aB none x),[.undef]):=by
 unfold jA at h;refine Cm.fin MR fun J=>?_;rw [MS];simp (disch:=omega) only [L1,df,ao,eN,aK]
theorem acM (g:Option Bool) (x:fe):Cm 198 [.agg (bj g x)] (.agg (bj none x),[.undef]):=by
 refine Cm.fin QC fun J=>?_;rw [QD]
theorem Zq (g h:Bool) (x:dn) (ok:jA x):Cm 207 [.agg (aB (some g) x),.agg (aB (some h) x)] (.bool true,[.undef,.undef]):=by
 unfold jA at ok;refine Cm.fin MT fun J=>?_;rw [MU];simp (disch:=omega) only [L2,aE,ao,decide_true,aK,bg,gA]
theorem acN (g h:Option Bool) (x:fe):Cm 208 [.agg (bj g x),.agg (bj h x)] (.bool true,[.undef,.undef]):=by
 refine Cm.fin QE fun J=>?_;rw [QF];simp (disch:=omega) only [aK,bg,gA]
def ue (x:dn):Prop:=x.bytes.length<=140737488355328
def ik (x:dn) (l:Int):Int:=iW (eY x.bytes.length l) fun l=>l
theorem H5 {x:dn} {l:Int} (h:0<=l) (hm:l<=1048576):ik x l<=l/\-1<=ik x l/\(0<=ik x l->jA x):=by
 have:=fx (k:=fun l=>l) h (nk (n:=x.bytes.length) h hm) fun h3=>Cg h3;exact ⟨this.1,this.2.1,fun hh=>(this.2.2 hh).1⟩
theorem H6 {x:ae} {l:Int} (h:0<=l) (hm:l<=1048576):eE x l<=l/\-1<=eE x l/\(0<=eE x l->cz x):=Up h hm
theorem Zr (g:Bool) (x:dn) (left:Int) (h0:0<=left) (h1:left<=1048576) (ln:ue x):Cm 191 [.agg (aB (some g) x),.int .i64 left] (.int .i64 (ik x left),[.undef,.undef]):=by
 unfold ue at ln;refine Cm.fin MP fun J=>?_;rw [MQ];simp (disch:=omega) only [Cf,cn,ao];exact jy (f:=fun v=>some (.int .i64 v,[.undef,.undef])) fun _=>rfl
theorem Zs (g:Bool) (n:Nat) (c:List D) (left:Int) (h0:0<=left) (h1:left<=1048576) (hn:n<=140737488355328):Cm 115 [.sl (some g) 2 n c,.int .i64 left] (.int .i64 (eY n left),[.undef,.undef]):=by
 refine Cm.fin MV fun J=>?_;rw [MW];unfold eY;by_cases h:left < n
 ·rw [if_pos h];simp (disch:=omega) only [aC,eX,bc]
 ·rw [if_neg h];simp (disch:=omega) only [aC,eX,bG]
section
variable (t:bO Rz)
theorem Zt (g:Bool) (x:dn) (h:jA x):aX 197 [.agg (aB (some g) x)] t=feed t (aB none x):=bh (Zp g x h) (by kernel_rfl) t
theorem Zu (g h:Bool) (x:dn) (ok:jA x):aX 207 [.agg (aB (some g) x),.agg (aB (some h) x)] t=feed t [.bool true]:=bh (Zq g h x ok) (by kernel_rfl) t
theorem acO (a b:Int):aX 198 [.agg [.int .i64 a,.int .i64 b]] t=feed t [.int .i64 a,.int .i64 b]:=bh (acM none ⟨a,b⟩) (by kernel_rfl) t
theorem acP (a b:Int):aX 208 [.agg [.int .i64 a,.int .i64 b],.agg [.int .i64 a,.int .i64 b]] t=feed t [.bool true]:=bh (acN none none ⟨a,b⟩) (by kernel_rfl) t
theorem QH (g:Bool) (x:dn) (left:Int) (h0:0<=left) (h1:left<=1048576) (ln:ue x):aX 191 [.agg (aB (some g) x),.int .i64 left] t=feed t [.int .i64 (ik x left)]:=bh (Zr g x left h0 h1 ln) (by kernel_rfl) t
end
theorem WU (g:Bool) (xs:List ae) (hb:xs.length<=1048576) (ok:∀ x∈xs,cz x):Cm 120 [.sl (some g) 16 xs.length (ab (U (some g)) xs)] (.sl none 16 xs.length (ab (U none) xs),[.undef]):=by
 refine Cm.go JY [.undef] 0 (j7 g xs.length (ab (U (some g)) xs) (0:Nat) xs.length (ab (U none) (List.replicate xs.length wz))) ?_ fun J hJ=>?_
 ·refine WP.loop (H:=fun i=>j7 g xs.length (ab (U (some g)) xs) (i:Nat) xs.length (ab (U none) (xs.take i++List.replicate (xs.length - i) wz))) (n:=xs.length) (fun _=>True) (fun i hi _ ih=>WP.go _ (ih trivial) fun J hJ=>?_) (fun _=>WP.fin fun J=>?_) 0 (aa9 _) trivial
  ·rw [uL];have hx:=ok _ (aan hi);have hy:i < (xs.take i++List.replicate (xs.length - i) wz).length:=by simp; omega
   rw [<- qm hi _ xs rfl hi,FU _ hy] at hJ;rw [Ai _ hy];have hA:(ab (U none) ((xs.take i++List.replicate (xs.length - i) wz).take i)).length=i*16:=by
    rw [yi (w:=16) (fun _=>rfl),aaB]
    congr 1
    simp; omega
   simp (disch:=first | omega | assumption | exact hA | (simp; done)) only [aK,bg,bo,aC,bc,bF,pB,Hr,Ht,Hu,Hv,Hw,Hy,Hz,HA,HB,HC,HD,HE,HF,HG,HH,HI,HJ,HK,HL,HM,HN,HO,HP,HQ,HR,HS,Cj,Ck,Cl,Cn,Co,Cp,Cq,Cr,Cs,Ct,Cu,Cw,Cx,Cy,Cz,CA,CB,CC,CD,CE,CF,CG,CH,CI,Qz,JG,df,cn,aE,ao,gR,yZ,eN,DI,Uq,DJ,FT,Kd,H3,Kc,afA,afz,Ke,Kf,Kg,Kh,Ki,Cc,dp]
   exact hJ
  ·rw [uL];simp (disch:=omega) only [aK,bg,aC,bG,aaO,adT,abA,aah]
 ·rw [JZ];have hz:=fun n=>CJ (U none) [.int .i64 0,.bool false,.bool false,.nil 1,.nil 1,.nil 1,.bool false,.bool false,.bool false,.int .i64 0,.nil 1,.nil 1,.nil 1,.nil 1,.nil 1,.nil 1] wz rfl n;simp (disch:=omega) only [aK,bg,aC,tb,Ae,hz];exact hJ
theorem WV (g h:Bool) (xs:List ae) (hb:xs.length<=1048576) (ok:∀ x∈xs,cz x):Cm 127 [.sl (some g) 16 xs.length (ab (U (some g)) xs),.sl (some h) 16 xs.length (ab (U (some h)) xs)] (.bool true,[.undef,.undef]):=by
 refine Cm.go J0 [.undef,.undef] 0 (j8 g xs.length (ab (U (some g)) xs) h xs.length (ab (U (some h)) xs) (0:Nat)) ?_ fun J hJ=>?_
 ·refine WP.loop (H:=fun i=>j8 g xs.length (ab (U (some g)) xs) h xs.length (ab (U (some h)) xs) (i:Nat)) (n:=xs.length) (fun _=>True) (fun i hi _ ih=>WP.go _ (ih trivial) fun J hJ=>?_) (fun _=>WP.fin fun J=>?_) 0 (aa9 _) trivial
  ·rw [uN];have hx:=ok _ (aan hi);simp (disch:=first | omega | assumption) only [aK,bg,bo,bQ,aC,bc,bF,pB,Hr,Ht,Hu,Hv,Hw,Hy,Hz,HA,HB,HC,HD,HE,HF,HG,HH,HI,HJ,HK,HL,HM,HN,HO,HP,HQ,HR,HS,Cj,Ck,Cl,Cn,Co,Cp,Cq,Cr,Cs,Ct,Cu,Cw,Cx,Cy,Cz,CA,CB,CC,CD,CE,CF,CG,CH,CI,QA,aE,ao,dp]
   exact hJ
  ·rw [uN];simp (disch:=omega) only [aK,bg,aC,bG]
 ·rw [J1];simp (disch:=omega) only [aK,bg,aC,bQ,cb,gA];exact hJ
theorem WW (g:Bool) (xs:List dn) (hb:xs.length<=1048576) (ok:∀ x∈xs,jA x):Cm 121 [.sl (some g) 3 xs.length (ab (aB (some g)) xs)] (.sl none 3 xs.length (ab (aB none) xs),[.undef]):=by
 refine Cm.go J2 [.undef] 0 (j9 g xs.length (ab (aB (some g)) xs) (0:Nat) xs.length (ab (aB none) (List.replicate xs.length (⟨0,0,[]⟩:dn)))) ?_ fun J hJ=>?_
 ·refine WP.loop (H:=fun i=>j9 g xs.length (ab (aB (some g)) xs) (i:Nat) xs.length (ab (aB none) (xs.take i++List.replicate (xs.length - i) (⟨0,0,[]⟩:dn)))) (n:=xs.length) (fun _=>True) (fun i hi _ ih=>WP.go _ (ih trivial) fun J hJ=>?_) (fun _=>WP.fin fun J=>?_) 0 (aa9 _) trivial
  ·rw [uO];have hx:=ok _ (aan hi);have hy:i < (xs.take i++List.replicate (xs.length - i) (⟨0,0,[]⟩:dn)).length:=by simp; omega
   rw [<- qm hi _ xs rfl hi,FU _ hy] at hJ;rw [Ai _ hy];have hA:(ab (aB none) ((xs.take i++List.replicate (xs.length - i) (⟨0,0,[]⟩:dn)).take i)).length=i*3:=by
    rw [yi (w:=3) (fun _=>rfl),aaB]
    congr 1
    simp; omega
   simp (disch:=first | omega | assumption | exact hA | (simp; done)) only [aK,bg,bo,aC,bc,bF,pB,HT,HU,HV,HW,HX,HY,HZ,H0,Zt,df,cn,aE,ao,gR,yZ,eN,DI,Uq,DJ,FT,Kd,H3,Kc,afA,afz,Ke,Kf,Kg,Kh,Ki,Cc,dp]
   exact hJ
  ·rw [uO];simp (disch:=omega) only [aK,bg,aC,bG,aaO,adT,abA,aah]
 ·rw [J3];have hz:=fun n=>CJ (aB none) [.int .i64 0,.int .i64 0,.nil 1] (⟨0,0,[]⟩:dn) rfl n;simp (disch:=omega) only [aK,bg,aC,tb,Ae,hz];exact hJ
theorem WX (g h:Bool) (xs:List dn) (hb:xs.length<=1048576) (ok:∀ x∈xs,jA x):Cm 128 [.sl (some g) 3 xs.length (ab (aB (some g)) xs),.sl (some h) 3 xs.length (ab (aB (some h)) xs)] (.bool true,[.undef,.undef]):=by
 refine Cm.go J4 [.undef,.undef] 0 (ka g xs.length (ab (aB (some g)) xs) h xs.length (ab (aB (some h)) xs) (0:Nat)) ?_ fun J hJ=>?_
 ·refine WP.loop (H:=fun i=>ka g xs.length (ab (aB (some g)) xs) h xs.length (ab (aB (some h)) xs) (i:Nat)) (n:=xs.length) (fun _=>True) (fun i hi _ ih=>WP.go _ (ih trivial) fun J hJ=>?_) (fun _=>WP.fin fun J=>?_) 0 (aa9 _) trivial
  ·rw [uP];have hx:=ok _ (aan hi);simp (disch:=first | omega | assumption) only [aK,bg,bo,bQ,aC,bc,bF,pB,HT,HU,HV,HW,HX,HY,HZ,H0,Zu,aE,ao,dp]
   exact hJ
  ·rw [uP];simp (disch:=omega) only [aK,bg,aC,bG]
 ·rw [J5];simp (disch:=omega) only [aK,bg,aC,bQ,cb,gA];exact hJ
theorem Zv (g:Bool) (xs:List fe) (hb:xs.length<=1048576):Cm 122 [.sl (some g) 2 xs.length (ab (bj (some g)) xs)] (.sl none 2 xs.length (ab (bj none) xs),[.undef]):=by
 refine Cm.go MX [.undef] 0 (ll g xs.length (ab (bj (some g)) xs) (0:Nat) xs.length (ab (bj none) (List.replicate xs.length (⟨0,0⟩:fe)))) ?_ fun J hJ=>?_
 ·refine WP.loop (H:=fun i=>ll g xs.length (ab (bj (some g)) xs) (i:Nat) xs.length (ab (bj none) (xs.take i++List.replicate (xs.length - i) (⟨0,0⟩:fe)))) (n:=xs.length) (fun _=>True) (fun i hi _ ih=>WP.go _ (ih trivial) fun J hJ=>?_) (fun _=>WP.fin fun J=>?_) 0 (aa9 _) trivial
  ·rw [wx];have hx:=hi;have hy:i < (xs.take i++List.replicate (xs.length - i) (⟨0,0⟩:fe)).length:=by simp; omega
   rw [<- qm hi _ xs rfl hi,FU _ hy] at hJ;rw [Ai _ hy];have hA:(ab (bj none) ((xs.take i++List.replicate (xs.length - i) (⟨0,0⟩:fe)).take i)).length=i*2:=by
    rw [yi (w:=2) (fun _=>rfl),aaB]
    congr 1
    simp; omega
   simp (disch:=first | omega | assumption | exact hA | (simp; done)) only [aK,bg,bo,aC,bc,bF,pB,u7,u9,va,vd,acO,df,cn,aE,ao,gR,yZ,eN,DI,Uq,DJ,FT,Kd,H3,Kc,afA,afz,Ke,Kf,Kg,Kh,Ki,Cc,dp]
   exact hJ
  ·rw [wx];simp (disch:=omega) only [aK,bg,aC,bG,aaO,adT,abA,aah]
 ·rw [MY];have hz:=fun n=>CJ (bj none) [.int .i64 0,.int .i64 0] (⟨0,0⟩:fe) rfl n;simp (disch:=omega) only [aK,bg,aC,tb,Ae,hz];exact hJ
theorem Zw (g h:Bool) (xs:List fe) (hb:xs.length<=1048576):Cm 129 [.sl (some g) 2 xs.length (ab (bj (some g)) xs),.sl (some h) 2 xs.length (ab (bj (some h)) xs)] (.bool true,[.undef,.undef]):=by
 refine Cm.go MZ [.undef,.undef] 0 (lp g xs.length (ab (bj (some g)) xs) h xs.length (ab (bj (some h)) xs) (0:Nat)) ?_ fun J hJ=>?_
 ·refine WP.loop (H:=fun i=>lp g xs.length (ab (bj (some g)) xs) h xs.length (ab (bj (some h)) xs) (i:Nat)) (n:=xs.length) (fun _=>True) (fun i hi _ ih=>WP.go _ (ih trivial) fun J hJ=>?_) (fun _=>WP.fin fun J=>?_) 0 (aa9 _) trivial
  ·rw [wy];have hx:=hi;simp (disch:=first | omega | assumption) only [aK,bg,bo,bQ,aC,bc,bF,pB,u7,u9,va,vd,acP,aE,ao,dp]
   exact hJ
  ·rw [wy];simp (disch:=omega) only [aK,bg,aC,bG]
 ·rw [M0];simp (disch:=omega) only [aK,bg,aC,bQ,cb,gA];exact hJ
def oI (xs:List ae) (l:Int):Int:=iW (eY xs.length l) (ph eE xs)
theorem WY (g:Bool) (xs:List ae) (left:Int) (h0:0<=left) (h1:left<=1048576) (hn:xs.length<=140737488355328) (hx:∀ x∈xs,wv x):Cm 113 [.sl (some g) 16 xs.length (ab (U (some g)) xs),.int .i64 left] (.int .i64 (oI xs left),[.undef,.undef]):=by
 have hlen:=iX (n:=xs.length) h0;have loop:∀ k i (l:Int),i+k=xs.length->0<=l->l<=1048576->WP 113 Tryz.f113 [.undef,.undef] 0 (mW g xs.length (ab (U (some g)) xs) l (i:Nat)) (.int .i64 (ph eE (xs.drop i) l),[.undef,.undef]):=by
  intro k
  induction k with
  | zero=>
   intro i l hi hl hm;refine WP.fin fun J=>?_;rw [py,aeb (by omega)]
   simp (disch:=omega) only [aC,bG,ph]
  | succ k ih=>
   intro i l hi hl hm;have oC:i < xs.length:=by omega
   have hxi:=hx _ (aan oC);obtain ⟨a1,a2,a3⟩:=H6 (x:=xs[i]) hl hm;have e:ph eE (xs.drop i) l=iW (eE xs[i] l) (ph eE (xs.drop (i+1))):=by
    rw [<- abM oC];rfl
   rw [e];by_cases hv:eE xs[i] l < 0
   ·refine WP.fin fun J=>?_;rw [py,o7 _ hv];simp (disch:=first | omega | assumption) only [aK,bg,bo,aC,bc,bF,pB,Hr,Ht,Hu,Hv,Hw,Hy,Hz,HA,HB,HC,HD,HE,HF,HG,HH,HI,HJ,HK,HL,HM,HN,HO,HP,HQ,HR,HS,Cj,Ck,Cl,Cn,Co,Cp,Cq,Cr,Cs,Ct,Cu,Cw,Cx,Cy,Cz,CA,CB,CC,CD,CE,CF,CG,CH,CI,FR,cn,ao]
   ·rw [o8 _ (by omega)]
    refine WP.go _ (ih (i+1) (eE xs[i] l) (by omega) (by omega) (by omega)) fun J hJ=>?_
    rw [py];have lV:0<=eE xs[i] l:=by omega
    simp (disch:=first | omega | assumption) only [aK,bg,bo,aC,bc,bF,pB,Hr,Ht,Hu,Hv,Hw,Hy,Hz,HA,HB,HC,HD,HE,HF,HG,HH,HI,HJ,HK,HL,HM,HN,HO,HP,HQ,HR,HS,Cj,Ck,Cl,Cn,Co,Cp,Cq,Cr,Cs,Ct,Cu,Cw,Cx,Cy,Cz,CA,CB,CC,CD,CE,CF,CG,CH,CI,FR,cn,ao,bG,dp]
    exact hJ
 by_cases h:left < xs.length
 ·refine Cm.fin zb fun J=>?_;rw [zc,oI,o7 _ (by unfold eY; rw [if_pos h]; omega)]
  simp (disch:=omega) only [aC,eX,bc]
 ·have e:eY xs.length left=left - xs.length:=if_neg h;rw [oI,o8 _ (by omega),e]
  refine Cm.go zb [.undef,.undef] 0 _ (loop xs.length 0 (left - xs.length) (by omega) (by omega) (by omega)) fun J hJ=>?_
  rw [zc];simp (disch:=omega) only [aC,eX,bG];exact hJ
def oJ (xs:List dn) (l:Int):Int:=iW (eY xs.length l) (ph ik xs)
theorem WZ (g:Bool) (xs:List dn) (left:Int) (h0:0<=left) (h1:left<=1048576) (hn:xs.length<=140737488355328) (hx:∀ x∈xs,ue x):Cm 114 [.sl (some g) 3 xs.length (ab (aB (some g)) xs),.int .i64 left] (.int .i64 (oJ xs left),[.undef,.undef]):=by
 have hlen:=iX (n:=xs.length) h0;have loop:∀ k i (l:Int),i+k=xs.length->0<=l->l<=1048576->WP 114 Tryz.f114 [.undef,.undef] 0 (mX g xs.length (ab (aB (some g)) xs) l (i:Nat)) (.int .i64 (ph ik (xs.drop i) l),[.undef,.undef]):=by
  intro k
  induction k with
  | zero=>
   intro i l hi hl hm;refine WP.fin fun J=>?_;rw [pA,aeb (by omega)]
   simp (disch:=omega) only [aC,bG,ph]
  | succ k ih=>
   intro i l hi hl hm;have oC:i < xs.length:=by omega
   have hxi:=hx _ (aan oC);obtain ⟨a1,a2,a3⟩:=H5 (x:=xs[i]) hl hm;have e:ph ik (xs.drop i) l=iW (ik xs[i] l) (ph ik (xs.drop (i+1))):=by
    rw [<- abM oC];rfl
   rw [e];by_cases hv:ik xs[i] l < 0
   ·refine WP.fin fun J=>?_;rw [pA,o7 _ hv];simp (disch:=first | omega | assumption) only [aK,bg,bo,aC,bc,bF,pB,HT,HU,HV,HW,HX,HY,HZ,H0,QH,cn,ao]
   ·rw [o8 _ (by omega)]
    refine WP.go _ (ih (i+1) (ik xs[i] l) (by omega) (by omega) (by omega)) fun J hJ=>?_
    rw [pA];have lV:0<=ik xs[i] l:=by omega
    simp (disch:=first | omega | assumption) only [aK,bg,bo,aC,bc,bF,pB,HT,HU,HV,HW,HX,HY,HZ,H0,QH,cn,ao,bG,dp]
    exact hJ
 by_cases h:left < xs.length
 ·refine Cm.fin zd fun J=>?_;rw [ze,oJ,o7 _ (by unfold eY; rw [if_pos h]; omega)]
  simp (disch:=omega) only [aC,eX,bc]
 ·have e:eY xs.length left=left - xs.length:=if_neg h;rw [oJ,o8 _ (by omega),e]
  refine Cm.go zd [.undef,.undef] 0 _ (loop xs.length 0 (left - xs.length) (by omega) (by omega) (by omega)) fun J hJ=>?_
  rw [ze];simp (disch:=omega) only [aC,eX,bG];exact hJ
set_option maxRecDepth 100000
section
variable (t:bO Rz)
theorem W0 (g:Bool) (xs:List ae) (hb:xs.length<=1048576) (ok:∀ x∈xs,cz x):aX 120 [sN (some g) xs] t=feed t [sN none xs]:=bh (WU g xs hb ok) (by kernel_rfl) t
theorem W1 (g h:Bool) (xs:List ae) (hb:xs.length<=1048576) (ok:∀ x∈xs,cz x):aX 127 [sN (some g) xs,sN (some h) xs] t=feed t [.bool true]:=bh (WV g h xs hb ok) (by kernel_rfl) t
theorem W2 (g:Bool) (xs:List ae) (left:Int) (h0:0<=left) (h1:left<=1048576) (hn:xs.length<=140737488355328) (hx:∀ x∈xs,wv x):aX 113 [sN (some g) xs,.int .i64 left] t=feed t [.int .i64 (oI xs left)]:=bh (WY g xs left h0 h1 hn hx) (by kernel_rfl) t
theorem W3 (g:Bool) (xs:List dn) (hb:xs.length<=1048576) (ok:∀ x∈xs,jA x):aX 121 [sW (some g) xs] t=feed t [sW none xs]:=bh (WW g xs hb ok) (by kernel_rfl) t
theorem W4 (g h:Bool) (xs:List dn) (hb:xs.length<=1048576) (ok:∀ x∈xs,jA x):aX 128 [sW (some g) xs,sW (some h) xs] t=feed t [.bool true]:=bh (WX g h xs hb ok) (by kernel_rfl) t
theorem W5 (g:Bool) (xs:List dn) (left:Int) (h0:0<=left) (h1:left<=1048576) (hn:xs.length<=140737488355328) (hx:∀ x∈xs,ue x):aX 114 [sW (some g) xs,.int .i64 left] t=feed t [.int .i64 (oJ xs left)]:=bh (WZ g xs left h0 h1 hn hx) (by kernel_rfl) t
theorem Zx (g:Bool) (xs:List fe) (hb:xs.length<=1048576):aX 122 [sK (some g) xs] t=feed t [sK none xs]:=bh (Zv g xs hb) (by kernel_rfl) t
theorem Zy (g h:Bool) (xs:List fe) (hb:xs.length<=1048576):aX 129 [sK (some g) xs,sK (some h) xs] t=feed t [.bool true]:=bh (Zw g h xs hb) (by kernel_rfl) t
theorem Zz (g:Bool) (n:Nat) (c:List D) (left:Int) (h0:0<=left) (h1:left<=1048576) (hn:n<=140737488355328):aX 115 [.sl (some g) 2 n c,.int .i64 left] t=feed t [.int .i64 (eY n left)]:=bh (Zs g n c left h0 h1 hn) (by kernel_rfl) t
end
theorem W6 (g:Bool) (w:ak) (h:cd w):Cm 36 [.agg (bM (some g) w)] (.agg (bM none w),[.undef]):=by
 have h1:=h.nodes; have h2:=h.aH; have h3:=h.log; have h4:=h.safe;refine Cm.fin J8 fun J=>?_;rw [J9];simp (disch:=first | omega | exact h.node | exact h.yg) only [W0,W3,Zx,Ah,df,ao,gR,ahf,ahg,ahh,aK]
theorem W7 (g h:Bool) (w:ak) (ok:cd w):Cm 38 [.agg (bM (some g) w),.agg (bM (some h) w)] (.bool true,[.undef,.undef]):=by
 have h1:=ok.nodes; have h2:=ok.aH; have h3:=ok.log; have h4:=ok.safe;refine Cm.fin Ka fun J=>?_;rw [Kb];simp (disch:=first | omega | exact ok.node | exact ok.yg) only [W1,W4,Zy,wu,aE,ao,decide_true,aK,bg,gA]
structure zh (w:ak):Prop where
 nodes:w.nodes.length<=140737488355328
 node:∀ n∈w.nodes,wv n
 aH:w.aH.length<=140737488355328
 yg:∀ x∈w.aH,ue x
 log:w.log.length<=140737488355328
 safe:w.safe.length<=140737488355328
def lQ (w:ak) (l:Int):Int:=iW (oI w.nodes l) fun l=>iW (oJ w.aH l) fun l=>iW (eY w.log.length l) fun l=>iW (eY w.safe.length l) fun l=>l
theorem jj {v l:Int} {k:Int->Int} (hv:v<=l/\-1<=v) (hl:0<=l) (hk:0<=v->k v<=v/\-1<=k v):iW v k<=l/\-1<=iW v k:=by
 unfold iW;split
 ·omega
 ·have:=hk (by omega); omega
theorem nA {n:Nat} {l:Int} (h:0<=l):eY n l<=l/\-1<=eY n l:=⟨(iX h).1,(iX h).2.1⟩
theorem SQ {α:Type} {f:α->Int->Int} (hf:∀ x l,0<=l->f x l<=l/\-1<=f x l):∀ (xs:List α) (l:Int),0<=l->ph f xs l<=l/\-1<=ph f xs l
 | [],l,h=>⟨Int.le_refl _,by show -1<=l; omega⟩
 | x::xs,l,h=>jj (hf x l h) h fun h1=>SQ hf xs _ h1
theorem SS {xss:List (List Int)} {l:Int} (h:0<=l):za xss l<=l/\-1<=za xss l:=jj (nA h) h fun h1=>SQ (fun _ _ hl=>nA hl) _ _ h1
theorem EX {n:ae} {l:Int} (h:0<=l):eE n l<=l/\-1<=eE n l:=by
 refine jj (nA h) h fun h=>jj ?_ h fun h=>jj ?_ h fun h=>jj (nA h) h fun h=>jj (SS h) h fun h=>jj (nA h) h fun h=>jj (nA h) h fun h=>?_
 ·exact jj (nA h) h fun h=>jj (SS h) h fun h=>by omega
 ·exact jj (nA h) h fun h=>jj (nA h) h fun h=>by omega
 ·omega
theorem EY {xs:List ae} {l:Int} (h:0<=l) (hm:l<=1048576):oI xs l<=l/\-1<=oI xs l/\(0<=oI xs l->xs.length<=1048576/\∀ x∈xs,cz x):=by
 refine fx h (nk h hm) fun h1=>?_;have h2:=iX (n:=xs.length) h;exact Hp (f:=eE) (Q:=cz) (fun x l hl=>by
  by_cases hm:l<=1048576
  ·obtain ⟨a,b,c⟩:=H6 (x:=x) hl hm;exact ⟨a,b,fun hh _=>c hh⟩
  ·refine ⟨?_,?_,fun _ VX=>absurd VX hm⟩
   ·exact (EX hl).1
   ·exact (EX hl).2) xs _ h1 (by omega)
theorem EZ {xs:List dn} {l:Int} (h:0<=l) (hm:l<=1048576):oJ xs l<=l/\-1<=oJ xs l/\(0<=oJ xs l->xs.length<=1048576/\∀ x∈xs,jA x):=by
 refine fx h (nk h hm) fun h1=>?_;have h2:=iX (n:=xs.length) h;exact Hp (f:=ik) (Q:=jA) (fun x l hl=>by
  by_cases hm:l<=1048576
  ·obtain ⟨a,b,c⟩:=H5 (x:=x) hl hm;exact ⟨a,b,fun hh _=>c hh⟩
  ·have h3:ik x l<=l/\-1<=ik x l:=jj (k:=fun l=>l) (nA hl) hl fun h=>by show (_:Int)<=_/\_; omega
   exact ⟨h3.1,h3.2,fun _ VX=>absurd VX hm⟩) xs _ h1 (by omega)
theorem RH {w:ak} {l:Int} (h:0<=l) (hm:l<=1048576):lQ w l<=l/\-1<=lQ w l/\(0<=lQ w l->cd w):=by
 have key:lQ w l<=l/\-1<=lQ w l/\(0<=lQ w l->(w.nodes.length<=1048576/\∀ x∈w.nodes,cz x)/\(w.aH.length<=1048576/\∀ x∈w.aH,jA x)/\w.log.length<=1048576/\w.safe.length<=1048576/\True):=by
  unfold lQ;have a1:=EY (xs:=w.nodes) h hm;refine fx h a1 fun h1=>?_;have a2:=EZ (xs:=w.aH) h1 (by omega)
  refine fx h1 a2 fun h2=>?_;have a3:=nk (n:=w.log.length) h2 (by omega)
  refine fx h2 a3 fun h3=>?_;exact fx h3 (nk h3 (by omega)) fun h4=>Cg h4
 refine ⟨key.1,key.2.1,fun hh=>?_⟩;obtain ⟨⟨b1,b2⟩,⟨b3,b4⟩,b5,b6,_⟩:=key.2.2 hh;exact ⟨b1,b2,b3,b4,b5,b6⟩
theorem W8 (g:Bool) (w:ak) (left:Int) (h0:0<=left) (h1:left<=1048576) (ln:zh w):Cm 34 [.agg (bM (some g) w),.int .i64 left] (.int .i64 (lQ w left),[.undef,.undef]):=by
 refine Cm.fin J6 fun J=>?_;rw [J7];have l1:=ln.nodes; have l2:=ln.aH; have l3:=ln.log; have l4:=ln.safe;have a1:=EY (xs:=w.nodes) h0 h1;simp (disch:=first | omega | exact ln.node) only [W2,cn,ao]
 refine jy (f:=fun v=>aX 114 _ _) fun p1=>?_;have a2:=EZ (xs:=w.aH) p1 (by omega)
 simp (disch:=first | omega | exact ln.yg) only [W5,cn,ao]
 refine jy (f:=fun v=>aX 115 _ _) fun p2=>?_;have a3:=iX (n:=w.log.length) p2;simp (disch:=omega) only [Zz,cn,ao];refine jy (f:=fun v=>aX 64 _ _) fun p3=>?_;simp (disch:=omega) only [tc,cn,ao];exact jy (f:=fun v=>some (.int .i64 v,[.undef,.undef])) fun _=>rfl
section
variable (t:bO Rz)
theorem W9 (g:Bool) (w:ak) (h:cd w):aX 36 [.agg (bM (some g) w)] t=feed t [enc .world w]:=bN (r:=enc .world w) (s:=.ty .world) (ss:=[.undef]) (W6 g w h) (by kernel_rfl) (av _ _) (by simp only [af,aJ,aj,tC]) (au _ _) rfl t
theorem Xa (g h:Bool) (w:ak) (ok:cd w):aX 38 [.agg (bM (some g) w),.agg (bM (some h) w)] t=feed t [.bool true]:=bh (W7 g h w ok) (by kernel_rfl) t
theorem Xb (g:Bool) (w:ak) (left:Int) (h0:0<=left) (h1:left<=1048576) (ln:zh w):aX 34 [.agg (bM (some g) w),.int .i64 left] t=feed t [.int .i64 (lQ w left)]:=bh (W8 g w left h0 h1 ln) (by kernel_rfl) t
end
abbrev Xc:Sh:=.ag [.int .i64,.int .i64,sh8]
abbrev aaP:Sh:=.ag [.int .i64,.int .i64]
abbrev SU:Sh:=.ag [.sl 248 WO,.sl 40 Xc,.sl 16 aaP,SP,.int .i64]
structure SV (w:ak):Prop where
 node:∀ n∈w.nodes,WQ n
 src:∀ x∈w.aH,qk x.src=true/\qk x.dst=true
 aoG:∀ x∈w.log,qk x.cell=true/\qk x.up=true
 safe:nG w.safe
 gen:qk w.gen=true
theorem DK {α:Type} {sh:Sh} {e:α->List D} {Q:α->Prop} (he:∀ ds,WT sh ds->∃ x,ds=e x/\Q x):∀ es:List (List D),(∀ x∈es,WT sh x)->∃ xs,es.flatten=ab e xs/\xs.length=es.length/\∀ x∈xs,Q x
 | [],_=>⟨[],rfl,rfl,by simp⟩
 | d::es,h=>by
  obtain ⟨x,rfl,hx⟩:=he d (h d (by simp))
  obtain ⟨xs,h1,h2,h3⟩:=DK he es (fun y hy=>h y (by simp [hy]))
  refine ⟨x::xs,by rw [abB,h1]; simp [ab],by simp [h2],fun y hy=>?_⟩
  rcases aap.1 hy with rfl | hy
  ·exact hx
  ·exact h3 y hy
theorem acQ {ds:List D} (h:WT Xc ds):∃ x:dn,ds=aB (some false) x/\ue x/\qk x.src=true/\qk x.dst=true:=by
 obtain ⟨_,_,rfl,⟨a,rfl,ha⟩,_,_,rfl,⟨b,rfl,hb⟩,_,_,rfl,hs,rfl⟩:=h;obtain ⟨xs,rfl,hl⟩:=Zo hs;exact ⟨⟨a,b,xs⟩,rfl,by unfold ue; simp only; omega,qN ha,qN hb⟩
theorem afE {ds:List D} (h:WT aaP ds):∃ x:fe,ds=bj (some false) x/\qk x.cell=true/\qk x.up=true:=by
 obtain ⟨_,_,rfl,⟨a,rfl,ha⟩,_,_,rfl,⟨b,rfl,hb⟩,rfl⟩:=h;exact ⟨⟨a,b⟩,rfl,qN ha,qN hb⟩
theorem ZA {ds:List D} (h:WT SU ds):∃ w:ak,ds=bM (some false) w/\zh w/\SV w:=by
 obtain ⟨_,_,rfl,⟨es1,rfl,he1,BH⟩,_,_,rfl,⟨es2,rfl,he2,GV⟩,_,_,rfl,⟨es3,rfl,he3,hx3⟩,_,_,rfl,hs,_,_,rfl,⟨gen,rfl,hg⟩,rfl⟩:=h;obtain ⟨ns,a1,a2,a3⟩:=DK (fun ds hd=>acL hd) es1 BH;obtain ⟨ws,b1,b2,b3⟩:=DK (fun ds hd=>acQ hd) es2 GV;obtain ⟨rs,c1,c2,c3⟩:=DK (fun ds hd=>afE hd) es3 hx3;obtain ⟨safe,rfl,d1,d2⟩:=QB hs;have:reachBytes=140737488351232:=rfl;refine ⟨⟨ns,ws,rs,safe,gen⟩,?_,⟨?_,fun n hn=>(a3 n hn).1,?_,fun n hn=>(b3 n hn).1,?_,?_⟩,⟨fun n hn=>(a3 n hn).2,fun n hn=>(b3 n hn).2,c3,d2,qN hg⟩⟩
 ·rw [a1,b1,c1,<- a2,<- b2,<- c2];rfl
 all_goals simp only; omega
theorem ZB (n:ae) (b:Bool):cI b (U none n)=U (some b) n:=by
 simp only [cI,fC,fJ,iy,gB,jJ]
theorem QI (b:Bool):∀ x y:List D,cI b (x++y)=cI b x++cI b y
 | [],_=>rfl
 | d::x,y=>by rw [aao,cI,cI,QI b x y]; rfl
theorem xK {α:Type} {e e':α->List D} {b:Bool} (h:∀ x,cI b (e x)=e' x):∀ xs:List α,cI b (ab e xs)=ab e' xs
 | []=>rfl
 | x::xs=>by
  have h1:∀ f:α->List D,ab f (x::xs)=f x++ab f xs:=fun f=>by simp [ab]
  rw [h1,h1,QI,h,xK h xs]
theorem afF (b:Bool) (xs:List ae):cI b (ab (U none) xs)=ab (U (some b)) xs:=xK (fun n=>ZB n b) xs
theorem afG (b:Bool) (xs:List dn):cI b (ab (aB none) xs)=ab (aB (some b)) xs:=xK (fun n=>by simp only [cI,fC,gB]) xs
theorem afH (b:Bool) (xs:List fe):cI b (ab (bj none) xs)=ab (bj (some b)) xs:=xK (fun n=>by simp only [cI,fC]) xs
set_option maxRecDepth 100000
theorem acR {R:Type} {a b:Nat} {u v:R} (h:a=b):br (ad.neq a b) u v=u:=by simp [ad,br,h]
set_option maxRecDepth 100000
section
variable (pr:dC) (cv:Cv Rz) (J:Nat->St->Option Rz)
def fy (i0:Int) (i1:Int) (n2:Nat) (c3:List D):St:=(St.mk [(0,(.ref 28 [] 0 none)),(2,(.int .i64 i0)),(3,(.int .i64 i1))] [(28,[(.sl none 1 n2 c3)])] [] 0)
theorem wX:Told cfg Tryz.prog 250 Tryz.f250:=⟨by kernel_rfl,Tryz.func250,by kernel_rfl⟩
theorem wY (n0:Nat) (c0:List D):aW pr cv J 250 Tryz.f250 [(.sl none 1 n0 c0)]=
 (J 0 (fy 0 (pr.ar .sub .i64 (pr.aV n0) 1) n0 c0)):=by kernel_rfl
theorem nn (i0:Int) (i1:Int) (n2:Nat) (c3:List D):bL pr cv J 250 Tryz.f250 [(.sl none 0 0 [])] 0 (fy i0 i1 n2 c3)=
 let y1:List D:=(List.set c3 (pr.idx 0 i0 1) (.int .i64 (pr.aO c3 (pr.idx 0 i1 1))))
 (br (pr.lt i0 i1) (br (pr.bm i1 n2) (br (br (pr.bR .i64 c3 (pr.idx 0 i1 1)) true false) (br (pr.bm i0 n2) (br (br (pr.bR .i64 c3 (pr.idx 0 i0 1)) true false) (br (pr.bm i0 n2) (br (pr.slot c3 (pr.idx 0 i0 1)) (br (pr.bm i1 n2) (br (pr.slot y1 (pr.idx 0 i1 1)) (J 0 (fy (pr.ar .add .i64 i0 1) (pr.ar .sub .i64 i1 1) n2 (List.set y1 (pr.idx 0 i1 1) (.int .i64 (pr.aO c3 (pr.idx 0 i0 1)))))) none) none) none) none) none) none) none) none) (some ((.aM []),[(.sl none 1 n2 c3)]))):=by kernel_rfl
def o9 (i0:Int) (g1:Bool) (n2:Nat) (c3:List D) (g4:Bool) (n5:Nat) (c6:List D) (g7:Bool) (n8:Nat) (c9:List D) (g10:Bool) (dE:Nat) (dO:List D) (i13:Int) (kI:Nat) (lj:List D):St:=(St.mk [(1,(.int .i64 i0)),(2,(.ptr 2 [] 0)),(5,(.ref 10005 [] 0 none))] [(2,[(.sl (some g1) 16 n2 c3),(.sl (some g4) 3 n5 c6),(.sl (some g7) 2 n8 c9),(.sl (some g10) 1 dE dO),(.int .i64 i13)]),(10005,[(.sl none 1 kI lj)])] [] 0)
theorem QJ:Told cfg Tryz.prog 195 Tryz.f195:=⟨by kernel_rfl,Tryz.func195,by kernel_rfl⟩
theorem QK (g0:Bool) (n0:Nat) (c0:List D) (g1:Bool) (n1:Nat) (c1:List D) (g2:Bool) (n2:Nat) (c2:List D) (g3:Bool) (n3:Nat) (c3:List D) (a4:Int) (a5:Int):aW pr cv J 195 Tryz.f195 [(.agg [(.sl (some g0) 16 n0 c0),(.sl (some g1) 3 n1 c1),(.sl (some g2) 2 n2 c2),(.sl (some g3) 1 n3 c3),(.int .i64 a4)]),(.int .i64 a5)]=
 (J 0 (o9 a5 g0 n0 c0 g1 n1 c1 g2 n2 c2 g3 n3 c3 a4 0 [])):=by kernel_rfl
theorem lq (i0:Int) (g1:Bool) (n2:Nat) (c3:List D) (g4:Bool) (n5:Nat) (c6:List D) (g7:Bool) (n8:Nat) (c9:List D) (g10:Bool) (dE:Nat) (dO:List D) (i13:Int) (kI:Nat) (lj:List D):bL pr cv J 195 Tryz.f195 [.undef,.undef] 0 (o9 i0 g1 n2 c3 g4 n5 c6 g7 n8 c9 g10 dE dO i13 kI lj)=
 let y1:Bool:=(br (pr.bR .i64 c9 ((pr.idx 0 (pr.ar .sub .i64 i0 1) 2)+1)) true false)
 let y2:Int:=(pr.aO c9 ((pr.idx 0 (pr.ar .sub .i64 i0 1) 2)+1))
 let y3:Option (D × List D):=(some ((.sl none 1 kI lj),[.undef,.undef]))
 (br (pr.lt 0 i0) (br (pr.le i0 (pr.aV n8)) (br (br (pr.flat lj) (pr.fits (1+kI) 8) false) (br (pr.bm (pr.ar .sub .i64 i0 1) n8) (br y1 (br (pr.le i0 y2) (some ((.sl none 1 (1+kI) ((.int .i64 i0)::lj)),[.undef,.undef])) (br (pr.bm (pr.ar .sub .i64 i0 1) n8) (br y1 (J 0 (o9 y2 g1 n2 c3 g4 n5 c6 g7 n8 c9 g10 dE dO i13 (1+kI) ((.int .i64 i0)::lj))) none) none)) none) none) none) y3) y3):=by kernel_rfl
def pb (i0:Int) (g1:Bool) (n2:Nat) (c3:List D) (g4:Bool) (n5:Nat) (c6:List D) (g7:Bool) (n8:Nat) (c9:List D) (g10:Bool) (dE:Nat) (dO:List D) (i13:Int) (kI:Nat) (lj:List D):St:=(St.mk [(1,(.int .i64 i0)),(2,(.ptr 2 [] 0)),(5,(.ref 10005 [] 0 none))] [(2,[(.sl (some g1) 16 n2 c3),(.sl (some g4) 3 n5 c6),(.sl (some g7) 2 n8 c9),(.sl (some g10) 1 dE dO),(.int .i64 i13)]),(10005,[(.sl none 1 kI lj)])] [] 0)
theorem CL:Told cfg Tryz.prog 204 Tryz.f204:=⟨by kernel_rfl,Tryz.func204,by kernel_rfl⟩
theorem CM (g0:Bool) (n0:Nat) (c0:List D) (g1:Bool) (n1:Nat) (c1:List D) (g2:Bool) (n2:Nat) (c2:List D) (g3:Bool) (n3:Nat) (c3:List D) (a4:Int) (a5:Int):aW pr cv J 204 Tryz.f204 [(.agg [(.sl (some g0) 16 n0 c0),(.sl (some g1) 3 n1 c1),(.sl (some g2) 2 n2 c2),(.sl (some g3) 1 n3 c3),(.int .i64 a4)]),(.int .i64 a5)]=
 (cv 105 [(.int .i64 a5),(.int .i64 1),(.int .i64 (pr.aV n2))] (.bool (fun bH=>(.done (br (br bH false true) (some ((.sl none 1 0 []),[.undef,.undef])) (J 0 (pb a5 g0 n0 c0 g1 n1 c1 g2 n2 c2 g3 n3 c3 a4 0 []))))))):=by kernel_rfl
theorem xL (i0:Int) (g1:Bool) (n2:Nat) (c3:List D) (g4:Bool) (n5:Nat) (c6:List D) (g7:Bool) (n8:Nat) (c9:List D) (g10:Bool) (dE:Nat) (dO:List D) (i13:Int) (kI:Nat) (lj:List D):bL pr cv J 204 Tryz.f204 [.undef,.undef] 0 (pb i0 g1 n2 c3 g4 n5 c6 g7 n8 c9 g10 dE dO i13 kI lj)=
 let y1:D:=(.int .i64 (pr.aO c9 ((pr.idx 0 (pr.ar .sub .i64 i0 1) 2)+1)))
 let y2:List D:=[(.sl none 1 (kI+1) (List.append lj [(.int .i64 i0)]))]
 (br (br (pr.flat [(.int .i64 i0)]) (pr.fits (kI+1) 8) false) (br (pr.bm (pr.ar .sub .i64 i0 1) n8) (br (br (pr.bR .i64 c9 ((pr.idx 0 (pr.ar .sub .i64 i0 1) 2)+1)) true false) (cv 105 [y1,(.int .i64 1),(.int .i64 (pr.ar .sub .i64 i0 1))] (.bool (fun bH=>(.done (br (br bH false true) (br (br (br (pr.nl (List.append lj [(.int .i64 i0)])) true false) true false) (cv 250 y2 (.sl (fun Ch=>(fun uM=>(.done (br (br (br (pr.nl uM) true false) true false) (br (br (br (pr.neq (kI+1) Ch) true false) true false) (some ((.sl none 1 Ch uM),[.undef,.undef])) none) none)))))) none) (J 0 (pb (pr.aO c9 ((pr.idx 0 (pr.ar .sub .i64 i0 1) 2)+1)) g1 n2 c3 g4 n5 c6 g7 n8 c9 g10 dE dO i13 (kI+1) (List.append lj [(.int .i64 i0)])))))))) none) none) none):=by kernel_rfl
theorem Ur:Told cfg Tryz.prog 246 Tryz.f246:=⟨by kernel_rfl,Tryz.func246,by kernel_rfl⟩
theorem Us (g0:Bool) (n0:Nat) (c0:List D) (a1:Int) (a2:Int):aW pr cv J 246 Tryz.f246 [(.sl (some g0) 1 n0 c0),(.int .i64 a1),(.int .i64 a2)]=
 (br (br (pr.cell c0) (pr.fits (0+n0) 8) false) (cv 87 [(.int .i64 a1),(.int .i64 0),(.int .i64 (pr.ar .sub .i64 (pr.aV n0) 1))] (.bool (fun bH=>(.done (br bH (br (pr.bm a1 (0+n0)) (br (pr.slot c0 (pr.idx 0 a1 1)) (some ((.sl none 1 (0+n0) (List.set c0 (pr.idx 0 a1 1) (.int .i64 a2))),[.undef,.undef,.undef])) none) none) (some ((.sl none 1 (0+n0) c0),[.undef,.undef,.undef]))))))) none):=by kernel_rfl
theorem Ut:Told cfg Tryz.prog 249 Tryz.f249:=⟨by kernel_rfl,Tryz.func249,by kernel_rfl⟩
theorem Uu (g0:Bool) (n0:Nat) (c0:List D) (a1:Int) (a2:Int):aW pr cv J 249 Tryz.f249 [(.sl (some g0) 1 n0 c0),(.int .i64 a1),(.int .i64 a2)]=
 (cv 110 [(.sl (some g0) 1 n0 c0)] (.sl (fun dN=>(fun dr=>(.done (br (br (br (pr.nl dr) true false) true false) (cv 105 [(.int .i64 a1),(.int .i64 0),(.int .i64 (pr.ar .sub .i64 (pr.aV n0) 1))] (.bool (fun gi=>(.done (br gi (br (pr.bm a1 dN) (br (pr.slot dr (pr.idx 0 a1 1)) (some ((.sl none 1 dN (List.set dr (pr.idx 0 a1 1) (.int .i64 a2))),[.undef,.undef,.undef])) none) none) (some ((.sl none 1 dN dr),[.undef,.undef,.undef]))))))) none)))))):=by kernel_rfl
theorem H7:Told cfg Tryz.prog 245 Tryz.f245:=⟨by kernel_rfl,Tryz.func245,by kernel_rfl⟩
theorem H8 :aW pr cv J 245 Tryz.f245 []=
 (br (pr.sZ 8 8 8) (some ((.sl none 1 (pr.iv 8) (fa (pr.iv 8) [(.int .i64 0)])),[])) none):=by kernel_rfl
theorem H9:Told cfg Tryz.prog 248 Tryz.f248:=⟨by kernel_rfl,Tryz.func248,by kernel_rfl⟩
theorem Ia :aW pr cv J 248 Tryz.f248 []=
 (br (pr.sZ 8 8 8) (some ((.sl none 1 (pr.iv 8) (fa (pr.iv 8) [(.int .i64 0)])),[])) none):=by kernel_rfl
def jk (g0:Bool) (n1:Nat) (c2:List D) (i3:Int) (g4:Bool) (n5:Nat) (c6:List D) (g7:Bool) (n8:Nat) (c9:List D) (g10:Bool) (dE:Nat) (dO:List D) (g13:Bool) (kI:Nat) (lj:List D) (i16:Int) (n17:Nat) (SW:List D):St:=(St.mk [(1,(.sl (some g0) 1 n1 c2)),(2,(.ptr 2 [] 0)),(5,(.ref 10005 [] 0 none)),(6,(.int .i64 i3))] [(2,[(.sl (some g4) 16 n5 c6),(.sl (some g7) 3 n8 c9),(.sl (some g10) 2 dE dO),(.sl (some g13) 1 kI lj),(.int .i64 i16)]),(10005,[(.sl none 1 n17 SW)])] [] 0)
theorem M1:Told cfg Tryz.prog 194 Tryz.f194:=⟨by kernel_rfl,Tryz.func194,by kernel_rfl⟩
theorem M3 (g0:Bool) (n0:Nat) (c0:List D) (g1:Bool) (n1:Nat) (c1:List D) (g2:Bool) (n2:Nat) (c2:List D) (g3:Bool) (n3:Nat) (c3:List D) (a4:Int) (g5:Bool) (n5:Nat) (c5:List D):aW pr cv J 194 Tryz.f194 [(.agg [(.sl (some g0) 16 n0 c0),(.sl (some g1) 3 n1 c1),(.sl (some g2) 2 n2 c2),(.sl (some g3) 1 n3 c3),(.int .i64 a4)]),(.sl (some g5) 1 n5 c5)]=
 (cv 245 [] (.sl (fun dN=>(fun dr=>(.done (br (br (br (pr.nl dr) true false) true false) (J 0 (jk g5 n5 c5 0 g0 n0 c0 g1 n1 c1 g2 n2 c2 g3 n3 c3 a4 dN dr)) none)))))):=by kernel_rfl
theorem wA (g0:Bool) (n1:Nat) (c2:List D) (i3:Int) (g4:Bool) (n5:Nat) (c6:List D) (g7:Bool) (n8:Nat) (c9:List D) (g10:Bool) (dE:Nat) (dO:List D) (g13:Bool) (kI:Nat) (lj:List D) (i16:Int) (n17:Nat) (SW:List D):bL pr cv J 194 Tryz.f194 [.undef,.undef] 0 (jk g0 n1 c2 i3 g4 n5 c6 g7 n8 c9 g10 dE dO g13 kI lj i16 n17 SW)=
 let y1:Nat:=(pr.idx 0 (pr.ar .sub .i64 (pr.aO c2 (pr.idx 0 i3 1)) 1) 2)
 (br (pr.lt i3 (pr.aV n1)) (br (pr.bm i3 n1) (br (br (pr.bR .i64 c2 (pr.idx 0 i3 1)) true false) (cv 87 [(.int .i64 (pr.aO c2 (pr.idx 0 i3 1))),(.int .i64 1),(.int .i64 (pr.aV dE))] (.bool (fun bH=>(.done (br bH (br (pr.bm i3 n1) (br (br (pr.bR .i64 c2 (pr.idx 0 i3 1)) true false) (br (pr.bm (pr.ar .sub .i64 (pr.aO c2 (pr.idx 0 i3 1)) 1) dE) (br (br (pr.bR .i64 dO y1) true false) (br (pr.bm i3 n1) (br (br (pr.bR .i64 c2 (pr.idx 0 i3 1)) true false) (cv 246 [(.sl (some true) 1 n17 (cI true SW)),(.int .i64 (pr.aO dO y1)),(.int .i64 (pr.aO c2 (pr.idx 0 i3 1)))] (.sl (fun Ch=>(fun uM=>(.done (br (br (br (pr.nl uM) true false) true false) (J 0 (jk g0 n1 c2 (pr.ar .add .i64 i3 1) g4 n5 c6 g7 n8 c9 g10 dE dO g13 kI lj i16 Ch uM)) none)))))) none) none) none) none) none) none) (J 0 (jk g0 n1 c2 (pr.ar .add .i64 i3 1) g4 n5 c6 g7 n8 c9 g10 dE dO g13 kI lj i16 n17 SW))))))) none) none) (some ((.sl none 1 n17 SW),[.undef,.undef]))):=by kernel_rfl
def jl (g0:Bool) (n1:Nat) (c2:List D) (i3:Int) (i4:Int) (g5:Bool) (n6:Nat) (c7:List D) (g8:Bool) (n9:Nat) (rI:List D) (g11:Bool) (fI:Nat) (gh:List D) (g14:Bool) (n15:Nat) (qO:List D) (i17:Int) (n18:Nat) (rK:List D):St:=(St.mk [(2,(.ptr 2 [] 0)),(5,(.ref 10005 [] 0 none)),(9,(.sl (some g0) 1 n1 c2)),(10,(.int .i64 i3)),(11,(.int .i64 i4))] [(2,[(.sl (some g5) 16 n6 c7),(.sl (some g8) 3 n9 rI),(.sl (some g11) 2 fI gh),(.sl (some g14) 1 n15 qO),(.int .i64 i17)]),(10005,[(.sl none 1 n18 rK)])] [] 0)
theorem M4:Told cfg Tryz.prog 203 Tryz.f203:=⟨by kernel_rfl,Tryz.func203,by kernel_rfl⟩
theorem M5 (g0:Bool) (n0:Nat) (c0:List D) (g1:Bool) (n1:Nat) (c1:List D) (g2:Bool) (n2:Nat) (c2:List D) (g3:Bool) (n3:Nat) (c3:List D) (a4:Int) (g5:Bool) (n5:Nat) (c5:List D):aW pr cv J 203 Tryz.f203 [(.agg [(.sl (some g0) 16 n0 c0),(.sl (some g1) 3 n1 c1),(.sl (some g2) 2 n2 c2),(.sl (some g3) 1 n3 c3),(.int .i64 a4)]),(.sl (some g5) 1 n5 c5)]=
 (cv 248 [] (.sl (fun dN=>(fun dr=>(.done (br (br (br (pr.nl dr) true false) true false) (J 0 (jl g5 n5 c5 (pr.aV n5) 0 g0 n0 c0 g1 n1 c1 g2 n2 c2 g3 n3 c3 a4 dN dr)) none)))))):=by kernel_rfl
theorem wB (g0:Bool) (n1:Nat) (c2:List D) (i3:Int) (i4:Int) (g5:Bool) (n6:Nat) (c7:List D) (g8:Bool) (n9:Nat) (rI:List D) (g11:Bool) (fI:Nat) (gh:List D) (g14:Bool) (n15:Nat) (qO:List D) (i17:Int) (n18:Nat) (rK:List D):bL pr cv J 203 Tryz.f203 [.undef,.undef] 0 (jl g0 n1 c2 i3 i4 g5 n6 c7 g8 n9 rI g11 fI gh g14 n15 qO i17 n18 rK)=
 let y1:Nat:=(pr.idx 0 (pr.ar .sub .i64 (pr.aO c2 (pr.idx 0 i4 1)) 1) 2)
 (br (pr.lt i4 i3) (br (pr.bm i4 n1) (br (br (pr.bR .i64 c2 (pr.idx 0 i4 1)) true false) (cv 105 [(.int .i64 (pr.aO c2 (pr.idx 0 i4 1))),(.int .i64 1),(.int .i64 (pr.aV fI))] (.bool (fun bH=>(.done (br bH (br (pr.bm (pr.ar .sub .i64 (pr.aO c2 (pr.idx 0 i4 1)) 1) fI) (br (br (pr.bR .i64 gh y1) true false) (cv 249 [(.sl (some true) 1 n18 (cI true rK)),(.int .i64 (pr.aO gh y1)),(.int .i64 (pr.aO c2 (pr.idx 0 i4 1)))] (.sl (fun Ch=>(fun uM=>(.done (br (br (br (pr.nl uM) true false) true false) (J 0 (jl g0 n1 c2 i3 (pr.ar .add .i64 i4 1) g5 n6 c7 g8 n9 rI g11 fI gh g14 n15 qO i17 Ch uM)) none)))))) none) none) (J 0 (jl g0 n1 c2 i3 (pr.ar .add .i64 i4 1) g5 n6 c7 g8 n9 rI g11 fI gh g14 n15 qO i17 n18 rK))))))) none) none) (some ((.sl none 1 n18 rK),[.undef,.undef]))):=by kernel_rfl
end
def rv (xs:List Int) (k:Nat):List Int:=(List.range xs.length).map fun j=>if j < k∨xs.length<=j+k then xs.getD (xs.length - 1 - j) 0 else xs.getD j 0
theorem qP (xs:List Int) (k:Nat):(rv xs k).length=xs.length:=by simp [rv]
theorem QL (xs:List Int) (k j:Nat) (h:j < (rv xs k).length):(rv xs k)[j]=if j < k∨xs.length<=j+k then xs.getD (xs.length - 1 - j) 0 else xs.getD j 0:=by simp [rv]
theorem acS (xs:List Int):rv xs 0=xs:=by
 apply List.ext_getElem (by rw [qP])
 intro j h1 h2;rw [QL,if_neg (by omega)]
 simp [abi,h2]
theorem afI (xs:List Int) {k:Nat} (h:xs.length<=2*k+1):rv xs k=xs.reverse:=by
 apply List.ext_getElem (by rw [qP,List.length_reverse])
 intro j h1 h2;rw [qP] at h1;rw [QL,List.getElem_reverse];split
 ·simp [abi,show xs.length - 1 - j < xs.length by omega]
 ·have e:xs.length - 1 - j=j:=by omega
  simp [abi,h1,e]
theorem acT (xs:List Int) {k:Nat} (h:k+(k+1) < xs.length) (h1:k < (rv xs k).length) (h2:xs.length - 1 - k < (rv xs k).length):
  ((rv xs k).set k (rv xs k)[xs.length - 1 - k]).set (xs.length - 1 - k) (rv xs k)[k]=rv xs (k+1):=by
 apply List.ext_getElem (by simp [qP])
 intro j g1 g2;rw [qP] at g2;rw [List.getElem_set,List.getElem_set];simp only [QL];by_cases e1:xs.length - 1 - k=j
 ·rw [if_pos e1,if_neg (by omega),if_pos (by omega)]
  congr 1
  omega
 ·rw [if_neg e1];by_cases e2:k=j
  ·rw [if_pos e2,if_neg (by omega),if_pos (by omega)]
   subst e2;rfl
  ·rw [if_neg e2];by_cases e3:j < k∨xs.length<=j+k
   ·rw [if_pos e3,if_pos (by omega)]
   ·rw [if_neg e3,if_neg (by omega)]
theorem Uv (xs:List Int) (hb:xs.length < 4611686018427387904):Cm 250 [.sl none 1 xs.length (ints xs)] (.aM [],[.sl none 1 xs.length (ints xs.reverse)]):=by
 refine Cm.go wX [.sl none 0 0 []] 0 (fy ((0:Nat):Int) ((xs.length:Int) - 1 - ((0:Nat):Int)) xs.length (ints (rv xs 0))) ?_ fun J hJ=>?_
 ·refine WP.loop (H:=fun k:Nat=>fy (k:Int) ((xs.length:Int) - 1 - (k:Int)) xs.length (ints (rv xs k))) (n:=xs.length / 2) (fun _=>True) (fun k hk _ ih=>WP.go _ (ih trivial) fun J hJ=>?_) (fun _=>WP.fin fun J=>?_) 0 (aa9 _) trivial
  ·rw [nn];have hl:=qP xs k;have e0:(xs.length:Int) - 1 - (k:Int)=((xs.length - 1 - k:Nat):Int):=by omega
   have e1:(xs.length:Int) - 1 - ((k+1:Nat):Int)=((xs.length - 1 - k:Nat):Int) - 1:=by omega
   have h1:k < (rv xs k).length:=by omega
   have h2:xs.length - 1 - k < (rv xs k).length:=by omega
   rw [e1,<- acT xs (by omega) h1 h2] at hJ
   rw [e0];simp (disch:=first | omega | (rw [List.length_set]; omega)) only [aK,bg,bo,bc,bF,cV,dz,Ag,dA,ints_set,dp,eX]
   exact hJ
  ·rw [nn];simp (disch:=omega) only [bG,afI]
 ·rw [wY];simp (disch:=omega) only [aC,eX];rw [acS] at hJ;have e:(xs.length:Int) - 1 - ((0:Nat):Int)=(xs.length:Int) - 1:=by omega
  rw [e] at hJ;exact hJ
def iY (log:List fe):Nat->Int->List Int
 | 0,_=>[]
 | f+1,n=>if 1<=n/\n<=log.length then n::(if (log.getD (n - 1).toNat ⟨0,0⟩).up < n then iY log f (log.getD (n - 1).toNat ⟨0,0⟩).up else []) else []
theorem kQ {log:List fe} {n:Int} (h:¬ (1<=n/\n<=log.length)):∀ f,iY log f n=[]
 | 0=>rfl
 | f+1=>by rw [iY,if_neg h]
theorem QM {log:List fe}:∀ (f g:Nat) (n:Int),n<=f->n<=g->iY log f n=iY log g n
 | 0,g,n,hf,hg=>by rw [kQ (by omega),kQ (by omega)]
 | f+1,0,n,hf,hg=>by rw [kQ (by omega),kQ (by omega)]
 | f+1,g+1,n,hf,hg=>by
  rw [iY,iY];split
  ·split
   ·rw [QM f g _ (by omega) (by omega)]
   ·rfl
  ·rfl
theorem SX {log:List fe}:∀ (f:Nat) (n:Int),((iY log f n).length:Int)<=max n 0
 | 0,n=>by simp [iY]; omega
 | f+1,n=>by
  rw [iY];split
  ·split
   ·have:=SX (log:=log) f (log.getD (n - 1).toNat ⟨0,0⟩).up;simp only [aa7];omega
   ·simp only [aa7,abx]; omega
  ·simp only [abx]; omega
theorem Aj {α:Type} {l:List α} {i:Nat} (h:i < l.length) (d:α):l.getD i d=l[i]:=by simp [abi,h]
theorem Uw {R:Type} {x y:R} (xs:List Int):br (ad.flat (ints xs)) x y=x:=by
 have:ad.flat (ints xs)=true:=by simp [ad,ints,eD]
 rw [this]; rfl
theorem ahi {R:Type} {x y:R} (xs:List Int):br (ad.cell (ints xs)) x y=x:=by
 have:ad.cell (ints xs)=true:=by simp [ad,ints,da]
 rw [this]; rfl
theorem Xd {R:Type} {x y:R} (a:Int):br (ad.flat [.int .i64 a]) x y=x:=Uw [a]
section
variable (g:Bool) (w:ak) (ok:cd w)
include ok
theorem CN:∀ (f:Nat) (n:Int) (out:List Int),n<=f->(out.length:Int)+max n 0<=1048576∨¬ (1<=n/\n<=w.log.length)->
  WP 195 Tryz.f195 [.undef,.undef] 0 (o9 n g w.nodes.length (ab (U (some g)) w.nodes) g w.aH.length (ab (aB (some g)) w.aH) g w.log.length (ab (bj (some g)) w.log) g w.safe.length (ints w.safe) w.gen out.length (ints out)) (.sl none 1 ((iY w.log f n).reverse++out).length (ints ((iY w.log f n).reverse++out)),[.undef,.undef])
 | 0,n,out,hf,ho=>by
  refine WP.fin fun J=>?_;rw [lq,kQ (by omega)]
  simp (disch:=omega) only [bG,List.reverse_nil,aaq]
 | f+1,n,out,hf,ho=>by
  have QN:=ok.log;by_cases h1:1<=n
  ·by_cases h2:n<=w.log.length
   ·obtain ⟨m,rfl⟩:∃ m:Nat,n=(m:Int)+1:=⟨(n - 1).toNat,by omega⟩
    have hm:m < w.log.length:=by omega
    have e1:(m:Int)+1 - 1=(m:Int):=by omega
    have e2:ints (((m:Int)+1)::out)=.int .i64 ((m:Int)+1)::ints out:=rfl;have e3:(((m:Int)+1)::out).length=1+out.length:=by rw [aa7]; omega
    have VJ:iY w.log (f+1) ((m:Int)+1)=((m:Int)+1)::(if (w.log[m]).up < (m:Int)+1 then iY w.log f (w.log[m]).up else []):=by
     rw [iY,if_pos ⟨h1,h2⟩,e1,adV,Aj hm]
    rw [VJ];by_cases h3:(w.log[m]).up < (m:Int)+1
    ·rw [if_pos h3];have ih:=CN f (w.log[m]).up (((m:Int)+1)::out) (by omega) (by rw [aa7]; omega)
     have e4:(((m:Int)+1)::iY w.log f (w.log[m]).up).reverse++out=(iY w.log f (w.log[m]).up).reverse++(((m:Int)+1)::out):=by simp
     rw [e4];rw [e2,e3] at ih;refine WP.go _ ih fun J hJ=>?_;rw [lq];simp (disch:=first | omega | assumption) only [aK,bg,bo,aC,bc,xJ,nj,Cd,Uw,ek,eX,e1,bF,pB,u7,u9,va,vd]
     exact hJ
    ·rw [if_neg h3];refine WP.fin fun J=>?_;rw [lq];simp (disch:=first | omega | assumption) only [aK,bg,bo,aC,bc,xJ,Cd,Uw,ek,eX,e1,bF,pB,u7,u9,va,vd]
     have e5:[((m:Int)+1)].reverse++out=((m:Int)+1)::out:=rfl;rw [e5,e2,e3]
   ·refine WP.fin fun J=>?_;rw [lq,kQ (by omega)]
    simp (disch:=omega) only [aK,bg,aC,bc,nj,List.reverse_nil,aaq]
  ·refine WP.fin fun J=>?_;rw [lq,kQ (by omega)]
   simp (disch:=omega) only [bG,List.reverse_nil,aaq]
theorem CO:∀ (f:Nat) (n:Int) (out:List Int),n<=f->1<=n->n<=w.log.length->(out.length:Int)+n<=1048576->
  WP 204 Tryz.f204 [.undef,.undef] 0 (pb n g w.nodes.length (ab (U (some g)) w.nodes) g w.aH.length (ab (aB (some g)) w.aH) g w.log.length (ab (bj (some g)) w.log) g w.safe.length (ints w.safe) w.gen out.length (ints out)) (.sl none 1 (out++iY w.log f n).reverse.length (ints (out++iY w.log f n).reverse),[.undef,.undef])
 | 0,n,out,hf,h1,h2,ho=>absurd hf (by omega)
 | f+1,n,out,hf,h1,h2,ho=>by
  have QN:=ok.log;obtain ⟨m,rfl⟩:∃ m:Nat,n=(m:Int)+1:=⟨(n - 1).toNat,by omega⟩
  have hm:m < w.log.length:=by omega
  have e1:(m:Int)+1 - 1=(m:Int):=by omega
  have e2:List.append (ints out) [.int .i64 ((m:Int)+1)]=ints (out++[(m:Int)+1]):=by simp [ints]
  have e3:(out++[(m:Int)+1]).length=out.length+1:=by simp
  have VJ:iY w.log (f+1) ((m:Int)+1)=((m:Int)+1)::(if (w.log[m]).up < (m:Int)+1 then iY w.log f (w.log[m]).up else []):=by
   rw [iY,if_pos ⟨h1,h2⟩,e1,adV,Aj hm]
  rw [VJ];have vf:∀ t,aX 105 [.int .i64 (w.log[m]).up,.int .i64 1,.int .i64 (m:Int)] t=feed t [.bool (decide (1<=(w.log[m]).up/\(w.log[m]).up<=(m:Int)))]:=fun t=>bh (EW _ _ _) (by kernel_rfl) t
  by_cases h3:1<=(w.log[m]).up/\(w.log[m]).up<=(m:Int)
  ·have ih:=CO f (w.log[m]).up (out++[(m:Int)+1]) (by omega) h3.1 (by omega) (by rw [e3]; omega)
   rw [if_pos (by omega)]
   have e4:out++((m:Int)+1)::iY w.log f (w.log[m]).up=(out++[(m:Int)+1])++iY w.log f (w.log[m]).up:=by simp
   rw [e4];rw [e3] at ih;refine WP.go _ ih fun J hJ=>?_;rw [xL];simp (disch:=first | omega | assumption) only [aK,bg,bo,bQ,cb,Cd,Xd,ek,eX,e1,bF,pB,u7,u9,va,vd,vf,aE,ao,decide_eq_true h3,e2]
   exact hJ
  ·have e4:(if (w.log[m]).up < (m:Int)+1 then iY w.log f (w.log[m]).up else [])=[]:=by
    split
    ·exact kQ (by omega) f
    ·rfl
   rw [e4];have vr:∀ t,aX 250 [.sl none 1 (out.length+1) (ints (out++[(m:Int)+1]))] t=feed t [.sl none 1 (out.length+1) (ints (out++[(m:Int)+1]).reverse)]:=fun t=>by
    have:=Uv (out++[(m:Int)+1]) (by rw [e3]; omega)
    rw [e3] at this;exact bh this (by kernel_rfl) t
   refine WP.fin fun J=>?_;rw [xL];simp (disch:=first | omega | assumption) only [aK,bg,bo,bQ,cb,Cd,Xd,ek,eX,e1,bF,pB,u7,u9,va,vd,vf,aE,df,ao,decide_eq_false h3,e2,vr,gR,acR]
   rw [List.length_reverse,e3]
theorem QO (n:Int):Cm 195 [.agg (bM (some g) w),.int .i64 n] (.sl none 1 (iY w.log w.log.length n).reverse.length (ints (iY w.log w.log.length n).reverse),[.undef,.undef]):=by
 have QN:=ok.log;have hw:=CN g w ok (max n 0).toNat n [] (by omega) (by simp only [abx]; omega)
 have hf:iY w.log (max n 0).toNat n=iY w.log w.log.length n:=by
  by_cases h:1<=n/\n<=w.log.length
  ·exact QM _ _ n (by omega) (by omega)
  ·rw [kQ h,kQ h]
 rw [hf,aah] at hw;refine Cm.go QJ [.undef,.undef] 0 _ hw fun J hJ=>?_;rw [QK];exact hJ
theorem QP (n:Int):Cm 204 [.agg (bM (some g) w),.int .i64 n] (.sl none 1 (iY w.log w.log.length n).reverse.length (ints (iY w.log w.log.length n).reverse),[.undef,.undef]):=by
 have QN:=ok.log;by_cases h:1<=n/\n<=w.log.length
 ·have hw:=CO g w ok w.log.length n [] (by omega) h.1 h.2 (by simp only [abx]; omega)
  rw [aaq] at hw;refine Cm.go CL [.undef,.undef] 0 _ hw fun J hJ=>?_;rw [CM];simp only [aC,fo,aE,ao,decide_eq_true h,bQ,cb,aK];exact hJ
 ·refine Cm.fin CL fun J=>?_;rw [CM,kQ h];simp only [aC,fo,aE,ao,decide_eq_false h,bQ,cb,bg];rfl
end
theorem ZC (g:Bool) (xs:List Int) (hb:xs.length<=17592186044416):Cm 110 [.sl (some g) 1 xs.length (ints xs)] (.sl none 1 xs.length (ints xs),[.undef]):=by
 refine YT (e:=ni 1 8) (by kernel_rfl) ?_
 have h:(ints xs).all eD=true:=by simp [ints,eD]
 simp only [ni,h];rw [if_pos (by refine ⟨?_,?_,?_,?_⟩<;>first | trivial | rfl | omega)]
def wC (xs:List Int) (at_ n:Int):List Int:=if 0<=at_/\at_<=(xs.length:Int) - 1 then xs.set at_.toNat n else xs
theorem RI (xs:List Int) (a n:Int):(wC xs a n).length=xs.length:=by
 unfold wC;split<;>simp
theorem Ux (g:Bool) (xs:List Int) (a n:Int) (hb:xs.length<=17592186044416):Cm 249 [.sl (some g) 1 xs.length (ints xs),.int .i64 a,.int .i64 n] (.sl none 1 xs.length (ints (wC xs a n)),[.undef,.undef,.undef]):=by
 have vc:∀ t,aX 110 [.sl (some g) 1 xs.length (ints xs)] t=feed t [.sl none 1 xs.length (ints xs)]:=bh (ZC g xs hb) (by kernel_rfl)
 refine Cm.fin Ut fun J=>?_;rw [Uu];simp (disch:=omega) only [vc,df,aE,ao,gR,aK,bo,aC,eX,fo];unfold wC;by_cases h:0<=a/\a<=(xs.length:Int) - 1
 ·obtain ⟨m,rfl⟩:∃ m:Nat,a=(m:Int):=⟨a.toNat,by omega⟩
  rw [if_pos h];simp (disch:=omega) only [decide_eq_true h,aK,bF,cV,Ag,ints_set,adV]
 ·rw [if_neg h];simp only [decide_eq_false h,bg]
theorem Uy (g:Bool) (xs:List Int) (a n:Int) (hb:xs.length<=17592186044416):Cm 246 [.sl (some g) 1 xs.length (ints xs),.int .i64 a,.int .i64 n] (.sl none 1 xs.length (ints (wC xs a n)),[.undef,.undef,.undef]):=by
 refine Cm.fin Ur fun J=>?_;rw [Us];simp (disch:=omega) only [ahi,ek,Cd,abn,aE,ao,aK,aC,eX,jz];unfold wC;by_cases h:0<=a/\a<=(xs.length:Int) - 1
 ·obtain ⟨m,rfl⟩:∃ m:Nat,a=(m:Int):=⟨a.toNat,by omega⟩
  rw [if_pos h];simp (disch:=omega) only [decide_eq_true h,aK,bF,cV,Ag,ints_set,adV]
 ·rw [if_neg h];simp only [decide_eq_false h,bg]
theorem Ib:Cm 248 [] (.sl none 1 8 (ints (List.replicate 8 0)),[]):=by
 refine Cm.fin H9 fun J=>?_;rw [Ia];rfl
theorem Ic:Cm 245 [] (.sl none 1 8 (ints (List.replicate 8 0)),[]):=by
 refine Cm.fin H7 fun J=>?_;rw [H8];rfl
def jO (log:List fe) (m:List Int) (n:Int):List Int:=if 1<=n/\n<=log.length then wC m (log.getD (n - 1).toNat ⟨0,0⟩).cell n else m
def rpl (log:List fe) (list:List Int):List Int:=list.foldl (jO log) (List.replicate 8 0)
theorem Uz (log:List fe) (m:List Int) (n:Int):(jO log m n).length=m.length:=by
 unfold jO;split
 ·exact RI _ _ _
 ·rfl
theorem ve (log:List fe):∀ (l:List Int) (m:List Int),(l.foldl (jO log) m).length=m.length
 | [],_=>rfl
 | x::l,m=>by rw [List.foldl_cons,ve log l,Uz]
theorem Ie {α β:Type} (f:β->α->β) (b:β) {l:List α} {i:Nat} (h:i < l.length):(l.take (i+1)).foldl f b=f ((l.take i).foldl f b) l[i]:=by
 rw [<- aba h,List.foldl_append];rfl
theorem M6 (g g':Bool) (w:ak) (ok:cd w) (list:List Int) (hl:list.length<=17592186044416) (h64:nG list):Cm 194 [.agg (bM (some g) w),.sl (some g') 1 list.length (ints list)] (.sl none 1 8 (ints (rpl w.log list)),[.undef,.undef]):=by
 have QN:=ok.log;have vi:∀ t,aX 245 [] t=feed t [.sl none 1 8 (ints (List.replicate 8 0))]:=bh Ic (by kernel_rfl)
 refine Cm.go M1 [.undef,.undef] 0 (jk g' list.length (ints list) (0:Nat) g w.nodes.length (ab (U (some g)) w.nodes) g w.aH.length (ab (aB (some g)) w.aH) g w.log.length (ab (bj (some g)) w.log) g w.safe.length (ints w.safe) w.gen 8 (ints ((list.take 0).foldl (jO w.log) (List.replicate 8 0)))) ?_ fun J hJ=>?_
 ·refine WP.loop (H:=fun i:Nat=>jk g' list.length (ints list) (i:Nat) g w.nodes.length (ab (U (some g)) w.nodes) g w.aH.length (ab (aB (some g)) w.aH) g w.log.length (ab (bj (some g)) w.log) g w.safe.length (ints w.safe) w.gen 8 (ints ((list.take i).foldl (jO w.log) (List.replicate 8 0)))) (n:=list.length) (fun _=>True) (fun i hi _ ih=>WP.go _ (ih trivial) fun J hJ=>?_) (fun _=>WP.fin fun J=>?_) 0 (aa9 _) trivial
  ·rw [wA];rw [Ie _ _ hi] at hJ;have hx:=Af.1 (h64 _ (aan hi));have hlen:=ve w.log (list.take i) (List.replicate 8 0);simp (disch:=first | omega | assumption) only [aK,bg,bo,aC,bc,bF,cV,dz,dA,jz,aE,ao,dp]
   by_cases h:1<=list[i]/\list[i]<=(w.log.length:Int)
   ·obtain ⟨m,hm⟩:∃ m:Nat,list[i]=(m:Int)+1:=⟨(list[i] - 1).toNat,by omega⟩
    have hmm:m < w.log.length:=by omega
    have e1:(m:Int)+1 - 1=(m:Int):=by omega
    have hr:jO w.log ((list.take i).foldl (jO w.log) (List.replicate 8 0)) list[i]=wC ((list.take i).foldl (jO w.log) (List.replicate 8 0)) (w.log[m]).cell list[i]:=by
     rw [jO,if_pos h,hm,e1,adV,Aj hmm]
    rw [hr] at hJ;have e8:(8:Nat)=((list.take i).foldl (jO w.log) (List.replicate 8 0)).length:=by rw [hlen]; rfl
    have vp:∀ t,aX 246 [.sl (some true) 1 8 (ints ((list.take i).foldl (jO w.log) (List.replicate 8 0))),.int .i64 (w.log[m]).cell,.int .i64 list[i]] t=feed t [.sl none 1 8 (ints (wC ((list.take i).foldl (jO w.log) (List.replicate 8 0)) (w.log[m]).cell list[i]))]:=fun t=>by
     have:=Uy true ((list.take i).foldl (jO w.log) (List.replicate 8 0)) (w.log[m]).cell list[i] (by rw [hlen]; simp)
     rw [<- e8] at this;exact bh this (by kernel_rfl) t
    have es:ad.ar .sub .i64 list[i] 1=(m:Int):=by rw [hm,eX (by omega) (by omega),e1]
    simp (disch:=first | omega | assumption) only [decide_eq_true h,aK,bg,bo,es,bF,pB,u7,u9,va,vd,fJ,vp,df,ao,gR]
    exact hJ
   ·have hr:jO w.log ((list.take i).foldl (jO w.log) (List.replicate 8 0)) list[i]=(list.take i).foldl (jO w.log) (List.replicate 8 0):=by rw [jO,if_neg h]
    rw [hr] at hJ;simp only [decide_eq_false h,bg];exact hJ
  ·rw [wA,aaO];simp (disch:=omega) only [aC,bG];rfl
 ·rw [M3];simp only [vi,df,ao,gR,aK,bo];exact hJ
theorem M7 (g g':Bool) (w:ak) (ok:cd w) (list:List Int) (hl:list.length<=17592186044416) (h64:nG list):Cm 203 [.agg (bM (some g) w),.sl (some g') 1 list.length (ints list)] (.sl none 1 8 (ints (rpl w.log list)),[.undef,.undef]):=by
 have QN:=ok.log;have vi:∀ t,aX 248 [] t=feed t [.sl none 1 8 (ints (List.replicate 8 0))]:=bh Ib (by kernel_rfl)
 refine Cm.go M4 [.undef,.undef] 0 (jl g' list.length (ints list) list.length (0:Nat) g w.nodes.length (ab (U (some g)) w.nodes) g w.aH.length (ab (aB (some g)) w.aH) g w.log.length (ab (bj (some g)) w.log) g w.safe.length (ints w.safe) w.gen 8 (ints ((list.take 0).foldl (jO w.log) (List.replicate 8 0)))) ?_ fun J hJ=>?_
 ·refine WP.loop (H:=fun i:Nat=>jl g' list.length (ints list) list.length (i:Nat) g w.nodes.length (ab (U (some g)) w.nodes) g w.aH.length (ab (aB (some g)) w.aH) g w.log.length (ab (bj (some g)) w.log) g w.safe.length (ints w.safe) w.gen 8 (ints ((list.take i).foldl (jO w.log) (List.replicate 8 0)))) (n:=list.length) (fun _=>True) (fun i hi _ ih=>WP.go _ (ih trivial) fun J hJ=>?_) (fun _=>WP.fin fun J=>?_) 0 (aa9 _) trivial
  ·rw [wB];rw [Ie _ _ hi] at hJ;have hx:=Af.1 (h64 _ (aan hi));have hlen:=ve w.log (list.take i) (List.replicate 8 0);simp (disch:=first | omega | assumption) only [aK,bg,bo,aC,bc,bF,cV,dz,dA,fo,aE,ao,dp]
   by_cases h:1<=list[i]/\list[i]<=(w.log.length:Int)
   ·obtain ⟨m,hm⟩:∃ m:Nat,list[i]=(m:Int)+1:=⟨(list[i] - 1).toNat,by omega⟩
    have hmm:m < w.log.length:=by omega
    have e1:(m:Int)+1 - 1=(m:Int):=by omega
    have hr:jO w.log ((list.take i).foldl (jO w.log) (List.replicate 8 0)) list[i]=wC ((list.take i).foldl (jO w.log) (List.replicate 8 0)) (w.log[m]).cell list[i]:=by
     rw [jO,if_pos h,hm,e1,adV,Aj hmm]
    rw [hr] at hJ;have e8:(8:Nat)=((list.take i).foldl (jO w.log) (List.replicate 8 0)).length:=by rw [hlen]; rfl
    have vp:∀ t,aX 249 [.sl (some true) 1 8 (ints ((list.take i).foldl (jO w.log) (List.replicate 8 0))),.int .i64 (w.log[m]).cell,.int .i64 list[i]] t=feed t [.sl none 1 8 (ints (wC ((list.take i).foldl (jO w.log) (List.replicate 8 0)) (w.log[m]).cell list[i]))]:=fun t=>by
     have:=Ux true ((list.take i).foldl (jO w.log) (List.replicate 8 0)) (w.log[m]).cell list[i] (by rw [hlen]; simp)
     rw [<- e8] at this;exact bh this (by kernel_rfl) t
    have es:ad.ar .sub .i64 list[i] 1=(m:Int):=by rw [hm,eX (by omega) (by omega),e1]
    simp (disch:=first | omega | assumption) only [decide_eq_true h,aK,bg,bo,es,bF,pB,u7,u9,va,vd,fJ,vp,df,ao,gR]
    exact hJ
   ·have hr:jO w.log ((list.take i).foldl (jO w.log) (List.replicate 8 0)) list[i]=(list.take i).foldl (jO w.log) (List.replicate 8 0):=by rw [jO,if_neg h]
    rw [hr] at hJ;simp only [decide_eq_false h,bg];exact hJ
  ·rw [wB,aaO];simp (disch:=omega) only [bG];rfl
 ·rw [M5];simp only [vi,df,ao,gR,aK,bo];exact hJ
set_option maxRecDepth 100000
section
variable (pr:dC) (cv:Cv Rz) (J:Nat->St->Option Rz)
def mz (g0:Bool) (n1:Nat) (c2:List D) (i3:Int) (i4:Int):St:=(St.mk [(0,(.sl (some g0) 1 n1 c2)),(1,(.int .i64 i3)),(5,(.int .i64 i4))] [] [] 0)
theorem QQ:Told cfg Tryz.prog 102 Tryz.f102:=⟨by kernel_rfl,Tryz.func102,by kernel_rfl⟩
theorem QR (g0:Bool) (n0:Nat) (c0:List D) (a1:Int):aW pr cv J 102 Tryz.f102 [(.sl (some g0) 1 n0 c0),(.int .i64 a1)]=
 (J 0 (mz g0 n0 c0 a1 0)):=by kernel_rfl
theorem rM (g0:Bool) (n1:Nat) (c2:List D) (i3:Int) (i4:Int):bL pr cv J 102 Tryz.f102 [.undef,.undef] 0 (mz g0 n1 c2 i3 i4)=
 (br (pr.lt i4 (pr.aV n1)) (br (pr.bm i4 n1) (br (br (pr.bR .i64 c2 (pr.idx 0 i4 1)) true false) (br (pr.eq (pr.aO c2 (pr.idx 0 i4 1)) i3) (some ((.bool true),[.undef,.undef])) (J 0 (mz g0 n1 c2 i3 (pr.ar .add .i64 i4 1)))) none) none) (some ((.bool false),[.undef,.undef]))):=by kernel_rfl
def lr (g0:Bool) (n1:Nat) (c2:List D) (g3:Bool) (n4:Nat) (c5:List D) (i6:Int):St:=(St.mk [(0,(.sl (some g0) 1 n1 c2)),(1,(.sl (some g3) 1 n4 c5)),(5,(.int .i64 i6))] [] [] 0)
theorem M8:Told cfg Tryz.prog 193 Tryz.f193:=⟨by kernel_rfl,Tryz.func193,by kernel_rfl⟩
theorem M9 (g0:Bool) (n0:Nat) (c0:List D) (g1:Bool) (n1:Nat) (c1:List D):aW pr cv J 193 Tryz.f193 [(.sl (some g0) 1 n0 c0),(.sl (some g1) 1 n1 c1)]=
 (J 0 (lr g0 n0 c0 g1 n1 c1 0)):=by kernel_rfl
theorem qn (g0:Bool) (n1:Nat) (c2:List D) (g3:Bool) (n4:Nat) (c5:List D) (i6:Int):bL pr cv J 193 Tryz.f193 [.undef,.undef] 0 (lr g0 n1 c2 g3 n4 c5 i6)=
 let y1:Option (D × List D):=(some ((.bool (pr.eq (pr.aV n1) (pr.aV n4))),[.undef,.undef]))
 (br (pr.lt i6 (pr.aV n1)) (br (pr.lt i6 (pr.aV n4)) (br (pr.bm i6 n1) (br (br (pr.bR .i64 c2 (pr.idx 0 i6 1)) true false) (br (pr.bm i6 n4) (br (br (pr.bR .i64 c5 (pr.idx 0 i6 1)) true false) (br (br (pr.eq (pr.aO c2 (pr.idx 0 i6 1)) (pr.aO c5 (pr.idx 0 i6 1))) false true) (some ((.bool false),[.undef,.undef])) (J 0 (lr g0 n1 c2 g3 n4 c5 (pr.ar .add .i64 i6 1)))) none) none) none) none) y1) y1):=by kernel_rfl
theorem QS:Told cfg Tryz.prog 192 Tryz.f192:=⟨by kernel_rfl,Tryz.func192,by kernel_rfl⟩
theorem QT (a0:Bool):aW pr cv J 192 Tryz.f192 [(.bool a0)]=
 (br a0 (some ((.int .i64 1),[.undef])) (some ((.int .i64 0),[.undef]))):=by kernel_rfl
theorem Na:Told cfg Tryz.prog 92 Tryz.f92:=⟨by kernel_rfl,Tryz.func92,by kernel_rfl⟩
theorem Nb (a0:Int):aW pr cv J 92 Tryz.f92 [(.int .i64 a0)]=
 (cv 105 [(.int .i64 a0),(.int .i64 0),(.int .i64 2)] (.bool (fun bH=>(.done (some ((.bool bH),[.undef])))))):=by kernel_rfl
theorem Nc:Told cfg Tryz.prog 93 Tryz.f93:=⟨by kernel_rfl,Tryz.func93,by kernel_rfl⟩
theorem Nd (a0:Int):aW pr cv J 93 Tryz.f93 [(.int .i64 a0)]=
 (cv 105 [(.int .i64 a0),(.int .i64 0),(.int .i64 7)] (.bool (fun bH=>(.done (some ((.bool bH),[.undef])))))):=by kernel_rfl
theorem Kj:Told cfg Tryz.prog 172 Tryz.f172:=⟨by kernel_rfl,Tryz.func172,by kernel_rfl⟩
theorem Kk (a0:Int):aW pr cv J 172 Tryz.f172 [(.int .i64 a0)]=
 (cv 105 [(.int .i64 a0),(.int .i64 1),(.int .i64 200)] (.bool (fun bH=>(.done (some ((.bool bH),[.undef])))))):=by kernel_rfl
theorem RJ:Told cfg Tryz.prog 334 Tryz.f334:=⟨by kernel_rfl,Tryz.func334,by kernel_rfl⟩
theorem RK (a0:Bool) (a1:Int):aW pr cv J 334 Tryz.f334 [(.bool a0),(.int .i64 a1)]=
 (br a0 (some ((.int .i64 a1),[.undef,.undef])) (some ((.int .i64 0),[.undef,.undef]))):=by kernel_rfl
theorem RL:Told cfg Tryz.prog 111 Tryz.f111:=⟨by kernel_rfl,Tryz.func111,by kernel_rfl⟩
theorem RM (a0:Int):aW pr cv J 111 Tryz.f111 [(.int .i64 a0)]=
 let y1:Option (D × List D):=(some ((.int .i64 (pr.ar .sub .i64 1 a0)),[.undef]))
 (br (pr.eq a0 0) y1 (br (pr.eq a0 1) y1 (some ((.int .i64 (-1)),[.undef])))):=by kernel_rfl
theorem RN:Told cfg Tryz.prog 109 Tryz.f109:=⟨by kernel_rfl,Tryz.func109,by kernel_rfl⟩
theorem RO (a0:Int):aW pr cv J 109 Tryz.f109 [(.int .i64 a0)]=
 (cv 87 [(.int .i64 a0),(.int .i64 0),(.int .i64 1)] (.bool (fun bH=>(.done (br bH (some ((.int .i64 (pr.ar .sub .i64 1 a0)),[.undef])) (some ((.int .i64 (-1)),[.undef]))))))):=by kernel_rfl
def kd (g0:Bool) (n1:Nat) (c2:List D) (i3:Int):St:=(St.mk [(0,(.sl (some g0) 1 n1 c2)),(3,(.int .i64 i3))] [] [] 0)
theorem Kl:Told cfg Tryz.prog 233 Tryz.f233:=⟨by kernel_rfl,Tryz.func233,by kernel_rfl⟩
theorem Km (g0:Bool) (n0:Nat) (c0:List D):aW pr cv J 233 Tryz.f233 [(.sl (some g0) 1 n0 c0)]=
 (J 0 (kd g0 n0 c0 0)):=by kernel_rfl
theorem pC (g0:Bool) (n1:Nat) (c2:List D) (i3:Int):bL pr cv J 233 Tryz.f233 [.undef] 0 (kd g0 n1 c2 i3)=
 let y1:Option (D × List D):=(some ((.bool false),[.undef]))
 let y2:Option Rz:=(J 0 (kd g0 n1 c2 (pr.ar .add .i64 i3 1)))
 (br (pr.lt i3 (pr.aV n1)) (br (pr.bm i3 n1) (br (br (pr.bR .i64 c2 (pr.idx 0 i3 1)) true false) (cv 87 [(.int .i64 (pr.aO c2 (pr.idx 0 i3 1))),(.int .i64 0),(.int .i64 7)] (.bool (fun bH=>(.done (br (br bH false true) y1 (br (pr.lt 0 i3) (br (pr.bm (pr.ar .sub .i64 i3 1) n1) (br (br (pr.bR .i64 c2 (pr.idx 0 (pr.ar .sub .i64 i3 1) 1)) true false) (br (pr.bm i3 n1) (br (br (pr.bR .i64 c2 (pr.idx 0 i3 1)) true false) (br (pr.le (pr.aO c2 (pr.idx 0 i3 1)) (pr.aO c2 (pr.idx 0 (pr.ar .sub .i64 i3 1) 1))) y1 y2) none) none) none) none) y2)))))) none) none) (some ((.bool true),[.undef]))):=by kernel_rfl
def ke (g0:Bool) (n1:Nat) (c2:List D) (i3:Int) (i4:Int):St:=(St.mk [(0,(.sl (some g0) 1 n1 c2)),(5,(.sl (some g0) 1 n1 c2)),(6,(.int .i64 i3)),(7,(.int .i64 i4))] [] [] 0)
theorem Kn:Told cfg Tryz.prog 239 Tryz.f239:=⟨by kernel_rfl,Tryz.func239,by kernel_rfl⟩
theorem Ko (g0:Bool) (n0:Nat) (c0:List D):aW pr cv J 239 Tryz.f239 [(.sl (some g0) 1 n0 c0)]=
 (J 0 (ke g0 n0 c0 (pr.aV n0) 0)):=by kernel_rfl
theorem pD (g0:Bool) (n1:Nat) (c2:List D) (i3:Int) (i4:Int):bL pr cv J 239 Tryz.f239 [.undef] 0 (ke g0 n1 c2 i3 i4)=
 let y1:Option (D × List D):=(some ((.bool false),[.undef]))
 let y2:Option Rz:=(J 0 (ke g0 n1 c2 i3 (pr.ar .add .i64 i4 1)))
 (br (pr.lt i4 i3) (br (pr.bm i4 n1) (br (br (pr.bR .i64 c2 (pr.idx 0 i4 1)) true false) (cv 93 [(.int .i64 (pr.aO c2 (pr.idx 0 i4 1)))] (.bool (fun bH=>(.done (br (br bH false true) y1 (br (pr.lt 0 i4) (br (pr.bm (pr.ar .sub .i64 i4 1) n1) (br (br (pr.bR .i64 c2 (pr.idx 0 (pr.ar .sub .i64 i4 1) 1)) true false) (br (pr.le (pr.aO c2 (pr.idx 0 i4 1)) (pr.aO c2 (pr.idx 0 (pr.ar .sub .i64 i4 1) 1))) y1 y2) none) none) y2)))))) none) none) (some ((.bool true),[.undef]))):=by kernel_rfl
def lu (g0:Bool) (n1:Nat) (c2:List D) (i3:Int):St:=(St.mk [(0,(.sl (some g0) 1 n1 c2)),(3,(.int .i64 i3))] [] [] 0)
theorem Nf:Told cfg Tryz.prog 186 Tryz.f186:=⟨by kernel_rfl,Tryz.func186,by kernel_rfl⟩
theorem Ng (g0:Bool) (n0:Nat) (c0:List D):aW pr cv J 186 Tryz.f186 [(.sl (some g0) 1 n0 c0)]=
 (J 0 (lu g0 n0 c0 0)):=by kernel_rfl
theorem qo (g0:Bool) (n1:Nat) (c2:List D) (i3:Int):bL pr cv J 186 Tryz.f186 [.undef] 0 (lu g0 n1 c2 i3)=
 let y1:Option (D × List D):=(some ((.bool false),[.undef]))
 (br (pr.lt i3 (pr.aV n1)) (br (pr.bm i3 n1) (br (br (pr.bR .i64 c2 (pr.idx 0 i3 1)) true false) (cv 87 [(.int .i64 (pr.aO c2 (pr.idx 0 i3 1))),(.int .i64 1),(.int .i64 100000)] (.bool (fun bH=>(.done (br (br bH false true) y1 (br (pr.vX 0 i3 n1) (br (pr.bm i3 n1) (br (br (pr.bR .i64 c2 (pr.idx 0 i3 1)) true false) (cv 102 [(.sl (some g0) 1 (pr.nF i3 0) (List.take (Nat.mul (pr.nF i3 0) 1) (List.drop (Nat.mul (pr.iv 0) 1) c2))),(.int .i64 (pr.aO c2 (pr.idx 0 i3 1)))] (.bool (fun eQ=>(.done (br eQ y1 (J 0 (lu g0 n1 c2 (pr.ar .add .i64 i3 1)))))))) none) none) none)))))) none) none) (some ((.bool (pr.le (pr.aV n1) 12)),[.undef]))):=by kernel_rfl
def lv (g0:Bool) (n1:Nat) (c2:List D) (i3:Int) (i4:Int):St:=(St.mk [(0,(.sl (some g0) 1 n1 c2)),(5,(.sl (some g0) 1 n1 c2)),(6,(.int .i64 i3)),(7,(.int .i64 i4))] [] [] 0)
theorem Nh:Told cfg Tryz.prog 189 Tryz.f189:=⟨by kernel_rfl,Tryz.func189,by kernel_rfl⟩
theorem Ni (g0:Bool) (n0:Nat) (c0:List D):aW pr cv J 189 Tryz.f189 [(.sl (some g0) 1 n0 c0)]=
 (J 0 (lv g0 n0 c0 (pr.aV n0) 0)):=by kernel_rfl
theorem qp (g0:Bool) (n1:Nat) (c2:List D) (i3:Int) (i4:Int):bL pr cv J 189 Tryz.f189 [.undef] 0 (lv g0 n1 c2 i3 i4)=
 let y1:Option (D × List D):=(some ((.bool false),[.undef]))
 (br (pr.lt i4 i3) (br (pr.bm i4 n1) (br (br (pr.bR .i64 c2 (pr.idx 0 i4 1)) true false) (cv 105 [(.int .i64 (pr.aO c2 (pr.idx 0 i4 1))),(.int .i64 1),(.int .i64 100000)] (.bool (fun bH=>(.done (br (br bH false true) y1 (br (pr.vX 0 i4 n1) (cv 106 [(.sl (some g0) 1 (pr.nF i4 0) (List.take (Nat.mul (pr.nF i4 0) 1) (List.drop (Nat.mul (pr.iv 0) 1) c2))),(.int .i64 (pr.aO c2 (pr.idx 0 i4 1)))] (.bool (fun eQ=>(.done (br eQ y1 (J 0 (lv g0 n1 c2 i3 (pr.ar .add .i64 i4 1)))))))) none)))))) none) none) (some ((.bool (pr.le (pr.aV n1) 12)),[.undef]))):=by kernel_rfl
def kf (g0:Bool) (n1:Nat) (c2:List D) (i3:Int):St:=(St.mk [(0,(.sl (some g0) 1 n1 c2)),(3,(.int .i64 i3))] [] [] 0)
theorem Kp:Told cfg Tryz.prog 160 Tryz.f160:=⟨by kernel_rfl,Tryz.func160,by kernel_rfl⟩
theorem Kq (g0:Bool) (n0:Nat) (c0:List D):aW pr cv J 160 Tryz.f160 [(.sl (some g0) 1 n0 c0)]=
 (J 0 (kf g0 n0 c0 0)):=by kernel_rfl
theorem pE (g0:Bool) (n1:Nat) (c2:List D) (i3:Int):bL pr cv J 160 Tryz.f160 [.undef] 0 (kf g0 n1 c2 i3)=
 (br (pr.lt i3 (pr.aV n1)) (br (pr.bm i3 n1) (br (br (pr.bR .i64 c2 (pr.idx 0 i3 1)) true false) (cv 87 [(.int .i64 (pr.aO c2 (pr.idx 0 i3 1))),(.int .i64 0),(.int .i64 200)] (.bool (fun bH=>(.done (br (br bH false true) (some ((.bool false),[.undef])) (J 0 (kf g0 n1 c2 (pr.ar .add .i64 i3 1)))))))) none) none) (some ((.bool (pr.eq (pr.aV n1) 8)),[.undef]))):=by kernel_rfl
theorem wD:Told cfg Tryz.prog 106 Tryz.f106:=⟨by kernel_rfl,Tryz.func106,by kernel_rfl⟩
theorem wE (g0:Bool) (n0:Nat) (c0:List D) (a1:Int):aW pr cv J 106 Tryz.f106 [(.sl (some g0) 1 n0 c0),(.int .i64 a1)]=
 (cv 188 [(.sl (some g0) 1 n0 c0),(.int .i64 a1)] (.int (fun ef=>(.done (some ((.bool (pr.le 0 ef)),[.undef,.undef])))))):=by kernel_rfl
def fY (g0:Bool) (n1:Nat) (c2:List D) (i3:Int) (i4:Int) (i5:Int):St:=(St.mk [(0,(.sl (some g0) 1 n1 c2)),(1,(.int .i64 i3)),(7,(.int .i64 i4)),(8,(.int .i64 i5))] [] [] 0)
theorem zi:Told cfg Tryz.prog 188 Tryz.f188:=⟨by kernel_rfl,Tryz.func188,by kernel_rfl⟩
theorem zj (g0:Bool) (n0:Nat) (c0:List D) (a1:Int):aW pr cv J 188 Tryz.f188 [(.sl (some g0) 1 n0 c0),(.int .i64 a1)]=
 (J 0 (fY g0 n0 c0 a1 (pr.aV n0) 0)):=by kernel_rfl
theorem kg (g0:Bool) (n1:Nat) (c2:List D) (i3:Int) (i4:Int) (i5:Int):bL pr cv J 188 Tryz.f188 [.undef,.undef] 0 (fY g0 n1 c2 i3 i4 i5)=
 (br (pr.lt i5 i4) (br (pr.bm i5 n1) (br (br (pr.bR .i64 c2 (pr.idx 0 i5 1)) true false) (br (pr.eq i3 (pr.aO c2 (pr.idx 0 i5 1))) (some ((.int .i64 i5),[.undef,.undef])) (J 0 (fY g0 n1 c2 i3 i4 (pr.ar .add .i64 i5 1)))) none) none) (some ((.int .i64 (-1)),[.undef,.undef]))):=by kernel_rfl
def fZ (g0:Bool) (n1:Nat) (c2:List D) (g3:Bool) (n4:Nat) (c5:List D) (i6:Int) (i7:Int):St:=(St.mk [(0,(.sl (some g0) 1 n1 c2)),(1,(.sl (some g3) 1 n4 c5)),(12,(.int .i64 i6)),(13,(.int .i64 i7))] [] [] 0)
theorem qQ:Told cfg Tryz.prog 202 Tryz.f202:=⟨by kernel_rfl,Tryz.func202,by kernel_rfl⟩
theorem qR (g0:Bool) (n0:Nat) (c0:List D) (g1:Bool) (n1:Nat) (c1:List D):aW pr cv J 202 Tryz.f202 [(.sl (some g0) 1 n0 c0),(.sl (some g1) 1 n1 c1)]=
 (br (br (pr.eq (pr.aV n0) (pr.aV n1)) false true) (some ((.bool false),[.undef,.undef])) (J 0 (fZ g0 n0 c0 g1 n1 c1 (pr.aV n0) 0))):=by kernel_rfl
theorem kh (g0:Bool) (n1:Nat) (c2:List D) (g3:Bool) (n4:Nat) (c5:List D) (i6:Int) (i7:Int):bL pr cv J 202 Tryz.f202 [.undef,.undef] 0 (fZ g0 n1 c2 g3 n4 c5 i6 i7)=
 (br (pr.lt i7 i6) (br (pr.bm i7 n1) (br (br (pr.bR .i64 c2 (pr.idx 0 i7 1)) true false) (br (pr.bm i7 n4) (br (br (pr.bR .i64 c5 (pr.idx 0 i7 1)) true false) (br (br (pr.eq (pr.aO c2 (pr.idx 0 i7 1)) (pr.aO c5 (pr.idx 0 i7 1))) false true) (some ((.bool false),[.undef,.undef])) (J 0 (fZ g0 n1 c2 g3 n4 c5 i6 (pr.ar .add .i64 i7 1)))) none) none) none) none) (some ((.bool true),[.undef,.undef]))):=by kernel_rfl
theorem Nj:Told cfg Tryz.prog 313 Tryz.f313:=⟨by kernel_rfl,Tryz.func313,by kernel_rfl⟩
theorem Nk (g0:Bool) (n0:Nat) (c0:List D) (g1:Bool) (n1:Nat) (c1:List D):aW pr cv J 313 Tryz.f313 [(.sl (some g0) 1 n0 c0),(.sl (some g1) 1 n1 c1)]=
 (br (pr.sY c0) (br (pr.sY c1) (some ((.bool (pr.seq (pr.BR c0) (pr.BR c1))),[.undef,.undef])) none) none):=by kernel_rfl
theorem FV:Told cfg Tryz.prog 236 Tryz.f236:=⟨by kernel_rfl,Tryz.func236,by kernel_rfl⟩
theorem FW (a0:Int):aW pr cv J 236 Tryz.f236 [(.int .i64 a0)]=
 (cv 105 [(.int .i64 a0),(.int .i64 0),(.int .i64 200)] (.bool (fun bH=>(.done (some ((.bool (br bH false true)),[.undef])))))):=by kernel_rfl
theorem DU:Told cfg Tryz.prog 238 Tryz.f238:=⟨by kernel_rfl,Tryz.func238,by kernel_rfl⟩
theorem DV (g0:Bool) (n0:Nat) (c0:List D):aW pr cv J 238 Tryz.f238 [(.sl (some g0) 1 n0 c0)]=
 (cv 239 [(.sl (some g0) 1 n0 c0)] (.bool (fun bH=>(.done (some ((.bool (br bH false true)),[.undef])))))):=by kernel_rfl
theorem Ig:Told cfg Tryz.prog 169 Tryz.f169:=⟨by kernel_rfl,Tryz.func169,by kernel_rfl⟩
theorem Ih (g0:Bool) (n0:Nat) (c0:List D):aW pr cv J 169 Tryz.f169 [(.sl (some g0) 1 n0 c0)]=
 (br (pr.eq (pr.aV n0) 3) (cv 237 [(.sl (some g0) 1 n0 c0),(.fn 238 [])] (.bool (fun bH=>(.done (some ((.bool (br bH false true)),[.undef])))))) (some ((.bool false),[.undef]))):=by kernel_rfl
theorem Kr:Told cfg Tryz.prog 167 Tryz.f167:=⟨by kernel_rfl,Tryz.func167,by kernel_rfl⟩
theorem Kt (g0:Bool) (n0:Nat) (c0:List D):aW pr cv J 167 Tryz.f167 [(.sl (some g0) 1 n0 c0)]=
 (br (pr.eq (pr.aV n0) 8) (cv 135 [(.sl (some g0) 1 n0 c0),(.fn 236 [])] (.bool (fun bH=>(.done (some ((.bool (br bH false true)),[.undef])))))) (some ((.bool false),[.undef]))):=by kernel_rfl
theorem pS:Told cfg Tryz.prog 135 Tryz.f135:=⟨by kernel_rfl,Tryz.func135,by kernel_rfl⟩
theorem pT (g0:Bool) (n0:Nat) (c0:List D):aW pr cv J 135 Tryz.f135 [(.sl (some g0) 1 n0 c0),(.fn 236 [])]=
 (cv 216 [(.sl (some g0) 1 n0 c0),(.fn 236 [])] (.int (fun ef=>(.done (some ((.bool (pr.le 0 ef)),[.undef,.undef])))))):=by kernel_rfl
def eb (g0:Bool) (n1:Nat) (c2:List D) (i3:Int) (i4:Int):St:=(St.mk [(0,(.sl (some g0) 1 n1 c2)),(1,(.fn 236 [])),(7,(.int .i64 i3)),(8,(.int .i64 i4))] [] [] 0)
theorem rN:Told cfg Tryz.prog 216 Tryz.f216:=⟨by kernel_rfl,Tryz.func216,by kernel_rfl⟩
theorem rO (g0:Bool) (n0:Nat) (c0:List D):aW pr cv J 216 Tryz.f216 [(.sl (some g0) 1 n0 c0),(.fn 236 [])]=
 (J 0 (eb g0 n0 c0 (pr.aV n0) 0)):=by kernel_rfl
theorem gr (g0:Bool) (n1:Nat) (c2:List D) (i3:Int) (i4:Int):bL pr cv J 216 Tryz.f216 [.undef,.undef] 0 (eb g0 n1 c2 i3 i4)=
 (br (pr.lt i4 i3) (br (pr.bm i4 n1) (br (br (pr.bR .i64 c2 (pr.idx 0 i4 1)) true false) (cv 236 [(.int .i64 (pr.aO c2 (pr.idx 0 i4 1)))] (.bool (fun bH=>(.done (br bH (some ((.int .i64 i4),[.undef,.undef])) (J 0 (eb g0 n1 c2 i3 (pr.ar .add .i64 i4 1)))))))) none) none) (some ((.int .i64 (-1)),[.undef,.undef]))):=by kernel_rfl
theorem pU:Told cfg Tryz.prog 237 Tryz.f237:=⟨by kernel_rfl,Tryz.func237,by kernel_rfl⟩
theorem pV (g0:Bool) (n0:Nat) (c0:List D):aW pr cv J 237 Tryz.f237 [(.sl (some g0) 1 n0 c0),(.fn 238 [])]=
 (cv 280 [(.sl (some g0) 1 n0 c0),(.fn 238 [])] (.int (fun ef=>(.done (some ((.bool (pr.le 0 ef)),[.undef,.undef])))))):=by kernel_rfl
def ec (g0:Bool) (n1:Nat) (c2:List D) (i3:Int) (i4:Int):St:=(St.mk [(0,(.sl (some g0) 1 n1 c2)),(1,(.fn 238 [])),(7,(.int .i64 i3)),(8,(.int .i64 i4))] [] [] 0)
theorem rP:Told cfg Tryz.prog 280 Tryz.f280:=⟨by kernel_rfl,Tryz.func280,by kernel_rfl⟩
theorem rQ (g0:Bool) (n0:Nat) (c0:List D):aW pr cv J 280 Tryz.f280 [(.sl (some g0) 1 n0 c0),(.fn 238 [])]=
 (J 0 (ec g0 n0 c0 (pr.aV n0) 0)):=by kernel_rfl
theorem gu (g0:Bool) (n1:Nat) (c2:List D) (i3:Int) (i4:Int):bL pr cv J 280 Tryz.f280 [.undef,.undef] 0 (ec g0 n1 c2 i3 i4)=
 (br (pr.lt i4 i3) (br (pr.bm i4 n1) (br (br (pr.aN 1 c2 (pr.idx 0 i4 1)) true false) (cv 238 [(.sl (some (pr.aG c2 (pr.idx 0 i4 1))) 1 (pr.aD c2 (pr.idx 0 i4 1)) (pr.aF c2 (pr.idx 0 i4 1)))] (.bool (fun bH=>(.done (br bH (some ((.int .i64 i4),[.undef,.undef])) (J 0 (ec g0 n1 c2 i3 (pr.ar .add .i64 i4 1)))))))) none) none) (some ((.int .i64 (-1)),[.undef,.undef]))):=by kernel_rfl
end
theorem WP.scan {f:FuncId} {fn:Func} {sk:List D} {j:Nat} {H:Nat->St} {n:Nat} (p:Nat->Bool) {bad Ac:Rz} (GU:∀ i r,i < n->p i=true->WP f fn sk j (H (i+1)) r->WP f fn sk j (H i) r) (ZD:∀ i,i < n->p i=false->WP f fn sk j (H i) bad) (ZE:WP f fn sk j (H n) Ac):WP f fn sk j (H 0) (if (List.range n).all p then Ac else bad):=by
 have key:∀ k i,i+k=n->WP f fn sk j (H i) (if ((List.range n).drop i).all p then Ac else bad):=by
  intro k
  induction k with
  | zero=>
   intro i hi;obtain rfl:i=n:=by omega
   rw [aeb (by simp)]
   exact ZE
  | succ k ih=>
   intro i hi;have dg:i < (List.range n).length:=by simp; omega
   have e:((List.range n).drop i).all p=(p i&&((List.range n).drop (i+1)).all p):=by
    rw [<- abM dg];simp
   rw [e];cases hp:p i with
   | true=>
    rw [abU];exact GU i _ (by omega) hp (ih (i+1) (by omega))
   | false=>
    rw [abL];exact ZD i (by omega) hp
 exact key n 0 (by omega)
theorem bX {α:Type} {l:List α} {i:Nat} (h:i < l.length) {d:α}:l.getD i d=l[i]:=by simp [abi,h]
theorem ZF {α:Type} (p:α->Bool) (d:α) (xs:List α):((List.range xs.length).all fun i=>p (xs.getD i d))=xs.all p:=by
 rw [Bool.eq_iff_iff,aac,aac];constructor
 ·intro h x hx;obtain ⟨i,hi,rfl⟩:=List.mem_iff_getElem.1 hx;have:=h i (List.mem_range.2 hi)
  rwa [bX hi] at this
 ·intro h i hi;rw [bX (List.mem_range.1 hi)];exact h _ (aan _)
def Rz.bool (b:Bool) (k:Nat):Rz:=(.bool b,List.replicate k .undef)
theorem SY (g:Bool) (xs:List Int) (a:Int) (hb:xs.length < 4611686018427387904):Cm 102 [.sl (some g) 1 xs.length (ints xs),.int .i64 a] (.bool (decide (a∈xs)),[.undef,.undef]):=by
 have e0:(Rz.bool (decide (a∈xs)) 2)=(if (List.range xs.length).all fun i=>!(xs.getD i 0==a) then Rz.bool false 2 else Rz.bool true 2):=by
  rw [ZF (fun x=>!(x==a))];by_cases h:a∈xs
  ·have:(xs.all fun x=>!(x==a))=false:=by
    rw [List.all_eq_false];exact ⟨a,h,by simp⟩
   simp [this,h]
  ·have:(xs.all fun x=>!(x==a))=true:=by
    rw [aac];intro x hx;have:x≠a:=fun e=>h (e▸hx);simp [this]
   simp [this,h]
 show Cm _ _ (Rz.bool (decide (a∈xs)) 2);rw [e0];refine Cm.go QQ [.undef,.undef] 0 (mz g xs.length (ints xs) a (0:Nat)) ?_ fun J hJ=>?_
 ·refine WP.scan (H:=fun i:Nat=>mz g xs.length (ints xs) a (i:Nat)) _ (fun i r hi hp ih=>WP.go _ ih fun J hJ=>?_) (fun i hi hp=>WP.fin fun J=>?_) (WP.fin fun J=>?_)
  ·rw [rM];rw [bX hi] at hp;have cX:xs[i]≠a:=by simpa using hp
   simp (disch:=first | omega | assumption) only [aK,bg,bo,aC,bc,bF,cV,dz,dA,eA,dp]
   exact hJ
  ·rw [rM];rw [bX hi] at hp;have he:xs[i]=a:=by simpa using hp
   simp (disch:=first | omega | assumption) only [aK,bg,bo,aC,bc,bF,cV,dz,dA,gA]
   rfl
  ·rw [rM];simp (disch:=omega) only [aC,bG];rfl
 ·rw [QR];exact hJ
def Ku (xs:List Int) (a:Int):Int:=if a∈xs then (xs.idxOf a:Int) else -1
theorem acU (g:Bool) (xs:List Int) (a:Int) (hb:xs.length < 4611686018427387904):Cm 188 [.sl (some g) 1 xs.length (ints xs),.int .i64 a] (.int .i64 (Ku xs a),[.undef,.undef]):=by
 refine Cm.go zi [.undef,.undef] 0 (fY g xs.length (ints xs) a xs.length (0:Nat)) ?_ fun J hJ=>?_
 ·refine WP.loop (H:=fun i:Nat=>fY g xs.length (ints xs) a xs.length (i:Nat)) (n:=xs.length) (fun i=>a∉xs.take i) (fun i hi hv ih=>?_) (fun hv=>WP.fin fun J=>?_) 0 (aa9 _) (by simp)
  ·by_cases he:a=xs[i]
   ·refine WP.fin fun J=>?_;rw [kg];have hm:a∈xs:=he▸aan hi;have hix:xs.idxOf a=i:=by
     have e1:xs=xs.take i++xs[i]::xs.drop (i+1):=by rw [abM hi,ae1]
     rw [e1,List.idxOf_append,if_neg hv,he,List.idxOf_cons_self,aaB];omega
    unfold Ku;rw [if_pos hm,hix];simp (disch:=first | omega | assumption) only [aK,bg,bo,bc,bF,cV,dz,dA,gA]
   ·refine WP.go _ (ih (by
     rw [<- aba hi];simp only [tD,abk,not_or];exact ⟨hv,he⟩)) fun J hJ=>?_
    rw [kg];simp (disch:=first | omega | assumption) only [aK,bg,bo,bc,bF,cV,dz,dA,eA,dp]
    exact hJ
  ·rw [kg];rw [aaO] at hv;unfold Ku;rw [if_neg hv];simp (disch:=omega) only [bG]
 ·rw [zj];exact hJ
theorem Ii (g:Bool) (xs:List Int) (a:Int) (hb:xs.length < 4611686018427387904):Cm 106 [.sl (some g) 1 xs.length (ints xs),.int .i64 a] (.bool (decide (a∈xs)),[.undef,.undef]):=by
 refine Cm.fin wD fun J=>?_;rw [wE];have:=bh (acU g xs a hb) (by kernel_rfl)
 simp only [this,ao,Ad];have e:decide (0<=Ku xs a)=decide (a∈xs):=by
  unfold Ku;by_cases h:a∈xs<;>simp [h]
 show some (D.bool (decide (0<=Ku xs a)),_)=_;rw [e]
section
variable (t:bO Rz)
theorem SZ (g:Bool) (xs:List Int) (a:Int) (n:Nat) (hn:n=xs.length) (hb:xs.length < 4611686018427387904):aX 102 [.sl (some g) 1 n (ints xs),.int .i64 a] t=feed t [.bool (decide (a∈xs))]:=by subst hn; exact bh (SY g xs a hb) (by kernel_rfl) t
theorem Ij (g:Bool) (xs:List Int) (a:Int) (n:Nat) (hn:n=xs.length) (hb:xs.length < 4611686018427387904):aX 106 [.sl (some g) 1 n (ints xs),.int .i64 a] t=feed t [.bool (decide (a∈xs))]:=by subst hn; exact bh (Ii g xs a hb) (by kernel_rfl) t
end
theorem ZG (a:Int):Cm 92 [.int .i64 a] (.bool (decide (0<=a/\a<=2)),[.undef]):=by
 refine Cm.fin Na fun J=>?_;rw [Nb];simp only [fo,aE,ao]
theorem QU (a:Int):Cm 93 [.int .i64 a] (.bool (decide (0<=a/\a<=7)),[.undef]):=by
 refine Cm.fin Nc fun J=>?_;rw [Nd];simp only [fo,aE,ao]
theorem Xe (a:Int):Cm 172 [.int .i64 a] (.bool (decide (1<=a/\a<=200)),[.undef]):=by
 refine Cm.fin Kj fun J=>?_;rw [Kk];simp only [fo,aE,ao]
def mc (a:Int):Int:=if a=0∨a=1 then 1 - a else -1
theorem RP (a:Int):Cm 111 [.int .i64 a] (.int .i64 (mc a),[.undef]):=by
 refine Cm.fin RL fun J=>?_;rw [RM];unfold mc;by_cases h0:a=0
 ·subst h0; rfl
 ·by_cases h1:a=1
  ·subst h1; rfl
  ·rw [if_neg (by omega)]
   simp (disch:=omega) only [eA]
section
variable (t:bO Rz)
theorem Ak (a:Int):aX 93 [.int .i64 a] t=feed t [.bool (decide (0<=a/\a<=7))]:=bh (QU a) (by kernel_rfl) t
end
theorem RQ (a:Int):Cm 109 [.int .i64 a] (.int .i64 (mc a),[.undef]):=by
 refine Cm.fin RN fun J=>?_;rw [RO];simp only [jz,aE,ao];unfold mc;by_cases h0:a=0
 ·subst h0; rfl
 ·by_cases h1:a=1
  ·subst h1; rfl
  ·rw [if_neg (by omega),decide_eq_false (by omega)]
   rfl
def wF (xs:List Int) (i:Nat):Bool:=decide (0<=xs.getD i 0/\xs.getD i 0<=7)&&(decide (i=0)||decide (xs.getD (i - 1) 0 < xs.getD i 0))
def gf (xs:List Int):Bool:=(List.range xs.length).all (wF xs)
theorem zk {b:Bool} {outs:List D}:(if b=true then ((D.bool true,outs):Rz) else (D.bool false,outs))=(D.bool b,outs):=by cases b<;>rfl
theorem zl (g:Bool) (xs:List Int) (hb:xs.length < 4611686018427387904):Cm 233 [.sl (some g) 1 xs.length (ints xs)] (.bool (gf xs),[.undef]):=by
 rw [<- zk];refine Cm.go Kl [.undef] 0 (kd g xs.length (ints xs) (0:Nat)) ?_ fun J hJ=>?_
 ·refine WP.scan (H:=fun i:Nat=>kd g xs.length (ints xs) (i:Nat)) (wF xs) (fun i r hi hp ih=>WP.go _ ih fun J hJ=>?_) (fun i hi hp=>WP.fin fun J=>?_) (WP.fin fun J=>?_)
  ·rw [pC];unfold wF at hp;rw [bX hi] at hp;simp only [Bh,decide_eq_true_eq,abv] at hp;by_cases h0:i=0
   ·subst h0;simp (disch:=first | omega | assumption) only [aK,bg,bo,bQ,cb,aC,bc,bG,bF,cV,dz,dA,jz,aE,ao,decide_eq_true hp.1,dp]
    exact hJ
   ·obtain ⟨k,rfl⟩:∃ k,i=k+1:=⟨i - 1,by omega⟩
    have hk:k < xs.length:=by omega
    have e1:((k+1:Nat):Int) - 1=(k:Int):=by omega
    have Sl:xs[k] < xs[k+1]:=by
     have:=hp.2.resolve_left h0
     rwa [afJ,bX hk] at this
    simp (disch:=first | omega | assumption) only [aK,bg,bo,bQ,cb,aC,bc,bF,cV,dz,dA,jz,aE,ao,decide_eq_true hp.1,eX,e1,nj,dp]
    exact hJ
  ·rw [pC];unfold wF at hp;rw [bX hi] at hp;by_cases hc:0<=xs[i]/\xs[i]<=7
   ·rw [decide_eq_true hc,abU,abF,decide_eq_false_iff_not,decide_eq_false_iff_not] at hp;obtain ⟨k,rfl⟩:∃ k,i=k+1:=⟨i - 1,by omega⟩
    have hk:k < xs.length:=by omega
    have e1:((k+1:Nat):Int) - 1=(k:Int):=by omega
    have Sl:xs[k+1]<=xs[k]:=by
     have:=hp.2;rw [afJ,bX hk] at this;omega
    simp (disch:=first | omega | assumption) only [aK,bg,bo,bQ,cb,aC,bc,bF,cV,dz,dA,jz,aE,ao,decide_eq_true hc,eX,e1,xJ]
   ·simp (disch:=first | omega | assumption) only [aK,bg,bo,bQ,cb,aC,bc,bF,cV,dz,dA,jz,aE,ao,decide_eq_false hc]
  ·rw [pC];simp (disch:=omega) only [aC,bG]
 ·rw [Km];exact hJ
theorem zm (g:Bool) (xs:List Int) (hb:xs.length < 4611686018427387904):Cm 239 [.sl (some g) 1 xs.length (ints xs)] (.bool (gf xs),[.undef]):=by
 rw [<- zk];refine Cm.go Kn [.undef] 0 (ke g xs.length (ints xs) xs.length (0:Nat)) ?_ fun J hJ=>?_
 ·refine WP.scan (H:=fun i:Nat=>ke g xs.length (ints xs) xs.length (i:Nat)) (wF xs) (fun i r hi hp ih=>WP.go _ ih fun J hJ=>?_) (fun i hi hp=>WP.fin fun J=>?_) (WP.fin fun J=>?_)
  ·rw [pD];unfold wF at hp;rw [bX hi] at hp;simp only [Bh,decide_eq_true_eq,abv] at hp;by_cases h0:i=0
   ·subst h0;simp (disch:=first | omega | assumption) only [aK,bg,bo,bQ,cb,aC,bc,bG,bF,cV,dz,dA,Ak,aE,ao,decide_eq_true hp.1,dp]
    exact hJ
   ·obtain ⟨k,rfl⟩:∃ k,i=k+1:=⟨i - 1,by omega⟩
    have hk:k < xs.length:=by omega
    have e1:((k+1:Nat):Int) - 1=(k:Int):=by omega
    have Sl:xs[k] < xs[k+1]:=by
     have:=hp.2.resolve_left h0
     rwa [afJ,bX hk] at this
    simp (disch:=first | omega | assumption) only [aK,bg,bo,bQ,cb,aC,bc,bF,cV,dz,dA,Ak,aE,ao,decide_eq_true hp.1,eX,e1,nj,dp]
    exact hJ
  ·rw [pD];unfold wF at hp;rw [bX hi] at hp;by_cases hc:0<=xs[i]/\xs[i]<=7
   ·rw [decide_eq_true hc,abU,abF,decide_eq_false_iff_not,decide_eq_false_iff_not] at hp;obtain ⟨k,rfl⟩:∃ k,i=k+1:=⟨i - 1,by omega⟩
    have hk:k < xs.length:=by omega
    have e1:((k+1:Nat):Int) - 1=(k:Int):=by omega
    have Sl:xs[k+1]<=xs[k]:=by
     have:=hp.2;rw [afJ,bX hk] at this;omega
    simp (disch:=first | omega | assumption) only [aK,bg,bo,bQ,cb,aC,bc,bF,cV,dz,dA,Ak,aE,ao,decide_eq_true hc,eX,e1,xJ]
   ·simp (disch:=first | omega | assumption) only [aK,bg,bo,bQ,cb,aC,bc,bF,cV,dz,dA,Ak,aE,ao,decide_eq_false hc]
  ·rw [pD];simp (disch:=omega) only [bG]
 ·rw [Ko];exact hJ
set_option maxRecDepth 100000
section
variable (pr:dC) (cv:Cv Rz) (J:Nat->St->Option Rz)
def lx (i0:Int) (g1:Bool) (n2:Nat) (c3:List D) (g4:Bool) (n5:Nat) (c6:List D) (b7:Bool) (b8:Bool) (b9:Bool) (i10:Int):St:=(St.mk [(1,(.ptr 1 [] 0)),(3,(.int .i64 i0))] [(1,[(.sl (some g1) 1 n2 c3),(.sl (some g4) 1 n5 c6),(.bool b7),(.bool b8),(.bool b9),(.int .i64 i10)])] [] 0)
theorem Nl:Told cfg Tryz.prog 161 Tryz.f161:=⟨by kernel_rfl,Tryz.func161,by kernel_rfl⟩
theorem Nn (g0:Bool) (n0:Nat) (c0:List D) (g1:Bool) (n1:Nat) (c1:List D) (a2:Bool) (a3:Bool) (a4:Bool) (a5:Int):aW pr cv J 161 Tryz.f161 [(.agg [(.sl (some g0) 1 n0 c0),(.sl (some g1) 1 n1 c1),(.bool a2),(.bool a3),(.bool a4),(.int .i64 a5)])]=
 (J 0 (lx 0 g0 n0 c0 g1 n1 c1 a2 a3 a4 a5)):=by kernel_rfl
theorem qq (i0:Int) (g1:Bool) (n2:Nat) (c3:List D) (g4:Bool) (n5:Nat) (c6:List D) (b7:Bool) (b8:Bool) (b9:Bool) (i10:Int):bL pr cv J 161 Tryz.f161 [.undef] 0 (lx i0 g1 n2 c3 g4 n5 c6 b7 b8 b9 i10)=
 let y1:Option (D × List D):=(some ((.bool false),[.undef]))
 (br (pr.lt i0 (pr.aV n5)) (br (pr.bm i0 n5) (br (br (pr.aN 1 c6 (pr.idx 0 i0 1)) true false) (cv 233 [(.sl (some (pr.aG c6 (pr.idx 0 i0 1))) 1 (pr.aD c6 (pr.idx 0 i0 1)) (pr.aF c6 (pr.idx 0 i0 1)))] (.bool (fun bH=>(.done (br (br bH false true) y1 (J 0 (lx (pr.ar .add .i64 i0 1) g1 n2 c3 g4 n5 c6 b7 b8 b9 i10))))))) none) none) (cv 186 [(.sl (some g1) 1 n2 c3)] (.bool (fun eQ=>(.done (br eQ (br (pr.lt 0 (pr.aV n2)) (br (pr.eq (pr.aV n5) 3) (cv 87 [(.int .i64 i10),(.int .i64 0),(.int .i64 200)] (.bool (fun gi=>(.done (br gi (br b8 (some ((.bool (br b9 false true)),[.undef])) (some ((.bool true),[.undef]))) y1))))) y1) y1) y1)))))):=by kernel_rfl
theorem Np:Told cfg Tryz.prog 168 Tryz.f168:=⟨by kernel_rfl,Tryz.func168,by kernel_rfl⟩
theorem Nq (g0:Bool) (n0:Nat) (c0:List D) (g1:Bool) (n1:Nat) (c1:List D) (a2:Bool) (a3:Bool) (a4:Bool) (a5:Int):aW pr cv J 168 Tryz.f168 [(.agg [(.sl (some g0) 1 n0 c0),(.sl (some g1) 1 n1 c1),(.bool a2),(.bool a3),(.bool a4),(.int .i64 a5)])]=
 let y1:Option (D × List D):=(some ((.bool false),[.undef]))
 (cv 189 [(.sl (some g0) 1 n0 c0)] (.bool (fun bH=>(.done (br bH (br (pr.lt 0 (pr.aV n0)) (cv 169 [(.sl (some g1) 1 n1 c1)] (.bool (fun eQ=>(.done (br eQ (cv 105 [(.int .i64 a5),(.int .i64 0),(.int .i64 200)] (.bool (fun gi=>(.done (br gi (br a3 (some ((.bool (br a4 false true)),[.undef])) (some ((.bool true),[.undef]))) y1))))) y1))))) y1) y1))))):=by kernel_rfl
def jB (i0:Int) (g1:Bool) (n2:Nat) (c3:List D) (g4:Bool) (n5:Nat) (c6:List D) (b7:Bool) (b8:Bool) (b9:Bool) (i10:Int) (g11:Bool) (fI:Nat) (gh:List D) (g14:Bool) (n15:Nat) (qO:List D) (nP:Bool) (Ik:Bool) (Il:Bool) (i20:Int):St:=(St.mk [(2,(.ptr 2 [] 0)),(3,(.ptr 3 [] 0)),(5,(.int .i64 i0))] [(2,[(.sl (some g1) 1 n2 c3),(.sl (some g4) 1 n5 c6),(.bool b7),(.bool b8),(.bool b9),(.int .i64 i10)]),(3,[(.sl (some g11) 1 fI gh),(.sl (some g14) 1 n15 qO),(.bool nP),(.bool Ik),(.bool Il),(.int .i64 i20)])] [] 0)
theorem xM:Told cfg Tryz.prog 164 Tryz.f164:=⟨by kernel_rfl,Tryz.func164,by kernel_rfl⟩
theorem xN (g0:Bool) (n0:Nat) (c0:List D) (g1:Bool) (n1:Nat) (c1:List D) (a2:Bool) (a3:Bool) (a4:Bool) (a5:Int) (g6:Bool) (n6:Nat) (c6:List D) (g7:Bool) (n7:Nat) (c7:List D) (a8:Bool) (a9:Bool) (a10:Bool) (a11:Int):aW pr cv J 164 Tryz.f164 [(.agg [(.sl (some g0) 1 n0 c0),(.sl (some g1) 1 n1 c1),(.bool a2),(.bool a3),(.bool a4),(.int .i64 a5)]),(.agg [(.sl (some g6) 1 n6 c6),(.sl (some g7) 1 n7 c7),(.bool a8),(.bool a9),(.bool a10),(.int .i64 a11)])]=
 let y1:Option (D × List D):=(some ((.bool false),[.undef,.undef]))
 (br (br (pr.eq (pr.aV n1) (pr.aV n7)) false true) y1 (cv 193 [(.sl (some g0) 1 n0 c0),(.sl (some g6) 1 n6 c6)] (.bool (fun bH=>(.done (br (br bH false true) y1 (br (br (pr.beq a2 a8) false true) y1 (br (br (pr.beq a3 a9) false true) y1 (br (br (pr.beq a4 a10) false true) y1 (br (br (pr.eq a5 a11) false true) y1 (J 0 (jB 0 g0 n0 c0 g1 n1 c1 a2 a3 a4 a5 g6 n6 c6 g7 n7 c7 a8 a9 a10 a11)))))))))))):=by kernel_rfl
theorem oK (i0:Int) (g1:Bool) (n2:Nat) (c3:List D) (g4:Bool) (n5:Nat) (c6:List D) (b7:Bool) (b8:Bool) (b9:Bool) (i10:Int) (g11:Bool) (fI:Nat) (gh:List D) (g14:Bool) (n15:Nat) (qO:List D) (nP:Bool) (Ik:Bool) (Il:Bool) (i20:Int):bL pr cv J 164 Tryz.f164 [.undef,.undef] 0 (jB i0 g1 n2 c3 g4 n5 c6 b7 b8 b9 i10 g11 fI gh g14 n15 qO nP Ik Il i20)=
 (br (pr.lt i0 (pr.aV n5)) (br (pr.bm i0 n5) (br (br (pr.aN 1 c6 (pr.idx 0 i0 1)) true false) (br (pr.bm i0 n15) (br (br (pr.aN 1 qO (pr.idx 0 i0 1)) true false) (cv 193 [(.sl (some (pr.aG c6 (pr.idx 0 i0 1))) 1 (pr.aD c6 (pr.idx 0 i0 1)) (pr.aF c6 (pr.idx 0 i0 1))),(.sl (some (pr.aG qO (pr.idx 0 i0 1))) 1 (pr.aD qO (pr.idx 0 i0 1)) (pr.aF qO (pr.idx 0 i0 1)))] (.bool (fun bH=>(.done (br (br bH false true) (some ((.bool false),[.undef,.undef])) (J 0 (jB (pr.ar .add .i64 i0 1) g1 n2 c3 g4 n5 c6 b7 b8 b9 i10 g11 fI gh g14 n15 qO nP Ik Il i20))))))) none) none) none) none) (some ((.bool true),[.undef,.undef]))):=by kernel_rfl
theorem Im:Told cfg Tryz.prog 171 Tryz.f171:=⟨by kernel_rfl,Tryz.func171,by kernel_rfl⟩
theorem Io (g0:Bool) (n0:Nat) (c0:List D) (g1:Bool) (n1:Nat) (c1:List D) (a2:Bool) (a3:Bool) (a4:Bool) (a5:Int) (g6:Bool) (n6:Nat) (c6:List D) (g7:Bool) (n7:Nat) (c7:List D) (a8:Bool) (a9:Bool) (a10:Bool) (a11:Int):aW pr cv J 171 Tryz.f171 [(.agg [(.sl (some g0) 1 n0 c0),(.sl (some g1) 1 n1 c1),(.bool a2),(.bool a3),(.bool a4),(.int .i64 a5)]),(.agg [(.sl (some g6) 1 n6 c6),(.sl (some g7) 1 n7 c7),(.bool a8),(.bool a9),(.bool a10),(.int .i64 a11)])]=
 let y1:Option (D × List D):=(some ((.bool false),[.undef,.undef]))
 (cv 202 [(.sl (some g0) 1 n0 c0),(.sl (some g6) 1 n6 c6)] (.bool (fun bH=>(.done (br bH (cv 241 [(.sl (some g1) 1 n1 c1),(.sl (some g7) 1 n7 c7),(.fn 202 [])] (.bool (fun eQ=>(.done (br eQ (br (pr.beq a2 a8) (br (pr.beq a3 a9) (br (pr.beq a4 a10) (some ((.bool (pr.eq a5 a11)),[.undef,.undef])) y1) y1) y1) y1))))) y1))))):=by kernel_rfl
end
theorem WP.find {f:FuncId} {fn:Func} {sk:List D} {j:Nat} {H:Nat->St} {n:Nat} (p:Nat->Bool) {bad:Nat->Rz} {Ac:Rz} (GU:∀ i r,i < n->p i=false->WP f fn sk j (H (i+1)) r->WP f fn sk j (H i) r) (ZD:∀ i,i < n->p i=true->WP f fn sk j (H i) (bad i)) (ZE:WP f fn sk j (H n) Ac):WP f fn sk j (H 0) (match (List.range n).find? p with | some i=>bad i | none=>Ac):=by
 have key:∀ k i,i+k=n->WP f fn sk j (H i) (match ((List.range n).drop i).find? p with | some i=>bad i | none=>Ac):=by
  intro k
  induction k with
  | zero=>
   intro i hi;obtain rfl:i=n:=by omega
   rw [aeb (by simp)]
   exact ZE
  | succ k ih=>
   intro i hi;have dg:i < (List.range n).length:=by simp; omega
   rw [<- abM dg,List.getElem_range,List.find?_cons];cases hp:p i with
   | false=>exact GU i _ (by omega) hp (ih (i+1) (by omega))
   | true=>exact ZD i (by omega) hp
 exact key n 0 (by omega)
theorem ZH {n:Nat} (p:Nat->Bool) (k:Nat->Int) (hk:∀ i,0<=k i):decide (0<=(match (List.range n).find? p with | some i=>k i | none=>-1))=!((List.range n).all fun i=>!p i):=by
 cases h:(List.range n).find? p with
 | none=>
  rw [List.find?_eq_none] at h;have:((List.range n).all fun i=>!p i)=true:=by
   rw [aac];intro x hx
   simpa using h x hx
  rw [this];rfl
 | some i=>
  have h1:=adR h;have h2:=List.find?_some h;have:((List.range n).all fun i=>!p i)=false:=by
   rw [List.all_eq_false];exact ⟨i,h1,by simp [h2]⟩
  rw [this];simp [hk i]
theorem CP {a b:Bool} {outs:List D}:(if a=true then ((D.bool b,outs):Rz) else (D.bool false,outs))=(D.bool (a&&b),outs):=by cases a<;>rfl
theorem DL (n:Nat):ad.nF (n:Int) 0=n:=by simp [ad]
theorem Ip:ad.iv 0=0:=rfl
theorem Iq (n:Nat):Nat.mul n 1=n:=Nat.mul_one n
theorem Ir (n:Nat):Nat.mul 0 n=0:=Nat.zero_mul n
theorem uf (xs:List Int) (i:Nat):List.take i (ints xs)=ints (xs.take i):=by simp [ints,ae7]
def Al (xs:List Int) (i:Nat):Bool:=decide (1<=xs.getD i 0/\xs.getD i 0<=100000)&&!decide (xs.getD i 0∈xs.take i)
def jU (xs:List Int):Bool:=(List.range xs.length).all (Al xs)&&decide ((xs.length:Int)<=12)
theorem AL (g:Bool) (xs:List Int) (hb:xs.length < 4611686018427387904):Cm 186 [.sl (some g) 1 xs.length (ints xs)] (.bool (jU xs),[.undef]):=by
 unfold jU;rw [<- CP];refine Cm.go Nf [.undef] 0 (lu g xs.length (ints xs) (0:Nat)) ?_ fun J hJ=>?_
 ·refine WP.scan (H:=fun i:Nat=>lu g xs.length (ints xs) (i:Nat)) (Al xs) (fun i r hi hp ih=>WP.go _ ih fun J hJ=>?_) (fun i hi hp=>WP.fin fun J=>?_) (WP.fin fun J=>?_)
  ·rw [qo];unfold Al at hp;rw [bX hi,Bh,decide_eq_true_eq,abb,decide_eq_false_iff_not] at hp;simp (disch:=first | omega | assumption | (simp; omega)) only [aK,bg,bo,bQ,cb,aC,bc,Hn,bF,cV,dz,dA,jz,aE,ao,decide_eq_true hp.1,DL,Ip,Iq,Ir,af0,uf,SZ,decide_eq_false hp.2,dp]
   exact hJ
  ·rw [qo];unfold Al at hp;rw [bX hi] at hp;by_cases hc:1<=xs[i]/\xs[i]<=100000
   ·rw [decide_eq_true hc,abU,afq,decide_eq_true_eq] at hp;simp (disch:=first | omega | assumption | (simp; omega)) only [aK,bg,bo,bQ,cb,aC,bc,Hn,bF,cV,dz,dA,jz,aE,ao,decide_eq_true hc,DL,Ip,Iq,Ir,af0,uf,SZ,decide_eq_true hp]
   ·simp (disch:=first | omega | assumption) only [aK,bg,bo,bQ,cb,aC,bc,bF,cV,dz,dA,jz,aE,ao,decide_eq_false hc]
  ·rw [qo];simp (disch:=omega) only [aC,bG,Ad]
 ·rw [Ng];exact hJ
theorem AM (g:Bool) (xs:List Int) (hb:xs.length < 4611686018427387904):Cm 189 [.sl (some g) 1 xs.length (ints xs)] (.bool (jU xs),[.undef]):=by
 unfold jU;rw [<- CP];refine Cm.go Nh [.undef] 0 (lv g xs.length (ints xs) xs.length (0:Nat)) ?_ fun J hJ=>?_
 ·refine WP.scan (H:=fun i:Nat=>lv g xs.length (ints xs) xs.length (i:Nat)) (Al xs) (fun i r hi hp ih=>WP.go _ ih fun J hJ=>?_) (fun i hi hp=>WP.fin fun J=>?_) (WP.fin fun J=>?_)
  ·rw [qp];unfold Al at hp;rw [bX hi,Bh,decide_eq_true_eq,abb,decide_eq_false_iff_not] at hp;simp (disch:=first | omega | assumption | (simp; omega)) only [aK,bg,bo,bQ,cb,aC,bc,Hn,bF,cV,dz,dA,fo,aE,ao,decide_eq_true hp.1,DL,Ip,Iq,Ir,af0,uf,Ij,decide_eq_false hp.2,dp]
   exact hJ
  ·rw [qp];unfold Al at hp;rw [bX hi] at hp;by_cases hc:1<=xs[i]/\xs[i]<=100000
   ·rw [decide_eq_true hc,abU,afq,decide_eq_true_eq] at hp;simp (disch:=first | omega | assumption | (simp; omega)) only [aK,bg,bo,bQ,cb,aC,bc,Hn,bF,cV,dz,dA,fo,aE,ao,decide_eq_true hc,DL,Ip,Iq,Ir,af0,uf,Ij,decide_eq_true hp]
   ·simp (disch:=first | omega | assumption) only [aK,bg,bo,bQ,cb,aC,bc,bF,cV,dz,dA,fo,aE,ao,decide_eq_false hc]
  ·rw [qp];simp (disch:=omega) only [aC,bG,Ad]
 ·rw [Ni];exact hJ
def pW (xs:List Int) (i:Nat):Bool:=decide (0<=xs.getD i 0/\xs.getD i 0<=200)
def ki (xs:List Int):Bool:=(List.range xs.length).all (pW xs)&&decide ((xs.length:Int)=8)
theorem Kv (g:Bool) (xs:List Int) (hb:xs.length < 4611686018427387904):Cm 160 [.sl (some g) 1 xs.length (ints xs)] (.bool (ki xs),[.undef]):=by
 unfold ki;rw [<- CP];refine Cm.go Kp [.undef] 0 (kf g xs.length (ints xs) (0:Nat)) ?_ fun J hJ=>?_
 ·refine WP.scan (H:=fun i:Nat=>kf g xs.length (ints xs) (i:Nat)) (pW xs) (fun i r hi hp ih=>WP.go _ ih fun J hJ=>?_) (fun i hi hp=>WP.fin fun J=>?_) (WP.fin fun J=>?_)
  ·rw [pE];unfold pW at hp;rw [bX hi] at hp;simp (disch:=first | omega | assumption) only [aK,bg,bo,bQ,cb,aC,bc,bF,cV,dz,dA,jz,aE,ao,hp,dp]
   exact hJ
  ·rw [pE];unfold pW at hp;rw [bX hi] at hp;simp (disch:=first | omega | assumption) only [aK,bg,bo,bQ,cb,aC,bc,bF,cV,dz,dA,jz,aE,ao,hp]
  ·rw [pE];simp (disch:=omega) only [aC,bG,Ce];rfl
 ·rw [Kq];exact hJ
theorem RR (a:Int):Cm 236 [.int .i64 a] (.bool (!decide (0<=a/\a<=200)),[.undef]):=by
 refine Cm.fin FV fun J=>?_;rw [FW];simp only [fo,aE,ao,bQ]
theorem E0 (a:Int) (t:bO Rz):aX 236 [.int .i64 a] t=feed t [.bool (!decide (0<=a/\a<=200))]:=bh (RR a) (by kernel_rfl) t
def xO (n:Nat) (p:Nat->Bool):Int:=match (List.range n).find? (fun i=>!p i) with | some i=>(i:Int) | none=>-1
theorem QV (n:Nat) (p:Nat->Bool):decide (0<=xO n p)=!(List.range n).all p:=by
 unfold xO;rw [ZH _ _ (fun i=>Int.natCast_nonneg i)];simp
theorem QW (g:Bool) (xs:List Int) (hb:xs.length < 4611686018427387904):Cm 216 [.sl (some g) 1 xs.length (ints xs),.fn 236 []] (.int .i64 (xO xs.length (pW xs)),[.undef,.undef]):=by
 have e:((.int .i64 (xO xs.length (pW xs)),[.undef,.undef]):Rz)=(match (List.range xs.length).find? (fun i=>!pW xs i) with | some i=>((.int .i64 (i:Int),[.undef,.undef]):Rz) | none=>(.int .i64 (-1),[.undef,.undef])):=by
  unfold xO;split<;>rfl
 rw [e];refine Cm.go rN [.undef,.undef] 0 (eb g xs.length (ints xs) xs.length (0:Nat)) ?_ fun J hJ=>?_
 ·refine WP.find (H:=fun i:Nat=>eb g xs.length (ints xs) xs.length (i:Nat)) _ (fun i r hi hp ih=>WP.go _ ih fun J hJ=>?_) (fun i hi hp=>WP.fin fun J=>?_) (WP.fin fun J=>?_)
  ·rw [gr];unfold pW at hp;rw [bX hi] at hp;simp (disch:=first | omega | assumption) only [aK,bg,bo,bQ,cb,aC,bc,bF,cV,dz,dA,E0,aE,ao,hp,dp]
   exact hJ
  ·rw [gr];unfold pW at hp;rw [bX hi] at hp;simp (disch:=first | omega | assumption) only [aK,bg,bo,bQ,aC,bc,bF,cV,dz,dA,E0,aE,ao,hp]
  ·rw [gr];simp (disch:=omega) only [aC,bG]
 ·rw [rO];exact hJ
theorem Is (g:Bool) (xs:List Int) (hb:xs.length < 4611686018427387904):Cm 135 [.sl (some g) 1 xs.length (ints xs),.fn 236 []] (.bool (!(List.range xs.length).all (pW xs)),[.undef,.undef]):=by
 refine Cm.fin pS fun J=>?_;rw [pT];have:=bh (QW g xs hb) (by kernel_rfl)
 simp only [this,ao,Ad];rw [<- QV];rfl
theorem Kw (g:Bool) (xs:List Int) (hb:xs.length < 4611686018427387904):Cm 167 [.sl (some g) 1 xs.length (ints xs)] (.bool (ki xs),[.undef]):=by
 refine Cm.fin Kr fun J=>?_;rw [Kt];have:=bh (Is g xs hb) (by kernel_rfl)
 unfold ki;by_cases h:(xs.length:Int)=8
 ·simp (disch:=first | omega | assumption) only [aC,gA,this,bQ]
  rw [decide_eq_true h,ae9];show some (D.bool (!!_),_)=_;rw [Bool.not_not]
 ·simp (disch:=first | omega | assumption) only [aC,eA]
  rw [decide_eq_false h,aeo]
section
variable (t:bO Rz)
theorem Nr (g:Bool) (xs:List Int) (n:Nat) (hn:n=xs.length) (hb:xs.length < 4611686018427387904):aX 186 [.sl (some g) 1 n (ints xs)] t=feed t [.bool (jU xs)]:=by subst hn; exact bh (AL g xs hb) (by kernel_rfl) t
theorem Nt (g:Bool) (xs:List Int) (n:Nat) (hn:n=xs.length) (hb:xs.length < 4611686018427387904):aX 189 [.sl (some g) 1 n (ints xs)] t=feed t [.bool (jU xs)]:=by subst hn; exact bh (AM g xs hb) (by kernel_rfl) t
theorem zn (g:Bool) (xs:List Int) (n:Nat) (hn:n=xs.length) (hb:xs.length < 4611686018427387904):aX 233 [.sl (some g) 1 n (ints xs)] t=feed t [.bool (gf xs)]:=by subst hn; exact bh (zl g xs hb) (by kernel_rfl) t
theorem Kx (g:Bool) (xs:List Int) (n:Nat) (hn:n=xs.length) (hb:xs.length < 4611686018427387904):aX 239 [.sl (some g) 1 n (ints xs)] t=feed t [.bool (gf xs)]:=by subst hn; exact bh (zm g xs hb) (by kernel_rfl) t
end
set_option maxRecDepth 100000
section
variable (pr:dC) (cv:Cv Rz) (J:Nat->St->Option Rz)
def dI (g0:Bool) (n1:Nat) (c2:List D) (g3:Bool) (n4:Nat) (c5:List D) (i6:Int) (i7:Int):St:=(St.mk [(1,(.sl (some g0) 1 n1 c2)),(2,(.fn 202 [])),(15,(.sl (some g3) 1 n4 c5)),(16,(.int .i64 i6)),(17,(.int .i64 i7))] [] [] 0)
theorem jP:Told cfg Tryz.prog 241 Tryz.f241:=⟨by kernel_rfl,Tryz.func241,by kernel_rfl⟩
theorem jQ (g0:Bool) (n0:Nat) (c0:List D) (g1:Bool) (n1:Nat) (c1:List D):aW pr cv J 241 Tryz.f241 [(.sl (some g0) 1 n0 c0),(.sl (some g1) 1 n1 c1),(.fn 202 [])]=
 (br (br (pr.eq (pr.aV n0) (pr.aV n1)) false true) (some ((.bool false),[.undef,.undef,.undef])) (J 0 (dI g1 n1 c1 g0 n0 c0 (pr.aV n0) 0))):=by kernel_rfl
theorem fK (g0:Bool) (n1:Nat) (c2:List D) (g3:Bool) (n4:Nat) (c5:List D) (i6:Int) (i7:Int):bL pr cv J 241 Tryz.f241 [.undef,.undef,.undef] 0 (dI g0 n1 c2 g3 n4 c5 i6 i7)=
 (br (pr.lt i7 i6) (br (pr.bm i7 n4) (br (br (pr.aN 1 c5 (pr.idx 0 i7 1)) true false) (br (pr.bm i7 n1) (br (br (pr.aN 1 c2 (pr.idx 0 i7 1)) true false) (cv 202 [(.sl (some (pr.aG c5 (pr.idx 0 i7 1))) 1 (pr.aD c5 (pr.idx 0 i7 1)) (pr.aF c5 (pr.idx 0 i7 1))),(.sl (some (pr.aG c2 (pr.idx 0 i7 1))) 1 (pr.aD c2 (pr.idx 0 i7 1)) (pr.aF c2 (pr.idx 0 i7 1)))] (.bool (fun bH=>(.done (br (br bH false true) (some ((.bool false),[.undef,.undef,.undef])) (J 0 (dI g0 n1 c2 g3 n4 c5 i6 (pr.ar .add .i64 i7 1)))))))) none) none) none) none) (some ((.bool true),[.undef,.undef,.undef]))):=by kernel_rfl
theorem RU:Told cfg Tryz.prog 317 Tryz.f317:=⟨by kernel_rfl,Tryz.func317,by kernel_rfl⟩
theorem RV (a0:Int):aW pr cv J 317 Tryz.f317 [(.int .i64 a0)]=
 (br (br (pr.lt 8 0) false true) (br (br (pr.lt 16 0) false true) (br (br (pr.lt 24 0) false true) (some ((.sl none 1 4 [(.int .u8 (pr.wrap .u8 a0)),(.int .u8 (pr.wrap .u8 (pr.ar .shr .i64 a0 8))),(.int .u8 (pr.wrap .u8 (pr.ar .shr .i64 a0 16))),(.int .u8 (pr.wrap .u8 (pr.ar .shr .i64 a0 24)))]),[.undef])) none) none) none):=by kernel_rfl
end
theorem all_eq {α:Type} [DecidableEq α] (d:α):∀ (xs ys:List α),xs.length=ys.length->((List.range xs.length).all fun i=>decide (xs.getD i d=ys.getD i d))=decide (xs=ys):=by
 intro xs ys hl;rw [Bool.eq_iff_iff,aac,decide_eq_true_eq];constructor
 ·intro h;apply List.ext_getElem hl;intro i hi oC;have:=h i (List.mem_range.2 hi)
  rwa [decide_eq_true_eq,bX hi,bX oC] at this
 ·intro h;subst h;intro i _;simp
theorem UA {α:Type} [DecidableEq α] (d:α) (xs ys:List α):(((List.range (min xs.length ys.length)).all fun i=>decide (xs.getD i d=ys.getD i d))&&decide ((xs.length:Int)=(ys.length:Int)))=decide (xs=ys):=by
 by_cases h:xs.length=ys.length
 ·rw [<- h,Nat.min_self,all_eq d xs ys h];simp
 ·have:xs≠ys:=fun e=>h (e▸rfl);have h':¬ (xs.length:Int)=(ys.length:Int):=by omega
  rw [decide_eq_false h',decide_eq_false this,aeo]
theorem QX (g h:Bool) (xs ys:List Int) (hx:xs.length < 4611686018427387904) (hy:ys.length < 4611686018427387904):Cm 193 [.sl (some g) 1 xs.length (ints xs),.sl (some h) 1 ys.length (ints ys)] (.bool (decide (xs=ys)),[.undef,.undef]):=by
 rw [<- UA 0,<- CP];refine Cm.go M8 [.undef,.undef] 0 (lr g xs.length (ints xs) h ys.length (ints ys) (0:Nat)) ?_ fun J hJ=>?_
 ·refine WP.scan (H:=fun i:Nat=>lr g xs.length (ints xs) h ys.length (ints ys) (i:Nat)) _ (fun i r hi hp ih=>WP.go _ ih fun J hJ=>?_) (fun i hi hp=>WP.fin fun J=>?_) (WP.fin fun J=>?_)
  ·rw [qn];have h1:i < xs.length:=by omega
   have h2:i < ys.length:=by omega
   rw [bX h1,bX h2,decide_eq_true_eq] at hp;simp (disch:=first | omega | assumption) only [aK,bg,bo,bQ,cb,aC,bc,bF,cV,dz,dA,gA,dp]
   exact hJ
  ·rw [qn];have h1:i < xs.length:=by omega
   have h2:i < ys.length:=by omega
   rw [bX h1,bX h2,decide_eq_false_iff_not] at hp;simp (disch:=first | omega | assumption) only [aK,bg,bo,bQ,cb,aC,bc,bF,cV,dz,dA,eA]
  ·rw [qn];by_cases h1:min xs.length ys.length < xs.length
   ·simp (disch:=omega) only [aC,bc,bG,Ce];rfl
   ·simp (disch:=omega) only [aC,bG,Ce];rfl
 ·rw [M9];exact hJ
theorem S5 (g h:Bool) (xs ys:List Int) (hx:xs.length < 4611686018427387904) (hy:ys.length < 4611686018427387904):Cm 202 [.sl (some g) 1 xs.length (ints xs),.sl (some h) 1 ys.length (ints ys)] (.bool (decide (xs=ys)),[.undef,.undef]):=by
 by_cases hl:xs.length=ys.length
 ·rw [<- all_eq 0 xs ys hl,<- zk];refine Cm.go qQ [.undef,.undef] 0 (fZ g xs.length (ints xs) h ys.length (ints ys) xs.length (0:Nat)) ?_ fun J hJ=>?_
  ·refine WP.scan (H:=fun i:Nat=>fZ g xs.length (ints xs) h ys.length (ints ys) xs.length (i:Nat)) _ (fun i r hi hp ih=>WP.go _ ih fun J hJ=>?_) (fun i hi hp=>WP.fin fun J=>?_) (WP.fin fun J=>?_)
   ·rw [kh];have h2:i < ys.length:=by omega
    rw [bX hi,bX h2,decide_eq_true_eq] at hp;simp (disch:=first | omega | assumption) only [aK,bg,bo,bQ,cb,aC,bc,bF,cV,dz,dA,gA,dp]
    exact hJ
   ·rw [kh];have h2:i < ys.length:=by omega
    rw [bX hi,bX h2,decide_eq_false_iff_not] at hp;simp (disch:=first | omega | assumption) only [aK,bg,bo,bQ,cb,aC,bc,bF,cV,dz,dA,eA]
   ·rw [kh];simp (disch:=omega) only [aC,bG]
  ·rw [qR];simp (disch:=omega) only [aC,gA,bQ,cb,aK,bg];exact hJ
 ·have cX:xs≠ys:=fun e=>hl (e▸rfl);refine Cm.fin qQ fun J=>?_;rw [qR,decide_eq_false cX];simp (disch:=omega) only [aC,eA,bQ,cb,aK,bg]
section
variable (t:bO Rz)
theorem Am (g h:Bool) (xs ys:List Int) (n k:Nat) (hn:n=xs.length) (hk:k=ys.length) (hx:xs.length < 4611686018427387904) (hy:ys.length < 4611686018427387904):aX 193 [.sl (some g) 1 n (ints xs),.sl (some h) 1 k (ints ys)] t=feed t [.bool (decide (xs=ys))]:=by subst hn hk; exact bh (QX g h xs ys hx hy) (by kernel_rfl) t
theorem Ky (g h:Bool) (xs ys:List Int) (n k:Nat) (hn:n=xs.length) (hk:k=ys.length) (hx:xs.length < 4611686018427387904) (hy:ys.length < 4611686018427387904):aX 202 [.sl (some g) 1 n (ints xs),.sl (some h) 1 k (ints ys)] t=feed t [.bool (decide (xs=ys))]:=by subst hn hk; exact bh (S5 g h xs ys hx hy) (by kernel_rfl) t
end
theorem RW (g h:Bool) (xs ys:List (List Int)) (hx:wq xs) (hy:wq ys):Cm 241 [sR (some g) xs,sR (some h) ys,.fn 202 []] (.bool (decide (xs=ys)),[.undef,.undef,.undef]):=by
 by_cases hl:xs.length=ys.length
 ·rw [<- all_eq [] xs ys hl,<- zk];refine Cm.go jP [.undef,.undef,.undef] 0 (dI h ys.length (rows (some h) ys) g xs.length (rows (some g) xs) xs.length (0:Nat)) ?_ fun J hJ=>?_
  ·refine WP.scan (H:=fun i:Nat=>dI h ys.length (rows (some h) ys) g xs.length (rows (some g) xs) xs.length (i:Nat)) _ (fun i r hi hp ih=>WP.go _ ih fun J hJ=>?_) (fun i hi hp=>WP.fin fun J=>?_) (WP.fin fun J=>?_)
   ·have b1:=hx.1;have h2:i < ys.length:=by omega
    have b2:=hx.2 _ (aan hi);have b3:=hy.2 _ (aan h2);rw [fK];rw [bX hi,bX h2] at hp;simp (disch:=first | omega | assumption) only [aK,bg,bo,bQ,cb,aC,bc,bF,cV,iT,iU,iV,jx,Ky,aE,ao,hp,dp]
    exact hJ
   ·have b1:=hx.1;have h2:i < ys.length:=by omega
    have b2:=hx.2 _ (aan hi);have b3:=hy.2 _ (aan h2);rw [fK];rw [bX hi,bX h2] at hp;simp (disch:=first | omega | assumption) only [aK,bg,bo,bQ,cb,aC,bc,bF,cV,iT,iU,iV,jx,Ky,aE,ao,hp]
   ·rw [fK];simp (disch:=omega) only [aC,bG]
  ·rw [jQ];simp (disch:=omega) only [aC,gA,bQ,cb,aK,bg];exact hJ
 ·have cX:xs≠ys:=fun e=>hl (e▸rfl);refine Cm.fin jP fun J=>?_;rw [jQ,decide_eq_false cX];simp (disch:=omega) only [aC,eA,bQ,cb,aK,bg]
def nB (xss:List (List Int)) (i:Nat):Bool:=gf (xss.getD i [])
def iz (xss:List (List Int)):Bool:=(List.range xss.length).all (nB xss)
theorem QY (g:Bool) (xs:List Int) (hb:xs.length < 4611686018427387904):Cm 238 [.sl (some g) 1 xs.length (ints xs)] (.bool (!gf xs),[.undef]):=by
 refine Cm.fin DU fun J=>?_;rw [DV];simp (disch:=first | rfl | assumption) only [Kx,aE,ao,bQ]
theorem CQ (g:Bool) (xs:List Int) (n:Nat) (hn:n=xs.length) (hb:xs.length < 4611686018427387904) (t:bO Rz):aX 238 [.sl (some g) 1 n (ints xs)] t=feed t [.bool (!gf xs)]:=by subst hn; exact bh (QY g xs hb) (by kernel_rfl) t
theorem QZ (g:Bool) (xss:List (List Int)) (hb:wq xss):Cm 280 [sR (some g) xss,.fn 238 []] (.int .i64 (xO xss.length (nB xss)),[.undef,.undef]):=by
 have e:((.int .i64 (xO xss.length (nB xss)),[.undef,.undef]):Rz)=(match (List.range xss.length).find? (fun i=>!nB xss i) with | some i=>((.int .i64 (i:Int),[.undef,.undef]):Rz) | none=>(.int .i64 (-1),[.undef,.undef])):=by
  unfold xO;cases (List.range xss.length).find? (fun i=>!nB xss i)<;>rfl
 rw [e];have b1:=hb.1;refine Cm.go rP [.undef,.undef] 0 (ec g xss.length (rows (some g) xss) xss.length (0:Nat)) ?_ fun J hJ=>?_
 ·refine WP.find (H:=fun i:Nat=>ec g xss.length (rows (some g) xss) xss.length (i:Nat)) _ (fun i r hi hp ih=>WP.go _ ih fun J hJ=>?_) (fun i hi hp=>WP.fin fun J=>?_) (WP.fin fun J=>?_)
  ·have b2:=hb.2 _ (aan hi);rw [gu];unfold nB at hp;rw [bX hi] at hp;simp (disch:=first | omega | assumption) only [aK,bg,bo,bQ,aC,bc,bF,cV,iT,iU,iV,jx,CQ,aE,ao,hp,dp]
   exact hJ
  ·have b2:=hb.2 _ (aan hi);rw [gu];unfold nB at hp;rw [bX hi] at hp;simp (disch:=first | omega | assumption) only [aK,bg,bo,bQ,aC,bc,bF,cV,iT,iU,iV,jx,CQ,aE,ao,hp]
  ·rw [gu];simp (disch:=omega) only [aC,bG]
 ·rw [rQ];exact hJ
theorem It (g:Bool) (xss:List (List Int)) (hb:wq xss):Cm 237 [sR (some g) xss,.fn 238 []] (.bool (!iz xss),[.undef,.undef]):=by
 refine Cm.fin pU fun J=>?_;rw [pV];have:=bh (QZ g xss hb) (by kernel_rfl)
 simp only [this,ao,Ad];unfold iz;rw [<- QV];rfl
theorem Iu (g:Bool) (xss:List (List Int)) (hb:wq xss):Cm 169 [sR (some g) xss] (.bool (((xss.length:Int)==3)&&iz xss),[.undef]):=by
 refine Cm.fin Ig fun J=>?_;rw [Ih];have:=bh (It g xss hb) (by kernel_rfl)
 simp only [this,aC,Ce];cases (xss.length:Int)==3 with
 | true=>
  show some (D.bool (br (!iz xss) false true),_)=_;rw [bQ,Bool.not_not];rfl
 | false=>rfl
def il (m:bn):Bool:=iz m.bits&&(jU m.aP&&(decide (0 < (m.aP.length:Int))&&(((m.bits.length:Int)==3)&&(decide (0<=m.last/\m.last<=200)&&!(m.bY&&m.held)))))
theorem AN (g:Bool) (m:bn) (hb:dt m):Cm 161 [.agg (cL (some g) m)] (.bool (il m),[.undef]):=by
 unfold il;rw [<- CP];have b0:=hb.aP;have b1:=hb.bits.1;refine Cm.go Nl [.undef] 0 (lx (0:Nat) g m.aP.length (ints m.aP) g m.bits.length (rows (some g) m.bits) m.dk m.bY m.held m.last) ?_ fun J hJ=>?_
 ·refine WP.scan (H:=fun i:Nat=>lx (i:Nat) g m.aP.length (ints m.aP) g m.bits.length (rows (some g) m.bits) m.dk m.bY m.held m.last) (nB m.bits) (fun i r hi hp ih=>WP.go _ ih fun J hJ=>?_) (fun i hi hp=>WP.fin fun J=>?_) (WP.fin fun J=>?_)
  ·have b2:=hb.bits.2 _ (aan hi);rw [qq];unfold nB at hp;rw [bX hi] at hp;simp (disch:=first | omega | assumption) only [aK,bg,bo,bQ,cb,aC,bc,bF,cV,iT,iU,iV,jx,zn,aE,ao,hp,dp]
   exact hJ
  ·have b2:=hb.bits.2 _ (aan hi);rw [qq];unfold nB at hp;rw [bX hi] at hp;simp (disch:=first | omega | assumption) only [aK,bg,bo,bQ,cb,aC,bc,bF,cV,iT,iU,iV,jx,zn,aE,ao,hp]
  ·rw [qq];simp (disch:=first | omega | assumption) only [aC,bG,Nr,aE,ao,jz]
   simp only [Un,Ce];generalize jU m.aP=a;generalize decide (0 < (m.aP.length:Int))=b;generalize ((m.bits.length:Int)==3)=c;generalize decide (0<=m.last/\m.last<=200)=d;generalize m.bY=e;generalize m.held=f;cases a<;>cases b<;>cases c<;>cases d<;>cases e<;>cases f<;>rfl
 ·rw [Nn];exact hJ
theorem AO (g:Bool) (m:bn) (hb:dt m):Cm 168 [.agg (cL (some g) m)] (.bool (il m),[.undef]):=by
 have b0:=hb.aP;have hm:=bh (Iu g m.bits hb.bits) (by kernel_rfl)
 refine Cm.fin Np fun J=>?_;rw [Nq];simp (disch:=first | omega | assumption) only [aC,Nt,hm,aE,ao,fo,Un]
 unfold il;generalize jU m.aP=a;generalize decide (0 < (m.aP.length:Int))=b;generalize ((m.bits.length:Int)==3)=c;generalize decide (0<=m.last/\m.last<=200)=d;generalize m.bY=e;generalize m.held=f;generalize iz m.bits=k;show (br a (br b (br (c&&k) _ _) _) _)=_;cases a<;>cases b<;>cases c<;>cases d<;>cases e<;>cases f<;>cases k<;>rfl
section
variable (t:bO Rz)
theorem AP (g:Bool) (m:bn) (hb:dt m):aX 161 [.agg (cL (some g) m)] t=feed t [.bool (il m)]:=bh (AN g m hb) (by kernel_rfl) t
theorem AQ (g:Bool) (m:bn) (hb:dt m):aX 168 [.agg (cL (some g) m)] t=feed t [.bool (il m)]:=bh (AO g m hb) (by kernel_rfl) t
end
def me (m k:bn):Bool:=decide (m.aP=k.aP)&&(decide (m.bits=k.bits)&&((m.dk==k.dk)&&((m.bY==k.bY)&&((m.held==k.held)&&(m.last==k.last)))))
theorem Iv (g h:Bool) (m k:bn) (hm:dt m) (hk:dt k):Cm 171 [.agg (cL (some g) m),.agg (cL (some h) k)] (.bool (me m k),[.undef,.undef]):=by
 have b0:=hm.aP;have b1:=hk.aP;have he:=bh (RW g h m.bits k.bits hm.bits hk.bits) (by kernel_rfl)
 refine Cm.fin Im fun J=>?_;rw [Io];simp (disch:=first | omega | assumption) only [Ky,he,aE,ao,u6,Ce]
 unfold me;generalize decide (m.aP=k.aP)=a;generalize decide (m.bits=k.bits)=b;generalize (m.dk==k.dk)=c;generalize (m.bY==k.bY)=d;generalize (m.held==k.held)=e;generalize (m.last==k.last)=f;show (br a (br b _ _) _)=_;cases a<;>cases b<;>cases c<;>cases d<;>cases e<;>cases f<;>rfl
theorem Iw (g h:Bool) (m k:bn) (hm:dt m) (hk:dt k):Cm 164 [.agg (cL (some g) m),.agg (cL (some h) k)] (.bool (me m k),[.undef,.undef]):=by
 have b0:=hm.aP;have b1:=hk.aP;have b2:=hm.bits.1;have fin:me m k=false->(m.bits.length=k.bits.length->(decide (m.aP=k.aP)&&((m.dk==k.dk)&&((m.bY==k.bY)&&((m.held==k.held)&&(m.last==k.last)))))=false)->Cm 164 [.agg (cL (some g) m),.agg (cL (some h) k)] (.bool (me m k),[.undef,.undef]):=by
  intro hs hq;rw [hs];refine Cm.fin xM fun J=>?_;rw [xN];by_cases hl:m.bits.length=k.bits.length
  ·have hq:=hq hl;simp (disch:=first | omega | assumption) only [Am,aE,ao,u6,aC,gA,bQ,cb,aK,bg]
   simp only [Ce];revert hq;generalize decide (m.aP=k.aP)=a;generalize (m.dk==k.dk)=c;generalize (m.bY==k.bY)=d;generalize (m.held==k.held)=e;generalize (m.last==k.last)=f;cases a<;>cases c<;>cases d<;>cases e<;>cases f<;>first | (intro _; rfl) | (intro hq; exact absurd hq (by decide))
  ·simp (disch:=first | omega | assumption) only [aC,eA,bQ,cb,aK,bg]
 by_cases hl:m.bits.length=k.bits.length
 ·cases hq:(decide (m.aP=k.aP)&&((m.dk==k.dk)&&((m.bY==k.bY)&&((m.held==k.held)&&(m.last==k.last))))) with
  | false=>
   refine fin ?_ fun _=>hq;revert hq;unfold me;generalize decide (m.aP=k.aP)=a;generalize decide (m.bits=k.bits)=b;generalize ((m.dk==k.dk)&&((m.bY==k.bY)&&((m.held==k.held)&&(m.last==k.last))))=c;cases a<;>cases b<;>cases c<;>simp
  | true=>
   have hs:me m k=decide (m.bits=k.bits):=by
    revert hq;unfold me;generalize decide (m.aP=k.aP)=a;generalize decide (m.bits=k.bits)=b;generalize ((m.dk==k.dk)&&((m.bY==k.bY)&&((m.held==k.held)&&(m.last==k.last))))=c;cases a<;>cases b<;>cases c<;>simp
   simp only [Bh] at hq;rw [hs,<- all_eq [] _ _ hl,<- zk];refine Cm.go xM [.undef,.undef] 0 (jB (0:Nat) g m.aP.length (ints m.aP) g m.bits.length (rows (some g) m.bits) m.dk m.bY m.held m.last h k.aP.length (ints k.aP) h k.bits.length (rows (some h) k.bits) k.dk k.bY k.held k.last) ?_ fun J hJ=>?_
   ·refine WP.scan (H:=fun i:Nat=>jB (i:Nat) g m.aP.length (ints m.aP) g m.bits.length (rows (some g) m.bits) m.dk m.bY m.held m.last h k.aP.length (ints k.aP) h k.bits.length (rows (some h) k.bits) k.dk k.bY k.held k.last) _ (fun i r hi hp ih=>WP.go _ ih fun J hJ=>?_) (fun i hi hp=>WP.fin fun J=>?_) (WP.fin fun J=>?_)
    ·have h2:i < k.bits.length:=by omega
     have b3:=hm.bits.2 _ (aan hi);have b4:=hk.bits.2 _ (aan h2);rw [oK];rw [bX hi,bX h2] at hp;simp (disch:=first | omega | assumption) only [aK,bg,bo,bQ,cb,aC,bc,bF,cV,iT,iU,iV,jx,Am,aE,ao,hp,dp]
     exact hJ
    ·have h2:i < k.bits.length:=by omega
     have b3:=hm.bits.2 _ (aan hi);have b4:=hk.bits.2 _ (aan h2);rw [oK];rw [bX hi,bX h2] at hp;simp (disch:=first | omega | assumption) only [aK,bg,bo,bQ,cb,aC,bc,bF,cV,iT,iU,iV,jx,Am,aE,ao,hp]
    ·rw [oK];simp (disch:=omega) only [aC,bG]
   ·rw [xN];simp (disch:=first | omega | assumption) only [Am,aE,ao,u6,aC,Ce,hq.1,hq.2.1,hq.2.2.1,hq.2.2.2.1,hq.2.2.2.2,bQ,cb,aK]
    have e1:((m.bits.length:Int)==(k.bits.length:Int))=true:=by simp [hl]
    rw [e1];exact hJ
 ·refine fin ?_ fun h=>absurd h hl;have:m.bits≠k.bits:=fun e=>hl (e▸rfl);unfold me;rw [decide_eq_false this,abL,aeo]
set_option maxRecDepth 100000
section
variable (pr:dC) (cv:Cv Rz) (J:Nat->St->Option Rz)
def ly (i0:Int) (n1:Nat) (c2:List D):St:=(St.mk [(0,(.int .i64 i0)),(3,(.ref 10003 [] 0 none))] [(10003,[(.sl none 1 n1 c2)])] [] 0)
theorem AR:Told cfg Tryz.prog 314 Tryz.f314:=⟨by kernel_rfl,Tryz.func314,by kernel_rfl⟩
theorem AS (a0:Int):aW pr cv J 314 Tryz.f314 [(.int .i64 a0)]=
 (cv 87 [(.int .i64 a0),(.int .i64 0),(.int .i64 2147483647)] (.bool (fun bH=>(.done (br (br bH false true) (some ((.sl none 1 0 []),[.undef])) (J 0 (ly a0 0 []))))))):=by kernel_rfl
theorem wG (i0:Int) (n1:Nat) (c2:List D):bL pr cv J 314 Tryz.f314 [.undef] 0 (ly i0 n1 c2)=
 let y1:List D:=[(.int .u8 (pr.wrap .u8 (pr.ar .add .i64 (pr.ar .rem .i64 i0 128) 128)))]
 (br (pr.lt 127 i0) (br (br (pr.eq 128 0) false true) (br (br (pr.flat y1) (pr.fits (n1+1) 1) false) (br (br (pr.eq 128 0) false true) (J 0 (ly (pr.ar .quo .i64 i0 128) (n1+1) (List.append c2 y1))) none) none) none) (br (br (pr.flat [(.int .u8 (pr.wrap .u8 i0))]) (pr.fits (n1+1) 1) false) (some ((.sl none 1 (n1+1) (List.append c2 [(.int .u8 (pr.wrap .u8 i0))])),[.undef])) none)):=by kernel_rfl
def lz (i0:Int) (n1:Nat) (c2:List D):St:=(St.mk [(0,(.int .i64 i0)),(3,(.ref 10003 [] 0 none))] [(10003,[(.sl none 1 n1 c2)])] [] 0)
theorem AT:Told cfg Tryz.prog 341 Tryz.f341:=⟨by kernel_rfl,Tryz.func341,by kernel_rfl⟩
theorem AU (a0:Int):aW pr cv J 341 Tryz.f341 [(.int .i64 a0)]=
 let y1:Option (D × List D):=(some ((.sl none 1 0 []),[.undef]))
 (br (pr.lt a0 0) y1 (br (pr.lt 2147483647 a0) y1 (J 0 (lz a0 0 [])))):=by kernel_rfl
theorem wH (i0:Int) (n1:Nat) (c2:List D):bL pr cv J 341 Tryz.f341 [.undef] 0 (lz i0 n1 c2)=
 let y1:List D:=[(.int .u8 (pr.wrap .u8 (pr.ar .add .i64 (pr.ar .rem .i64 i0 128) 128)))]
 (br (pr.lt 127 i0) (br (br (pr.eq 128 0) false true) (br (br (pr.flat y1) (pr.fits (Nat.succ n1) 1) false) (br (br (pr.eq 128 0) false true) (J 0 (lz (pr.ar .quo .i64 i0 128) (Nat.succ n1) (List.append c2 y1))) none) none) none) (br (br (pr.flat [(.int .u8 (pr.wrap .u8 i0))]) (pr.fits (Nat.succ n1) 1) false) (some ((.sl none 1 (Nat.succ n1) (List.append c2 [(.int .u8 (pr.wrap .u8 i0))])),[.undef])) none)):=by kernel_rfl
def lA (g0:Bool) (n1:Nat) (c2:List D) (i3:Int) (i4:Int) (i5:Int):St:=(St.mk [(0,(.sl (some g0) 1 n1 c2)),(1,(.int .i64 i3)),(7,(.int .i64 i4)),(8,(.int .i64 i5))] [] [] 0)
theorem AV:Told cfg Tryz.prog 329 Tryz.f329:=⟨by kernel_rfl,Tryz.func329,by kernel_rfl⟩
theorem AW (g0:Bool) (n0:Nat) (c0:List D) (a1:Int):aW pr cv J 329 Tryz.f329 [(.sl (some g0) 1 n0 c0),(.int .i64 a1)]=
 (J 0 (lA g0 n0 c0 a1 0 0)):=by kernel_rfl
theorem kj (g0:Bool) (n1:Nat) (c2:List D) (i3:Int) (i4:Int) (i5:Int):bL pr cv J 329 Tryz.f329 [.undef,.undef] 0 (lA g0 n1 c2 i3 i4 i5)=
 let y1:Option (D × List D):=(some ((.aM [(.int .i64 0),(.int .i64 0),(.bool false)]),[.undef,.undef]))
 let y2:Int:=(pr.wrap .i64 (pr.aO c2 (pr.idx 0 (pr.ar .add .i64 i3 i5) 1)))
 let y3:Int:=(pr.ar .or .i64 i4 (pr.ar .shl .i64 (pr.ar .rem .i64 y2 128) (pr.ar .mul .i64 7 i5)))
 let y4:D:=(.int .i64 y3)
 let y5:Option (D × List D):=(br (pr.lt 2147483647 y3) y1 (some ((.aM [y4,(.int .i64 (pr.ar .add .i64 (pr.ar .add .i64 i3 i5) 1)),(.bool true)]),[.undef,.undef])))
 (br (pr.lt i5 5) (br (pr.lt i3 0) y1 (br (pr.le (pr.ar .sub .i64 (pr.aV n1) i5) i3) y1 (br (pr.bm (pr.ar .add .i64 i3 i5) n1) (br (br (pr.bR .u8 c2 (pr.idx 0 (pr.ar .add .i64 i3 i5) 1)) true false) (br (br (pr.eq 128 0) false true) (br (br (pr.lt (pr.ar .mul .i64 7 i5) 0) false true) (br (pr.lt y2 128) (br (pr.lt 0 i5) (br (pr.eq y2 0) y1 y5) y5) (J 0 (lA g0 n1 c2 i3 y3 (pr.ar .add .i64 i5 1)))) none) none) none) none))) y1):=by kernel_rfl
def nQ (g0:Bool) (n1:Nat) (c2:List D) (i3:Int) (i4:Int) (i5:Int) (i6:Int):St:=(St.mk [(0,(.sl (some g0) 1 n1 c2)),(1,(.int .i64 i3)),(7,(.int .i64 i4)),(8,(.int .i64 i5)),(9,(.int .i64 i6))] [] [] 0)
theorem AX:Told cfg Tryz.prog 340 Tryz.f340:=⟨by kernel_rfl,Tryz.func340,by kernel_rfl⟩
theorem AY (g0:Bool) (n0:Nat) (c0:List D) (a1:Int):aW pr cv J 340 Tryz.f340 [(.sl (some g0) 1 n0 c0),(.int .i64 a1)]=
 (br (pr.lt a1 0) (some ((.aM [(.int .i64 0),(.int .i64 0),(.bool false)]),[.undef,.undef])) (J 0 (nQ g0 n0 c0 a1 0 1 0))):=by kernel_rfl
theorem mY (g0:Bool) (n1:Nat) (c2:List D) (i3:Int) (i4:Int) (i5:Int) (i6:Int):bL pr cv J 340 Tryz.f340 [.undef,.undef] 0 (nQ g0 n1 c2 i3 i4 i5 i6)=
 let y1:Int:=(pr.wrap .i64 (pr.aO c2 (pr.idx 0 (pr.ar .add .i64 i3 i6) 1)))
 let y2:Int:=(pr.ar .add .i64 i4 (pr.ar .mul .i64 (pr.ar .rem .i64 y1 128) i5))
 let y3:Option (D × List D):=(some ((.aM [(.int .i64 0),(.int .i64 0),(.bool false)]),[.undef,.undef]))
 let y4:D:=(.int .i64 y2)
 let y5:Option (D × List D):=(some ((.aM [y4,(.int .i64 (pr.ar .add .i64 (pr.ar .add .i64 i3 i6) 1)),(.bool true)]),[.undef,.undef]))
 (br (pr.lt i6 5) (br (pr.lt i3 (pr.ar .sub .i64 (pr.aV n1) i6)) (br (pr.bm (pr.ar .add .i64 i3 i6) n1) (br (br (pr.bR .u8 c2 (pr.idx 0 (pr.ar .add .i64 i3 i6) 1)) true false) (br (br (pr.eq 128 0) false true) (br (pr.le 128 y1) (J 0 (nQ g0 n1 c2 i3 y2 (pr.ar .mul .i64 i5 128) (pr.ar .add .i64 i6 1))) (br (pr.lt 2147483647 y2) y3 (br (pr.eq y1 0) (br (pr.lt 0 i6) y3 y5) y5))) none) none) none) y3) y3):=by kernel_rfl
theorem Q0:Told cfg Tryz.prog 283 Tryz.f283:=⟨by kernel_rfl,Tryz.func283,by kernel_rfl⟩
theorem Q1 (a0:Int):aW pr cv J 283 Tryz.f283 [(.int .i64 a0)]=
 (br (br (pr.lt 8 0) false true) (br (br (pr.lt 16 0) false true) (br (br (pr.lt 24 0) false true) (some ((.sl none 1 4 [(.int .u8 (pr.wrap .u8 (pr.ar .and .i64 a0 255))),(.int .u8 (pr.wrap .u8 (pr.ar .and .i64 (pr.ar .shr .i64 a0 8) 255))),(.int .u8 (pr.wrap .u8 (pr.ar .and .i64 (pr.ar .shr .i64 a0 16) 255))),(.int .u8 (pr.wrap .u8 (pr.ar .and .i64 (pr.ar .shr .i64 a0 24) 255)))]),[.undef])) none) none) none):=by kernel_rfl
end
theorem Xf {a b:Nat} (h:a < 9223372036854775808):ad.ar .quo .i64 (a:Int) (b:Int)=((a / b:Nat):Int):=by
 have e:(a:Int).tdiv (b:Int)=((a / b:Nat):Int):=rfl;have:=Nat.div_le_self a b;show IntKind.i64.wrap ((a:Int).tdiv (b:Int))=_;rw [e];generalize a / b=q at this;rw [wrap64 (by omega) (by omega)]
theorem ug {a b:Nat} (h:a+b < 9223372036854775808):ad.ar .add .i64 (a:Int) (b:Int)=((a+b:Nat):Int):=by
 rw [Uo (by omega) (by omega)]
 omega
theorem Q2 {a b:Nat} (h:a*b < 9223372036854775808):ad.ar .mul .i64 (a:Int) (b:Int)=((a*b:Nat):Int):=by
 have e:(a:Int)*(b:Int)=((a*b:Nat):Int):=by simp
 show IntKind.i64.wrap ((a:Int)*(b:Int))=_;rw [e,wrap64 (by omega) (by omega)]
theorem L7 {a:Nat} (h:a < 9223372036854775808):ad.wrap .i64 (a:Int)=(a:Int):=wrap64 (by omega) (by omega)
theorem Ow {a b:Nat} (ha:a < 4611686018427387904) (hb:b < 4611686018427387904):ad.ar .or .i64 (a:Int) (b:Int)=((a||| b:Nat):Int):=by
 show IntKind.i64.wrap ((BitVec.ofInt 64 (a:Int)||| BitVec.ofInt 64 (b:Int)).toNat:Int)=_;have h:(a||| b) < 2 ^ 62:=Nat.or_lt_two_pow (by omega) (by omega)
 have e:(BitVec.ofInt 64 (a:Int)||| BitVec.ofInt 64 (b:Int)).toNat=a||| b:=by
  rw [BitVec.toNat_or,ae2,ae2,afK,afK,aew (by omega),aew (by omega)]
 rw [e,wrap64 (by omega) (by omega)]
theorem afL {a b:Nat} (ha:a < 4611686018427387904) (hb:b < 4611686018427387904):ad.ar .and .i64 (a:Int) (b:Int)=((a&&& b:Nat):Int):=by
 show IntKind.i64.wrap ((BitVec.ofInt 64 (a:Int)&&& BitVec.ofInt 64 (b:Int)).toNat:Int)=_;have h:(a&&& b)<=b:=Nat.and_le_right;have e:(BitVec.ofInt 64 (a:Int)&&& BitVec.ofInt 64 (b:Int)).toNat=a&&& b:=by
  rw [BitVec.toNat_and,ae2,ae2,afK,afK,aew (by omega),aew (by omega)]
 rw [e,wrap64 (by omega) (by omega)]
theorem wI {a k:Nat} (hk:k<=64) (h:a*2 ^ k < 9223372036854775808):ad.ar .shl .i64 (a:Int) (k:Int)=((a*2 ^ k:Nat):Int):=by
 show IntKind.i64.wrap ((a:Int)*2 ^ (min ((k:Int).toNat) 64))=_;have e:min ((k:Int).toNat) 64=k:=by omega
 have e2:(a:Int)*2 ^ k=((a*2 ^ k:Nat):Int):=by simp
 rw [e,e2,wrap64 (by omega) (by omega)]
theorem zo (a:Nat) {k:Nat} (hk:k<=64):ad.ar .shr .i64 (a:Int) (k:Int)=((a / 2 ^ k:Nat):Int):=by
 show (a:Int).fdiv (2 ^ (min ((k:Int).toNat) 64))=_;have e:min ((k:Int).toNat) 64=k:=by omega
 have e2:((2:Int) ^ k)=((2 ^ k:Nat):Int):=by simp
 rw [e,e2,<- Int.ofNat_fdiv]
theorem Ix {a x k:Nat} (h:a < 2 ^ k):a||| x*2 ^ k=a+x*2 ^ k:=by
 rw [Nat.or_comm,Nat.mul_comm x,<- Nat.two_pow_add_eq_or_of_lt h,Nat.add_comm]
theorem te (x:Nat):D.int .u8 (ad.wrap .u8 (x:Int))=dP (UInt8.ofNat x):=by
 show D.int .u8 (IntKind.u8.wrap (x:Int))=_;simp only [dP,IntKind.wrap,IntKind.bits,IntKind.signed];simp
theorem jv {R:Type} {x y:R} (xs:List UInt8):br (ad.flat (bytes xs)) x y=x:=by
 have:ad.flat (bytes xs)=true:=by
  show (bytes xs).all eD=true;rw [aac];intro d hd;obtain ⟨a,_,rfl⟩:=aam.1 hd;rfl
 rw [this,aK]
theorem Iy (x:UInt8):[dP x]=bytes [x]:=rfl
theorem gM (xs ys:List UInt8):List.append (bytes xs) (bytes ys)=bytes (xs++ys):=by simp [bytes]
def hZ (n:Nat):List UInt8:=if h:n < 128 then [UInt8.ofNat n] else UInt8.ofNat (n % 128+128)::hZ (n / 128)
termination_by n
decreasing_by omega
theorem tw:∀ (k n:Nat),n < 128 ^ (k+1)->(hZ n).length<=k+1
 | 0,n,h=>by
  rw [hZ,dif_pos (by omega)]
  simp
 | k+1,n,h=>by
  rw [hZ];split
  ·simp
  ·have:n / 128 < 128 ^ (k+1):=by
    apply Nat.div_lt_of_lt_mul;rw [afN] at h;omega
   have:=tw k (n / 128) this;simp only [aa7];omega
def dB (a:Int):List UInt8:=if 0<=a/\a<=2147483647 then hZ a.toNat else []
theorem fM (a:Int):(dB a).length<=5:=by
 unfold dB;split
 ·exact tw 4 _ (by omega)
 ·simp
theorem AZ:∀ (k n:Nat) (acc:List UInt8),n < 128 ^ (k+1)->n < 2147483648->acc.length+(hZ n).length < 1000000->WP 314 Tryz.f314 [.undef] 0 (ly (n:Int) acc.length (bytes acc)) (.sl none 1 (acc++hZ n).length (bytes (acc++hZ n)),[.undef])
 | k,n,acc,hk,hn,hl=>by
  by_cases h:n < 128
  ·refine WP.fin fun J=>?_;rw [wG,hZ,dif_pos h];rw [hZ,dif_pos h] at hl;simp only [abg] at hl;simp (disch:=omega) only [bG,te,Iy,jv,ek,aK,gM,bo,DH];simp
  ·cases k with
   | zero=>omega
   | succ k=>
    have e:acc++hZ n=(acc++[UInt8.ofNat (n % 128+128)])++hZ (n / 128):=by
     conv=>lhs; rw [hZ,dif_neg h]
     simp
    have hlen:(hZ n).length=(hZ (n / 128)).length+1:=by
     conv=>lhs; rw [hZ,dif_neg h]
     simp
    have hd:n / 128 < 128 ^ (k+1):=by
     apply Nat.div_lt_of_lt_mul;rw [afN] at hk;omega
    have ih:=AZ k (n / 128) (acc++[UInt8.ofNat (n % 128+128)]) hd (by omega) (by simp only [aad,abg]; omega)
    rw [e];refine WP.go _ ih fun J hJ=>?_;rw [wG];have r1:ad.ar .rem .i64 (n:Int) 128=((n % 128:Nat):Int):=rfl;have r2:ad.ar .add .i64 ((n % 128:Nat):Int) 128=((n % 128+128:Nat):Int):=ug (b:=128) (by omega)
    have r3:ad.ar .quo .i64 (n:Int) 128=((n / 128:Nat):Int):=Xf (b:=128) (by omega)
    simp (disch:=omega) only [bc,eA,bQ,cb,aK,bg,r1,r2,r3,te,Iy,jv,ek,gM];have e2:(acc++[UInt8.ofNat (n % 128+128)]).length=acc.length+1:=by simp
    rw [e2] at hJ;exact hJ
theorem Nu (a:Int):Cm 314 [.int .i64 a] (.sl none 1 (dB a).length (bytes (dB a)),[.undef]):=by
 by_cases h:0<=a/\a<=2147483647
 ·obtain ⟨n,rfl⟩:∃ n:Nat,a=n:=⟨a.toNat,by omega⟩
  have e:dB (n:Int)=hZ n:=by unfold dB; rw [if_pos h]; rfl
  rw [e];have hl:=tw 4 n (by omega)
  refine Cm.go AR [.undef] 0 (ly (n:Int) 0 []) (AZ 4 n [] (by omega) (by omega) (by simp; omega)) fun J hJ=>?_
  rw [AS];simp only [jz,aE,ao,decide_eq_true h,bQ,cb,aK,bg];exact hJ
 ·have e:dB a=[]:=by unfold dB; rw [if_neg h]
  rw [e];refine Cm.fin AR fun J=>?_;rw [AS];simp only [jz,aE,ao,decide_eq_false h,bQ,cb,aK,bg];rfl
theorem A3:∀ (k n:Nat) (acc:List UInt8),n < 128 ^ (k+1)->n < 2147483648->acc.length+(hZ n).length < 1000000->WP 341 Tryz.f341 [.undef] 0 (lz (n:Int) acc.length (bytes acc)) (.sl none 1 (acc++hZ n).length (bytes (acc++hZ n)),[.undef])
 | k,n,acc,hk,hn,hl=>by
  by_cases h:n < 128
  ·refine WP.fin fun J=>?_;rw [wH,hZ,dif_pos h];rw [hZ,dif_pos h] at hl;simp only [abg] at hl;simp (disch:=omega) only [bG,te,Iy,jv,ek,aK,gM,bo,DH];simp
  ·cases k with
   | zero=>omega
   | succ k=>
    have e:acc++hZ n=(acc++[UInt8.ofNat (n % 128+128)])++hZ (n / 128):=by
     conv=>lhs; rw [hZ,dif_neg h]
     simp
    have hlen:(hZ n).length=(hZ (n / 128)).length+1:=by
     conv=>lhs; rw [hZ,dif_neg h]
     simp
    have hd:n / 128 < 128 ^ (k+1):=by
     apply Nat.div_lt_of_lt_mul;rw [afN] at hk;omega
    have ih:=A3 k (n / 128) (acc++[UInt8.ofNat (n % 128+128)]) hd (by omega) (by simp only [aad,abg]; omega)
    rw [e];refine WP.go _ ih fun J hJ=>?_;rw [wH];have r1:ad.ar .rem .i64 (n:Int) 128=((n % 128:Nat):Int):=rfl;have r2:ad.ar .add .i64 ((n % 128:Nat):Int) 128=((n % 128+128:Nat):Int):=ug (b:=128) (by omega)
    have r3:ad.ar .quo .i64 (n:Int) 128=((n / 128:Nat):Int):=Xf (b:=128) (by omega)
    simp (disch:=omega) only [bc,eA,bQ,cb,aK,bg,r1,r2,r3,te,Iy,jv,ek,gM];have e2:(acc++[UInt8.ofNat (n % 128+128)]).length=acc.length+1:=by simp
    rw [e2] at hJ;exact hJ
theorem Nv (a:Int):Cm 341 [.int .i64 a] (.sl none 1 (dB a).length (bytes (dB a)),[.undef]):=by
 by_cases h:0<=a/\a<=2147483647
 ·obtain ⟨n,rfl⟩:∃ n:Nat,a=n:=⟨a.toNat,by omega⟩
  have e:dB (n:Int)=hZ n:=by unfold dB; rw [if_pos h]; rfl
  rw [e];have hl:=tw 4 n (by omega)
  refine Cm.go AT [.undef] 0 (lz (n:Int) 0 []) (A3 4 n [] (by omega) (by omega) (by simp; omega)) fun J hJ=>?_
  rw [AU];simp (disch:=omega) only [bG];exact hJ
 ·have e:dB a=[]:=by unfold dB; rw [if_neg h]
  rw [e];refine Cm.fin AT fun J=>?_;rw [AU];by_cases h0:a < 0
  ·simp (disch:=omega) only [bc];rfl
  ·simp (disch:=omega) only [bG,bc];rfl
section
variable (t:bO Rz)
theorem np (a:Int):aX 314 [.int .i64 a] t=feed t [.sl none 1 (dB a).length (bytes (dB a))]:=bh (Nu a) (by kernel_rfl) t
theorem Nw (a:Int):aX 341 [.int .i64 a] t=feed t [.sl none 1 (dB a).length (bytes (dB a))]:=bh (Nv a) (by kernel_rfl) t
end
def rR (a:Nat):List UInt8:=[UInt8.ofNat a,UInt8.ofNat (a / 256),UInt8.ofNat (a / 65536),UInt8.ofNat (a / 16777216)]
theorem afM (a:Nat) (h:a < 4611686018427387904):Cm 317 [.int .i64 (a:Int)] (.sl none 1 4 (bytes (rR a)),[.undef]):=by
 refine Cm.fin RU fun J=>?_;rw [RV];have r1:ad.ar .shr .i64 (a:Int) 8=((a / 256:Nat):Int):=zo a (k:=8) (by omega)
 have r2:ad.ar .shr .i64 (a:Int) 16=((a / 65536:Nat):Int):=zo a (k:=16) (by omega)
 have r3:ad.ar .shr .i64 (a:Int) 24=((a / 16777216:Nat):Int):=zo a (k:=24) (by omega)
 simp (disch:=omega) only [bG,bQ,cb,aK,bg,r1,r2,r3,te];rfl
theorem acV (x:Nat):UInt8.ofNat (x&&& 255)=UInt8.ofNat x:=by
 apply UInt8.toNat_inj.1;have:x&&& 255=x % 256:=Nat.and_two_pow_sub_one_eq_mod x 8;rw [this];simp
theorem acW (a:Nat) (h:a < 4611686018427387904):Cm 283 [.int .i64 (a:Int)] (.sl none 1 4 (bytes (rR a)),[.undef]):=by
 refine Cm.fin Q0 fun J=>?_;rw [Q1];have r1:ad.ar .shr .i64 (a:Int) 8=((a / 256:Nat):Int):=zo a (k:=8) (by omega)
 have r2:ad.ar .shr .i64 (a:Int) 16=((a / 65536:Nat):Int):=zo a (k:=16) (by omega)
 have r3:ad.ar .shr .i64 (a:Int) 24=((a / 16777216:Nat):Int):=zo a (k:=24) (by omega)
 have q:∀ x:Nat,x < 4611686018427387904->ad.ar .and .i64 (x:Int) 255=((x&&& 255:Nat):Int):=fun x hx=>afL (b:=255) hx (by omega)
 simp (disch:=omega) only [bG,bQ,cb,aK,bg,r1,r2,r3,q,te,acV];rfl
def mf:Int × Int × Bool:=(0,0,false)
def iZ (b:List UInt8) (p:Nat):Nat->Nat->Nat->Int × Int × Bool
 | 0,_,_=>mf
 | k+1,i,acc=>
  if h:p+i < b.length then
   if 128<=b[p+i].toNat then iZ b p k (i+1) (acc+b[p+i].toNat % 128*128 ^ i)
   else if 2147483647 < acc+b[p+i].toNat % 128*128 ^ i∨(b[p+i].toNat=0/\0 < i) then mf
   else (((acc+b[p+i].toNat % 128*128 ^ i:Nat):Int),((p+i+1:Nat):Int),true)
  else mf
def iA (b:List UInt8) (a:Int):Int × Int × Bool:=if a < 0 then mf else iZ b a.toNat 5 0 0
abbrev Ox (x:Int × Int × Bool):Rz:=(.aM [.int .i64 x.1,.int .i64 x.2.1,.bool x.2.2],[.undef,.undef])
theorem Iz (i:Nat):128 ^ i=2 ^ (7*i):=by rw [Nat.pow_mul]
theorem A4 (g:Bool) (b:List UInt8) (p:Nat) (hb:b.length < 4611686018427387904):∀ (k i acc:Nat),i+k=5->acc < 128 ^ i->WP 340 Tryz.f340 [.undef,.undef] 0 (nQ g b.length (bytes b) (p:Int) (acc:Int) ((128 ^ i:Nat):Int) (i:Int)) (Ox (iZ b p k i acc))
 | 0,i,acc,hi,ha=>by
  obtain rfl:i=5:=by omega
  refine WP.fin fun J=>?_;rw [mY];simp (disch:=omega) only [bG];rfl
 | k+1,i,acc,hi,ha=>by
  have hpw:128 ^ i<=268435456:=by
   have:128 ^ i<=128 ^ 4:=Nat.pow_le_pow_right (by omega) (by omega)
   omega
  have hs:ad.ar .sub .i64 (ad.aV b.length) (i:Int)=(b.length:Int) - (i:Int):=eX (by simp only [aC]; omega) (by simp only [aC]; omega)
  by_cases h:p+i < b.length
  ·have hd:b[p+i].toNat < 256:=b[p+i].toNat_lt;have hm:b[p+i].toNat % 128 < 128:=Nat.mod_lt _ (by omega)
   have hx:b[p+i].toNat % 128*128 ^ i<=127*128 ^ i:=aaQ _ (by omega)
   have r0:ad.ar .add .i64 (p:Int) (i:Int)=((p+i:Nat):Int):=ug (by omega)
   have r1:ad.aO (bytes b) (p+i)=(b[p+i].toNat:Int):=yM h;have r2:ad.wrap .i64 (b[p+i].toNat:Int)=(b[p+i].toNat:Int):=L7 (by omega)
   have r3:ad.ar .rem .i64 (b[p+i].toNat:Int) 128=((b[p+i].toNat % 128:Nat):Int):=rfl;have r4:ad.ar .mul .i64 ((b[p+i].toNat % 128:Nat):Int) ((128 ^ i:Nat):Int)=((b[p+i].toNat % 128*128 ^ i:Nat):Int):=Q2 (by omega)
   have r5:ad.ar .add .i64 (acc:Int) ((b[p+i].toNat % 128*128 ^ i:Nat):Int)=((acc+b[p+i].toNat % 128*128 ^ i:Nat):Int):=ug (by omega)
   by_cases hc:128<=b[p+i].toNat
   ·have e:iZ b p (k+1) i acc=iZ b p k (i+1) (acc+b[p+i].toNat % 128*128 ^ i):=by
     rw [iZ,dif_pos h,if_pos hc]
    rw [e];have ih:=A4 g b p hb k (i+1) (acc+b[p+i].toNat % 128*128 ^ i) (by omega) (by rw [afN]; omega)
    refine WP.go _ ih fun J hJ=>?_;rw [mY];have r6:ad.ar .mul .i64 ((128 ^ i:Nat):Int) 128=((128 ^ i*128:Nat):Int):=Q2 (b:=128) (by omega)
    simp (disch:=first | omega | assumption) only [hs,r0,cV,r1,r2,r3,r4,r5,bc,bF,nv,eA,bo,bQ,cb,aK,bg,xJ,r6,dp]
    rw [<- afN];exact hJ
   ·have r7:ad.ar .add .i64 ((p+i:Nat):Int) 1=((p+i+1:Nat):Int):=dp (by omega)
    refine WP.fin fun J=>?_;rw [mY,iZ,dif_pos h,if_neg hc];simp (disch:=first | omega | assumption) only [hs,r0,cV,r1,r2,r3,r4,r5,bc,bF,nv,eA,bo,bQ,cb,aK,bg,nj,r7]
    by_cases h1:2147483647 < acc+b[p+i].toNat % 128*128 ^ i
    ·rw [if_pos (Or.inl h1),bc (by omega)]
     rfl
    ·rw [bG (by omega)]
     by_cases h2:b[p+i].toNat=0
     ·rw [gA (by omega)]
      by_cases h3:0 < i
      ·rw [if_pos (Or.inr ⟨h2,h3⟩),bc (by omega)]
       rfl
      ·rw [if_neg (by omega),bG (by omega)]
     ·rw [if_neg (by omega),eA (by omega)]
  ·refine WP.fin fun J=>?_;rw [mY,iZ,dif_neg h];simp (disch:=omega) only [hs,bc,bG];rfl
theorem A5 (g:Bool) (b:List UInt8) (p:Nat) (hb:b.length < 4611686018427387904):∀ (k i acc:Nat),i+k=5->acc < 128 ^ i->WP 329 Tryz.f329 [.undef,.undef] 0 (lA g b.length (bytes b) (p:Int) (acc:Int) (i:Int)) (Ox (iZ b p k i acc))
 | 0,i,acc,hi,ha=>by
  obtain rfl:i=5:=by omega
  refine WP.fin fun J=>?_;rw [kj];simp (disch:=omega) only [bG];rfl
 | k+1,i,acc,hi,ha=>by
  have hpw:128 ^ i<=268435456:=by
   have:128 ^ i<=128 ^ 4:=Nat.pow_le_pow_right (by omega) (by omega)
   omega
  have hs:ad.ar .sub .i64 (ad.aV b.length) (i:Int)=(b.length:Int) - (i:Int):=eX (by simp only [aC]; omega) (by simp only [aC]; omega)
  by_cases h:p+i < b.length
  ·have hd:b[p+i].toNat < 256:=b[p+i].toNat_lt;have hm:b[p+i].toNat % 128 < 128:=Nat.mod_lt _ (by omega)
   have hx:b[p+i].toNat % 128*128 ^ i<=127*128 ^ i:=aaQ _ (by omega)
   have r0:ad.ar .add .i64 (p:Int) (i:Int)=((p+i:Nat):Int):=ug (by omega)
   have r1:ad.aO (bytes b) (p+i)=(b[p+i].toNat:Int):=yM h;have r2:ad.wrap .i64 (b[p+i].toNat:Int)=(b[p+i].toNat:Int):=L7 (by omega)
   have r3:ad.ar .rem .i64 (b[p+i].toNat:Int) 128=((b[p+i].toNat % 128:Nat):Int):=rfl;have r4:ad.ar .mul .i64 7 (i:Int)=((7*i:Nat):Int):=Q2 (a:=7) (by omega)
   have r5:ad.ar .shl .i64 ((b[p+i].toNat % 128:Nat):Int) ((7*i:Nat):Int)=((b[p+i].toNat % 128*128 ^ i:Nat):Int):=by
    rw [Iz];exact wI (by omega) (by rw [<- Iz]; omega)
   have r6:ad.ar .or .i64 (acc:Int) ((b[p+i].toNat % 128*128 ^ i:Nat):Int)=((acc+b[p+i].toNat % 128*128 ^ i:Nat):Int):=by
    rw [Ow (by omega) (by omega),Iz,Ix (by rw [<- Iz]; exact ha)]
   by_cases hc:128<=b[p+i].toNat
   ·have e:iZ b p (k+1) i acc=iZ b p k (i+1) (acc+b[p+i].toNat % 128*128 ^ i):=by
     rw [iZ,dif_pos h,if_pos hc]
    rw [e];have ih:=A5 g b p hb k (i+1) (acc+b[p+i].toNat % 128*128 ^ i) (by omega) (by rw [afN]; omega)
    refine WP.go _ ih fun J hJ=>?_;rw [kj];simp (disch:=first | omega | assumption) only [hs,r0,cV,r1,r2,r3,r4,r5,r6,bc,bG,nj,bF,nv,eA,bo,bQ,cb,aK,bg,dp]
    exact hJ
   ·have r7:ad.ar .add .i64 ((p+i:Nat):Int) 1=((p+i+1:Nat):Int):=dp (by omega)
    refine WP.fin fun J=>?_;rw [kj,iZ,dif_pos h,if_neg hc];have AF:(b[p+i].toNat:Int) < 128:=by omega
    by_cases h1:2147483647 < acc+b[p+i].toNat % 128*128 ^ i
    ·have pJ:(2147483647:Int) < ((acc+b[p+i].toNat % 128*128 ^ i:Nat):Int):=by omega
     rw [if_pos (Or.inl h1)];simp (disch:=first | omega | assumption) only [hs,r0,cV,r1,r2,r3,r4,r5,r6,bc AF,bc pJ,bG,nj,bF,nv,eA,bo,bQ,cb,aK,bg,r7,DH]
     rfl
    ·have pJ:((acc+b[p+i].toNat % 128*128 ^ i:Nat):Int)<=2147483647:=by omega
     have h0:(i:Int) < 5:=by omega
     by_cases h2:b[p+i].toNat=0
     ·have VF:(b[p+i].toNat:Int)=0:=by omega
      by_cases h3:0 < i
      ·have GX:(0:Int) < (i:Int):=by omega
       rw [if_pos (Or.inr ⟨h2,h3⟩)];simp (disch:=first | omega | assumption) only [hs,r0,cV,r1,r2,r3,r4,r5,r6,bc h0,bc AF,bc GX,gA VF,bG,nj,bF,nv,eA,bo,bQ,cb,aK,bg,r7]
       rfl
      ·have GX:(i:Int)<=0:=by omega
       rw [if_neg (by omega)]
       simp (disch:=first | omega | assumption) only [hs,r0,cV,r1,r2,r3,r4,r5,r6,bc h0,bc AF,bG GX,bG pJ,bG,nj,bF,nv,eA,bo,bQ,cb,aK,bg,r7]
     ·have VF:(b[p+i].toNat:Int)≠0:=by omega
      rw [if_neg (by omega)]
      simp (disch:=first | omega | assumption) only [hs,r0,cV,r1,r2,r3,r4,r5,r6,bc h0,bc AF,eA VF,bG pJ,bG,nj,bF,nv,eA,bo,bQ,cb,aK,bg,r7,DH]
  ·refine WP.fin fun J=>?_;rw [kj,iZ,dif_neg h];simp (disch:=omega) only [hs,bc,bG,xJ];rfl
theorem Nx (g:Bool) (b:List UInt8) (a:Int) (hb:b.length < 4611686018427387904):Cm 340 [.sl (some g) 1 b.length (bytes b),.int .i64 a] (Ox (iA b a)):=by
 unfold iA;by_cases h:a < 0
 ·rw [if_pos h];refine Cm.fin AX fun J=>?_;rw [AY];simp (disch:=omega) only [bc];rfl
 ·rw [if_neg h];obtain ⟨p,rfl⟩:∃ n:Nat,a=n:=⟨a.toNat,by omega⟩
  refine Cm.go AX [.undef,.undef] 0 _ (A4 g b p hb 5 0 0 rfl (by omega)) fun J hJ=>?_
  rw [AY];simp (disch:=omega) only [bG];exact hJ
theorem Ny (g:Bool) (b:List UInt8) (a:Int) (hb:b.length < 4611686018427387904):Cm 329 [.sl (some g) 1 b.length (bytes b),.int .i64 a] (Ox (iA b a)):=by
 unfold iA;by_cases h:a < 0
 ·rw [if_pos h];refine Cm.go AV [.undef,.undef] 0 (lA g b.length (bytes b) a 0 0) (WP.fin fun J=>?_) fun J hJ=>?_
  ·rw [kj];simp (disch:=omega) only [bc];rfl
  ·rw [AW];exact hJ
 ·rw [if_neg h];obtain ⟨p,rfl⟩:∃ n:Nat,a=n:=⟨a.toNat,by omega⟩
  refine Cm.go AV [.undef,.undef] 0 _ (A5 g b p hb 5 0 0 rfl (by omega)) fun J hJ=>?_
  rw [AW];exact hJ
section
variable (t:bO Rz)
theorem Nz (g:Bool) (b:List UInt8) (a:Int) (hb:b.length < 4611686018427387904):aX 340 [.sl (some g) 1 b.length (bytes b),.int .i64 a] t=feed t [.int .i64 (iA b a).1,.int .i64 (iA b a).2.1,.bool (iA b a).2.2]:=bh (Nx g b a hb) (by kernel_rfl) t
theorem NA (g:Bool) (b:List UInt8) (a:Int) (hb:b.length < 4611686018427387904):aX 329 [.sl (some g) 1 b.length (bytes b),.int .i64 a] t=feed t [.int .i64 (iA b a).1,.int .i64 (iA b a).2.1,.bool (iA b a).2.2]:=bh (Ny g b a hb) (by kernel_rfl) t
end
set_option maxRecDepth 100000
section
variable (pr:dC) (cv:Cv Rz) (J:Nat->St->Option Rz)
theorem Q3:Told cfg Tryz.prog 311 Tryz.f311:=⟨by kernel_rfl,Tryz.func311,by kernel_rfl⟩
theorem Q4 (n0:Nat) (c0:List D) (a1:Int) (a2:Bool):aW pr cv J 311 Tryz.f311 [(.aZ [(.sl (some false) 1 n0 c0),(.int .i64 a1),(.bool a2)])]=
 let y1:Option (D × List D):=(some ((.int .i64 0),[(.aZ [(.sl (some false) 1 n0 c0),(.int .i64 a1),(.bool false)])]))
 (cv 329 [(.sl (some false) 1 n0 c0),(.int .i64 a1)] (.int (fun ef=>(.int (fun iD=>(.bool (fun gi=>(.done (br (br gi false true) y1 (br (br a2 false true) y1 (some ((.int .i64 ef),[(.aZ [(.sl (some false) 1 n0 c0),(.int .i64 iD),(.bool a2)])])))))))))))):=by kernel_rfl
theorem DW:Told cfg Tryz.prog 331 Tryz.f331:=⟨by kernel_rfl,Tryz.func331,by kernel_rfl⟩
theorem DX (n0:Nat) (c0:List D) (a1:Int) (a2:Bool):aW pr cv J 331 Tryz.f331 [(.aZ [(.sl (some false) 1 n0 c0),(.int .i64 a1),(.bool a2)])]=
 (br (br a2 false true) (some ((.int .i64 0),[(.aZ [(.sl (some false) 1 n0 c0),(.int .i64 a1),(.bool a2)])])) (cv 340 [(.sl (some false) 1 n0 c0),(.int .i64 a1)] (.int (fun ef=>(.int (fun iD=>(.bool (fun gi=>(.done (some ((.int .i64 ef),[(.aZ [(.sl (some false) 1 n0 c0),(.int .i64 iD),(.bool gi)])]))))))))))):=by kernel_rfl
def nR (i0:Int) (i1:Int) (n2:Nat) (c3:List D) (i4:Int) (b5:Bool) (n6:Nat) (c7:List D):St:=(St.mk [(0,(.ptr 28 [] 0)),(3,(.ref 10003 [] 0 none)),(4,(.int .i64 i0)),(5,(.int .i64 i1))] [(28,[(.sl (some false) 1 n2 c3),(.int .i64 i4),(.bool b5)]),(10003,[(.sl none 1 n6 c7)])] [] 0)
theorem NB:Told cfg Tryz.prog 310 Tryz.f310:=⟨by kernel_rfl,Tryz.func310,by kernel_rfl⟩
theorem NC (n0:Nat) (c0:List D) (a1:Int) (a2:Bool):aW pr cv J 310 Tryz.f310 [(.aZ [(.sl (some false) 1 n0 c0),(.int .i64 a1),(.bool a2)])]=
 (br (br (br (pr.nl c0) true false) true false) (cv 311 [(.aZ [(.sl (some false) 1 n0 c0),(.int .i64 a1),(.bool a2)])] (.int (fun ef=>(.dc (fun eQ=>(fun pg=>(fun ji=>(.int (fun qM=>(.bool (fun wm=>(.done (br (br (br (pr.nl ji) true false) true false) (J 0 (nR ef 0 pg ji qM wm 0 [])) none))))))))))))) none):=by kernel_rfl
theorem qt (i0:Int) (i1:Int) (n2:Nat) (c3:List D) (i4:Int) (b5:Bool) (n6:Nat) (c7:List D):bL pr cv J 310 Tryz.f310 [(.aZ [])] 0 (nR i0 i1 n2 c3 i4 b5 n6 c7)=
 let y1:List D:=[(.aZ [(.sl (some false) 1 n2 c3),(.int .i64 i4),(.bool b5)])]
 let y2:Option (D × List D):=(some ((.sl none 1 n6 c7),y1))
 (br (pr.lt i1 i0) (br b5 (br (br (br (pr.nl c3) true false) true false) (cv 311 y1 (.int (fun ef=>(.dc (fun eQ=>(fun pg=>(fun ji=>(.int (fun qM=>(.bool (fun wm=>(.done (br (br (br (pr.nl ji) true false) true false) (br (br (pr.flat [(.int .i64 ef)]) (pr.fits (n6+1) 8) false) (J 0 (nR i0 (pr.ar .add .i64 i1 1) pg ji qM wm (n6+1) (List.append c7 [(.int .i64 ef)]))) none) none))))))))))))) none) y2) y2):=by kernel_rfl
def jK (i0:Int) (i1:Int) (n2:Nat) (c3:List D) (i4:Int) (b5:Bool) (n6:Nat) (c7:List D):St:=(St.mk [(0,(.ptr 28 [] 0)),(3,(.ref 10003 [] 0 none)),(4,(.int .i64 i0)),(5,(.int .i64 i1))] [(28,[(.sl (some false) 1 n2 c3),(.int .i64 i4),(.bool b5)]),(10003,[(.sl none 1 n6 c7)])] [] 0)
theorem CR:Told cfg Tryz.prog 330 Tryz.f330:=⟨by kernel_rfl,Tryz.func330,by kernel_rfl⟩
theorem CS (n0:Nat) (c0:List D) (a1:Int) (a2:Bool):aW pr cv J 330 Tryz.f330 [(.aZ [(.sl (some false) 1 n0 c0),(.int .i64 a1),(.bool a2)])]=
 (br (br (br (pr.nl c0) true false) true false) (cv 331 [(.aZ [(.sl (some false) 1 n0 c0),(.int .i64 a1),(.bool a2)])] (.int (fun ef=>(.dc (fun eQ=>(fun pg=>(fun ji=>(.int (fun qM=>(.bool (fun wm=>(.done (br (br (br (pr.nl ji) true false) true false) (J 0 (jK ef 0 pg ji qM wm 0 [])) none))))))))))))) none):=by kernel_rfl
theorem mA (i0:Int) (i1:Int) (n2:Nat) (c3:List D) (i4:Int) (b5:Bool) (n6:Nat) (c7:List D):bL pr cv J 330 Tryz.f330 [(.aZ [])] 0 (jK i0 i1 n2 c3 i4 b5 n6 c7)=
 let y1:List D:=[(.aZ [(.sl (some false) 1 n2 c3),(.int .i64 i4),(.bool b5)])]
 let y2:Option (D × List D):=(some ((.sl none 1 n6 c7),y1))
 (br (pr.lt i1 i0) (br b5 (br (br (br (pr.nl c3) true false) true false) (cv 331 y1 (.int (fun ef=>(.dc (fun eQ=>(fun pg=>(fun ji=>(.int (fun qM=>(.bool (fun wm=>(.done (br (br (br (pr.nl ji) true false) true false) (br (br (pr.flat [(.int .i64 ef)]) (pr.fits (n6+1) 8) false) (J 0 (jK i0 (pr.ar .add .i64 i1 1) pg ji qM wm (n6+1) (List.append c7 [(.int .i64 ef)]))) none) none))))))))))))) none) y2) y2):=by kernel_rfl
end
theorem ia {R:Type} (f:Bool->Nat->List D->bO R) (g:Bool) (s n:Nat) (cs l:List D):feed (.dc f) (.sl (some g) s n cs::l)=feed (f g n cs) l:=rfl
theorem IA (b:List UInt8) (p:Nat):∀ k i acc,0<=(iZ b p k i acc).1/\(iZ b p k i acc).1<=2147483647
 | 0,_,_=>by simp [iZ,mf]
 | k+1,i,acc=>by
  rw [iZ];split
  ·split
   ·exact IA b p k _ _
   ·split
    ·simp [mf]
    ·simp only;omega
  ·simp [mf]
theorem IB (b:List UInt8) (a:Int):0<=(iA b a).1/\(iA b a).1<=2147483647:=by
 unfold iA;split
 ·simp [mf]
 ·exact IA b _ _ _ _
theorem L8 (b:List UInt8) (p:Nat):∀ k i acc,(iZ b p k i acc).2.2=true->(p:Int) < (iZ b p k i acc).2.1/\(iZ b p k i acc).2.1<=b.length
 | 0,_,_,h=>by simp [iZ,mf] at h
 | k+1,i,acc,h=>by
  rw [iZ] at h ⊢;split at h
  ·rename_i h1;rw [dif_pos h1];split at h
   ·rename_i h2;rw [if_pos h2];exact L8 b p k _ _ h
   ·rename_i h2;rw [if_neg h2];split at h
    ·simp [mf] at h
    ·rename_i h3;rw [if_neg h3];simp only;omega
  ·simp [mf] at h
theorem L9 (b:List UInt8) (a:Int) (h:(iA b a).2.2=true):0<=a/\a < (iA b a).2.1/\(iA b a).2.1<=b.length:=by
 unfold iA at h ⊢;split at h
 ·simp [mf] at h
 ·rename_i h1;rw [if_neg h1];have:=L8 b a.toNat _ _ _ h;omega
abbrev yj (b:List UInt8) (c:Int × Bool):D:=.aZ [s8 (some false) b,.int .i64 c.1,.bool c.2]
def bP (b:List UInt8) (c:Int × Bool):Int × (Int × Bool):=if (iA b c.1).2.2&&c.2 then ((iA b c.1).1,((iA b c.1).2.1,true)) else (0,(c.1,false))
def bT (b:List UInt8) (c:Int × Bool):Int × (Int × Bool):=if c.2 then ((iA b c.1).1,((iA b c.1).2.1,(iA b c.1).2.2)) else (0,c)
theorem UB (b:List UInt8) (c:Int × Bool):0<=(bP b c).1/\(bP b c).1<=2147483647:=by
 have:=IB b c.1;unfold bP;split<;>simp [this]
theorem UC (b:List UInt8) (c:Int × Bool):0<=(bT b c).1/\(bT b c).1<=2147483647:=by
 have:=IB b c.1;unfold bT;split<;>simp [this]
theorem UD (b:List UInt8) (c:Int × Bool) (hb:b.length < 4611686018427387904):Cm 311 [yj b c] (.int .i64 (bP b c).1,[yj b (bP b c).2]):=by
 obtain ⟨p,k⟩:=c;refine Cm.fin Q3 fun J=>?_;rw [Q4];simp (disch:=assumption) only [NA,cn,aE,ao];unfold bP;cases (iA b p).2.2<;>cases k<;>rfl
theorem UE (b:List UInt8) (c:Int × Bool) (hb:b.length < 4611686018427387904):Cm 331 [yj b c] (.int .i64 (bT b c).1,[yj b (bT b c).2]):=by
 obtain ⟨p,k⟩:=c;refine Cm.fin DW fun J=>?_;rw [DX];simp (disch:=assumption) only [Nz,cn,aE,ao];unfold bT;cases k<;>rfl
section
variable (t:bO Rz)
theorem An (b:List UInt8) (p:Int) (k:Bool) (hb:b.length < 4611686018427387904):aX 311 [.aZ [.sl (some false) 1 b.length (bytes b),.int .i64 p,.bool k]] t=feed t [.int .i64 (bP b (p,k)).1,.sl (some false) 1 b.length (bytes b),.int .i64 (bP b (p,k)).2.1,.bool (bP b (p,k)).2.2]:=bh (UD b (p,k) hb) (by kernel_rfl) t
theorem Ao (b:List UInt8) (p:Int) (k:Bool) (hb:b.length < 4611686018427387904):aX 331 [.aZ [.sl (some false) 1 b.length (bytes b),.int .i64 p,.bool k]] t=feed t [.int .i64 (bT b (p,k)).1,.sl (some false) 1 b.length (bytes b),.int .i64 (bT b (p,k)).2.1,.bool (bT b (p,k)).2.2]:=bh (UE b (p,k) hb) (by kernel_rfl) t
end
def oL (num:List UInt8->Int × Bool->Int × (Int × Bool)) (b:List UInt8):Nat->Int × Bool->List Int->List Int × (Int × Bool)
 | 0,c,out=>(out,c)
 | k+1,c,out=>if c.2 then oL num b k (num b c).2 (out++[(num b c).1]) else (out,c)
def bp (num:List UInt8->Int × Bool->Int × (Int × Bool)) (b:List UInt8) (c:Int × Bool):List Int × (Int × Bool):=oL num b (num b c).1.toNat (num b c).2 []
theorem Xg {R:Type} {x y:R} (a:Int):br (ad.flat [.int .i64 a]) x y=x:=rfl
theorem Ma (xs:List Int) (a:Int):List.append (ints xs) [.int .i64 a]=ints (xs++[a]):=by simp [ints]
theorem E3 (b:List UInt8) (hb:b.length < 4611686018427387904) (n:Nat) (hn:n<=2147483647):∀ (k i:Nat) (c:Int × Bool) (out:List Int),i+k=n->out.length<=i->WP 310 Tryz.f310 [.aZ []] 0 (nR (n:Int) (i:Int) b.length (bytes b) c.1 c.2 out.length (ints out)) (.sl none 1 (oL bP b k c out).1.length (ints (oL bP b k c out).1),[yj b (oL bP b k c out).2])
 | 0,i,c,out,hi,ho=>by
  refine WP.fin fun J=>?_;rw [qt];simp (disch:=omega) only [bG];rfl
 | k+1,i,c,out,hi,ho=>by
  obtain ⟨p,q⟩:=c;cases q with
  | false=>
   refine WP.fin fun J=>?_;rw [qt];simp (disch:=omega) only [bc,bg];rfl
  | true=>
   have e:oL bP b (k+1) (p,true) out=oL bP b k (bP b (p,true)).2 (out++[(bP b (p,true)).1]):=by rw [oL,if_pos rfl]
   rw [e];have ih:=E3 b hb n hn k (i+1) (bP b (p,true)).2 (out++[(bP b (p,true)).1]) (by omega) (by simp only [aad,abg]; omega)
   refine WP.go _ ih fun J hJ=>?_;rw [qt];simp (disch:=first | omega | assumption) only [bc,aK,eN,bo,An,cn,ia,aE,ao,Xg,ek,Ma,dp]
   have e2:(out++[(bP b (p,true)).1]).length=out.length+1:=by simp
   rw [e2] at hJ;exact hJ
theorem RX (b:List UInt8) (c:Int × Bool) (hb:b.length < 4611686018427387904):Cm 310 [yj b c] (.sl none 1 (bp bP b c).1.length (ints (bp bP b c).1),[yj b (bp bP b c).2]):=by
 obtain ⟨p,q⟩:=c;have hn:=UB b (p,q);have en:(((bP b (p,q)).1.toNat:Nat):Int)=(bP b (p,q)).1:=by omega
 refine Cm.go NB [.aZ []] 0 _ (E3 b hb (bP b (p,q)).1.toNat (by omega) (bP b (p,q)).1.toNat 0 (bP b (p,q)).2 [] (by omega) (by simp)) fun J hJ=>?_
 rw [NC];simp (disch:=first | omega | assumption) only [aK,eN,bo,An,cn,ia,aE,ao]
 rw [en] at hJ;exact hJ
theorem tA (b:List UInt8) (p:Int) (k:Bool) (hb:b.length < 4611686018427387904) (t:bO Rz):aX 310 [.aZ [.sl (some false) 1 b.length (bytes b),.int .i64 p,.bool k]] t=feed t [.sl none 1 (bp bP b (p,k)).1.length (ints (bp bP b (p,k)).1),.sl (some false) 1 b.length (bytes b),.int .i64 (bp bP b (p,k)).2.1,.bool (bp bP b (p,k)).2.2]:=bh (RX b (p,k) hb) (by kernel_rfl) t
theorem E4 (b:List UInt8) (hb:b.length < 4611686018427387904) (n:Nat) (hn:n<=2147483647):∀ (k i:Nat) (c:Int × Bool) (out:List Int),i+k=n->out.length<=i->WP 330 Tryz.f330 [.aZ []] 0 (jK (n:Int) (i:Int) b.length (bytes b) c.1 c.2 out.length (ints out)) (.sl none 1 (oL bT b k c out).1.length (ints (oL bT b k c out).1),[yj b (oL bT b k c out).2])
 | 0,i,c,out,hi,ho=>by
  refine WP.fin fun J=>?_;rw [mA];simp (disch:=omega) only [bG];rfl
 | k+1,i,c,out,hi,ho=>by
  obtain ⟨p,q⟩:=c;cases q with
  | false=>
   refine WP.fin fun J=>?_;rw [mA];simp (disch:=omega) only [bc,bg];rfl
  | true=>
   have e:oL bT b (k+1) (p,true) out=oL bT b k (bT b (p,true)).2 (out++[(bT b (p,true)).1]):=by rw [oL,if_pos rfl]
   rw [e];have ih:=E4 b hb n hn k (i+1) (bT b (p,true)).2 (out++[(bT b (p,true)).1]) (by omega) (by simp only [aad,abg]; omega)
   refine WP.go _ ih fun J hJ=>?_;rw [mA];simp (disch:=first | omega | assumption) only [bc,aK,eN,bo,Ao,cn,ia,aE,ao,Xg,ek,Ma,dp]
   have e2:(out++[(bT b (p,true)).1]).length=out.length+1:=by simp
   rw [e2] at hJ;exact hJ
theorem RY (b:List UInt8) (c:Int × Bool) (hb:b.length < 4611686018427387904):Cm 330 [yj b c] (.sl none 1 (bp bT b c).1.length (ints (bp bT b c).1),[yj b (bp bT b c).2]):=by
 obtain ⟨p,q⟩:=c;have hn:=UC b (p,q);have en:(((bT b (p,q)).1.toNat:Nat):Int)=(bT b (p,q)).1:=by omega
 refine Cm.go CR [.aZ []] 0 _ (E4 b hb (bT b (p,q)).1.toNat (by omega) (bT b (p,q)).1.toNat 0 (bT b (p,q)).2 [] (by omega) (by simp)) fun J hJ=>?_
 rw [CS];simp (disch:=first | omega | assumption) only [aK,eN,bo,Ao,cn,ia,aE,ao]
 rw [en] at hJ;exact hJ
theorem tB (b:List UInt8) (p:Int) (k:Bool) (hb:b.length < 4611686018427387904) (t:bO Rz):aX 330 [.aZ [.sl (some false) 1 b.length (bytes b),.int .i64 p,.bool k]] t=feed t [.sl none 1 (bp bT b (p,k)).1.length (ints (bp bT b (p,k)).1),.sl (some false) 1 b.length (bytes b),.int .i64 (bp bT b (p,k)).2.1,.bool (bp bT b (p,k)).2.2]:=bh (RY b (p,k) hb) (by kernel_rfl) t
end Go.Proofs.YtckkpgcnhdllgaaGreat
