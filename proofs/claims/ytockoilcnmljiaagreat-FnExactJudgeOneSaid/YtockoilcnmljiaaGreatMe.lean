/- What these proofs stand on, part 5: an abstract machine on plain data, its soundness, and the contracts of functions. -/
import Derived.Test.YtockoilcnmljiaaGreatMd
set_option linter.all false
set_option linter.unusedSimpArgs false
set_option linter.unusedVariables false
set_option linter.unnecessarySimpa false
set_option linter.unusedSectionVars false
namespace Go.Proofs.YtockoilcnmljiaaGreat
set_option maxRecDepth 100000
section
variable (pr:dr) (cv:Cv Rz) (J:Nat→St→Option Rz)
def mT (g0:Bool) (n1:Nat) (c2:List D) (i3:Int) (i4:Int):St:=(St.mk [(0,(.sl (some g0) 16 n1 c2)),(1,(.int .i64 i3)),(5,(.int .i64 i4))] [] [] 0)
theorem yZ:Told cfg Tryz.prog 66 Tryz.f66:=⟨by kernel_rfl,Tryz.func66,by kernel_rfl⟩
theorem za (g0:Bool) (n0:Nat) (c0:List D) (a1:Int):aR pr cv J 66 Tryz.f66 [(.sl (some g0) 16 n0 c0),(.int .i64 a1)]=
    (br (pr.lt (pr.ar .sub .i64 a1 (pr.aS n0)) 0) (some ((.int .i64 (-1)),[.undef,.undef])) (J 0 (mT g0 n0 c0 (pr.ar .sub .i64 a1 (pr.aS n0)) 0))):=by kernel_rfl
theorem pn (g0:Bool) (n1:Nat) (c2:List D) (i3:Int) (i4:Int):bJ pr cv J 66 Tryz.f66 [.undef,.undef] 0 (mT g0 n1 c2 i3 i4)=
    (br (pr.lt i4 (pr.aS n1)) (br (pr.bg i4 n1) (br (br (pr.bO .i64 c2 (pr.idx 0 i4 16)) (br (pr.cd c2 ((pr.idx 0 i4 16)+1)) (br (pr.cd c2 ((pr.idx 0 i4 16)+2)) (br (pr.aN 1 c2 ((pr.idx 0 i4 16)+3)) (br (pr.aN 1 c2 ((pr.idx 0 i4 16)+4)) (br (pr.aN 1 c2 ((pr.idx 0 i4 16)+5)) (br (pr.cd c2 ((pr.idx 0 i4 16)+6)) (br (pr.cd c2 ((pr.idx 0 i4 16)+7)) (br (pr.cd c2 ((pr.idx 0 i4 16)+8)) (br (pr.bO .i64 c2 ((pr.idx 0 i4 16)+9)) (br (pr.aN 1 c2 ((pr.idx 0 i4 16)+10)) (br (pr.aN 1 c2 ((pr.idx 0 i4 16)+11)) (br (pr.aN 1 c2 ((pr.idx 0 i4 16)+12)) (br (pr.aN 1 c2 ((pr.idx 0 i4 16)+13)) (br (pr.aN 1 c2 ((pr.idx 0 i4 16)+14)) (br (pr.aN 1 c2 ((pr.idx 0 i4 16)+15)) true false) false) false) false) false) false) false) false) false) false) false) false) false) false) false) false) (cv 11 [(.agg [(.int .i64 (pr.aO c2 (pr.idx 0 i4 16))),(.bool (pr.bw c2 ((pr.idx 0 i4 16)+1))),(.bool (pr.bw c2 ((pr.idx 0 i4 16)+2))),(.sl (some (pr.aH c2 ((pr.idx 0 i4 16)+3))) 1 (pr.aC c2 ((pr.idx 0 i4 16)+3)) (pr.aE c2 ((pr.idx 0 i4 16)+3))),(.sl (some (pr.aH c2 ((pr.idx 0 i4 16)+4))) 1 (pr.aC c2 ((pr.idx 0 i4 16)+4)) (pr.aE c2 ((pr.idx 0 i4 16)+4))),(.sl (some (pr.aH c2 ((pr.idx 0 i4 16)+5))) 1 (pr.aC c2 ((pr.idx 0 i4 16)+5)) (pr.aE c2 ((pr.idx 0 i4 16)+5))),(.bool (pr.bw c2 ((pr.idx 0 i4 16)+6))),(.bool (pr.bw c2 ((pr.idx 0 i4 16)+7))),(.bool (pr.bw c2 ((pr.idx 0 i4 16)+8))),(.int .i64 (pr.aO c2 ((pr.idx 0 i4 16)+9))),(.sl (some (pr.aH c2 ((pr.idx 0 i4 16)+10))) 1 (pr.aC c2 ((pr.idx 0 i4 16)+10)) (pr.aE c2 ((pr.idx 0 i4 16)+10))),(.sl (some (pr.aH c2 ((pr.idx 0 i4 16)+11))) 1 (pr.aC c2 ((pr.idx 0 i4 16)+11)) (pr.aE c2 ((pr.idx 0 i4 16)+11))),(.sl (some (pr.aH c2 ((pr.idx 0 i4 16)+12))) 1 (pr.aC c2 ((pr.idx 0 i4 16)+12)) (pr.aE c2 ((pr.idx 0 i4 16)+12))),(.sl (some (pr.aH c2 ((pr.idx 0 i4 16)+13))) 1 (pr.aC c2 ((pr.idx 0 i4 16)+13)) (pr.aE c2 ((pr.idx 0 i4 16)+13))),(.sl (some (pr.aH c2 ((pr.idx 0 i4 16)+14))) 1 (pr.aC c2 ((pr.idx 0 i4 16)+14)) (pr.aE c2 ((pr.idx 0 i4 16)+14))),(.sl (some (pr.aH c2 ((pr.idx 0 i4 16)+15))) 1 (pr.aC c2 ((pr.idx 0 i4 16)+15)) (pr.aE c2 ((pr.idx 0 i4 16)+15)))]),(.int .i64 i3)] (.int (fun dA=>(.done (br (pr.lt dA 0) (some ((.int .i64 (-1)),[.undef,.undef])) (J 0 (mT g0 n1 c2 dA (pr.ar .add .i64 i4 1)))))))) none) none) (some ((.int .i64 i3),[.undef,.undef]))):=by kernel_rfl
def j1 (g0:Bool) (n1:Nat) (c2:List D) (i3:Int) (n4:Nat) (c5:List D):St:=(St.mk [(0,(.sl (some g0) 16 n1 c2)),(3,(.ref 10003 [] 0 none)),(4,(.int .i64 i3))] [(10003,[(.sl none 16 n4 c5)])] [] 0)
theorem JV:Told cfg Tryz.prog 71 Tryz.f71:=⟨by kernel_rfl,Tryz.func71,by kernel_rfl⟩
theorem JW (g0:Bool) (n0:Nat) (c0:List D):aR pr cv J 71 Tryz.f71 [(.sl (some g0) 16 n0 c0)]=
    (br (pr.sZ (pr.aS n0) (pr.aS n0) 248) (J 0 (j1 g0 n0 c0 0 (pr.hZ (pr.aS n0)) (fC (pr.hZ (pr.aS n0)) [(.int .i64 0),(.bool false),(.bool false),(.nil 1),(.nil 1),(.nil 1),(.bool false),(.bool false),(.bool false),(.int .i64 0),(.nil 1),(.nil 1),(.nil 1),(.nil 1),(.nil 1),(.nil 1)]))) none):=by kernel_rfl
theorem uN (g0:Bool) (n1:Nat) (c2:List D) (i3:Int) (n4:Nat) (c5:List D):bJ pr cv J 71 Tryz.f71 [.undef] 0 (j1 g0 n1 c2 i3 n4 c5)=
    (br (pr.lt i3 (pr.aS n1)) (br (pr.bg i3 n1) (br (br (pr.bO .i64 c2 (pr.idx 0 i3 16)) (br (pr.cd c2 ((pr.idx 0 i3 16)+1)) (br (pr.cd c2 ((pr.idx 0 i3 16)+2)) (br (pr.aN 1 c2 ((pr.idx 0 i3 16)+3)) (br (pr.aN 1 c2 ((pr.idx 0 i3 16)+4)) (br (pr.aN 1 c2 ((pr.idx 0 i3 16)+5)) (br (pr.cd c2 ((pr.idx 0 i3 16)+6)) (br (pr.cd c2 ((pr.idx 0 i3 16)+7)) (br (pr.cd c2 ((pr.idx 0 i3 16)+8)) (br (pr.bO .i64 c2 ((pr.idx 0 i3 16)+9)) (br (pr.aN 1 c2 ((pr.idx 0 i3 16)+10)) (br (pr.aN 1 c2 ((pr.idx 0 i3 16)+11)) (br (pr.aN 1 c2 ((pr.idx 0 i3 16)+12)) (br (pr.aN 1 c2 ((pr.idx 0 i3 16)+13)) (br (pr.aN 1 c2 ((pr.idx 0 i3 16)+14)) (br (pr.aN 1 c2 ((pr.idx 0 i3 16)+15)) true false) false) false) false) false) false) false) false) false) false) false) false) false) false) false) false) (cv 13 [(.agg [(.int .i64 (pr.aO c2 (pr.idx 0 i3 16))),(.bool (pr.bw c2 ((pr.idx 0 i3 16)+1))),(.bool (pr.bw c2 ((pr.idx 0 i3 16)+2))),(.sl (some (pr.aH c2 ((pr.idx 0 i3 16)+3))) 1 (pr.aC c2 ((pr.idx 0 i3 16)+3)) (pr.aE c2 ((pr.idx 0 i3 16)+3))),(.sl (some (pr.aH c2 ((pr.idx 0 i3 16)+4))) 1 (pr.aC c2 ((pr.idx 0 i3 16)+4)) (pr.aE c2 ((pr.idx 0 i3 16)+4))),(.sl (some (pr.aH c2 ((pr.idx 0 i3 16)+5))) 1 (pr.aC c2 ((pr.idx 0 i3 16)+5)) (pr.aE c2 ((pr.idx 0 i3 16)+5))),(.bool (pr.bw c2 ((pr.idx 0 i3 16)+6))),(.bool (pr.bw c2 ((pr.idx 0 i3 16)+7))),(.bool (pr.bw c2 ((pr.idx 0 i3 16)+8))),(.int .i64 (pr.aO c2 ((pr.idx 0 i3 16)+9))),(.sl (some (pr.aH c2 ((pr.idx 0 i3 16)+10))) 1 (pr.aC c2 ((pr.idx 0 i3 16)+10)) (pr.aE c2 ((pr.idx 0 i3 16)+10))),(.sl (some (pr.aH c2 ((pr.idx 0 i3 16)+11))) 1 (pr.aC c2 ((pr.idx 0 i3 16)+11)) (pr.aE c2 ((pr.idx 0 i3 16)+11))),(.sl (some (pr.aH c2 ((pr.idx 0 i3 16)+12))) 1 (pr.aC c2 ((pr.idx 0 i3 16)+12)) (pr.aE c2 ((pr.idx 0 i3 16)+12))),(.sl (some (pr.aH c2 ((pr.idx 0 i3 16)+13))) 1 (pr.aC c2 ((pr.idx 0 i3 16)+13)) (pr.aE c2 ((pr.idx 0 i3 16)+13))),(.sl (some (pr.aH c2 ((pr.idx 0 i3 16)+14))) 1 (pr.aC c2 ((pr.idx 0 i3 16)+14)) (pr.aE c2 ((pr.idx 0 i3 16)+14))),(.sl (some (pr.aH c2 ((pr.idx 0 i3 16)+15))) 1 (pr.aC c2 ((pr.idx 0 i3 16)+15)) (pr.aE c2 ((pr.idx 0 i3 16)+15)))])] (.ty eO.node (fun (aL:ae)=>(.done (br (pr.bg i3 n4) (br (br (pr.ne c5) (br (pr.slot c5 (pr.idx 0 i3 16)) (br (pr.slot (List.set c5 (pr.idx 0 i3 16) (.int .i64 aL.id)) ((pr.idx 0 i3 16)+1)) (br (pr.slot (List.set (List.set c5 (pr.idx 0 i3 16) (.int .i64 aL.id)) ((pr.idx 0 i3 16)+1) (.bool aL.up)) ((pr.idx 0 i3 16)+2)) (br (pr.kC 1 (List.set (List.set (List.set c5 (pr.idx 0 i3 16) (.int .i64 aL.id)) ((pr.idx 0 i3 16)+1) (.bool aL.up)) ((pr.idx 0 i3 16)+2) (.bool aL.cU)) ((pr.idx 0 i3 16)+3)) (br (pr.kC 1 (List.set (List.set (List.set (List.set c5 (pr.idx 0 i3 16) (.int .i64 aL.id)) ((pr.idx 0 i3 16)+1) (.bool aL.up)) ((pr.idx 0 i3 16)+2) (.bool aL.cU)) ((pr.idx 0 i3 16)+3) (.sl none 1 (List.length aL.image) (List.map (.int .i64) aL.image))) ((pr.idx 0 i3 16)+4)) (br (pr.kC 1 (List.set (List.set (List.set (List.set (List.set c5 (pr.idx 0 i3 16) (.int .i64 aL.id)) ((pr.idx 0 i3 16)+1) (.bool aL.up)) ((pr.idx 0 i3 16)+2) (.bool aL.cU)) ((pr.idx 0 i3 16)+3) (.sl none 1 (List.length aL.image) (List.map (.int .i64) aL.image))) ((pr.idx 0 i3 16)+4) (.sl none 1 (List.length (ae.mt aL).aP) (List.map (.int .i64) (ae.mt aL).aP))) ((pr.idx 0 i3 16)+5)) (br (pr.slot (List.set (List.set (List.set (List.set (List.set (List.set c5 (pr.idx 0 i3 16) (.int .i64 aL.id)) ((pr.idx 0 i3 16)+1) (.bool aL.up)) ((pr.idx 0 i3 16)+2) (.bool aL.cU)) ((pr.idx 0 i3 16)+3) (.sl none 1 (List.length aL.image) (List.map (.int .i64) aL.image))) ((pr.idx 0 i3 16)+4) (.sl none 1 (List.length (ae.mt aL).aP) (List.map (.int .i64) (ae.mt aL).aP))) ((pr.idx 0 i3 16)+5) (.sl none 1 (List.length (ae.mt aL).bits) (List.map (fun xs=>(.sl none 1 (List.length xs) (ints xs))) (ae.mt aL).bits))) ((pr.idx 0 i3 16)+6)) (br (pr.slot (List.set (List.set (List.set (List.set (List.set (List.set (List.set c5 (pr.idx 0 i3 16) (.int .i64 aL.id)) ((pr.idx 0 i3 16)+1) (.bool aL.up)) ((pr.idx 0 i3 16)+2) (.bool aL.cU)) ((pr.idx 0 i3 16)+3) (.sl none 1 (List.length aL.image) (List.map (.int .i64) aL.image))) ((pr.idx 0 i3 16)+4) (.sl none 1 (List.length (ae.mt aL).aP) (List.map (.int .i64) (ae.mt aL).aP))) ((pr.idx 0 i3 16)+5) (.sl none 1 (List.length (ae.mt aL).bits) (List.map (fun xs=>(.sl none 1 (List.length xs) (ints xs))) (ae.mt aL).bits))) ((pr.idx 0 i3 16)+6) (.bool (ae.mt aL).dq)) ((pr.idx 0 i3 16)+7)) (br (pr.slot (List.set (List.set (List.set (List.set (List.set (List.set (List.set (List.set c5 (pr.idx 0 i3 16) (.int .i64 aL.id)) ((pr.idx 0 i3 16)+1) (.bool aL.up)) ((pr.idx 0 i3 16)+2) (.bool aL.cU)) ((pr.idx 0 i3 16)+3) (.sl none 1 (List.length aL.image) (List.map (.int .i64) aL.image))) ((pr.idx 0 i3 16)+4) (.sl none 1 (List.length (ae.mt aL).aP) (List.map (.int .i64) (ae.mt aL).aP))) ((pr.idx 0 i3 16)+5) (.sl none 1 (List.length (ae.mt aL).bits) (List.map (fun xs=>(.sl none 1 (List.length xs) (ints xs))) (ae.mt aL).bits))) ((pr.idx 0 i3 16)+6) (.bool (ae.mt aL).dq)) ((pr.idx 0 i3 16)+7) (.bool (ae.mt aL).cg)) ((pr.idx 0 i3 16)+8)) (br (pr.slot (List.set (List.set (List.set (List.set (List.set (List.set (List.set (List.set (List.set c5 (pr.idx 0 i3 16) (.int .i64 aL.id)) ((pr.idx 0 i3 16)+1) (.bool aL.up)) ((pr.idx 0 i3 16)+2) (.bool aL.cU)) ((pr.idx 0 i3 16)+3) (.sl none 1 (List.length aL.image) (List.map (.int .i64) aL.image))) ((pr.idx 0 i3 16)+4) (.sl none 1 (List.length (ae.mt aL).aP) (List.map (.int .i64) (ae.mt aL).aP))) ((pr.idx 0 i3 16)+5) (.sl none 1 (List.length (ae.mt aL).bits) (List.map (fun xs=>(.sl none 1 (List.length xs) (ints xs))) (ae.mt aL).bits))) ((pr.idx 0 i3 16)+6) (.bool (ae.mt aL).dq)) ((pr.idx 0 i3 16)+7) (.bool (ae.mt aL).cg)) ((pr.idx 0 i3 16)+8) (.bool (ae.mt aL).held)) ((pr.idx 0 i3 16)+9)) (br (pr.kC 1 (List.set (List.set (List.set (List.set (List.set (List.set (List.set (List.set (List.set (List.set c5 (pr.idx 0 i3 16) (.int .i64 aL.id)) ((pr.idx 0 i3 16)+1) (.bool aL.up)) ((pr.idx 0 i3 16)+2) (.bool aL.cU)) ((pr.idx 0 i3 16)+3) (.sl none 1 (List.length aL.image) (List.map (.int .i64) aL.image))) ((pr.idx 0 i3 16)+4) (.sl none 1 (List.length (ae.mt aL).aP) (List.map (.int .i64) (ae.mt aL).aP))) ((pr.idx 0 i3 16)+5) (.sl none 1 (List.length (ae.mt aL).bits) (List.map (fun xs=>(.sl none 1 (List.length xs) (ints xs))) (ae.mt aL).bits))) ((pr.idx 0 i3 16)+6) (.bool (ae.mt aL).dq)) ((pr.idx 0 i3 16)+7) (.bool (ae.mt aL).cg)) ((pr.idx 0 i3 16)+8) (.bool (ae.mt aL).held)) ((pr.idx 0 i3 16)+9) (.int .i64 (ae.mt aL).last)) ((pr.idx 0 i3 16)+10)) (br (pr.kC 1 (List.set (List.set (List.set (List.set (List.set (List.set (List.set (List.set (List.set (List.set (List.set c5 (pr.idx 0 i3 16) (.int .i64 aL.id)) ((pr.idx 0 i3 16)+1) (.bool aL.up)) ((pr.idx 0 i3 16)+2) (.bool aL.cU)) ((pr.idx 0 i3 16)+3) (.sl none 1 (List.length aL.image) (List.map (.int .i64) aL.image))) ((pr.idx 0 i3 16)+4) (.sl none 1 (List.length (ae.mt aL).aP) (List.map (.int .i64) (ae.mt aL).aP))) ((pr.idx 0 i3 16)+5) (.sl none 1 (List.length (ae.mt aL).bits) (List.map (fun xs=>(.sl none 1 (List.length xs) (ints xs))) (ae.mt aL).bits))) ((pr.idx 0 i3 16)+6) (.bool (ae.mt aL).dq)) ((pr.idx 0 i3 16)+7) (.bool (ae.mt aL).cg)) ((pr.idx 0 i3 16)+8) (.bool (ae.mt aL).held)) ((pr.idx 0 i3 16)+9) (.int .i64 (ae.mt aL).last)) ((pr.idx 0 i3 16)+10) (.sl none 1 (List.length (ae.cJ aL).a) (List.map dE (ae.cJ aL).a))) ((pr.idx 0 i3 16)+11)) (br (pr.kC 1 (List.set (List.set (List.set (List.set (List.set (List.set (List.set (List.set (List.set (List.set (List.set (List.set c5 (pr.idx 0 i3 16) (.int .i64 aL.id)) ((pr.idx 0 i3 16)+1) (.bool aL.up)) ((pr.idx 0 i3 16)+2) (.bool aL.cU)) ((pr.idx 0 i3 16)+3) (.sl none 1 (List.length aL.image) (List.map (.int .i64) aL.image))) ((pr.idx 0 i3 16)+4) (.sl none 1 (List.length (ae.mt aL).aP) (List.map (.int .i64) (ae.mt aL).aP))) ((pr.idx 0 i3 16)+5) (.sl none 1 (List.length (ae.mt aL).bits) (List.map (fun xs=>(.sl none 1 (List.length xs) (ints xs))) (ae.mt aL).bits))) ((pr.idx 0 i3 16)+6) (.bool (ae.mt aL).dq)) ((pr.idx 0 i3 16)+7) (.bool (ae.mt aL).cg)) ((pr.idx 0 i3 16)+8) (.bool (ae.mt aL).held)) ((pr.idx 0 i3 16)+9) (.int .i64 (ae.mt aL).last)) ((pr.idx 0 i3 16)+10) (.sl none 1 (List.length (ae.cJ aL).a) (List.map dE (ae.cJ aL).a))) ((pr.idx 0 i3 16)+11) (.sl none 1 (List.length (ae.cJ aL).b) (List.map dE (ae.cJ aL).b))) ((pr.idx 0 i3 16)+12)) (br (pr.kC 1 (List.set (List.set (List.set (List.set (List.set (List.set (List.set (List.set (List.set (List.set (List.set (List.set (List.set c5 (pr.idx 0 i3 16) (.int .i64 aL.id)) ((pr.idx 0 i3 16)+1) (.bool aL.up)) ((pr.idx 0 i3 16)+2) (.bool aL.cU)) ((pr.idx 0 i3 16)+3) (.sl none 1 (List.length aL.image) (List.map (.int .i64) aL.image))) ((pr.idx 0 i3 16)+4) (.sl none 1 (List.length (ae.mt aL).aP) (List.map (.int .i64) (ae.mt aL).aP))) ((pr.idx 0 i3 16)+5) (.sl none 1 (List.length (ae.mt aL).bits) (List.map (fun xs=>(.sl none 1 (List.length xs) (ints xs))) (ae.mt aL).bits))) ((pr.idx 0 i3 16)+6) (.bool (ae.mt aL).dq)) ((pr.idx 0 i3 16)+7) (.bool (ae.mt aL).cg)) ((pr.idx 0 i3 16)+8) (.bool (ae.mt aL).held)) ((pr.idx 0 i3 16)+9) (.int .i64 (ae.mt aL).last)) ((pr.idx 0 i3 16)+10) (.sl none 1 (List.length (ae.cJ aL).a) (List.map dE (ae.cJ aL).a))) ((pr.idx 0 i3 16)+11) (.sl none 1 (List.length (ae.cJ aL).b) (List.map dE (ae.cJ aL).b))) ((pr.idx 0 i3 16)+12) (.sl none 1 (List.length aL.conn) (List.map .bool aL.conn))) ((pr.idx 0 i3 16)+13)) (br (pr.kC 1 (List.set (List.set (List.set (List.set (List.set (List.set (List.set (List.set (List.set (List.set (List.set (List.set (List.set (List.set c5 (pr.idx 0 i3 16) (.int .i64 aL.id)) ((pr.idx 0 i3 16)+1) (.bool aL.up)) ((pr.idx 0 i3 16)+2) (.bool aL.cU)) ((pr.idx 0 i3 16)+3) (.sl none 1 (List.length aL.image) (List.map (.int .i64) aL.image))) ((pr.idx 0 i3 16)+4) (.sl none 1 (List.length (ae.mt aL).aP) (List.map (.int .i64) (ae.mt aL).aP))) ((pr.idx 0 i3 16)+5) (.sl none 1 (List.length (ae.mt aL).bits) (List.map (fun xs=>(.sl none 1 (List.length xs) (ints xs))) (ae.mt aL).bits))) ((pr.idx 0 i3 16)+6) (.bool (ae.mt aL).dq)) ((pr.idx 0 i3 16)+7) (.bool (ae.mt aL).cg)) ((pr.idx 0 i3 16)+8) (.bool (ae.mt aL).held)) ((pr.idx 0 i3 16)+9) (.int .i64 (ae.mt aL).last)) ((pr.idx 0 i3 16)+10) (.sl none 1 (List.length (ae.cJ aL).a) (List.map dE (ae.cJ aL).a))) ((pr.idx 0 i3 16)+11) (.sl none 1 (List.length (ae.cJ aL).b) (List.map dE (ae.cJ aL).b))) ((pr.idx 0 i3 16)+12) (.sl none 1 (List.length aL.conn) (List.map .bool aL.conn))) ((pr.idx 0 i3 16)+13) (.sl none 1 (List.length aL.sync) (List.map (fun xs=>(.sl none 1 (List.length xs) (ints xs))) aL.sync))) ((pr.idx 0 i3 16)+14)) (br (pr.kC 1 (List.set (List.set (List.set (List.set (List.set (List.set (List.set (List.set (List.set (List.set (List.set (List.set (List.set (List.set (List.set c5 (pr.idx 0 i3 16) (.int .i64 aL.id)) ((pr.idx 0 i3 16)+1) (.bool aL.up)) ((pr.idx 0 i3 16)+2) (.bool aL.cU)) ((pr.idx 0 i3 16)+3) (.sl none 1 (List.length aL.image) (List.map (.int .i64) aL.image))) ((pr.idx 0 i3 16)+4) (.sl none 1 (List.length (ae.mt aL).aP) (List.map (.int .i64) (ae.mt aL).aP))) ((pr.idx 0 i3 16)+5) (.sl none 1 (List.length (ae.mt aL).bits) (List.map (fun xs=>(.sl none 1 (List.length xs) (ints xs))) (ae.mt aL).bits))) ((pr.idx 0 i3 16)+6) (.bool (ae.mt aL).dq)) ((pr.idx 0 i3 16)+7) (.bool (ae.mt aL).cg)) ((pr.idx 0 i3 16)+8) (.bool (ae.mt aL).held)) ((pr.idx 0 i3 16)+9) (.int .i64 (ae.mt aL).last)) ((pr.idx 0 i3 16)+10) (.sl none 1 (List.length (ae.cJ aL).a) (List.map dE (ae.cJ aL).a))) ((pr.idx 0 i3 16)+11) (.sl none 1 (List.length (ae.cJ aL).b) (List.map dE (ae.cJ aL).b))) ((pr.idx 0 i3 16)+12) (.sl none 1 (List.length aL.conn) (List.map .bool aL.conn))) ((pr.idx 0 i3 16)+13) (.sl none 1 (List.length aL.sync) (List.map (fun xs=>(.sl none 1 (List.length xs) (ints xs))) aL.sync))) ((pr.idx 0 i3 16)+14) (.sl none 1 (List.length aL.bV) (List.map .bool aL.bV))) ((pr.idx 0 i3 16)+15)) true false) false) false) false) false) false) false) false) false) false) false) false) false) false) false) false) false) (cv 999999 [(.sl none 0 0 (List.set (List.set (List.set (List.set (List.set (List.set (List.set (List.set (List.set (List.set (List.set (List.set (List.set (List.set (List.set (List.set c5 (pr.idx 0 i3 16) (.int .i64 aL.id)) ((pr.idx 0 i3 16)+1) (.bool aL.up)) ((pr.idx 0 i3 16)+2) (.bool aL.cU)) ((pr.idx 0 i3 16)+3) (.sl none 1 (List.length aL.image) (List.map (.int .i64) aL.image))) ((pr.idx 0 i3 16)+4) (.sl none 1 (List.length (ae.mt aL).aP) (List.map (.int .i64) (ae.mt aL).aP))) ((pr.idx 0 i3 16)+5) (.sl none 1 (List.length (ae.mt aL).bits) (List.map (fun xs=>(.sl none 1 (List.length xs) (ints xs))) (ae.mt aL).bits))) ((pr.idx 0 i3 16)+6) (.bool (ae.mt aL).dq)) ((pr.idx 0 i3 16)+7) (.bool (ae.mt aL).cg)) ((pr.idx 0 i3 16)+8) (.bool (ae.mt aL).held)) ((pr.idx 0 i3 16)+9) (.int .i64 (ae.mt aL).last)) ((pr.idx 0 i3 16)+10) (.sl none 1 (List.length (ae.cJ aL).a) (List.map dE (ae.cJ aL).a))) ((pr.idx 0 i3 16)+11) (.sl none 1 (List.length (ae.cJ aL).b) (List.map dE (ae.cJ aL).b))) ((pr.idx 0 i3 16)+12) (.sl none 1 (List.length aL.conn) (List.map .bool aL.conn))) ((pr.idx 0 i3 16)+13) (.sl none 1 (List.length aL.sync) (List.map (fun xs=>(.sl none 1 (List.length xs) (ints xs))) aL.sync))) ((pr.idx 0 i3 16)+14) (.sl none 1 (List.length aL.bV) (List.map .bool aL.bV))) ((pr.idx 0 i3 16)+15) (.sl none 1 (List.length aL.wait) (List.map (.int .i64) aL.wait))))] (.sl (fun Co=>(fun uO=>(.done (J 0 (j1 g0 n1 c2 (pr.ar .add .i64 i3 1) n4 uO))))))) none) none))))) none) none) (some ((.sl none 16 n4 c5),[.undef]))):=by kernel_rfl
def j2 (g0:Bool) (n1:Nat) (c2:List D) (g3:Bool) (n4:Nat) (c5:List D) (i6:Int):St:=(St.mk [(0,(.sl (some g0) 16 n1 c2)),(1,(.sl (some g3) 16 n4 c5)),(5,(.int .i64 i6))] [] [] 0)
theorem JX:Told cfg Tryz.prog 78 Tryz.f78:=⟨by kernel_rfl,Tryz.func78,by kernel_rfl⟩
theorem JY (g0:Bool) (n0:Nat) (c0:List D) (g1:Bool) (n1:Nat) (c1:List D):aR pr cv J 78 Tryz.f78 [(.sl (some g0) 16 n0 c0),(.sl (some g1) 16 n1 c1)]=
    (br (br (pr.eq (pr.aS n0) (pr.aS n1)) false true) (some ((.bool false),[.undef,.undef])) (J 0 (j2 g0 n0 c0 g1 n1 c1 0))):=by kernel_rfl
theorem uP (g0:Bool) (n1:Nat) (c2:List D) (g3:Bool) (n4:Nat) (c5:List D) (i6:Int):bJ pr cv J 78 Tryz.f78 [.undef,.undef] 0 (j2 g0 n1 c2 g3 n4 c5 i6)=
    (br (pr.lt i6 (pr.aS n1)) (br (pr.bg i6 n1) (br (br (pr.bO .i64 c2 (pr.idx 0 i6 16)) (br (pr.cd c2 ((pr.idx 0 i6 16)+1)) (br (pr.cd c2 ((pr.idx 0 i6 16)+2)) (br (pr.aN 1 c2 ((pr.idx 0 i6 16)+3)) (br (pr.aN 1 c2 ((pr.idx 0 i6 16)+4)) (br (pr.aN 1 c2 ((pr.idx 0 i6 16)+5)) (br (pr.cd c2 ((pr.idx 0 i6 16)+6)) (br (pr.cd c2 ((pr.idx 0 i6 16)+7)) (br (pr.cd c2 ((pr.idx 0 i6 16)+8)) (br (pr.bO .i64 c2 ((pr.idx 0 i6 16)+9)) (br (pr.aN 1 c2 ((pr.idx 0 i6 16)+10)) (br (pr.aN 1 c2 ((pr.idx 0 i6 16)+11)) (br (pr.aN 1 c2 ((pr.idx 0 i6 16)+12)) (br (pr.aN 1 c2 ((pr.idx 0 i6 16)+13)) (br (pr.aN 1 c2 ((pr.idx 0 i6 16)+14)) (br (pr.aN 1 c2 ((pr.idx 0 i6 16)+15)) true false) false) false) false) false) false) false) false) false) false) false) false) false) false) false) false) (br (pr.bg i6 n4) (br (br (pr.bO .i64 c5 (pr.idx 0 i6 16)) (br (pr.cd c5 ((pr.idx 0 i6 16)+1)) (br (pr.cd c5 ((pr.idx 0 i6 16)+2)) (br (pr.aN 1 c5 ((pr.idx 0 i6 16)+3)) (br (pr.aN 1 c5 ((pr.idx 0 i6 16)+4)) (br (pr.aN 1 c5 ((pr.idx 0 i6 16)+5)) (br (pr.cd c5 ((pr.idx 0 i6 16)+6)) (br (pr.cd c5 ((pr.idx 0 i6 16)+7)) (br (pr.cd c5 ((pr.idx 0 i6 16)+8)) (br (pr.bO .i64 c5 ((pr.idx 0 i6 16)+9)) (br (pr.aN 1 c5 ((pr.idx 0 i6 16)+10)) (br (pr.aN 1 c5 ((pr.idx 0 i6 16)+11)) (br (pr.aN 1 c5 ((pr.idx 0 i6 16)+12)) (br (pr.aN 1 c5 ((pr.idx 0 i6 16)+13)) (br (pr.aN 1 c5 ((pr.idx 0 i6 16)+14)) (br (pr.aN 1 c5 ((pr.idx 0 i6 16)+15)) true false) false) false) false) false) false) false) false) false) false) false) false) false) false) false) false) (cv 15 [(.agg [(.int .i64 (pr.aO c2 (pr.idx 0 i6 16))),(.bool (pr.bw c2 ((pr.idx 0 i6 16)+1))),(.bool (pr.bw c2 ((pr.idx 0 i6 16)+2))),(.sl (some (pr.aH c2 ((pr.idx 0 i6 16)+3))) 1 (pr.aC c2 ((pr.idx 0 i6 16)+3)) (pr.aE c2 ((pr.idx 0 i6 16)+3))),(.sl (some (pr.aH c2 ((pr.idx 0 i6 16)+4))) 1 (pr.aC c2 ((pr.idx 0 i6 16)+4)) (pr.aE c2 ((pr.idx 0 i6 16)+4))),(.sl (some (pr.aH c2 ((pr.idx 0 i6 16)+5))) 1 (pr.aC c2 ((pr.idx 0 i6 16)+5)) (pr.aE c2 ((pr.idx 0 i6 16)+5))),(.bool (pr.bw c2 ((pr.idx 0 i6 16)+6))),(.bool (pr.bw c2 ((pr.idx 0 i6 16)+7))),(.bool (pr.bw c2 ((pr.idx 0 i6 16)+8))),(.int .i64 (pr.aO c2 ((pr.idx 0 i6 16)+9))),(.sl (some (pr.aH c2 ((pr.idx 0 i6 16)+10))) 1 (pr.aC c2 ((pr.idx 0 i6 16)+10)) (pr.aE c2 ((pr.idx 0 i6 16)+10))),(.sl (some (pr.aH c2 ((pr.idx 0 i6 16)+11))) 1 (pr.aC c2 ((pr.idx 0 i6 16)+11)) (pr.aE c2 ((pr.idx 0 i6 16)+11))),(.sl (some (pr.aH c2 ((pr.idx 0 i6 16)+12))) 1 (pr.aC c2 ((pr.idx 0 i6 16)+12)) (pr.aE c2 ((pr.idx 0 i6 16)+12))),(.sl (some (pr.aH c2 ((pr.idx 0 i6 16)+13))) 1 (pr.aC c2 ((pr.idx 0 i6 16)+13)) (pr.aE c2 ((pr.idx 0 i6 16)+13))),(.sl (some (pr.aH c2 ((pr.idx 0 i6 16)+14))) 1 (pr.aC c2 ((pr.idx 0 i6 16)+14)) (pr.aE c2 ((pr.idx 0 i6 16)+14))),(.sl (some (pr.aH c2 ((pr.idx 0 i6 16)+15))) 1 (pr.aC c2 ((pr.idx 0 i6 16)+15)) (pr.aE c2 ((pr.idx 0 i6 16)+15)))]),(.agg [(.int .i64 (pr.aO c5 (pr.idx 0 i6 16))),(.bool (pr.bw c5 ((pr.idx 0 i6 16)+1))),(.bool (pr.bw c5 ((pr.idx 0 i6 16)+2))),(.sl (some (pr.aH c5 ((pr.idx 0 i6 16)+3))) 1 (pr.aC c5 ((pr.idx 0 i6 16)+3)) (pr.aE c5 ((pr.idx 0 i6 16)+3))),(.sl (some (pr.aH c5 ((pr.idx 0 i6 16)+4))) 1 (pr.aC c5 ((pr.idx 0 i6 16)+4)) (pr.aE c5 ((pr.idx 0 i6 16)+4))),(.sl (some (pr.aH c5 ((pr.idx 0 i6 16)+5))) 1 (pr.aC c5 ((pr.idx 0 i6 16)+5)) (pr.aE c5 ((pr.idx 0 i6 16)+5))),(.bool (pr.bw c5 ((pr.idx 0 i6 16)+6))),(.bool (pr.bw c5 ((pr.idx 0 i6 16)+7))),(.bool (pr.bw c5 ((pr.idx 0 i6 16)+8))),(.int .i64 (pr.aO c5 ((pr.idx 0 i6 16)+9))),(.sl (some (pr.aH c5 ((pr.idx 0 i6 16)+10))) 1 (pr.aC c5 ((pr.idx 0 i6 16)+10)) (pr.aE c5 ((pr.idx 0 i6 16)+10))),(.sl (some (pr.aH c5 ((pr.idx 0 i6 16)+11))) 1 (pr.aC c5 ((pr.idx 0 i6 16)+11)) (pr.aE c5 ((pr.idx 0 i6 16)+11))),(.sl (some (pr.aH c5 ((pr.idx 0 i6 16)+12))) 1 (pr.aC c5 ((pr.idx 0 i6 16)+12)) (pr.aE c5 ((pr.idx 0 i6 16)+12))),(.sl (some (pr.aH c5 ((pr.idx 0 i6 16)+13))) 1 (pr.aC c5 ((pr.idx 0 i6 16)+13)) (pr.aE c5 ((pr.idx 0 i6 16)+13))),(.sl (some (pr.aH c5 ((pr.idx 0 i6 16)+14))) 1 (pr.aC c5 ((pr.idx 0 i6 16)+14)) (pr.aE c5 ((pr.idx 0 i6 16)+14))),(.sl (some (pr.aH c5 ((pr.idx 0 i6 16)+15))) 1 (pr.aC c5 ((pr.idx 0 i6 16)+15)) (pr.aE c5 ((pr.idx 0 i6 16)+15)))])] (.bool (fun bK=>(.done (br (br bK false true) (some ((.bool false),[.undef,.undef])) (J 0 (j2 g0 n1 c2 g3 n4 c5 (pr.ar .add .i64 i6 1)))))))) none) none) none) none) (some ((.bool true),[.undef,.undef]))):=by kernel_rfl
theorem MA:Told cfg Tryz.prog 121 Tryz.f121:=⟨by kernel_rfl,Tryz.func121,by kernel_rfl⟩
theorem MB (a0:Int) (a1:Int) (g2:Bool) (n2:Nat) (c2:List D) (a3:Int):aR pr cv J 121 Tryz.f121 [(.agg [(.int .i64 a0),(.int .i64 a1),(.sl (some g2) 1 n2 c2)]),(.int .i64 a3)]=
    (cv 96 [(.sl (some g2) 1 n2 c2),(.int .i64 a3)] (.int (fun dA=>(.done (br (pr.lt dA 0) (some ((.int .i64 (-1)),[.undef,.undef])) (some ((.int .i64 dA),[.undef,.undef]))))))):=by kernel_rfl
theorem MC:Told cfg Tryz.prog 122 Tryz.f122:=⟨by kernel_rfl,Tryz.func122,by kernel_rfl⟩
theorem MD (a0:Int) (a1:Int) (g2:Bool) (n2:Nat) (c2:List D):aR pr cv J 122 Tryz.f122 [(.agg [(.int .i64 a0),(.int .i64 a1),(.sl (some g2) 1 n2 c2)])]=
    (cv 104 [(.sl (some g2) 1 n2 c2)] (.sl (fun dQ=>(fun dt=>(.done (br (br (br (pr.nl dt) true false) true false) (some ((.agg [(.int .i64 a0),(.int .i64 a1),(.sl none 1 dQ dt)]),[.undef])) none)))))):=by kernel_rfl
theorem ME:Told cfg Tryz.prog 126 Tryz.f126:=⟨by kernel_rfl,Tryz.func126,by kernel_rfl⟩
theorem MF (a0:Int) (a1:Int) (g2:Bool) (n2:Nat) (c2:List D) (a3:Int) (a4:Int) (g5:Bool) (n5:Nat) (c5:List D):aR pr cv J 126 Tryz.f126 [(.agg [(.int .i64 a0),(.int .i64 a1),(.sl (some g2) 1 n2 c2)]),(.agg [(.int .i64 a3),(.int .i64 a4),(.sl (some g5) 1 n5 c5)])]=
    let y1:Option (D × List D):=(some ((.bool false),[.undef,.undef]))
    (br (br (pr.eq a0 a3) false true) y1 (br (br (pr.eq a1 a4) false true) y1 (cv 116 [(.sl (some g2) 1 n2 c2),(.sl (some g5) 1 n5 c5)] (.bool (fun bK=>(.done (br (br bK false true) y1 (some ((.bool true),[.undef,.undef]))))))))):=by kernel_rfl
def mU (g0:Bool) (n1:Nat) (c2:List D) (i3:Int) (i4:Int):St:=(St.mk [(0,(.sl (some g0) 3 n1 c2)),(1,(.int .i64 i3)),(5,(.int .i64 i4))] [] [] 0)
theorem zb:Told cfg Tryz.prog 67 Tryz.f67:=⟨by kernel_rfl,Tryz.func67,by kernel_rfl⟩
theorem zc (g0:Bool) (n0:Nat) (c0:List D) (a1:Int):aR pr cv J 67 Tryz.f67 [(.sl (some g0) 3 n0 c0),(.int .i64 a1)]=
    (br (pr.lt (pr.ar .sub .i64 a1 (pr.aS n0)) 0) (some ((.int .i64 (-1)),[.undef,.undef])) (J 0 (mU g0 n0 c0 (pr.ar .sub .i64 a1 (pr.aS n0)) 0))):=by kernel_rfl
theorem po (g0:Bool) (n1:Nat) (c2:List D) (i3:Int) (i4:Int):bJ pr cv J 67 Tryz.f67 [.undef,.undef] 0 (mU g0 n1 c2 i3 i4)=
    (br (pr.lt i4 (pr.aS n1)) (br (pr.bg i4 n1) (br (br (pr.bO .i64 c2 (pr.idx 0 i4 3)) (br (pr.bO .i64 c2 ((pr.idx 0 i4 3)+1)) (br (pr.aN 1 c2 ((pr.idx 0 i4 3)+2)) true false) false) false) (cv 121 [(.agg [(.int .i64 (pr.aO c2 (pr.idx 0 i4 3))),(.int .i64 (pr.aO c2 ((pr.idx 0 i4 3)+1))),(.sl (some (pr.aH c2 ((pr.idx 0 i4 3)+2))) 1 (pr.aC c2 ((pr.idx 0 i4 3)+2)) (pr.aE c2 ((pr.idx 0 i4 3)+2)))]),(.int .i64 i3)] (.int (fun dA=>(.done (br (pr.lt dA 0) (some ((.int .i64 (-1)),[.undef,.undef])) (J 0 (mU g0 n1 c2 dA (pr.ar .add .i64 i4 1)))))))) none) none) (some ((.int .i64 i3),[.undef,.undef]))):=by kernel_rfl
def j3 (g0:Bool) (n1:Nat) (c2:List D) (i3:Int) (n4:Nat) (c5:List D):St:=(St.mk [(0,(.sl (some g0) 3 n1 c2)),(3,(.ref 10003 [] 0 none)),(4,(.int .i64 i3))] [(10003,[(.sl none 3 n4 c5)])] [] 0)
theorem JZ:Told cfg Tryz.prog 72 Tryz.f72:=⟨by kernel_rfl,Tryz.func72,by kernel_rfl⟩
theorem J0 (g0:Bool) (n0:Nat) (c0:List D):aR pr cv J 72 Tryz.f72 [(.sl (some g0) 3 n0 c0)]=
    (br (pr.sZ (pr.aS n0) (pr.aS n0) 40) (J 0 (j3 g0 n0 c0 0 (pr.hZ (pr.aS n0)) (fC (pr.hZ (pr.aS n0)) [(.int .i64 0),(.int .i64 0),(.nil 1)]))) none):=by kernel_rfl
theorem uQ (g0:Bool) (n1:Nat) (c2:List D) (i3:Int) (n4:Nat) (c5:List D):bJ pr cv J 72 Tryz.f72 [.undef] 0 (j3 g0 n1 c2 i3 n4 c5)=
    (br (pr.lt i3 (pr.aS n1)) (br (pr.bg i3 n1) (br (br (pr.bO .i64 c2 (pr.idx 0 i3 3)) (br (pr.bO .i64 c2 ((pr.idx 0 i3 3)+1)) (br (pr.aN 1 c2 ((pr.idx 0 i3 3)+2)) true false) false) false) (cv 122 [(.agg [(.int .i64 (pr.aO c2 (pr.idx 0 i3 3))),(.int .i64 (pr.aO c2 ((pr.idx 0 i3 3)+1))),(.sl (some (pr.aH c2 ((pr.idx 0 i3 3)+2))) 1 (pr.aC c2 ((pr.idx 0 i3 3)+2)) (pr.aE c2 ((pr.idx 0 i3 3)+2)))])] (.int (fun dA=>(.int (fun kW=>(.sl (fun pc=>(fun iX=>(.done (br (br (br (pr.nl iX) true false) true false) (br (pr.bg i3 n4) (br (br (pr.ne c5) (br (pr.slot c5 (pr.idx 0 i3 3)) (br (pr.slot (List.set c5 (pr.idx 0 i3 3) (.int .i64 dA)) ((pr.idx 0 i3 3)+1)) (br (pr.kC 1 (List.set (List.set c5 (pr.idx 0 i3 3) (.int .i64 dA)) ((pr.idx 0 i3 3)+1) (.int .i64 kW)) ((pr.idx 0 i3 3)+2)) true false) false) false) false) (cv 999999 [(.sl none 0 0 (List.set (List.set (List.set c5 (pr.idx 0 i3 3) (.int .i64 dA)) ((pr.idx 0 i3 3)+1) (.int .i64 kW)) ((pr.idx 0 i3 3)+2) (.sl none 1 pc iX)))] (.sl (fun vn4=>(fun P6=>(.done (J 0 (j3 g0 n1 c2 (pr.ar .add .i64 i3 1) n4 P6))))))) none) none) none)))))))))) none) none) (some ((.sl none 3 n4 c5),[.undef]))):=by kernel_rfl
def j4 (g0:Bool) (n1:Nat) (c2:List D) (g3:Bool) (n4:Nat) (c5:List D) (i6:Int):St:=(St.mk [(0,(.sl (some g0) 3 n1 c2)),(1,(.sl (some g3) 3 n4 c5)),(5,(.int .i64 i6))] [] [] 0)
theorem J1:Told cfg Tryz.prog 79 Tryz.f79:=⟨by kernel_rfl,Tryz.func79,by kernel_rfl⟩
theorem J2 (g0:Bool) (n0:Nat) (c0:List D) (g1:Bool) (n1:Nat) (c1:List D):aR pr cv J 79 Tryz.f79 [(.sl (some g0) 3 n0 c0),(.sl (some g1) 3 n1 c1)]=
    (br (br (pr.eq (pr.aS n0) (pr.aS n1)) false true) (some ((.bool false),[.undef,.undef])) (J 0 (j4 g0 n0 c0 g1 n1 c1 0))):=by kernel_rfl
theorem uR (g0:Bool) (n1:Nat) (c2:List D) (g3:Bool) (n4:Nat) (c5:List D) (i6:Int):bJ pr cv J 79 Tryz.f79 [.undef,.undef] 0 (j4 g0 n1 c2 g3 n4 c5 i6)=
    (br (pr.lt i6 (pr.aS n1)) (br (pr.bg i6 n1) (br (br (pr.bO .i64 c2 (pr.idx 0 i6 3)) (br (pr.bO .i64 c2 ((pr.idx 0 i6 3)+1)) (br (pr.aN 1 c2 ((pr.idx 0 i6 3)+2)) true false) false) false) (br (pr.bg i6 n4) (br (br (pr.bO .i64 c5 (pr.idx 0 i6 3)) (br (pr.bO .i64 c5 ((pr.idx 0 i6 3)+1)) (br (pr.aN 1 c5 ((pr.idx 0 i6 3)+2)) true false) false) false) (cv 126 [(.agg [(.int .i64 (pr.aO c2 (pr.idx 0 i6 3))),(.int .i64 (pr.aO c2 ((pr.idx 0 i6 3)+1))),(.sl (some (pr.aH c2 ((pr.idx 0 i6 3)+2))) 1 (pr.aC c2 ((pr.idx 0 i6 3)+2)) (pr.aE c2 ((pr.idx 0 i6 3)+2)))]),(.agg [(.int .i64 (pr.aO c5 (pr.idx 0 i6 3))),(.int .i64 (pr.aO c5 ((pr.idx 0 i6 3)+1))),(.sl (some (pr.aH c5 ((pr.idx 0 i6 3)+2))) 1 (pr.aC c5 ((pr.idx 0 i6 3)+2)) (pr.aE c5 ((pr.idx 0 i6 3)+2)))])] (.bool (fun bK=>(.done (br (br bK false true) (some ((.bool false),[.undef,.undef])) (J 0 (j4 g0 n1 c2 g3 n4 c5 (pr.ar .add .i64 i6 1)))))))) none) none) none) none) (some ((.bool true),[.undef,.undef]))):=by kernel_rfl
theorem Qg:Told cfg Tryz.prog 123 Tryz.f123:=⟨by kernel_rfl,Tryz.func123,by kernel_rfl⟩
theorem Qh (a0:Int) (a1:Int):aR pr cv J 123 Tryz.f123 [(.agg [(.int .i64 a0),(.int .i64 a1)])]=
    (some ((.agg [(.int .i64 a0),(.int .i64 a1)]),[.undef])):=by kernel_rfl
theorem Qi:Told cfg Tryz.prog 127 Tryz.f127:=⟨by kernel_rfl,Tryz.func127,by kernel_rfl⟩
theorem Qj (a0:Int) (a1:Int) (a2:Int) (a3:Int):aR pr cv J 127 Tryz.f127 [(.agg [(.int .i64 a0),(.int .i64 a1)]),(.agg [(.int .i64 a2),(.int .i64 a3)])]=
    let y1:Option (D × List D):=(some ((.bool false),[.undef,.undef]))
    (br (br (pr.eq a0 a2) false true) y1 (br (br (pr.eq a1 a3) false true) y1 (some ((.bool true),[.undef,.undef])))):=by kernel_rfl
theorem MG:Told cfg Tryz.prog 68 Tryz.f68:=⟨by kernel_rfl,Tryz.func68,by kernel_rfl⟩
theorem MH (g0:Bool) (n0:Nat) (c0:List D) (a1:Int):aR pr cv J 68 Tryz.f68 [(.sl (some g0) 2 n0 c0),(.int .i64 a1)]=
    (br (pr.lt (pr.ar .sub .i64 a1 (pr.aS n0)) 0) (some ((.int .i64 (-1)),[.undef,.undef])) (some ((.int .i64 (pr.ar .sub .i64 a1 (pr.aS n0))),[.undef,.undef]))):=by kernel_rfl
def kY (g0:Bool) (n1:Nat) (c2:List D) (i3:Int) (n4:Nat) (c5:List D):St:=(St.mk [(0,(.sl (some g0) 2 n1 c2)),(3,(.ref 10003 [] 0 none)),(4,(.int .i64 i3))] [(10003,[(.sl none 2 n4 c5)])] [] 0)
theorem MI:Told cfg Tryz.prog 73 Tryz.f73:=⟨by kernel_rfl,Tryz.func73,by kernel_rfl⟩
theorem MJ (g0:Bool) (n0:Nat) (c0:List D):aR pr cv J 73 Tryz.f73 [(.sl (some g0) 2 n0 c0)]=
    (br (pr.sZ (pr.aS n0) (pr.aS n0) 16) (J 0 (kY g0 n0 c0 0 (pr.hZ (pr.aS n0)) (fC (pr.hZ (pr.aS n0)) [(.int .i64 0),(.int .i64 0)]))) none):=by kernel_rfl
theorem wA (g0:Bool) (n1:Nat) (c2:List D) (i3:Int) (n4:Nat) (c5:List D):bJ pr cv J 73 Tryz.f73 [.undef] 0 (kY g0 n1 c2 i3 n4 c5)=
    (br (pr.lt i3 (pr.aS n1)) (br (pr.bg i3 n1) (br (br (pr.bO .i64 c2 (pr.idx 0 i3 2)) (br (pr.bO .i64 c2 ((pr.idx 0 i3 2)+1)) true false) false) (cv 123 [(.agg [(.int .i64 (pr.aO c2 (pr.idx 0 i3 2))),(.int .i64 (pr.aO c2 ((pr.idx 0 i3 2)+1)))])] (.int (fun dA=>(.int (fun kW=>(.done (br (pr.bg i3 n4) (br (br (pr.ne c5) (br (pr.slot c5 (pr.idx 0 i3 2)) (br (pr.slot (List.set c5 (pr.idx 0 i3 2) (.int .i64 dA)) ((pr.idx 0 i3 2)+1)) true false) false) false) (cv 999999 [(.sl none 0 0 (List.set (List.set c5 (pr.idx 0 i3 2) (.int .i64 dA)) ((pr.idx 0 i3 2)+1) (.int .i64 kW)))] (.sl (fun pc=>(fun iX=>(.done (J 0 (kY g0 n1 c2 (pr.ar .add .i64 i3 1) n4 iX))))))) none) none))))))) none) none) (some ((.sl none 2 n4 c5),[.undef]))):=by kernel_rfl
def kZ (g0:Bool) (n1:Nat) (c2:List D) (g3:Bool) (n4:Nat) (c5:List D) (i6:Int):St:=(St.mk [(0,(.sl (some g0) 2 n1 c2)),(1,(.sl (some g3) 2 n4 c5)),(5,(.int .i64 i6))] [] [] 0)
theorem MK:Told cfg Tryz.prog 80 Tryz.f80:=⟨by kernel_rfl,Tryz.func80,by kernel_rfl⟩
theorem ML (g0:Bool) (n0:Nat) (c0:List D) (g1:Bool) (n1:Nat) (c1:List D):aR pr cv J 80 Tryz.f80 [(.sl (some g0) 2 n0 c0),(.sl (some g1) 2 n1 c1)]=
    (br (br (pr.eq (pr.aS n0) (pr.aS n1)) false true) (some ((.bool false),[.undef,.undef])) (J 0 (kZ g0 n0 c0 g1 n1 c1 0))):=by kernel_rfl
theorem wB (g0:Bool) (n1:Nat) (c2:List D) (g3:Bool) (n4:Nat) (c5:List D) (i6:Int):bJ pr cv J 80 Tryz.f80 [.undef,.undef] 0 (kZ g0 n1 c2 g3 n4 c5 i6)=
    (br (pr.lt i6 (pr.aS n1)) (br (pr.bg i6 n1) (br (br (pr.bO .i64 c2 (pr.idx 0 i6 2)) (br (pr.bO .i64 c2 ((pr.idx 0 i6 2)+1)) true false) false) (br (pr.bg i6 n4) (br (br (pr.bO .i64 c5 (pr.idx 0 i6 2)) (br (pr.bO .i64 c5 ((pr.idx 0 i6 2)+1)) true false) false) (cv 127 [(.agg [(.int .i64 (pr.aO c2 (pr.idx 0 i6 2))),(.int .i64 (pr.aO c2 ((pr.idx 0 i6 2)+1)))]),(.agg [(.int .i64 (pr.aO c5 (pr.idx 0 i6 2))),(.int .i64 (pr.aO c5 ((pr.idx 0 i6 2)+1)))])] (.bool (fun bK=>(.done (br (br bK false true) (some ((.bool false),[.undef,.undef])) (J 0 (kZ g0 n1 c2 g3 n4 c5 (pr.ar .add .i64 i6 1)))))))) none) none) none) none) (some ((.bool true),[.undef,.undef]))):=by kernel_rfl
theorem J3:Told cfg Tryz.prog 20 Tryz.f20:=⟨by kernel_rfl,Tryz.func20,by kernel_rfl⟩
theorem J4 (g0:Bool) (n0:Nat) (c0:List D) (g1:Bool) (n1:Nat) (c1:List D) (g2:Bool) (n2:Nat) (c2:List D) (g3:Bool) (n3:Nat) (c3:List D) (a4:Int) (a5:Int):aR pr cv J 20 Tryz.f20 [(.agg [(.sl (some g0) 16 n0 c0),(.sl (some g1) 3 n1 c1),(.sl (some g2) 2 n2 c2),(.sl (some g3) 1 n3 c3),(.int .i64 a4)]),(.int .i64 a5)]=
    let y1:Option (D × List D):=(some ((.int .i64 (-1)),[.undef,.undef]))
    (cv 66 [(.sl (some g0) 16 n0 c0),(.int .i64 a5)] (.int (fun dA=>(.done (br (pr.lt dA 0) y1 (cv 67 [(.sl (some g1) 3 n1 c1),(.int .i64 dA)] (.int (fun kW=>(.done (br (pr.lt kW 0) y1 (cv 68 [(.sl (some g2) 2 n2 c2),(.int .i64 kW)] (.int (fun sb=>(.done (br (pr.lt sb 0) y1 (cv 35 [(.sl (some g3) 1 n3 c3),(.int .i64 sb)] (.int (fun Ck=>(.done (br (pr.lt Ck 0) y1 (some ((.int .i64 Ck),[.undef,.undef])))))))))))))))))))))):=by kernel_rfl
theorem J5:Told cfg Tryz.prog 22 Tryz.f22:=⟨by kernel_rfl,Tryz.func22,by kernel_rfl⟩
theorem J6 (g0:Bool) (n0:Nat) (c0:List D) (g1:Bool) (n1:Nat) (c1:List D) (g2:Bool) (n2:Nat) (c2:List D) (g3:Bool) (n3:Nat) (c3:List D) (a4:Int):aR pr cv J 22 Tryz.f22 [(.agg [(.sl (some g0) 16 n0 c0),(.sl (some g1) 3 n1 c1),(.sl (some g2) 2 n2 c2),(.sl (some g3) 1 n3 c3),(.int .i64 a4)])]=
    (cv 71 [(.sl (some g0) 16 n0 c0)] (.sl (fun dQ=>(fun dt=>(.done (br (br (br (pr.nl dt) true false) true false) (cv 72 [(.sl (some g1) 3 n1 c1)] (.sl (fun pc=>(fun iX=>(.done (br (br (br (pr.nl iX) true false) true false) (cv 73 [(.sl (some g2) 2 n2 c2)] (.sl (fun vn4=>(fun P6=>(.done (br (br (br (pr.nl P6) true false) true false) (cv 42 [(.sl (some g3) 1 n3 c3)] (.sl (fun vn6=>(fun vc7=>(.done (br (br (br (pr.nl vc7) true false) true false) (some ((.agg [(.sl none 16 dQ dt),(.sl none 3 pc iX),(.sl none 2 vn4 P6),(.sl none 1 vn6 vc7),(.int .i64 a4)]),[.undef])) none)))))) none)))))) none)))))) none)))))):=by kernel_rfl
theorem J7:Told cfg Tryz.prog 24 Tryz.f24:=⟨by kernel_rfl,Tryz.func24,by kernel_rfl⟩
theorem J8 (g0:Bool) (n0:Nat) (c0:List D) (g1:Bool) (n1:Nat) (c1:List D) (g2:Bool) (n2:Nat) (c2:List D) (g3:Bool) (n3:Nat) (c3:List D) (a4:Int) (g5:Bool) (n5:Nat) (c5:List D) (g6:Bool) (n6:Nat) (c6:List D) (g7:Bool) (n7:Nat) (c7:List D) (g8:Bool) (n8:Nat) (c8:List D) (a9:Int):aR pr cv J 24 Tryz.f24 [(.agg [(.sl (some g0) 16 n0 c0),(.sl (some g1) 3 n1 c1),(.sl (some g2) 2 n2 c2),(.sl (some g3) 1 n3 c3),(.int .i64 a4)]),(.agg [(.sl (some g5) 16 n5 c5),(.sl (some g6) 3 n6 c6),(.sl (some g7) 2 n7 c7),(.sl (some g8) 1 n8 c8),(.int .i64 a9)])]=
    let y1:Option (D × List D):=(some ((.bool false),[.undef,.undef]))
    (cv 78 [(.sl (some g0) 16 n0 c0),(.sl (some g5) 16 n5 c5)] (.bool (fun bK=>(.done (br (br bK false true) y1 (cv 79 [(.sl (some g1) 3 n1 c1),(.sl (some g6) 3 n6 c6)] (.bool (fun eQ=>(.done (br (br eQ false true) y1 (cv 80 [(.sl (some g2) 2 n2 c2),(.sl (some g7) 2 n7 c7)] (.bool (fun fb=>(.done (br (br fb false true) y1 (cv 49 [(.sl (some g3) 1 n3 c3),(.sl (some g8) 1 n8 c8)] (.bool (fun Cj=>(.done (br (br Cj false true) y1 (br (br (pr.eq a4 a9) false true) y1 (some ((.bool true),[.undef,.undef]))))))))))))))))))))))):=by kernel_rfl
end
theorem pq (i w:Nat):ad.idx 0 (i:Int) w=i*w:=by rw [aak,Nat.zero_add]
section
variable {α:Type} {e:α→List D} {w:Nat} (hw:∀ x,(e x).length=w) {xs:List α} {i k:Nat} (hi:i < xs.length) (hk:k < w)
include hw hi hk
theorem zd (kk:IntKind):ad.bO kk (U e xs) (i*w+k)=ad.bO kk (e xs[i]) k:=by simp only [ad,mR hw xs hi hk]
theorem vy:ad.aO (U e xs) (i*w+k)=ad.aO (e xs[i]) k:=by simp only [ad,mR hw xs hi hk]
theorem Cp:ad.cd (U e xs) (i*w+k)=ad.cd (e xs[i]) k:=by simp only [ad,mR hw xs hi hk]
theorem ze:ad.bw (U e xs) (i*w+k)=ad.bw (e xs[i]) k:=by simp only [ad,mR hw xs hi hk]
theorem pN (s:Nat):ad.aN s (U e xs) (i*w+k)=ad.aN s (e xs[i]) k:=by simp only [ad,mR hw xs hi hk]
theorem ny:ad.aH (U e xs) (i*w+k)=ad.aH (e xs[i]) k:=by simp only [ad,mR hw xs hi hk]
theorem nz:ad.aC (U e xs) (i*w+k)=ad.aC (e xs[i]) k:=by simp only [ad,mR hw xs hi hk]
theorem nA:ad.aE (U e xs) (i*w+k)=ad.aE (e xs[i]) k:=by simp only [ad,mR hw xs hi hk]
end
theorem HH {g:Bool} {xs:List ae} {i:Nat} (h:i < xs.length):ad.bO .i64 (U (ab (some g)) xs) (i*16)=true:=(zd (e:=ab (some g)) (w:=16) (fun _=>rfl) (k:=0) h (by omega) _).trans rfl
theorem HI {g:Bool} {xs:List ae} {i:Nat} (h:i < xs.length):ad.aO (U (ab (some g)) xs) (i*16)=xs[i].id:=(vy (e:=ab (some g)) (w:=16) (fun _=>rfl) (k:=0) h (by omega)).trans rfl
theorem HJ {g:Bool} {xs:List ae} {i:Nat} (h:i < xs.length):ad.cd (U (ab (some g)) xs) (i*16+1)=true:=(Cp (e:=ab (some g)) (w:=16) (fun _=>rfl) (k:=1) h (by omega)).trans rfl
theorem HK {g:Bool} {xs:List ae} {i:Nat} (h:i < xs.length):ad.bw (U (ab (some g)) xs) (i*16+1)=xs[i].up:=(ze (e:=ab (some g)) (w:=16) (fun _=>rfl) (k:=1) h (by omega)).trans rfl
theorem HL {g:Bool} {xs:List ae} {i:Nat} (h:i < xs.length):ad.cd (U (ab (some g)) xs) (i*16+2)=true:=(Cp (e:=ab (some g)) (w:=16) (fun _=>rfl) (k:=2) h (by omega)).trans rfl
theorem HM {g:Bool} {xs:List ae} {i:Nat} (h:i < xs.length):ad.bw (U (ab (some g)) xs) (i*16+2)=xs[i].cU:=(ze (e:=ab (some g)) (w:=16) (fun _=>rfl) (k:=2) h (by omega)).trans rfl
theorem HN {g:Bool} {xs:List ae} {i:Nat} (h:i < xs.length):ad.aN 1 (U (ab (some g)) xs) (i*16+3)=true:=(pN (e:=ab (some g)) (w:=16) (fun _=>rfl) (k:=3) h (by omega) _).trans rfl
theorem HO {g:Bool} {xs:List ae} {i:Nat} (h:i < xs.length):ad.aH (U (ab (some g)) xs) (i*16+3)=g:=(ny (e:=ab (some g)) (w:=16) (fun _=>rfl) (k:=3) h (by omega)).trans rfl
theorem HP {g:Bool} {xs:List ae} {i:Nat} (h:i < xs.length):ad.aC (U (ab (some g)) xs) (i*16+3)=xs[i].image.length:=(nz (e:=ab (some g)) (w:=16) (fun _=>rfl) (k:=3) h (by omega)).trans rfl
theorem HQ {g:Bool} {xs:List ae} {i:Nat} (h:i < xs.length):ad.aE (U (ab (some g)) xs) (i*16+3)=ints xs[i].image:=(nA (e:=ab (some g)) (w:=16) (fun _=>rfl) (k:=3) h (by omega)).trans rfl
theorem HR {g:Bool} {xs:List ae} {i:Nat} (h:i < xs.length):ad.aN 1 (U (ab (some g)) xs) (i*16+4)=true:=(pN (e:=ab (some g)) (w:=16) (fun _=>rfl) (k:=4) h (by omega) _).trans rfl
theorem HS {g:Bool} {xs:List ae} {i:Nat} (h:i < xs.length):ad.aH (U (ab (some g)) xs) (i*16+4)=g:=(ny (e:=ab (some g)) (w:=16) (fun _=>rfl) (k:=4) h (by omega)).trans rfl
theorem HT {g:Bool} {xs:List ae} {i:Nat} (h:i < xs.length):ad.aC (U (ab (some g)) xs) (i*16+4)=xs[i].mt.aP.length:=(nz (e:=ab (some g)) (w:=16) (fun _=>rfl) (k:=4) h (by omega)).trans rfl
theorem HU {g:Bool} {xs:List ae} {i:Nat} (h:i < xs.length):ad.aE (U (ab (some g)) xs) (i*16+4)=ints xs[i].mt.aP:=(nA (e:=ab (some g)) (w:=16) (fun _=>rfl) (k:=4) h (by omega)).trans rfl
theorem HV {g:Bool} {xs:List ae} {i:Nat} (h:i < xs.length):ad.aN 1 (U (ab (some g)) xs) (i*16+5)=true:=(pN (e:=ab (some g)) (w:=16) (fun _=>rfl) (k:=5) h (by omega) _).trans rfl
theorem HW {g:Bool} {xs:List ae} {i:Nat} (h:i < xs.length):ad.aH (U (ab (some g)) xs) (i*16+5)=g:=(ny (e:=ab (some g)) (w:=16) (fun _=>rfl) (k:=5) h (by omega)).trans rfl
theorem HX {g:Bool} {xs:List ae} {i:Nat} (h:i < xs.length):ad.aC (U (ab (some g)) xs) (i*16+5)=xs[i].mt.bits.length:=(nz (e:=ab (some g)) (w:=16) (fun _=>rfl) (k:=5) h (by omega)).trans rfl
theorem HY {g:Bool} {xs:List ae} {i:Nat} (h:i < xs.length):ad.aE (U (ab (some g)) xs) (i*16+5)=rows (some g) xs[i].mt.bits:=(nA (e:=ab (some g)) (w:=16) (fun _=>rfl) (k:=5) h (by omega)).trans rfl
theorem HZ {g:Bool} {xs:List ae} {i:Nat} (h:i < xs.length):ad.cd (U (ab (some g)) xs) (i*16+6)=true:=(Cp (e:=ab (some g)) (w:=16) (fun _=>rfl) (k:=6) h (by omega)).trans rfl
theorem H0 {g:Bool} {xs:List ae} {i:Nat} (h:i < xs.length):ad.bw (U (ab (some g)) xs) (i*16+6)=xs[i].mt.dq:=(ze (e:=ab (some g)) (w:=16) (fun _=>rfl) (k:=6) h (by omega)).trans rfl
theorem H3 {g:Bool} {xs:List ae} {i:Nat} (h:i < xs.length):ad.cd (U (ab (some g)) xs) (i*16+7)=true:=(Cp (e:=ab (some g)) (w:=16) (fun _=>rfl) (k:=7) h (by omega)).trans rfl
theorem H4 {g:Bool} {xs:List ae} {i:Nat} (h:i < xs.length):ad.bw (U (ab (some g)) xs) (i*16+7)=xs[i].mt.cg:=(ze (e:=ab (some g)) (w:=16) (fun _=>rfl) (k:=7) h (by omega)).trans rfl
theorem H5 {g:Bool} {xs:List ae} {i:Nat} (h:i < xs.length):ad.cd (U (ab (some g)) xs) (i*16+8)=true:=(Cp (e:=ab (some g)) (w:=16) (fun _=>rfl) (k:=8) h (by omega)).trans rfl
theorem H6 {g:Bool} {xs:List ae} {i:Nat} (h:i < xs.length):ad.bw (U (ab (some g)) xs) (i*16+8)=xs[i].mt.held:=(ze (e:=ab (some g)) (w:=16) (fun _=>rfl) (k:=8) h (by omega)).trans rfl
theorem H7 {g:Bool} {xs:List ae} {i:Nat} (h:i < xs.length):ad.bO .i64 (U (ab (some g)) xs) (i*16+9)=true:=(zd (e:=ab (some g)) (w:=16) (fun _=>rfl) (k:=9) h (by omega) _).trans rfl
theorem H8 {g:Bool} {xs:List ae} {i:Nat} (h:i < xs.length):ad.aO (U (ab (some g)) xs) (i*16+9)=xs[i].mt.last:=(vy (e:=ab (some g)) (w:=16) (fun _=>rfl) (k:=9) h (by omega)).trans rfl
theorem Cq {g:Bool} {xs:List ae} {i:Nat} (h:i < xs.length):ad.aN 1 (U (ab (some g)) xs) (i*16+10)=true:=(pN (e:=ab (some g)) (w:=16) (fun _=>rfl) (k:=10) h (by omega) _).trans rfl
theorem Cr {g:Bool} {xs:List ae} {i:Nat} (h:i < xs.length):ad.aH (U (ab (some g)) xs) (i*16+10)=g:=(ny (e:=ab (some g)) (w:=16) (fun _=>rfl) (k:=10) h (by omega)).trans rfl
theorem Cs {g:Bool} {xs:List ae} {i:Nat} (h:i < xs.length):ad.aC (U (ab (some g)) xs) (i*16+10)=xs[i].cJ.a.length:=(nz (e:=ab (some g)) (w:=16) (fun _=>rfl) (k:=10) h (by omega)).trans rfl
theorem Ct {g:Bool} {xs:List ae} {i:Nat} (h:i < xs.length):ad.aE (U (ab (some g)) xs) (i*16+10)=bytes xs[i].cJ.a:=(nA (e:=ab (some g)) (w:=16) (fun _=>rfl) (k:=10) h (by omega)).trans rfl
theorem Cu {g:Bool} {xs:List ae} {i:Nat} (h:i < xs.length):ad.aN 1 (U (ab (some g)) xs) (i*16+11)=true:=(pN (e:=ab (some g)) (w:=16) (fun _=>rfl) (k:=11) h (by omega) _).trans rfl
theorem Cw {g:Bool} {xs:List ae} {i:Nat} (h:i < xs.length):ad.aH (U (ab (some g)) xs) (i*16+11)=g:=(ny (e:=ab (some g)) (w:=16) (fun _=>rfl) (k:=11) h (by omega)).trans rfl
theorem Cx {g:Bool} {xs:List ae} {i:Nat} (h:i < xs.length):ad.aC (U (ab (some g)) xs) (i*16+11)=xs[i].cJ.b.length:=(nz (e:=ab (some g)) (w:=16) (fun _=>rfl) (k:=11) h (by omega)).trans rfl
theorem Cy {g:Bool} {xs:List ae} {i:Nat} (h:i < xs.length):ad.aE (U (ab (some g)) xs) (i*16+11)=bytes xs[i].cJ.b:=(nA (e:=ab (some g)) (w:=16) (fun _=>rfl) (k:=11) h (by omega)).trans rfl
theorem Cz {g:Bool} {xs:List ae} {i:Nat} (h:i < xs.length):ad.aN 1 (U (ab (some g)) xs) (i*16+12)=true:=(pN (e:=ab (some g)) (w:=16) (fun _=>rfl) (k:=12) h (by omega) _).trans rfl
theorem CA {g:Bool} {xs:List ae} {i:Nat} (h:i < xs.length):ad.aH (U (ab (some g)) xs) (i*16+12)=g:=(ny (e:=ab (some g)) (w:=16) (fun _=>rfl) (k:=12) h (by omega)).trans rfl
theorem CB {g:Bool} {xs:List ae} {i:Nat} (h:i < xs.length):ad.aC (U (ab (some g)) xs) (i*16+12)=xs[i].conn.length:=(nz (e:=ab (some g)) (w:=16) (fun _=>rfl) (k:=12) h (by omega)).trans rfl
theorem CC {g:Bool} {xs:List ae} {i:Nat} (h:i < xs.length):ad.aE (U (ab (some g)) xs) (i*16+12)=bI xs[i].conn:=(nA (e:=ab (some g)) (w:=16) (fun _=>rfl) (k:=12) h (by omega)).trans rfl
theorem CD {g:Bool} {xs:List ae} {i:Nat} (h:i < xs.length):ad.aN 1 (U (ab (some g)) xs) (i*16+13)=true:=(pN (e:=ab (some g)) (w:=16) (fun _=>rfl) (k:=13) h (by omega) _).trans rfl
theorem CE {g:Bool} {xs:List ae} {i:Nat} (h:i < xs.length):ad.aH (U (ab (some g)) xs) (i*16+13)=g:=(ny (e:=ab (some g)) (w:=16) (fun _=>rfl) (k:=13) h (by omega)).trans rfl
theorem CF {g:Bool} {xs:List ae} {i:Nat} (h:i < xs.length):ad.aC (U (ab (some g)) xs) (i*16+13)=xs[i].sync.length:=(nz (e:=ab (some g)) (w:=16) (fun _=>rfl) (k:=13) h (by omega)).trans rfl
theorem CG {g:Bool} {xs:List ae} {i:Nat} (h:i < xs.length):ad.aE (U (ab (some g)) xs) (i*16+13)=rows (some g) xs[i].sync:=(nA (e:=ab (some g)) (w:=16) (fun _=>rfl) (k:=13) h (by omega)).trans rfl
theorem CH {g:Bool} {xs:List ae} {i:Nat} (h:i < xs.length):ad.aN 1 (U (ab (some g)) xs) (i*16+14)=true:=(pN (e:=ab (some g)) (w:=16) (fun _=>rfl) (k:=14) h (by omega) _).trans rfl
theorem CI {g:Bool} {xs:List ae} {i:Nat} (h:i < xs.length):ad.aH (U (ab (some g)) xs) (i*16+14)=g:=(ny (e:=ab (some g)) (w:=16) (fun _=>rfl) (k:=14) h (by omega)).trans rfl
theorem CJ {g:Bool} {xs:List ae} {i:Nat} (h:i < xs.length):ad.aC (U (ab (some g)) xs) (i*16+14)=xs[i].bV.length:=(nz (e:=ab (some g)) (w:=16) (fun _=>rfl) (k:=14) h (by omega)).trans rfl
theorem CK {g:Bool} {xs:List ae} {i:Nat} (h:i < xs.length):ad.aE (U (ab (some g)) xs) (i*16+14)=bI xs[i].bV:=(nA (e:=ab (some g)) (w:=16) (fun _=>rfl) (k:=14) h (by omega)).trans rfl
theorem CL {g:Bool} {xs:List ae} {i:Nat} (h:i < xs.length):ad.aN 1 (U (ab (some g)) xs) (i*16+15)=true:=(pN (e:=ab (some g)) (w:=16) (fun _=>rfl) (k:=15) h (by omega) _).trans rfl
theorem CM {g:Bool} {xs:List ae} {i:Nat} (h:i < xs.length):ad.aH (U (ab (some g)) xs) (i*16+15)=g:=(ny (e:=ab (some g)) (w:=16) (fun _=>rfl) (k:=15) h (by omega)).trans rfl
theorem CN {g:Bool} {xs:List ae} {i:Nat} (h:i < xs.length):ad.aC (U (ab (some g)) xs) (i*16+15)=xs[i].wait.length:=(nz (e:=ab (some g)) (w:=16) (fun _=>rfl) (k:=15) h (by omega)).trans rfl
theorem CO {g:Bool} {xs:List ae} {i:Nat} (h:i < xs.length):ad.aE (U (ab (some g)) xs) (i*16+15)=ints xs[i].wait:=(nA (e:=ab (some g)) (w:=16) (fun _=>rfl) (k:=15) h (by omega)).trans rfl
theorem H9 {g:Bool} {xs:List dm} {i:Nat} (h:i < xs.length):ad.bO .i64 (U (aw (some g)) xs) (i*3)=true:=(zd (e:=aw (some g)) (w:=3) (fun _=>rfl) (k:=0) h (by omega) _).trans rfl
theorem Ia {g:Bool} {xs:List dm} {i:Nat} (h:i < xs.length):ad.aO (U (aw (some g)) xs) (i*3)=xs[i].src:=(vy (e:=aw (some g)) (w:=3) (fun _=>rfl) (k:=0) h (by omega)).trans rfl
theorem Ib {g:Bool} {xs:List dm} {i:Nat} (h:i < xs.length):ad.bO .i64 (U (aw (some g)) xs) (i*3+1)=true:=(zd (e:=aw (some g)) (w:=3) (fun _=>rfl) (k:=1) h (by omega) _).trans rfl
theorem Ic {g:Bool} {xs:List dm} {i:Nat} (h:i < xs.length):ad.aO (U (aw (some g)) xs) (i*3+1)=xs[i].dst:=(vy (e:=aw (some g)) (w:=3) (fun _=>rfl) (k:=1) h (by omega)).trans rfl
theorem Ie {g:Bool} {xs:List dm} {i:Nat} (h:i < xs.length):ad.aN 1 (U (aw (some g)) xs) (i*3+2)=true:=(pN (e:=aw (some g)) (w:=3) (fun _=>rfl) (k:=2) h (by omega) _).trans rfl
theorem Ig {g:Bool} {xs:List dm} {i:Nat} (h:i < xs.length):ad.aH (U (aw (some g)) xs) (i*3+2)=g:=(ny (e:=aw (some g)) (w:=3) (fun _=>rfl) (k:=2) h (by omega)).trans rfl
theorem Ih {g:Bool} {xs:List dm} {i:Nat} (h:i < xs.length):ad.aC (U (aw (some g)) xs) (i*3+2)=xs[i].bytes.length:=(nz (e:=aw (some g)) (w:=3) (fun _=>rfl) (k:=2) h (by omega)).trans rfl
theorem Ii {g:Bool} {xs:List dm} {i:Nat} (h:i < xs.length):ad.aE (U (aw (some g)) xs) (i*3+2)=bytes xs[i].bytes:=(nA (e:=aw (some g)) (w:=3) (fun _=>rfl) (k:=2) h (by omega)).trans rfl
theorem u9 {g:Bool} {xs:List fg} {i:Nat} (h:i < xs.length):ad.bO .i64 (U (aK (some g)) xs) (i*2)=true:=(zd (e:=aK (some g)) (w:=2) (fun _=>rfl) (k:=0) h (by omega) _).trans rfl
theorem va {g:Bool} {xs:List fg} {i:Nat} (h:i < xs.length):ad.aO (U (aK (some g)) xs) (i*2)=xs[i].cell:=(vy (e:=aK (some g)) (w:=2) (fun _=>rfl) (k:=0) h (by omega)).trans rfl
theorem vb {g:Bool} {xs:List fg} {i:Nat} (h:i < xs.length):ad.bO .i64 (U (aK (some g)) xs) (i*2+1)=true:=(zd (e:=aK (some g)) (w:=2) (fun _=>rfl) (k:=1) h (by omega) _).trans rfl
theorem vd {g:Bool} {xs:List fg} {i:Nat} (h:i < xs.length):ad.aO (U (aK (some g)) xs) (i*2+1)=xs[i].up:=(vy (e:=aK (some g)) (w:=2) (fun _=>rfl) (k:=1) h (by omega)).trans rfl
section
variable {A L B:List D} {m k:Nat} {d:D}
theorem Ij (hA:A.length=m) (hk:k < L.length):List.set (A++(L++B)) (m+k) d=A++(L.set k d++B):=by
  subst hA
  rw [List.set_append_right _ _ (by omega),List.set_append_left _ _ (by omega)]
  simp
theorem J9 (hA:A.length=m) (hk:0 < L.length):List.set (A++(L++B)) m d=A++(L.set 0 d++B):=Ij (k:=0) hA hk
theorem Wt (hA:A.length=m) (hk:k < L.length):(A++(L++B))[m+k]?=L[k]?:=by
  subst hA
  rw [List.getElem?_append_right (by omega),List.getElem?_append_left (by omega)]
  simp
theorem D2 (hA:A.length=m) (hk:k < L.length):ad.slot (A++(L++B)) (m+k)=ad.slot L k:=by simp only [ad,Wt hA hk]
theorem F6 (hA:A.length=m) (hk:0 < L.length):ad.slot (A++(L++B)) m=ad.slot L 0:=D2 (k:=0) hA hk
theorem Ka (s:Nat) (hA:A.length=m) (hk:k < L.length):ad.kC s (A++(L++B)) (m+k)=ad.kC s L k:=by simp only [ad,Wt hA hk]
theorem Ui (hk:0 < L.length):ad.ne (A++(L++B))=true:=by
  simp only [ad]
  cases A with
  | nil=>cases L with
    | nil=>simp at hk
    | cons _ _=>rfl
  | cons _ _=>rfl
theorem Kb (l:List D) (n:Nat):ad.slot (d::l) (n+1)=ad.slot l n:=rfl
theorem Kc (l:List D) (kk:IntKind) (x:Int):ad.slot (.int kk x::l) 0=true:=rfl
theorem Kd (l:List D) (x:Bool):ad.slot (.bool x::l) 0=true:=rfl
theorem Ke (s:Nat) (l:List D) (n:Nat):ad.kC s (d::l) (n+1)=ad.kC s l n:=rfl
theorem Kf (l c:List D) (n:Nat):ad.kC 1 (.sl none 1 n c::l) 0=true:=rfl
end
theorem yj {α:Type} {e:α→List D} {w:Nat} (hw:∀ x,(e x).length=w) (xs:List α):(U e xs).length=xs.length*w:=by
  induction xs with
  | nil=>simp [U]
  | cons x xs ih=>
    have h:U e (x::xs)=e x++U e xs:=by simp [U]
    rw [h,List.length_append,hw,ih,List.length_cons,Nat.succ_mul]
    omega
theorem Qk {α:Type} (e:α→List D) (xs ys:List α):U e (xs++ys)=U e xs++U e ys:=by simp [U]
theorem Ai {α:Type} (e:α→List D) {xs:List α} {i:Nat} (h:i < xs.length):U e xs=U e (xs.take i)++(e xs[i]++U e (xs.drop (i+1))):=by
  have e1:xs.take i++xs[i]::xs.drop (i+1)=xs:=by rw [List.getElem_cons_drop h,List.take_append_drop]
  have h2:U e (xs[i]::xs.drop (i+1))=e xs[i]++U e (xs.drop (i+1)):=by simp only [U,List.flatMap_cons]
  rw [← h2,← Qk,e1]
theorem F7 {α:Type} (e:α→List D) {xs:List α} {i:Nat} (h:i < xs.length) (x:α):U e (xs.set i x)=U e (xs.take i)++(e x++U e (xs.drop (i+1))):=by
  have e1:xs.set i x=xs.take i++x::xs.drop (i+1):=List.set_eq_take_append_cons_drop.trans (if_pos h)
  have h2:U e (x::xs.drop (i+1))=e x++U e (xs.drop (i+1)):=by simp [U]
  rw [e1,Qk,h2]
theorem CP {α:Type} (e:α→List D) (z:List D) (x:α) (h:z.map vA=e x) (n:Nat):fC n z=U e (List.replicate n x):=by
  unfold fC U
  rw [h]
  simp [List.flatMap]
def wC:ae:=⟨0,false,false,[],⟨[],[],false,false,false,0⟩,⟨[],[]⟩,[],[],[],[]⟩
theorem Ik:∀ l:List D,ad.nl l=cq l:=fun _=>rfl
theorem Ro (a b:List D):cq (a++b)=(cq a&&cq b):=by
  induction a with
  | nil=>simp [cq]
  | cons x a ih=>simp [cq,ih,Bool.and_assoc]
theorem CQ {α:Type} {e:α→List D} (h:∀ x,ad.nl (e x)=true) (xs:List α):ad.nl (U e xs)=true:=by
  induction xs with
  | nil=>rfl
  | cons x xs ih=>
    have h1:U e (x::xs)=e x++U e xs:=by simp [U]
    rw [h1,Ik,Ro,← Ik,← Ik,h,ih]
    rfl
theorem agB (xs:List ae):ad.nl (U (ab none) xs)=true:=CQ (fun x=>by
  have h1:=gJ; have h2:=yX; have h3:=eK; have h4:=D1
  simp only [Ik] at h1 h2 h3 h4 ⊢
  simp only [cq,bZ,h1,h2,h3,h4,Bool.and_self]) xs
theorem agC (xs:List dm):ad.nl (U (aw none) xs)=true:=CQ (fun x=>by
  have h3:=eK
  simp only [Ik] at h3 ⊢
  simp only [cq,bZ,h3,Bool.and_self]) xs
theorem agD (g:Option Bool) (xs:List fg):ad.nl (U (aK g) xs)=true:=CQ (fun _=>rfl) xs
def jw (x:dm):Prop:=x.bytes.length≤1048576
structure bW (w:ai):Prop where
  nodes:w.nodes.length≤1048576
  node:∀ n∈w.nodes,cV n
  ay:w.ay.length≤1048576
  yi:∀ x∈w.ay,jw x
  log:w.log.length≤1048576
  safe:w.safe.length≤1048576
theorem YZ (g:Bool) (x:dm) (h:jw x):Cm 122 [.agg (aw (some g) x)] (.agg (aw none x),[.undef]):=by
  unfold jw at h
  refine Cm.fin MC fun J=>?_
  rw [MD]
  simp (disch:=omega) only [LL,dc,ao,eK,aI]
theorem ach (g:Option Bool) (x:fg):Cm 123 [.agg (aK g x)] (.agg (aK none x),[.undef]):=by
  refine Cm.fin Qg fun J=>?_
  rw [Qh]
theorem Y0 (g h:Bool) (x:dm) (ok:jw x):Cm 126 [.agg (aw (some g) x),.agg (aw (some h) x)] (.bool true,[.undef,.undef]):=by
  unfold jw at ok
  refine Cm.fin ME fun J=>?_
  rw [MF]
  simp (disch:=omega) only [LM,aF,ao,decide_true,aI,bd,gq]
theorem aci (g h:Option Bool) (x:fg):Cm 127 [.agg (aK g x),.agg (aK h x)] (.bool true,[.undef,.undef]):=by
  refine Cm.fin Qi fun J=>?_
  rw [Qj]
  simp (disch:=omega) only [aI,bd,gq]
def uj (x:dm):Prop:=x.bytes.length≤140737488355328
def hC (x:dm) (l:Int):Int:=iN (fa x.bytes.length l) fun l=>l
theorem Il {x:dm} {l:Int} (h:0≤l) (hm:l≤1048576):hC x l≤l∧-1≤hC x l∧(0≤hC x l→jw x):=by
  have:=fy (k:=fun l=>l) h (nj (n:=x.bytes.length) h hm) fun h3=>Cn h3
  exact ⟨this.1,this.2.1,fun hh=>(this.2.2 hh).1⟩
theorem Im {x:ae} {l:Int} (h:0≤l) (hm:l≤1048576):eC x l≤l∧-1≤eC x l∧(0≤eC x l→cV x):=Uh h hm
theorem Y1 (g:Bool) (x:dm) (left:Int) (h0:0≤left) (h1:left≤1048576) (ln:uj x):Cm 121 [.agg (aw (some g) x),.int .i64 left] (.int .i64 (hC x left),[.undef,.undef]):=by
  unfold uj at ln
  refine Cm.fin MA fun J=>?_
  rw [MB]
  simp (disch:=omega) only [Cl,cn,ao]
  exact ju (f:=fun v=>some (.int .i64 v,[.undef,.undef])) fun _=>rfl
theorem Y2 (g:Bool) (n:Nat) (c:List D) (left:Int) (h0:0≤left) (h1:left≤1048576) (hn:n≤140737488355328):Cm 68 [.sl (some g) 2 n c,.int .i64 left] (.int .i64 (fa n left),[.undef,.undef]):=by
  refine Cm.fin MG fun J=>?_
  rw [MH]
  unfold fa
  by_cases h:left < n
  · rw [if_pos h]
    simp (disch:=omega) only [aB,eZ,aZ]
  · rw [if_neg h]
    simp (disch:=omega) only [aB,eZ,bH]
section
variable (t:bS Rz)
theorem Y3 (g:Bool) (x:dm) (h:jw x):aU 122 [.agg (aw (some g) x)] t=feed t (aw none x):=bh (YZ g x h) (by kernel_rfl) t
theorem Y4 (g h:Bool) (x:dm) (ok:jw x):aU 126 [.agg (aw (some g) x),.agg (aw (some h) x)] t=feed t [.bool true]:=bh (Y0 g h x ok) (by kernel_rfl) t
theorem acj (a b:Int):aU 123 [.agg [.int .i64 a,.int .i64 b]] t=feed t [.int .i64 a,.int .i64 b]:=bh (ach none ⟨a,b⟩) (by kernel_rfl) t
theorem ack (a b:Int):aU 127 [.agg [.int .i64 a,.int .i64 b],.agg [.int .i64 a,.int .i64 b]] t=feed t [.bool true]:=bh (aci none none ⟨a,b⟩) (by kernel_rfl) t
theorem Ql (g:Bool) (x:dm) (left:Int) (h0:0≤left) (h1:left≤1048576) (ln:uj x):aU 121 [.agg (aw (some g) x),.int .i64 left] t=feed t [.int .i64 (hC x left)]:=bh (Y1 g x left h0 h1 ln) (by kernel_rfl) t
end
theorem Wu (g:Bool) (xs:List ae) (hb:xs.length≤1048576) (ok:∀ x∈xs,cV x):Cm 71 [.sl (some g) 16 xs.length (U (ab (some g)) xs)] (.sl none 16 xs.length (U (ab none) xs),[.undef]):=by
  refine Cm.go JV [.undef] 0 (j1 g xs.length (U (ab (some g)) xs) (0:Nat) xs.length (U (ab none) (List.replicate xs.length wC))) ?_ fun J hJ=>?_
  · refine WP.loop (H:=fun i=>j1 g xs.length (U (ab (some g)) xs) (i:Nat) xs.length (U (ab none) (xs.take i++List.replicate (xs.length - i) wC))) (n:=xs.length) (fun _=>True) (fun i hi _ ih=>WP.go _ (ih trivial) fun J hJ=>?_) (fun _=>WP.fin fun J=>?_) 0 (Nat.zero_le _) trivial
    · rw [uN]
      have hx:=ok _ (List.getElem_mem hi)
      have hy:i < (xs.take i++List.replicate (xs.length - i) wC).length:=by simp; omega
      rw [← qg hi _ xs rfl hi,F7 _ hy] at hJ
      rw [Ai _ hy]
      have hA:(U (ab none) ((xs.take i++List.replicate (xs.length - i) wC).take i)).length=i*16:=by
        rw [yj (w:=16) (fun _=>rfl),List.length_take]
        congr 1
        simp; omega
      simp (disch:=first | omega | assumption | exact hA | (simp; done)) only [aI,bd,bm,aB,aZ,bA,pq,HH,HI,HJ,HK,HL,HM,HN,HO,HP,HQ,HR,HS,HT,HU,HV,HW,HX,HY,HZ,H0,H3,H4,H5,H6,H7,H8,Cq,Cr,Cs,Ct,Cu,Cw,Cx,Cy,Cz,CA,CB,CC,CD,CE,CF,CG,CH,CI,CJ,CK,CL,CM,CN,CO,Qd,JE,dc,cn,aF,ao,gJ,yX,eK,D1,Ui,D2,F6,Ka,Ij,J9,List.set_cons_zero,List.set_cons_succ,Kb,Kc,Kd,Ke,Kf,Cg,dn]
      exact hJ
    · rw [uN]
      simp (disch:=omega) only [aI,bd,aB,bH,List.take_length,Nat.sub_self,List.replicate_zero,List.append_nil]
  · rw [JW]
    have hz:=fun n=>CP (ab none) [.int .i64 0,.bool false,.bool false,.nil 1,.nil 1,.nil 1,.bool false,.bool false,.bool false,.int .i64 0,.nil 1,.nil 1,.nil 1,.nil 1,.nil 1,.nil 1] wC rfl n
    simp (disch:=omega) only [aI,bd,aB,tb,Ae,hz]
    exact hJ
theorem Wv (g h:Bool) (xs:List ae) (hb:xs.length≤1048576) (ok:∀ x∈xs,cV x):Cm 78 [.sl (some g) 16 xs.length (U (ab (some g)) xs),.sl (some h) 16 xs.length (U (ab (some h)) xs)] (.bool true,[.undef,.undef]):=by
  refine Cm.go JX [.undef,.undef] 0 (j2 g xs.length (U (ab (some g)) xs) h xs.length (U (ab (some h)) xs) (0:Nat)) ?_ fun J hJ=>?_
  · refine WP.loop (H:=fun i=>j2 g xs.length (U (ab (some g)) xs) h xs.length (U (ab (some h)) xs) (i:Nat)) (n:=xs.length) (fun _=>True) (fun i hi _ ih=>WP.go _ (ih trivial) fun J hJ=>?_) (fun _=>WP.fin fun J=>?_) 0 (Nat.zero_le _) trivial
    · rw [uP]
      have hx:=ok _ (List.getElem_mem hi)
      simp (disch:=first | omega | assumption) only [aI,bd,bm,bQ,aB,aZ,bA,pq,HH,HI,HJ,HK,HL,HM,HN,HO,HP,HQ,HR,HS,HT,HU,HV,HW,HX,HY,HZ,H0,H3,H4,H5,H6,H7,H8,Cq,Cr,Cs,Ct,Cu,Cw,Cx,Cy,Cz,CA,CB,CC,CD,CE,CF,CG,CH,CI,CJ,CK,CL,CM,CN,CO,Qe,aF,ao,dn]
      exact hJ
    · rw [uP]
      simp (disch:=omega) only [aI,bd,aB,bH]
  · rw [JY]
    simp (disch:=omega) only [aI,bd,aB,bQ,cf,gq]
    exact hJ
theorem Ww (g:Bool) (xs:List dm) (hb:xs.length≤1048576) (ok:∀ x∈xs,jw x):Cm 72 [.sl (some g) 3 xs.length (U (aw (some g)) xs)] (.sl none 3 xs.length (U (aw none) xs),[.undef]):=by
  refine Cm.go JZ [.undef] 0 (j3 g xs.length (U (aw (some g)) xs) (0:Nat) xs.length (U (aw none) (List.replicate xs.length (⟨0,0,[]⟩:dm)))) ?_ fun J hJ=>?_
  · refine WP.loop (H:=fun i=>j3 g xs.length (U (aw (some g)) xs) (i:Nat) xs.length (U (aw none) (xs.take i++List.replicate (xs.length - i) (⟨0,0,[]⟩:dm)))) (n:=xs.length) (fun _=>True) (fun i hi _ ih=>WP.go _ (ih trivial) fun J hJ=>?_) (fun _=>WP.fin fun J=>?_) 0 (Nat.zero_le _) trivial
    · rw [uQ]
      have hx:=ok _ (List.getElem_mem hi)
      have hy:i < (xs.take i++List.replicate (xs.length - i) (⟨0,0,[]⟩:dm)).length:=by simp; omega
      rw [← qg hi _ xs rfl hi,F7 _ hy] at hJ
      rw [Ai _ hy]
      have hA:(U (aw none) ((xs.take i++List.replicate (xs.length - i) (⟨0,0,[]⟩:dm)).take i)).length=i*3:=by
        rw [yj (w:=3) (fun _=>rfl),List.length_take]
        congr 1
        simp; omega
      simp (disch:=first | omega | assumption | exact hA | (simp; done)) only [aI,bd,bm,aB,aZ,bA,pq,H9,Ia,Ib,Ic,Ie,Ig,Ih,Ii,Y3,dc,cn,aF,ao,gJ,yX,eK,D1,Ui,D2,F6,Ka,Ij,J9,List.set_cons_zero,List.set_cons_succ,Kb,Kc,Kd,Ke,Kf,Cg,dn]
      exact hJ
    · rw [uQ]
      simp (disch:=omega) only [aI,bd,aB,bH,List.take_length,Nat.sub_self,List.replicate_zero,List.append_nil]
  · rw [J0]
    have hz:=fun n=>CP (aw none) [.int .i64 0,.int .i64 0,.nil 1] (⟨0,0,[]⟩:dm) rfl n
    simp (disch:=omega) only [aI,bd,aB,tb,Ae,hz]
    exact hJ
theorem Wx (g h:Bool) (xs:List dm) (hb:xs.length≤1048576) (ok:∀ x∈xs,jw x):Cm 79 [.sl (some g) 3 xs.length (U (aw (some g)) xs),.sl (some h) 3 xs.length (U (aw (some h)) xs)] (.bool true,[.undef,.undef]):=by
  refine Cm.go J1 [.undef,.undef] 0 (j4 g xs.length (U (aw (some g)) xs) h xs.length (U (aw (some h)) xs) (0:Nat)) ?_ fun J hJ=>?_
  · refine WP.loop (H:=fun i=>j4 g xs.length (U (aw (some g)) xs) h xs.length (U (aw (some h)) xs) (i:Nat)) (n:=xs.length) (fun _=>True) (fun i hi _ ih=>WP.go _ (ih trivial) fun J hJ=>?_) (fun _=>WP.fin fun J=>?_) 0 (Nat.zero_le _) trivial
    · rw [uR]
      have hx:=ok _ (List.getElem_mem hi)
      simp (disch:=first | omega | assumption) only [aI,bd,bm,bQ,aB,aZ,bA,pq,H9,Ia,Ib,Ic,Ie,Ig,Ih,Ii,Y4,aF,ao,dn]
      exact hJ
    · rw [uR]
      simp (disch:=omega) only [aI,bd,aB,bH]
  · rw [J2]
    simp (disch:=omega) only [aI,bd,aB,bQ,cf,gq]
    exact hJ
theorem Y5 (g:Bool) (xs:List fg) (hb:xs.length≤1048576):Cm 73 [.sl (some g) 2 xs.length (U (aK (some g)) xs)] (.sl none 2 xs.length (U (aK none) xs),[.undef]):=by
  refine Cm.go MI [.undef] 0 (kY g xs.length (U (aK (some g)) xs) (0:Nat) xs.length (U (aK none) (List.replicate xs.length (⟨0,0⟩:fg)))) ?_ fun J hJ=>?_
  · refine WP.loop (H:=fun i=>kY g xs.length (U (aK (some g)) xs) (i:Nat) xs.length (U (aK none) (xs.take i++List.replicate (xs.length - i) (⟨0,0⟩:fg)))) (n:=xs.length) (fun _=>True) (fun i hi _ ih=>WP.go _ (ih trivial) fun J hJ=>?_) (fun _=>WP.fin fun J=>?_) 0 (Nat.zero_le _) trivial
    · rw [wA]
      have hx:=hi
      have hy:i < (xs.take i++List.replicate (xs.length - i) (⟨0,0⟩:fg)).length:=by simp; omega
      rw [← qg hi _ xs rfl hi,F7 _ hy] at hJ
      rw [Ai _ hy]
      have hA:(U (aK none) ((xs.take i++List.replicate (xs.length - i) (⟨0,0⟩:fg)).take i)).length=i*2:=by
        rw [yj (w:=2) (fun _=>rfl),List.length_take]
        congr 1
        simp; omega
      simp (disch:=first | omega | assumption | exact hA | (simp; done)) only [aI,bd,bm,aB,aZ,bA,pq,u9,va,vb,vd,acj,dc,cn,aF,ao,gJ,yX,eK,D1,Ui,D2,F6,Ka,Ij,J9,List.set_cons_zero,List.set_cons_succ,Kb,Kc,Kd,Ke,Kf,Cg,dn]
      exact hJ
    · rw [wA]
      simp (disch:=omega) only [aI,bd,aB,bH,List.take_length,Nat.sub_self,List.replicate_zero,List.append_nil]
  · rw [MJ]
    have hz:=fun n=>CP (aK none) [.int .i64 0,.int .i64 0] (⟨0,0⟩:fg) rfl n
    simp (disch:=omega) only [aI,bd,aB,tb,Ae,hz]
    exact hJ
theorem Y6 (g h:Bool) (xs:List fg) (hb:xs.length≤1048576):Cm 80 [.sl (some g) 2 xs.length (U (aK (some g)) xs),.sl (some h) 2 xs.length (U (aK (some h)) xs)] (.bool true,[.undef,.undef]):=by
  refine Cm.go MK [.undef,.undef] 0 (kZ g xs.length (U (aK (some g)) xs) h xs.length (U (aK (some h)) xs) (0:Nat)) ?_ fun J hJ=>?_
  · refine WP.loop (H:=fun i=>kZ g xs.length (U (aK (some g)) xs) h xs.length (U (aK (some h)) xs) (i:Nat)) (n:=xs.length) (fun _=>True) (fun i hi _ ih=>WP.go _ (ih trivial) fun J hJ=>?_) (fun _=>WP.fin fun J=>?_) 0 (Nat.zero_le _) trivial
    · rw [wB]
      have hx:=hi
      simp (disch:=first | omega | assumption) only [aI,bd,bm,bQ,aB,aZ,bA,pq,u9,va,vb,vd,ack,aF,ao,dn]
      exact hJ
    · rw [wB]
      simp (disch:=omega) only [aI,bd,aB,bH]
  · rw [ML]
    simp (disch:=omega) only [aI,bd,aB,bQ,cf,gq]
    exact hJ
def oI (xs:List ae) (l:Int):Int:=iN (fa xs.length l) (pd eC xs)
theorem Wy (g:Bool) (xs:List ae) (left:Int) (h0:0≤left) (h1:left≤1048576) (hn:xs.length≤140737488355328) (hx:∀ x∈xs,wz x):Cm 66 [.sl (some g) 16 xs.length (U (ab (some g)) xs),.int .i64 left] (.int .i64 (oI xs left),[.undef,.undef]):=by
  have hlen:=iO (n:=xs.length) h0
  have loop:∀ k i (l:Int),i+k=xs.length→0≤l→l≤1048576→WP 66 Tryz.f66 [.undef,.undef] 0 (mT g xs.length (U (ab (some g)) xs) l (i:Nat)) (.int .i64 (pd eC (xs.drop i) l),[.undef,.undef]):=by
    intro k
    induction k with
    | zero=>
      intro i l hi hl hm
      refine WP.fin fun J=>?_
      rw [pn,List.drop_of_length_le (by omega)]
      simp (disch:=omega) only [aB,bH,pd]
    | succ k ih=>
      intro i l hi hl hm
      have oB:i < xs.length:=by omega
      have hxi:=hx _ (List.getElem_mem oB)
      obtain ⟨a1,a2,a3⟩:=Im (x:=xs[i]) hl hm
      have e:pd eC (xs.drop i) l=iN (eC xs[i] l) (pd eC (xs.drop (i+1))):=by
        rw [← List.getElem_cons_drop oB]
        rfl
      rw [e]
      by_cases hv:eC xs[i] l < 0
      · refine WP.fin fun J=>?_
        rw [pn,o4 _ hv]
        simp (disch:=first | omega | assumption) only [aI,bd,bm,aB,aZ,bA,pq,HH,HI,HJ,HK,HL,HM,HN,HO,HP,HQ,HR,HS,HT,HU,HV,HW,HX,HY,HZ,H0,H3,H4,H5,H6,H7,H8,Cq,Cr,Cs,Ct,Cu,Cw,Cx,Cy,Cz,CA,CB,CC,CD,CE,CF,CG,CH,CI,CJ,CK,CL,CM,CN,CO,F5,cn,ao]
      · rw [o5 _ (by omega)]
        refine WP.go _ (ih (i+1) (eC xs[i] l) (by omega) (by omega) (by omega)) fun J hJ=>?_
        rw [pn]
        have lN:0≤eC xs[i] l:=by omega
        simp (disch:=first | omega | assumption) only [aI,bd,bm,aB,aZ,bA,pq,HH,HI,HJ,HK,HL,HM,HN,HO,HP,HQ,HR,HS,HT,HU,HV,HW,HX,HY,HZ,H0,H3,H4,H5,H6,H7,H8,Cq,Cr,Cs,Ct,Cu,Cw,Cx,Cy,Cz,CA,CB,CC,CD,CE,CF,CG,CH,CI,CJ,CK,CL,CM,CN,CO,F5,cn,ao,bH,dn]
        exact hJ
  by_cases h:left < xs.length
  · refine Cm.fin yZ fun J=>?_
    rw [za,oI,o4 _ (by unfold fa; rw [if_pos h]; omega)]
    simp (disch:=omega) only [aB,eZ,aZ]
  · have e:fa xs.length left=left - xs.length:=if_neg h
    rw [oI,o5 _ (by omega),e]
    refine Cm.go yZ [.undef,.undef] 0 _ (loop xs.length 0 (left - xs.length) (by omega) (by omega) (by omega)) fun J hJ=>?_
    rw [za]
    simp (disch:=omega) only [aB,eZ,bH]
    exact hJ
def oJ (xs:List dm) (l:Int):Int:=iN (fa xs.length l) (pd hC xs)
theorem Wz (g:Bool) (xs:List dm) (left:Int) (h0:0≤left) (h1:left≤1048576) (hn:xs.length≤140737488355328) (hx:∀ x∈xs,uj x):Cm 67 [.sl (some g) 3 xs.length (U (aw (some g)) xs),.int .i64 left] (.int .i64 (oJ xs left),[.undef,.undef]):=by
  have hlen:=iO (n:=xs.length) h0
  have loop:∀ k i (l:Int),i+k=xs.length→0≤l→l≤1048576→WP 67 Tryz.f67 [.undef,.undef] 0 (mU g xs.length (U (aw (some g)) xs) l (i:Nat)) (.int .i64 (pd hC (xs.drop i) l),[.undef,.undef]):=by
    intro k
    induction k with
    | zero=>
      intro i l hi hl hm
      refine WP.fin fun J=>?_
      rw [po,List.drop_of_length_le (by omega)]
      simp (disch:=omega) only [aB,bH,pd]
    | succ k ih=>
      intro i l hi hl hm
      have oB:i < xs.length:=by omega
      have hxi:=hx _ (List.getElem_mem oB)
      obtain ⟨a1,a2,a3⟩:=Il (x:=xs[i]) hl hm
      have e:pd hC (xs.drop i) l=iN (hC xs[i] l) (pd hC (xs.drop (i+1))):=by
        rw [← List.getElem_cons_drop oB]
        rfl
      rw [e]
      by_cases hv:hC xs[i] l < 0
      · refine WP.fin fun J=>?_
        rw [po,o4 _ hv]
        simp (disch:=first | omega | assumption) only [aI,bd,bm,aB,aZ,bA,pq,H9,Ia,Ib,Ic,Ie,Ig,Ih,Ii,Ql,cn,ao]
      · rw [o5 _ (by omega)]
        refine WP.go _ (ih (i+1) (hC xs[i] l) (by omega) (by omega) (by omega)) fun J hJ=>?_
        rw [po]
        have lN:0≤hC xs[i] l:=by omega
        simp (disch:=first | omega | assumption) only [aI,bd,bm,aB,aZ,bA,pq,H9,Ia,Ib,Ic,Ie,Ig,Ih,Ii,Ql,cn,ao,bH,dn]
        exact hJ
  by_cases h:left < xs.length
  · refine Cm.fin zb fun J=>?_
    rw [zc,oJ,o4 _ (by unfold fa; rw [if_pos h]; omega)]
    simp (disch:=omega) only [aB,eZ,aZ]
  · have e:fa xs.length left=left - xs.length:=if_neg h
    rw [oJ,o5 _ (by omega),e]
    refine Cm.go zb [.undef,.undef] 0 _ (loop xs.length 0 (left - xs.length) (by omega) (by omega) (by omega)) fun J hJ=>?_
    rw [zc]
    simp (disch:=omega) only [aB,eZ,bH]
    exact hJ
end Go.Proofs.YtockoilcnmljiaaGreat
namespace Go.Proofs.YtockoilcnmljiaaGreat
set_option maxRecDepth 100000
section
variable (t:bS Rz)
theorem WA (g:Bool) (xs:List ae) (hb:xs.length≤1048576) (ok:∀ x∈xs,cV x):aU 71 [sN (some g) xs] t=feed t [sN none xs]:=bh (Wu g xs hb ok) (by kernel_rfl) t
theorem WB (g h:Bool) (xs:List ae) (hb:xs.length≤1048576) (ok:∀ x∈xs,cV x):aU 78 [sN (some g) xs,sN (some h) xs] t=feed t [.bool true]:=bh (Wv g h xs hb ok) (by kernel_rfl) t
theorem WC (g:Bool) (xs:List ae) (left:Int) (h0:0≤left) (h1:left≤1048576) (hn:xs.length≤140737488355328) (hx:∀ x∈xs,wz x):aU 66 [sN (some g) xs,.int .i64 left] t=feed t [.int .i64 (oI xs left)]:=bh (Wy g xs left h0 h1 hn hx) (by kernel_rfl) t
theorem WD (g:Bool) (xs:List dm) (hb:xs.length≤1048576) (ok:∀ x∈xs,jw x):aU 72 [sW (some g) xs] t=feed t [sW none xs]:=bh (Ww g xs hb ok) (by kernel_rfl) t
theorem WE (g h:Bool) (xs:List dm) (hb:xs.length≤1048576) (ok:∀ x∈xs,jw x):aU 79 [sW (some g) xs,sW (some h) xs] t=feed t [.bool true]:=bh (Wx g h xs hb ok) (by kernel_rfl) t
theorem WG (g:Bool) (xs:List dm) (left:Int) (h0:0≤left) (h1:left≤1048576) (hn:xs.length≤140737488355328) (hx:∀ x∈xs,uj x):aU 67 [sW (some g) xs,.int .i64 left] t=feed t [.int .i64 (oJ xs left)]:=bh (Wz g xs left h0 h1 hn hx) (by kernel_rfl) t
theorem Y7 (g:Bool) (xs:List fg) (hb:xs.length≤1048576):aU 73 [sK (some g) xs] t=feed t [sK none xs]:=bh (Y5 g xs hb) (by kernel_rfl) t
theorem Y8 (g h:Bool) (xs:List fg) (hb:xs.length≤1048576):aU 80 [sK (some g) xs,sK (some h) xs] t=feed t [.bool true]:=bh (Y6 g h xs hb) (by kernel_rfl) t
theorem Y9 (g:Bool) (n:Nat) (c:List D) (left:Int) (h0:0≤left) (h1:left≤1048576) (hn:n≤140737488355328):aU 68 [.sl (some g) 2 n c,.int .i64 left] t=feed t [.int .i64 (fa n left)]:=bh (Y2 g n c left h0 h1 hn) (by kernel_rfl) t
end
theorem WH (g:Bool) (w:ai) (h:bW w):Cm 22 [.agg (bn (some g) w)] (.agg (bn none w),[.undef]):=by
  have h1:=h.nodes; have h2:=h.ay; have h3:=h.log; have h4:=h.safe
  refine Cm.fin J5 fun J=>?_
  rw [J6]
  simp (disch:=first | omega | exact h.node | exact h.yi) only [WA,WD,Y7,Ah,dc,ao,gJ,agB,agC,agD,aI]
theorem WI (g h:Bool) (w:ai) (ok:bW w):Cm 24 [.agg (bn (some g) w),.agg (bn (some h) w)] (.bool true,[.undef,.undef]):=by
  have h1:=ok.nodes; have h2:=ok.ay; have h3:=ok.log; have h4:=ok.safe
  refine Cm.fin J7 fun J=>?_
  rw [J8]
  simp (disch:=first | omega | exact ok.node | exact ok.yi) only [WB,WE,Y8,wy,aF,ao,decide_true,aI,bd,gq]
structure nB (w:ai):Prop where
  nodes:w.nodes.length≤140737488355328
  node:∀ n∈w.nodes,wz n
  ay:w.ay.length≤140737488355328
  yi:∀ x∈w.ay,uj x
  log:w.log.length≤140737488355328
  safe:w.safe.length≤140737488355328
def lK (w:ai) (l:Int):Int:=iN (oI w.nodes l) fun l=>iN (oJ w.ay l) fun l=>iN (fa w.log.length l) fun l=>iN (fa w.safe.length l) fun l=>l
theorem iY {v l:Int} {k:Int→Int} (hv:v≤l∧-1≤v) (hl:0≤l) (hk:0≤v→k v≤v∧-1≤k v):iN v k≤l∧-1≤iN v k:=by
  unfold iN
  split
  · omega
  · have:=hk (by omega); omega
theorem nC {n:Nat} {l:Int} (h:0≤l):fa n l≤l∧-1≤fa n l:=⟨(iO h).1,(iO h).2.1⟩
theorem SN {α:Type} {f:α→Int→Int} (hf:∀ x l,0≤l→f x l≤l∧-1≤f x l):∀ (xs:List α) (l:Int),0≤l→pd f xs l≤l∧-1≤pd f xs l
  | [],l,h=>⟨Int.le_refl _,by show -1≤l; omega⟩
  | x::xs,l,h=>iY (hf x l h) h fun h1=>SN hf xs _ h1
theorem SO {xss:List (List Int)} {l:Int} (h:0≤l):yY xss l≤l∧-1≤yY xss l:=iY (nC h) h fun h1=>SN (fun _ _ hl=>nC hl) _ _ h1
theorem Fg {n:ae} {l:Int} (h:0≤l):eC n l≤l∧-1≤eC n l:=by
  refine iY (nC h) h fun h=>iY ?_ h fun h=>iY ?_ h fun h=>iY (nC h) h fun h=>iY (SO h) h fun h=>iY (nC h) h fun h=>iY (nC h) h fun h=>?_
  · exact iY (nC h) h fun h=>iY (SO h) h fun h=>by omega
  · exact iY (nC h) h fun h=>iY (nC h) h fun h=>by omega
  · omega
theorem Fh {xs:List ae} {l:Int} (h:0≤l) (hm:l≤1048576):oI xs l≤l∧-1≤oI xs l∧(0≤oI xs l→xs.length≤1048576∧∀ x∈xs,cV x):=by
  refine fy h (nj h hm) fun h1=>?_
  have h2:=iO (n:=xs.length) h
  exact HF (f:=eC) (Q:=cV) (fun x l hl=>by
    by_cases hm:l≤1048576
    · obtain ⟨a,b,c⟩:=Im (x:=x) hl hm
      exact ⟨a,b,fun hh _=>c hh⟩
    · refine ⟨?_,?_,fun _ VJ=>absurd VJ hm⟩
      · exact (Fg hl).1
      · exact (Fg hl).2) xs _ h1 (by omega)
theorem Fi {xs:List dm} {l:Int} (h:0≤l) (hm:l≤1048576):oJ xs l≤l∧-1≤oJ xs l∧(0≤oJ xs l→xs.length≤1048576∧∀ x∈xs,jw x):=by
  refine fy h (nj h hm) fun h1=>?_
  have h2:=iO (n:=xs.length) h
  exact HF (f:=hC) (Q:=jw) (fun x l hl=>by
    by_cases hm:l≤1048576
    · obtain ⟨a,b,c⟩:=Il (x:=x) hl hm
      exact ⟨a,b,fun hh _=>c hh⟩
    · have h3:hC x l≤l∧-1≤hC x l:=iY (k:=fun l=>l) (nC hl) hl fun h=>by show (_:Int)≤_∧_; omega
      exact ⟨h3.1,h3.2,fun _ VJ=>absurd VJ hm⟩) xs _ h1 (by omega)
theorem nD {w:ai} {l:Int} (h:0≤l) (hm:l≤1048576):lK w l≤l∧-1≤lK w l∧(0≤lK w l→bW w):=by
  have key:lK w l≤l∧-1≤lK w l∧(0≤lK w l→(w.nodes.length≤1048576∧∀ x∈w.nodes,cV x)∧(w.ay.length≤1048576∧∀ x∈w.ay,jw x)∧w.log.length≤1048576∧w.safe.length≤1048576∧True):=by
    unfold lK
    have a1:=Fh (xs:=w.nodes) h hm
    refine fy h a1 fun h1=>?_
    have a2:=Fi (xs:=w.ay) h1 (by omega)
    refine fy h1 a2 fun h2=>?_
    have a3:=nj (n:=w.log.length) h2 (by omega)
    refine fy h2 a3 fun h3=>?_
    exact fy h3 (nj h3 (by omega)) fun h4=>Cn h4
  refine ⟨key.1,key.2.1,fun hh=>?_⟩
  obtain ⟨⟨b1,b2⟩,⟨b3,b4⟩,b5,b6,_⟩:=key.2.2 hh
  exact ⟨b1,b2,b3,b4,b5,b6⟩
theorem WJ (g:Bool) (w:ai) (left:Int) (h0:0≤left) (h1:left≤1048576) (ln:nB w):Cm 20 [.agg (bn (some g) w),.int .i64 left] (.int .i64 (lK w left),[.undef,.undef]):=by
  refine Cm.fin J3 fun J=>?_
  rw [J4]
  have l1:=ln.nodes; have l2:=ln.ay; have l3:=ln.log; have l4:=ln.safe
  have a1:=Fh (xs:=w.nodes) h0 h1
  simp (disch:=first | omega | exact ln.node) only [WC,cn,ao]
  refine ju (f:=fun v=>aU 67 _ _) fun p1=>?_
  have a2:=Fi (xs:=w.ay) p1 (by omega)
  simp (disch:=first | omega | exact ln.yi) only [WG,cn,ao]
  refine ju (f:=fun v=>aU 68 _ _) fun p2=>?_
  have a3:=iO (n:=w.log.length) p2
  simp (disch:=omega) only [Y9,cn,ao]
  refine ju (f:=fun v=>aU 35 _ _) fun p3=>?_
  simp (disch:=omega) only [tc,cn,ao]
  exact ju (f:=fun v=>some (.int .i64 v,[.undef,.undef])) fun _=>rfl
section
variable (t:bS Rz)
theorem WK (g:Bool) (w:ai) (h:bW w):aU 22 [.agg (bn (some g) w)] t=feed t [enc .world w]:=bR (r:=enc .world w) (s:=.ty .world) (ss:=[.undef]) (WH g w h) (by kernel_rfl) (av _ _) (by simp only [ah,aM,ak,Bool.and_self]) (au _ _) rfl t
theorem WL (g h:Bool) (w:ai) (ok:bW w):aU 24 [.agg (bn (some g) w),.agg (bn (some h) w)] t=feed t [.bool true]:=bh (WI g h w ok) (by kernel_rfl) t
theorem WM (g:Bool) (w:ai) (left:Int) (h0:0≤left) (h1:left≤1048576) (ln:nB w):aU 20 [.agg (bn (some g) w),.int .i64 left] t=feed t [.int .i64 (lK w left)]:=bh (WJ g w left h0 h1 ln) (by kernel_rfl) t
end
abbrev WN:Sh:=.ag [.int .i64,.int .i64,sh8]
abbrev aap:Sh:=.ag [.int .i64,.int .i64]
abbrev te:Sh:=.ag [.sl 248 Wo,.sl 40 WN,.sl 16 aap,SM,.int .i64]
structure tf (w:ai):Prop where
  node:∀ n∈w.nodes,Wp n
  src:∀ x∈w.ay,oG x.src=true∧oG x.dst=true
  anO:∀ x∈w.log,oG x.cell=true∧oG x.up=true
  safe:nL w.safe
  gen:oG w.gen=true
theorem D3 {α:Type} {sh:Sh} {e:α→List D} {Q:α→Prop} (he:∀ ds,WT sh ds→∃ x,ds=e x∧Q x):∀ es:List (List D),(∀ x∈es,WT sh x)→∃ xs,es.flatten=U e xs∧xs.length=es.length∧∀ x∈xs,Q x
  | [],_=>⟨[],rfl,rfl,by simp⟩
  | d::es,h=>by
    obtain ⟨x,rfl,hx⟩:=he d (h d (by simp))
    obtain ⟨xs,h1,h2,h3⟩:=D3 he es (fun y hy=>h y (by simp [hy]))
    refine ⟨x::xs,by rw [List.flatten_cons,h1]; simp [U],by simp [h2],fun y hy=>?_⟩
    rcases List.mem_cons.1 hy with rfl | hy
    · exact hx
    · exact h3 y hy
theorem acm {ds:List D} (h:WT WN ds):∃ x:dm,ds=aw (some false) x∧uj x∧oG x.src=true∧oG x.dst=true:=by
  obtain ⟨_,_,rfl,⟨a,rfl,ha⟩,_,_,rfl,⟨b,rfl,hb⟩,_,_,rfl,hs,rfl⟩:=h
  obtain ⟨xs,rfl,hl⟩:=YY hs
  exact ⟨⟨a,b,xs⟩,rfl,by unfold uj; simp only; omega,nw ha,nw hb⟩
theorem ae3 {ds:List D} (h:WT aap ds):∃ x:fg,ds=aK (some false) x∧oG x.cell=true∧oG x.up=true:=by
  obtain ⟨_,_,rfl,⟨a,rfl,ha⟩,_,_,rfl,⟨b,rfl,hb⟩,rfl⟩:=h
  exact ⟨⟨a,b⟩,rfl,nw ha,nw hb⟩
theorem tg {ds:List D} (h:WT te ds):∃ w:ai,ds=bn (some false) w∧nB w∧tf w:=by
  obtain ⟨_,_,rfl,⟨es1,rfl,ZX,Hf⟩,_,_,rfl,⟨es2,rfl,Sc,R9⟩,_,_,rfl,⟨es3,rfl,he3,hx3⟩,_,_,rfl,hs,_,_,rfl,⟨gen,rfl,hg⟩,rfl⟩:=h
  obtain ⟨ns,a1,a2,a3⟩:=D3 (fun ds hd=>acg hd) es1 Hf
  obtain ⟨ws,b1,b2,b3⟩:=D3 (fun ds hd=>acm hd) es2 R9
  obtain ⟨rs,c1,c2,c3⟩:=D3 (fun ds hd=>ae3 hd) es3 hx3
  obtain ⟨safe,rfl,d1,d2⟩:=Qf hs
  have:reachBytes=140737488351232:=rfl
  refine ⟨⟨ns,ws,rs,safe,gen⟩,?_,⟨?_,fun n hn=>(a3 n hn).1,?_,fun n hn=>(b3 n hn).1,?_,?_⟩,⟨fun n hn=>(a3 n hn).2,fun n hn=>(b3 n hn).2,c3,d2,nw hg⟩⟩
  · rw [a1,b1,c1,← a2,← b2,← c2]
    rfl
  all_goals simp only; omega
theorem Za (n:ae) (b:Bool):ba b (ab none n)=ab (some b) n:=by
  simp only [ba,dN,fG,ig,gr,jF]
theorem Qm (b:Bool):∀ x y:List D,ba b (x++y)=ba b x++ba b y
  | [],_=>rfl
  | d::x,y=>by rw [List.cons_append,ba,ba,Qm b x y]; rfl
theorem xR {α:Type} {e e':α→List D} {b:Bool} (h:∀ x,ba b (e x)=e' x):∀ xs:List α,ba b (U e xs)=U e' xs
  | []=>rfl
  | x::xs=>by
    have h1:∀ f:α→List D,U f (x::xs)=f x++U f xs:=fun f=>by simp [U]
    rw [h1,h1,Qm,h,xR h xs]
theorem ae4 (b:Bool) (xs:List ae):ba b (U (ab none) xs)=U (ab (some b)) xs:=xR (fun n=>Za n b) xs
theorem ae5 (b:Bool) (xs:List dm):ba b (U (aw none) xs)=U (aw (some b)) xs:=xR (fun n=>by simp only [ba,dN,gr]) xs
theorem ae6 (b:Bool) (xs:List fg):ba b (U (aK none) xs)=U (aK (some b)) xs:=xR (fun n=>by simp only [ba,dN]) xs
end Go.Proofs.YtockoilcnmljiaaGreat
namespace Go.Proofs.YtockoilcnmljiaaGreat
set_option maxRecDepth 100000
theorem acn {R:Type} {a b:Nat} {u v:R} (h:a=b):br (ad.neq a b) u v=u:=by simp [ad,br,h]
end Go.Proofs.YtockoilcnmljiaaGreat
namespace Go.Proofs.YtockoilcnmljiaaGreat
set_option maxRecDepth 100000
section
variable (pr:dr) (cv:Cv Rz) (J:Nat→St→Option Rz)
def fA (i0:Int) (i1:Int) (n2:Nat) (c3:List D):St:=(St.mk [(0,(.ref 28 [] 0 none)),(2,(.int .i64 i0)),(3,(.int .i64 i1))] [(28,[(.sl none 1 n2 c3)])] [] 0)
theorem xj:Told cfg Tryz.prog 130 Tryz.f130:=⟨by kernel_rfl,Tryz.func130,by kernel_rfl⟩
theorem xm (n0:Nat) (c0:List D):aR pr cv J 130 Tryz.f130 [(.sl none 1 n0 c0)]=
    (J 0 (fA 0 (pr.ar .sub .i64 (pr.aS n0) 1) n0 c0)):=by kernel_rfl
theorem nk (i0:Int) (i1:Int) (n2:Nat) (c3:List D):bJ pr cv J 130 Tryz.f130 [(.sl none 0 0 [])] 0 (fA i0 i1 n2 c3)=
    let y1:List D:=(List.set c3 (pr.idx 0 i0 1) (.int .i64 (pr.aO c3 (pr.idx 0 i1 1))))
    (br (pr.lt i0 i1) (br (pr.bg i1 n2) (br (br (pr.bO .i64 c3 (pr.idx 0 i1 1)) true false) (br (pr.bg i0 n2) (br (br (pr.bO .i64 c3 (pr.idx 0 i0 1)) true false) (br (pr.bg i0 n2) (br (pr.slot c3 (pr.idx 0 i0 1)) (br (pr.bg i1 n2) (br (pr.slot y1 (pr.idx 0 i1 1)) (J 0 (fA (pr.ar .add .i64 i0 1) (pr.ar .sub .i64 i1 1) n2 (List.set y1 (pr.idx 0 i1 1) (.int .i64 (pr.aO c3 (pr.idx 0 i0 1)))))) none) none) none) none) none) none) none) none) (some ((.bf []),[(.sl none 1 n2 c3)]))):=by kernel_rfl
def o6 (i0:Int) (g1:Bool) (n2:Nat) (c3:List D) (g4:Bool) (n5:Nat) (c6:List D) (g7:Bool) (n8:Nat) (c9:List D) (g10:Bool) (dH:Nat) (dR:List D) (i13:Int) (kB:Nat) (kX:List D):St:=(St.mk [(1,(.int .i64 i0)),(2,(.ptr 2 [] 0)),(5,(.ref 10005 [] 0 none))] [(2,[(.sl (some g1) 16 n2 c3),(.sl (some g4) 3 n5 c6),(.sl (some g7) 2 n8 c9),(.sl (some g10) 1 dH dR),(.int .i64 i13)]),(10005,[(.sl none 1 kB kX)])] [] 0)
theorem Qn:Told cfg Tryz.prog 87 Tryz.f87:=⟨by kernel_rfl,Tryz.func87,by kernel_rfl⟩
theorem Qo (g0:Bool) (n0:Nat) (c0:List D) (g1:Bool) (n1:Nat) (c1:List D) (g2:Bool) (n2:Nat) (c2:List D) (g3:Bool) (n3:Nat) (c3:List D) (a4:Int) (a5:Int):aR pr cv J 87 Tryz.f87 [(.agg [(.sl (some g0) 16 n0 c0),(.sl (some g1) 3 n1 c1),(.sl (some g2) 2 n2 c2),(.sl (some g3) 1 n3 c3),(.int .i64 a4)]),(.int .i64 a5)]=
    (J 0 (o6 a5 g0 n0 c0 g1 n1 c1 g2 n2 c2 g3 n3 c3 a4 0 [])):=by kernel_rfl
theorem la (i0:Int) (g1:Bool) (n2:Nat) (c3:List D) (g4:Bool) (n5:Nat) (c6:List D) (g7:Bool) (n8:Nat) (c9:List D) (g10:Bool) (dH:Nat) (dR:List D) (i13:Int) (kB:Nat) (kX:List D):bJ pr cv J 87 Tryz.f87 [.undef,.undef] 0 (o6 i0 g1 n2 c3 g4 n5 c6 g7 n8 c9 g10 dH dR i13 kB kX)=
    let y1:Bool:=(br (pr.bO .i64 c9 ((pr.idx 0 (pr.ar .sub .i64 i0 1) 2)+1)) true false)
    let y2:Int:=(pr.aO c9 ((pr.idx 0 (pr.ar .sub .i64 i0 1) 2)+1))
    let y3:Option (D × List D):=(some ((.sl none 1 kB kX),[.undef,.undef]))
    (br (pr.lt 0 i0) (br (pr.le i0 (pr.aS n8)) (br (br (pr.flat kX) (pr.fits (1+kB) 8) false) (br (pr.bg (pr.ar .sub .i64 i0 1) n8) (br y1 (br (pr.le i0 y2) (some ((.sl none 1 (1+kB) ((.int .i64 i0)::kX)),[.undef,.undef])) (br (pr.bg (pr.ar .sub .i64 i0 1) n8) (br y1 (J 0 (o6 y2 g1 n2 c3 g4 n5 c6 g7 n8 c9 g10 dH dR i13 (1+kB) ((.int .i64 i0)::kX))) none) none)) none) none) none) y3) y3):=by kernel_rfl
def o7 (i0:Int) (g1:Bool) (n2:Nat) (c3:List D) (g4:Bool) (n5:Nat) (c6:List D) (g7:Bool) (n8:Nat) (c9:List D) (g10:Bool) (dH:Nat) (dR:List D) (i13:Int) (kB:Nat) (kX:List D):St:=(St.mk [(1,(.int .i64 i0)),(2,(.ptr 2 [] 0)),(5,(.ref 10005 [] 0 none))] [(2,[(.sl (some g1) 16 n2 c3),(.sl (some g4) 3 n5 c6),(.sl (some g7) 2 n8 c9),(.sl (some g10) 1 dH dR),(.int .i64 i13)]),(10005,[(.sl none 1 kB kX)])] [] 0)
theorem CR:Told cfg Tryz.prog 89 Tryz.f89:=⟨by kernel_rfl,Tryz.func89,by kernel_rfl⟩
theorem CS (g0:Bool) (n0:Nat) (c0:List D) (g1:Bool) (n1:Nat) (c1:List D) (g2:Bool) (n2:Nat) (c2:List D) (g3:Bool) (n3:Nat) (c3:List D) (a4:Int) (a5:Int):aR pr cv J 89 Tryz.f89 [(.agg [(.sl (some g0) 16 n0 c0),(.sl (some g1) 3 n1 c1),(.sl (some g2) 2 n2 c2),(.sl (some g3) 1 n3 c3),(.int .i64 a4)]),(.int .i64 a5)]=
    (cv 75 [(.int .i64 a5),(.int .i64 1),(.int .i64 (pr.aS n2))] (.bool (fun bK=>(.done (br (br bK false true) (some ((.sl none 1 0 []),[.undef,.undef])) (J 0 (o7 a5 g0 n0 c0 g1 n1 c1 g2 n2 c2 g3 n3 c3 a4 0 []))))))):=by kernel_rfl
theorem xS (i0:Int) (g1:Bool) (n2:Nat) (c3:List D) (g4:Bool) (n5:Nat) (c6:List D) (g7:Bool) (n8:Nat) (c9:List D) (g10:Bool) (dH:Nat) (dR:List D) (i13:Int) (kB:Nat) (kX:List D):bJ pr cv J 89 Tryz.f89 [.undef,.undef] 0 (o7 i0 g1 n2 c3 g4 n5 c6 g7 n8 c9 g10 dH dR i13 kB kX)=
    let y1:D:=(.int .i64 (pr.aO c9 ((pr.idx 0 (pr.ar .sub .i64 i0 1) 2)+1)))
    let y2:List D:=[(.sl none 1 (kB+1) (List.append kX [(.int .i64 i0)]))]
    (br (br (pr.flat [(.int .i64 i0)]) (pr.fits (kB+1) 8) false) (br (pr.bg (pr.ar .sub .i64 i0 1) n8) (br (br (pr.bO .i64 c9 ((pr.idx 0 (pr.ar .sub .i64 i0 1) 2)+1)) true false) (cv 75 [y1,(.int .i64 1),(.int .i64 (pr.ar .sub .i64 i0 1))] (.bool (fun bK=>(.done (br (br bK false true) (br (br (br (pr.nl (List.append kX [(.int .i64 i0)])) true false) true false) (cv 130 y2 (.sl (fun Co=>(fun uO=>(.done (br (br (br (pr.nl uO) true false) true false) (br (br (br (pr.neq (kB+1) Co) true false) true false) (some ((.sl none 1 Co uO),[.undef,.undef])) none) none)))))) none) (J 0 (o7 (pr.aO c9 ((pr.idx 0 (pr.ar .sub .i64 i0 1) 2)+1)) g1 n2 c3 g4 n5 c6 g7 n8 c9 g10 dH dR i13 (kB+1) (List.append kX [(.int .i64 i0)])))))))) none) none) none):=by kernel_rfl
theorem Uj:Told cfg Tryz.prog 132 Tryz.f132:=⟨by kernel_rfl,Tryz.func132,by kernel_rfl⟩
theorem Uk (g0:Bool) (n0:Nat) (c0:List D) (a1:Int) (a2:Int):aR pr cv J 132 Tryz.f132 [(.sl (some g0) 1 n0 c0),(.int .i64 a1),(.int .i64 a2)]=
    (br (br (pr.cell c0) (pr.fits (0+n0) 8) false) (cv 69 [(.int .i64 a1),(.int .i64 0),(.int .i64 (pr.ar .sub .i64 (pr.aS n0) 1))] (.bool (fun bK=>(.done (br bK (br (pr.bg a1 (0+n0)) (br (pr.slot c0 (pr.idx 0 a1 1)) (some ((.sl none 1 (0+n0) (List.set c0 (pr.idx 0 a1 1) (.int .i64 a2))),[.undef,.undef,.undef])) none) none) (some ((.sl none 1 (0+n0) c0),[.undef,.undef,.undef]))))))) none):=by kernel_rfl
theorem Ul:Told cfg Tryz.prog 135 Tryz.f135:=⟨by kernel_rfl,Tryz.func135,by kernel_rfl⟩
theorem Um (g0:Bool) (n0:Nat) (c0:List D) (a1:Int) (a2:Int):aR pr cv J 135 Tryz.f135 [(.sl (some g0) 1 n0 c0),(.int .i64 a1),(.int .i64 a2)]=
    (cv 105 [(.sl (some g0) 1 n0 c0)] (.sl (fun dQ=>(fun dt=>(.done (br (br (br (pr.nl dt) true false) true false) (cv 75 [(.int .i64 a1),(.int .i64 0),(.int .i64 (pr.ar .sub .i64 (pr.aS n0) 1))] (.bool (fun fb=>(.done (br fb (br (pr.bg a1 dQ) (br (pr.slot dt (pr.idx 0 a1 1)) (some ((.sl none 1 dQ (List.set dt (pr.idx 0 a1 1) (.int .i64 a2))),[.undef,.undef,.undef])) none) none) (some ((.sl none 1 dQ dt),[.undef,.undef,.undef]))))))) none)))))):=by kernel_rfl
theorem Io:Told cfg Tryz.prog 131 Tryz.f131:=⟨by kernel_rfl,Tryz.func131,by kernel_rfl⟩
theorem Ip :aR pr cv J 131 Tryz.f131 []=
    (br (pr.sZ 8 8 8) (some ((.sl none 1 (pr.hZ 8) (fC (pr.hZ 8) [(.int .i64 0)])),[])) none):=by kernel_rfl
theorem Iq:Told cfg Tryz.prog 134 Tryz.f134:=⟨by kernel_rfl,Tryz.func134,by kernel_rfl⟩
theorem Ir :aR pr cv J 134 Tryz.f134 []=
    (br (pr.sZ 8 8 8) (some ((.sl none 1 (pr.hZ 8) (fC (pr.hZ 8) [(.int .i64 0)])),[])) none):=by kernel_rfl
def iZ (g0:Bool) (n1:Nat) (c2:List D) (i3:Int) (g4:Bool) (n5:Nat) (c6:List D) (g7:Bool) (n8:Nat) (c9:List D) (g10:Bool) (dH:Nat) (dR:List D) (g13:Bool) (kB:Nat) (kX:List D) (i16:Int) (SP:Nat) (SQ:List D):St:=(St.mk [(1,(.sl (some g0) 1 n1 c2)),(2,(.ptr 2 [] 0)),(5,(.ref 10005 [] 0 none)),(6,(.int .i64 i3))] [(2,[(.sl (some g4) 16 n5 c6),(.sl (some g7) 3 n8 c9),(.sl (some g10) 2 dH dR),(.sl (some g13) 1 kB kX),(.int .i64 i16)]),(10005,[(.sl none 1 SP SQ)])] [] 0)
theorem MM:Told cfg Tryz.prog 91 Tryz.f91:=⟨by kernel_rfl,Tryz.func91,by kernel_rfl⟩
theorem MN (g0:Bool) (n0:Nat) (c0:List D) (g1:Bool) (n1:Nat) (c1:List D) (g2:Bool) (n2:Nat) (c2:List D) (g3:Bool) (n3:Nat) (c3:List D) (a4:Int) (g5:Bool) (n5:Nat) (c5:List D):aR pr cv J 91 Tryz.f91 [(.agg [(.sl (some g0) 16 n0 c0),(.sl (some g1) 3 n1 c1),(.sl (some g2) 2 n2 c2),(.sl (some g3) 1 n3 c3),(.int .i64 a4)]),(.sl (some g5) 1 n5 c5)]=
    (cv 131 [] (.sl (fun dQ=>(fun dt=>(.done (br (br (br (pr.nl dt) true false) true false) (J 0 (iZ g5 n5 c5 0 g0 n0 c0 g1 n1 c1 g2 n2 c2 g3 n3 c3 a4 dQ dt)) none)))))):=by kernel_rfl
theorem wD (g0:Bool) (n1:Nat) (c2:List D) (i3:Int) (g4:Bool) (n5:Nat) (c6:List D) (g7:Bool) (n8:Nat) (c9:List D) (g10:Bool) (dH:Nat) (dR:List D) (g13:Bool) (kB:Nat) (kX:List D) (i16:Int) (SP:Nat) (SQ:List D):bJ pr cv J 91 Tryz.f91 [.undef,.undef] 0 (iZ g0 n1 c2 i3 g4 n5 c6 g7 n8 c9 g10 dH dR g13 kB kX i16 SP SQ)=
    let y1:Nat:=(pr.idx 0 (pr.ar .sub .i64 (pr.aO c2 (pr.idx 0 i3 1)) 1) 2)
    (br (pr.lt i3 (pr.aS n1)) (br (pr.bg i3 n1) (br (br (pr.bO .i64 c2 (pr.idx 0 i3 1)) true false) (cv 69 [(.int .i64 (pr.aO c2 (pr.idx 0 i3 1))),(.int .i64 1),(.int .i64 (pr.aS dH))] (.bool (fun bK=>(.done (br bK (br (pr.bg i3 n1) (br (br (pr.bO .i64 c2 (pr.idx 0 i3 1)) true false) (br (pr.bg (pr.ar .sub .i64 (pr.aO c2 (pr.idx 0 i3 1)) 1) dH) (br (br (pr.bO .i64 dR y1) true false) (br (pr.bg i3 n1) (br (br (pr.bO .i64 c2 (pr.idx 0 i3 1)) true false) (cv 132 [(.sl (some true) 1 SP (ba true SQ)),(.int .i64 (pr.aO dR y1)),(.int .i64 (pr.aO c2 (pr.idx 0 i3 1)))] (.sl (fun Co=>(fun uO=>(.done (br (br (br (pr.nl uO) true false) true false) (J 0 (iZ g0 n1 c2 (pr.ar .add .i64 i3 1) g4 n5 c6 g7 n8 c9 g10 dH dR g13 kB kX i16 Co uO)) none)))))) none) none) none) none) none) none) (J 0 (iZ g0 n1 c2 (pr.ar .add .i64 i3 1) g4 n5 c6 g7 n8 c9 g10 dH dR g13 kB kX i16 SP SQ))))))) none) none) (some ((.sl none 1 SP SQ),[.undef,.undef]))):=by kernel_rfl
def ja (g0:Bool) (n1:Nat) (c2:List D) (i3:Int) (i4:Int) (g5:Bool) (n6:Nat) (c7:List D) (g8:Bool) (n9:Nat) (rF:List D) (g11:Bool) (fF:Nat) (ga:List D) (g14:Bool) (mI:Nat) (qL:List D) (i17:Int) (zf:Nat) (rG:List D):St:=(St.mk [(2,(.ptr 2 [] 0)),(5,(.ref 10005 [] 0 none)),(9,(.sl (some g0) 1 n1 c2)),(10,(.int .i64 i3)),(11,(.int .i64 i4))] [(2,[(.sl (some g5) 16 n6 c7),(.sl (some g8) 3 n9 rF),(.sl (some g11) 2 fF ga),(.sl (some g14) 1 mI qL),(.int .i64 i17)]),(10005,[(.sl none 1 zf rG)])] [] 0)
theorem MO:Told cfg Tryz.prog 95 Tryz.f95:=⟨by kernel_rfl,Tryz.func95,by kernel_rfl⟩
theorem MP (g0:Bool) (n0:Nat) (c0:List D) (g1:Bool) (n1:Nat) (c1:List D) (g2:Bool) (n2:Nat) (c2:List D) (g3:Bool) (n3:Nat) (c3:List D) (a4:Int) (g5:Bool) (n5:Nat) (c5:List D):aR pr cv J 95 Tryz.f95 [(.agg [(.sl (some g0) 16 n0 c0),(.sl (some g1) 3 n1 c1),(.sl (some g2) 2 n2 c2),(.sl (some g3) 1 n3 c3),(.int .i64 a4)]),(.sl (some g5) 1 n5 c5)]=
    (cv 134 [] (.sl (fun dQ=>(fun dt=>(.done (br (br (br (pr.nl dt) true false) true false) (J 0 (ja g5 n5 c5 (pr.aS n5) 0 g0 n0 c0 g1 n1 c1 g2 n2 c2 g3 n3 c3 a4 dQ dt)) none)))))):=by kernel_rfl
theorem wE (g0:Bool) (n1:Nat) (c2:List D) (i3:Int) (i4:Int) (g5:Bool) (n6:Nat) (c7:List D) (g8:Bool) (n9:Nat) (rF:List D) (g11:Bool) (fF:Nat) (ga:List D) (g14:Bool) (mI:Nat) (qL:List D) (i17:Int) (zf:Nat) (rG:List D):bJ pr cv J 95 Tryz.f95 [.undef,.undef] 0 (ja g0 n1 c2 i3 i4 g5 n6 c7 g8 n9 rF g11 fF ga g14 mI qL i17 zf rG)=
    let y1:Nat:=(pr.idx 0 (pr.ar .sub .i64 (pr.aO c2 (pr.idx 0 i4 1)) 1) 2)
    (br (pr.lt i4 i3) (br (pr.bg i4 n1) (br (br (pr.bO .i64 c2 (pr.idx 0 i4 1)) true false) (cv 75 [(.int .i64 (pr.aO c2 (pr.idx 0 i4 1))),(.int .i64 1),(.int .i64 (pr.aS fF))] (.bool (fun bK=>(.done (br bK (br (pr.bg (pr.ar .sub .i64 (pr.aO c2 (pr.idx 0 i4 1)) 1) fF) (br (br (pr.bO .i64 ga y1) true false) (cv 135 [(.sl (some true) 1 zf (ba true rG)),(.int .i64 (pr.aO ga y1)),(.int .i64 (pr.aO c2 (pr.idx 0 i4 1)))] (.sl (fun Co=>(fun uO=>(.done (br (br (br (pr.nl uO) true false) true false) (J 0 (ja g0 n1 c2 i3 (pr.ar .add .i64 i4 1) g5 n6 c7 g8 n9 rF g11 fF ga g14 mI qL i17 Co uO)) none)))))) none) none) (J 0 (ja g0 n1 c2 i3 (pr.ar .add .i64 i4 1) g5 n6 c7 g8 n9 rF g11 fF ga g14 mI qL i17 zf rG))))))) none) none) (some ((.sl none 1 zf rG),[.undef,.undef]))):=by kernel_rfl
end
def rv (xs:List Int) (k:Nat):List Int:=(List.range xs.length).map fun j=>if j < k∨xs.length≤j+k then xs.getD (xs.length - 1 - j) 0 else xs.getD j 0
theorem qM (xs:List Int) (k:Nat):(rv xs k).length=xs.length:=by simp [rv]
theorem Qp (xs:List Int) (k j:Nat) (h:j < (rv xs k).length):(rv xs k)[j]=if j < k∨xs.length≤j+k then xs.getD (xs.length - 1 - j) 0 else xs.getD j 0:=by simp [rv]
theorem aco (xs:List Int):rv xs 0=xs:=by
  apply List.ext_getElem (by rw [qM])
  intro j h1 h2
  rw [Qp,if_neg (by omega)]
  simp [List.getD_eq_getElem?_getD,h2]
theorem ae7 (xs:List Int) {k:Nat} (h:xs.length≤2*k+1):rv xs k=xs.reverse:=by
  apply List.ext_getElem (by rw [qM,List.length_reverse])
  intro j h1 h2
  rw [qM] at h1
  rw [Qp,List.getElem_reverse]
  split
  · simp [List.getD_eq_getElem?_getD,show xs.length - 1 - j < xs.length by omega]
  · have e:xs.length - 1 - j=j:=by omega
    simp [List.getD_eq_getElem?_getD,h1,e]
theorem acp (xs:List Int) {k:Nat} (h:k+(k+1) < xs.length) (h1:k < (rv xs k).length) (h2:xs.length - 1 - k < (rv xs k).length):
    ((rv xs k).set k (rv xs k)[xs.length - 1 - k]).set (xs.length - 1 - k) (rv xs k)[k]=rv xs (k+1):=by
  apply List.ext_getElem (by simp [qM])
  intro j g1 g2
  rw [qM] at g2
  rw [List.getElem_set,List.getElem_set]
  simp only [Qp]
  by_cases e1:xs.length - 1 - k=j
  · rw [if_pos e1,if_neg (by omega),if_pos (by omega)]
    congr 1
    omega
  · rw [if_neg e1]
    by_cases e2:k=j
    · rw [if_pos e2,if_neg (by omega),if_pos (by omega)]
      subst e2
      rfl
    · rw [if_neg e2]
      by_cases e3:j < k∨xs.length≤j+k
      · rw [if_pos e3,if_pos (by omega)]
      · rw [if_neg e3,if_neg (by omega)]
theorem Un (xs:List Int) (hb:xs.length < 4611686018427387904):Cm 130 [.sl none 1 xs.length (ints xs)] (.bf [],[.sl none 1 xs.length (ints xs.reverse)]):=by
  refine Cm.go xj [.sl none 0 0 []] 0 (fA ((0:Nat):Int) ((xs.length:Int) - 1 - ((0:Nat):Int)) xs.length (ints (rv xs 0))) ?_ fun J hJ=>?_
  · refine WP.loop (H:=fun k:Nat=>fA (k:Int) ((xs.length:Int) - 1 - (k:Int)) xs.length (ints (rv xs k))) (n:=xs.length / 2) (fun _=>True) (fun k hk _ ih=>WP.go _ (ih trivial) fun J hJ=>?_) (fun _=>WP.fin fun J=>?_) 0 (Nat.zero_le _) trivial
    · rw [nk]
      have hl:=qM xs k
      have e0:(xs.length:Int) - 1 - (k:Int)=((xs.length - 1 - k:Nat):Int):=by omega
      have e1:(xs.length:Int) - 1 - ((k+1:Nat):Int)=((xs.length - 1 - k:Nat):Int) - 1:=by omega
      have h1:k < (rv xs k).length:=by omega
      have h2:xs.length - 1 - k < (rv xs k).length:=by omega
      rw [e1,← acp xs (by omega) h1 h2] at hJ
      rw [e0]
      simp (disch:=first | omega | (rw [List.length_set]; omega)) only [aI,bd,bm,aZ,bA,cS,dB,Ag,dC,ints_set,dn,eZ]
      exact hJ
    · rw [nk]
      simp (disch:=omega) only [bH,ae7]
  · rw [xm]
    simp (disch:=omega) only [aB,eZ]
    rw [aco] at hJ
    have e:(xs.length:Int) - 1 - ((0:Nat):Int)=(xs.length:Int) - 1:=by omega
    rw [e] at hJ
    exact hJ
def iP (log:List fg):Nat→Int→List Int
  | 0,_=>[]
  | f+1,n=>if 1≤n∧n≤log.length then n::(if (log.getD (n - 1).toNat ⟨0,0⟩).up < n then iP log f (log.getD (n - 1).toNat ⟨0,0⟩).up else []) else []
theorem kG {log:List fg} {n:Int} (h:¬ (1≤n∧n≤log.length)):∀ f,iP log f n=[]
  | 0=>rfl
  | f+1=>by rw [iP,if_neg h]
theorem Qq {log:List fg}:∀ (f g:Nat) (n:Int),n≤f→n≤g→iP log f n=iP log g n
  | 0,g,n,hf,hg=>by rw [kG (by omega),kG (by omega)]
  | f+1,0,n,hf,hg=>by rw [kG (by omega),kG (by omega)]
  | f+1,g+1,n,hf,hg=>by
    rw [iP,iP]
    split
    · split
      · rw [Qq f g _ (by omega) (by omega)]
      · rfl
    · rfl
theorem SS {log:List fg}:∀ (f:Nat) (n:Int),((iP log f n).length:Int)≤max n 0
  | 0,n=>by simp [iP]; omega
  | f+1,n=>by
    rw [iP]
    split
    · split
      · have:=SS (log:=log) f (log.getD (n - 1).toNat ⟨0,0⟩).up
        simp only [List.length_cons]
        omega
      · simp only [List.length_cons,List.length_nil]; omega
    · simp only [List.length_nil]; omega
theorem Aj {α:Type} {l:List α} {i:Nat} (h:i < l.length) (d:α):l.getD i d=l[i]:=by simp [List.getD_eq_getElem?_getD,h]
theorem Uo {R:Type} {x y:R} (xs:List Int):br (ad.flat (ints xs)) x y=x:=by
  have:ad.flat (ints xs)=true:=by simp [ad,ints,iV]
  rw [this]; rfl
theorem agE {R:Type} {x y:R} (xs:List Int):br (ad.cell (ints xs)) x y=x:=by
  have:ad.cell (ints xs)=true:=by simp [ad,ints,dg]
  rw [this]; rfl
theorem WO {R:Type} {x y:R} (a:Int):br (ad.flat [.int .i64 a]) x y=x:=Uo [a]
section
variable (g:Bool) (w:ai) (ok:bW w)
include ok
theorem CT:∀ (f:Nat) (n:Int) (out:List Int),n≤f→(out.length:Int)+max n 0≤1048576∨¬ (1≤n∧n≤w.log.length)→
    WP 87 Tryz.f87 [.undef,.undef] 0 (o6 n g w.nodes.length (U (ab (some g)) w.nodes) g w.ay.length (U (aw (some g)) w.ay) g w.log.length (U (aK (some g)) w.log) g w.safe.length (ints w.safe) w.gen out.length (ints out)) (.sl none 1 ((iP w.log f n).reverse++out).length (ints ((iP w.log f n).reverse++out)),[.undef,.undef])
  | 0,n,out,hf,ho=>by
    refine WP.fin fun J=>?_
    rw [la,kG (by omega)]
    simp (disch:=omega) only [bH,List.reverse_nil,List.nil_append]
  | f+1,n,out,hf,ho=>by
    have Qr:=ok.log
    by_cases h1:1≤n
    · by_cases h2:n≤w.log.length
      · obtain ⟨m,rfl⟩:∃ m:Nat,n=(m:Int)+1:=⟨(n - 1).toNat,by omega⟩
        have hm:m < w.log.length:=by omega
        have e1:(m:Int)+1 - 1=(m:Int):=by omega
        have e2:ints (((m:Int)+1)::out)=.int .i64 ((m:Int)+1)::ints out:=rfl
        have e3:(((m:Int)+1)::out).length=1+out.length:=by rw [List.length_cons]; omega
        have hch:iP w.log (f+1) ((m:Int)+1)=((m:Int)+1)::(if (w.log[m]).up < (m:Int)+1 then iP w.log f (w.log[m]).up else []):=by
          rw [iP,if_pos ⟨h1,h2⟩,e1,Int.toNat_natCast,Aj hm]
        rw [hch]
        by_cases h3:(w.log[m]).up < (m:Int)+1
        · rw [if_pos h3]
          have ih:=CT f (w.log[m]).up (((m:Int)+1)::out) (by omega) (by rw [List.length_cons]; omega)
          have e4:(((m:Int)+1)::iP w.log f (w.log[m]).up).reverse++out=(iP w.log f (w.log[m]).up).reverse++(((m:Int)+1)::out):=by simp
          rw [e4]
          rw [e2,e3] at ih
          refine WP.go _ ih fun J hJ=>?_
          rw [la]
          simp (disch:=first | omega | assumption) only [aI,bd,bm,aB,aZ,xQ,ni,Ch,Uo,eu,eZ,e1,bA,pq,u9,va,vb,vd]
          exact hJ
        · rw [if_neg h3]
          refine WP.fin fun J=>?_
          rw [la]
          simp (disch:=first | omega | assumption) only [aI,bd,bm,aB,aZ,xQ,Ch,Uo,eu,eZ,e1,bA,pq,u9,va,vb,vd]
          have e5:[((m:Int)+1)].reverse++out=((m:Int)+1)::out:=rfl
          rw [e5,e2,e3]
      · refine WP.fin fun J=>?_
        rw [la,kG (by omega)]
        simp (disch:=omega) only [aI,bd,aB,aZ,ni,List.reverse_nil,List.nil_append]
    · refine WP.fin fun J=>?_
      rw [la,kG (by omega)]
      simp (disch:=omega) only [bH,List.reverse_nil,List.nil_append]
theorem CU:∀ (f:Nat) (n:Int) (out:List Int),n≤f→1≤n→n≤w.log.length→(out.length:Int)+n≤1048576→
    WP 89 Tryz.f89 [.undef,.undef] 0 (o7 n g w.nodes.length (U (ab (some g)) w.nodes) g w.ay.length (U (aw (some g)) w.ay) g w.log.length (U (aK (some g)) w.log) g w.safe.length (ints w.safe) w.gen out.length (ints out)) (.sl none 1 (out++iP w.log f n).reverse.length (ints (out++iP w.log f n).reverse),[.undef,.undef])
  | 0,n,out,hf,h1,h2,ho=>absurd hf (by omega)
  | f+1,n,out,hf,h1,h2,ho=>by
    have Qr:=ok.log
    obtain ⟨m,rfl⟩:∃ m:Nat,n=(m:Int)+1:=⟨(n - 1).toNat,by omega⟩
    have hm:m < w.log.length:=by omega
    have e1:(m:Int)+1 - 1=(m:Int):=by omega
    have e2:List.append (ints out) [.int .i64 ((m:Int)+1)]=ints (out++[(m:Int)+1]):=by simp [ints]
    have e3:(out++[(m:Int)+1]).length=out.length+1:=by simp
    have hch:iP w.log (f+1) ((m:Int)+1)=((m:Int)+1)::(if (w.log[m]).up < (m:Int)+1 then iP w.log f (w.log[m]).up else []):=by
      rw [iP,if_pos ⟨h1,h2⟩,e1,Int.toNat_natCast,Aj hm]
    rw [hch]
    have vf:∀ t,aU 75 [.int .i64 (w.log[m]).up,.int .i64 1,.int .i64 (m:Int)] t=feed t [.bool (decide (1≤(w.log[m]).up∧(w.log[m]).up≤(m:Int)))]:=fun t=>bh (Ff _ _ _) (by kernel_rfl) t
    by_cases h3:1≤(w.log[m]).up∧(w.log[m]).up≤(m:Int)
    · have ih:=CU f (w.log[m]).up (out++[(m:Int)+1]) (by omega) h3.1 (by omega) (by rw [e3]; omega)
      rw [if_pos (by omega)]
      have e4:out++((m:Int)+1)::iP w.log f (w.log[m]).up=(out++[(m:Int)+1])++iP w.log f (w.log[m]).up:=by simp
      rw [e4]
      rw [e3] at ih
      refine WP.go _ ih fun J hJ=>?_
      rw [xS]
      simp (disch:=first | omega | assumption) only [aI,bd,bm,bQ,cf,Ch,WO,eu,eZ,e1,bA,pq,u9,va,vb,vd,vf,aF,ao,decide_eq_true h3,e2]
      exact hJ
    · have e4:(if (w.log[m]).up < (m:Int)+1 then iP w.log f (w.log[m]).up else [])=[]:=by
        split
        · exact kG (by omega) f
        · rfl
      rw [e4]
      have vr:∀ t,aU 130 [.sl none 1 (out.length+1) (ints (out++[(m:Int)+1]))] t=feed t [.sl none 1 (out.length+1) (ints (out++[(m:Int)+1]).reverse)]:=fun t=>by
        have:=Un (out++[(m:Int)+1]) (by rw [e3]; omega)
        rw [e3] at this
        exact bh this (by kernel_rfl) t
      refine WP.fin fun J=>?_
      rw [xS]
      simp (disch:=first | omega | assumption) only [aI,bd,bm,bQ,cf,Ch,WO,eu,eZ,e1,bA,pq,u9,va,vb,vd,vf,aF,dc,ao,decide_eq_false h3,e2,vr,gJ,acn]
      rw [List.length_reverse,e3]
theorem Qs (n:Int):Cm 87 [.agg (bn (some g) w),.int .i64 n] (.sl none 1 (iP w.log w.log.length n).reverse.length (ints (iP w.log w.log.length n).reverse),[.undef,.undef]):=by
  have Qr:=ok.log
  have hw:=CT g w ok (max n 0).toNat n [] (by omega) (by simp only [List.length_nil]; omega)
  have hf:iP w.log (max n 0).toNat n=iP w.log w.log.length n:=by
    by_cases h:1≤n∧n≤w.log.length
    · exact Qq _ _ n (by omega) (by omega)
    · rw [kG h,kG h]
  rw [hf,List.append_nil] at hw
  refine Cm.go Qn [.undef,.undef] 0 _ hw fun J hJ=>?_
  rw [Qo]
  exact hJ
theorem Qt (n:Int):Cm 89 [.agg (bn (some g) w),.int .i64 n] (.sl none 1 (iP w.log w.log.length n).reverse.length (ints (iP w.log w.log.length n).reverse),[.undef,.undef]):=by
  have Qr:=ok.log
  by_cases h:1≤n∧n≤w.log.length
  · have hw:=CU g w ok w.log.length n [] (by omega) h.1 h.2 (by simp only [List.length_nil]; omega)
    rw [List.nil_append] at hw
    refine Cm.go CR [.undef,.undef] 0 _ hw fun J hJ=>?_
    rw [CS]
    simp only [aB,fq,aF,ao,decide_eq_true h,bQ,cf,aI]
    exact hJ
  · refine Cm.fin CR fun J=>?_
    rw [CS,kG h]
    simp only [aB,fq,aF,ao,decide_eq_false h,bQ,cf,bd]
    rfl
end
theorem Zb (g:Bool) (xs:List Int) (hb:xs.length≤17592186044416):Cm 105 [.sl (some g) 1 xs.length (ints xs)] (.sl none 1 xs.length (ints xs),[.undef]):=by
  refine Yy (e:=pM 1 8) (by kernel_rfl) ?_
  have h:(ints xs).all iV=true:=by simp [ints,iV]
  simp only [pM,h]
  rw [if_pos (by refine ⟨?_,?_,?_,?_⟩<;>first | trivial | rfl | omega)]
def wF (xs:List Int) (at_ n:Int):List Int:=if 0≤at_∧at_≤(xs.length:Int) - 1 then xs.set at_.toNat n else xs
theorem Rp (xs:List Int) (a n:Int):(wF xs a n).length=xs.length:=by
  unfold wF
  split<;>simp
theorem Up (g:Bool) (xs:List Int) (a n:Int) (hb:xs.length≤17592186044416):Cm 135 [.sl (some g) 1 xs.length (ints xs),.int .i64 a,.int .i64 n] (.sl none 1 xs.length (ints (wF xs a n)),[.undef,.undef,.undef]):=by
  have vc:∀ t,aU 105 [.sl (some g) 1 xs.length (ints xs)] t=feed t [.sl none 1 xs.length (ints xs)]:=bh (Zb g xs hb) (by kernel_rfl)
  refine Cm.fin Ul fun J=>?_
  rw [Um]
  simp (disch:=omega) only [vc,dc,aF,ao,gJ,aI,bm,aB,eZ,fq]
  unfold wF
  by_cases h:0≤a∧a≤(xs.length:Int) - 1
  · obtain ⟨m,rfl⟩:∃ m:Nat,a=(m:Int):=⟨a.toNat,by omega⟩
    rw [if_pos h]
    simp (disch:=omega) only [decide_eq_true h,aI,bA,cS,Ag,ints_set,Int.toNat_natCast]
  · rw [if_neg h]
    simp only [decide_eq_false h,bd]
theorem Uq (g:Bool) (xs:List Int) (a n:Int) (hb:xs.length≤17592186044416):Cm 132 [.sl (some g) 1 xs.length (ints xs),.int .i64 a,.int .i64 n] (.sl none 1 xs.length (ints (wF xs a n)),[.undef,.undef,.undef]):=by
  refine Cm.fin Uj fun J=>?_
  rw [Uk]
  simp (disch:=omega) only [agE,eu,Ch,Nat.zero_add,aF,ao,aI,aB,eZ,jv]
  unfold wF
  by_cases h:0≤a∧a≤(xs.length:Int) - 1
  · obtain ⟨m,rfl⟩:∃ m:Nat,a=(m:Int):=⟨a.toNat,by omega⟩
    rw [if_pos h]
    simp (disch:=omega) only [decide_eq_true h,aI,bA,cS,Ag,ints_set,Int.toNat_natCast]
  · rw [if_neg h]
    simp only [decide_eq_false h,bd]
theorem Is:Cm 134 [] (.sl none 1 8 (ints (List.replicate 8 0)),[]):=by
  refine Cm.fin Iq fun J=>?_
  rw [Ir]
  rfl
theorem It:Cm 131 [] (.sl none 1 8 (ints (List.replicate 8 0)),[]):=by
  refine Cm.fin Io fun J=>?_
  rw [Ip]
  rfl
def jI (log:List fg) (m:List Int) (n:Int):List Int:=if 1≤n∧n≤log.length then wF m (log.getD (n - 1).toNat ⟨0,0⟩).cell n else m
def rpl (log:List fg) (list:List Int):List Int:=list.foldl (jI log) (List.replicate 8 0)
theorem Ur (log:List fg) (m:List Int) (n:Int):(jI log m n).length=m.length:=by
  unfold jI
  split
  · exact Rp _ _ _
  · rfl
theorem ve (log:List fg):∀ (l:List Int) (m:List Int),(l.foldl (jI log) m).length=m.length
  | [],_=>rfl
  | x::l,m=>by rw [List.foldl_cons,ve log l,Ur]
theorem Iu {α β:Type} (f:β→α→β) (b:β) {l:List α} {i:Nat} (h:i < l.length):(l.take (i+1)).foldl f b=f ((l.take i).foldl f b) l[i]:=by
  rw [← List.take_append_getElem h,List.foldl_append]
  rfl
theorem MQ (g g':Bool) (w:ai) (ok:bW w) (list:List Int) (hl:list.length≤17592186044416) (h64:nL list):Cm 91 [.agg (bn (some g) w),.sl (some g') 1 list.length (ints list)] (.sl none 1 8 (ints (rpl w.log list)),[.undef,.undef]):=by
  have Qr:=ok.log
  have vi:∀ t,aU 131 [] t=feed t [.sl none 1 8 (ints (List.replicate 8 0))]:=bh It (by kernel_rfl)
  refine Cm.go MM [.undef,.undef] 0 (iZ g' list.length (ints list) (0:Nat) g w.nodes.length (U (ab (some g)) w.nodes) g w.ay.length (U (aw (some g)) w.ay) g w.log.length (U (aK (some g)) w.log) g w.safe.length (ints w.safe) w.gen 8 (ints ((list.take 0).foldl (jI w.log) (List.replicate 8 0)))) ?_ fun J hJ=>?_
  · refine WP.loop (H:=fun i:Nat=>iZ g' list.length (ints list) (i:Nat) g w.nodes.length (U (ab (some g)) w.nodes) g w.ay.length (U (aw (some g)) w.ay) g w.log.length (U (aK (some g)) w.log) g w.safe.length (ints w.safe) w.gen 8 (ints ((list.take i).foldl (jI w.log) (List.replicate 8 0)))) (n:=list.length) (fun _=>True) (fun i hi _ ih=>WP.go _ (ih trivial) fun J hJ=>?_) (fun _=>WP.fin fun J=>?_) 0 (Nat.zero_le _) trivial
    · rw [wD]
      rw [Iu _ _ hi] at hJ
      have hx:=Af.1 (h64 _ (List.getElem_mem hi))
      have hlen:=ve w.log (list.take i) (List.replicate 8 0)
      simp (disch:=first | omega | assumption) only [aI,bd,bm,aB,aZ,bA,cS,dB,dC,jv,aF,ao,dn]
      by_cases h:1≤list[i]∧list[i]≤(w.log.length:Int)
      · obtain ⟨m,hm⟩:∃ m:Nat,list[i]=(m:Int)+1:=⟨(list[i] - 1).toNat,by omega⟩
        have hmm:m < w.log.length:=by omega
        have e1:(m:Int)+1 - 1=(m:Int):=by omega
        have hr:jI w.log ((list.take i).foldl (jI w.log) (List.replicate 8 0)) list[i]=wF ((list.take i).foldl (jI w.log) (List.replicate 8 0)) (w.log[m]).cell list[i]:=by
          rw [jI,if_pos h,hm,e1,Int.toNat_natCast,Aj hmm]
        rw [hr] at hJ
        have e8:(8:Nat)=((list.take i).foldl (jI w.log) (List.replicate 8 0)).length:=by rw [hlen]; rfl
        have vp:∀ t,aU 132 [.sl (some true) 1 8 (ints ((list.take i).foldl (jI w.log) (List.replicate 8 0))),.int .i64 (w.log[m]).cell,.int .i64 list[i]] t=feed t [.sl none 1 8 (ints (wF ((list.take i).foldl (jI w.log) (List.replicate 8 0)) (w.log[m]).cell list[i]))]:=fun t=>by
          have:=Uq true ((list.take i).foldl (jI w.log) (List.replicate 8 0)) (w.log[m]).cell list[i] (by rw [hlen]; simp)
          rw [← e8] at this
          exact bh this (by kernel_rfl) t
        have es:ad.ar .sub .i64 list[i] 1=(m:Int):=by rw [hm,eZ (by omega) (by omega),e1]
        simp (disch:=first | omega | assumption) only [decide_eq_true h,aI,bd,bm,es,bA,pq,u9,va,vb,vd,fG,vp,dc,ao,gJ]
        exact hJ
      · have hr:jI w.log ((list.take i).foldl (jI w.log) (List.replicate 8 0)) list[i]=(list.take i).foldl (jI w.log) (List.replicate 8 0):=by rw [jI,if_neg h]
        rw [hr] at hJ
        simp only [decide_eq_false h,bd]
        exact hJ
    · rw [wD,List.take_length]
      simp (disch:=omega) only [aB,bH]
      rfl
  · rw [MN]
    simp only [vi,dc,ao,gJ,aI,bm]
    exact hJ
theorem MR (g g':Bool) (w:ai) (ok:bW w) (list:List Int) (hl:list.length≤17592186044416) (h64:nL list):Cm 95 [.agg (bn (some g) w),.sl (some g') 1 list.length (ints list)] (.sl none 1 8 (ints (rpl w.log list)),[.undef,.undef]):=by
  have Qr:=ok.log
  have vi:∀ t,aU 134 [] t=feed t [.sl none 1 8 (ints (List.replicate 8 0))]:=bh Is (by kernel_rfl)
  refine Cm.go MO [.undef,.undef] 0 (ja g' list.length (ints list) list.length (0:Nat) g w.nodes.length (U (ab (some g)) w.nodes) g w.ay.length (U (aw (some g)) w.ay) g w.log.length (U (aK (some g)) w.log) g w.safe.length (ints w.safe) w.gen 8 (ints ((list.take 0).foldl (jI w.log) (List.replicate 8 0)))) ?_ fun J hJ=>?_
  · refine WP.loop (H:=fun i:Nat=>ja g' list.length (ints list) list.length (i:Nat) g w.nodes.length (U (ab (some g)) w.nodes) g w.ay.length (U (aw (some g)) w.ay) g w.log.length (U (aK (some g)) w.log) g w.safe.length (ints w.safe) w.gen 8 (ints ((list.take i).foldl (jI w.log) (List.replicate 8 0)))) (n:=list.length) (fun _=>True) (fun i hi _ ih=>WP.go _ (ih trivial) fun J hJ=>?_) (fun _=>WP.fin fun J=>?_) 0 (Nat.zero_le _) trivial
    · rw [wE]
      rw [Iu _ _ hi] at hJ
      have hx:=Af.1 (h64 _ (List.getElem_mem hi))
      have hlen:=ve w.log (list.take i) (List.replicate 8 0)
      simp (disch:=first | omega | assumption) only [aI,bd,bm,aB,aZ,bA,cS,dB,dC,fq,aF,ao,dn]
      by_cases h:1≤list[i]∧list[i]≤(w.log.length:Int)
      · obtain ⟨m,hm⟩:∃ m:Nat,list[i]=(m:Int)+1:=⟨(list[i] - 1).toNat,by omega⟩
        have hmm:m < w.log.length:=by omega
        have e1:(m:Int)+1 - 1=(m:Int):=by omega
        have hr:jI w.log ((list.take i).foldl (jI w.log) (List.replicate 8 0)) list[i]=wF ((list.take i).foldl (jI w.log) (List.replicate 8 0)) (w.log[m]).cell list[i]:=by
          rw [jI,if_pos h,hm,e1,Int.toNat_natCast,Aj hmm]
        rw [hr] at hJ
        have e8:(8:Nat)=((list.take i).foldl (jI w.log) (List.replicate 8 0)).length:=by rw [hlen]; rfl
        have vp:∀ t,aU 135 [.sl (some true) 1 8 (ints ((list.take i).foldl (jI w.log) (List.replicate 8 0))),.int .i64 (w.log[m]).cell,.int .i64 list[i]] t=feed t [.sl none 1 8 (ints (wF ((list.take i).foldl (jI w.log) (List.replicate 8 0)) (w.log[m]).cell list[i]))]:=fun t=>by
          have:=Up true ((list.take i).foldl (jI w.log) (List.replicate 8 0)) (w.log[m]).cell list[i] (by rw [hlen]; simp)
          rw [← e8] at this
          exact bh this (by kernel_rfl) t
        have es:ad.ar .sub .i64 list[i] 1=(m:Int):=by rw [hm,eZ (by omega) (by omega),e1]
        simp (disch:=first | omega | assumption) only [decide_eq_true h,aI,bd,bm,es,bA,pq,u9,va,vb,vd,fG,vp,dc,ao,gJ]
        exact hJ
      · have hr:jI w.log ((list.take i).foldl (jI w.log) (List.replicate 8 0)) list[i]=(list.take i).foldl (jI w.log) (List.replicate 8 0):=by rw [jI,if_neg h]
        rw [hr] at hJ
        simp only [decide_eq_false h,bd]
        exact hJ
    · rw [wE,List.take_length]
      simp (disch:=omega) only [bH]
      rfl
  · rw [MP]
    simp only [vi,dc,ao,gJ,aI,bm]
    exact hJ
end Go.Proofs.YtockoilcnmljiaaGreat
namespace Go.Proofs.YtockoilcnmljiaaGreat
set_option maxRecDepth 100000
section
variable (pr:dr) (cv:Cv Rz) (J:Nat→St→Option Rz)
def my (g0:Bool) (n1:Nat) (c2:List D) (i3:Int) (i4:Int):St:=(St.mk [(0,(.sl (some g0) 1 n1 c2)),(1,(.int .i64 i3)),(5,(.int .i64 i4))] [] [] 0)
theorem Qu:Told cfg Tryz.prog 84 Tryz.f84:=⟨by kernel_rfl,Tryz.func84,by kernel_rfl⟩
theorem Qv (g0:Bool) (n0:Nat) (c0:List D) (a1:Int):aR pr cv J 84 Tryz.f84 [(.sl (some g0) 1 n0 c0),(.int .i64 a1)]=
    (J 0 (my g0 n0 c0 a1 0)):=by kernel_rfl
theorem rI (g0:Bool) (n1:Nat) (c2:List D) (i3:Int) (i4:Int):bJ pr cv J 84 Tryz.f84 [.undef,.undef] 0 (my g0 n1 c2 i3 i4)=
    (br (pr.lt i4 (pr.aS n1)) (br (pr.bg i4 n1) (br (br (pr.bO .i64 c2 (pr.idx 0 i4 1)) true false) (br (pr.eq (pr.aO c2 (pr.idx 0 i4 1)) i3) (some ((.bool true),[.undef,.undef])) (J 0 (my g0 n1 c2 i3 (pr.ar .add .i64 i4 1)))) none) none) (some ((.bool false),[.undef,.undef]))):=by kernel_rfl
def ld (g0:Bool) (n1:Nat) (c2:List D) (g3:Bool) (n4:Nat) (c5:List D) (i6:Int):St:=(St.mk [(0,(.sl (some g0) 1 n1 c2)),(1,(.sl (some g3) 1 n4 c5)),(5,(.int .i64 i6))] [] [] 0)
theorem MS:Told cfg Tryz.prog 90 Tryz.f90:=⟨by kernel_rfl,Tryz.func90,by kernel_rfl⟩
theorem MT (g0:Bool) (n0:Nat) (c0:List D) (g1:Bool) (n1:Nat) (c1:List D):aR pr cv J 90 Tryz.f90 [(.sl (some g0) 1 n0 c0),(.sl (some g1) 1 n1 c1)]=
    (J 0 (ld g0 n0 c0 g1 n1 c1 0)):=by kernel_rfl
theorem qh (g0:Bool) (n1:Nat) (c2:List D) (g3:Bool) (n4:Nat) (c5:List D) (i6:Int):bJ pr cv J 90 Tryz.f90 [.undef,.undef] 0 (ld g0 n1 c2 g3 n4 c5 i6)=
    let y1:Option (D × List D):=(some ((.bool (pr.eq (pr.aS n1) (pr.aS n4))),[.undef,.undef]))
    (br (pr.lt i6 (pr.aS n1)) (br (pr.lt i6 (pr.aS n4)) (br (pr.bg i6 n1) (br (br (pr.bO .i64 c2 (pr.idx 0 i6 1)) true false) (br (pr.bg i6 n4) (br (br (pr.bO .i64 c5 (pr.idx 0 i6 1)) true false) (br (br (pr.eq (pr.aO c2 (pr.idx 0 i6 1)) (pr.aO c5 (pr.idx 0 i6 1))) false true) (some ((.bool false),[.undef,.undef])) (J 0 (ld g0 n1 c2 g3 n4 c5 (pr.ar .add .i64 i6 1)))) none) none) none) none) y1) y1):=by kernel_rfl
theorem Qw:Told cfg Tryz.prog 81 Tryz.f81:=⟨by kernel_rfl,Tryz.func81,by kernel_rfl⟩
theorem Qx (a0:Bool):aR pr cv J 81 Tryz.f81 [(.bool a0)]=
    (br a0 (some ((.int .i64 1),[.undef])) (some ((.int .i64 0),[.undef]))):=by kernel_rfl
theorem MU:Told cfg Tryz.prog 76 Tryz.f76:=⟨by kernel_rfl,Tryz.func76,by kernel_rfl⟩
theorem MV (a0:Int):aR pr cv J 76 Tryz.f76 [(.int .i64 a0)]=
    (cv 75 [(.int .i64 a0),(.int .i64 0),(.int .i64 2)] (.bool (fun bK=>(.done (some ((.bool bK),[.undef])))))):=by kernel_rfl
theorem MW:Told cfg Tryz.prog 77 Tryz.f77:=⟨by kernel_rfl,Tryz.func77,by kernel_rfl⟩
theorem MX (a0:Int):aR pr cv J 77 Tryz.f77 [(.int .i64 a0)]=
    (cv 75 [(.int .i64 a0),(.int .i64 0),(.int .i64 7)] (.bool (fun bK=>(.done (some ((.bool bK),[.undef])))))):=by kernel_rfl
theorem Kg:Told cfg Tryz.prog 115 Tryz.f115:=⟨by kernel_rfl,Tryz.func115,by kernel_rfl⟩
theorem Kh (a0:Int):aR pr cv J 115 Tryz.f115 [(.int .i64 a0)]=
    (cv 75 [(.int .i64 a0),(.int .i64 1),(.int .i64 200)] (.bool (fun bK=>(.done (some ((.bool bK),[.undef])))))):=by kernel_rfl
theorem Rq:Told cfg Tryz.prog 171 Tryz.f171:=⟨by kernel_rfl,Tryz.func171,by kernel_rfl⟩
theorem Rr (a0:Bool) (a1:Int):aR pr cv J 171 Tryz.f171 [(.bool a0),(.int .i64 a1)]=
    (br a0 (some ((.int .i64 a1),[.undef,.undef])) (some ((.int .i64 0),[.undef,.undef]))):=by kernel_rfl
theorem Rs:Told cfg Tryz.prog 149 Tryz.f149:=⟨by kernel_rfl,Tryz.func149,by kernel_rfl⟩
theorem Rt (a0:Int):aR pr cv J 149 Tryz.f149 [(.int .i64 a0)]=
    let y1:Option (D × List D):=(some ((.int .i64 (pr.ar .sub .i64 1 a0)),[.undef]))
    (br (pr.eq a0 0) y1 (br (pr.eq a0 1) y1 (some ((.int .i64 (-1)),[.undef])))):=by kernel_rfl
theorem Ru:Told cfg Tryz.prog 148 Tryz.f148:=⟨by kernel_rfl,Tryz.func148,by kernel_rfl⟩
theorem Rv (a0:Int):aR pr cv J 148 Tryz.f148 [(.int .i64 a0)]=
    (cv 69 [(.int .i64 a0),(.int .i64 0),(.int .i64 1)] (.bool (fun bK=>(.done (br bK (some ((.int .i64 (pr.ar .sub .i64 1 a0)),[.undef])) (some ((.int .i64 (-1)),[.undef]))))))):=by kernel_rfl
def j5 (g0:Bool) (n1:Nat) (c2:List D) (i3:Int):St:=(St.mk [(0,(.sl (some g0) 1 n1 c2)),(3,(.int .i64 i3))] [] [] 0)
theorem Ki:Told cfg Tryz.prog 136 Tryz.f136:=⟨by kernel_rfl,Tryz.func136,by kernel_rfl⟩
theorem Kj (g0:Bool) (n0:Nat) (c0:List D):aR pr cv J 136 Tryz.f136 [(.sl (some g0) 1 n0 c0)]=
    (J 0 (j5 g0 n0 c0 0)):=by kernel_rfl
theorem pv (g0:Bool) (n1:Nat) (c2:List D) (i3:Int):bJ pr cv J 136 Tryz.f136 [.undef] 0 (j5 g0 n1 c2 i3)=
    let y1:Option (D × List D):=(some ((.bool false),[.undef]))
    let y2:Option Rz:=(J 0 (j5 g0 n1 c2 (pr.ar .add .i64 i3 1)))
    (br (pr.lt i3 (pr.aS n1)) (br (pr.bg i3 n1) (br (br (pr.bO .i64 c2 (pr.idx 0 i3 1)) true false) (cv 69 [(.int .i64 (pr.aO c2 (pr.idx 0 i3 1))),(.int .i64 0),(.int .i64 7)] (.bool (fun bK=>(.done (br (br bK false true) y1 (br (pr.lt 0 i3) (br (pr.bg (pr.ar .sub .i64 i3 1) n1) (br (br (pr.bO .i64 c2 (pr.idx 0 (pr.ar .sub .i64 i3 1) 1)) true false) (br (pr.bg i3 n1) (br (br (pr.bO .i64 c2 (pr.idx 0 i3 1)) true false) (br (pr.le (pr.aO c2 (pr.idx 0 i3 1)) (pr.aO c2 (pr.idx 0 (pr.ar .sub .i64 i3 1) 1))) y1 y2) none) none) none) none) y2)))))) none) none) (some ((.bool true),[.undef]))):=by kernel_rfl
def j6 (g0:Bool) (n1:Nat) (c2:List D) (i3:Int) (i4:Int):St:=(St.mk [(0,(.sl (some g0) 1 n1 c2)),(5,(.sl (some g0) 1 n1 c2)),(6,(.int .i64 i3)),(7,(.int .i64 i4))] [] [] 0)
theorem Kk:Told cfg Tryz.prog 145 Tryz.f145:=⟨by kernel_rfl,Tryz.func145,by kernel_rfl⟩
theorem Kl (g0:Bool) (n0:Nat) (c0:List D):aR pr cv J 145 Tryz.f145 [(.sl (some g0) 1 n0 c0)]=
    (J 0 (j6 g0 n0 c0 (pr.aS n0) 0)):=by kernel_rfl
theorem pw (g0:Bool) (n1:Nat) (c2:List D) (i3:Int) (i4:Int):bJ pr cv J 145 Tryz.f145 [.undef] 0 (j6 g0 n1 c2 i3 i4)=
    let y1:Option (D × List D):=(some ((.bool false),[.undef]))
    let y2:Option Rz:=(J 0 (j6 g0 n1 c2 i3 (pr.ar .add .i64 i4 1)))
    (br (pr.lt i4 i3) (br (pr.bg i4 n1) (br (br (pr.bO .i64 c2 (pr.idx 0 i4 1)) true false) (cv 77 [(.int .i64 (pr.aO c2 (pr.idx 0 i4 1)))] (.bool (fun bK=>(.done (br (br bK false true) y1 (br (pr.lt 0 i4) (br (pr.bg (pr.ar .sub .i64 i4 1) n1) (br (br (pr.bO .i64 c2 (pr.idx 0 (pr.ar .sub .i64 i4 1) 1)) true false) (br (pr.le (pr.aO c2 (pr.idx 0 i4 1)) (pr.aO c2 (pr.idx 0 (pr.ar .sub .i64 i4 1) 1))) y1 y2) none) none) y2)))))) none) none) (some ((.bool true),[.undef]))):=by kernel_rfl
def lf (g0:Bool) (n1:Nat) (c2:List D) (i3:Int):St:=(St.mk [(0,(.sl (some g0) 1 n1 c2)),(3,(.int .i64 i3))] [] [] 0)
theorem MY:Told cfg Tryz.prog 137 Tryz.f137:=⟨by kernel_rfl,Tryz.func137,by kernel_rfl⟩
theorem MZ (g0:Bool) (n0:Nat) (c0:List D):aR pr cv J 137 Tryz.f137 [(.sl (some g0) 1 n0 c0)]=
    (J 0 (lf g0 n0 c0 0)):=by kernel_rfl
theorem qi (g0:Bool) (n1:Nat) (c2:List D) (i3:Int):bJ pr cv J 137 Tryz.f137 [.undef] 0 (lf g0 n1 c2 i3)=
    let y1:Option (D × List D):=(some ((.bool false),[.undef]))
    (br (pr.lt i3 (pr.aS n1)) (br (pr.bg i3 n1) (br (br (pr.bO .i64 c2 (pr.idx 0 i3 1)) true false) (cv 69 [(.int .i64 (pr.aO c2 (pr.idx 0 i3 1))),(.int .i64 1),(.int .i64 100000)] (.bool (fun bK=>(.done (br (br bK false true) y1 (br (pr.wa 0 i3 n1) (br (pr.bg i3 n1) (br (br (pr.bO .i64 c2 (pr.idx 0 i3 1)) true false) (cv 84 [(.sl (some g0) 1 (pr.nK i3 0) (List.take (Nat.mul (pr.nK i3 0) 1) (List.drop (Nat.mul (pr.hZ 0) 1) c2))),(.int .i64 (pr.aO c2 (pr.idx 0 i3 1)))] (.bool (fun eQ=>(.done (br eQ y1 (J 0 (lf g0 n1 c2 (pr.ar .add .i64 i3 1)))))))) none) none) none)))))) none) none) (some ((.bool (pr.le (pr.aS n1) 12)),[.undef]))):=by kernel_rfl
def lg (g0:Bool) (n1:Nat) (c2:List D) (i3:Int) (i4:Int):St:=(St.mk [(0,(.sl (some g0) 1 n1 c2)),(5,(.sl (some g0) 1 n1 c2)),(6,(.int .i64 i3)),(7,(.int .i64 i4))] [] [] 0)
theorem M0:Told cfg Tryz.prog 142 Tryz.f142:=⟨by kernel_rfl,Tryz.func142,by kernel_rfl⟩
theorem M1 (g0:Bool) (n0:Nat) (c0:List D):aR pr cv J 142 Tryz.f142 [(.sl (some g0) 1 n0 c0)]=
    (J 0 (lg g0 n0 c0 (pr.aS n0) 0)):=by kernel_rfl
theorem qj (g0:Bool) (n1:Nat) (c2:List D) (i3:Int) (i4:Int):bJ pr cv J 142 Tryz.f142 [.undef] 0 (lg g0 n1 c2 i3 i4)=
    let y1:Option (D × List D):=(some ((.bool false),[.undef]))
    (br (pr.lt i4 i3) (br (pr.bg i4 n1) (br (br (pr.bO .i64 c2 (pr.idx 0 i4 1)) true false) (cv 75 [(.int .i64 (pr.aO c2 (pr.idx 0 i4 1))),(.int .i64 1),(.int .i64 100000)] (.bool (fun bK=>(.done (br (br bK false true) y1 (br (pr.wa 0 i4 n1) (cv 86 [(.sl (some g0) 1 (pr.nK i4 0) (List.take (Nat.mul (pr.nK i4 0) 1) (List.drop (Nat.mul (pr.hZ 0) 1) c2))),(.int .i64 (pr.aO c2 (pr.idx 0 i4 1)))] (.bool (fun eQ=>(.done (br eQ y1 (J 0 (lg g0 n1 c2 i3 (pr.ar .add .i64 i4 1)))))))) none)))))) none) none) (some ((.bool (pr.le (pr.aS n1) 12)),[.undef]))):=by kernel_rfl
def j7 (g0:Bool) (n1:Nat) (c2:List D) (i3:Int):St:=(St.mk [(0,(.sl (some g0) 1 n1 c2)),(3,(.int .i64 i3))] [] [] 0)
theorem Km:Told cfg Tryz.prog 99 Tryz.f99:=⟨by kernel_rfl,Tryz.func99,by kernel_rfl⟩
theorem Kn (g0:Bool) (n0:Nat) (c0:List D):aR pr cv J 99 Tryz.f99 [(.sl (some g0) 1 n0 c0)]=
    (J 0 (j7 g0 n0 c0 0)):=by kernel_rfl
theorem px (g0:Bool) (n1:Nat) (c2:List D) (i3:Int):bJ pr cv J 99 Tryz.f99 [.undef] 0 (j7 g0 n1 c2 i3)=
    (br (pr.lt i3 (pr.aS n1)) (br (pr.bg i3 n1) (br (br (pr.bO .i64 c2 (pr.idx 0 i3 1)) true false) (cv 69 [(.int .i64 (pr.aO c2 (pr.idx 0 i3 1))),(.int .i64 0),(.int .i64 200)] (.bool (fun bK=>(.done (br (br bK false true) (some ((.bool false),[.undef])) (J 0 (j7 g0 n1 c2 (pr.ar .add .i64 i3 1)))))))) none) none) (some ((.bool (pr.eq (pr.aS n1) 8)),[.undef]))):=by kernel_rfl
theorem wG:Told cfg Tryz.prog 86 Tryz.f86:=⟨by kernel_rfl,Tryz.func86,by kernel_rfl⟩
theorem wH (g0:Bool) (n0:Nat) (c0:List D) (a1:Int):aR pr cv J 86 Tryz.f86 [(.sl (some g0) 1 n0 c0),(.int .i64 a1)]=
    (cv 128 [(.sl (some g0) 1 n0 c0),(.int .i64 a1)] (.int (fun dA=>(.done (some ((.bool (pr.le 0 dA)),[.undef,.undef])))))):=by kernel_rfl
def fP (g0:Bool) (n1:Nat) (c2:List D) (i3:Int) (i4:Int) (i5:Int):St:=(St.mk [(0,(.sl (some g0) 1 n1 c2)),(1,(.int .i64 i3)),(7,(.int .i64 i4)),(8,(.int .i64 i5))] [] [] 0)
theorem zg:Told cfg Tryz.prog 128 Tryz.f128:=⟨by kernel_rfl,Tryz.func128,by kernel_rfl⟩
theorem zh (g0:Bool) (n0:Nat) (c0:List D) (a1:Int):aR pr cv J 128 Tryz.f128 [(.sl (some g0) 1 n0 c0),(.int .i64 a1)]=
    (J 0 (fP g0 n0 c0 a1 (pr.aS n0) 0)):=by kernel_rfl
theorem j8 (g0:Bool) (n1:Nat) (c2:List D) (i3:Int) (i4:Int) (i5:Int):bJ pr cv J 128 Tryz.f128 [.undef,.undef] 0 (fP g0 n1 c2 i3 i4 i5)=
    (br (pr.lt i5 i4) (br (pr.bg i5 n1) (br (br (pr.bO .i64 c2 (pr.idx 0 i5 1)) true false) (br (pr.eq i3 (pr.aO c2 (pr.idx 0 i5 1))) (some ((.int .i64 i5),[.undef,.undef])) (J 0 (fP g0 n1 c2 i3 i4 (pr.ar .add .i64 i5 1)))) none) none) (some ((.int .i64 (-1)),[.undef,.undef]))):=by kernel_rfl
def fQ (g0:Bool) (n1:Nat) (c2:List D) (g3:Bool) (n4:Nat) (c5:List D) (i6:Int) (i7:Int):St:=(St.mk [(0,(.sl (some g0) 1 n1 c2)),(1,(.sl (some g3) 1 n4 c5)),(12,(.int .i64 i6)),(13,(.int .i64 i7))] [] [] 0)
theorem qN:Told cfg Tryz.prog 94 Tryz.f94:=⟨by kernel_rfl,Tryz.func94,by kernel_rfl⟩
theorem qO (g0:Bool) (n0:Nat) (c0:List D) (g1:Bool) (n1:Nat) (c1:List D):aR pr cv J 94 Tryz.f94 [(.sl (some g0) 1 n0 c0),(.sl (some g1) 1 n1 c1)]=
    (br (br (pr.eq (pr.aS n0) (pr.aS n1)) false true) (some ((.bool false),[.undef,.undef])) (J 0 (fQ g0 n0 c0 g1 n1 c1 (pr.aS n0) 0))):=by kernel_rfl
theorem j9 (g0:Bool) (n1:Nat) (c2:List D) (g3:Bool) (n4:Nat) (c5:List D) (i6:Int) (i7:Int):bJ pr cv J 94 Tryz.f94 [.undef,.undef] 0 (fQ g0 n1 c2 g3 n4 c5 i6 i7)=
    (br (pr.lt i7 i6) (br (pr.bg i7 n1) (br (br (pr.bO .i64 c2 (pr.idx 0 i7 1)) true false) (br (pr.bg i7 n4) (br (br (pr.bO .i64 c5 (pr.idx 0 i7 1)) true false) (br (br (pr.eq (pr.aO c2 (pr.idx 0 i7 1)) (pr.aO c5 (pr.idx 0 i7 1))) false true) (some ((.bool false),[.undef,.undef])) (J 0 (fQ g0 n1 c2 g3 n4 c5 i6 (pr.ar .add .i64 i7 1)))) none) none) none) none) (some ((.bool true),[.undef,.undef]))):=by kernel_rfl
theorem M3:Told cfg Tryz.prog 160 Tryz.f160:=⟨by kernel_rfl,Tryz.func160,by kernel_rfl⟩
theorem M4 (g0:Bool) (n0:Nat) (c0:List D) (g1:Bool) (n1:Nat) (c1:List D):aR pr cv J 160 Tryz.f160 [(.sl (some g0) 1 n0 c0),(.sl (some g1) 1 n1 c1)]=
    (br (pr.sY c0) (br (pr.sY c1) (some ((.bool (pr.seq (pr.BV c0) (pr.BV c1))),[.undef,.undef])) none) none):=by kernel_rfl
theorem F8:Told cfg Tryz.prog 141 Tryz.f141:=⟨by kernel_rfl,Tryz.func141,by kernel_rfl⟩
theorem F9 (a0:Int):aR pr cv J 141 Tryz.f141 [(.int .i64 a0)]=
    (cv 75 [(.int .i64 a0),(.int .i64 0),(.int .i64 200)] (.bool (fun bK=>(.done (some ((.bool (br bK false true)),[.undef])))))):=by kernel_rfl
theorem Ec:Told cfg Tryz.prog 144 Tryz.f144:=⟨by kernel_rfl,Tryz.func144,by kernel_rfl⟩
theorem Ed (g0:Bool) (n0:Nat) (c0:List D):aR pr cv J 144 Tryz.f144 [(.sl (some g0) 1 n0 c0)]=
    (cv 145 [(.sl (some g0) 1 n0 c0)] (.bool (fun bK=>(.done (some ((.bool (br bK false true)),[.undef])))))):=by kernel_rfl
theorem Iv:Told cfg Tryz.prog 112 Tryz.f112:=⟨by kernel_rfl,Tryz.func112,by kernel_rfl⟩
theorem Iw (g0:Bool) (n0:Nat) (c0:List D):aR pr cv J 112 Tryz.f112 [(.sl (some g0) 1 n0 c0)]=
    (br (pr.eq (pr.aS n0) 3) (cv 143 [(.sl (some g0) 1 n0 c0),(.fn 144 [])] (.bool (fun bK=>(.done (some ((.bool (br bK false true)),[.undef])))))) (some ((.bool false),[.undef]))):=by kernel_rfl
theorem Ko:Told cfg Tryz.prog 110 Tryz.f110:=⟨by kernel_rfl,Tryz.func110,by kernel_rfl⟩
theorem Kp (g0:Bool) (n0:Nat) (c0:List D):aR pr cv J 110 Tryz.f110 [(.sl (some g0) 1 n0 c0)]=
    (br (pr.eq (pr.aS n0) 8) (cv 124 [(.sl (some g0) 1 n0 c0),(.fn 141 [])] (.bool (fun bK=>(.done (some ((.bool (br bK false true)),[.undef])))))) (some ((.bool false),[.undef]))):=by kernel_rfl
theorem pO:Told cfg Tryz.prog 124 Tryz.f124:=⟨by kernel_rfl,Tryz.func124,by kernel_rfl⟩
theorem pP (g0:Bool) (n0:Nat) (c0:List D):aR pr cv J 124 Tryz.f124 [(.sl (some g0) 1 n0 c0),(.fn 141 [])]=
    (cv 150 [(.sl (some g0) 1 n0 c0),(.fn 141 [])] (.int (fun dA=>(.done (some ((.bool (pr.le 0 dA)),[.undef,.undef])))))):=by kernel_rfl
def ed (g0:Bool) (n1:Nat) (c2:List D) (i3:Int) (i4:Int):St:=(St.mk [(0,(.sl (some g0) 1 n1 c2)),(1,(.fn 141 [])),(7,(.int .i64 i3)),(8,(.int .i64 i4))] [] [] 0)
theorem rJ:Told cfg Tryz.prog 150 Tryz.f150:=⟨by kernel_rfl,Tryz.func150,by kernel_rfl⟩
theorem rK (g0:Bool) (n0:Nat) (c0:List D):aR pr cv J 150 Tryz.f150 [(.sl (some g0) 1 n0 c0),(.fn 141 [])]=
    (J 0 (ed g0 n0 c0 (pr.aS n0) 0)):=by kernel_rfl
theorem gj (g0:Bool) (n1:Nat) (c2:List D) (i3:Int) (i4:Int):bJ pr cv J 150 Tryz.f150 [.undef,.undef] 0 (ed g0 n1 c2 i3 i4)=
    (br (pr.lt i4 i3) (br (pr.bg i4 n1) (br (br (pr.bO .i64 c2 (pr.idx 0 i4 1)) true false) (cv 141 [(.int .i64 (pr.aO c2 (pr.idx 0 i4 1)))] (.bool (fun bK=>(.done (br bK (some ((.int .i64 i4),[.undef,.undef])) (J 0 (ed g0 n1 c2 i3 (pr.ar .add .i64 i4 1)))))))) none) none) (some ((.int .i64 (-1)),[.undef,.undef]))):=by kernel_rfl
theorem pQ:Told cfg Tryz.prog 143 Tryz.f143:=⟨by kernel_rfl,Tryz.func143,by kernel_rfl⟩
theorem pR (g0:Bool) (n0:Nat) (c0:List D):aR pr cv J 143 Tryz.f143 [(.sl (some g0) 1 n0 c0),(.fn 144 [])]=
    (cv 153 [(.sl (some g0) 1 n0 c0),(.fn 144 [])] (.int (fun dA=>(.done (some ((.bool (pr.le 0 dA)),[.undef,.undef])))))):=by kernel_rfl
def ef (g0:Bool) (n1:Nat) (c2:List D) (i3:Int) (i4:Int):St:=(St.mk [(0,(.sl (some g0) 1 n1 c2)),(1,(.fn 144 [])),(7,(.int .i64 i3)),(8,(.int .i64 i4))] [] [] 0)
theorem rL:Told cfg Tryz.prog 153 Tryz.f153:=⟨by kernel_rfl,Tryz.func153,by kernel_rfl⟩
theorem rM (g0:Bool) (n0:Nat) (c0:List D):aR pr cv J 153 Tryz.f153 [(.sl (some g0) 1 n0 c0),(.fn 144 [])]=
    (J 0 (ef g0 n0 c0 (pr.aS n0) 0)):=by kernel_rfl
theorem gk (g0:Bool) (n1:Nat) (c2:List D) (i3:Int) (i4:Int):bJ pr cv J 153 Tryz.f153 [.undef,.undef] 0 (ef g0 n1 c2 i3 i4)=
    (br (pr.lt i4 i3) (br (pr.bg i4 n1) (br (br (pr.aN 1 c2 (pr.idx 0 i4 1)) true false) (cv 144 [(.sl (some (pr.aH c2 (pr.idx 0 i4 1))) 1 (pr.aC c2 (pr.idx 0 i4 1)) (pr.aE c2 (pr.idx 0 i4 1)))] (.bool (fun bK=>(.done (br bK (some ((.int .i64 i4),[.undef,.undef])) (J 0 (ef g0 n1 c2 i3 (pr.ar .add .i64 i4 1)))))))) none) none) (some ((.int .i64 (-1)),[.undef,.undef]))):=by kernel_rfl
end
theorem WP.scan {f:FuncId} {fn:Func} {sk:List D} {j:Nat} {H:Nat→St} {n:Nat} (p:Nat→Bool) {bad rE:Rz} (Hb:∀ i r,i < n→p i=true→WP f fn sk j (H (i+1)) r→WP f fn sk j (H i) r) (Zc:∀ i,i < n→p i=false→WP f fn sk j (H i) bad) (Zd:WP f fn sk j (H n) rE):WP f fn sk j (H 0) (if (List.range n).all p then rE else bad):=by
  have key:∀ k i,i+k=n→WP f fn sk j (H i) (if ((List.range n).drop i).all p then rE else bad):=by
    intro k
    induction k with
    | zero=>
      intro i hi
      obtain rfl:i=n:=by omega
      rw [List.drop_of_length_le (by simp)]
      exact Zd
    | succ k ih=>
      intro i hi
      have dp:i < (List.range n).length:=by simp; omega
      have e:((List.range n).drop i).all p=(p i&&((List.range n).drop (i+1)).all p):=by
        rw [← List.getElem_cons_drop dp]
        simp
      rw [e]
      cases hp:p i with
      | true=>
        rw [Bool.true_and]
        exact Hb i _ (by omega) hp (ih (i+1) (by omega))
      | false=>
        rw [Bool.false_and]
        exact Zc i (by omega) hp
  exact key n 0 (by omega)
theorem cb {α:Type} {l:List α} {i:Nat} (h:i < l.length) {d:α}:l.getD i d=l[i]:=by simp [List.getD_eq_getElem?_getD,h]
theorem Ze {α:Type} (p:α→Bool) (d:α) (xs:List α):((List.range xs.length).all fun i=>p (xs.getD i d))=xs.all p:=by
  rw [Bool.eq_iff_iff,List.all_eq_true,List.all_eq_true]
  constructor
  · intro h x hx
    obtain ⟨i,hi,rfl⟩:=List.mem_iff_getElem.1 hx
    have:=h i (List.mem_range.2 hi)
    rwa [cb hi] at this
  · intro h i hi
    rw [cb (List.mem_range.1 hi)]
    exact h _ (List.getElem_mem _)
def Rz.bool (b:Bool) (k:Nat):Rz:=(.bool b,List.replicate k .undef)
theorem SU (g:Bool) (xs:List Int) (a:Int) (hb:xs.length < 4611686018427387904):Cm 84 [.sl (some g) 1 xs.length (ints xs),.int .i64 a] (.bool (decide (a∈xs)),[.undef,.undef]):=by
  have e0:(Rz.bool (decide (a∈xs)) 2)=(if (List.range xs.length).all fun i=>!(xs.getD i 0==a) then Rz.bool false 2 else Rz.bool true 2):=by
    rw [Ze (fun x=>!(x==a))]
    by_cases h:a∈xs
    · have:(xs.all fun x=>!(x==a))=false:=by
        rw [List.all_eq_false]
        exact ⟨a,h,by simp⟩
      simp [this,h]
    · have:(xs.all fun x=>!(x==a))=true:=by
        rw [List.all_eq_true]
        intro x hx
        have:x≠a:=fun e=>h (e▸hx)
        simp [this]
      simp [this,h]
  show Cm _ _ (Rz.bool (decide (a∈xs)) 2)
  rw [e0]
  refine Cm.go Qu [.undef,.undef] 0 (my g xs.length (ints xs) a (0:Nat)) ?_ fun J hJ=>?_
  · refine WP.scan (H:=fun i:Nat=>my g xs.length (ints xs) a (i:Nat)) _ (fun i r hi hp ih=>WP.go _ ih fun J hJ=>?_) (fun i hi hp=>WP.fin fun J=>?_) (WP.fin fun J=>?_)
    · rw [rI]
      rw [cb hi] at hp
      have db:xs[i]≠a:=by simpa using hp
      simp (disch:=first | omega | assumption) only [aI,bd,bm,aB,aZ,bA,cS,dB,dC,eA,dn]
      exact hJ
    · rw [rI]
      rw [cb hi] at hp
      have he:xs[i]=a:=by simpa using hp
      simp (disch:=first | omega | assumption) only [aI,bd,bm,aB,aZ,bA,cS,dB,dC,gq]
      rfl
    · rw [rI]
      simp (disch:=omega) only [aB,bH]
      rfl
  · rw [Qv]
    exact hJ
def Kq (xs:List Int) (a:Int):Int:=if a∈xs then (xs.idxOf a:Int) else -1
theorem acq (g:Bool) (xs:List Int) (a:Int) (hb:xs.length < 4611686018427387904):Cm 128 [.sl (some g) 1 xs.length (ints xs),.int .i64 a] (.int .i64 (Kq xs a),[.undef,.undef]):=by
  refine Cm.go zg [.undef,.undef] 0 (fP g xs.length (ints xs) a xs.length (0:Nat)) ?_ fun J hJ=>?_
  · refine WP.loop (H:=fun i:Nat=>fP g xs.length (ints xs) a xs.length (i:Nat)) (n:=xs.length) (fun i=>a∉xs.take i) (fun i hi hv ih=>?_) (fun hv=>WP.fin fun J=>?_) 0 (Nat.zero_le _) (by simp)
    · by_cases he:a=xs[i]
      · refine WP.fin fun J=>?_
        rw [j8]
        have hm:a∈xs:=he▸List.getElem_mem hi
        have hix:xs.idxOf a=i:=by
          have e1:xs=xs.take i++xs[i]::xs.drop (i+1):=by rw [List.getElem_cons_drop hi,List.take_append_drop]
          rw [e1,List.idxOf_append,if_neg hv,he,List.idxOf_cons_self,List.length_take]
          omega
        unfold Kq
        rw [if_pos hm,hix]
        simp (disch:=first | omega | assumption) only [aI,bd,bm,aZ,bA,cS,dB,dC,gq]
      · refine WP.go _ (ih (by
          rw [← List.take_append_getElem hi]
          simp only [List.mem_append,List.mem_singleton,not_or]
          exact ⟨hv,he⟩)) fun J hJ=>?_
        rw [j8]
        simp (disch:=first | omega | assumption) only [aI,bd,bm,aZ,bA,cS,dB,dC,eA,dn]
        exact hJ
    · rw [j8]
      rw [List.take_length] at hv
      unfold Kq
      rw [if_neg hv]
      simp (disch:=omega) only [bH]
  · rw [zh]
    exact hJ
theorem Ix (g:Bool) (xs:List Int) (a:Int) (hb:xs.length < 4611686018427387904):Cm 86 [.sl (some g) 1 xs.length (ints xs),.int .i64 a] (.bool (decide (a∈xs)),[.undef,.undef]):=by
  refine Cm.fin wG fun J=>?_
  rw [wH]
  have:=bh (acq g xs a hb) (by kernel_rfl)
  simp only [this,ao,Ad]
  have e:decide (0≤Kq xs a)=decide (a∈xs):=by
    unfold Kq
    by_cases h:a∈xs<;>simp [h]
  show some (D.bool (decide (0≤Kq xs a)),_)=_
  rw [e]
section
variable (t:bS Rz)
theorem SV (g:Bool) (xs:List Int) (a:Int) (n:Nat) (hn:n=xs.length) (hb:xs.length < 4611686018427387904):aU 84 [.sl (some g) 1 n (ints xs),.int .i64 a] t=feed t [.bool (decide (a∈xs))]:=by subst hn; exact bh (SU g xs a hb) (by kernel_rfl) t
theorem Iy (g:Bool) (xs:List Int) (a:Int) (n:Nat) (hn:n=xs.length) (hb:xs.length < 4611686018427387904):aU 86 [.sl (some g) 1 n (ints xs),.int .i64 a] t=feed t [.bool (decide (a∈xs))]:=by subst hn; exact bh (Ix g xs a hb) (by kernel_rfl) t
end
theorem Zf (a:Int):Cm 76 [.int .i64 a] (.bool (decide (0≤a∧a≤2)),[.undef]):=by
  refine Cm.fin MU fun J=>?_
  rw [MV]
  simp only [fq,aF,ao]
theorem Qy (a:Int):Cm 77 [.int .i64 a] (.bool (decide (0≤a∧a≤7)),[.undef]):=by
  refine Cm.fin MW fun J=>?_
  rw [MX]
  simp only [fq,aF,ao]
theorem WQ (a:Int):Cm 115 [.int .i64 a] (.bool (decide (1≤a∧a≤200)),[.undef]):=by
  refine Cm.fin Kg fun J=>?_
  rw [Kh]
  simp only [fq,aF,ao]
def lU (a:Int):Int:=if a=0∨a=1 then 1 - a else -1
theorem Rw (a:Int):Cm 149 [.int .i64 a] (.int .i64 (lU a),[.undef]):=by
  refine Cm.fin Rs fun J=>?_
  rw [Rt]
  unfold lU
  by_cases h0:a=0
  · subst h0; rfl
  · by_cases h1:a=1
    · subst h1; rfl
    · rw [if_neg (by omega)]
      simp (disch:=omega) only [eA]
section
variable (t:bS Rz)
theorem Ak (a:Int):aU 77 [.int .i64 a] t=feed t [.bool (decide (0≤a∧a≤7))]:=bh (Qy a) (by kernel_rfl) t
end
theorem Rx (a:Int):Cm 148 [.int .i64 a] (.int .i64 (lU a),[.undef]):=by
  refine Cm.fin Ru fun J=>?_
  rw [Rv]
  simp only [jv,aF,ao]
  unfold lU
  by_cases h0:a=0
  · subst h0; rfl
  · by_cases h1:a=1
    · subst h1; rfl
    · rw [if_neg (by omega),decide_eq_false (by omega)]
      rfl
def wI (xs:List Int) (i:Nat):Bool:=decide (0≤xs.getD i 0∧xs.getD i 0≤7)&&(decide (i=0)||decide (xs.getD (i - 1) 0 < xs.getD i 0))
def fW (xs:List Int):Bool:=(List.range xs.length).all (wI xs)
theorem zi {b:Bool} {outs:List D}:(if b=true then ((D.bool true,outs):Rz) else (D.bool false,outs))=(D.bool b,outs):=by cases b<;>rfl
theorem zj (g:Bool) (xs:List Int) (hb:xs.length < 4611686018427387904):Cm 136 [.sl (some g) 1 xs.length (ints xs)] (.bool (fW xs),[.undef]):=by
  rw [← zi]
  refine Cm.go Ki [.undef] 0 (j5 g xs.length (ints xs) (0:Nat)) ?_ fun J hJ=>?_
  · refine WP.scan (H:=fun i:Nat=>j5 g xs.length (ints xs) (i:Nat)) (wI xs) (fun i r hi hp ih=>WP.go _ ih fun J hJ=>?_) (fun i hi hp=>WP.fin fun J=>?_) (WP.fin fun J=>?_)
    · rw [pv]
      unfold wI at hp
      rw [cb hi] at hp
      simp only [Bool.and_eq_true,decide_eq_true_eq,Bool.or_eq_true] at hp
      by_cases h0:i=0
      · subst h0
        simp (disch:=first | omega | assumption) only [aI,bd,bm,bQ,cf,aB,aZ,bH,bA,cS,dB,dC,jv,aF,ao,decide_eq_true hp.1,dn]
        exact hJ
      · obtain ⟨k,rfl⟩:∃ k,i=k+1:=⟨i - 1,by omega⟩
        have hk:k < xs.length:=by omega
        have e1:((k+1:Nat):Int) - 1=(k:Int):=by omega
        have Sb:xs[k] < xs[k+1]:=by
          have:=hp.2.resolve_left h0
          rwa [Nat.add_sub_cancel,cb hk] at this
        simp (disch:=first | omega | assumption) only [aI,bd,bm,bQ,cf,aB,aZ,bA,cS,dB,dC,jv,aF,ao,decide_eq_true hp.1,eZ,e1,ni,dn]
        exact hJ
    · rw [pv]
      unfold wI at hp
      rw [cb hi] at hp
      by_cases hc:0≤xs[i]∧xs[i]≤7
      · rw [decide_eq_true hc,Bool.true_and,Bool.or_eq_false_iff,decide_eq_false_iff_not,decide_eq_false_iff_not] at hp
        obtain ⟨k,rfl⟩:∃ k,i=k+1:=⟨i - 1,by omega⟩
        have hk:k < xs.length:=by omega
        have e1:((k+1:Nat):Int) - 1=(k:Int):=by omega
        have Sb:xs[k+1]≤xs[k]:=by
          have:=hp.2
          rw [Nat.add_sub_cancel,cb hk] at this
          omega
        simp (disch:=first | omega | assumption) only [aI,bd,bm,bQ,cf,aB,aZ,bA,cS,dB,dC,jv,aF,ao,decide_eq_true hc,eZ,e1,xQ]
      · simp (disch:=first | omega | assumption) only [aI,bd,bm,bQ,cf,aB,aZ,bA,cS,dB,dC,jv,aF,ao,decide_eq_false hc]
    · rw [pv]
      simp (disch:=omega) only [aB,bH]
  · rw [Kj]
    exact hJ
theorem zk (g:Bool) (xs:List Int) (hb:xs.length < 4611686018427387904):Cm 145 [.sl (some g) 1 xs.length (ints xs)] (.bool (fW xs),[.undef]):=by
  rw [← zi]
  refine Cm.go Kk [.undef] 0 (j6 g xs.length (ints xs) xs.length (0:Nat)) ?_ fun J hJ=>?_
  · refine WP.scan (H:=fun i:Nat=>j6 g xs.length (ints xs) xs.length (i:Nat)) (wI xs) (fun i r hi hp ih=>WP.go _ ih fun J hJ=>?_) (fun i hi hp=>WP.fin fun J=>?_) (WP.fin fun J=>?_)
    · rw [pw]
      unfold wI at hp
      rw [cb hi] at hp
      simp only [Bool.and_eq_true,decide_eq_true_eq,Bool.or_eq_true] at hp
      by_cases h0:i=0
      · subst h0
        simp (disch:=first | omega | assumption) only [aI,bd,bm,bQ,cf,aB,aZ,bH,bA,cS,dB,dC,Ak,aF,ao,decide_eq_true hp.1,dn]
        exact hJ
      · obtain ⟨k,rfl⟩:∃ k,i=k+1:=⟨i - 1,by omega⟩
        have hk:k < xs.length:=by omega
        have e1:((k+1:Nat):Int) - 1=(k:Int):=by omega
        have Sb:xs[k] < xs[k+1]:=by
          have:=hp.2.resolve_left h0
          rwa [Nat.add_sub_cancel,cb hk] at this
        simp (disch:=first | omega | assumption) only [aI,bd,bm,bQ,cf,aB,aZ,bA,cS,dB,dC,Ak,aF,ao,decide_eq_true hp.1,eZ,e1,ni,dn]
        exact hJ
    · rw [pw]
      unfold wI at hp
      rw [cb hi] at hp
      by_cases hc:0≤xs[i]∧xs[i]≤7
      · rw [decide_eq_true hc,Bool.true_and,Bool.or_eq_false_iff,decide_eq_false_iff_not,decide_eq_false_iff_not] at hp
        obtain ⟨k,rfl⟩:∃ k,i=k+1:=⟨i - 1,by omega⟩
        have hk:k < xs.length:=by omega
        have e1:((k+1:Nat):Int) - 1=(k:Int):=by omega
        have Sb:xs[k+1]≤xs[k]:=by
          have:=hp.2
          rw [Nat.add_sub_cancel,cb hk] at this
          omega
        simp (disch:=first | omega | assumption) only [aI,bd,bm,bQ,cf,aB,aZ,bA,cS,dB,dC,Ak,aF,ao,decide_eq_true hc,eZ,e1,xQ]
      · simp (disch:=first | omega | assumption) only [aI,bd,bm,bQ,cf,aB,aZ,bA,cS,dB,dC,Ak,aF,ao,decide_eq_false hc]
    · rw [pw]
      simp (disch:=omega) only [bH]
  · rw [Kl]
    exact hJ
end Go.Proofs.YtockoilcnmljiaaGreat
namespace Go.Proofs.YtockoilcnmljiaaGreat
set_option maxRecDepth 100000
section
variable (pr:dr) (cv:Cv Rz) (J:Nat→St→Option Rz)
def lh (i0:Int) (g1:Bool) (n2:Nat) (c3:List D) (g4:Bool) (n5:Nat) (c6:List D) (b7:Bool) (b8:Bool) (b9:Bool) (i10:Int):St:=(St.mk [(1,(.ptr 1 [] 0)),(3,(.int .i64 i0))] [(1,[(.sl (some g1) 1 n2 c3),(.sl (some g4) 1 n5 c6),(.bool b7),(.bool b8),(.bool b9),(.int .i64 i10)])] [] 0)
theorem M5:Told cfg Tryz.prog 100 Tryz.f100:=⟨by kernel_rfl,Tryz.func100,by kernel_rfl⟩
theorem M6 (g0:Bool) (n0:Nat) (c0:List D) (g1:Bool) (n1:Nat) (c1:List D) (a2:Bool) (a3:Bool) (a4:Bool) (a5:Int):aR pr cv J 100 Tryz.f100 [(.agg [(.sl (some g0) 1 n0 c0),(.sl (some g1) 1 n1 c1),(.bool a2),(.bool a3),(.bool a4),(.int .i64 a5)])]=
    (J 0 (lh 0 g0 n0 c0 g1 n1 c1 a2 a3 a4 a5)):=by kernel_rfl
theorem qk (i0:Int) (g1:Bool) (n2:Nat) (c3:List D) (g4:Bool) (n5:Nat) (c6:List D) (b7:Bool) (b8:Bool) (b9:Bool) (i10:Int):bJ pr cv J 100 Tryz.f100 [.undef] 0 (lh i0 g1 n2 c3 g4 n5 c6 b7 b8 b9 i10)=
    let y1:Option (D × List D):=(some ((.bool false),[.undef]))
    (br (pr.lt i0 (pr.aS n5)) (br (pr.bg i0 n5) (br (br (pr.aN 1 c6 (pr.idx 0 i0 1)) true false) (cv 136 [(.sl (some (pr.aH c6 (pr.idx 0 i0 1))) 1 (pr.aC c6 (pr.idx 0 i0 1)) (pr.aE c6 (pr.idx 0 i0 1)))] (.bool (fun bK=>(.done (br (br bK false true) y1 (J 0 (lh (pr.ar .add .i64 i0 1) g1 n2 c3 g4 n5 c6 b7 b8 b9 i10))))))) none) none) (cv 137 [(.sl (some g1) 1 n2 c3)] (.bool (fun eQ=>(.done (br eQ (br (pr.lt 0 (pr.aS n2)) (br (pr.eq (pr.aS n5) 3) (cv 69 [(.int .i64 i10),(.int .i64 0),(.int .i64 200)] (.bool (fun fb=>(.done (br fb (br b8 (some ((.bool (br b9 false true)),[.undef])) (some ((.bool true),[.undef]))) y1))))) y1) y1) y1)))))):=by kernel_rfl
theorem M7:Told cfg Tryz.prog 111 Tryz.f111:=⟨by kernel_rfl,Tryz.func111,by kernel_rfl⟩
theorem M8 (g0:Bool) (n0:Nat) (c0:List D) (g1:Bool) (n1:Nat) (c1:List D) (a2:Bool) (a3:Bool) (a4:Bool) (a5:Int):aR pr cv J 111 Tryz.f111 [(.agg [(.sl (some g0) 1 n0 c0),(.sl (some g1) 1 n1 c1),(.bool a2),(.bool a3),(.bool a4),(.int .i64 a5)])]=
    let y1:Option (D × List D):=(some ((.bool false),[.undef]))
    (cv 142 [(.sl (some g0) 1 n0 c0)] (.bool (fun bK=>(.done (br bK (br (pr.lt 0 (pr.aS n0)) (cv 112 [(.sl (some g1) 1 n1 c1)] (.bool (fun eQ=>(.done (br eQ (cv 75 [(.int .i64 a5),(.int .i64 0),(.int .i64 200)] (.bool (fun fb=>(.done (br fb (br a3 (some ((.bool (br a4 false true)),[.undef])) (some ((.bool true),[.undef]))) y1))))) y1))))) y1) y1))))):=by kernel_rfl
def jx (i0:Int) (g1:Bool) (n2:Nat) (c3:List D) (g4:Bool) (n5:Nat) (c6:List D) (b7:Bool) (b8:Bool) (b9:Bool) (i10:Int) (g11:Bool) (fF:Nat) (ga:List D) (g14:Bool) (mI:Nat) (qL:List D) (nT:Bool) (Iz:Bool) (IA:Bool) (i20:Int):St:=(St.mk [(2,(.ptr 2 [] 0)),(3,(.ptr 3 [] 0)),(5,(.int .i64 i0))] [(2,[(.sl (some g1) 1 n2 c3),(.sl (some g4) 1 n5 c6),(.bool b7),(.bool b8),(.bool b9),(.int .i64 i10)]),(3,[(.sl (some g11) 1 fF ga),(.sl (some g14) 1 mI qL),(.bool nT),(.bool Iz),(.bool IA),(.int .i64 i20)])] [] 0)
theorem xT:Told cfg Tryz.prog 103 Tryz.f103:=⟨by kernel_rfl,Tryz.func103,by kernel_rfl⟩
theorem xU (g0:Bool) (n0:Nat) (c0:List D) (g1:Bool) (n1:Nat) (c1:List D) (a2:Bool) (a3:Bool) (a4:Bool) (a5:Int) (g6:Bool) (n6:Nat) (c6:List D) (g7:Bool) (n7:Nat) (c7:List D) (a8:Bool) (a9:Bool) (a10:Bool) (a11:Int):aR pr cv J 103 Tryz.f103 [(.agg [(.sl (some g0) 1 n0 c0),(.sl (some g1) 1 n1 c1),(.bool a2),(.bool a3),(.bool a4),(.int .i64 a5)]),(.agg [(.sl (some g6) 1 n6 c6),(.sl (some g7) 1 n7 c7),(.bool a8),(.bool a9),(.bool a10),(.int .i64 a11)])]=
    let y1:Option (D × List D):=(some ((.bool false),[.undef,.undef]))
    (br (br (pr.eq (pr.aS n1) (pr.aS n7)) false true) y1 (cv 90 [(.sl (some g0) 1 n0 c0),(.sl (some g6) 1 n6 c6)] (.bool (fun bK=>(.done (br (br bK false true) y1 (br (br (pr.beq a2 a8) false true) y1 (br (br (pr.beq a3 a9) false true) y1 (br (br (pr.beq a4 a10) false true) y1 (br (br (pr.eq a5 a11) false true) y1 (J 0 (jx 0 g0 n0 c0 g1 n1 c1 a2 a3 a4 a5 g6 n6 c6 g7 n7 c7 a8 a9 a10 a11)))))))))))):=by kernel_rfl
theorem oK (i0:Int) (g1:Bool) (n2:Nat) (c3:List D) (g4:Bool) (n5:Nat) (c6:List D) (b7:Bool) (b8:Bool) (b9:Bool) (i10:Int) (g11:Bool) (fF:Nat) (ga:List D) (g14:Bool) (mI:Nat) (qL:List D) (nT:Bool) (Iz:Bool) (IA:Bool) (i20:Int):bJ pr cv J 103 Tryz.f103 [.undef,.undef] 0 (jx i0 g1 n2 c3 g4 n5 c6 b7 b8 b9 i10 g11 fF ga g14 mI qL nT Iz IA i20)=
    (br (pr.lt i0 (pr.aS n5)) (br (pr.bg i0 n5) (br (br (pr.aN 1 c6 (pr.idx 0 i0 1)) true false) (br (pr.bg i0 mI) (br (br (pr.aN 1 qL (pr.idx 0 i0 1)) true false) (cv 90 [(.sl (some (pr.aH c6 (pr.idx 0 i0 1))) 1 (pr.aC c6 (pr.idx 0 i0 1)) (pr.aE c6 (pr.idx 0 i0 1))),(.sl (some (pr.aH qL (pr.idx 0 i0 1))) 1 (pr.aC qL (pr.idx 0 i0 1)) (pr.aE qL (pr.idx 0 i0 1)))] (.bool (fun bK=>(.done (br (br bK false true) (some ((.bool false),[.undef,.undef])) (J 0 (jx (pr.ar .add .i64 i0 1) g1 n2 c3 g4 n5 c6 b7 b8 b9 i10 g11 fF ga g14 mI qL nT Iz IA i20))))))) none) none) none) none) (some ((.bool true),[.undef,.undef]))):=by kernel_rfl
theorem IB:Told cfg Tryz.prog 114 Tryz.f114:=⟨by kernel_rfl,Tryz.func114,by kernel_rfl⟩
theorem IC (g0:Bool) (n0:Nat) (c0:List D) (g1:Bool) (n1:Nat) (c1:List D) (a2:Bool) (a3:Bool) (a4:Bool) (a5:Int) (g6:Bool) (n6:Nat) (c6:List D) (g7:Bool) (n7:Nat) (c7:List D) (a8:Bool) (a9:Bool) (a10:Bool) (a11:Int):aR pr cv J 114 Tryz.f114 [(.agg [(.sl (some g0) 1 n0 c0),(.sl (some g1) 1 n1 c1),(.bool a2),(.bool a3),(.bool a4),(.int .i64 a5)]),(.agg [(.sl (some g6) 1 n6 c6),(.sl (some g7) 1 n7 c7),(.bool a8),(.bool a9),(.bool a10),(.int .i64 a11)])]=
    let y1:Option (D × List D):=(some ((.bool false),[.undef,.undef]))
    (cv 94 [(.sl (some g0) 1 n0 c0),(.sl (some g6) 1 n6 c6)] (.bool (fun bK=>(.done (br bK (cv 147 [(.sl (some g1) 1 n1 c1),(.sl (some g7) 1 n7 c7),(.fn 94 [])] (.bool (fun eQ=>(.done (br eQ (br (pr.beq a2 a8) (br (pr.beq a3 a9) (br (pr.beq a4 a10) (some ((.bool (pr.eq a5 a11)),[.undef,.undef])) y1) y1) y1) y1))))) y1))))):=by kernel_rfl
end
theorem WP.find {f:FuncId} {fn:Func} {sk:List D} {j:Nat} {H:Nat→St} {n:Nat} (p:Nat→Bool) {bad:Nat→Rz} {rE:Rz} (Hb:∀ i r,i < n→p i=false→WP f fn sk j (H (i+1)) r→WP f fn sk j (H i) r) (Zc:∀ i,i < n→p i=true→WP f fn sk j (H i) (bad i)) (Zd:WP f fn sk j (H n) rE):WP f fn sk j (H 0) (match (List.range n).find? p with | some i=>bad i | none=>rE):=by
  have key:∀ k i,i+k=n→WP f fn sk j (H i) (match ((List.range n).drop i).find? p with | some i=>bad i | none=>rE):=by
    intro k
    induction k with
    | zero=>
      intro i hi
      obtain rfl:i=n:=by omega
      rw [List.drop_of_length_le (by simp)]
      exact Zd
    | succ k ih=>
      intro i hi
      have dp:i < (List.range n).length:=by simp; omega
      rw [← List.getElem_cons_drop dp,List.getElem_range,List.find?_cons]
      cases hp:p i with
      | false=>exact Hb i _ (by omega) hp (ih (i+1) (by omega))
      | true=>exact Zc i (by omega) hp
  exact key n 0 (by omega)
theorem Zg {n:Nat} (p:Nat→Bool) (k:Nat→Int) (hk:∀ i,0≤k i):decide (0≤(match (List.range n).find? p with | some i=>k i | none=>-1))=!((List.range n).all fun i=>!p i):=by
  cases h:(List.range n).find? p with
  | none=>
    rw [List.find?_eq_none] at h
    have:((List.range n).all fun i=>!p i)=true:=by
      rw [List.all_eq_true]
      intro x hx
      simpa using h x hx
    rw [this]
    rfl
  | some i=>
    have h1:=List.mem_of_find?_eq_some h
    have h2:=List.find?_some h
    have:((List.range n).all fun i=>!p i)=false:=by
      rw [List.all_eq_false]
      exact ⟨i,h1,by simp [h2]⟩
    rw [this]
    simp [hk i]
theorem CV {a b:Bool} {outs:List D}:(if a=true then ((D.bool b,outs):Rz) else (D.bool false,outs))=(D.bool (a&&b),outs):=by cases a<;>rfl
theorem D4 (n:Nat):ad.nK (n:Int) 0=n:=by simp [ad]
theorem ID:ad.hZ 0=0:=rfl
theorem IE (n:Nat):Nat.mul n 1=n:=Nat.mul_one n
theorem IF (n:Nat):Nat.mul 0 n=0:=Nat.zero_mul n
theorem uk (xs:List Int) (i:Nat):List.take i (ints xs)=ints (xs.take i):=by simp [ints,List.map_take]
def Al (xs:List Int) (i:Nat):Bool:=decide (1≤xs.getD i 0∧xs.getD i 0≤100000)&&!decide (xs.getD i 0∈xs.take i)
def jN (xs:List Int):Bool:=(List.range xs.length).all (Al xs)&&decide ((xs.length:Int)≤12)
theorem AM (g:Bool) (xs:List Int) (hb:xs.length < 4611686018427387904):Cm 137 [.sl (some g) 1 xs.length (ints xs)] (.bool (jN xs),[.undef]):=by
  unfold jN
  rw [← CV]
  refine Cm.go MY [.undef] 0 (lf g xs.length (ints xs) (0:Nat)) ?_ fun J hJ=>?_
  · refine WP.scan (H:=fun i:Nat=>lf g xs.length (ints xs) (i:Nat)) (Al xs) (fun i r hi hp ih=>WP.go _ ih fun J hJ=>?_) (fun i hi hp=>WP.fin fun J=>?_) (WP.fin fun J=>?_)
    · rw [qi]
      unfold Al at hp
      rw [cb hi,Bool.and_eq_true,decide_eq_true_eq,Bool.not_eq_true',decide_eq_false_iff_not] at hp
      simp (disch:=first | omega | assumption | (simp; omega)) only [aI,bd,bm,bQ,cf,aB,aZ,HE,bA,cS,dB,dC,jv,aF,ao,decide_eq_true hp.1,D4,ID,IE,IF,List.drop_zero,uk,SV,decide_eq_false hp.2,dn]
      exact hJ
    · rw [qi]
      unfold Al at hp
      rw [cb hi] at hp
      by_cases hc:1≤xs[i]∧xs[i]≤100000
      · rw [decide_eq_true hc,Bool.true_and,Bool.not_eq_false',decide_eq_true_eq] at hp
        simp (disch:=first | omega | assumption | (simp; omega)) only [aI,bd,bm,bQ,cf,aB,aZ,HE,bA,cS,dB,dC,jv,aF,ao,decide_eq_true hc,D4,ID,IE,IF,List.drop_zero,uk,SV,decide_eq_true hp]
      · simp (disch:=first | omega | assumption) only [aI,bd,bm,bQ,cf,aB,aZ,bA,cS,dB,dC,jv,aF,ao,decide_eq_false hc]
    · rw [qi]
      simp (disch:=omega) only [aB,bH,Ad]
  · rw [MZ]
    exact hJ
theorem AN (g:Bool) (xs:List Int) (hb:xs.length < 4611686018427387904):Cm 142 [.sl (some g) 1 xs.length (ints xs)] (.bool (jN xs),[.undef]):=by
  unfold jN
  rw [← CV]
  refine Cm.go M0 [.undef] 0 (lg g xs.length (ints xs) xs.length (0:Nat)) ?_ fun J hJ=>?_
  · refine WP.scan (H:=fun i:Nat=>lg g xs.length (ints xs) xs.length (i:Nat)) (Al xs) (fun i r hi hp ih=>WP.go _ ih fun J hJ=>?_) (fun i hi hp=>WP.fin fun J=>?_) (WP.fin fun J=>?_)
    · rw [qj]
      unfold Al at hp
      rw [cb hi,Bool.and_eq_true,decide_eq_true_eq,Bool.not_eq_true',decide_eq_false_iff_not] at hp
      simp (disch:=first | omega | assumption | (simp; omega)) only [aI,bd,bm,bQ,cf,aB,aZ,HE,bA,cS,dB,dC,fq,aF,ao,decide_eq_true hp.1,D4,ID,IE,IF,List.drop_zero,uk,Iy,decide_eq_false hp.2,dn]
      exact hJ
    · rw [qj]
      unfold Al at hp
      rw [cb hi] at hp
      by_cases hc:1≤xs[i]∧xs[i]≤100000
      · rw [decide_eq_true hc,Bool.true_and,Bool.not_eq_false',decide_eq_true_eq] at hp
        simp (disch:=first | omega | assumption | (simp; omega)) only [aI,bd,bm,bQ,cf,aB,aZ,HE,bA,cS,dB,dC,fq,aF,ao,decide_eq_true hc,D4,ID,IE,IF,List.drop_zero,uk,Iy,decide_eq_true hp]
      · simp (disch:=first | omega | assumption) only [aI,bd,bm,bQ,cf,aB,aZ,bA,cS,dB,dC,fq,aF,ao,decide_eq_false hc]
    · rw [qj]
      simp (disch:=omega) only [aB,bH,Ad]
  · rw [M1]
    exact hJ
def pS (xs:List Int) (i:Nat):Bool:=decide (0≤xs.getD i 0∧xs.getD i 0≤200)
def ka (xs:List Int):Bool:=(List.range xs.length).all (pS xs)&&decide ((xs.length:Int)=8)
theorem Kr (g:Bool) (xs:List Int) (hb:xs.length < 4611686018427387904):Cm 99 [.sl (some g) 1 xs.length (ints xs)] (.bool (ka xs),[.undef]):=by
  unfold ka
  rw [← CV]
  refine Cm.go Km [.undef] 0 (j7 g xs.length (ints xs) (0:Nat)) ?_ fun J hJ=>?_
  · refine WP.scan (H:=fun i:Nat=>j7 g xs.length (ints xs) (i:Nat)) (pS xs) (fun i r hi hp ih=>WP.go _ ih fun J hJ=>?_) (fun i hi hp=>WP.fin fun J=>?_) (WP.fin fun J=>?_)
    · rw [px]
      unfold pS at hp
      rw [cb hi] at hp
      simp (disch:=first | omega | assumption) only [aI,bd,bm,bQ,cf,aB,aZ,bA,cS,dB,dC,jv,aF,ao,hp,dn]
      exact hJ
    · rw [px]
      unfold pS at hp
      rw [cb hi] at hp
      simp (disch:=first | omega | assumption) only [aI,bd,bm,bQ,cf,aB,aZ,bA,cS,dB,dC,jv,aF,ao,hp]
    · rw [px]
      simp (disch:=omega) only [aB,bH,Ci]
      rfl
  · rw [Kn]
    exact hJ
theorem Ry (a:Int):Cm 141 [.int .i64 a] (.bool (!decide (0≤a∧a≤200)),[.undef]):=by
  refine Cm.fin F8 fun J=>?_
  rw [F9]
  simp only [fq,aF,ao,bQ]
theorem Fj (a:Int) (t:bS Rz):aU 141 [.int .i64 a] t=feed t [.bool (!decide (0≤a∧a≤200))]:=bh (Ry a) (by kernel_rfl) t
def xV (n:Nat) (p:Nat→Bool):Int:=match (List.range n).find? (fun i=>!p i) with | some i=>(i:Int) | none=>-1
theorem Qz (n:Nat) (p:Nat→Bool):decide (0≤xV n p)=!(List.range n).all p:=by
  unfold xV
  rw [Zg _ _ (fun i=>Int.natCast_nonneg i)]
  simp
theorem QA (g:Bool) (xs:List Int) (hb:xs.length < 4611686018427387904):Cm 150 [.sl (some g) 1 xs.length (ints xs),.fn 141 []] (.int .i64 (xV xs.length (pS xs)),[.undef,.undef]):=by
  have e:((.int .i64 (xV xs.length (pS xs)),[.undef,.undef]):Rz)=(match (List.range xs.length).find? (fun i=>!pS xs i) with | some i=>((.int .i64 (i:Int),[.undef,.undef]):Rz) | none=>(.int .i64 (-1),[.undef,.undef])):=by
    unfold xV
    split<;>rfl
  rw [e]
  refine Cm.go rJ [.undef,.undef] 0 (ed g xs.length (ints xs) xs.length (0:Nat)) ?_ fun J hJ=>?_
  · refine WP.find (H:=fun i:Nat=>ed g xs.length (ints xs) xs.length (i:Nat)) _ (fun i r hi hp ih=>WP.go _ ih fun J hJ=>?_) (fun i hi hp=>WP.fin fun J=>?_) (WP.fin fun J=>?_)
    · rw [gj]
      unfold pS at hp
      rw [cb hi] at hp
      simp (disch:=first | omega | assumption) only [aI,bd,bm,bQ,cf,aB,aZ,bA,cS,dB,dC,Fj,aF,ao,hp,dn]
      exact hJ
    · rw [gj]
      unfold pS at hp
      rw [cb hi] at hp
      simp (disch:=first | omega | assumption) only [aI,bd,bm,bQ,aB,aZ,bA,cS,dB,dC,Fj,aF,ao,hp]
    · rw [gj]
      simp (disch:=omega) only [aB,bH]
  · rw [rK]
    exact hJ
theorem IG (g:Bool) (xs:List Int) (hb:xs.length < 4611686018427387904):Cm 124 [.sl (some g) 1 xs.length (ints xs),.fn 141 []] (.bool (!(List.range xs.length).all (pS xs)),[.undef,.undef]):=by
  refine Cm.fin pO fun J=>?_
  rw [pP]
  have:=bh (QA g xs hb) (by kernel_rfl)
  simp only [this,ao,Ad]
  rw [← Qz]
  rfl
theorem Kt (g:Bool) (xs:List Int) (hb:xs.length < 4611686018427387904):Cm 110 [.sl (some g) 1 xs.length (ints xs)] (.bool (ka xs),[.undef]):=by
  refine Cm.fin Ko fun J=>?_
  rw [Kp]
  have:=bh (IG g xs hb) (by kernel_rfl)
  unfold ka
  by_cases h:(xs.length:Int)=8
  · simp (disch:=first | omega | assumption) only [aB,gq,this,bQ]
    rw [decide_eq_true h,Bool.and_true]
    show some (D.bool (!!_),_)=_
    rw [Bool.not_not]
  · simp (disch:=first | omega | assumption) only [aB,eA]
    rw [decide_eq_false h,Bool.and_false]
section
variable (t:bS Rz)
theorem M9 (g:Bool) (xs:List Int) (n:Nat) (hn:n=xs.length) (hb:xs.length < 4611686018427387904):aU 137 [.sl (some g) 1 n (ints xs)] t=feed t [.bool (jN xs)]:=by subst hn; exact bh (AM g xs hb) (by kernel_rfl) t
theorem Na (g:Bool) (xs:List Int) (n:Nat) (hn:n=xs.length) (hb:xs.length < 4611686018427387904):aU 142 [.sl (some g) 1 n (ints xs)] t=feed t [.bool (jN xs)]:=by subst hn; exact bh (AN g xs hb) (by kernel_rfl) t
theorem zl (g:Bool) (xs:List Int) (n:Nat) (hn:n=xs.length) (hb:xs.length < 4611686018427387904):aU 136 [.sl (some g) 1 n (ints xs)] t=feed t [.bool (fW xs)]:=by subst hn; exact bh (zj g xs hb) (by kernel_rfl) t
theorem Ku (g:Bool) (xs:List Int) (n:Nat) (hn:n=xs.length) (hb:xs.length < 4611686018427387904):aU 145 [.sl (some g) 1 n (ints xs)] t=feed t [.bool (fW xs)]:=by subst hn; exact bh (zk g xs hb) (by kernel_rfl) t
end
end Go.Proofs.YtockoilcnmljiaaGreat
namespace Go.Proofs.YtockoilcnmljiaaGreat
set_option maxRecDepth 100000
section
variable (pr:dr) (cv:Cv Rz) (J:Nat→St→Option Rz)
def dJ (g0:Bool) (n1:Nat) (c2:List D) (g3:Bool) (n4:Nat) (c5:List D) (i6:Int) (i7:Int):St:=(St.mk [(1,(.sl (some g0) 1 n1 c2)),(2,(.fn 94 [])),(15,(.sl (some g3) 1 n4 c5)),(16,(.int .i64 i6)),(17,(.int .i64 i7))] [] [] 0)
theorem jJ:Told cfg Tryz.prog 147 Tryz.f147:=⟨by kernel_rfl,Tryz.func147,by kernel_rfl⟩
theorem jK (g0:Bool) (n0:Nat) (c0:List D) (g1:Bool) (n1:Nat) (c1:List D):aR pr cv J 147 Tryz.f147 [(.sl (some g0) 1 n0 c0),(.sl (some g1) 1 n1 c1),(.fn 94 [])]=
    (br (br (pr.eq (pr.aS n0) (pr.aS n1)) false true) (some ((.bool false),[.undef,.undef,.undef])) (J 0 (dJ g1 n1 c1 g0 n0 c0 (pr.aS n0) 0))):=by kernel_rfl
theorem fH (g0:Bool) (n1:Nat) (c2:List D) (g3:Bool) (n4:Nat) (c5:List D) (i6:Int) (i7:Int):bJ pr cv J 147 Tryz.f147 [.undef,.undef,.undef] 0 (dJ g0 n1 c2 g3 n4 c5 i6 i7)=
    (br (pr.lt i7 i6) (br (pr.bg i7 n4) (br (br (pr.aN 1 c5 (pr.idx 0 i7 1)) true false) (br (pr.bg i7 n1) (br (br (pr.aN 1 c2 (pr.idx 0 i7 1)) true false) (cv 94 [(.sl (some (pr.aH c5 (pr.idx 0 i7 1))) 1 (pr.aC c5 (pr.idx 0 i7 1)) (pr.aE c5 (pr.idx 0 i7 1))),(.sl (some (pr.aH c2 (pr.idx 0 i7 1))) 1 (pr.aC c2 (pr.idx 0 i7 1)) (pr.aE c2 (pr.idx 0 i7 1)))] (.bool (fun bK=>(.done (br (br bK false true) (some ((.bool false),[.undef,.undef,.undef])) (J 0 (dJ g0 n1 c2 g3 n4 c5 i6 (pr.ar .add .i64 i7 1)))))))) none) none) none) none) (some ((.bool true),[.undef,.undef,.undef]))):=by kernel_rfl
theorem RA:Told cfg Tryz.prog 167 Tryz.f167:=⟨by kernel_rfl,Tryz.func167,by kernel_rfl⟩
theorem RB (a0:Int):aR pr cv J 167 Tryz.f167 [(.int .i64 a0)]=
    (br (br (pr.lt 8 0) false true) (br (br (pr.lt 16 0) false true) (br (br (pr.lt 24 0) false true) (some ((.sl none 1 4 [(.int .u8 (pr.wrap .u8 a0)),(.int .u8 (pr.wrap .u8 (pr.ar .shr .i64 a0 8))),(.int .u8 (pr.wrap .u8 (pr.ar .shr .i64 a0 16))),(.int .u8 (pr.wrap .u8 (pr.ar .shr .i64 a0 24)))]),[.undef])) none) none) none):=by kernel_rfl
end
theorem all_eq {α:Type} [DecidableEq α] (d:α):∀ (xs ys:List α),xs.length=ys.length→((List.range xs.length).all fun i=>decide (xs.getD i d=ys.getD i d))=decide (xs=ys):=by
  intro xs ys hl
  rw [Bool.eq_iff_iff,List.all_eq_true,decide_eq_true_eq]
  constructor
  · intro h
    apply List.ext_getElem hl
    intro i hi oB
    have:=h i (List.mem_range.2 hi)
    rwa [decide_eq_true_eq,cb hi,cb oB] at this
  · intro h
    subst h
    intro i _
    simp
theorem Us {α:Type} [DecidableEq α] (d:α) (xs ys:List α):(((List.range (min xs.length ys.length)).all fun i=>decide (xs.getD i d=ys.getD i d))&&decide ((xs.length:Int)=(ys.length:Int)))=decide (xs=ys):=by
  by_cases h:xs.length=ys.length
  · rw [← h,Nat.min_self,all_eq d xs ys h]
    simp
  · have:xs≠ys:=fun e=>h (e▸rfl)
    have h':¬ (xs.length:Int)=(ys.length:Int):=by omega
    rw [decide_eq_false h',decide_eq_false this,Bool.and_false]
theorem QB (g h:Bool) (xs ys:List Int) (hx:xs.length < 4611686018427387904) (hy:ys.length < 4611686018427387904):Cm 90 [.sl (some g) 1 xs.length (ints xs),.sl (some h) 1 ys.length (ints ys)] (.bool (decide (xs=ys)),[.undef,.undef]):=by
  rw [← Us 0,← CV]
  refine Cm.go MS [.undef,.undef] 0 (ld g xs.length (ints xs) h ys.length (ints ys) (0:Nat)) ?_ fun J hJ=>?_
  · refine WP.scan (H:=fun i:Nat=>ld g xs.length (ints xs) h ys.length (ints ys) (i:Nat)) _ (fun i r hi hp ih=>WP.go _ ih fun J hJ=>?_) (fun i hi hp=>WP.fin fun J=>?_) (WP.fin fun J=>?_)
    · rw [qh]
      have h1:i < xs.length:=by omega
      have h2:i < ys.length:=by omega
      rw [cb h1,cb h2,decide_eq_true_eq] at hp
      simp (disch:=first | omega | assumption) only [aI,bd,bm,bQ,cf,aB,aZ,bA,cS,dB,dC,gq,dn]
      exact hJ
    · rw [qh]
      have h1:i < xs.length:=by omega
      have h2:i < ys.length:=by omega
      rw [cb h1,cb h2,decide_eq_false_iff_not] at hp
      simp (disch:=first | omega | assumption) only [aI,bd,bm,bQ,cf,aB,aZ,bA,cS,dB,dC,eA]
    · rw [qh]
      by_cases h1:min xs.length ys.length < xs.length
      · simp (disch:=omega) only [aB,aZ,bH,Ci]
        rfl
      · simp (disch:=omega) only [aB,bH,Ci]
        rfl
  · rw [MT]
    exact hJ
theorem SW (g h:Bool) (xs ys:List Int) (hx:xs.length < 4611686018427387904) (hy:ys.length < 4611686018427387904):Cm 94 [.sl (some g) 1 xs.length (ints xs),.sl (some h) 1 ys.length (ints ys)] (.bool (decide (xs=ys)),[.undef,.undef]):=by
  by_cases hl:xs.length=ys.length
  · rw [← all_eq 0 xs ys hl,← zi]
    refine Cm.go qN [.undef,.undef] 0 (fQ g xs.length (ints xs) h ys.length (ints ys) xs.length (0:Nat)) ?_ fun J hJ=>?_
    · refine WP.scan (H:=fun i:Nat=>fQ g xs.length (ints xs) h ys.length (ints ys) xs.length (i:Nat)) _ (fun i r hi hp ih=>WP.go _ ih fun J hJ=>?_) (fun i hi hp=>WP.fin fun J=>?_) (WP.fin fun J=>?_)
      · rw [j9]
        have h2:i < ys.length:=by omega
        rw [cb hi,cb h2,decide_eq_true_eq] at hp
        simp (disch:=first | omega | assumption) only [aI,bd,bm,bQ,cf,aB,aZ,bA,cS,dB,dC,gq,dn]
        exact hJ
      · rw [j9]
        have h2:i < ys.length:=by omega
        rw [cb hi,cb h2,decide_eq_false_iff_not] at hp
        simp (disch:=first | omega | assumption) only [aI,bd,bm,bQ,cf,aB,aZ,bA,cS,dB,dC,eA]
      · rw [j9]
        simp (disch:=omega) only [aB,bH]
    · rw [qO]
      simp (disch:=omega) only [aB,gq,bQ,cf,aI,bd]
      exact hJ
  · have db:xs≠ys:=fun e=>hl (e▸rfl)
    refine Cm.fin qN fun J=>?_
    rw [qO,decide_eq_false db]
    simp (disch:=omega) only [aB,eA,bQ,cf,aI,bd]
section
variable (t:bS Rz)
theorem Am (g h:Bool) (xs ys:List Int) (n k:Nat) (hn:n=xs.length) (hk:k=ys.length) (hx:xs.length < 4611686018427387904) (hy:ys.length < 4611686018427387904):aU 90 [.sl (some g) 1 n (ints xs),.sl (some h) 1 k (ints ys)] t=feed t [.bool (decide (xs=ys))]:=by subst hn hk; exact bh (QB g h xs ys hx hy) (by kernel_rfl) t
theorem Kv (g h:Bool) (xs ys:List Int) (n k:Nat) (hn:n=xs.length) (hk:k=ys.length) (hx:xs.length < 4611686018427387904) (hy:ys.length < 4611686018427387904):aU 94 [.sl (some g) 1 n (ints xs),.sl (some h) 1 k (ints ys)] t=feed t [.bool (decide (xs=ys))]:=by subst hn hk; exact bh (SW g h xs ys hx hy) (by kernel_rfl) t
end
theorem RC (g h:Bool) (xs ys:List (List Int)) (hx:wx xs) (hy:wx ys):Cm 147 [sR (some g) xs,sR (some h) ys,.fn 94 []] (.bool (decide (xs=ys)),[.undef,.undef,.undef]):=by
  by_cases hl:xs.length=ys.length
  · rw [← all_eq [] xs ys hl,← zi]
    refine Cm.go jJ [.undef,.undef,.undef] 0 (dJ h ys.length (rows (some h) ys) g xs.length (rows (some g) xs) xs.length (0:Nat)) ?_ fun J hJ=>?_
    · refine WP.scan (H:=fun i:Nat=>dJ h ys.length (rows (some h) ys) g xs.length (rows (some g) xs) xs.length (i:Nat)) _ (fun i r hi hp ih=>WP.go _ ih fun J hJ=>?_) (fun i hi hp=>WP.fin fun J=>?_) (WP.fin fun J=>?_)
      · have b1:=hx.1
        have h2:i < ys.length:=by omega
        have b2:=hx.2 _ (List.getElem_mem hi)
        have b3:=hy.2 _ (List.getElem_mem h2)
        rw [fH]
        rw [cb hi,cb h2] at hp
        simp (disch:=first | omega | assumption) only [aI,bd,bm,bQ,cf,aB,aZ,bA,cS,iK,iL,iM,jt,Kv,aF,ao,hp,dn]
        exact hJ
      · have b1:=hx.1
        have h2:i < ys.length:=by omega
        have b2:=hx.2 _ (List.getElem_mem hi)
        have b3:=hy.2 _ (List.getElem_mem h2)
        rw [fH]
        rw [cb hi,cb h2] at hp
        simp (disch:=first | omega | assumption) only [aI,bd,bm,bQ,cf,aB,aZ,bA,cS,iK,iL,iM,jt,Kv,aF,ao,hp]
      · rw [fH]
        simp (disch:=omega) only [aB,bH]
    · rw [jK]
      simp (disch:=omega) only [aB,gq,bQ,cf,aI,bd]
      exact hJ
  · have db:xs≠ys:=fun e=>hl (e▸rfl)
    refine Cm.fin jJ fun J=>?_
    rw [jK,decide_eq_false db]
    simp (disch:=omega) only [aB,eA,bQ,cf,aI,bd]
def nE (xss:List (List Int)) (i:Nat):Bool:=fW (xss.getD i [])
def ij (xss:List (List Int)):Bool:=(List.range xss.length).all (nE xss)
theorem QC (g:Bool) (xs:List Int) (hb:xs.length < 4611686018427387904):Cm 144 [.sl (some g) 1 xs.length (ints xs)] (.bool (!fW xs),[.undef]):=by
  refine Cm.fin Ec fun J=>?_
  rw [Ed]
  simp (disch:=first | rfl | assumption) only [Ku,aF,ao,bQ]
theorem CW (g:Bool) (xs:List Int) (n:Nat) (hn:n=xs.length) (hb:xs.length < 4611686018427387904) (t:bS Rz):aU 144 [.sl (some g) 1 n (ints xs)] t=feed t [.bool (!fW xs)]:=by subst hn; exact bh (QC g xs hb) (by kernel_rfl) t
theorem QD (g:Bool) (xss:List (List Int)) (hb:wx xss):Cm 153 [sR (some g) xss,.fn 144 []] (.int .i64 (xV xss.length (nE xss)),[.undef,.undef]):=by
  have e:((.int .i64 (xV xss.length (nE xss)),[.undef,.undef]):Rz)=(match (List.range xss.length).find? (fun i=>!nE xss i) with | some i=>((.int .i64 (i:Int),[.undef,.undef]):Rz) | none=>(.int .i64 (-1),[.undef,.undef])):=by
    unfold xV
    cases (List.range xss.length).find? (fun i=>!nE xss i)<;>rfl
  rw [e]
  have b1:=hb.1
  refine Cm.go rL [.undef,.undef] 0 (ef g xss.length (rows (some g) xss) xss.length (0:Nat)) ?_ fun J hJ=>?_
  · refine WP.find (H:=fun i:Nat=>ef g xss.length (rows (some g) xss) xss.length (i:Nat)) _ (fun i r hi hp ih=>WP.go _ ih fun J hJ=>?_) (fun i hi hp=>WP.fin fun J=>?_) (WP.fin fun J=>?_)
    · have b2:=hb.2 _ (List.getElem_mem hi)
      rw [gk]
      unfold nE at hp
      rw [cb hi] at hp
      simp (disch:=first | omega | assumption) only [aI,bd,bm,bQ,aB,aZ,bA,cS,iK,iL,iM,jt,CW,aF,ao,hp,dn]
      exact hJ
    · have b2:=hb.2 _ (List.getElem_mem hi)
      rw [gk]
      unfold nE at hp
      rw [cb hi] at hp
      simp (disch:=first | omega | assumption) only [aI,bd,bm,bQ,aB,aZ,bA,cS,iK,iL,iM,jt,CW,aF,ao,hp]
    · rw [gk]
      simp (disch:=omega) only [aB,bH]
  · rw [rM]
    exact hJ
theorem IH (g:Bool) (xss:List (List Int)) (hb:wx xss):Cm 143 [sR (some g) xss,.fn 144 []] (.bool (!ij xss),[.undef,.undef]):=by
  refine Cm.fin pQ fun J=>?_
  rw [pR]
  have:=bh (QD g xss hb) (by kernel_rfl)
  simp only [this,ao,Ad]
  unfold ij
  rw [← Qz]
  rfl
theorem II (g:Bool) (xss:List (List Int)) (hb:wx xss):Cm 112 [sR (some g) xss] (.bool (((xss.length:Int)==3)&&ij xss),[.undef]):=by
  refine Cm.fin Iv fun J=>?_
  rw [Iw]
  have:=bh (IH g xss hb) (by kernel_rfl)
  simp only [this,aB,Ci]
  cases (xss.length:Int)==3 with
  | true=>
    show some (D.bool (br (!ij xss) false true),_)=_
    rw [bQ,Bool.not_not]
    rfl
  | false=>rfl
def hD (m:bj):Bool:=ij m.bits&&(jN m.aP&&(decide (0 < (m.aP.length:Int))&&(((m.bits.length:Int)==3)&&(decide (0≤m.last∧m.last≤200)&&!(m.cg&&m.held)))))
theorem AO (g:Bool) (m:bj) (hb:du m):Cm 100 [.agg (cL (some g) m)] (.bool (hD m),[.undef]):=by
  unfold hD
  rw [← CV]
  have b0:=hb.aP
  have b1:=hb.bits.1
  refine Cm.go M5 [.undef] 0 (lh (0:Nat) g m.aP.length (ints m.aP) g m.bits.length (rows (some g) m.bits) m.dq m.cg m.held m.last) ?_ fun J hJ=>?_
  · refine WP.scan (H:=fun i:Nat=>lh (i:Nat) g m.aP.length (ints m.aP) g m.bits.length (rows (some g) m.bits) m.dq m.cg m.held m.last) (nE m.bits) (fun i r hi hp ih=>WP.go _ ih fun J hJ=>?_) (fun i hi hp=>WP.fin fun J=>?_) (WP.fin fun J=>?_)
    · have b2:=hb.bits.2 _ (List.getElem_mem hi)
      rw [qk]
      unfold nE at hp
      rw [cb hi] at hp
      simp (disch:=first | omega | assumption) only [aI,bd,bm,bQ,cf,aB,aZ,bA,cS,iK,iL,iM,jt,zl,aF,ao,hp,dn]
      exact hJ
    · have b2:=hb.bits.2 _ (List.getElem_mem hi)
      rw [qk]
      unfold nE at hp
      rw [cb hi] at hp
      simp (disch:=first | omega | assumption) only [aI,bd,bm,bQ,cf,aB,aZ,bA,cS,iK,iL,iM,jt,zl,aF,ao,hp]
    · rw [qk]
      simp (disch:=first | omega | assumption) only [aB,bH,M9,aF,ao,jv]
      simp only [Uf,Ci]
      generalize jN m.aP=a
      generalize decide (0 < (m.aP.length:Int))=b
      generalize ((m.bits.length:Int)==3)=c
      generalize decide (0≤m.last∧m.last≤200)=d
      generalize m.cg=e
      generalize m.held=f
      cases a<;>cases b<;>cases c<;>cases d<;>cases e<;>cases f<;>rfl
  · rw [M6]
    exact hJ
theorem AP (g:Bool) (m:bj) (hb:du m):Cm 111 [.agg (cL (some g) m)] (.bool (hD m),[.undef]):=by
  have b0:=hb.aP
  have hm:=bh (II g m.bits hb.bits) (by kernel_rfl)
  refine Cm.fin M7 fun J=>?_
  rw [M8]
  simp (disch:=first | omega | assumption) only [aB,Na,hm,aF,ao,fq,Uf]
  unfold hD
  generalize jN m.aP=a
  generalize decide (0 < (m.aP.length:Int))=b
  generalize ((m.bits.length:Int)==3)=c
  generalize decide (0≤m.last∧m.last≤200)=d
  generalize m.cg=e
  generalize m.held=f
  generalize ij m.bits=k
  show (br a (br b (br (c&&k) _ _) _) _)=_
  cases a<;>cases b<;>cases c<;>cases d<;>cases e<;>cases f<;>cases k<;>rfl
section
variable (t:bS Rz)
theorem AQ (g:Bool) (m:bj) (hb:du m):aU 100 [.agg (cL (some g) m)] t=feed t [.bool (hD m)]:=bh (AO g m hb) (by kernel_rfl) t
theorem AR (g:Bool) (m:bj) (hb:du m):aU 111 [.agg (cL (some g) m)] t=feed t [.bool (hD m)]:=bh (AP g m hb) (by kernel_rfl) t
end
def lV (m k:bj):Bool:=decide (m.aP=k.aP)&&(decide (m.bits=k.bits)&&((m.dq==k.dq)&&((m.cg==k.cg)&&((m.held==k.held)&&(m.last==k.last)))))
theorem IJ (g h:Bool) (m k:bj) (hm:du m) (hk:du k):Cm 114 [.agg (cL (some g) m),.agg (cL (some h) k)] (.bool (lV m k),[.undef,.undef]):=by
  have b0:=hm.aP
  have b1:=hk.aP
  have he:=bh (RC g h m.bits k.bits hm.bits hk.bits) (by kernel_rfl)
  refine Cm.fin IB fun J=>?_
  rw [IC]
  simp (disch:=first | omega | assumption) only [Kv,he,aF,ao,u7,Ci]
  unfold lV
  generalize decide (m.aP=k.aP)=a
  generalize decide (m.bits=k.bits)=b
  generalize (m.dq==k.dq)=c
  generalize (m.cg==k.cg)=d
  generalize (m.held==k.held)=e
  generalize (m.last==k.last)=f
  show (br a (br b _ _) _)=_
  cases a<;>cases b<;>cases c<;>cases d<;>cases e<;>cases f<;>rfl
theorem IK (g h:Bool) (m k:bj) (hm:du m) (hk:du k):Cm 103 [.agg (cL (some g) m),.agg (cL (some h) k)] (.bool (lV m k),[.undef,.undef]):=by
  have b0:=hm.aP
  have b1:=hk.aP
  have b2:=hm.bits.1
  have fin:lV m k=false→(m.bits.length=k.bits.length→(decide (m.aP=k.aP)&&((m.dq==k.dq)&&((m.cg==k.cg)&&((m.held==k.held)&&(m.last==k.last)))))=false)→Cm 103 [.agg (cL (some g) m),.agg (cL (some h) k)] (.bool (lV m k),[.undef,.undef]):=by
    intro hs hq
    rw [hs]
    refine Cm.fin xT fun J=>?_
    rw [xU]
    by_cases hl:m.bits.length=k.bits.length
    · have hq:=hq hl
      simp (disch:=first | omega | assumption) only [Am,aF,ao,u7,aB,gq,bQ,cf,aI,bd]
      simp only [Ci]
      revert hq
      generalize decide (m.aP=k.aP)=a
      generalize (m.dq==k.dq)=c
      generalize (m.cg==k.cg)=d
      generalize (m.held==k.held)=e
      generalize (m.last==k.last)=f
      cases a<;>cases c<;>cases d<;>cases e<;>cases f<;>first | (intro _; rfl) | (intro hq; exact absurd hq (by decide))
    · simp (disch:=first | omega | assumption) only [aB,eA,bQ,cf,aI,bd]
  by_cases hl:m.bits.length=k.bits.length
  · cases hq:(decide (m.aP=k.aP)&&((m.dq==k.dq)&&((m.cg==k.cg)&&((m.held==k.held)&&(m.last==k.last))))) with
    | false=>
      refine fin ?_ fun _=>hq
      revert hq
      unfold lV
      generalize decide (m.aP=k.aP)=a
      generalize decide (m.bits=k.bits)=b
      generalize ((m.dq==k.dq)&&((m.cg==k.cg)&&((m.held==k.held)&&(m.last==k.last))))=c
      cases a<;>cases b<;>cases c<;>simp
    | true=>
      have hs:lV m k=decide (m.bits=k.bits):=by
        revert hq
        unfold lV
        generalize decide (m.aP=k.aP)=a
        generalize decide (m.bits=k.bits)=b
        generalize ((m.dq==k.dq)&&((m.cg==k.cg)&&((m.held==k.held)&&(m.last==k.last))))=c
        cases a<;>cases b<;>cases c<;>simp
      simp only [Bool.and_eq_true] at hq
      rw [hs,← all_eq [] _ _ hl,← zi]
      refine Cm.go xT [.undef,.undef] 0 (jx (0:Nat) g m.aP.length (ints m.aP) g m.bits.length (rows (some g) m.bits) m.dq m.cg m.held m.last h k.aP.length (ints k.aP) h k.bits.length (rows (some h) k.bits) k.dq k.cg k.held k.last) ?_ fun J hJ=>?_
      · refine WP.scan (H:=fun i:Nat=>jx (i:Nat) g m.aP.length (ints m.aP) g m.bits.length (rows (some g) m.bits) m.dq m.cg m.held m.last h k.aP.length (ints k.aP) h k.bits.length (rows (some h) k.bits) k.dq k.cg k.held k.last) _ (fun i r hi hp ih=>WP.go _ ih fun J hJ=>?_) (fun i hi hp=>WP.fin fun J=>?_) (WP.fin fun J=>?_)
        · have h2:i < k.bits.length:=by omega
          have b3:=hm.bits.2 _ (List.getElem_mem hi)
          have b4:=hk.bits.2 _ (List.getElem_mem h2)
          rw [oK]
          rw [cb hi,cb h2] at hp
          simp (disch:=first | omega | assumption) only [aI,bd,bm,bQ,cf,aB,aZ,bA,cS,iK,iL,iM,jt,Am,aF,ao,hp,dn]
          exact hJ
        · have h2:i < k.bits.length:=by omega
          have b3:=hm.bits.2 _ (List.getElem_mem hi)
          have b4:=hk.bits.2 _ (List.getElem_mem h2)
          rw [oK]
          rw [cb hi,cb h2] at hp
          simp (disch:=first | omega | assumption) only [aI,bd,bm,bQ,cf,aB,aZ,bA,cS,iK,iL,iM,jt,Am,aF,ao,hp]
        · rw [oK]
          simp (disch:=omega) only [aB,bH]
      · rw [xU]
        simp (disch:=first | omega | assumption) only [Am,aF,ao,u7,aB,Ci,hq.1,hq.2.1,hq.2.2.1,hq.2.2.2.1,hq.2.2.2.2,bQ,cf,aI]
        have e1:((m.bits.length:Int)==(k.bits.length:Int))=true:=by simp [hl]
        rw [e1]
        exact hJ
  · refine fin ?_ fun h=>absurd h hl
    have:m.bits≠k.bits:=fun e=>hl (e▸rfl)
    unfold lV
    rw [decide_eq_false this,Bool.false_and,Bool.and_false]
end Go.Proofs.YtockoilcnmljiaaGreat
namespace Go.Proofs.YtockoilcnmljiaaGreat
set_option maxRecDepth 100000
section
variable (pr:dr) (cv:Cv Rz) (J:Nat→St→Option Rz)
def lj (i0:Int) (n1:Nat) (c2:List D):St:=(St.mk [(0,(.int .i64 i0)),(3,(.ref 10003 [] 0 none))] [(10003,[(.sl none 1 n1 c2)])] [] 0)
theorem AS:Told cfg Tryz.prog 163 Tryz.f163:=⟨by kernel_rfl,Tryz.func163,by kernel_rfl⟩
theorem AT (a0:Int):aR pr cv J 163 Tryz.f163 [(.int .i64 a0)]=
    (cv 69 [(.int .i64 a0),(.int .i64 0),(.int .i64 2147483647)] (.bool (fun bK=>(.done (br (br bK false true) (some ((.sl none 1 0 []),[.undef])) (J 0 (lj a0 0 []))))))):=by kernel_rfl
theorem wJ (i0:Int) (n1:Nat) (c2:List D):bJ pr cv J 163 Tryz.f163 [.undef] 0 (lj i0 n1 c2)=
    let y1:List D:=[(.int .u8 (pr.wrap .u8 (pr.ar .add .i64 (pr.ar .rem .i64 i0 128) 128)))]
    (br (pr.lt 127 i0) (br (br (pr.eq 128 0) false true) (br (br (pr.flat y1) (pr.fits (n1+1) 1) false) (br (br (pr.eq 128 0) false true) (J 0 (lj (pr.ar .quo .i64 i0 128) (n1+1) (List.append c2 y1))) none) none) none) (br (br (pr.flat [(.int .u8 (pr.wrap .u8 i0))]) (pr.fits (n1+1) 1) false) (some ((.sl none 1 (n1+1) (List.append c2 [(.int .u8 (pr.wrap .u8 i0))])),[.undef])) none)):=by kernel_rfl
def ll (i0:Int) (n1:Nat) (c2:List D):St:=(St.mk [(0,(.int .i64 i0)),(3,(.ref 10003 [] 0 none))] [(10003,[(.sl none 1 n1 c2)])] [] 0)
theorem AU:Told cfg Tryz.prog 172 Tryz.f172:=⟨by kernel_rfl,Tryz.func172,by kernel_rfl⟩
theorem AV (a0:Int):aR pr cv J 172 Tryz.f172 [(.int .i64 a0)]=
    let y1:Option (D × List D):=(some ((.sl none 1 0 []),[.undef]))
    (br (pr.lt a0 0) y1 (br (pr.lt 2147483647 a0) y1 (J 0 (ll a0 0 [])))):=by kernel_rfl
theorem wK (i0:Int) (n1:Nat) (c2:List D):bJ pr cv J 172 Tryz.f172 [.undef] 0 (ll i0 n1 c2)=
    let y1:List D:=[(.int .u8 (pr.wrap .u8 (pr.ar .add .i64 (pr.ar .rem .i64 i0 128) 128)))]
    (br (pr.lt 127 i0) (br (br (pr.eq 128 0) false true) (br (br (pr.flat y1) (pr.fits (Nat.succ n1) 1) false) (br (br (pr.eq 128 0) false true) (J 0 (ll (pr.ar .quo .i64 i0 128) (Nat.succ n1) (List.append c2 y1))) none) none) none) (br (br (pr.flat [(.int .u8 (pr.wrap .u8 i0))]) (pr.fits (Nat.succ n1) 1) false) (some ((.sl none 1 (Nat.succ n1) (List.append c2 [(.int .u8 (pr.wrap .u8 i0))])),[.undef])) none)):=by kernel_rfl
def lp (g0:Bool) (n1:Nat) (c2:List D) (i3:Int) (i4:Int) (i5:Int):St:=(St.mk [(0,(.sl (some g0) 1 n1 c2)),(1,(.int .i64 i3)),(7,(.int .i64 i4)),(8,(.int .i64 i5))] [] [] 0)
theorem AW:Told cfg Tryz.prog 162 Tryz.f162:=⟨by kernel_rfl,Tryz.func162,by kernel_rfl⟩
theorem AX (g0:Bool) (n0:Nat) (c0:List D) (a1:Int):aR pr cv J 162 Tryz.f162 [(.sl (some g0) 1 n0 c0),(.int .i64 a1)]=
    (J 0 (lp g0 n0 c0 a1 0 0)):=by kernel_rfl
theorem kd (g0:Bool) (n1:Nat) (c2:List D) (i3:Int) (i4:Int) (i5:Int):bJ pr cv J 162 Tryz.f162 [.undef,.undef] 0 (lp g0 n1 c2 i3 i4 i5)=
    let y1:Option (D × List D):=(some ((.bf [(.int .i64 0),(.int .i64 0),(.bool false)]),[.undef,.undef]))
    let y2:Int:=(pr.wrap .i64 (pr.aO c2 (pr.idx 0 (pr.ar .add .i64 i3 i5) 1)))
    let y3:Int:=(pr.ar .or .i64 i4 (pr.ar .shl .i64 (pr.ar .rem .i64 y2 128) (pr.ar .mul .i64 7 i5)))
    let y4:D:=(.int .i64 y3)
    let y5:Option (D × List D):=(br (pr.lt 2147483647 y3) y1 (some ((.bf [y4,(.int .i64 (pr.ar .add .i64 (pr.ar .add .i64 i3 i5) 1)),(.bool true)]),[.undef,.undef])))
    (br (pr.lt i5 5) (br (pr.lt i3 0) y1 (br (pr.le (pr.ar .sub .i64 (pr.aS n1) i5) i3) y1 (br (pr.bg (pr.ar .add .i64 i3 i5) n1) (br (br (pr.bO .u8 c2 (pr.idx 0 (pr.ar .add .i64 i3 i5) 1)) true false) (br (br (pr.eq 128 0) false true) (br (br (pr.lt (pr.ar .mul .i64 7 i5) 0) false true) (br (pr.lt y2 128) (br (pr.lt 0 i5) (br (pr.eq y2 0) y1 y5) y5) (J 0 (lp g0 n1 c2 i3 y3 (pr.ar .add .i64 i5 1)))) none) none) none) none))) y1):=by kernel_rfl
def nU (g0:Bool) (n1:Nat) (c2:List D) (i3:Int) (i4:Int) (i5:Int) (i6:Int):St:=(St.mk [(0,(.sl (some g0) 1 n1 c2)),(1,(.int .i64 i3)),(7,(.int .i64 i4)),(8,(.int .i64 i5)),(9,(.int .i64 i6))] [] [] 0)
theorem AY:Told cfg Tryz.prog 168 Tryz.f168:=⟨by kernel_rfl,Tryz.func168,by kernel_rfl⟩
theorem AZ (g0:Bool) (n0:Nat) (c0:List D) (a1:Int):aR pr cv J 168 Tryz.f168 [(.sl (some g0) 1 n0 c0),(.int .i64 a1)]=
    (br (pr.lt a1 0) (some ((.bf [(.int .i64 0),(.int .i64 0),(.bool false)]),[.undef,.undef])) (J 0 (nU g0 n0 c0 a1 0 1 0))):=by kernel_rfl
theorem mV (g0:Bool) (n1:Nat) (c2:List D) (i3:Int) (i4:Int) (i5:Int) (i6:Int):bJ pr cv J 168 Tryz.f168 [.undef,.undef] 0 (nU g0 n1 c2 i3 i4 i5 i6)=
    let y1:Int:=(pr.wrap .i64 (pr.aO c2 (pr.idx 0 (pr.ar .add .i64 i3 i6) 1)))
    let y2:Int:=(pr.ar .add .i64 i4 (pr.ar .mul .i64 (pr.ar .rem .i64 y1 128) i5))
    let y3:Option (D × List D):=(some ((.bf [(.int .i64 0),(.int .i64 0),(.bool false)]),[.undef,.undef]))
    let y4:D:=(.int .i64 y2)
    let y5:Option (D × List D):=(some ((.bf [y4,(.int .i64 (pr.ar .add .i64 (pr.ar .add .i64 i3 i6) 1)),(.bool true)]),[.undef,.undef]))
    (br (pr.lt i6 5) (br (pr.lt i3 (pr.ar .sub .i64 (pr.aS n1) i6)) (br (pr.bg (pr.ar .add .i64 i3 i6) n1) (br (br (pr.bO .u8 c2 (pr.idx 0 (pr.ar .add .i64 i3 i6) 1)) true false) (br (br (pr.eq 128 0) false true) (br (pr.le 128 y1) (J 0 (nU g0 n1 c2 i3 y2 (pr.ar .mul .i64 i5 128) (pr.ar .add .i64 i6 1))) (br (pr.lt 2147483647 y2) y3 (br (pr.eq y1 0) (br (pr.lt 0 i6) y3 y5) y5))) none) none) none) y3) y3):=by kernel_rfl
theorem QE:Told cfg Tryz.prog 158 Tryz.f158:=⟨by kernel_rfl,Tryz.func158,by kernel_rfl⟩
theorem QF (a0:Int):aR pr cv J 158 Tryz.f158 [(.int .i64 a0)]=
    (br (br (pr.lt 8 0) false true) (br (br (pr.lt 16 0) false true) (br (br (pr.lt 24 0) false true) (some ((.sl none 1 4 [(.int .u8 (pr.wrap .u8 (pr.ar .and .i64 a0 255))),(.int .u8 (pr.wrap .u8 (pr.ar .and .i64 (pr.ar .shr .i64 a0 8) 255))),(.int .u8 (pr.wrap .u8 (pr.ar .and .i64 (pr.ar .shr .i64 a0 16) 255))),(.int .u8 (pr.wrap .u8 (pr.ar .and .i64 (pr.ar .shr .i64 a0 24) 255)))]),[.undef])) none) none) none):=by kernel_rfl
end
theorem WR {a b:Nat} (h:a < 9223372036854775808):ad.ar .quo .i64 (a:Int) (b:Int)=((a / b:Nat):Int):=by
  have e:(a:Int).tdiv (b:Int)=((a / b:Nat):Int):=rfl
  have:=Nat.div_le_self a b
  show IntKind.i64.wrap ((a:Int).tdiv (b:Int))=_
  rw [e]
  generalize a / b=q at this
  rw [wrap64 (by omega) (by omega)]
theorem um {a b:Nat} (h:a+b < 9223372036854775808):ad.ar .add .i64 (a:Int) (b:Int)=((a+b:Nat):Int):=by
  rw [Ug (by omega) (by omega)]
  omega
theorem QG {a b:Nat} (h:a*b < 9223372036854775808):ad.ar .mul .i64 (a:Int) (b:Int)=((a*b:Nat):Int):=by
  have e:(a:Int)*(b:Int)=((a*b:Nat):Int):=by simp
  show IntKind.i64.wrap ((a:Int)*(b:Int))=_
  rw [e,wrap64 (by omega) (by omega)]
theorem LR {a:Nat} (h:a < 9223372036854775808):ad.wrap .i64 (a:Int)=(a:Int):=wrap64 (by omega) (by omega)
theorem Oe {a b:Nat} (ha:a < 4611686018427387904) (hb:b < 4611686018427387904):ad.ar .or .i64 (a:Int) (b:Int)=((a||| b:Nat):Int):=by
  show IntKind.i64.wrap ((BitVec.ofInt 64 (a:Int)||| BitVec.ofInt 64 (b:Int)).toNat:Int)=_
  have h:(a||| b) < 2 ^ 62:=Nat.or_lt_two_pow (by omega) (by omega)
  have e:(BitVec.ofInt 64 (a:Int)||| BitVec.ofInt 64 (b:Int)).toNat=a||| b:=by
    rw [BitVec.toNat_or,BitVec.ofInt_natCast,BitVec.ofInt_natCast,BitVec.toNat_ofNat,BitVec.toNat_ofNat,Nat.mod_eq_of_lt (by omega),Nat.mod_eq_of_lt (by omega)]
  rw [e,wrap64 (by omega) (by omega)]
theorem afb {a b:Nat} (ha:a < 4611686018427387904) (hb:b < 4611686018427387904):ad.ar .and .i64 (a:Int) (b:Int)=((a&&& b:Nat):Int):=by
  show IntKind.i64.wrap ((BitVec.ofInt 64 (a:Int)&&& BitVec.ofInt 64 (b:Int)).toNat:Int)=_
  have h:(a&&& b)≤b:=Nat.and_le_right
  have e:(BitVec.ofInt 64 (a:Int)&&& BitVec.ofInt 64 (b:Int)).toNat=a&&& b:=by
    rw [BitVec.toNat_and,BitVec.ofInt_natCast,BitVec.ofInt_natCast,BitVec.toNat_ofNat,BitVec.toNat_ofNat,Nat.mod_eq_of_lt (by omega),Nat.mod_eq_of_lt (by omega)]
  rw [e,wrap64 (by omega) (by omega)]
theorem wL {a k:Nat} (hk:k≤64) (h:a*2 ^ k < 9223372036854775808):ad.ar .shl .i64 (a:Int) (k:Int)=((a*2 ^ k:Nat):Int):=by
  show IntKind.i64.wrap ((a:Int)*2 ^ (min ((k:Int).toNat) 64))=_
  have e:min ((k:Int).toNat) 64=k:=by omega
  have e2:(a:Int)*2 ^ k=((a*2 ^ k:Nat):Int):=by simp
  rw [e,e2,wrap64 (by omega) (by omega)]
theorem zm (a:Nat) {k:Nat} (hk:k≤64):ad.ar .shr .i64 (a:Int) (k:Int)=((a / 2 ^ k:Nat):Int):=by
  show (a:Int).fdiv (2 ^ (min ((k:Int).toNat) 64))=_
  have e:min ((k:Int).toNat) 64=k:=by omega
  have e2:((2:Int) ^ k)=((2 ^ k:Nat):Int):=by simp
  rw [e,e2,← Int.ofNat_fdiv]
theorem IL {a x k:Nat} (h:a < 2 ^ k):a||| x*2 ^ k=a+x*2 ^ k:=by
  rw [Nat.or_comm,Nat.mul_comm x,← Nat.two_pow_add_eq_or_of_lt h,Nat.add_comm]
theorem th (x:Nat):D.int .u8 (ad.wrap .u8 (x:Int))=dE (UInt8.ofNat x):=by
  show D.int .u8 (IntKind.u8.wrap (x:Int))=_
  simp only [dE,IntKind.wrap,IntKind.bits,IntKind.signed]
  simp
theorem jm {R:Type} {x y:R} (xs:List UInt8):br (ad.flat (bytes xs)) x y=x:=by
  have:ad.flat (bytes xs)=true:=by
    show (bytes xs).all iV=true
    rw [List.all_eq_true]
    intro d hd
    obtain ⟨a,_,rfl⟩:=List.mem_map.1 hd
    rfl
  rw [this,aI]
theorem IM (x:UInt8):[dE x]=bytes [x]:=rfl
theorem gE (xs ys:List UInt8):List.append (bytes xs) (bytes ys)=bytes (xs++ys):=by simp [bytes]
def gU (n:Nat):List UInt8:=if h:n < 128 then [UInt8.ofNat n] else UInt8.ofNat (n % 128+128)::gU (n / 128)
termination_by n
decreasing_by omega
theorem tC:∀ (k n:Nat),n < 128 ^ (k+1)→(gU n).length≤k+1
  | 0,n,h=>by
    rw [gU,dif_pos (by omega)]
    simp
  | k+1,n,h=>by
    rw [gU]
    split
    · simp
    · have:n / 128 < 128 ^ (k+1):=by
        apply Nat.div_lt_of_lt_mul
        rw [Nat.pow_succ] at h
        omega
      have:=tC k (n / 128) this
      simp only [List.length_cons]
      omega
def dD (a:Int):List UInt8:=if 0≤a∧a≤2147483647 then gU a.toNat else []
theorem fJ (a:Int):(dD a).length≤5:=by
  unfold dD
  split
  · exact tC 4 _ (by omega)
  · simp
theorem A3:∀ (k n:Nat) (acc:List UInt8),n < 128 ^ (k+1)→n < 2147483648→acc.length+(gU n).length < 1000000→WP 163 Tryz.f163 [.undef] 0 (lj (n:Int) acc.length (bytes acc)) (.sl none 1 (acc++gU n).length (bytes (acc++gU n)),[.undef])
  | k,n,acc,hk,hn,hl=>by
    by_cases h:n < 128
    · refine WP.fin fun J=>?_
      rw [wJ,gU,dif_pos h]
      rw [gU,dif_pos h] at hl
      simp only [List.length_singleton] at hl
      simp (disch:=omega) only [bH,th,IM,jm,eu,aI,gE,bm,D0]
      simp
    · cases k with
      | zero=>omega
      | succ k=>
        have e:acc++gU n=(acc++[UInt8.ofNat (n % 128+128)])++gU (n / 128):=by
          conv=>lhs; rw [gU,dif_neg h]
          simp
        have hlen:(gU n).length=(gU (n / 128)).length+1:=by
          conv=>lhs; rw [gU,dif_neg h]
          simp
        have hd:n / 128 < 128 ^ (k+1):=by
          apply Nat.div_lt_of_lt_mul
          rw [Nat.pow_succ] at hk
          omega
        have ih:=A3 k (n / 128) (acc++[UInt8.ofNat (n % 128+128)]) hd (by omega) (by simp only [List.length_append,List.length_singleton]; omega)
        rw [e]
        refine WP.go _ ih fun J hJ=>?_
        rw [wJ]
        have r1:ad.ar .rem .i64 (n:Int) 128=((n % 128:Nat):Int):=rfl
        have r2:ad.ar .add .i64 ((n % 128:Nat):Int) 128=((n % 128+128:Nat):Int):=um (b:=128) (by omega)
        have r3:ad.ar .quo .i64 (n:Int) 128=((n / 128:Nat):Int):=WR (b:=128) (by omega)
        simp (disch:=omega) only [aZ,eA,bQ,cf,aI,bd,r1,r2,r3,th,IM,jm,eu,gE]
        have e2:(acc++[UInt8.ofNat (n % 128+128)]).length=acc.length+1:=by simp
        rw [e2] at hJ
        exact hJ
theorem Nb (a:Int):Cm 163 [.int .i64 a] (.sl none 1 (dD a).length (bytes (dD a)),[.undef]):=by
  by_cases h:0≤a∧a≤2147483647
  · obtain ⟨n,rfl⟩:∃ n:Nat,a=n:=⟨a.toNat,by omega⟩
    have e:dD (n:Int)=gU n:=by unfold dD; rw [if_pos h]; rfl
    rw [e]
    have hl:=tC 4 n (by omega)
    refine Cm.go AS [.undef] 0 (lj (n:Int) 0 []) (A3 4 n [] (by omega) (by omega) (by simp; omega)) fun J hJ=>?_
    rw [AT]
    simp only [jv,aF,ao,decide_eq_true h,bQ,cf,aI,bd]
    exact hJ
  · have e:dD a=[]:=by unfold dD; rw [if_neg h]
    rw [e]
    refine Cm.fin AS fun J=>?_
    rw [AT]
    simp only [jv,aF,ao,decide_eq_false h,bQ,cf,aI,bd]
    rfl
theorem A4:∀ (k n:Nat) (acc:List UInt8),n < 128 ^ (k+1)→n < 2147483648→acc.length+(gU n).length < 1000000→WP 172 Tryz.f172 [.undef] 0 (ll (n:Int) acc.length (bytes acc)) (.sl none 1 (acc++gU n).length (bytes (acc++gU n)),[.undef])
  | k,n,acc,hk,hn,hl=>by
    by_cases h:n < 128
    · refine WP.fin fun J=>?_
      rw [wK,gU,dif_pos h]
      rw [gU,dif_pos h] at hl
      simp only [List.length_singleton] at hl
      simp (disch:=omega) only [bH,th,IM,jm,eu,aI,gE,bm,D0]
      simp
    · cases k with
      | zero=>omega
      | succ k=>
        have e:acc++gU n=(acc++[UInt8.ofNat (n % 128+128)])++gU (n / 128):=by
          conv=>lhs; rw [gU,dif_neg h]
          simp
        have hlen:(gU n).length=(gU (n / 128)).length+1:=by
          conv=>lhs; rw [gU,dif_neg h]
          simp
        have hd:n / 128 < 128 ^ (k+1):=by
          apply Nat.div_lt_of_lt_mul
          rw [Nat.pow_succ] at hk
          omega
        have ih:=A4 k (n / 128) (acc++[UInt8.ofNat (n % 128+128)]) hd (by omega) (by simp only [List.length_append,List.length_singleton]; omega)
        rw [e]
        refine WP.go _ ih fun J hJ=>?_
        rw [wK]
        have r1:ad.ar .rem .i64 (n:Int) 128=((n % 128:Nat):Int):=rfl
        have r2:ad.ar .add .i64 ((n % 128:Nat):Int) 128=((n % 128+128:Nat):Int):=um (b:=128) (by omega)
        have r3:ad.ar .quo .i64 (n:Int) 128=((n / 128:Nat):Int):=WR (b:=128) (by omega)
        simp (disch:=omega) only [aZ,eA,bQ,cf,aI,bd,r1,r2,r3,th,IM,jm,eu,gE]
        have e2:(acc++[UInt8.ofNat (n % 128+128)]).length=acc.length+1:=by simp
        rw [e2] at hJ
        exact hJ
theorem Nc (a:Int):Cm 172 [.int .i64 a] (.sl none 1 (dD a).length (bytes (dD a)),[.undef]):=by
  by_cases h:0≤a∧a≤2147483647
  · obtain ⟨n,rfl⟩:∃ n:Nat,a=n:=⟨a.toNat,by omega⟩
    have e:dD (n:Int)=gU n:=by unfold dD; rw [if_pos h]; rfl
    rw [e]
    have hl:=tC 4 n (by omega)
    refine Cm.go AU [.undef] 0 (ll (n:Int) 0 []) (A4 4 n [] (by omega) (by omega) (by simp; omega)) fun J hJ=>?_
    rw [AV]
    simp (disch:=omega) only [bH]
    exact hJ
  · have e:dD a=[]:=by unfold dD; rw [if_neg h]
    rw [e]
    refine Cm.fin AU fun J=>?_
    rw [AV]
    by_cases h0:a < 0
    · simp (disch:=omega) only [aZ]
      rfl
    · simp (disch:=omega) only [bH,aZ]
      rfl
section
variable (t:bS Rz)
theorem nn (a:Int):aU 163 [.int .i64 a] t=feed t [.sl none 1 (dD a).length (bytes (dD a))]:=bh (Nb a) (by kernel_rfl) t
theorem Nd (a:Int):aU 172 [.int .i64 a] t=feed t [.sl none 1 (dD a).length (bytes (dD a))]:=bh (Nc a) (by kernel_rfl) t
end
def rN (a:Nat):List UInt8:=[UInt8.ofNat a,UInt8.ofNat (a / 256),UInt8.ofNat (a / 65536),UInt8.ofNat (a / 16777216)]
theorem afc (a:Nat) (h:a < 4611686018427387904):Cm 167 [.int .i64 (a:Int)] (.sl none 1 4 (bytes (rN a)),[.undef]):=by
  refine Cm.fin RA fun J=>?_
  rw [RB]
  have r1:ad.ar .shr .i64 (a:Int) 8=((a / 256:Nat):Int):=zm a (k:=8) (by omega)
  have r2:ad.ar .shr .i64 (a:Int) 16=((a / 65536:Nat):Int):=zm a (k:=16) (by omega)
  have r3:ad.ar .shr .i64 (a:Int) 24=((a / 16777216:Nat):Int):=zm a (k:=24) (by omega)
  simp (disch:=omega) only [bH,bQ,cf,aI,bd,r1,r2,r3,th]
  rfl
theorem acr (x:Nat):UInt8.ofNat (x&&& 255)=UInt8.ofNat x:=by
  apply UInt8.toNat_inj.1
  have:x&&& 255=x % 256:=Nat.and_two_pow_sub_one_eq_mod x 8
  rw [this]
  simp
theorem acs (a:Nat) (h:a < 4611686018427387904):Cm 158 [.int .i64 (a:Int)] (.sl none 1 4 (bytes (rN a)),[.undef]):=by
  refine Cm.fin QE fun J=>?_
  rw [QF]
  have r1:ad.ar .shr .i64 (a:Int) 8=((a / 256:Nat):Int):=zm a (k:=8) (by omega)
  have r2:ad.ar .shr .i64 (a:Int) 16=((a / 65536:Nat):Int):=zm a (k:=16) (by omega)
  have r3:ad.ar .shr .i64 (a:Int) 24=((a / 16777216:Nat):Int):=zm a (k:=24) (by omega)
  have q:∀ x:Nat,x < 4611686018427387904→ad.ar .and .i64 (x:Int) 255=((x&&& 255:Nat):Int):=fun x hx=>afb (b:=255) hx (by omega)
  simp (disch:=omega) only [bH,bQ,cf,aI,bd,r1,r2,r3,q,th,acr]
  rfl
def lW:Int × Int × Bool:=(0,0,false)
def iQ (b:List UInt8) (p:Nat):Nat→Nat→Nat→Int × Int × Bool
  | 0,_,_=>lW
  | k+1,i,acc=>
    if h:p+i < b.length then
      if 128≤b[p+i].toNat then iQ b p k (i+1) (acc+b[p+i].toNat % 128*128 ^ i)
      else if 2147483647 < acc+b[p+i].toNat % 128*128 ^ i∨(b[p+i].toNat=0∧0 < i) then lW
      else (((acc+b[p+i].toNat % 128*128 ^ i:Nat):Int),((p+i+1:Nat):Int),true)
    else lW
def il (b:List UInt8) (a:Int):Int × Int × Bool:=if a < 0 then lW else iQ b a.toNat 5 0 0
abbrev Of (x:Int × Int × Bool):Rz:=(.bf [.int .i64 x.1,.int .i64 x.2.1,.bool x.2.2],[.undef,.undef])
theorem IN (i:Nat):128 ^ i=2 ^ (7*i):=by rw [Nat.pow_mul]
theorem A5 (g:Bool) (b:List UInt8) (p:Nat) (hb:b.length < 4611686018427387904):∀ (k i acc:Nat),i+k=5→acc < 128 ^ i→WP 168 Tryz.f168 [.undef,.undef] 0 (nU g b.length (bytes b) (p:Int) (acc:Int) ((128 ^ i:Nat):Int) (i:Int)) (Of (iQ b p k i acc))
  | 0,i,acc,hi,ha=>by
    obtain rfl:i=5:=by omega
    refine WP.fin fun J=>?_
    rw [mV]
    simp (disch:=omega) only [bH]
    rfl
  | k+1,i,acc,hi,ha=>by
    have hpw:128 ^ i≤268435456:=by
      have:128 ^ i≤128 ^ 4:=Nat.pow_le_pow_right (by omega) (by omega)
      omega
    have hs:ad.ar .sub .i64 (ad.aS b.length) (i:Int)=(b.length:Int) - (i:Int):=eZ (by simp only [aB]; omega) (by simp only [aB]; omega)
    by_cases h:p+i < b.length
    · have hd:b[p+i].toNat < 256:=b[p+i].toNat_lt
      have hm:b[p+i].toNat % 128 < 128:=Nat.mod_lt _ (by omega)
      have hx:b[p+i].toNat % 128*128 ^ i≤127*128 ^ i:=Nat.mul_le_mul_right _ (by omega)
      have r0:ad.ar .add .i64 (p:Int) (i:Int)=((p+i:Nat):Int):=um (by omega)
      have r1:ad.aO (bytes b) (p+i)=(b[p+i].toNat:Int):=yJ h
      have r2:ad.wrap .i64 (b[p+i].toNat:Int)=(b[p+i].toNat:Int):=LR (by omega)
      have r3:ad.ar .rem .i64 (b[p+i].toNat:Int) 128=((b[p+i].toNat % 128:Nat):Int):=rfl
      have r4:ad.ar .mul .i64 ((b[p+i].toNat % 128:Nat):Int) ((128 ^ i:Nat):Int)=((b[p+i].toNat % 128*128 ^ i:Nat):Int):=QG (by omega)
      have r5:ad.ar .add .i64 (acc:Int) ((b[p+i].toNat % 128*128 ^ i:Nat):Int)=((acc+b[p+i].toNat % 128*128 ^ i:Nat):Int):=um (by omega)
      by_cases hc:128≤b[p+i].toNat
      · have e:iQ b p (k+1) i acc=iQ b p k (i+1) (acc+b[p+i].toNat % 128*128 ^ i):=by
          rw [iQ,dif_pos h,if_pos hc]
        rw [e]
        have ih:=A5 g b p hb k (i+1) (acc+b[p+i].toNat % 128*128 ^ i) (by omega) (by rw [Nat.pow_succ]; omega)
        refine WP.go _ ih fun J hJ=>?_
        rw [mV]
        have r6:ad.ar .mul .i64 ((128 ^ i:Nat):Int) 128=((128 ^ i*128:Nat):Int):=QG (b:=128) (by omega)
        simp (disch:=first | omega | assumption) only [hs,r0,cS,r1,r2,r3,r4,r5,aZ,bA,nv,eA,bm,bQ,cf,aI,bd,xQ,r6,dn]
        rw [← Nat.pow_succ]
        exact hJ
      · have r7:ad.ar .add .i64 ((p+i:Nat):Int) 1=((p+i+1:Nat):Int):=dn (by omega)
        refine WP.fin fun J=>?_
        rw [mV,iQ,dif_pos h,if_neg hc]
        simp (disch:=first | omega | assumption) only [hs,r0,cS,r1,r2,r3,r4,r5,aZ,bA,nv,eA,bm,bQ,cf,aI,bd,ni,r7]
        by_cases h1:2147483647 < acc+b[p+i].toNat % 128*128 ^ i
        · rw [if_pos (Or.inl h1),aZ (by omega)]
          rfl
        · rw [bH (by omega)]
          by_cases h2:b[p+i].toNat=0
          · rw [gq (by omega)]
            by_cases h3:0 < i
            · rw [if_pos (Or.inr ⟨h2,h3⟩),aZ (by omega)]
              rfl
            · rw [if_neg (by omega),bH (by omega)]
          · rw [if_neg (by omega),eA (by omega)]
    · refine WP.fin fun J=>?_
      rw [mV,iQ,dif_neg h]
      simp (disch:=omega) only [hs,aZ,bH]
      rfl
theorem A6 (g:Bool) (b:List UInt8) (p:Nat) (hb:b.length < 4611686018427387904):∀ (k i acc:Nat),i+k=5→acc < 128 ^ i→WP 162 Tryz.f162 [.undef,.undef] 0 (lp g b.length (bytes b) (p:Int) (acc:Int) (i:Int)) (Of (iQ b p k i acc))
  | 0,i,acc,hi,ha=>by
    obtain rfl:i=5:=by omega
    refine WP.fin fun J=>?_
    rw [kd]
    simp (disch:=omega) only [bH]
    rfl
  | k+1,i,acc,hi,ha=>by
    have hpw:128 ^ i≤268435456:=by
      have:128 ^ i≤128 ^ 4:=Nat.pow_le_pow_right (by omega) (by omega)
      omega
    have hs:ad.ar .sub .i64 (ad.aS b.length) (i:Int)=(b.length:Int) - (i:Int):=eZ (by simp only [aB]; omega) (by simp only [aB]; omega)
    by_cases h:p+i < b.length
    · have hd:b[p+i].toNat < 256:=b[p+i].toNat_lt
      have hm:b[p+i].toNat % 128 < 128:=Nat.mod_lt _ (by omega)
      have hx:b[p+i].toNat % 128*128 ^ i≤127*128 ^ i:=Nat.mul_le_mul_right _ (by omega)
      have r0:ad.ar .add .i64 (p:Int) (i:Int)=((p+i:Nat):Int):=um (by omega)
      have r1:ad.aO (bytes b) (p+i)=(b[p+i].toNat:Int):=yJ h
      have r2:ad.wrap .i64 (b[p+i].toNat:Int)=(b[p+i].toNat:Int):=LR (by omega)
      have r3:ad.ar .rem .i64 (b[p+i].toNat:Int) 128=((b[p+i].toNat % 128:Nat):Int):=rfl
      have r4:ad.ar .mul .i64 7 (i:Int)=((7*i:Nat):Int):=QG (a:=7) (by omega)
      have r5:ad.ar .shl .i64 ((b[p+i].toNat % 128:Nat):Int) ((7*i:Nat):Int)=((b[p+i].toNat % 128*128 ^ i:Nat):Int):=by
        rw [IN]
        exact wL (by omega) (by rw [← IN]; omega)
      have r6:ad.ar .or .i64 (acc:Int) ((b[p+i].toNat % 128*128 ^ i:Nat):Int)=((acc+b[p+i].toNat % 128*128 ^ i:Nat):Int):=by
        rw [Oe (by omega) (by omega),IN,IL (by rw [← IN]; exact ha)]
      by_cases hc:128≤b[p+i].toNat
      · have e:iQ b p (k+1) i acc=iQ b p k (i+1) (acc+b[p+i].toNat % 128*128 ^ i):=by
          rw [iQ,dif_pos h,if_pos hc]
        rw [e]
        have ih:=A6 g b p hb k (i+1) (acc+b[p+i].toNat % 128*128 ^ i) (by omega) (by rw [Nat.pow_succ]; omega)
        refine WP.go _ ih fun J hJ=>?_
        rw [kd]
        simp (disch:=first | omega | assumption) only [hs,r0,cS,r1,r2,r3,r4,r5,r6,aZ,bH,ni,bA,nv,eA,bm,bQ,cf,aI,bd,dn]
        exact hJ
      · have r7:ad.ar .add .i64 ((p+i:Nat):Int) 1=((p+i+1:Nat):Int):=dn (by omega)
        refine WP.fin fun J=>?_
        rw [kd,iQ,dif_pos h,if_neg hc]
        have E4:(b[p+i].toNat:Int) < 128:=by omega
        by_cases h1:2147483647 < acc+b[p+i].toNat % 128*128 ^ i
        · have pD:(2147483647:Int) < ((acc+b[p+i].toNat % 128*128 ^ i:Nat):Int):=by omega
          rw [if_pos (Or.inl h1)]
          simp (disch:=first | omega | assumption) only [hs,r0,cS,r1,r2,r3,r4,r5,r6,aZ E4,aZ pD,bH,ni,bA,nv,eA,bm,bQ,cf,aI,bd,r7,D0]
          rfl
        · have pD:((acc+b[p+i].toNat % 128*128 ^ i:Nat):Int)≤2147483647:=by omega
          have h0:(i:Int) < 5:=by omega
          by_cases h2:b[p+i].toNat=0
          · have Vq:(b[p+i].toNat:Int)=0:=by omega
            by_cases h3:0 < i
            · have Hc:(0:Int) < (i:Int):=by omega
              rw [if_pos (Or.inr ⟨h2,h3⟩)]
              simp (disch:=first | omega | assumption) only [hs,r0,cS,r1,r2,r3,r4,r5,r6,aZ h0,aZ E4,aZ Hc,gq Vq,bH,ni,bA,nv,eA,bm,bQ,cf,aI,bd,r7]
              rfl
            · have Hc:(i:Int)≤0:=by omega
              rw [if_neg (by omega)]
              simp (disch:=first | omega | assumption) only [hs,r0,cS,r1,r2,r3,r4,r5,r6,aZ h0,aZ E4,bH Hc,bH pD,bH,ni,bA,nv,eA,bm,bQ,cf,aI,bd,r7]
          · have Vq:(b[p+i].toNat:Int)≠0:=by omega
            rw [if_neg (by omega)]
            simp (disch:=first | omega | assumption) only [hs,r0,cS,r1,r2,r3,r4,r5,r6,aZ h0,aZ E4,eA Vq,bH pD,bH,ni,bA,nv,eA,bm,bQ,cf,aI,bd,r7,D0]
    · refine WP.fin fun J=>?_
      rw [kd,iQ,dif_neg h]
      simp (disch:=omega) only [hs,aZ,bH,xQ]
      rfl
theorem Nf (g:Bool) (b:List UInt8) (a:Int) (hb:b.length < 4611686018427387904):Cm 168 [.sl (some g) 1 b.length (bytes b),.int .i64 a] (Of (il b a)):=by
  unfold il
  by_cases h:a < 0
  · rw [if_pos h]
    refine Cm.fin AY fun J=>?_
    rw [AZ]
    simp (disch:=omega) only [aZ]
    rfl
  · rw [if_neg h]
    obtain ⟨p,rfl⟩:∃ n:Nat,a=n:=⟨a.toNat,by omega⟩
    refine Cm.go AY [.undef,.undef] 0 _ (A5 g b p hb 5 0 0 rfl (by omega)) fun J hJ=>?_
    rw [AZ]
    simp (disch:=omega) only [bH]
    exact hJ
theorem Ng (g:Bool) (b:List UInt8) (a:Int) (hb:b.length < 4611686018427387904):Cm 162 [.sl (some g) 1 b.length (bytes b),.int .i64 a] (Of (il b a)):=by
  unfold il
  by_cases h:a < 0
  · rw [if_pos h]
    refine Cm.go AW [.undef,.undef] 0 (lp g b.length (bytes b) a 0 0) (WP.fin fun J=>?_) fun J hJ=>?_
    · rw [kd]
      simp (disch:=omega) only [aZ]
      rfl
    · rw [AX]
      exact hJ
  · rw [if_neg h]
    obtain ⟨p,rfl⟩:∃ n:Nat,a=n:=⟨a.toNat,by omega⟩
    refine Cm.go AW [.undef,.undef] 0 _ (A6 g b p hb 5 0 0 rfl (by omega)) fun J hJ=>?_
    rw [AX]
    exact hJ
section
variable (t:bS Rz)
theorem Nh (g:Bool) (b:List UInt8) (a:Int) (hb:b.length < 4611686018427387904):aU 168 [.sl (some g) 1 b.length (bytes b),.int .i64 a] t=feed t [.int .i64 (il b a).1,.int .i64 (il b a).2.1,.bool (il b a).2.2]:=bh (Nf g b a hb) (by kernel_rfl) t
theorem Ni (g:Bool) (b:List UInt8) (a:Int) (hb:b.length < 4611686018427387904):aU 162 [.sl (some g) 1 b.length (bytes b),.int .i64 a] t=feed t [.int .i64 (il b a).1,.int .i64 (il b a).2.1,.bool (il b a).2.2]:=bh (Ng g b a hb) (by kernel_rfl) t
end
end Go.Proofs.YtockoilcnmljiaaGreat
namespace Go.Proofs.YtockoilcnmljiaaGreat
set_option maxRecDepth 100000
section
variable (pr:dr) (cv:Cv Rz) (J:Nat→St→Option Rz)
theorem QH:Told cfg Tryz.prog 156 Tryz.f156:=⟨by kernel_rfl,Tryz.func156,by kernel_rfl⟩
theorem QI (n0:Nat) (c0:List D) (a1:Int) (a2:Bool):aR pr cv J 156 Tryz.f156 [(.bp [(.sl (some false) 1 n0 c0),(.int .i64 a1),(.bool a2)])]=
    let y1:Option (D × List D):=(some ((.int .i64 0),[(.bp [(.sl (some false) 1 n0 c0),(.int .i64 a1),(.bool false)])]))
    (cv 162 [(.sl (some false) 1 n0 c0),(.int .i64 a1)] (.int (fun dA=>(.int (fun kW=>(.bool (fun fb=>(.done (br (br fb false true) y1 (br (br a2 false true) y1 (some ((.int .i64 dA),[(.bp [(.sl (some false) 1 n0 c0),(.int .i64 kW),(.bool a2)])])))))))))))):=by kernel_rfl
theorem Ee:Told cfg Tryz.prog 165 Tryz.f165:=⟨by kernel_rfl,Tryz.func165,by kernel_rfl⟩
theorem Ef (n0:Nat) (c0:List D) (a1:Int) (a2:Bool):aR pr cv J 165 Tryz.f165 [(.bp [(.sl (some false) 1 n0 c0),(.int .i64 a1),(.bool a2)])]=
    (br (br a2 false true) (some ((.int .i64 0),[(.bp [(.sl (some false) 1 n0 c0),(.int .i64 a1),(.bool a2)])])) (cv 168 [(.sl (some false) 1 n0 c0),(.int .i64 a1)] (.int (fun dA=>(.int (fun kW=>(.bool (fun fb=>(.done (some ((.int .i64 dA),[(.bp [(.sl (some false) 1 n0 c0),(.int .i64 kW),(.bool fb)])]))))))))))):=by kernel_rfl
def nV (i0:Int) (i1:Int) (n2:Nat) (c3:List D) (i4:Int) (b5:Bool) (n6:Nat) (c7:List D):St:=(St.mk [(0,(.ptr 28 [] 0)),(3,(.ref 10003 [] 0 none)),(4,(.int .i64 i0)),(5,(.int .i64 i1))] [(28,[(.sl (some false) 1 n2 c3),(.int .i64 i4),(.bool b5)]),(10003,[(.sl none 1 n6 c7)])] [] 0)
theorem Nj:Told cfg Tryz.prog 155 Tryz.f155:=⟨by kernel_rfl,Tryz.func155,by kernel_rfl⟩
theorem Nk (n0:Nat) (c0:List D) (a1:Int) (a2:Bool):aR pr cv J 155 Tryz.f155 [(.bp [(.sl (some false) 1 n0 c0),(.int .i64 a1),(.bool a2)])]=
    (br (br (br (pr.nl c0) true false) true false) (cv 156 [(.bp [(.sl (some false) 1 n0 c0),(.int .i64 a1),(.bool a2)])] (.int (fun dA=>(.jT (fun eQ=>(fun pc=>(fun iX=>(.int (fun qK=>(.bool (fun wv=>(.done (br (br (br (pr.nl iX) true false) true false) (J 0 (nV dA 0 pc iX qK wv 0 [])) none))))))))))))) none):=by kernel_rfl
theorem ql (i0:Int) (i1:Int) (n2:Nat) (c3:List D) (i4:Int) (b5:Bool) (n6:Nat) (c7:List D):bJ pr cv J 155 Tryz.f155 [(.bp [])] 0 (nV i0 i1 n2 c3 i4 b5 n6 c7)=
    let y1:List D:=[(.bp [(.sl (some false) 1 n2 c3),(.int .i64 i4),(.bool b5)])]
    let y2:Option (D × List D):=(some ((.sl none 1 n6 c7),y1))
    (br (pr.lt i1 i0) (br b5 (br (br (br (pr.nl c3) true false) true false) (cv 156 y1 (.int (fun dA=>(.jT (fun eQ=>(fun pc=>(fun iX=>(.int (fun qK=>(.bool (fun wv=>(.done (br (br (br (pr.nl iX) true false) true false) (br (br (pr.flat [(.int .i64 dA)]) (pr.fits (n6+1) 8) false) (J 0 (nV i0 (pr.ar .add .i64 i1 1) pc iX qK wv (n6+1) (List.append c7 [(.int .i64 dA)]))) none) none))))))))))))) none) y2) y2):=by kernel_rfl
def jG (i0:Int) (i1:Int) (n2:Nat) (c3:List D) (i4:Int) (b5:Bool) (n6:Nat) (c7:List D):St:=(St.mk [(0,(.ptr 28 [] 0)),(3,(.ref 10003 [] 0 none)),(4,(.int .i64 i0)),(5,(.int .i64 i1))] [(28,[(.sl (some false) 1 n2 c3),(.int .i64 i4),(.bool b5)]),(10003,[(.sl none 1 n6 c7)])] [] 0)
theorem CX:Told cfg Tryz.prog 164 Tryz.f164:=⟨by kernel_rfl,Tryz.func164,by kernel_rfl⟩
theorem CY (n0:Nat) (c0:List D) (a1:Int) (a2:Bool):aR pr cv J 164 Tryz.f164 [(.bp [(.sl (some false) 1 n0 c0),(.int .i64 a1),(.bool a2)])]=
    (br (br (br (pr.nl c0) true false) true false) (cv 165 [(.bp [(.sl (some false) 1 n0 c0),(.int .i64 a1),(.bool a2)])] (.int (fun dA=>(.jT (fun eQ=>(fun pc=>(fun iX=>(.int (fun qK=>(.bool (fun wv=>(.done (br (br (br (pr.nl iX) true false) true false) (J 0 (jG dA 0 pc iX qK wv 0 [])) none))))))))))))) none):=by kernel_rfl
theorem mz (i0:Int) (i1:Int) (n2:Nat) (c3:List D) (i4:Int) (b5:Bool) (n6:Nat) (c7:List D):bJ pr cv J 164 Tryz.f164 [(.bp [])] 0 (jG i0 i1 n2 c3 i4 b5 n6 c7)=
    let y1:List D:=[(.bp [(.sl (some false) 1 n2 c3),(.int .i64 i4),(.bool b5)])]
    let y2:Option (D × List D):=(some ((.sl none 1 n6 c7),y1))
    (br (pr.lt i1 i0) (br b5 (br (br (br (pr.nl c3) true false) true false) (cv 165 y1 (.int (fun dA=>(.jT (fun eQ=>(fun pc=>(fun iX=>(.int (fun qK=>(.bool (fun wv=>(.done (br (br (br (pr.nl iX) true false) true false) (br (br (pr.flat [(.int .i64 dA)]) (pr.fits (n6+1) 8) false) (J 0 (jG i0 (pr.ar .add .i64 i1 1) pc iX qK wv (n6+1) (List.append c7 [(.int .i64 dA)]))) none) none))))))))))))) none) y2) y2):=by kernel_rfl
end
theorem gV {R:Type} (f:Bool→Nat→List D→bS R) (g:Bool) (s n:Nat) (cs l:List D):feed (.jT f) (.sl (some g) s n cs::l)=feed (f g n cs) l:=rfl
theorem IP (b:List UInt8) (p:Nat):∀ k i acc,0≤(iQ b p k i acc).1∧(iQ b p k i acc).1≤2147483647
  | 0,_,_=>by simp [iQ,lW]
  | k+1,i,acc=>by
    rw [iQ]
    split
    · split
      · exact IP b p k _ _
      · split
        · simp [lW]
        · simp only
          omega
    · simp [lW]
theorem IQ (b:List UInt8) (a:Int):0≤(il b a).1∧(il b a).1≤2147483647:=by
  unfold il
  split
  · simp [lW]
  · exact IP b _ _ _ _
theorem LS (b:List UInt8) (p:Nat):∀ k i acc,(iQ b p k i acc).2.2=true→(p:Int) < (iQ b p k i acc).2.1∧(iQ b p k i acc).2.1≤b.length
  | 0,_,_,h=>by simp [iQ,lW] at h
  | k+1,i,acc,h=>by
    rw [iQ] at h ⊢
    split at h
    · rename_i h1
      rw [dif_pos h1]
      split at h
      · rename_i h2
        rw [if_pos h2]
        exact LS b p k _ _ h
      · rename_i h2
        rw [if_neg h2]
        split at h
        · simp [lW] at h
        · rename_i h3
          rw [if_neg h3]
          simp only
          omega
    · simp [lW] at h
theorem LU (b:List UInt8) (a:Int) (h:(il b a).2.2=true):0≤a∧a < (il b a).2.1∧(il b a).2.1≤b.length:=by
  unfold il at h ⊢
  split at h
  · simp [lW] at h
  · rename_i h1
    rw [if_neg h1]
    have:=LS b a.toNat _ _ _ h
    omega
abbrev yk (b:List UInt8) (c:Int × Bool):D:=.bp [s8 (some false) b,.int .i64 c.1,.bool c.2]
def bP (b:List UInt8) (c:Int × Bool):Int × (Int × Bool):=if (il b c.1).2.2&&c.2 then ((il b c.1).1,((il b c.1).2.1,true)) else (0,(c.1,false))
def bT (b:List UInt8) (c:Int × Bool):Int × (Int × Bool):=if c.2 then ((il b c.1).1,((il b c.1).2.1,(il b c.1).2.2)) else (0,c)
theorem Ut (b:List UInt8) (c:Int × Bool):0≤(bP b c).1∧(bP b c).1≤2147483647:=by
  have:=IQ b c.1
  unfold bP
  split<;>simp [this]
theorem Uu (b:List UInt8) (c:Int × Bool):0≤(bT b c).1∧(bT b c).1≤2147483647:=by
  have:=IQ b c.1
  unfold bT
  split<;>simp [this]
theorem Uv (b:List UInt8) (c:Int × Bool) (hb:b.length < 4611686018427387904):Cm 156 [yk b c] (.int .i64 (bP b c).1,[yk b (bP b c).2]):=by
  obtain ⟨p,k⟩:=c
  refine Cm.fin QH fun J=>?_
  rw [QI]
  simp (disch:=assumption) only [Ni,cn,aF,ao]
  unfold bP
  cases (il b p).2.2<;>cases k<;>rfl
theorem Uw (b:List UInt8) (c:Int × Bool) (hb:b.length < 4611686018427387904):Cm 165 [yk b c] (.int .i64 (bT b c).1,[yk b (bT b c).2]):=by
  obtain ⟨p,k⟩:=c
  refine Cm.fin Ee fun J=>?_
  rw [Ef]
  simp (disch:=assumption) only [Nh,cn,aF,ao]
  unfold bT
  cases k<;>rfl
section
variable (t:bS Rz)
theorem An (b:List UInt8) (p:Int) (k:Bool) (hb:b.length < 4611686018427387904):aU 156 [.bp [.sl (some false) 1 b.length (bytes b),.int .i64 p,.bool k]] t=feed t [.int .i64 (bP b (p,k)).1,.sl (some false) 1 b.length (bytes b),.int .i64 (bP b (p,k)).2.1,.bool (bP b (p,k)).2.2]:=bh (Uv b (p,k) hb) (by kernel_rfl) t
theorem Ao (b:List UInt8) (p:Int) (k:Bool) (hb:b.length < 4611686018427387904):aU 165 [.bp [.sl (some false) 1 b.length (bytes b),.int .i64 p,.bool k]] t=feed t [.int .i64 (bT b (p,k)).1,.sl (some false) 1 b.length (bytes b),.int .i64 (bT b (p,k)).2.1,.bool (bT b (p,k)).2.2]:=bh (Uw b (p,k) hb) (by kernel_rfl) t
end
def oL (num:List UInt8→Int × Bool→Int × (Int × Bool)) (b:List UInt8):Nat→Int × Bool→List Int→List Int × (Int × Bool)
  | 0,c,out=>(out,c)
  | k+1,c,out=>if c.2 then oL num b k (num b c).2 (out++[(num b c).1]) else (out,c)
def bo (num:List UInt8→Int × Bool→Int × (Int × Bool)) (b:List UInt8) (c:Int × Bool):List Int × (Int × Bool):=oL num b (num b c).1.toNat (num b c).2 []
theorem WS {R:Type} {x y:R} (a:Int):br (ad.flat [.int .i64 a]) x y=x:=rfl
theorem LV (xs:List Int) (a:Int):List.append (ints xs) [.int .i64 a]=ints (xs++[a]):=by simp [ints]
theorem Fk (b:List UInt8) (hb:b.length < 4611686018427387904) (n:Nat) (hn:n≤2147483647):∀ (k i:Nat) (c:Int × Bool) (out:List Int),i+k=n→out.length≤i→WP 155 Tryz.f155 [.bp []] 0 (nV (n:Int) (i:Int) b.length (bytes b) c.1 c.2 out.length (ints out)) (.sl none 1 (oL bP b k c out).1.length (ints (oL bP b k c out).1),[yk b (oL bP b k c out).2])
  | 0,i,c,out,hi,ho=>by
    refine WP.fin fun J=>?_
    rw [ql]
    simp (disch:=omega) only [bH]
    rfl
  | k+1,i,c,out,hi,ho=>by
    obtain ⟨p,q⟩:=c
    cases q with
    | false=>
      refine WP.fin fun J=>?_
      rw [ql]
      simp (disch:=omega) only [aZ,bd]
      rfl
    | true=>
      have e:oL bP b (k+1) (p,true) out=oL bP b k (bP b (p,true)).2 (out++[(bP b (p,true)).1]):=by rw [oL,if_pos rfl]
      rw [e]
      have ih:=Fk b hb n hn k (i+1) (bP b (p,true)).2 (out++[(bP b (p,true)).1]) (by omega) (by simp only [List.length_append,List.length_singleton]; omega)
      refine WP.go _ ih fun J hJ=>?_
      rw [ql]
      simp (disch:=first | omega | assumption) only [aZ,aI,eK,bm,An,cn,gV,aF,ao,WS,eu,LV,dn]
      have e2:(out++[(bP b (p,true)).1]).length=out.length+1:=by simp
      rw [e2] at hJ
      exact hJ
theorem RD (b:List UInt8) (c:Int × Bool) (hb:b.length < 4611686018427387904):Cm 155 [yk b c] (.sl none 1 (bo bP b c).1.length (ints (bo bP b c).1),[yk b (bo bP b c).2]):=by
  obtain ⟨p,q⟩:=c
  have hn:=Ut b (p,q)
  have en:(((bP b (p,q)).1.toNat:Nat):Int)=(bP b (p,q)).1:=by omega
  refine Cm.go Nj [.bp []] 0 _ (Fk b hb (bP b (p,q)).1.toNat (by omega) (bP b (p,q)).1.toNat 0 (bP b (p,q)).2 [] (by omega) (by simp)) fun J hJ=>?_
  rw [Nk]
  simp (disch:=first | omega | assumption) only [aI,eK,bm,An,cn,gV,aF,ao]
  rw [en] at hJ
  exact hJ
theorem tD (b:List UInt8) (p:Int) (k:Bool) (hb:b.length < 4611686018427387904) (t:bS Rz):aU 155 [.bp [.sl (some false) 1 b.length (bytes b),.int .i64 p,.bool k]] t=feed t [.sl none 1 (bo bP b (p,k)).1.length (ints (bo bP b (p,k)).1),.sl (some false) 1 b.length (bytes b),.int .i64 (bo bP b (p,k)).2.1,.bool (bo bP b (p,k)).2.2]:=bh (RD b (p,k) hb) (by kernel_rfl) t
theorem Fl (b:List UInt8) (hb:b.length < 4611686018427387904) (n:Nat) (hn:n≤2147483647):∀ (k i:Nat) (c:Int × Bool) (out:List Int),i+k=n→out.length≤i→WP 164 Tryz.f164 [.bp []] 0 (jG (n:Int) (i:Int) b.length (bytes b) c.1 c.2 out.length (ints out)) (.sl none 1 (oL bT b k c out).1.length (ints (oL bT b k c out).1),[yk b (oL bT b k c out).2])
  | 0,i,c,out,hi,ho=>by
    refine WP.fin fun J=>?_
    rw [mz]
    simp (disch:=omega) only [bH]
    rfl
  | k+1,i,c,out,hi,ho=>by
    obtain ⟨p,q⟩:=c
    cases q with
    | false=>
      refine WP.fin fun J=>?_
      rw [mz]
      simp (disch:=omega) only [aZ,bd]
      rfl
    | true=>
      have e:oL bT b (k+1) (p,true) out=oL bT b k (bT b (p,true)).2 (out++[(bT b (p,true)).1]):=by rw [oL,if_pos rfl]
      rw [e]
      have ih:=Fl b hb n hn k (i+1) (bT b (p,true)).2 (out++[(bT b (p,true)).1]) (by omega) (by simp only [List.length_append,List.length_singleton]; omega)
      refine WP.go _ ih fun J hJ=>?_
      rw [mz]
      simp (disch:=first | omega | assumption) only [aZ,aI,eK,bm,Ao,cn,gV,aF,ao,WS,eu,LV,dn]
      have e2:(out++[(bT b (p,true)).1]).length=out.length+1:=by simp
      rw [e2] at hJ
      exact hJ
theorem RE (b:List UInt8) (c:Int × Bool) (hb:b.length < 4611686018427387904):Cm 164 [yk b c] (.sl none 1 (bo bT b c).1.length (ints (bo bT b c).1),[yk b (bo bT b c).2]):=by
  obtain ⟨p,q⟩:=c
  have hn:=Uu b (p,q)
  have en:(((bT b (p,q)).1.toNat:Nat):Int)=(bT b (p,q)).1:=by omega
  refine Cm.go CX [.bp []] 0 _ (Fl b hb (bT b (p,q)).1.toNat (by omega) (bT b (p,q)).1.toNat 0 (bT b (p,q)).2 [] (by omega) (by simp)) fun J hJ=>?_
  rw [CY]
  simp (disch:=first | omega | assumption) only [aI,eK,bm,Ao,cn,gV,aF,ao]
  rw [en] at hJ
  exact hJ
theorem tE (b:List UInt8) (p:Int) (k:Bool) (hb:b.length < 4611686018427387904) (t:bS Rz):aU 164 [.bp [.sl (some false) 1 b.length (bytes b),.int .i64 p,.bool k]] t=feed t [.sl none 1 (bo bT b (p,k)).1.length (ints (bo bT b (p,k)).1),.sl (some false) 1 b.length (bytes b),.int .i64 (bo bT b (p,k)).2.1,.bool (bo bT b (p,k)).2.2]:=bh (RE b (p,k) hb) (by kernel_rfl) t
end Go.Proofs.YtockoilcnmljiaaGreat
