/- What the proof of FnExactLeave stands on, part 5: an abstract machine on plain data, its soundness, and the contracts of functions. -/
import Derived.Test.YtockoilcnmljiaaGreatMd
set_option linter.all false
set_option linter.unusedSimpArgs false
set_option linter.unusedVariables false
set_option linter.unnecessarySimpa false
set_option linter.unusedSectionVars false
namespace Go.Proofs.YtockoilcnmljiaaGreat
set_option maxRecDepth 100000
section
variable (pr:dT) (cv:Cv Rz) (J:Nat→St→Option Rz)
def mu (g0:Bool) (n1:Nat) (c2:List D) (i3:Int) (i4:Int):St:=(St.mk [(0,(.sl (some g0) 16 n1 c2)),(1,(.int .i64 i3)),(5,(.int .i64 i4))] [] [] 0)
theorem xB:Told cfg Tryz.prog 66 Tryz.f66:=⟨by kernel_rfl,Tryz.func66,by kernel_rfl⟩
theorem xC (g0:Bool) (n0:Nat) (c0:List D) (a1:Int):aQ pr cv J 66 Tryz.f66 [(.sl (some g0) 16 n0 c0),(.int .i64 a1)]=
    (br (pr.lt (pr.ar .sub .i64 a1 (pr.aS n0)) 0) (some ((.int .i64 (-1)),[.undef,.undef])) (J 0 (mu g0 n0 c0 (pr.ar .sub .i64 a1 (pr.aS n0)) 0))):=by kernel_rfl
theorem oF (g0:Bool) (n1:Nat) (c2:List D) (i3:Int) (i4:Int):bJ pr cv J 66 Tryz.f66 [.undef,.undef] 0 (mu g0 n1 c2 i3 i4)=
    (br (pr.lt i4 (pr.aS n1)) (br (pr.bD i4 n1) (br (br (pr.cw .i64 c2 (pr.idx 0 i4 16)) (br (pr.df c2 ((pr.idx 0 i4 16)+1)) (br (pr.df c2 ((pr.idx 0 i4 16)+2)) (br (pr.bU 1 c2 ((pr.idx 0 i4 16)+3)) (br (pr.bU 1 c2 ((pr.idx 0 i4 16)+4)) (br (pr.bU 1 c2 ((pr.idx 0 i4 16)+5)) (br (pr.df c2 ((pr.idx 0 i4 16)+6)) (br (pr.df c2 ((pr.idx 0 i4 16)+7)) (br (pr.df c2 ((pr.idx 0 i4 16)+8)) (br (pr.cw .i64 c2 ((pr.idx 0 i4 16)+9)) (br (pr.bU 1 c2 ((pr.idx 0 i4 16)+10)) (br (pr.bU 1 c2 ((pr.idx 0 i4 16)+11)) (br (pr.bU 1 c2 ((pr.idx 0 i4 16)+12)) (br (pr.bU 1 c2 ((pr.idx 0 i4 16)+13)) (br (pr.bU 1 c2 ((pr.idx 0 i4 16)+14)) (br (pr.bU 1 c2 ((pr.idx 0 i4 16)+15)) true false) false) false) false) false) false) false) false) false) false) false) false) false) false) false) false) (cv 11 [(.agg [(.int .i64 (pr.bn c2 (pr.idx 0 i4 16))),(.bool (pr.cg c2 ((pr.idx 0 i4 16)+1))),(.bool (pr.cg c2 ((pr.idx 0 i4 16)+2))),(.sl (some (pr.bo c2 ((pr.idx 0 i4 16)+3))) 1 (pr.aR c2 ((pr.idx 0 i4 16)+3)) (pr.aV c2 ((pr.idx 0 i4 16)+3))),(.sl (some (pr.bo c2 ((pr.idx 0 i4 16)+4))) 1 (pr.aR c2 ((pr.idx 0 i4 16)+4)) (pr.aV c2 ((pr.idx 0 i4 16)+4))),(.sl (some (pr.bo c2 ((pr.idx 0 i4 16)+5))) 1 (pr.aR c2 ((pr.idx 0 i4 16)+5)) (pr.aV c2 ((pr.idx 0 i4 16)+5))),(.bool (pr.cg c2 ((pr.idx 0 i4 16)+6))),(.bool (pr.cg c2 ((pr.idx 0 i4 16)+7))),(.bool (pr.cg c2 ((pr.idx 0 i4 16)+8))),(.int .i64 (pr.bn c2 ((pr.idx 0 i4 16)+9))),(.sl (some (pr.bo c2 ((pr.idx 0 i4 16)+10))) 1 (pr.aR c2 ((pr.idx 0 i4 16)+10)) (pr.aV c2 ((pr.idx 0 i4 16)+10))),(.sl (some (pr.bo c2 ((pr.idx 0 i4 16)+11))) 1 (pr.aR c2 ((pr.idx 0 i4 16)+11)) (pr.aV c2 ((pr.idx 0 i4 16)+11))),(.sl (some (pr.bo c2 ((pr.idx 0 i4 16)+12))) 1 (pr.aR c2 ((pr.idx 0 i4 16)+12)) (pr.aV c2 ((pr.idx 0 i4 16)+12))),(.sl (some (pr.bo c2 ((pr.idx 0 i4 16)+13))) 1 (pr.aR c2 ((pr.idx 0 i4 16)+13)) (pr.aV c2 ((pr.idx 0 i4 16)+13))),(.sl (some (pr.bo c2 ((pr.idx 0 i4 16)+14))) 1 (pr.aR c2 ((pr.idx 0 i4 16)+14)) (pr.aV c2 ((pr.idx 0 i4 16)+14))),(.sl (some (pr.bo c2 ((pr.idx 0 i4 16)+15))) 1 (pr.aR c2 ((pr.idx 0 i4 16)+15)) (pr.aV c2 ((pr.idx 0 i4 16)+15)))]),(.int .i64 i3)] (.int (fun dm=>(.done (br (pr.lt dm 0) (some ((.int .i64 (-1)),[.undef,.undef])) (J 0 (mu g0 n1 c2 dm (pr.ar .add .i64 i4 1)))))))) none) none) (some ((.int .i64 i3),[.undef,.undef]))):=by kernel_rfl
def jL (g0:Bool) (n1:Nat) (c2:List D) (i3:Int) (n4:Nat) (c5:List D):St:=(St.mk [(0,(.sl (some g0) 16 n1 c2)),(3,(.ref 10003 [] 0 none)),(4,(.int .i64 i3))] [(10003,[(.sl none 16 n4 c5)])] [] 0)
theorem H0:Told cfg Tryz.prog 71 Tryz.f71:=⟨by kernel_rfl,Tryz.func71,by kernel_rfl⟩
theorem H3 (g0:Bool) (n0:Nat) (c0:List D):aQ pr cv J 71 Tryz.f71 [(.sl (some g0) 16 n0 c0)]=
    (br (pr.u3 (pr.aS n0) (pr.aS n0) 248) (J 0 (jL g0 n0 c0 0 (pr.js (pr.aS n0)) (fA (pr.js (pr.aS n0)) [(.int .i64 0),(.bool false),(.bool false),(.nil 1),(.nil 1),(.nil 1),(.bool false),(.bool false),(.bool false),(.int .i64 0),(.nil 1),(.nil 1),(.nil 1),(.nil 1),(.nil 1),(.nil 1)]))) none):=by kernel_rfl
theorem tG (g0:Bool) (n1:Nat) (c2:List D) (i3:Int) (n4:Nat) (c5:List D):bJ pr cv J 71 Tryz.f71 [.undef] 0 (jL g0 n1 c2 i3 n4 c5)=
    (br (pr.lt i3 (pr.aS n1)) (br (pr.bD i3 n1) (br (br (pr.cw .i64 c2 (pr.idx 0 i3 16)) (br (pr.df c2 ((pr.idx 0 i3 16)+1)) (br (pr.df c2 ((pr.idx 0 i3 16)+2)) (br (pr.bU 1 c2 ((pr.idx 0 i3 16)+3)) (br (pr.bU 1 c2 ((pr.idx 0 i3 16)+4)) (br (pr.bU 1 c2 ((pr.idx 0 i3 16)+5)) (br (pr.df c2 ((pr.idx 0 i3 16)+6)) (br (pr.df c2 ((pr.idx 0 i3 16)+7)) (br (pr.df c2 ((pr.idx 0 i3 16)+8)) (br (pr.cw .i64 c2 ((pr.idx 0 i3 16)+9)) (br (pr.bU 1 c2 ((pr.idx 0 i3 16)+10)) (br (pr.bU 1 c2 ((pr.idx 0 i3 16)+11)) (br (pr.bU 1 c2 ((pr.idx 0 i3 16)+12)) (br (pr.bU 1 c2 ((pr.idx 0 i3 16)+13)) (br (pr.bU 1 c2 ((pr.idx 0 i3 16)+14)) (br (pr.bU 1 c2 ((pr.idx 0 i3 16)+15)) true false) false) false) false) false) false) false) false) false) false) false) false) false) false) false) false) (cv 13 [(.agg [(.int .i64 (pr.bn c2 (pr.idx 0 i3 16))),(.bool (pr.cg c2 ((pr.idx 0 i3 16)+1))),(.bool (pr.cg c2 ((pr.idx 0 i3 16)+2))),(.sl (some (pr.bo c2 ((pr.idx 0 i3 16)+3))) 1 (pr.aR c2 ((pr.idx 0 i3 16)+3)) (pr.aV c2 ((pr.idx 0 i3 16)+3))),(.sl (some (pr.bo c2 ((pr.idx 0 i3 16)+4))) 1 (pr.aR c2 ((pr.idx 0 i3 16)+4)) (pr.aV c2 ((pr.idx 0 i3 16)+4))),(.sl (some (pr.bo c2 ((pr.idx 0 i3 16)+5))) 1 (pr.aR c2 ((pr.idx 0 i3 16)+5)) (pr.aV c2 ((pr.idx 0 i3 16)+5))),(.bool (pr.cg c2 ((pr.idx 0 i3 16)+6))),(.bool (pr.cg c2 ((pr.idx 0 i3 16)+7))),(.bool (pr.cg c2 ((pr.idx 0 i3 16)+8))),(.int .i64 (pr.bn c2 ((pr.idx 0 i3 16)+9))),(.sl (some (pr.bo c2 ((pr.idx 0 i3 16)+10))) 1 (pr.aR c2 ((pr.idx 0 i3 16)+10)) (pr.aV c2 ((pr.idx 0 i3 16)+10))),(.sl (some (pr.bo c2 ((pr.idx 0 i3 16)+11))) 1 (pr.aR c2 ((pr.idx 0 i3 16)+11)) (pr.aV c2 ((pr.idx 0 i3 16)+11))),(.sl (some (pr.bo c2 ((pr.idx 0 i3 16)+12))) 1 (pr.aR c2 ((pr.idx 0 i3 16)+12)) (pr.aV c2 ((pr.idx 0 i3 16)+12))),(.sl (some (pr.bo c2 ((pr.idx 0 i3 16)+13))) 1 (pr.aR c2 ((pr.idx 0 i3 16)+13)) (pr.aV c2 ((pr.idx 0 i3 16)+13))),(.sl (some (pr.bo c2 ((pr.idx 0 i3 16)+14))) 1 (pr.aR c2 ((pr.idx 0 i3 16)+14)) (pr.aV c2 ((pr.idx 0 i3 16)+14))),(.sl (some (pr.bo c2 ((pr.idx 0 i3 16)+15))) 1 (pr.aR c2 ((pr.idx 0 i3 16)+15)) (pr.aV c2 ((pr.idx 0 i3 16)+15)))])] (.ty fk.node (fun (ax:ae)=>(.done (br (pr.bD i3 n4) (br (br (pr.ne c5) (br (pr.slot c5 (pr.idx 0 i3 16)) (br (pr.slot (List.set c5 (pr.idx 0 i3 16) (.int .i64 ax.id)) ((pr.idx 0 i3 16)+1)) (br (pr.slot (List.set (List.set c5 (pr.idx 0 i3 16) (.int .i64 ax.id)) ((pr.idx 0 i3 16)+1) (.bool ax.up)) ((pr.idx 0 i3 16)+2)) (br (pr.jC 1 (List.set (List.set (List.set c5 (pr.idx 0 i3 16) (.int .i64 ax.id)) ((pr.idx 0 i3 16)+1) (.bool ax.up)) ((pr.idx 0 i3 16)+2) (.bool ax.cE)) ((pr.idx 0 i3 16)+3)) (br (pr.jC 1 (List.set (List.set (List.set (List.set c5 (pr.idx 0 i3 16) (.int .i64 ax.id)) ((pr.idx 0 i3 16)+1) (.bool ax.up)) ((pr.idx 0 i3 16)+2) (.bool ax.cE)) ((pr.idx 0 i3 16)+3) (.sl none 1 (List.length ax.image) (List.map (.int .i64) ax.image))) ((pr.idx 0 i3 16)+4)) (br (pr.jC 1 (List.set (List.set (List.set (List.set (List.set c5 (pr.idx 0 i3 16) (.int .i64 ax.id)) ((pr.idx 0 i3 16)+1) (.bool ax.up)) ((pr.idx 0 i3 16)+2) (.bool ax.cE)) ((pr.idx 0 i3 16)+3) (.sl none 1 (List.length ax.image) (List.map (.int .i64) ax.image))) ((pr.idx 0 i3 16)+4) (.sl none 1 (List.length (ae.mt ax).ay) (List.map (.int .i64) (ae.mt ax).ay))) ((pr.idx 0 i3 16)+5)) (br (pr.slot (List.set (List.set (List.set (List.set (List.set (List.set c5 (pr.idx 0 i3 16) (.int .i64 ax.id)) ((pr.idx 0 i3 16)+1) (.bool ax.up)) ((pr.idx 0 i3 16)+2) (.bool ax.cE)) ((pr.idx 0 i3 16)+3) (.sl none 1 (List.length ax.image) (List.map (.int .i64) ax.image))) ((pr.idx 0 i3 16)+4) (.sl none 1 (List.length (ae.mt ax).ay) (List.map (.int .i64) (ae.mt ax).ay))) ((pr.idx 0 i3 16)+5) (.sl none 1 (List.length (ae.mt ax).bits) (List.map (fun xs=>(.sl none 1 (List.length xs) (ints xs))) (ae.mt ax).bits))) ((pr.idx 0 i3 16)+6)) (br (pr.slot (List.set (List.set (List.set (List.set (List.set (List.set (List.set c5 (pr.idx 0 i3 16) (.int .i64 ax.id)) ((pr.idx 0 i3 16)+1) (.bool ax.up)) ((pr.idx 0 i3 16)+2) (.bool ax.cE)) ((pr.idx 0 i3 16)+3) (.sl none 1 (List.length ax.image) (List.map (.int .i64) ax.image))) ((pr.idx 0 i3 16)+4) (.sl none 1 (List.length (ae.mt ax).ay) (List.map (.int .i64) (ae.mt ax).ay))) ((pr.idx 0 i3 16)+5) (.sl none 1 (List.length (ae.mt ax).bits) (List.map (fun xs=>(.sl none 1 (List.length xs) (ints xs))) (ae.mt ax).bits))) ((pr.idx 0 i3 16)+6) (.bool (ae.mt ax).cI)) ((pr.idx 0 i3 16)+7)) (br (pr.slot (List.set (List.set (List.set (List.set (List.set (List.set (List.set (List.set c5 (pr.idx 0 i3 16) (.int .i64 ax.id)) ((pr.idx 0 i3 16)+1) (.bool ax.up)) ((pr.idx 0 i3 16)+2) (.bool ax.cE)) ((pr.idx 0 i3 16)+3) (.sl none 1 (List.length ax.image) (List.map (.int .i64) ax.image))) ((pr.idx 0 i3 16)+4) (.sl none 1 (List.length (ae.mt ax).ay) (List.map (.int .i64) (ae.mt ax).ay))) ((pr.idx 0 i3 16)+5) (.sl none 1 (List.length (ae.mt ax).bits) (List.map (fun xs=>(.sl none 1 (List.length xs) (ints xs))) (ae.mt ax).bits))) ((pr.idx 0 i3 16)+6) (.bool (ae.mt ax).cI)) ((pr.idx 0 i3 16)+7) (.bool (ae.mt ax).bN)) ((pr.idx 0 i3 16)+8)) (br (pr.slot (List.set (List.set (List.set (List.set (List.set (List.set (List.set (List.set (List.set c5 (pr.idx 0 i3 16) (.int .i64 ax.id)) ((pr.idx 0 i3 16)+1) (.bool ax.up)) ((pr.idx 0 i3 16)+2) (.bool ax.cE)) ((pr.idx 0 i3 16)+3) (.sl none 1 (List.length ax.image) (List.map (.int .i64) ax.image))) ((pr.idx 0 i3 16)+4) (.sl none 1 (List.length (ae.mt ax).ay) (List.map (.int .i64) (ae.mt ax).ay))) ((pr.idx 0 i3 16)+5) (.sl none 1 (List.length (ae.mt ax).bits) (List.map (fun xs=>(.sl none 1 (List.length xs) (ints xs))) (ae.mt ax).bits))) ((pr.idx 0 i3 16)+6) (.bool (ae.mt ax).cI)) ((pr.idx 0 i3 16)+7) (.bool (ae.mt ax).bN)) ((pr.idx 0 i3 16)+8) (.bool (ae.mt ax).held)) ((pr.idx 0 i3 16)+9)) (br (pr.jC 1 (List.set (List.set (List.set (List.set (List.set (List.set (List.set (List.set (List.set (List.set c5 (pr.idx 0 i3 16) (.int .i64 ax.id)) ((pr.idx 0 i3 16)+1) (.bool ax.up)) ((pr.idx 0 i3 16)+2) (.bool ax.cE)) ((pr.idx 0 i3 16)+3) (.sl none 1 (List.length ax.image) (List.map (.int .i64) ax.image))) ((pr.idx 0 i3 16)+4) (.sl none 1 (List.length (ae.mt ax).ay) (List.map (.int .i64) (ae.mt ax).ay))) ((pr.idx 0 i3 16)+5) (.sl none 1 (List.length (ae.mt ax).bits) (List.map (fun xs=>(.sl none 1 (List.length xs) (ints xs))) (ae.mt ax).bits))) ((pr.idx 0 i3 16)+6) (.bool (ae.mt ax).cI)) ((pr.idx 0 i3 16)+7) (.bool (ae.mt ax).bN)) ((pr.idx 0 i3 16)+8) (.bool (ae.mt ax).held)) ((pr.idx 0 i3 16)+9) (.int .i64 (ae.mt ax).last)) ((pr.idx 0 i3 16)+10)) (br (pr.jC 1 (List.set (List.set (List.set (List.set (List.set (List.set (List.set (List.set (List.set (List.set (List.set c5 (pr.idx 0 i3 16) (.int .i64 ax.id)) ((pr.idx 0 i3 16)+1) (.bool ax.up)) ((pr.idx 0 i3 16)+2) (.bool ax.cE)) ((pr.idx 0 i3 16)+3) (.sl none 1 (List.length ax.image) (List.map (.int .i64) ax.image))) ((pr.idx 0 i3 16)+4) (.sl none 1 (List.length (ae.mt ax).ay) (List.map (.int .i64) (ae.mt ax).ay))) ((pr.idx 0 i3 16)+5) (.sl none 1 (List.length (ae.mt ax).bits) (List.map (fun xs=>(.sl none 1 (List.length xs) (ints xs))) (ae.mt ax).bits))) ((pr.idx 0 i3 16)+6) (.bool (ae.mt ax).cI)) ((pr.idx 0 i3 16)+7) (.bool (ae.mt ax).bN)) ((pr.idx 0 i3 16)+8) (.bool (ae.mt ax).held)) ((pr.idx 0 i3 16)+9) (.int .i64 (ae.mt ax).last)) ((pr.idx 0 i3 16)+10) (.sl none 1 (List.length (ae.aM ax).a) (List.map dq (ae.aM ax).a))) ((pr.idx 0 i3 16)+11)) (br (pr.jC 1 (List.set (List.set (List.set (List.set (List.set (List.set (List.set (List.set (List.set (List.set (List.set (List.set c5 (pr.idx 0 i3 16) (.int .i64 ax.id)) ((pr.idx 0 i3 16)+1) (.bool ax.up)) ((pr.idx 0 i3 16)+2) (.bool ax.cE)) ((pr.idx 0 i3 16)+3) (.sl none 1 (List.length ax.image) (List.map (.int .i64) ax.image))) ((pr.idx 0 i3 16)+4) (.sl none 1 (List.length (ae.mt ax).ay) (List.map (.int .i64) (ae.mt ax).ay))) ((pr.idx 0 i3 16)+5) (.sl none 1 (List.length (ae.mt ax).bits) (List.map (fun xs=>(.sl none 1 (List.length xs) (ints xs))) (ae.mt ax).bits))) ((pr.idx 0 i3 16)+6) (.bool (ae.mt ax).cI)) ((pr.idx 0 i3 16)+7) (.bool (ae.mt ax).bN)) ((pr.idx 0 i3 16)+8) (.bool (ae.mt ax).held)) ((pr.idx 0 i3 16)+9) (.int .i64 (ae.mt ax).last)) ((pr.idx 0 i3 16)+10) (.sl none 1 (List.length (ae.aM ax).a) (List.map dq (ae.aM ax).a))) ((pr.idx 0 i3 16)+11) (.sl none 1 (List.length (ae.aM ax).b) (List.map dq (ae.aM ax).b))) ((pr.idx 0 i3 16)+12)) (br (pr.jC 1 (List.set (List.set (List.set (List.set (List.set (List.set (List.set (List.set (List.set (List.set (List.set (List.set (List.set c5 (pr.idx 0 i3 16) (.int .i64 ax.id)) ((pr.idx 0 i3 16)+1) (.bool ax.up)) ((pr.idx 0 i3 16)+2) (.bool ax.cE)) ((pr.idx 0 i3 16)+3) (.sl none 1 (List.length ax.image) (List.map (.int .i64) ax.image))) ((pr.idx 0 i3 16)+4) (.sl none 1 (List.length (ae.mt ax).ay) (List.map (.int .i64) (ae.mt ax).ay))) ((pr.idx 0 i3 16)+5) (.sl none 1 (List.length (ae.mt ax).bits) (List.map (fun xs=>(.sl none 1 (List.length xs) (ints xs))) (ae.mt ax).bits))) ((pr.idx 0 i3 16)+6) (.bool (ae.mt ax).cI)) ((pr.idx 0 i3 16)+7) (.bool (ae.mt ax).bN)) ((pr.idx 0 i3 16)+8) (.bool (ae.mt ax).held)) ((pr.idx 0 i3 16)+9) (.int .i64 (ae.mt ax).last)) ((pr.idx 0 i3 16)+10) (.sl none 1 (List.length (ae.aM ax).a) (List.map dq (ae.aM ax).a))) ((pr.idx 0 i3 16)+11) (.sl none 1 (List.length (ae.aM ax).b) (List.map dq (ae.aM ax).b))) ((pr.idx 0 i3 16)+12) (.sl none 1 (List.length ax.conn) (List.map .bool ax.conn))) ((pr.idx 0 i3 16)+13)) (br (pr.jC 1 (List.set (List.set (List.set (List.set (List.set (List.set (List.set (List.set (List.set (List.set (List.set (List.set (List.set (List.set c5 (pr.idx 0 i3 16) (.int .i64 ax.id)) ((pr.idx 0 i3 16)+1) (.bool ax.up)) ((pr.idx 0 i3 16)+2) (.bool ax.cE)) ((pr.idx 0 i3 16)+3) (.sl none 1 (List.length ax.image) (List.map (.int .i64) ax.image))) ((pr.idx 0 i3 16)+4) (.sl none 1 (List.length (ae.mt ax).ay) (List.map (.int .i64) (ae.mt ax).ay))) ((pr.idx 0 i3 16)+5) (.sl none 1 (List.length (ae.mt ax).bits) (List.map (fun xs=>(.sl none 1 (List.length xs) (ints xs))) (ae.mt ax).bits))) ((pr.idx 0 i3 16)+6) (.bool (ae.mt ax).cI)) ((pr.idx 0 i3 16)+7) (.bool (ae.mt ax).bN)) ((pr.idx 0 i3 16)+8) (.bool (ae.mt ax).held)) ((pr.idx 0 i3 16)+9) (.int .i64 (ae.mt ax).last)) ((pr.idx 0 i3 16)+10) (.sl none 1 (List.length (ae.aM ax).a) (List.map dq (ae.aM ax).a))) ((pr.idx 0 i3 16)+11) (.sl none 1 (List.length (ae.aM ax).b) (List.map dq (ae.aM ax).b))) ((pr.idx 0 i3 16)+12) (.sl none 1 (List.length ax.conn) (List.map .bool ax.conn))) ((pr.idx 0 i3 16)+13) (.sl none 1 (List.length ax.sync) (List.map (fun xs=>(.sl none 1 (List.length xs) (ints xs))) ax.sync))) ((pr.idx 0 i3 16)+14)) (br (pr.jC 1 (List.set (List.set (List.set (List.set (List.set (List.set (List.set (List.set (List.set (List.set (List.set (List.set (List.set (List.set (List.set c5 (pr.idx 0 i3 16) (.int .i64 ax.id)) ((pr.idx 0 i3 16)+1) (.bool ax.up)) ((pr.idx 0 i3 16)+2) (.bool ax.cE)) ((pr.idx 0 i3 16)+3) (.sl none 1 (List.length ax.image) (List.map (.int .i64) ax.image))) ((pr.idx 0 i3 16)+4) (.sl none 1 (List.length (ae.mt ax).ay) (List.map (.int .i64) (ae.mt ax).ay))) ((pr.idx 0 i3 16)+5) (.sl none 1 (List.length (ae.mt ax).bits) (List.map (fun xs=>(.sl none 1 (List.length xs) (ints xs))) (ae.mt ax).bits))) ((pr.idx 0 i3 16)+6) (.bool (ae.mt ax).cI)) ((pr.idx 0 i3 16)+7) (.bool (ae.mt ax).bN)) ((pr.idx 0 i3 16)+8) (.bool (ae.mt ax).held)) ((pr.idx 0 i3 16)+9) (.int .i64 (ae.mt ax).last)) ((pr.idx 0 i3 16)+10) (.sl none 1 (List.length (ae.aM ax).a) (List.map dq (ae.aM ax).a))) ((pr.idx 0 i3 16)+11) (.sl none 1 (List.length (ae.aM ax).b) (List.map dq (ae.aM ax).b))) ((pr.idx 0 i3 16)+12) (.sl none 1 (List.length ax.conn) (List.map .bool ax.conn))) ((pr.idx 0 i3 16)+13) (.sl none 1 (List.length ax.sync) (List.map (fun xs=>(.sl none 1 (List.length xs) (ints xs))) ax.sync))) ((pr.idx 0 i3 16)+14) (.sl none 1 (List.length ax.aK) (List.map .bool ax.aK))) ((pr.idx 0 i3 16)+15)) true false) false) false) false) false) false) false) false) false) false) false) false) false) false) false) false) false) (cv 999999 [(.sl none 0 0 (List.set (List.set (List.set (List.set (List.set (List.set (List.set (List.set (List.set (List.set (List.set (List.set (List.set (List.set (List.set (List.set c5 (pr.idx 0 i3 16) (.int .i64 ax.id)) ((pr.idx 0 i3 16)+1) (.bool ax.up)) ((pr.idx 0 i3 16)+2) (.bool ax.cE)) ((pr.idx 0 i3 16)+3) (.sl none 1 (List.length ax.image) (List.map (.int .i64) ax.image))) ((pr.idx 0 i3 16)+4) (.sl none 1 (List.length (ae.mt ax).ay) (List.map (.int .i64) (ae.mt ax).ay))) ((pr.idx 0 i3 16)+5) (.sl none 1 (List.length (ae.mt ax).bits) (List.map (fun xs=>(.sl none 1 (List.length xs) (ints xs))) (ae.mt ax).bits))) ((pr.idx 0 i3 16)+6) (.bool (ae.mt ax).cI)) ((pr.idx 0 i3 16)+7) (.bool (ae.mt ax).bN)) ((pr.idx 0 i3 16)+8) (.bool (ae.mt ax).held)) ((pr.idx 0 i3 16)+9) (.int .i64 (ae.mt ax).last)) ((pr.idx 0 i3 16)+10) (.sl none 1 (List.length (ae.aM ax).a) (List.map dq (ae.aM ax).a))) ((pr.idx 0 i3 16)+11) (.sl none 1 (List.length (ae.aM ax).b) (List.map dq (ae.aM ax).b))) ((pr.idx 0 i3 16)+12) (.sl none 1 (List.length ax.conn) (List.map .bool ax.conn))) ((pr.idx 0 i3 16)+13) (.sl none 1 (List.length ax.sync) (List.map (fun xs=>(.sl none 1 (List.length xs) (ints xs))) ax.sync))) ((pr.idx 0 i3 16)+14) (.sl none 1 (List.length ax.aK) (List.map .bool ax.aK))) ((pr.idx 0 i3 16)+15) (.sl none 1 (List.length ax.wait) (List.map (.int .i64) ax.wait))))] (.sl (fun tH=>(fun qE=>(.done (J 0 (jL g0 n1 c2 (pr.ar .add .i64 i3 1) n4 qE))))))) none) none))))) none) none) (some ((.sl none 16 n4 c5),[.undef]))):=by kernel_rfl
def jM (g0:Bool) (n1:Nat) (c2:List D) (g3:Bool) (n4:Nat) (c5:List D) (i6:Int):St:=(St.mk [(0,(.sl (some g0) 16 n1 c2)),(1,(.sl (some g3) 16 n4 c5)),(5,(.int .i64 i6))] [] [] 0)
theorem H4:Told cfg Tryz.prog 78 Tryz.f78:=⟨by kernel_rfl,Tryz.func78,by kernel_rfl⟩
theorem H5 (g0:Bool) (n0:Nat) (c0:List D) (g1:Bool) (n1:Nat) (c1:List D):aQ pr cv J 78 Tryz.f78 [(.sl (some g0) 16 n0 c0),(.sl (some g1) 16 n1 c1)]=
    (br (br (pr.eq (pr.aS n0) (pr.aS n1)) false true) (some ((.bool false),[.undef,.undef])) (J 0 (jM g0 n0 c0 g1 n1 c1 0))):=by kernel_rfl
theorem tI (g0:Bool) (n1:Nat) (c2:List D) (g3:Bool) (n4:Nat) (c5:List D) (i6:Int):bJ pr cv J 78 Tryz.f78 [.undef,.undef] 0 (jM g0 n1 c2 g3 n4 c5 i6)=
    (br (pr.lt i6 (pr.aS n1)) (br (pr.bD i6 n1) (br (br (pr.cw .i64 c2 (pr.idx 0 i6 16)) (br (pr.df c2 ((pr.idx 0 i6 16)+1)) (br (pr.df c2 ((pr.idx 0 i6 16)+2)) (br (pr.bU 1 c2 ((pr.idx 0 i6 16)+3)) (br (pr.bU 1 c2 ((pr.idx 0 i6 16)+4)) (br (pr.bU 1 c2 ((pr.idx 0 i6 16)+5)) (br (pr.df c2 ((pr.idx 0 i6 16)+6)) (br (pr.df c2 ((pr.idx 0 i6 16)+7)) (br (pr.df c2 ((pr.idx 0 i6 16)+8)) (br (pr.cw .i64 c2 ((pr.idx 0 i6 16)+9)) (br (pr.bU 1 c2 ((pr.idx 0 i6 16)+10)) (br (pr.bU 1 c2 ((pr.idx 0 i6 16)+11)) (br (pr.bU 1 c2 ((pr.idx 0 i6 16)+12)) (br (pr.bU 1 c2 ((pr.idx 0 i6 16)+13)) (br (pr.bU 1 c2 ((pr.idx 0 i6 16)+14)) (br (pr.bU 1 c2 ((pr.idx 0 i6 16)+15)) true false) false) false) false) false) false) false) false) false) false) false) false) false) false) false) false) (br (pr.bD i6 n4) (br (br (pr.cw .i64 c5 (pr.idx 0 i6 16)) (br (pr.df c5 ((pr.idx 0 i6 16)+1)) (br (pr.df c5 ((pr.idx 0 i6 16)+2)) (br (pr.bU 1 c5 ((pr.idx 0 i6 16)+3)) (br (pr.bU 1 c5 ((pr.idx 0 i6 16)+4)) (br (pr.bU 1 c5 ((pr.idx 0 i6 16)+5)) (br (pr.df c5 ((pr.idx 0 i6 16)+6)) (br (pr.df c5 ((pr.idx 0 i6 16)+7)) (br (pr.df c5 ((pr.idx 0 i6 16)+8)) (br (pr.cw .i64 c5 ((pr.idx 0 i6 16)+9)) (br (pr.bU 1 c5 ((pr.idx 0 i6 16)+10)) (br (pr.bU 1 c5 ((pr.idx 0 i6 16)+11)) (br (pr.bU 1 c5 ((pr.idx 0 i6 16)+12)) (br (pr.bU 1 c5 ((pr.idx 0 i6 16)+13)) (br (pr.bU 1 c5 ((pr.idx 0 i6 16)+14)) (br (pr.bU 1 c5 ((pr.idx 0 i6 16)+15)) true false) false) false) false) false) false) false) false) false) false) false) false) false) false) false) false) (cv 15 [(.agg [(.int .i64 (pr.bn c2 (pr.idx 0 i6 16))),(.bool (pr.cg c2 ((pr.idx 0 i6 16)+1))),(.bool (pr.cg c2 ((pr.idx 0 i6 16)+2))),(.sl (some (pr.bo c2 ((pr.idx 0 i6 16)+3))) 1 (pr.aR c2 ((pr.idx 0 i6 16)+3)) (pr.aV c2 ((pr.idx 0 i6 16)+3))),(.sl (some (pr.bo c2 ((pr.idx 0 i6 16)+4))) 1 (pr.aR c2 ((pr.idx 0 i6 16)+4)) (pr.aV c2 ((pr.idx 0 i6 16)+4))),(.sl (some (pr.bo c2 ((pr.idx 0 i6 16)+5))) 1 (pr.aR c2 ((pr.idx 0 i6 16)+5)) (pr.aV c2 ((pr.idx 0 i6 16)+5))),(.bool (pr.cg c2 ((pr.idx 0 i6 16)+6))),(.bool (pr.cg c2 ((pr.idx 0 i6 16)+7))),(.bool (pr.cg c2 ((pr.idx 0 i6 16)+8))),(.int .i64 (pr.bn c2 ((pr.idx 0 i6 16)+9))),(.sl (some (pr.bo c2 ((pr.idx 0 i6 16)+10))) 1 (pr.aR c2 ((pr.idx 0 i6 16)+10)) (pr.aV c2 ((pr.idx 0 i6 16)+10))),(.sl (some (pr.bo c2 ((pr.idx 0 i6 16)+11))) 1 (pr.aR c2 ((pr.idx 0 i6 16)+11)) (pr.aV c2 ((pr.idx 0 i6 16)+11))),(.sl (some (pr.bo c2 ((pr.idx 0 i6 16)+12))) 1 (pr.aR c2 ((pr.idx 0 i6 16)+12)) (pr.aV c2 ((pr.idx 0 i6 16)+12))),(.sl (some (pr.bo c2 ((pr.idx 0 i6 16)+13))) 1 (pr.aR c2 ((pr.idx 0 i6 16)+13)) (pr.aV c2 ((pr.idx 0 i6 16)+13))),(.sl (some (pr.bo c2 ((pr.idx 0 i6 16)+14))) 1 (pr.aR c2 ((pr.idx 0 i6 16)+14)) (pr.aV c2 ((pr.idx 0 i6 16)+14))),(.sl (some (pr.bo c2 ((pr.idx 0 i6 16)+15))) 1 (pr.aR c2 ((pr.idx 0 i6 16)+15)) (pr.aV c2 ((pr.idx 0 i6 16)+15)))]),(.agg [(.int .i64 (pr.bn c5 (pr.idx 0 i6 16))),(.bool (pr.cg c5 ((pr.idx 0 i6 16)+1))),(.bool (pr.cg c5 ((pr.idx 0 i6 16)+2))),(.sl (some (pr.bo c5 ((pr.idx 0 i6 16)+3))) 1 (pr.aR c5 ((pr.idx 0 i6 16)+3)) (pr.aV c5 ((pr.idx 0 i6 16)+3))),(.sl (some (pr.bo c5 ((pr.idx 0 i6 16)+4))) 1 (pr.aR c5 ((pr.idx 0 i6 16)+4)) (pr.aV c5 ((pr.idx 0 i6 16)+4))),(.sl (some (pr.bo c5 ((pr.idx 0 i6 16)+5))) 1 (pr.aR c5 ((pr.idx 0 i6 16)+5)) (pr.aV c5 ((pr.idx 0 i6 16)+5))),(.bool (pr.cg c5 ((pr.idx 0 i6 16)+6))),(.bool (pr.cg c5 ((pr.idx 0 i6 16)+7))),(.bool (pr.cg c5 ((pr.idx 0 i6 16)+8))),(.int .i64 (pr.bn c5 ((pr.idx 0 i6 16)+9))),(.sl (some (pr.bo c5 ((pr.idx 0 i6 16)+10))) 1 (pr.aR c5 ((pr.idx 0 i6 16)+10)) (pr.aV c5 ((pr.idx 0 i6 16)+10))),(.sl (some (pr.bo c5 ((pr.idx 0 i6 16)+11))) 1 (pr.aR c5 ((pr.idx 0 i6 16)+11)) (pr.aV c5 ((pr.idx 0 i6 16)+11))),(.sl (some (pr.bo c5 ((pr.idx 0 i6 16)+12))) 1 (pr.aR c5 ((pr.idx 0 i6 16)+12)) (pr.aV c5 ((pr.idx 0 i6 16)+12))),(.sl (some (pr.bo c5 ((pr.idx 0 i6 16)+13))) 1 (pr.aR c5 ((pr.idx 0 i6 16)+13)) (pr.aV c5 ((pr.idx 0 i6 16)+13))),(.sl (some (pr.bo c5 ((pr.idx 0 i6 16)+14))) 1 (pr.aR c5 ((pr.idx 0 i6 16)+14)) (pr.aV c5 ((pr.idx 0 i6 16)+14))),(.sl (some (pr.bo c5 ((pr.idx 0 i6 16)+15))) 1 (pr.aR c5 ((pr.idx 0 i6 16)+15)) (pr.aV c5 ((pr.idx 0 i6 16)+15)))])] (.bool (fun cf=>(.done (br (br cf false true) (some ((.bool false),[.undef,.undef])) (J 0 (jM g0 n1 c2 g3 n4 c5 (pr.ar .add .i64 i6 1)))))))) none) none) none) none) (some ((.bool true),[.undef,.undef]))):=by kernel_rfl
theorem KE:Told cfg Tryz.prog 121 Tryz.f121:=⟨by kernel_rfl,Tryz.func121,by kernel_rfl⟩
theorem KF (a0:Int) (a1:Int) (g2:Bool) (n2:Nat) (c2:List D) (a3:Int):aQ pr cv J 121 Tryz.f121 [(.agg [(.int .i64 a0),(.int .i64 a1),(.sl (some g2) 1 n2 c2)]),(.int .i64 a3)]=
    (cv 96 [(.sl (some g2) 1 n2 c2),(.int .i64 a3)] (.int (fun dm=>(.done (br (pr.lt dm 0) (some ((.int .i64 (-1)),[.undef,.undef])) (some ((.int .i64 dm),[.undef,.undef]))))))):=by kernel_rfl
theorem KG:Told cfg Tryz.prog 122 Tryz.f122:=⟨by kernel_rfl,Tryz.func122,by kernel_rfl⟩
theorem KH (a0:Int) (a1:Int) (g2:Bool) (n2:Nat) (c2:List D):aQ pr cv J 122 Tryz.f122 [(.agg [(.int .i64 a0),(.int .i64 a1),(.sl (some g2) 1 n2 c2)])]=
    (cv 104 [(.sl (some g2) 1 n2 c2)] (.sl (fun dU=>(fun dp=>(.done (br (br (br (pr.nl dp) true false) true false) (some ((.agg [(.int .i64 a0),(.int .i64 a1),(.sl none 1 dU dp)]),[.undef])) none)))))):=by kernel_rfl
theorem KI:Told cfg Tryz.prog 126 Tryz.f126:=⟨by kernel_rfl,Tryz.func126,by kernel_rfl⟩
theorem KJ (a0:Int) (a1:Int) (g2:Bool) (n2:Nat) (c2:List D) (a3:Int) (a4:Int) (g5:Bool) (n5:Nat) (c5:List D):aQ pr cv J 126 Tryz.f126 [(.agg [(.int .i64 a0),(.int .i64 a1),(.sl (some g2) 1 n2 c2)]),(.agg [(.int .i64 a3),(.int .i64 a4),(.sl (some g5) 1 n5 c5)])]=
    let y1:Option (D × List D):=(some ((.bool false),[.undef,.undef]))
    (br (br (pr.eq a0 a3) false true) y1 (br (br (pr.eq a1 a4) false true) y1 (cv 116 [(.sl (some g2) 1 n2 c2),(.sl (some g5) 1 n5 c5)] (.bool (fun cf=>(.done (br (br cf false true) y1 (some ((.bool true),[.undef,.undef]))))))))):=by kernel_rfl
def mv (g0:Bool) (n1:Nat) (c2:List D) (i3:Int) (i4:Int):St:=(St.mk [(0,(.sl (some g0) 3 n1 c2)),(1,(.int .i64 i3)),(5,(.int .i64 i4))] [] [] 0)
theorem xD:Told cfg Tryz.prog 67 Tryz.f67:=⟨by kernel_rfl,Tryz.func67,by kernel_rfl⟩
theorem xE (g0:Bool) (n0:Nat) (c0:List D) (a1:Int):aQ pr cv J 67 Tryz.f67 [(.sl (some g0) 3 n0 c0),(.int .i64 a1)]=
    (br (pr.lt (pr.ar .sub .i64 a1 (pr.aS n0)) 0) (some ((.int .i64 (-1)),[.undef,.undef])) (J 0 (mv g0 n0 c0 (pr.ar .sub .i64 a1 (pr.aS n0)) 0))):=by kernel_rfl
theorem oG (g0:Bool) (n1:Nat) (c2:List D) (i3:Int) (i4:Int):bJ pr cv J 67 Tryz.f67 [.undef,.undef] 0 (mv g0 n1 c2 i3 i4)=
    (br (pr.lt i4 (pr.aS n1)) (br (pr.bD i4 n1) (br (br (pr.cw .i64 c2 (pr.idx 0 i4 3)) (br (pr.cw .i64 c2 ((pr.idx 0 i4 3)+1)) (br (pr.bU 1 c2 ((pr.idx 0 i4 3)+2)) true false) false) false) (cv 121 [(.agg [(.int .i64 (pr.bn c2 (pr.idx 0 i4 3))),(.int .i64 (pr.bn c2 ((pr.idx 0 i4 3)+1))),(.sl (some (pr.bo c2 ((pr.idx 0 i4 3)+2))) 1 (pr.aR c2 ((pr.idx 0 i4 3)+2)) (pr.aV c2 ((pr.idx 0 i4 3)+2)))]),(.int .i64 i3)] (.int (fun dm=>(.done (br (pr.lt dm 0) (some ((.int .i64 (-1)),[.undef,.undef])) (J 0 (mv g0 n1 c2 dm (pr.ar .add .i64 i4 1)))))))) none) none) (some ((.int .i64 i3),[.undef,.undef]))):=by kernel_rfl
def jN (g0:Bool) (n1:Nat) (c2:List D) (i3:Int) (n4:Nat) (c5:List D):St:=(St.mk [(0,(.sl (some g0) 3 n1 c2)),(3,(.ref 10003 [] 0 none)),(4,(.int .i64 i3))] [(10003,[(.sl none 3 n4 c5)])] [] 0)
theorem H6:Told cfg Tryz.prog 72 Tryz.f72:=⟨by kernel_rfl,Tryz.func72,by kernel_rfl⟩
theorem H7 (g0:Bool) (n0:Nat) (c0:List D):aQ pr cv J 72 Tryz.f72 [(.sl (some g0) 3 n0 c0)]=
    (br (pr.u3 (pr.aS n0) (pr.aS n0) 40) (J 0 (jN g0 n0 c0 0 (pr.js (pr.aS n0)) (fA (pr.js (pr.aS n0)) [(.int .i64 0),(.int .i64 0),(.nil 1)]))) none):=by kernel_rfl
theorem tJ (g0:Bool) (n1:Nat) (c2:List D) (i3:Int) (n4:Nat) (c5:List D):bJ pr cv J 72 Tryz.f72 [.undef] 0 (jN g0 n1 c2 i3 n4 c5)=
    (br (pr.lt i3 (pr.aS n1)) (br (pr.bD i3 n1) (br (br (pr.cw .i64 c2 (pr.idx 0 i3 3)) (br (pr.cw .i64 c2 ((pr.idx 0 i3 3)+1)) (br (pr.bU 1 c2 ((pr.idx 0 i3 3)+2)) true false) false) false) (cv 122 [(.agg [(.int .i64 (pr.bn c2 (pr.idx 0 i3 3))),(.int .i64 (pr.bn c2 ((pr.idx 0 i3 3)+1))),(.sl (some (pr.bo c2 ((pr.idx 0 i3 3)+2))) 1 (pr.aR c2 ((pr.idx 0 i3 3)+2)) (pr.aV c2 ((pr.idx 0 i3 3)+2)))])] (.int (fun dm=>(.int (fun gP=>(.sl (fun ou=>(fun iJ=>(.done (br (br (br (pr.nl iJ) true false) true false) (br (pr.bD i3 n4) (br (br (pr.ne c5) (br (pr.slot c5 (pr.idx 0 i3 3)) (br (pr.slot (List.set c5 (pr.idx 0 i3 3) (.int .i64 dm)) ((pr.idx 0 i3 3)+1)) (br (pr.jC 1 (List.set (List.set c5 (pr.idx 0 i3 3) (.int .i64 dm)) ((pr.idx 0 i3 3)+1) (.int .i64 gP)) ((pr.idx 0 i3 3)+2)) true false) false) false) false) (cv 999999 [(.sl none 0 0 (List.set (List.set (List.set c5 (pr.idx 0 i3 3) (.int .i64 dm)) ((pr.idx 0 i3 3)+1) (.int .i64 gP)) ((pr.idx 0 i3 3)+2) (.sl none 1 ou iJ)))] (.sl (fun xq=>(fun tF=>(.done (J 0 (jN g0 n1 c2 (pr.ar .add .i64 i3 1) n4 tF))))))) none) none) none)))))))))) none) none) (some ((.sl none 3 n4 c5),[.undef]))):=by kernel_rfl
def jO (g0:Bool) (n1:Nat) (c2:List D) (g3:Bool) (n4:Nat) (c5:List D) (i6:Int):St:=(St.mk [(0,(.sl (some g0) 3 n1 c2)),(1,(.sl (some g3) 3 n4 c5)),(5,(.int .i64 i6))] [] [] 0)
theorem H8:Told cfg Tryz.prog 79 Tryz.f79:=⟨by kernel_rfl,Tryz.func79,by kernel_rfl⟩
theorem H9 (g0:Bool) (n0:Nat) (c0:List D) (g1:Bool) (n1:Nat) (c1:List D):aQ pr cv J 79 Tryz.f79 [(.sl (some g0) 3 n0 c0),(.sl (some g1) 3 n1 c1)]=
    (br (br (pr.eq (pr.aS n0) (pr.aS n1)) false true) (some ((.bool false),[.undef,.undef])) (J 0 (jO g0 n0 c0 g1 n1 c1 0))):=by kernel_rfl
theorem tK (g0:Bool) (n1:Nat) (c2:List D) (g3:Bool) (n4:Nat) (c5:List D) (i6:Int):bJ pr cv J 79 Tryz.f79 [.undef,.undef] 0 (jO g0 n1 c2 g3 n4 c5 i6)=
    (br (pr.lt i6 (pr.aS n1)) (br (pr.bD i6 n1) (br (br (pr.cw .i64 c2 (pr.idx 0 i6 3)) (br (pr.cw .i64 c2 ((pr.idx 0 i6 3)+1)) (br (pr.bU 1 c2 ((pr.idx 0 i6 3)+2)) true false) false) false) (br (pr.bD i6 n4) (br (br (pr.cw .i64 c5 (pr.idx 0 i6 3)) (br (pr.cw .i64 c5 ((pr.idx 0 i6 3)+1)) (br (pr.bU 1 c5 ((pr.idx 0 i6 3)+2)) true false) false) false) (cv 126 [(.agg [(.int .i64 (pr.bn c2 (pr.idx 0 i6 3))),(.int .i64 (pr.bn c2 ((pr.idx 0 i6 3)+1))),(.sl (some (pr.bo c2 ((pr.idx 0 i6 3)+2))) 1 (pr.aR c2 ((pr.idx 0 i6 3)+2)) (pr.aV c2 ((pr.idx 0 i6 3)+2)))]),(.agg [(.int .i64 (pr.bn c5 (pr.idx 0 i6 3))),(.int .i64 (pr.bn c5 ((pr.idx 0 i6 3)+1))),(.sl (some (pr.bo c5 ((pr.idx 0 i6 3)+2))) 1 (pr.aR c5 ((pr.idx 0 i6 3)+2)) (pr.aV c5 ((pr.idx 0 i6 3)+2)))])] (.bool (fun cf=>(.done (br (br cf false true) (some ((.bool false),[.undef,.undef])) (J 0 (jO g0 n1 c2 g3 n4 c5 (pr.ar .add .i64 i6 1)))))))) none) none) none) none) (some ((.bool true),[.undef,.undef]))):=by kernel_rfl
theorem Ob:Told cfg Tryz.prog 123 Tryz.f123:=⟨by kernel_rfl,Tryz.func123,by kernel_rfl⟩
theorem Oc (a0:Int) (a1:Int):aQ pr cv J 123 Tryz.f123 [(.agg [(.int .i64 a0),(.int .i64 a1)])]=
    (some ((.agg [(.int .i64 a0),(.int .i64 a1)]),[.undef])):=by kernel_rfl
theorem Od:Told cfg Tryz.prog 127 Tryz.f127:=⟨by kernel_rfl,Tryz.func127,by kernel_rfl⟩
theorem Oe (a0:Int) (a1:Int) (a2:Int) (a3:Int):aQ pr cv J 127 Tryz.f127 [(.agg [(.int .i64 a0),(.int .i64 a1)]),(.agg [(.int .i64 a2),(.int .i64 a3)])]=
    let y1:Option (D × List D):=(some ((.bool false),[.undef,.undef]))
    (br (br (pr.eq a0 a2) false true) y1 (br (br (pr.eq a1 a3) false true) y1 (some ((.bool true),[.undef,.undef])))):=by kernel_rfl
theorem KK:Told cfg Tryz.prog 68 Tryz.f68:=⟨by kernel_rfl,Tryz.func68,by kernel_rfl⟩
theorem KL (g0:Bool) (n0:Nat) (c0:List D) (a1:Int):aQ pr cv J 68 Tryz.f68 [(.sl (some g0) 2 n0 c0),(.int .i64 a1)]=
    (br (pr.lt (pr.ar .sub .i64 a1 (pr.aS n0)) 0) (some ((.int .i64 (-1)),[.undef,.undef])) (some ((.int .i64 (pr.ar .sub .i64 a1 (pr.aS n0))),[.undef,.undef]))):=by kernel_rfl
def kF (g0:Bool) (n1:Nat) (c2:List D) (i3:Int) (n4:Nat) (c5:List D):St:=(St.mk [(0,(.sl (some g0) 2 n1 c2)),(3,(.ref 10003 [] 0 none)),(4,(.int .i64 i3))] [(10003,[(.sl none 2 n4 c5)])] [] 0)
theorem KM:Told cfg Tryz.prog 73 Tryz.f73:=⟨by kernel_rfl,Tryz.func73,by kernel_rfl⟩
theorem KN (g0:Bool) (n0:Nat) (c0:List D):aQ pr cv J 73 Tryz.f73 [(.sl (some g0) 2 n0 c0)]=
    (br (pr.u3 (pr.aS n0) (pr.aS n0) 16) (J 0 (kF g0 n0 c0 0 (pr.js (pr.aS n0)) (fA (pr.js (pr.aS n0)) [(.int .i64 0),(.int .i64 0)]))) none):=by kernel_rfl
theorem vl (g0:Bool) (n1:Nat) (c2:List D) (i3:Int) (n4:Nat) (c5:List D):bJ pr cv J 73 Tryz.f73 [.undef] 0 (kF g0 n1 c2 i3 n4 c5)=
    (br (pr.lt i3 (pr.aS n1)) (br (pr.bD i3 n1) (br (br (pr.cw .i64 c2 (pr.idx 0 i3 2)) (br (pr.cw .i64 c2 ((pr.idx 0 i3 2)+1)) true false) false) (cv 123 [(.agg [(.int .i64 (pr.bn c2 (pr.idx 0 i3 2))),(.int .i64 (pr.bn c2 ((pr.idx 0 i3 2)+1)))])] (.int (fun dm=>(.int (fun gP=>(.done (br (pr.bD i3 n4) (br (br (pr.ne c5) (br (pr.slot c5 (pr.idx 0 i3 2)) (br (pr.slot (List.set c5 (pr.idx 0 i3 2) (.int .i64 dm)) ((pr.idx 0 i3 2)+1)) true false) false) false) (cv 999999 [(.sl none 0 0 (List.set (List.set c5 (pr.idx 0 i3 2) (.int .i64 dm)) ((pr.idx 0 i3 2)+1) (.int .i64 gP)))] (.sl (fun ou=>(fun iJ=>(.done (J 0 (kF g0 n1 c2 (pr.ar .add .i64 i3 1) n4 iJ))))))) none) none))))))) none) none) (some ((.sl none 2 n4 c5),[.undef]))):=by kernel_rfl
def kG (g0:Bool) (n1:Nat) (c2:List D) (g3:Bool) (n4:Nat) (c5:List D) (i6:Int):St:=(St.mk [(0,(.sl (some g0) 2 n1 c2)),(1,(.sl (some g3) 2 n4 c5)),(5,(.int .i64 i6))] [] [] 0)
theorem KO:Told cfg Tryz.prog 80 Tryz.f80:=⟨by kernel_rfl,Tryz.func80,by kernel_rfl⟩
theorem KP (g0:Bool) (n0:Nat) (c0:List D) (g1:Bool) (n1:Nat) (c1:List D):aQ pr cv J 80 Tryz.f80 [(.sl (some g0) 2 n0 c0),(.sl (some g1) 2 n1 c1)]=
    (br (br (pr.eq (pr.aS n0) (pr.aS n1)) false true) (some ((.bool false),[.undef,.undef])) (J 0 (kG g0 n0 c0 g1 n1 c1 0))):=by kernel_rfl
theorem vm (g0:Bool) (n1:Nat) (c2:List D) (g3:Bool) (n4:Nat) (c5:List D) (i6:Int):bJ pr cv J 80 Tryz.f80 [.undef,.undef] 0 (kG g0 n1 c2 g3 n4 c5 i6)=
    (br (pr.lt i6 (pr.aS n1)) (br (pr.bD i6 n1) (br (br (pr.cw .i64 c2 (pr.idx 0 i6 2)) (br (pr.cw .i64 c2 ((pr.idx 0 i6 2)+1)) true false) false) (br (pr.bD i6 n4) (br (br (pr.cw .i64 c5 (pr.idx 0 i6 2)) (br (pr.cw .i64 c5 ((pr.idx 0 i6 2)+1)) true false) false) (cv 127 [(.agg [(.int .i64 (pr.bn c2 (pr.idx 0 i6 2))),(.int .i64 (pr.bn c2 ((pr.idx 0 i6 2)+1)))]),(.agg [(.int .i64 (pr.bn c5 (pr.idx 0 i6 2))),(.int .i64 (pr.bn c5 ((pr.idx 0 i6 2)+1)))])] (.bool (fun cf=>(.done (br (br cf false true) (some ((.bool false),[.undef,.undef])) (J 0 (kG g0 n1 c2 g3 n4 c5 (pr.ar .add .i64 i6 1)))))))) none) none) none) none) (some ((.bool true),[.undef,.undef]))):=by kernel_rfl
theorem Ia:Told cfg Tryz.prog 20 Tryz.f20:=⟨by kernel_rfl,Tryz.func20,by kernel_rfl⟩
theorem Ib (g0:Bool) (n0:Nat) (c0:List D) (g1:Bool) (n1:Nat) (c1:List D) (g2:Bool) (n2:Nat) (c2:List D) (g3:Bool) (n3:Nat) (c3:List D) (a4:Int) (a5:Int):aQ pr cv J 20 Tryz.f20 [(.agg [(.sl (some g0) 16 n0 c0),(.sl (some g1) 3 n1 c1),(.sl (some g2) 2 n2 c2),(.sl (some g3) 1 n3 c3),(.int .i64 a4)]),(.int .i64 a5)]=
    let y1:Option (D × List D):=(some ((.int .i64 (-1)),[.undef,.undef]))
    (cv 66 [(.sl (some g0) 16 n0 c0),(.int .i64 a5)] (.int (fun dm=>(.done (br (pr.lt dm 0) y1 (cv 67 [(.sl (some g1) 3 n1 c1),(.int .i64 dm)] (.int (fun gP=>(.done (br (pr.lt gP 0) y1 (cv 68 [(.sl (some g2) 2 n2 c2),(.int .i64 gP)] (.int (fun qD=>(.done (br (pr.lt qD 0) y1 (cv 35 [(.sl (some g3) 1 n3 c3),(.int .i64 qD)] (.int (fun q8=>(.done (br (pr.lt q8 0) y1 (some ((.int .i64 q8),[.undef,.undef])))))))))))))))))))))):=by kernel_rfl
theorem Ic:Told cfg Tryz.prog 22 Tryz.f22:=⟨by kernel_rfl,Tryz.func22,by kernel_rfl⟩
theorem Ie (g0:Bool) (n0:Nat) (c0:List D) (g1:Bool) (n1:Nat) (c1:List D) (g2:Bool) (n2:Nat) (c2:List D) (g3:Bool) (n3:Nat) (c3:List D) (a4:Int):aQ pr cv J 22 Tryz.f22 [(.agg [(.sl (some g0) 16 n0 c0),(.sl (some g1) 3 n1 c1),(.sl (some g2) 2 n2 c2),(.sl (some g3) 1 n3 c3),(.int .i64 a4)])]=
    (cv 71 [(.sl (some g0) 16 n0 c0)] (.sl (fun dU=>(fun dp=>(.done (br (br (br (pr.nl dp) true false) true false) (cv 72 [(.sl (some g1) 3 n1 c1)] (.sl (fun ou=>(fun iJ=>(.done (br (br (br (pr.nl iJ) true false) true false) (cv 73 [(.sl (some g2) 2 n2 c2)] (.sl (fun xq=>(fun tF=>(.done (br (br (br (pr.nl tF) true false) true false) (cv 42 [(.sl (some g3) 1 n3 c3)] (.sl (fun YI=>(fun UO=>(.done (br (br (br (pr.nl UO) true false) true false) (some ((.agg [(.sl none 16 dU dp),(.sl none 3 ou iJ),(.sl none 2 xq tF),(.sl none 1 YI UO),(.int .i64 a4)]),[.undef])) none)))))) none)))))) none)))))) none)))))):=by kernel_rfl
theorem Ig:Told cfg Tryz.prog 24 Tryz.f24:=⟨by kernel_rfl,Tryz.func24,by kernel_rfl⟩
theorem Ih (g0:Bool) (n0:Nat) (c0:List D) (g1:Bool) (n1:Nat) (c1:List D) (g2:Bool) (n2:Nat) (c2:List D) (g3:Bool) (n3:Nat) (c3:List D) (a4:Int) (g5:Bool) (n5:Nat) (c5:List D) (g6:Bool) (n6:Nat) (c6:List D) (g7:Bool) (n7:Nat) (c7:List D) (g8:Bool) (n8:Nat) (c8:List D) (a9:Int):aQ pr cv J 24 Tryz.f24 [(.agg [(.sl (some g0) 16 n0 c0),(.sl (some g1) 3 n1 c1),(.sl (some g2) 2 n2 c2),(.sl (some g3) 1 n3 c3),(.int .i64 a4)]),(.agg [(.sl (some g5) 16 n5 c5),(.sl (some g6) 3 n6 c6),(.sl (some g7) 2 n7 c7),(.sl (some g8) 1 n8 c8),(.int .i64 a9)])]=
    let y1:Option (D × List D):=(some ((.bool false),[.undef,.undef]))
    (cv 78 [(.sl (some g0) 16 n0 c0),(.sl (some g5) 16 n5 c5)] (.bool (fun cf=>(.done (br (br cf false true) y1 (cv 79 [(.sl (some g1) 3 n1 c1),(.sl (some g6) 3 n6 c6)] (.bool (fun eN=>(.done (br (br eN false true) y1 (cv 80 [(.sl (some g2) 2 n2 c2),(.sl (some g7) 2 n7 c7)] (.bool (fun iq=>(.done (br (br iq false true) y1 (cv 49 [(.sl (some g3) 1 n3 c3),(.sl (some g8) 1 n8 c8)] (.bool (fun vh=>(.done (br (br vh false true) y1 (br (br (pr.eq a4 a9) false true) y1 (some ((.bool true),[.undef,.undef]))))))))))))))))))))))):=by kernel_rfl
end
theorem wA (i w:Nat):ad.idx 0 (i:Int) w=i*w:=by rw [YF,Nat.zero_add]
section
variable {α:Type} {e:α→List D} {w:Nat} (hw:∀ x,(e x).length=w) {xs:List α} {i k:Nat} (hi:i < xs.length) (hk:k < w)
include hw hi hk
theorem xF (kk:IntKind):ad.cw kk (ab e xs) (i*w+k)=ad.cw kk (e xs[i]) k:=by simp only [ad,mq hw xs hi hk]
theorem uo:ad.bn (ab e xs) (i*w+k)=ad.bn (e xs[i]) k:=by simp only [ad,mq hw xs hi hk]
theorem AL:ad.df (ab e xs) (i*w+k)=ad.df (e xs[i]) k:=by simp only [ad,mq hw xs hi hk]
theorem xG:ad.cg (ab e xs) (i*w+k)=ad.cg (e xs[i]) k:=by simp only [ad,mq hw xs hi hk]
theorem o0 (s:Nat):ad.bU s (ab e xs) (i*w+k)=ad.bU s (e xs[i]) k:=by simp only [ad,mq hw xs hi hk]
theorem mW:ad.bo (ab e xs) (i*w+k)=ad.bo (e xs[i]) k:=by simp only [ad,mq hw xs hi hk]
theorem mX:ad.aR (ab e xs) (i*w+k)=ad.aR (e xs[i]) k:=by simp only [ad,mq hw xs hi hk]
theorem mY:ad.aV (ab e xs) (i*w+k)=ad.aV (e xs[i]) k:=by simp only [ad,mq hw xs hi hk]
end
theorem FT {g:Bool} {xs:List ae} {i:Nat} (h:i < xs.length):ad.cw .i64 (ab (U (some g)) xs) (i*16)=true:=(xF (e:=U (some g)) (w:=16) (fun _=>rfl) (k:=0) h (by omega) _).trans rfl
theorem FU {g:Bool} {xs:List ae} {i:Nat} (h:i < xs.length):ad.bn (ab (U (some g)) xs) (i*16)=xs[i].id:=(uo (e:=U (some g)) (w:=16) (fun _=>rfl) (k:=0) h (by omega)).trans rfl
theorem FV {g:Bool} {xs:List ae} {i:Nat} (h:i < xs.length):ad.df (ab (U (some g)) xs) (i*16+1)=true:=(AL (e:=U (some g)) (w:=16) (fun _=>rfl) (k:=1) h (by omega)).trans rfl
theorem FW {g:Bool} {xs:List ae} {i:Nat} (h:i < xs.length):ad.cg (ab (U (some g)) xs) (i*16+1)=xs[i].up:=(xG (e:=U (some g)) (w:=16) (fun _=>rfl) (k:=1) h (by omega)).trans rfl
theorem FX {g:Bool} {xs:List ae} {i:Nat} (h:i < xs.length):ad.df (ab (U (some g)) xs) (i*16+2)=true:=(AL (e:=U (some g)) (w:=16) (fun _=>rfl) (k:=2) h (by omega)).trans rfl
theorem FY {g:Bool} {xs:List ae} {i:Nat} (h:i < xs.length):ad.cg (ab (U (some g)) xs) (i*16+2)=xs[i].cE:=(xG (e:=U (some g)) (w:=16) (fun _=>rfl) (k:=2) h (by omega)).trans rfl
theorem FZ {g:Bool} {xs:List ae} {i:Nat} (h:i < xs.length):ad.bU 1 (ab (U (some g)) xs) (i*16+3)=true:=(o0 (e:=U (some g)) (w:=16) (fun _=>rfl) (k:=3) h (by omega) _).trans rfl
theorem F0 {g:Bool} {xs:List ae} {i:Nat} (h:i < xs.length):ad.bo (ab (U (some g)) xs) (i*16+3)=g:=(mW (e:=U (some g)) (w:=16) (fun _=>rfl) (k:=3) h (by omega)).trans rfl
theorem F1 {g:Bool} {xs:List ae} {i:Nat} (h:i < xs.length):ad.aR (ab (U (some g)) xs) (i*16+3)=xs[i].image.length:=(mX (e:=U (some g)) (w:=16) (fun _=>rfl) (k:=3) h (by omega)).trans rfl
theorem F2 {g:Bool} {xs:List ae} {i:Nat} (h:i < xs.length):ad.aV (ab (U (some g)) xs) (i*16+3)=ints xs[i].image:=(mY (e:=U (some g)) (w:=16) (fun _=>rfl) (k:=3) h (by omega)).trans rfl
theorem F3 {g:Bool} {xs:List ae} {i:Nat} (h:i < xs.length):ad.bU 1 (ab (U (some g)) xs) (i*16+4)=true:=(o0 (e:=U (some g)) (w:=16) (fun _=>rfl) (k:=4) h (by omega) _).trans rfl
theorem F4 {g:Bool} {xs:List ae} {i:Nat} (h:i < xs.length):ad.bo (ab (U (some g)) xs) (i*16+4)=g:=(mW (e:=U (some g)) (w:=16) (fun _=>rfl) (k:=4) h (by omega)).trans rfl
theorem F5 {g:Bool} {xs:List ae} {i:Nat} (h:i < xs.length):ad.aR (ab (U (some g)) xs) (i*16+4)=xs[i].mt.ay.length:=(mX (e:=U (some g)) (w:=16) (fun _=>rfl) (k:=4) h (by omega)).trans rfl
theorem F6 {g:Bool} {xs:List ae} {i:Nat} (h:i < xs.length):ad.aV (ab (U (some g)) xs) (i*16+4)=ints xs[i].mt.ay:=(mY (e:=U (some g)) (w:=16) (fun _=>rfl) (k:=4) h (by omega)).trans rfl
theorem F7 {g:Bool} {xs:List ae} {i:Nat} (h:i < xs.length):ad.bU 1 (ab (U (some g)) xs) (i*16+5)=true:=(o0 (e:=U (some g)) (w:=16) (fun _=>rfl) (k:=5) h (by omega) _).trans rfl
theorem F8 {g:Bool} {xs:List ae} {i:Nat} (h:i < xs.length):ad.bo (ab (U (some g)) xs) (i*16+5)=g:=(mW (e:=U (some g)) (w:=16) (fun _=>rfl) (k:=5) h (by omega)).trans rfl
theorem F9 {g:Bool} {xs:List ae} {i:Nat} (h:i < xs.length):ad.aR (ab (U (some g)) xs) (i*16+5)=xs[i].mt.bits.length:=(mX (e:=U (some g)) (w:=16) (fun _=>rfl) (k:=5) h (by omega)).trans rfl
theorem Ga {g:Bool} {xs:List ae} {i:Nat} (h:i < xs.length):ad.aV (ab (U (some g)) xs) (i*16+5)=rows (some g) xs[i].mt.bits:=(mY (e:=U (some g)) (w:=16) (fun _=>rfl) (k:=5) h (by omega)).trans rfl
theorem Gb {g:Bool} {xs:List ae} {i:Nat} (h:i < xs.length):ad.df (ab (U (some g)) xs) (i*16+6)=true:=(AL (e:=U (some g)) (w:=16) (fun _=>rfl) (k:=6) h (by omega)).trans rfl
theorem Gc {g:Bool} {xs:List ae} {i:Nat} (h:i < xs.length):ad.cg (ab (U (some g)) xs) (i*16+6)=xs[i].mt.cI:=(xG (e:=U (some g)) (w:=16) (fun _=>rfl) (k:=6) h (by omega)).trans rfl
theorem Gd {g:Bool} {xs:List ae} {i:Nat} (h:i < xs.length):ad.df (ab (U (some g)) xs) (i*16+7)=true:=(AL (e:=U (some g)) (w:=16) (fun _=>rfl) (k:=7) h (by omega)).trans rfl
theorem Ge {g:Bool} {xs:List ae} {i:Nat} (h:i < xs.length):ad.cg (ab (U (some g)) xs) (i*16+7)=xs[i].mt.bN:=(xG (e:=U (some g)) (w:=16) (fun _=>rfl) (k:=7) h (by omega)).trans rfl
theorem Gf {g:Bool} {xs:List ae} {i:Nat} (h:i < xs.length):ad.df (ab (U (some g)) xs) (i*16+8)=true:=(AL (e:=U (some g)) (w:=16) (fun _=>rfl) (k:=8) h (by omega)).trans rfl
theorem Gg {g:Bool} {xs:List ae} {i:Nat} (h:i < xs.length):ad.cg (ab (U (some g)) xs) (i*16+8)=xs[i].mt.held:=(xG (e:=U (some g)) (w:=16) (fun _=>rfl) (k:=8) h (by omega)).trans rfl
theorem Gh {g:Bool} {xs:List ae} {i:Nat} (h:i < xs.length):ad.cw .i64 (ab (U (some g)) xs) (i*16+9)=true:=(xF (e:=U (some g)) (w:=16) (fun _=>rfl) (k:=9) h (by omega) _).trans rfl
theorem Gi {g:Bool} {xs:List ae} {i:Nat} (h:i < xs.length):ad.bn (ab (U (some g)) xs) (i*16+9)=xs[i].mt.last:=(uo (e:=U (some g)) (w:=16) (fun _=>rfl) (k:=9) h (by omega)).trans rfl
theorem AM {g:Bool} {xs:List ae} {i:Nat} (h:i < xs.length):ad.bU 1 (ab (U (some g)) xs) (i*16+10)=true:=(o0 (e:=U (some g)) (w:=16) (fun _=>rfl) (k:=10) h (by omega) _).trans rfl
theorem AN {g:Bool} {xs:List ae} {i:Nat} (h:i < xs.length):ad.bo (ab (U (some g)) xs) (i*16+10)=g:=(mW (e:=U (some g)) (w:=16) (fun _=>rfl) (k:=10) h (by omega)).trans rfl
theorem AO {g:Bool} {xs:List ae} {i:Nat} (h:i < xs.length):ad.aR (ab (U (some g)) xs) (i*16+10)=xs[i].aM.a.length:=(mX (e:=U (some g)) (w:=16) (fun _=>rfl) (k:=10) h (by omega)).trans rfl
theorem AP {g:Bool} {xs:List ae} {i:Nat} (h:i < xs.length):ad.aV (ab (U (some g)) xs) (i*16+10)=bytes xs[i].aM.a:=(mY (e:=U (some g)) (w:=16) (fun _=>rfl) (k:=10) h (by omega)).trans rfl
theorem AQ {g:Bool} {xs:List ae} {i:Nat} (h:i < xs.length):ad.bU 1 (ab (U (some g)) xs) (i*16+11)=true:=(o0 (e:=U (some g)) (w:=16) (fun _=>rfl) (k:=11) h (by omega) _).trans rfl
theorem AR {g:Bool} {xs:List ae} {i:Nat} (h:i < xs.length):ad.bo (ab (U (some g)) xs) (i*16+11)=g:=(mW (e:=U (some g)) (w:=16) (fun _=>rfl) (k:=11) h (by omega)).trans rfl
theorem AS {g:Bool} {xs:List ae} {i:Nat} (h:i < xs.length):ad.aR (ab (U (some g)) xs) (i*16+11)=xs[i].aM.b.length:=(mX (e:=U (some g)) (w:=16) (fun _=>rfl) (k:=11) h (by omega)).trans rfl
theorem AT {g:Bool} {xs:List ae} {i:Nat} (h:i < xs.length):ad.aV (ab (U (some g)) xs) (i*16+11)=bytes xs[i].aM.b:=(mY (e:=U (some g)) (w:=16) (fun _=>rfl) (k:=11) h (by omega)).trans rfl
theorem AU {g:Bool} {xs:List ae} {i:Nat} (h:i < xs.length):ad.bU 1 (ab (U (some g)) xs) (i*16+12)=true:=(o0 (e:=U (some g)) (w:=16) (fun _=>rfl) (k:=12) h (by omega) _).trans rfl
theorem AV {g:Bool} {xs:List ae} {i:Nat} (h:i < xs.length):ad.bo (ab (U (some g)) xs) (i*16+12)=g:=(mW (e:=U (some g)) (w:=16) (fun _=>rfl) (k:=12) h (by omega)).trans rfl
theorem AW {g:Bool} {xs:List ae} {i:Nat} (h:i < xs.length):ad.aR (ab (U (some g)) xs) (i*16+12)=xs[i].conn.length:=(mX (e:=U (some g)) (w:=16) (fun _=>rfl) (k:=12) h (by omega)).trans rfl
theorem AX {g:Bool} {xs:List ae} {i:Nat} (h:i < xs.length):ad.aV (ab (U (some g)) xs) (i*16+12)=aD xs[i].conn:=(mY (e:=U (some g)) (w:=16) (fun _=>rfl) (k:=12) h (by omega)).trans rfl
theorem AY {g:Bool} {xs:List ae} {i:Nat} (h:i < xs.length):ad.bU 1 (ab (U (some g)) xs) (i*16+13)=true:=(o0 (e:=U (some g)) (w:=16) (fun _=>rfl) (k:=13) h (by omega) _).trans rfl
theorem AZ {g:Bool} {xs:List ae} {i:Nat} (h:i < xs.length):ad.bo (ab (U (some g)) xs) (i*16+13)=g:=(mW (e:=U (some g)) (w:=16) (fun _=>rfl) (k:=13) h (by omega)).trans rfl
theorem A3 {g:Bool} {xs:List ae} {i:Nat} (h:i < xs.length):ad.aR (ab (U (some g)) xs) (i*16+13)=xs[i].sync.length:=(mX (e:=U (some g)) (w:=16) (fun _=>rfl) (k:=13) h (by omega)).trans rfl
theorem A4 {g:Bool} {xs:List ae} {i:Nat} (h:i < xs.length):ad.aV (ab (U (some g)) xs) (i*16+13)=rows (some g) xs[i].sync:=(mY (e:=U (some g)) (w:=16) (fun _=>rfl) (k:=13) h (by omega)).trans rfl
theorem A5 {g:Bool} {xs:List ae} {i:Nat} (h:i < xs.length):ad.bU 1 (ab (U (some g)) xs) (i*16+14)=true:=(o0 (e:=U (some g)) (w:=16) (fun _=>rfl) (k:=14) h (by omega) _).trans rfl
theorem A6 {g:Bool} {xs:List ae} {i:Nat} (h:i < xs.length):ad.bo (ab (U (some g)) xs) (i*16+14)=g:=(mW (e:=U (some g)) (w:=16) (fun _=>rfl) (k:=14) h (by omega)).trans rfl
theorem A7 {g:Bool} {xs:List ae} {i:Nat} (h:i < xs.length):ad.aR (ab (U (some g)) xs) (i*16+14)=xs[i].aK.length:=(mX (e:=U (some g)) (w:=16) (fun _=>rfl) (k:=14) h (by omega)).trans rfl
theorem A8 {g:Bool} {xs:List ae} {i:Nat} (h:i < xs.length):ad.aV (ab (U (some g)) xs) (i*16+14)=aD xs[i].aK:=(mY (e:=U (some g)) (w:=16) (fun _=>rfl) (k:=14) h (by omega)).trans rfl
theorem A9 {g:Bool} {xs:List ae} {i:Nat} (h:i < xs.length):ad.bU 1 (ab (U (some g)) xs) (i*16+15)=true:=(o0 (e:=U (some g)) (w:=16) (fun _=>rfl) (k:=15) h (by omega) _).trans rfl
theorem Ba {g:Bool} {xs:List ae} {i:Nat} (h:i < xs.length):ad.bo (ab (U (some g)) xs) (i*16+15)=g:=(mW (e:=U (some g)) (w:=16) (fun _=>rfl) (k:=15) h (by omega)).trans rfl
theorem Bb {g:Bool} {xs:List ae} {i:Nat} (h:i < xs.length):ad.aR (ab (U (some g)) xs) (i*16+15)=xs[i].wait.length:=(mX (e:=U (some g)) (w:=16) (fun _=>rfl) (k:=15) h (by omega)).trans rfl
theorem Bc {g:Bool} {xs:List ae} {i:Nat} (h:i < xs.length):ad.aV (ab (U (some g)) xs) (i*16+15)=ints xs[i].wait:=(mY (e:=U (some g)) (w:=16) (fun _=>rfl) (k:=15) h (by omega)).trans rfl
theorem Gj {g:Bool} {xs:List dn} {i:Nat} (h:i < xs.length):ad.cw .i64 (ab (bp (some g)) xs) (i*3)=true:=(xF (e:=bp (some g)) (w:=3) (fun _=>rfl) (k:=0) h (by omega) _).trans rfl
theorem Gk {g:Bool} {xs:List dn} {i:Nat} (h:i < xs.length):ad.bn (ab (bp (some g)) xs) (i*3)=xs[i].src:=(uo (e:=bp (some g)) (w:=3) (fun _=>rfl) (k:=0) h (by omega)).trans rfl
theorem Gl {g:Bool} {xs:List dn} {i:Nat} (h:i < xs.length):ad.cw .i64 (ab (bp (some g)) xs) (i*3+1)=true:=(xF (e:=bp (some g)) (w:=3) (fun _=>rfl) (k:=1) h (by omega) _).trans rfl
theorem Gm {g:Bool} {xs:List dn} {i:Nat} (h:i < xs.length):ad.bn (ab (bp (some g)) xs) (i*3+1)=xs[i].dst:=(uo (e:=bp (some g)) (w:=3) (fun _=>rfl) (k:=1) h (by omega)).trans rfl
theorem Gn {g:Bool} {xs:List dn} {i:Nat} (h:i < xs.length):ad.bU 1 (ab (bp (some g)) xs) (i*3+2)=true:=(o0 (e:=bp (some g)) (w:=3) (fun _=>rfl) (k:=2) h (by omega) _).trans rfl
theorem Gp {g:Bool} {xs:List dn} {i:Nat} (h:i < xs.length):ad.bo (ab (bp (some g)) xs) (i*3+2)=g:=(mW (e:=bp (some g)) (w:=3) (fun _=>rfl) (k:=2) h (by omega)).trans rfl
theorem Gq {g:Bool} {xs:List dn} {i:Nat} (h:i < xs.length):ad.aR (ab (bp (some g)) xs) (i*3+2)=xs[i].bytes.length:=(mX (e:=bp (some g)) (w:=3) (fun _=>rfl) (k:=2) h (by omega)).trans rfl
theorem Gr {g:Bool} {xs:List dn} {i:Nat} (h:i < xs.length):ad.aV (ab (bp (some g)) xs) (i*3+2)=bytes xs[i].bytes:=(mY (e:=bp (some g)) (w:=3) (fun _=>rfl) (k:=2) h (by omega)).trans rfl
theorem Si {g:Bool} {xs:List ik} {i:Nat} (h:i < xs.length):ad.cw .i64 (ab (cP (some g)) xs) (i*2)=true:=(xF (e:=cP (some g)) (w:=2) (fun _=>rfl) (k:=0) h (by omega) _).trans rfl
theorem Sj {g:Bool} {xs:List ik} {i:Nat} (h:i < xs.length):ad.bn (ab (cP (some g)) xs) (i*2)=xs[i].cell:=(uo (e:=cP (some g)) (w:=2) (fun _=>rfl) (k:=0) h (by omega)).trans rfl
theorem Sk {g:Bool} {xs:List ik} {i:Nat} (h:i < xs.length):ad.cw .i64 (ab (cP (some g)) xs) (i*2+1)=true:=(xF (e:=cP (some g)) (w:=2) (fun _=>rfl) (k:=1) h (by omega) _).trans rfl
theorem Sl {g:Bool} {xs:List ik} {i:Nat} (h:i < xs.length):ad.bn (ab (cP (some g)) xs) (i*2+1)=xs[i].up:=(uo (e:=cP (some g)) (w:=2) (fun _=>rfl) (k:=1) h (by omega)).trans rfl
section
variable {A L B:List D} {m k:Nat} {d:D}
theorem Gs (hA:A.length=m) (hk:k < L.length):List.set (A++(L++B)) (m+k) d=A++(L.set k d++B):=by
  subst hA
  rw [List.set_append_right _ _ (by omega),List.set_append_left _ _ (by omega)]
  simp
theorem Ii (hA:A.length=m) (hk:0 < L.length):List.set (A++(L++B)) m d=A++(L.set 0 d++B):=Gs (k:=0) hA hk
theorem UP (hA:A.length=m) (hk:k < L.length):(A++(L++B))[m+k]?=L[k]?:=by
  subst hA
  rw [List.getElem?_append_right (by omega),List.getElem?_append_left (by omega)]
  simp
theorem Cg (hA:A.length=m) (hk:k < L.length):ad.slot (A++(L++B)) (m+k)=ad.slot L k:=by simp only [ad,UP hA hk]
theorem DZ (hA:A.length=m) (hk:0 < L.length):ad.slot (A++(L++B)) m=ad.slot L 0:=Cg (k:=0) hA hk
theorem Ij (s:Nat) (hA:A.length=m) (hk:k < L.length):ad.jC s (A++(L++B)) (m+k)=ad.jC s L k:=by simp only [ad,UP hA hk]
theorem Sm (hk:0 < L.length):ad.ne (A++(L++B))=true:=by
  simp only [ad]
  cases A with
  | nil=>cases L with
    | nil=>simp at hk
    | cons _ _=>rfl
  | cons _ _=>rfl
theorem Ik (l:List D) (n:Nat):ad.slot (d::l) (n+1)=ad.slot l n:=rfl
theorem Il (l:List D) (kk:IntKind) (x:Int):ad.slot (.int kk x::l) 0=true:=rfl
theorem Im (l:List D) (x:Bool):ad.slot (.bool x::l) 0=true:=rfl
theorem Io (s:Nat) (l:List D) (n:Nat):ad.jC s (d::l) (n+1)=ad.jC s l n:=rfl
theorem Ip (l c:List D) (n:Nat):ad.jC 1 (.sl none 1 n c::l) 0=true:=rfl
end
theorem wB {α:Type} {e:α→List D} {w:Nat} (hw:∀ x,(e x).length=w) (xs:List α):(ab e xs).length=xs.length*w:=by
  induction xs with
  | nil=>simp [ab]
  | cons x xs ih=>
    have h:ab e (x::xs)=e x++ab e xs:=by simp [ab]
    rw [h,List.length_append,hw,ih,List.length_cons,Nat.succ_mul]
    omega
theorem Of {α:Type} (e:α→List D) (xs ys:List α):ab e (xs++ys)=ab e xs++ab e ys:=by simp [ab]
theorem yH {α:Type} (e:α→List D) {xs:List α} {i:Nat} (h:i < xs.length):ab e xs=ab e (xs.take i)++(e xs[i]++ab e (xs.drop (i+1))):=by
  have e1:xs.take i++xs[i]::xs.drop (i+1)=xs:=by rw [List.getElem_cons_drop h,List.take_append_drop]
  have h2:ab e (xs[i]::xs.drop (i+1))=e xs[i]++ab e (xs.drop (i+1)):=by simp only [ab,List.flatMap_cons]
  rw [← h2,← Of,e1]
theorem D0 {α:Type} (e:α→List D) {xs:List α} {i:Nat} (h:i < xs.length) (x:α):ab e (xs.set i x)=ab e (xs.take i)++(e x++ab e (xs.drop (i+1))):=by
  have e1:xs.set i x=xs.take i++x::xs.drop (i+1):=List.set_eq_take_append_cons_drop.trans (if_pos h)
  have h2:ab e (x::xs.drop (i+1))=e x++ab e (xs.drop (i+1)):=by simp [ab]
  rw [e1,Of,h2]
theorem Bd {α:Type} (e:α→List D) (z:List D) (x:α) (h:z.map uy=e x) (n:Nat):fA n z=ab e (List.replicate n x):=by
  unfold fA ab
  rw [h]
  simp [List.flatMap]
def vn:ae:=⟨0,false,false,[],⟨[],[],false,false,false,0⟩,⟨[],[]⟩,[],[],[],[]⟩
theorem Gt:∀ l:List D,ad.nl l=cd l:=fun _=>rfl
theorem Pk (a b:List D):cd (a++b)=(cd a&&cd b):=by
  induction a with
  | nil=>simp [cd]
  | cons x a ih=>simp [cd,ih,Bool.and_assoc]
theorem Be {α:Type} {e:α→List D} (h:∀ x,ad.nl (e x)=true) (xs:List α):ad.nl (ab e xs)=true:=by
  induction xs with
  | nil=>rfl
  | cons x xs ih=>
    have h1:ab e (x::xs)=e x++ab e xs:=by simp [ab]
    rw [h1,Gt,Pk,← Gt,← Gt,h,ih]
    rfl
theorem aen (xs:List ae):ad.nl (ab (U none) xs)=true:=Be (fun x=>by
  have h1:=jl; have h2:=xz; have h3:=eB; have h4:=Cf
  simp only [Gt] at h1 h2 h3 h4 ⊢
  simp only [cd,bY,h1,h2,h3,h4,Bool.and_self]) xs
theorem aeo (xs:List dn):ad.nl (ab (bp none) xs)=true:=Be (fun x=>by
  have h3:=eB
  simp only [Gt] at h3 ⊢
  simp only [cd,bY,h3,Bool.and_self]) xs
theorem aep (g:Option Bool) (xs:List ik):ad.nl (ab (cP g) xs)=true:=Be (fun _=>rfl) xs
def jP (x:dn):Prop:=x.bytes.length≤1048576
structure fp (w:aW):Prop where
  nodes:w.nodes.length≤1048576
  node:∀ n∈w.nodes,bS n
  cz:w.cz.length≤1048576
  wz:∀ x∈w.cz,jP x
  log:w.log.length≤1048576
  safe:w.safe.length≤1048576
theorem WX (g:Bool) (x:dn) (h:jP x):Cm 122 [.agg (bp (some g) x)] (.agg (bp none x),[.undef]):=by
  unfold jP at h
  refine Cm.fin KG fun J=>?_
  rw [KH]
  simp (disch:=omega) only [JW,dt,ao,eB,aH]
theorem ZR (g:Option Bool) (x:ik):Cm 123 [.agg (cP g x)] (.agg (cP none x),[.undef]):=by
  refine Cm.fin Ob fun J=>?_
  rw [Oc]
theorem WY (g h:Bool) (x:dn) (ok:jP x):Cm 126 [.agg (bp (some g) x),.agg (bp (some h) x)] (.bool true,[.undef,.undef]):=by
  unfold jP at ok
  refine Cm.fin KI fun J=>?_
  rw [KJ]
  simp (disch:=omega) only [JX,aF,ao,decide_true,aH,bc,fQ]
theorem ZS (g h:Option Bool) (x:ik):Cm 127 [.agg (cP g x),.agg (cP h x)] (.bool true,[.undef,.undef]):=by
  refine Cm.fin Od fun J=>?_
  rw [Oe]
  simp (disch:=omega) only [aH,bc,fQ]
def xH (x:dn):Prop:=x.bytes.length≤140737488355328
def gK (x:dn) (l:Int):Int:=iB (eQ x.bytes.length l) fun l=>l
theorem Gu {x:dn} {l:Int} (h:0≤l) (hm:l≤1048576):gK x l≤l∧-1≤gK x l∧(0≤gK x l→jP x):=by
  have:=gG (k:=fun l=>l) h (oZ (n:=x.bytes.length) h hm) fun h3=>FP h3
  exact ⟨this.1,this.2.1,fun hh=>(this.2.2 hh).1⟩
theorem Gv {x:ae} {l:Int} (h:0≤l) (hm:l≤1048576):ew x l≤l∧-1≤ew x l∧(0≤ew x l→bS x):=FR h hm
theorem WZ (g:Bool) (x:dn) (left:Int) (h0:0≤left) (h1:left≤1048576) (ln:xH x):Cm 121 [.agg (bp (some g) x),.int .i64 left] (.int .i64 (gK x left),[.undef,.undef]):=by
  unfold xH at ln
  refine Cm.fin KE fun J=>?_
  rw [KF]
  simp (disch:=omega) only [AK,bX,ao]
  exact ja (f:=fun v=>some (.int .i64 v,[.undef,.undef])) fun _=>rfl
theorem W0 (g:Bool) (n:Nat) (c:List D) (left:Int) (h0:0≤left) (h1:left≤1048576) (hn:n≤140737488355328):Cm 68 [.sl (some g) 2 n c,.int .i64 left] (.int .i64 (eQ n left),[.undef,.undef]):=by
  refine Cm.fin KK fun J=>?_
  rw [KL]
  unfold eQ
  by_cases h:left < n
  · rw [if_pos h]
    simp (disch:=omega) only [aA,ir,aU]
  · rw [if_neg h]
    simp (disch:=omega) only [aA,ir,bm]
section
variable (t:bG Rz)
theorem W1 (g:Bool) (x:dn) (h:jP x):aO 122 [.agg (bp (some g) x)] t=feed t (bp none x):=aT (WX g x h) (by kernel_rfl) t
theorem W2 (g h:Bool) (x:dn) (ok:jP x):aO 126 [.agg (bp (some g) x),.agg (bp (some h) x)] t=feed t [.bool true]:=aT (WY g h x ok) (by kernel_rfl) t
theorem ZT (a b:Int):aO 123 [.agg [.int .i64 a,.int .i64 b]] t=feed t [.int .i64 a,.int .i64 b]:=aT (ZR none ⟨a,b⟩) (by kernel_rfl) t
theorem ZU (a b:Int):aO 127 [.agg [.int .i64 a,.int .i64 b],.agg [.int .i64 a,.int .i64 b]] t=feed t [.bool true]:=aT (ZS none none ⟨a,b⟩) (by kernel_rfl) t
theorem Og (g:Bool) (x:dn) (left:Int) (h0:0≤left) (h1:left≤1048576) (ln:xH x):aO 121 [.agg (bp (some g) x),.int .i64 left] t=feed t [.int .i64 (gK x left)]:=aT (WZ g x left h0 h1 ln) (by kernel_rfl) t
end
theorem UQ (g:Bool) (xs:List ae) (hb:xs.length≤1048576) (ok:∀ x∈xs,bS x):Cm 71 [.sl (some g) 16 xs.length (ab (U (some g)) xs)] (.sl none 16 xs.length (ab (U none) xs),[.undef]):=by
  refine Cm.go H0 [.undef] 0 (jL g xs.length (ab (U (some g)) xs) (0:Nat) xs.length (ab (U none) (List.replicate xs.length vn))) ?_ fun J hJ=>?_
  · refine WP.loop (H:=fun i=>jL g xs.length (ab (U (some g)) xs) (i:Nat) xs.length (ab (U none) (xs.take i++List.replicate (xs.length - i) vn))) (n:=xs.length) (fun _=>True) (fun i hi _ ih=>WP.go _ (ih trivial) fun J hJ=>?_) (fun _=>WP.fin fun J=>?_) 0 (Nat.zero_le _) trivial
    · rw [tG]
      have hx:=ok _ (List.getElem_mem hi)
      have hy:i < (xs.take i++List.replicate (xs.length - i) vn).length:=by simp; omega
      rw [← po hi _ xs rfl hi,D0 _ hy] at hJ
      rw [yH _ hy]
      have hA:(ab (U none) ((xs.take i++List.replicate (xs.length - i) vn).take i)).length=i*16:=by
        rw [wB (w:=16) (fun _=>rfl),List.length_take]
        congr 1
        simp; omega
      simp (disch:=first | omega | assumption | exact hA | (simp; done)) only [aH,bc,bl,aA,aU,bq,wA,FT,FU,FV,FW,FX,FY,FZ,F0,F1,F2,F3,F4,F5,F6,F7,F8,F9,Ga,Gb,Gc,Gd,Ge,Gf,Gg,Gh,Gi,AM,AN,AO,AP,AQ,AR,AS,AT,AU,AV,AW,AX,AY,AZ,A3,A4,A5,A6,A7,A8,A9,Ba,Bb,Bc,N8,HG,dt,bX,aF,ao,jl,xz,eB,Cf,Sm,Cg,DZ,Ij,Gs,Ii,List.set_cons_zero,List.set_cons_succ,Ik,Il,Im,Io,Ip,wY,db]
      exact hJ
    · rw [tG]
      simp (disch:=omega) only [aH,bc,aA,bm,List.take_length,Nat.sub_self,List.replicate_zero,List.append_nil]
  · rw [H3]
    have hz:=fun n=>Bd (U none) [.int .i64 0,.bool false,.bool false,.nil 1,.nil 1,.nil 1,.bool false,.bool false,.bool false,.int .i64 0,.nil 1,.nil 1,.nil 1,.nil 1,.nil 1,.nil 1] vn rfl n
    simp (disch:=omega) only [aH,bc,aA,rN,yE,hz]
    exact hJ
theorem UR (g h:Bool) (xs:List ae) (hb:xs.length≤1048576) (ok:∀ x∈xs,bS x):Cm 78 [.sl (some g) 16 xs.length (ab (U (some g)) xs),.sl (some h) 16 xs.length (ab (U (some h)) xs)] (.bool true,[.undef,.undef]):=by
  refine Cm.go H4 [.undef,.undef] 0 (jM g xs.length (ab (U (some g)) xs) h xs.length (ab (U (some h)) xs) (0:Nat)) ?_ fun J hJ=>?_
  · refine WP.loop (H:=fun i=>jM g xs.length (ab (U (some g)) xs) h xs.length (ab (U (some h)) xs) (i:Nat)) (n:=xs.length) (fun _=>True) (fun i hi _ ih=>WP.go _ (ih trivial) fun J hJ=>?_) (fun _=>WP.fin fun J=>?_) 0 (Nat.zero_le _) trivial
    · rw [tI]
      have hx:=ok _ (List.getElem_mem hi)
      simp (disch:=first | omega | assumption) only [aH,bc,bl,bI,aA,aU,bq,wA,FT,FU,FV,FW,FX,FY,FZ,F0,F1,F2,F3,F4,F5,F6,F7,F8,F9,Ga,Gb,Gc,Gd,Ge,Gf,Gg,Gh,Gi,AM,AN,AO,AP,AQ,AR,AS,AT,AU,AV,AW,AX,AY,AZ,A3,A4,A5,A6,A7,A8,A9,Ba,Bb,Bc,N9,aF,ao,db]
      exact hJ
    · rw [tI]
      simp (disch:=omega) only [aH,bc,aA,bm]
  · rw [H5]
    simp (disch:=omega) only [aH,bc,aA,bI,bW,fQ]
    exact hJ
theorem US (g:Bool) (xs:List dn) (hb:xs.length≤1048576) (ok:∀ x∈xs,jP x):Cm 72 [.sl (some g) 3 xs.length (ab (bp (some g)) xs)] (.sl none 3 xs.length (ab (bp none) xs),[.undef]):=by
  refine Cm.go H6 [.undef] 0 (jN g xs.length (ab (bp (some g)) xs) (0:Nat) xs.length (ab (bp none) (List.replicate xs.length (⟨0,0,[]⟩:dn)))) ?_ fun J hJ=>?_
  · refine WP.loop (H:=fun i=>jN g xs.length (ab (bp (some g)) xs) (i:Nat) xs.length (ab (bp none) (xs.take i++List.replicate (xs.length - i) (⟨0,0,[]⟩:dn)))) (n:=xs.length) (fun _=>True) (fun i hi _ ih=>WP.go _ (ih trivial) fun J hJ=>?_) (fun _=>WP.fin fun J=>?_) 0 (Nat.zero_le _) trivial
    · rw [tJ]
      have hx:=ok _ (List.getElem_mem hi)
      have hy:i < (xs.take i++List.replicate (xs.length - i) (⟨0,0,[]⟩:dn)).length:=by simp; omega
      rw [← po hi _ xs rfl hi,D0 _ hy] at hJ
      rw [yH _ hy]
      have hA:(ab (bp none) ((xs.take i++List.replicate (xs.length - i) (⟨0,0,[]⟩:dn)).take i)).length=i*3:=by
        rw [wB (w:=3) (fun _=>rfl),List.length_take]
        congr 1
        simp; omega
      simp (disch:=first | omega | assumption | exact hA | (simp; done)) only [aH,bc,bl,aA,aU,bq,wA,Gj,Gk,Gl,Gm,Gn,Gp,Gq,Gr,W1,dt,bX,aF,ao,jl,xz,eB,Cf,Sm,Cg,DZ,Ij,Gs,Ii,List.set_cons_zero,List.set_cons_succ,Ik,Il,Im,Io,Ip,wY,db]
      exact hJ
    · rw [tJ]
      simp (disch:=omega) only [aH,bc,aA,bm,List.take_length,Nat.sub_self,List.replicate_zero,List.append_nil]
  · rw [H7]
    have hz:=fun n=>Bd (bp none) [.int .i64 0,.int .i64 0,.nil 1] (⟨0,0,[]⟩:dn) rfl n
    simp (disch:=omega) only [aH,bc,aA,rN,yE,hz]
    exact hJ
theorem UT (g h:Bool) (xs:List dn) (hb:xs.length≤1048576) (ok:∀ x∈xs,jP x):Cm 79 [.sl (some g) 3 xs.length (ab (bp (some g)) xs),.sl (some h) 3 xs.length (ab (bp (some h)) xs)] (.bool true,[.undef,.undef]):=by
  refine Cm.go H8 [.undef,.undef] 0 (jO g xs.length (ab (bp (some g)) xs) h xs.length (ab (bp (some h)) xs) (0:Nat)) ?_ fun J hJ=>?_
  · refine WP.loop (H:=fun i=>jO g xs.length (ab (bp (some g)) xs) h xs.length (ab (bp (some h)) xs) (i:Nat)) (n:=xs.length) (fun _=>True) (fun i hi _ ih=>WP.go _ (ih trivial) fun J hJ=>?_) (fun _=>WP.fin fun J=>?_) 0 (Nat.zero_le _) trivial
    · rw [tK]
      have hx:=ok _ (List.getElem_mem hi)
      simp (disch:=first | omega | assumption) only [aH,bc,bl,bI,aA,aU,bq,wA,Gj,Gk,Gl,Gm,Gn,Gp,Gq,Gr,W2,aF,ao,db]
      exact hJ
    · rw [tK]
      simp (disch:=omega) only [aH,bc,aA,bm]
  · rw [H9]
    simp (disch:=omega) only [aH,bc,aA,bI,bW,fQ]
    exact hJ
theorem W3 (g:Bool) (xs:List ik) (hb:xs.length≤1048576):Cm 73 [.sl (some g) 2 xs.length (ab (cP (some g)) xs)] (.sl none 2 xs.length (ab (cP none) xs),[.undef]):=by
  refine Cm.go KM [.undef] 0 (kF g xs.length (ab (cP (some g)) xs) (0:Nat) xs.length (ab (cP none) (List.replicate xs.length (⟨0,0⟩:ik)))) ?_ fun J hJ=>?_
  · refine WP.loop (H:=fun i=>kF g xs.length (ab (cP (some g)) xs) (i:Nat) xs.length (ab (cP none) (xs.take i++List.replicate (xs.length - i) (⟨0,0⟩:ik)))) (n:=xs.length) (fun _=>True) (fun i hi _ ih=>WP.go _ (ih trivial) fun J hJ=>?_) (fun _=>WP.fin fun J=>?_) 0 (Nat.zero_le _) trivial
    · rw [vl]
      have hx:=hi
      have hy:i < (xs.take i++List.replicate (xs.length - i) (⟨0,0⟩:ik)).length:=by simp; omega
      rw [← po hi _ xs rfl hi,D0 _ hy] at hJ
      rw [yH _ hy]
      have hA:(ab (cP none) ((xs.take i++List.replicate (xs.length - i) (⟨0,0⟩:ik)).take i)).length=i*2:=by
        rw [wB (w:=2) (fun _=>rfl),List.length_take]
        congr 1
        simp; omega
      simp (disch:=first | omega | assumption | exact hA | (simp; done)) only [aH,bc,bl,aA,aU,bq,wA,Si,Sj,Sk,Sl,ZT,dt,bX,aF,ao,jl,xz,eB,Cf,Sm,Cg,DZ,Ij,Gs,Ii,List.set_cons_zero,List.set_cons_succ,Ik,Il,Im,Io,Ip,wY,db]
      exact hJ
    · rw [vl]
      simp (disch:=omega) only [aH,bc,aA,bm,List.take_length,Nat.sub_self,List.replicate_zero,List.append_nil]
  · rw [KN]
    have hz:=fun n=>Bd (cP none) [.int .i64 0,.int .i64 0] (⟨0,0⟩:ik) rfl n
    simp (disch:=omega) only [aH,bc,aA,rN,yE,hz]
    exact hJ
theorem W4 (g h:Bool) (xs:List ik) (hb:xs.length≤1048576):Cm 80 [.sl (some g) 2 xs.length (ab (cP (some g)) xs),.sl (some h) 2 xs.length (ab (cP (some h)) xs)] (.bool true,[.undef,.undef]):=by
  refine Cm.go KO [.undef,.undef] 0 (kG g xs.length (ab (cP (some g)) xs) h xs.length (ab (cP (some h)) xs) (0:Nat)) ?_ fun J hJ=>?_
  · refine WP.loop (H:=fun i=>kG g xs.length (ab (cP (some g)) xs) h xs.length (ab (cP (some h)) xs) (i:Nat)) (n:=xs.length) (fun _=>True) (fun i hi _ ih=>WP.go _ (ih trivial) fun J hJ=>?_) (fun _=>WP.fin fun J=>?_) 0 (Nat.zero_le _) trivial
    · rw [vm]
      have hx:=hi
      simp (disch:=first | omega | assumption) only [aH,bc,bl,bI,aA,aU,bq,wA,Si,Sj,Sk,Sl,ZU,aF,ao,db]
      exact hJ
    · rw [vm]
      simp (disch:=omega) only [aH,bc,aA,bm]
  · rw [KP]
    simp (disch:=omega) only [aH,bc,aA,bI,bW,fQ]
    exact hJ
def nM (xs:List ae) (l:Int):Int:=iB (eQ xs.length l) (ov ew xs)
theorem UU (g:Bool) (xs:List ae) (left:Int) (h0:0≤left) (h1:left≤1048576) (hn:xs.length≤140737488355328) (hx:∀ x∈xs,ta x):Cm 66 [.sl (some g) 16 xs.length (ab (U (some g)) xs),.int .i64 left] (.int .i64 (nM xs left),[.undef,.undef]):=by
  have hlen:=iC (n:=xs.length) h0
  have loop:∀ k i (l:Int),i+k=xs.length→0≤l→l≤1048576→WP 66 Tryz.f66 [.undef,.undef] 0 (mu g xs.length (ab (U (some g)) xs) l (i:Nat)) (.int .i64 (ov ew (xs.drop i) l),[.undef,.undef]):=by
    intro k
    induction k with
    | zero=>
      intro i l hi hl hm
      refine WP.fin fun J=>?_
      rw [oF,List.drop_of_length_le (by omega)]
      simp (disch:=omega) only [aA,bm,ov]
    | succ k ih=>
      intro i l hi hl hm
      have nD:i < xs.length:=by omega
      have hxi:=hx _ (List.getElem_mem nD)
      obtain ⟨a1,a2,a3⟩:=Gv (x:=xs[i]) hl hm
      have e:ov ew (xs.drop i) l=iB (ew xs[i] l) (ov ew (xs.drop (i+1))):=by
        rw [← List.getElem_cons_drop nD]
        rfl
      rw [e]
      by_cases hv:ew xs[i] l < 0
      · refine WP.fin fun J=>?_
        rw [oF,om _ hv]
        simp (disch:=first | omega | assumption) only [aH,bc,bl,aA,aU,bq,wA,FT,FU,FV,FW,FX,FY,FZ,F0,F1,F2,F3,F4,F5,F6,F7,F8,F9,Ga,Gb,Gc,Gd,Ge,Gf,Gg,Gh,Gi,AM,AN,AO,AP,AQ,AR,AS,AT,AU,AV,AW,AX,AY,AZ,A3,A4,A5,A6,A7,A8,A9,Ba,Bb,Bc,DY,bX,ao]
      · rw [oo _ (by omega)]
        refine WP.go _ (ih (i+1) (ew xs[i] l) (by omega) (by omega) (by omega)) fun J hJ=>?_
        rw [oF]
        have ll:0≤ew xs[i] l:=by omega
        simp (disch:=first | omega | assumption) only [aH,bc,bl,aA,aU,bq,wA,FT,FU,FV,FW,FX,FY,FZ,F0,F1,F2,F3,F4,F5,F6,F7,F8,F9,Ga,Gb,Gc,Gd,Ge,Gf,Gg,Gh,Gi,AM,AN,AO,AP,AQ,AR,AS,AT,AU,AV,AW,AX,AY,AZ,A3,A4,A5,A6,A7,A8,A9,Ba,Bb,Bc,DY,bX,ao,bm,db]
        exact hJ
  by_cases h:left < xs.length
  · refine Cm.fin xB fun J=>?_
    rw [xC,nM,om _ (by unfold eQ; rw [if_pos h]; omega)]
    simp (disch:=omega) only [aA,ir,aU]
  · have e:eQ xs.length left=left - xs.length:=if_neg h
    rw [nM,oo _ (by omega),e]
    refine Cm.go xB [.undef,.undef] 0 _ (loop xs.length 0 (left - xs.length) (by omega) (by omega) (by omega)) fun J hJ=>?_
    rw [xC]
    simp (disch:=omega) only [aA,ir,bm]
    exact hJ
def nN (xs:List dn) (l:Int):Int:=iB (eQ xs.length l) (ov gK xs)
theorem UW (g:Bool) (xs:List dn) (left:Int) (h0:0≤left) (h1:left≤1048576) (hn:xs.length≤140737488355328) (hx:∀ x∈xs,xH x):Cm 67 [.sl (some g) 3 xs.length (ab (bp (some g)) xs),.int .i64 left] (.int .i64 (nN xs left),[.undef,.undef]):=by
  have hlen:=iC (n:=xs.length) h0
  have loop:∀ k i (l:Int),i+k=xs.length→0≤l→l≤1048576→WP 67 Tryz.f67 [.undef,.undef] 0 (mv g xs.length (ab (bp (some g)) xs) l (i:Nat)) (.int .i64 (ov gK (xs.drop i) l),[.undef,.undef]):=by
    intro k
    induction k with
    | zero=>
      intro i l hi hl hm
      refine WP.fin fun J=>?_
      rw [oG,List.drop_of_length_le (by omega)]
      simp (disch:=omega) only [aA,bm,ov]
    | succ k ih=>
      intro i l hi hl hm
      have nD:i < xs.length:=by omega
      have hxi:=hx _ (List.getElem_mem nD)
      obtain ⟨a1,a2,a3⟩:=Gu (x:=xs[i]) hl hm
      have e:ov gK (xs.drop i) l=iB (gK xs[i] l) (ov gK (xs.drop (i+1))):=by
        rw [← List.getElem_cons_drop nD]
        rfl
      rw [e]
      by_cases hv:gK xs[i] l < 0
      · refine WP.fin fun J=>?_
        rw [oG,om _ hv]
        simp (disch:=first | omega | assumption) only [aH,bc,bl,aA,aU,bq,wA,Gj,Gk,Gl,Gm,Gn,Gp,Gq,Gr,Og,bX,ao]
      · rw [oo _ (by omega)]
        refine WP.go _ (ih (i+1) (gK xs[i] l) (by omega) (by omega) (by omega)) fun J hJ=>?_
        rw [oG]
        have ll:0≤gK xs[i] l:=by omega
        simp (disch:=first | omega | assumption) only [aH,bc,bl,aA,aU,bq,wA,Gj,Gk,Gl,Gm,Gn,Gp,Gq,Gr,Og,bX,ao,bm,db]
        exact hJ
  by_cases h:left < xs.length
  · refine Cm.fin xD fun J=>?_
    rw [xE,nN,om _ (by unfold eQ; rw [if_pos h]; omega)]
    simp (disch:=omega) only [aA,ir,aU]
  · have e:eQ xs.length left=left - xs.length:=if_neg h
    rw [nN,oo _ (by omega),e]
    refine Cm.go xD [.undef,.undef] 0 _ (loop xs.length 0 (left - xs.length) (by omega) (by omega) (by omega)) fun J hJ=>?_
    rw [xE]
    simp (disch:=omega) only [aA,ir,bm]
    exact hJ
end Go.Proofs.YtockoilcnmljiaaGreat
namespace Go.Proofs.YtockoilcnmljiaaGreat
set_option maxRecDepth 100000
section
variable (t:bG Rz)
theorem UX (g:Bool) (xs:List ae) (hb:xs.length≤1048576) (ok:∀ x∈xs,bS x):aO 71 [sN (some g) xs] t=feed t [sN none xs]:=aT (UQ g xs hb ok) (by kernel_rfl) t
theorem UY (g h:Bool) (xs:List ae) (hb:xs.length≤1048576) (ok:∀ x∈xs,bS x):aO 78 [sN (some g) xs,sN (some h) xs] t=feed t [.bool true]:=aT (UR g h xs hb ok) (by kernel_rfl) t
theorem UZ (g:Bool) (xs:List ae) (left:Int) (h0:0≤left) (h1:left≤1048576) (hn:xs.length≤140737488355328) (hx:∀ x∈xs,ta x):aO 66 [sN (some g) xs,.int .i64 left] t=feed t [.int .i64 (nM xs left)]:=aT (UU g xs left h0 h1 hn hx) (by kernel_rfl) t
theorem U0 (g:Bool) (xs:List dn) (hb:xs.length≤1048576) (ok:∀ x∈xs,jP x):aO 72 [sW (some g) xs] t=feed t [sW none xs]:=aT (US g xs hb ok) (by kernel_rfl) t
theorem U1 (g h:Bool) (xs:List dn) (hb:xs.length≤1048576) (ok:∀ x∈xs,jP x):aO 79 [sW (some g) xs,sW (some h) xs] t=feed t [.bool true]:=aT (UT g h xs hb ok) (by kernel_rfl) t
theorem U2 (g:Bool) (xs:List dn) (left:Int) (h0:0≤left) (h1:left≤1048576) (hn:xs.length≤140737488355328) (hx:∀ x∈xs,xH x):aO 67 [sW (some g) xs,.int .i64 left] t=feed t [.int .i64 (nN xs left)]:=aT (UW g xs left h0 h1 hn hx) (by kernel_rfl) t
theorem W5 (g:Bool) (xs:List ik) (hb:xs.length≤1048576):aO 73 [sK (some g) xs] t=feed t [sK none xs]:=aT (W3 g xs hb) (by kernel_rfl) t
theorem W6 (g h:Bool) (xs:List ik) (hb:xs.length≤1048576):aO 80 [sK (some g) xs,sK (some h) xs] t=feed t [.bool true]:=aT (W4 g h xs hb) (by kernel_rfl) t
theorem W7 (g:Bool) (n:Nat) (c:List D) (left:Int) (h0:0≤left) (h1:left≤1048576) (hn:n≤140737488355328):aO 68 [.sl (some g) 2 n c,.int .i64 left] t=feed t [.int .i64 (eQ n left)]:=aT (W0 g n c left h0 h1 hn) (by kernel_rfl) t
end
theorem U3 (g:Bool) (w:aW) (h:fp w):Cm 22 [.agg (eM (some g) w)] (.agg (eM none w),[.undef]):=by
  have h1:=h.nodes; have h2:=h.cz; have h3:=h.log; have h4:=h.safe
  refine Cm.fin Ic fun J=>?_
  rw [Ie]
  simp (disch:=first | omega | exact h.node | exact h.wz) only [UX,U0,W5,yG,dt,ao,jl,aen,aeo,aep,aH]
theorem U4 (g h:Bool) (w:aW) (ok:fp w):Cm 24 [.agg (eM (some g) w),.agg (eM (some h) w)] (.bool true,[.undef,.undef]):=by
  have h1:=ok.nodes; have h2:=ok.cz; have h3:=ok.log; have h4:=ok.safe
  refine Cm.fin Ig fun J=>?_
  rw [Ih]
  simp (disch:=first | omega | exact ok.node | exact ok.wz) only [UY,U1,W6,vj,aF,ao,decide_true,aH,bc,fQ]
structure Iq (w:aW):Prop where
  nodes:w.nodes.length≤140737488355328
  node:∀ n∈w.nodes,ta n
  cz:w.cz.length≤140737488355328
  wz:∀ x∈w.cz,xH x
  log:w.log.length≤140737488355328
  safe:w.safe.length≤140737488355328
def D1 (w:aW) (l:Int):Int:=iB (nM w.nodes l) fun l=>iB (nN w.cz l) fun l=>iB (eQ w.log.length l) fun l=>iB (eQ w.safe.length l) fun l=>l
theorem iK {v l:Int} {k:Int→Int} (hv:v≤l∧-1≤v) (hl:0≤l) (hk:0≤v→k v≤v∧-1≤k v):iB v k≤l∧-1≤iB v k:=by
  unfold iB
  split
  · omega
  · have:=hk (by omega); omega
theorem mZ {n:Nat} {l:Int} (h:0≤l):eQ n l≤l∧-1≤eQ n l:=⟨(iC h).1,(iC h).2.1⟩
theorem QN {α:Type} {f:α→Int→Int} (hf:∀ x l,0≤l→f x l≤l∧-1≤f x l):∀ (xs:List α) (l:Int),0≤l→ov f xs l≤l∧-1≤ov f xs l
  | [],l,h=>⟨Int.le_refl _,by show -1≤l; omega⟩
  | x::xs,l,h=>iK (hf x l h) h fun h1=>QN hf xs _ h1
theorem QO {xss:List (List Int)} {l:Int} (h:0≤l):xA xss l≤l∧-1≤xA xss l:=iK (mZ h) h fun h1=>QN (fun _ _ hl=>mZ hl) _ _ h1
theorem Da {n:ae} {l:Int} (h:0≤l):ew n l≤l∧-1≤ew n l:=by
  refine iK (mZ h) h fun h=>iK ?_ h fun h=>iK ?_ h fun h=>iK (mZ h) h fun h=>iK (QO h) h fun h=>iK (mZ h) h fun h=>iK (mZ h) h fun h=>?_
  · exact iK (mZ h) h fun h=>iK (QO h) h fun h=>by omega
  · exact iK (mZ h) h fun h=>iK (mZ h) h fun h=>by omega
  · omega
theorem Pl {xs:List ae} {l:Int} (h:0≤l) (hm:l≤1048576):nM xs l≤l∧-1≤nM xs l∧(0≤nM xs l→xs.length≤1048576∧∀ x∈xs,bS x):=by
  refine gG h (oZ h hm) fun h1=>?_
  have h2:=iC (n:=xs.length) h
  exact FO (f:=ew) (Q:=bS) (fun x l hl=>by
    by_cases hm:l≤1048576
    · obtain ⟨a,b,c⟩:=Gv (x:=x) hl hm
      exact ⟨a,b,fun hh _=>c hh⟩
    · refine ⟨?_,?_,fun _ T2=>absurd T2 hm⟩
      · exact (Da hl).1
      · exact (Da hl).2) xs _ h1 (by omega)
theorem Pm {xs:List dn} {l:Int} (h:0≤l) (hm:l≤1048576):nN xs l≤l∧-1≤nN xs l∧(0≤nN xs l→xs.length≤1048576∧∀ x∈xs,jP x):=by
  refine gG h (oZ h hm) fun h1=>?_
  have h2:=iC (n:=xs.length) h
  exact FO (f:=gK) (Q:=jP) (fun x l hl=>by
    by_cases hm:l≤1048576
    · obtain ⟨a,b,c⟩:=Gu (x:=x) hl hm
      exact ⟨a,b,fun hh _=>c hh⟩
    · have h3:gK x l≤l∧-1≤gK x l:=iK (k:=fun l=>l) (mZ hl) hl fun h=>by show (_:Int)≤_∧_; omega
      exact ⟨h3.1,h3.2,fun _ T2=>absurd T2 hm⟩) xs _ h1 (by omega)
theorem U5 (g:Bool) (w:aW) (left:Int) (h0:0≤left) (h1:left≤1048576) (ln:Iq w):Cm 20 [.agg (eM (some g) w),.int .i64 left] (.int .i64 (D1 w left),[.undef,.undef]):=by
  refine Cm.fin Ia fun J=>?_
  rw [Ib]
  have l1:=ln.nodes; have l2:=ln.cz; have l3:=ln.log; have l4:=ln.safe
  have a1:=Pl (xs:=w.nodes) h0 h1
  simp (disch:=first | omega | exact ln.node) only [UZ,bX,ao]
  refine ja (f:=fun v=>aO 67 _ _) fun p1=>?_
  have a2:=Pm (xs:=w.cz) p1 (by omega)
  simp (disch:=first | omega | exact ln.wz) only [U2,bX,ao]
  refine ja (f:=fun v=>aO 68 _ _) fun p2=>?_
  have a3:=iC (n:=w.log.length) p2
  simp (disch:=omega) only [W7,bX,ao]
  refine ja (f:=fun v=>aO 35 _ _) fun p3=>?_
  simp (disch:=omega) only [rO,bX,ao]
  exact ja (f:=fun v=>some (.int .i64 v,[.undef,.undef])) fun _=>rfl
section
variable (t:bG Rz)
theorem U6 (g:Bool) (w:aW) (h:fp w):aO 22 [.agg (eM (some g) w)] t=feed t [enc .world w]:=bO (r:=enc .world w) (s:=.ty .world) (ss:=[.undef]) (U3 g w h) (by kernel_rfl) (av _ _) (by simp only [ai,aJ,aj,Bool.and_self]) (au _ _) rfl t
theorem U7 (g h:Bool) (w:aW) (ok:fp w):aO 24 [.agg (eM (some g) w),.agg (eM (some h) w)] t=feed t [.bool true]:=aT (U4 g h w ok) (by kernel_rfl) t
theorem U8 (g:Bool) (w:aW) (left:Int) (h0:0≤left) (h1:left≤1048576) (ln:Iq w):aO 20 [.agg (eM (some g) w),.int .i64 left] t=feed t [.int .i64 (D1 w left)]:=aT (U5 g w left h0 h1 ln) (by kernel_rfl) t
end
structure ahm (w:aW):Prop where
  node:∀ n∈w.nodes,Oa n
  src:∀ x∈w.cz,vf x.src=true∧vf x.dst=true
  alL:∀ x∈w.log,vf x.cell=true∧vf x.up=true
  safe:vk w.safe
  gen:vf w.gen=true
end Go.Proofs.YtockoilcnmljiaaGreat
namespace Go.Proofs.YtockoilcnmljiaaGreat
set_option maxRecDepth 100000
section
variable (pr:dT) (cv:Cv Rz) (J:Nat→St→Option Rz)
def kH (i0:Int) (i1:Int) (n2:Nat) (c3:List D):St:=(St.mk [(0,(.ref 19 [] 0 none)),(1,(.int .i64 i0)),(5,(.int .i64 i1))] [(19,[(.sl none 1 n2 c3)])] [] 0)
theorem D2:Told cfg Tryz.prog 58 Tryz.f58:=⟨by kernel_rfl,Tryz.func58,by kernel_rfl⟩
theorem D3 (n0:Nat) (c0:List D) (a1:Int):aQ pr cv J 58 Tryz.f58 [(.sl none 1 n0 c0),(.int .i64 a1)]=
    (J 0 (kH a1 0 n0 c0)):=by kernel_rfl
theorem rb (i0:Int) (i1:Int) (n2:Nat) (c3:List D):bJ pr cv J 58 Tryz.f58 [(.sl none 0 0 []),.undef] 0 (kH i0 i1 n2 c3)=
    (br (pr.lt i1 (pr.aS n2)) (br (pr.bD i1 n2) (br (br (pr.TW c3 (pr.idx 0 i1 1)) true false) (br (pr.jC 1 c3 (pr.idx 0 i1 1)) (br (pr.nl (pr.aV c3 (pr.idx 0 i1 1))) (cv 54 [(.sl none 1 (pr.aR c3 (pr.idx 0 i1 1)) (pr.aV c3 (pr.idx 0 i1 1))),(.int .i64 i0)] (.int (fun dm=>(.sl (fun tH=>(fun qE=>(.done (br (br (br (pr.nl qE) true false) true false) (br (pr.neq (pr.aR c3 (pr.idx 0 i1 1)) tH) (cv 999999 [(.sl none 0 0 (List.set c3 (pr.idx 0 i1 1) (.sl none 1 tH qE)))] (.sl (fun zb=>(fun qF=>(.done (J 0 (kH dm (pr.ar .add .i64 i1 1) n2 qF))))))) none) none)))))))) none) none) none) none) (some ((.int .i64 i0),[(.sl none 1 n2 c3),.undef]))):=by kernel_rfl
end
section
variable (t:bG Rz)
theorem Gw (n:Nat) (xs:List Int) (k:Int) (hn:n=xs.length) (h0:0≤k) (h1:k+xs.length < 9223372036854775807):aO 54 [.sl none 1 n (ints xs),.int .i64 k] t=feed t [.int .i64 (k+xs.length),.sl none 1 xs.length (ints (iZ k xs.length))]:=by subst hn; exact aT (Sb xs k h0 h1) (by kernel_rfl) t
theorem Pn (n:Nat) (xs:List UInt8) (k:Int) (hn:n=xs.length) (h0:0≤k) (h1:k+xs.length < 9223372036854775807):aO 117 [.sl none 1 n (bytes xs),.int .i64 k] t=feed t [.int .i64 (k+xs.length),.sl none 1 xs.length (bytes (oX k xs.length))]:=by subst hn; exact aT (Pc xs k h0 h1) (by kernel_rfl) t
theorem Po (n:Nat) (xs:List Bool) (k:Int) (hn:n=xs.length) (h0:0≤k) (h1:k+xs.length < 9223372036854775807):aO 57 [.sl none 1 n (aD xs),.int .i64 k] t=feed t [.int .i64 (k+xs.length),.sl none 1 xs.length (aD (nK k xs.length))]:=by subst hn; exact aT (Pd xs k h0 h1) (by kernel_rfl) t
end
theorem ZV {R:Type} {a b:Nat} {u v:R} (h:a=b):br (ad.neq a b) u v=u:=by simp [ad,br,h]
def dw (xss:List (List Int)):Nat:=(xss.map List.length).sum
def lV:Int→List (List Int)→List (List Int)
  | _,[]=>[]
  | k,xs::r=>iZ k xs.length::lV (k+xs.length) r
theorem eC:∀ (k:Int) (xss:List (List Int)),(lV k xss).length=xss.length
  | _,[]=>rfl
  | k,xs::r=>by simp [lV,eC]
theorem U9 {α:Type} (a:List α) (x y:α) (b:List α):(a++x::b).set a.length y=(a++[y])++b:=by
  rw [List.set_append_right _ _ (Nat.le_refl _)]
  simp
theorem Db:∀ (rest done:List (List Int)) (k:Int) (n:Nat),n=done.length+rest.length→0≤k→k+dw rest < 9223372036854775807→n < 9223372036854775807→
    WP 58 Tryz.f58 [.sl none 0 0 [],.undef] 0 (kH k (done.length:Nat) n (rows none (done++rest))) (.int .i64 (k+dw rest),[.sl none 1 n (rows none (done++lV k rest)),.undef])
  | [],done,k,n,hn,h0,h1,hs=>by
    refine WP.fin fun J=>?_
    rw [rb]
    simp (disch:=(simp at hn; omega)) only [aA,bm,dw,List.map_nil,List.sum_nil,lV,Int.natCast_zero,Int.add_zero]
  | xs::rest,done,k,n,hn,h0,h1,hs=>by
    have ht:dw (xs::rest)=xs.length+dw rest:=by simp [dw]
    rw [ht] at h1
    have hlen:done.length < (done++xs::rest).length:=by simp
    have lN:(done++xs::rest)[done.length]=xs:=by simp
    have Mh:done.length < n:=by rw [hn]; simp
    have ih:=Db rest (done++[iZ k xs.length]) (k+xs.length) n (by rw [hn]; simp; omega) (by omega) (by omega) hs
    have e1:((done++[iZ k xs.length]).length:Nat)=done.length+1:=by simp
    have e2:(done++[iZ k xs.length])++lV (k+xs.length) rest=done++lV k (xs::rest):=by simp [lV]
    have e3:k+(xs.length:Int)+(dw rest:Int)=k+((dw (xs::rest):Nat):Int):=by rw [ht]; omega
    rw [e1,e2,e3] at ih
    refine WP.go _ ih fun J hJ=>?_
    rw [rb]
    simp (disch:=first | omega | assumption | (simp only [dA]; done)) only [aH,bc,bl,aA,aU,bq,cQ,acq,QM,gX,iA,lN,jl,Gw,bX,dt,ao,ZV,wY,db]
    have e4:(D.sl none 1 xs.length (ints (iZ k xs.length)))=.sl none 1 (iZ k xs.length).length (ints (iZ k xs.length)):=by rw [dA]
    rw [e4,DX,U9]
    exact hJ
theorem Pp (xss:List (List Int)) (k:Int) (h0:0≤k) (h1:k+dw xss < 9223372036854775807) (hs:xss.length < 9223372036854775807):Cm 58 [.sl none 1 xss.length (rows none xss),.int .i64 k] (.int .i64 (k+dw xss),[.sl none 1 xss.length (rows none (lV k xss)),.undef]):=by
  refine Cm.go D2 [.sl none 0 0 [],.undef] 0 _ (Db xss [] k xss.length (by simp) h0 h1 hs) fun J hJ=>?_
  rw [D3]
  exact hJ
section
variable (t:bG Rz)
theorem Pq (n:Nat) (xss:List (List Int)) (k:Int) (hn:n=xss.length) (h0:0≤k) (h1:k+dw xss < 9223372036854775807) (hs:xss.length < 9223372036854775807):aO 58 [.sl none 1 n (rows none xss),.int .i64 k] t=feed t [.int .i64 (k+dw xss),.sl none 1 xss.length (rows none (lV k xss))]:=by subst hn; exact aT (Pp xss k h0 h1 hs) (by kernel_rfl) t
end
def Sn (k:Int):Bool:=k.tmod 3==0
theorem agC (k:Int):ad.eq (ad.ar .rem .i64 k 3) 0=Sn k:=rfl
end Go.Proofs.YtockoilcnmljiaaGreat
namespace Go.Proofs.YtockoilcnmljiaaGreat
set_option maxRecDepth 100000
section
variable (pr:dT) (cv:Cv Rz) (J:Nat→St→Option Rz)
def lW (g0:Bool) (n1:Nat) (c2:List D) (i3:Int) (i4:Int):St:=(St.mk [(0,(.sl (some g0) 1 n1 c2)),(1,(.int .i64 i3)),(5,(.int .i64 i4))] [] [] 0)
theorem Oh:Told cfg Tryz.prog 84 Tryz.f84:=⟨by kernel_rfl,Tryz.func84,by kernel_rfl⟩
theorem Oi (g0:Bool) (n0:Nat) (c0:List D) (a1:Int):aQ pr cv J 84 Tryz.f84 [(.sl (some g0) 1 n0 c0),(.int .i64 a1)]=
    (J 0 (lW g0 n0 c0 a1 0)):=by kernel_rfl
theorem qG (g0:Bool) (n1:Nat) (c2:List D) (i3:Int) (i4:Int):bJ pr cv J 84 Tryz.f84 [.undef,.undef] 0 (lW g0 n1 c2 i3 i4)=
    (br (pr.lt i4 (pr.aS n1)) (br (pr.bD i4 n1) (br (br (pr.cw .i64 c2 (pr.idx 0 i4 1)) true false) (br (pr.eq (pr.bn c2 (pr.idx 0 i4 1)) i3) (some ((.bool true),[.undef,.undef])) (J 0 (lW g0 n1 c2 i3 (pr.ar .add .i64 i4 1)))) none) none) (some ((.bool false),[.undef,.undef]))):=by kernel_rfl
def kI (g0:Bool) (n1:Nat) (c2:List D) (g3:Bool) (n4:Nat) (c5:List D) (i6:Int):St:=(St.mk [(0,(.sl (some g0) 1 n1 c2)),(1,(.sl (some g3) 1 n4 c5)),(5,(.int .i64 i6))] [] [] 0)
theorem KQ:Told cfg Tryz.prog 90 Tryz.f90:=⟨by kernel_rfl,Tryz.func90,by kernel_rfl⟩
theorem KR (g0:Bool) (n0:Nat) (c0:List D) (g1:Bool) (n1:Nat) (c1:List D):aQ pr cv J 90 Tryz.f90 [(.sl (some g0) 1 n0 c0),(.sl (some g1) 1 n1 c1)]=
    (J 0 (kI g0 n0 c0 g1 n1 c1 0)):=by kernel_rfl
theorem pq (g0:Bool) (n1:Nat) (c2:List D) (g3:Bool) (n4:Nat) (c5:List D) (i6:Int):bJ pr cv J 90 Tryz.f90 [.undef,.undef] 0 (kI g0 n1 c2 g3 n4 c5 i6)=
    let y1:Option (D × List D):=(some ((.bool (pr.eq (pr.aS n1) (pr.aS n4))),[.undef,.undef]))
    (br (pr.lt i6 (pr.aS n1)) (br (pr.lt i6 (pr.aS n4)) (br (pr.bD i6 n1) (br (br (pr.cw .i64 c2 (pr.idx 0 i6 1)) true false) (br (pr.bD i6 n4) (br (br (pr.cw .i64 c5 (pr.idx 0 i6 1)) true false) (br (br (pr.eq (pr.bn c2 (pr.idx 0 i6 1)) (pr.bn c5 (pr.idx 0 i6 1))) false true) (some ((.bool false),[.undef,.undef])) (J 0 (kI g0 n1 c2 g3 n4 c5 (pr.ar .add .i64 i6 1)))) none) none) none) none) y1) y1):=by kernel_rfl
theorem Oj:Told cfg Tryz.prog 81 Tryz.f81:=⟨by kernel_rfl,Tryz.func81,by kernel_rfl⟩
theorem Ok (a0:Bool):aQ pr cv J 81 Tryz.f81 [(.bool a0)]=
    (br a0 (some ((.int .i64 1),[.undef])) (some ((.int .i64 0),[.undef]))):=by kernel_rfl
theorem KS:Told cfg Tryz.prog 76 Tryz.f76:=⟨by kernel_rfl,Tryz.func76,by kernel_rfl⟩
theorem KT (a0:Int):aQ pr cv J 76 Tryz.f76 [(.int .i64 a0)]=
    (cv 75 [(.int .i64 a0),(.int .i64 0),(.int .i64 2)] (.bool (fun cf=>(.done (some ((.bool cf),[.undef])))))):=by kernel_rfl
theorem KU:Told cfg Tryz.prog 77 Tryz.f77:=⟨by kernel_rfl,Tryz.func77,by kernel_rfl⟩
theorem KV (a0:Int):aQ pr cv J 77 Tryz.f77 [(.int .i64 a0)]=
    (cv 75 [(.int .i64 a0),(.int .i64 0),(.int .i64 7)] (.bool (fun cf=>(.done (some ((.bool cf),[.undef])))))):=by kernel_rfl
theorem Ir:Told cfg Tryz.prog 115 Tryz.f115:=⟨by kernel_rfl,Tryz.func115,by kernel_rfl⟩
theorem Is (a0:Int):aQ pr cv J 115 Tryz.f115 [(.int .i64 a0)]=
    (cv 75 [(.int .i64 a0),(.int .i64 1),(.int .i64 200)] (.bool (fun cf=>(.done (some ((.bool cf),[.undef])))))):=by kernel_rfl
theorem Pr:Told cfg Tryz.prog 171 Tryz.f171:=⟨by kernel_rfl,Tryz.func171,by kernel_rfl⟩
theorem Pt (a0:Bool) (a1:Int):aQ pr cv J 171 Tryz.f171 [(.bool a0),(.int .i64 a1)]=
    (br a0 (some ((.int .i64 a1),[.undef,.undef])) (some ((.int .i64 0),[.undef,.undef]))):=by kernel_rfl
theorem Pu:Told cfg Tryz.prog 149 Tryz.f149:=⟨by kernel_rfl,Tryz.func149,by kernel_rfl⟩
theorem Pv (a0:Int):aQ pr cv J 149 Tryz.f149 [(.int .i64 a0)]=
    let y1:Option (D × List D):=(some ((.int .i64 (pr.ar .sub .i64 1 a0)),[.undef]))
    (br (pr.eq a0 0) y1 (br (pr.eq a0 1) y1 (some ((.int .i64 (-1)),[.undef])))):=by kernel_rfl
theorem Pw:Told cfg Tryz.prog 148 Tryz.f148:=⟨by kernel_rfl,Tryz.func148,by kernel_rfl⟩
theorem Px (a0:Int):aQ pr cv J 148 Tryz.f148 [(.int .i64 a0)]=
    (cv 69 [(.int .i64 a0),(.int .i64 0),(.int .i64 1)] (.bool (fun cf=>(.done (br cf (some ((.int .i64 (pr.ar .sub .i64 1 a0)),[.undef])) (some ((.int .i64 (-1)),[.undef]))))))):=by kernel_rfl
def jQ (g0:Bool) (n1:Nat) (c2:List D) (i3:Int):St:=(St.mk [(0,(.sl (some g0) 1 n1 c2)),(3,(.int .i64 i3))] [] [] 0)
theorem It:Told cfg Tryz.prog 136 Tryz.f136:=⟨by kernel_rfl,Tryz.func136,by kernel_rfl⟩
theorem Iu (g0:Bool) (n0:Nat) (c0:List D):aQ pr cv J 136 Tryz.f136 [(.sl (some g0) 1 n0 c0)]=
    (J 0 (jQ g0 n0 c0 0)):=by kernel_rfl
theorem oH (g0:Bool) (n1:Nat) (c2:List D) (i3:Int):bJ pr cv J 136 Tryz.f136 [.undef] 0 (jQ g0 n1 c2 i3)=
    let y1:Option (D × List D):=(some ((.bool false),[.undef]))
    let y2:Option Rz:=(J 0 (jQ g0 n1 c2 (pr.ar .add .i64 i3 1)))
    (br (pr.lt i3 (pr.aS n1)) (br (pr.bD i3 n1) (br (br (pr.cw .i64 c2 (pr.idx 0 i3 1)) true false) (cv 69 [(.int .i64 (pr.bn c2 (pr.idx 0 i3 1))),(.int .i64 0),(.int .i64 7)] (.bool (fun cf=>(.done (br (br cf false true) y1 (br (pr.lt 0 i3) (br (pr.bD (pr.ar .sub .i64 i3 1) n1) (br (br (pr.cw .i64 c2 (pr.idx 0 (pr.ar .sub .i64 i3 1) 1)) true false) (br (pr.bD i3 n1) (br (br (pr.cw .i64 c2 (pr.idx 0 i3 1)) true false) (br (pr.le (pr.bn c2 (pr.idx 0 i3 1)) (pr.bn c2 (pr.idx 0 (pr.ar .sub .i64 i3 1) 1))) y1 y2) none) none) none) none) y2)))))) none) none) (some ((.bool true),[.undef]))):=by kernel_rfl
def jR (g0:Bool) (n1:Nat) (c2:List D) (i3:Int) (i4:Int):St:=(St.mk [(0,(.sl (some g0) 1 n1 c2)),(5,(.sl (some g0) 1 n1 c2)),(6,(.int .i64 i3)),(7,(.int .i64 i4))] [] [] 0)
theorem Iv:Told cfg Tryz.prog 145 Tryz.f145:=⟨by kernel_rfl,Tryz.func145,by kernel_rfl⟩
theorem Iw (g0:Bool) (n0:Nat) (c0:List D):aQ pr cv J 145 Tryz.f145 [(.sl (some g0) 1 n0 c0)]=
    (J 0 (jR g0 n0 c0 (pr.aS n0) 0)):=by kernel_rfl
theorem oI (g0:Bool) (n1:Nat) (c2:List D) (i3:Int) (i4:Int):bJ pr cv J 145 Tryz.f145 [.undef] 0 (jR g0 n1 c2 i3 i4)=
    let y1:Option (D × List D):=(some ((.bool false),[.undef]))
    let y2:Option Rz:=(J 0 (jR g0 n1 c2 i3 (pr.ar .add .i64 i4 1)))
    (br (pr.lt i4 i3) (br (pr.bD i4 n1) (br (br (pr.cw .i64 c2 (pr.idx 0 i4 1)) true false) (cv 77 [(.int .i64 (pr.bn c2 (pr.idx 0 i4 1)))] (.bool (fun cf=>(.done (br (br cf false true) y1 (br (pr.lt 0 i4) (br (pr.bD (pr.ar .sub .i64 i4 1) n1) (br (br (pr.cw .i64 c2 (pr.idx 0 (pr.ar .sub .i64 i4 1) 1)) true false) (br (pr.le (pr.bn c2 (pr.idx 0 i4 1)) (pr.bn c2 (pr.idx 0 (pr.ar .sub .i64 i4 1) 1))) y1 y2) none) none) y2)))))) none) none) (some ((.bool true),[.undef]))):=by kernel_rfl
def kJ (g0:Bool) (n1:Nat) (c2:List D) (i3:Int):St:=(St.mk [(0,(.sl (some g0) 1 n1 c2)),(3,(.int .i64 i3))] [] [] 0)
theorem KW:Told cfg Tryz.prog 137 Tryz.f137:=⟨by kernel_rfl,Tryz.func137,by kernel_rfl⟩
theorem KX (g0:Bool) (n0:Nat) (c0:List D):aQ pr cv J 137 Tryz.f137 [(.sl (some g0) 1 n0 c0)]=
    (J 0 (kJ g0 n0 c0 0)):=by kernel_rfl
theorem pv (g0:Bool) (n1:Nat) (c2:List D) (i3:Int):bJ pr cv J 137 Tryz.f137 [.undef] 0 (kJ g0 n1 c2 i3)=
    let y1:Option (D × List D):=(some ((.bool false),[.undef]))
    (br (pr.lt i3 (pr.aS n1)) (br (pr.bD i3 n1) (br (br (pr.cw .i64 c2 (pr.idx 0 i3 1)) true false) (cv 69 [(.int .i64 (pr.bn c2 (pr.idx 0 i3 1))),(.int .i64 1),(.int .i64 100000)] (.bool (fun cf=>(.done (br (br cf false true) y1 (br (pr.wS 0 i3 n1) (br (pr.bD i3 n1) (br (br (pr.cw .i64 c2 (pr.idx 0 i3 1)) true false) (cv 84 [(.sl (some g0) 1 (pr.tv i3 0) (List.take (Nat.mul (pr.tv i3 0) 1) (List.drop (Nat.mul (pr.js 0) 1) c2))),(.int .i64 (pr.bn c2 (pr.idx 0 i3 1)))] (.bool (fun eN=>(.done (br eN y1 (J 0 (kJ g0 n1 c2 (pr.ar .add .i64 i3 1)))))))) none) none) none)))))) none) none) (some ((.bool (pr.le (pr.aS n1) 12)),[.undef]))):=by kernel_rfl
def kK (g0:Bool) (n1:Nat) (c2:List D) (i3:Int) (i4:Int):St:=(St.mk [(0,(.sl (some g0) 1 n1 c2)),(5,(.sl (some g0) 1 n1 c2)),(6,(.int .i64 i3)),(7,(.int .i64 i4))] [] [] 0)
theorem KY:Told cfg Tryz.prog 142 Tryz.f142:=⟨by kernel_rfl,Tryz.func142,by kernel_rfl⟩
theorem KZ (g0:Bool) (n0:Nat) (c0:List D):aQ pr cv J 142 Tryz.f142 [(.sl (some g0) 1 n0 c0)]=
    (J 0 (kK g0 n0 c0 (pr.aS n0) 0)):=by kernel_rfl
theorem pw (g0:Bool) (n1:Nat) (c2:List D) (i3:Int) (i4:Int):bJ pr cv J 142 Tryz.f142 [.undef] 0 (kK g0 n1 c2 i3 i4)=
    let y1:Option (D × List D):=(some ((.bool false),[.undef]))
    (br (pr.lt i4 i3) (br (pr.bD i4 n1) (br (br (pr.cw .i64 c2 (pr.idx 0 i4 1)) true false) (cv 75 [(.int .i64 (pr.bn c2 (pr.idx 0 i4 1))),(.int .i64 1),(.int .i64 100000)] (.bool (fun cf=>(.done (br (br cf false true) y1 (br (pr.wS 0 i4 n1) (cv 86 [(.sl (some g0) 1 (pr.tv i4 0) (List.take (Nat.mul (pr.tv i4 0) 1) (List.drop (Nat.mul (pr.js 0) 1) c2))),(.int .i64 (pr.bn c2 (pr.idx 0 i4 1)))] (.bool (fun eN=>(.done (br eN y1 (J 0 (kK g0 n1 c2 i3 (pr.ar .add .i64 i4 1)))))))) none)))))) none) none) (some ((.bool (pr.le (pr.aS n1) 12)),[.undef]))):=by kernel_rfl
def jS (g0:Bool) (n1:Nat) (c2:List D) (i3:Int):St:=(St.mk [(0,(.sl (some g0) 1 n1 c2)),(3,(.int .i64 i3))] [] [] 0)
theorem Ix:Told cfg Tryz.prog 99 Tryz.f99:=⟨by kernel_rfl,Tryz.func99,by kernel_rfl⟩
theorem Iy (g0:Bool) (n0:Nat) (c0:List D):aQ pr cv J 99 Tryz.f99 [(.sl (some g0) 1 n0 c0)]=
    (J 0 (jS g0 n0 c0 0)):=by kernel_rfl
theorem oJ (g0:Bool) (n1:Nat) (c2:List D) (i3:Int):bJ pr cv J 99 Tryz.f99 [.undef] 0 (jS g0 n1 c2 i3)=
    (br (pr.lt i3 (pr.aS n1)) (br (pr.bD i3 n1) (br (br (pr.cw .i64 c2 (pr.idx 0 i3 1)) true false) (cv 69 [(.int .i64 (pr.bn c2 (pr.idx 0 i3 1))),(.int .i64 0),(.int .i64 200)] (.bool (fun cf=>(.done (br (br cf false true) (some ((.bool false),[.undef])) (J 0 (jS g0 n1 c2 (pr.ar .add .i64 i3 1)))))))) none) none) (some ((.bool (pr.eq (pr.aS n1) 8)),[.undef]))):=by kernel_rfl
theorem vo:Told cfg Tryz.prog 86 Tryz.f86:=⟨by kernel_rfl,Tryz.func86,by kernel_rfl⟩
theorem vp (g0:Bool) (n0:Nat) (c0:List D) (a1:Int):aQ pr cv J 86 Tryz.f86 [(.sl (some g0) 1 n0 c0),(.int .i64 a1)]=
    (cv 128 [(.sl (some g0) 1 n0 c0),(.int .i64 a1)] (.int (fun dm=>(.done (some ((.bool (pr.le 0 dm)),[.undef,.undef])))))):=by kernel_rfl
def fF (g0:Bool) (n1:Nat) (c2:List D) (i3:Int) (i4:Int) (i5:Int):St:=(St.mk [(0,(.sl (some g0) 1 n1 c2)),(1,(.int .i64 i3)),(7,(.int .i64 i4)),(8,(.int .i64 i5))] [] [] 0)
theorem xI:Told cfg Tryz.prog 128 Tryz.f128:=⟨by kernel_rfl,Tryz.func128,by kernel_rfl⟩
theorem xJ (g0:Bool) (n0:Nat) (c0:List D) (a1:Int):aQ pr cv J 128 Tryz.f128 [(.sl (some g0) 1 n0 c0),(.int .i64 a1)]=
    (J 0 (fF g0 n0 c0 a1 (pr.aS n0) 0)):=by kernel_rfl
theorem jT (g0:Bool) (n1:Nat) (c2:List D) (i3:Int) (i4:Int) (i5:Int):bJ pr cv J 128 Tryz.f128 [.undef,.undef] 0 (fF g0 n1 c2 i3 i4 i5)=
    (br (pr.lt i5 i4) (br (pr.bD i5 n1) (br (br (pr.cw .i64 c2 (pr.idx 0 i5 1)) true false) (br (pr.eq i3 (pr.bn c2 (pr.idx 0 i5 1))) (some ((.int .i64 i5),[.undef,.undef])) (J 0 (fF g0 n1 c2 i3 i4 (pr.ar .add .i64 i5 1)))) none) none) (some ((.int .i64 (-1)),[.undef,.undef]))):=by kernel_rfl
def fG (g0:Bool) (n1:Nat) (c2:List D) (g3:Bool) (n4:Nat) (c5:List D) (i6:Int) (i7:Int):St:=(St.mk [(0,(.sl (some g0) 1 n1 c2)),(1,(.sl (some g3) 1 n4 c5)),(12,(.int .i64 i6)),(13,(.int .i64 i7))] [] [] 0)
theorem pS:Told cfg Tryz.prog 94 Tryz.f94:=⟨by kernel_rfl,Tryz.func94,by kernel_rfl⟩
theorem pT (g0:Bool) (n0:Nat) (c0:List D) (g1:Bool) (n1:Nat) (c1:List D):aQ pr cv J 94 Tryz.f94 [(.sl (some g0) 1 n0 c0),(.sl (some g1) 1 n1 c1)]=
    (br (br (pr.eq (pr.aS n0) (pr.aS n1)) false true) (some ((.bool false),[.undef,.undef])) (J 0 (fG g0 n0 c0 g1 n1 c1 (pr.aS n0) 0))):=by kernel_rfl
theorem jU (g0:Bool) (n1:Nat) (c2:List D) (g3:Bool) (n4:Nat) (c5:List D) (i6:Int) (i7:Int):bJ pr cv J 94 Tryz.f94 [.undef,.undef] 0 (fG g0 n1 c2 g3 n4 c5 i6 i7)=
    (br (pr.lt i7 i6) (br (pr.bD i7 n1) (br (br (pr.cw .i64 c2 (pr.idx 0 i7 1)) true false) (br (pr.bD i7 n4) (br (br (pr.cw .i64 c5 (pr.idx 0 i7 1)) true false) (br (br (pr.eq (pr.bn c2 (pr.idx 0 i7 1)) (pr.bn c5 (pr.idx 0 i7 1))) false true) (some ((.bool false),[.undef,.undef])) (J 0 (fG g0 n1 c2 g3 n4 c5 i6 (pr.ar .add .i64 i7 1)))) none) none) none) none) (some ((.bool true),[.undef,.undef]))):=by kernel_rfl
theorem K0:Told cfg Tryz.prog 160 Tryz.f160:=⟨by kernel_rfl,Tryz.func160,by kernel_rfl⟩
theorem K1 (g0:Bool) (n0:Nat) (c0:List D) (g1:Bool) (n1:Nat) (c1:List D):aQ pr cv J 160 Tryz.f160 [(.sl (some g0) 1 n0 c0),(.sl (some g1) 1 n1 c1)]=
    (br (pr.rL c0) (br (pr.rL c1) (some ((.bool (pr.seq (pr.An c0) (pr.An c1))),[.undef,.undef])) none) none):=by kernel_rfl
theorem D4:Told cfg Tryz.prog 141 Tryz.f141:=⟨by kernel_rfl,Tryz.func141,by kernel_rfl⟩
theorem D5 (a0:Int):aQ pr cv J 141 Tryz.f141 [(.int .i64 a0)]=
    (cv 75 [(.int .i64 a0),(.int .i64 0),(.int .i64 200)] (.bool (fun cf=>(.done (some ((.bool (br cf false true)),[.undef])))))):=by kernel_rfl
theorem Co:Told cfg Tryz.prog 144 Tryz.f144:=⟨by kernel_rfl,Tryz.func144,by kernel_rfl⟩
theorem Cp (g0:Bool) (n0:Nat) (c0:List D):aQ pr cv J 144 Tryz.f144 [(.sl (some g0) 1 n0 c0)]=
    (cv 145 [(.sl (some g0) 1 n0 c0)] (.bool (fun cf=>(.done (some ((.bool (br cf false true)),[.undef])))))):=by kernel_rfl
theorem Gx:Told cfg Tryz.prog 112 Tryz.f112:=⟨by kernel_rfl,Tryz.func112,by kernel_rfl⟩
theorem Gy (g0:Bool) (n0:Nat) (c0:List D):aQ pr cv J 112 Tryz.f112 [(.sl (some g0) 1 n0 c0)]=
    (br (pr.eq (pr.aS n0) 3) (cv 143 [(.sl (some g0) 1 n0 c0),(.fn 144 [])] (.bool (fun cf=>(.done (some ((.bool (br cf false true)),[.undef])))))) (some ((.bool false),[.undef]))):=by kernel_rfl
theorem Iz:Told cfg Tryz.prog 110 Tryz.f110:=⟨by kernel_rfl,Tryz.func110,by kernel_rfl⟩
theorem IA (g0:Bool) (n0:Nat) (c0:List D):aQ pr cv J 110 Tryz.f110 [(.sl (some g0) 1 n0 c0)]=
    (br (pr.eq (pr.aS n0) 8) (cv 124 [(.sl (some g0) 1 n0 c0),(.fn 141 [])] (.bool (fun cf=>(.done (some ((.bool (br cf false true)),[.undef])))))) (some ((.bool false),[.undef]))):=by kernel_rfl
theorem o3:Told cfg Tryz.prog 124 Tryz.f124:=⟨by kernel_rfl,Tryz.func124,by kernel_rfl⟩
theorem o4 (g0:Bool) (n0:Nat) (c0:List D):aQ pr cv J 124 Tryz.f124 [(.sl (some g0) 1 n0 c0),(.fn 141 [])]=
    (cv 150 [(.sl (some g0) 1 n0 c0),(.fn 141 [])] (.int (fun dm=>(.done (some ((.bool (pr.le 0 dm)),[.undef,.undef])))))):=by kernel_rfl
def dX (g0:Bool) (n1:Nat) (c2:List D) (i3:Int) (i4:Int):St:=(St.mk [(0,(.sl (some g0) 1 n1 c2)),(1,(.fn 141 [])),(7,(.int .i64 i3)),(8,(.int .i64 i4))] [] [] 0)
theorem qH:Told cfg Tryz.prog 150 Tryz.f150:=⟨by kernel_rfl,Tryz.func150,by kernel_rfl⟩
theorem qI (g0:Bool) (n0:Nat) (c0:List D):aQ pr cv J 150 Tryz.f150 [(.sl (some g0) 1 n0 c0),(.fn 141 [])]=
    (J 0 (dX g0 n0 c0 (pr.aS n0) 0)):=by kernel_rfl
theorem fV (g0:Bool) (n1:Nat) (c2:List D) (i3:Int) (i4:Int):bJ pr cv J 150 Tryz.f150 [.undef,.undef] 0 (dX g0 n1 c2 i3 i4)=
    (br (pr.lt i4 i3) (br (pr.bD i4 n1) (br (br (pr.cw .i64 c2 (pr.idx 0 i4 1)) true false) (cv 141 [(.int .i64 (pr.bn c2 (pr.idx 0 i4 1)))] (.bool (fun cf=>(.done (br cf (some ((.int .i64 i4),[.undef,.undef])) (J 0 (dX g0 n1 c2 i3 (pr.ar .add .i64 i4 1)))))))) none) none) (some ((.int .i64 (-1)),[.undef,.undef]))):=by kernel_rfl
theorem o5:Told cfg Tryz.prog 143 Tryz.f143:=⟨by kernel_rfl,Tryz.func143,by kernel_rfl⟩
theorem o6 (g0:Bool) (n0:Nat) (c0:List D):aQ pr cv J 143 Tryz.f143 [(.sl (some g0) 1 n0 c0),(.fn 144 [])]=
    (cv 153 [(.sl (some g0) 1 n0 c0),(.fn 144 [])] (.int (fun dm=>(.done (some ((.bool (pr.le 0 dm)),[.undef,.undef])))))):=by kernel_rfl
def dY (g0:Bool) (n1:Nat) (c2:List D) (i3:Int) (i4:Int):St:=(St.mk [(0,(.sl (some g0) 1 n1 c2)),(1,(.fn 144 [])),(7,(.int .i64 i3)),(8,(.int .i64 i4))] [] [] 0)
theorem qJ:Told cfg Tryz.prog 153 Tryz.f153:=⟨by kernel_rfl,Tryz.func153,by kernel_rfl⟩
theorem qK (g0:Bool) (n0:Nat) (c0:List D):aQ pr cv J 153 Tryz.f153 [(.sl (some g0) 1 n0 c0),(.fn 144 [])]=
    (J 0 (dY g0 n0 c0 (pr.aS n0) 0)):=by kernel_rfl
theorem fW (g0:Bool) (n1:Nat) (c2:List D) (i3:Int) (i4:Int):bJ pr cv J 153 Tryz.f153 [.undef,.undef] 0 (dY g0 n1 c2 i3 i4)=
    (br (pr.lt i4 i3) (br (pr.bD i4 n1) (br (br (pr.bU 1 c2 (pr.idx 0 i4 1)) true false) (cv 144 [(.sl (some (pr.bo c2 (pr.idx 0 i4 1))) 1 (pr.aR c2 (pr.idx 0 i4 1)) (pr.aV c2 (pr.idx 0 i4 1)))] (.bool (fun cf=>(.done (br cf (some ((.int .i64 i4),[.undef,.undef])) (J 0 (dY g0 n1 c2 i3 (pr.ar .add .i64 i4 1)))))))) none) none) (some ((.int .i64 (-1)),[.undef,.undef]))):=by kernel_rfl
end
theorem WP.scan {f:FuncId} {fn:Func} {sk:List D} {j:Nat} {H:Nat→St} {n:Nat} (p:Nat→Bool) {bad yC:Rz} (Ff:∀ i r,i < n→p i=true→WP f fn sk j (H (i+1)) r→WP f fn sk j (H i) r) (W8:∀ i,i < n→p i=false→WP f fn sk j (H i) bad) (W9:WP f fn sk j (H n) yC):WP f fn sk j (H 0) (if (List.range n).all p then yC else bad):=by
  have key:∀ k i,i+k=n→WP f fn sk j (H i) (if ((List.range n).drop i).all p then yC else bad):=by
    intro k
    induction k with
    | zero=>
      intro i hi
      obtain rfl:i=n:=by omega
      rw [List.drop_of_length_le (by simp)]
      exact W9
    | succ k ih=>
      intro i hi
      have cT:i < (List.range n).length:=by simp; omega
      have e:((List.range n).drop i).all p=(p i&&((List.range n).drop (i+1)).all p):=by
        rw [← List.getElem_cons_drop cT]
        simp
      rw [e]
      cases hp:p i with
      | true=>
        rw [Bool.true_and]
        exact Ff i _ (by omega) hp (ih (i+1) (by omega))
      | false=>
        rw [Bool.false_and]
        exact W8 i (by omega) hp
  exact key n 0 (by omega)
theorem bQ {α:Type} {l:List α} {i:Nat} (h:i < l.length) {d:α}:l.getD i d=l[i]:=by simp [List.getD_eq_getElem?_getD,h]
theorem Xa {α:Type} (p:α→Bool) (d:α) (xs:List α):((List.range xs.length).all fun i=>p (xs.getD i d))=xs.all p:=by
  rw [Bool.eq_iff_iff,List.all_eq_true,List.all_eq_true]
  constructor
  · intro h x hx
    obtain ⟨i,hi,rfl⟩:=List.mem_iff_getElem.1 hx
    have:=h i (List.mem_range.2 hi)
    rwa [bQ hi] at this
  · intro h i hi
    rw [bQ (List.mem_range.1 hi)]
    exact h _ (List.getElem_mem _)
def Rz.bool (b:Bool) (k:Nat):Rz:=(.bool b,List.replicate k .undef)
theorem QP (g:Bool) (xs:List Int) (a:Int) (hb:xs.length < 4611686018427387904):Cm 84 [.sl (some g) 1 xs.length (ints xs),.int .i64 a] (.bool (decide (a∈xs)),[.undef,.undef]):=by
  have e0:(Rz.bool (decide (a∈xs)) 2)=(if (List.range xs.length).all fun i=>!(xs.getD i 0==a) then Rz.bool false 2 else Rz.bool true 2):=by
    rw [Xa (fun x=>!(x==a))]
    by_cases h:a∈xs
    · have:(xs.all fun x=>!(x==a))=false:=by
        rw [List.all_eq_false]
        exact ⟨a,h,by simp⟩
      simp [this,h]
    · have:(xs.all fun x=>!(x==a))=true:=by
        rw [List.all_eq_true]
        intro x hx
        have:x≠a:=fun e=>h (e▸hx)
        simp [this]
      simp [this,h]
  show Cm _ _ (Rz.bool (decide (a∈xs)) 2)
  rw [e0]
  refine Cm.go Oh [.undef,.undef] 0 (lW g xs.length (ints xs) a (0:Nat)) ?_ fun J hJ=>?_
  · refine WP.scan (H:=fun i:Nat=>lW g xs.length (ints xs) a (i:Nat)) _ (fun i r hi hp ih=>WP.go _ ih fun J hJ=>?_) (fun i hi hp=>WP.fin fun J=>?_) (WP.fin fun J=>?_)
    · rw [qG]
      rw [bQ hi] at hp
      have cZ:xs[i]≠a:=by simpa using hp
      simp (disch:=first | omega | assumption) only [aH,bc,bl,aA,aU,bq,cQ,dH,dI,ec,db]
      exact hJ
    · rw [qG]
      rw [bQ hi] at hp
      have he:xs[i]=a:=by simpa using hp
      simp (disch:=first | omega | assumption) only [aH,bc,bl,aA,aU,bq,cQ,dH,dI,fQ]
      rfl
    · rw [qG]
      simp (disch:=omega) only [aA,bm]
      rfl
  · rw [Oi]
    exact hJ
def IB (xs:List Int) (a:Int):Int:=if a∈xs then (xs.idxOf a:Int) else -1
theorem ZW (g:Bool) (xs:List Int) (a:Int) (hb:xs.length < 4611686018427387904):Cm 128 [.sl (some g) 1 xs.length (ints xs),.int .i64 a] (.int .i64 (IB xs a),[.undef,.undef]):=by
  refine Cm.go xI [.undef,.undef] 0 (fF g xs.length (ints xs) a xs.length (0:Nat)) ?_ fun J hJ=>?_
  · refine WP.loop (H:=fun i:Nat=>fF g xs.length (ints xs) a xs.length (i:Nat)) (n:=xs.length) (fun i=>a∉xs.take i) (fun i hi hv ih=>?_) (fun hv=>WP.fin fun J=>?_) 0 (Nat.zero_le _) (by simp)
    · by_cases he:a=xs[i]
      · refine WP.fin fun J=>?_
        rw [jT]
        have hm:a∈xs:=he▸List.getElem_mem hi
        have hix:xs.idxOf a=i:=by
          have e1:xs=xs.take i++xs[i]::xs.drop (i+1):=by rw [List.getElem_cons_drop hi,List.take_append_drop]
          rw [e1,List.idxOf_append,if_neg hv,he,List.idxOf_cons_self,List.length_take]
          omega
        unfold IB
        rw [if_pos hm,hix]
        simp (disch:=first | omega | assumption) only [aH,bc,bl,aU,bq,cQ,dH,dI,fQ]
      · refine WP.go _ (ih (by
          rw [← List.take_append_getElem hi]
          simp only [List.mem_append,List.mem_singleton,not_or]
          exact ⟨hv,he⟩)) fun J hJ=>?_
        rw [jT]
        simp (disch:=first | omega | assumption) only [aH,bc,bl,aU,bq,cQ,dH,dI,ec,db]
        exact hJ
    · rw [jT]
      rw [List.take_length] at hv
      unfold IB
      rw [if_neg hv]
      simp (disch:=omega) only [bm]
  · rw [xJ]
    exact hJ
theorem Gz (g:Bool) (xs:List Int) (a:Int) (hb:xs.length < 4611686018427387904):Cm 86 [.sl (some g) 1 xs.length (ints xs),.int .i64 a] (.bool (decide (a∈xs)),[.undef,.undef]):=by
  refine Cm.fin vo fun J=>?_
  rw [vp]
  have:=aT (ZW g xs a hb) (by kernel_rfl)
  simp only [this,ao,yD]
  have e:decide (0≤IB xs a)=decide (a∈xs):=by
    unfold IB
    by_cases h:a∈xs<;>simp [h]
  show some (D.bool (decide (0≤IB xs a)),_)=_
  rw [e]
section
variable (t:bG Rz)
theorem QQ (g:Bool) (xs:List Int) (a:Int) (n:Nat) (hn:n=xs.length) (hb:xs.length < 4611686018427387904):aO 84 [.sl (some g) 1 n (ints xs),.int .i64 a] t=feed t [.bool (decide (a∈xs))]:=by subst hn; exact aT (QP g xs a hb) (by kernel_rfl) t
theorem GA (g:Bool) (xs:List Int) (a:Int) (n:Nat) (hn:n=xs.length) (hb:xs.length < 4611686018427387904):aO 86 [.sl (some g) 1 n (ints xs),.int .i64 a] t=feed t [.bool (decide (a∈xs))]:=by subst hn; exact aT (Gz g xs a hb) (by kernel_rfl) t
end
theorem Xb (a:Int):Cm 76 [.int .i64 a] (.bool (decide (0≤a∧a≤2)),[.undef]):=by
  refine Cm.fin KS fun J=>?_
  rw [KT]
  simp only [iu,aF,ao]
theorem Ol (a:Int):Cm 77 [.int .i64 a] (.bool (decide (0≤a∧a≤7)),[.undef]):=by
  refine Cm.fin KU fun J=>?_
  rw [KV]
  simp only [iu,aF,ao]
theorem Va (a:Int):Cm 115 [.int .i64 a] (.bool (decide (1≤a∧a≤200)),[.undef]):=by
  refine Cm.fin Ir fun J=>?_
  rw [Is]
  simp only [iu,aF,ao]
def ly (a:Int):Int:=if a=0∨a=1 then 1 - a else -1
theorem Py (a:Int):Cm 149 [.int .i64 a] (.int .i64 (ly a),[.undef]):=by
  refine Cm.fin Pu fun J=>?_
  rw [Pv]
  unfold ly
  by_cases h0:a=0
  · subst h0; rfl
  · by_cases h1:a=1
    · subst h1; rfl
    · rw [if_neg (by omega)]
      simp (disch:=omega) only [ec]
section
variable (t:bG Rz)
theorem yI (a:Int):aO 77 [.int .i64 a] t=feed t [.bool (decide (0≤a∧a≤7))]:=aT (Ol a) (by kernel_rfl) t
end
theorem Pz (a:Int):Cm 148 [.int .i64 a] (.int .i64 (ly a),[.undef]):=by
  refine Cm.fin Pw fun J=>?_
  rw [Px]
  simp only [kD,aF,ao]
  unfold ly
  by_cases h0:a=0
  · subst h0; rfl
  · by_cases h1:a=1
    · subst h1; rfl
    · rw [if_neg (by omega),decide_eq_false (by omega)]
      rfl
def vq (xs:List Int) (i:Nat):Bool:=decide (0≤xs.getD i 0∧xs.getD i 0≤7)&&(decide (i=0)||decide (xs.getD (i - 1) 0 < xs.getD i 0))
def fM (xs:List Int):Bool:=(List.range xs.length).all (vq xs)
theorem xK {b:Bool} {outs:List D}:(if b=true then ((D.bool true,outs):Rz) else (D.bool false,outs))=(D.bool b,outs):=by cases b<;>rfl
theorem xL (g:Bool) (xs:List Int) (hb:xs.length < 4611686018427387904):Cm 136 [.sl (some g) 1 xs.length (ints xs)] (.bool (fM xs),[.undef]):=by
  rw [← xK]
  refine Cm.go It [.undef] 0 (jQ g xs.length (ints xs) (0:Nat)) ?_ fun J hJ=>?_
  · refine WP.scan (H:=fun i:Nat=>jQ g xs.length (ints xs) (i:Nat)) (vq xs) (fun i r hi hp ih=>WP.go _ ih fun J hJ=>?_) (fun i hi hp=>WP.fin fun J=>?_) (WP.fin fun J=>?_)
    · rw [oH]
      unfold vq at hp
      rw [bQ hi] at hp
      simp only [Bool.and_eq_true,decide_eq_true_eq,Bool.or_eq_true] at hp
      by_cases h0:i=0
      · subst h0
        simp (disch:=first | omega | assumption) only [aH,bc,bl,bI,bW,aA,aU,bm,bq,cQ,dH,dI,kD,aF,ao,decide_eq_true hp.1,db]
        exact hJ
      · obtain ⟨k,rfl⟩:∃ k,i=k+1:=⟨i - 1,by omega⟩
        have hk:k < xs.length:=by omega
        have e1:((k+1:Nat):Int) - 1=(k:Int):=by omega
        have Qg:xs[k] < xs[k+1]:=by
          have:=hp.2.resolve_left h0
          rwa [Nat.add_sub_cancel,bQ hk] at this
        simp (disch:=first | omega | assumption) only [aH,bc,bl,bI,bW,aA,aU,bq,cQ,dH,dI,kD,aF,ao,decide_eq_true hp.1,ir,e1,oW,db]
        exact hJ
    · rw [oH]
      unfold vq at hp
      rw [bQ hi] at hp
      by_cases hc:0≤xs[i]∧xs[i]≤7
      · rw [decide_eq_true hc,Bool.true_and,Bool.or_eq_false_iff,decide_eq_false_iff_not,decide_eq_false_iff_not] at hp
        obtain ⟨k,rfl⟩:∃ k,i=k+1:=⟨i - 1,by omega⟩
        have hk:k < xs.length:=by omega
        have e1:((k+1:Nat):Int) - 1=(k:Int):=by omega
        have Qg:xs[k+1]≤xs[k]:=by
          have:=hp.2
          rw [Nat.add_sub_cancel,bQ hk] at this
          omega
        simp (disch:=first | omega | assumption) only [aH,bc,bl,bI,bW,aA,aU,bq,cQ,dH,dI,kD,aF,ao,decide_eq_true hc,ir,e1,Ce]
      · simp (disch:=first | omega | assumption) only [aH,bc,bl,bI,bW,aA,aU,bq,cQ,dH,dI,kD,aF,ao,decide_eq_false hc]
    · rw [oH]
      simp (disch:=omega) only [aA,bm]
  · rw [Iu]
    exact hJ
theorem xM (g:Bool) (xs:List Int) (hb:xs.length < 4611686018427387904):Cm 145 [.sl (some g) 1 xs.length (ints xs)] (.bool (fM xs),[.undef]):=by
  rw [← xK]
  refine Cm.go Iv [.undef] 0 (jR g xs.length (ints xs) xs.length (0:Nat)) ?_ fun J hJ=>?_
  · refine WP.scan (H:=fun i:Nat=>jR g xs.length (ints xs) xs.length (i:Nat)) (vq xs) (fun i r hi hp ih=>WP.go _ ih fun J hJ=>?_) (fun i hi hp=>WP.fin fun J=>?_) (WP.fin fun J=>?_)
    · rw [oI]
      unfold vq at hp
      rw [bQ hi] at hp
      simp only [Bool.and_eq_true,decide_eq_true_eq,Bool.or_eq_true] at hp
      by_cases h0:i=0
      · subst h0
        simp (disch:=first | omega | assumption) only [aH,bc,bl,bI,bW,aA,aU,bm,bq,cQ,dH,dI,yI,aF,ao,decide_eq_true hp.1,db]
        exact hJ
      · obtain ⟨k,rfl⟩:∃ k,i=k+1:=⟨i - 1,by omega⟩
        have hk:k < xs.length:=by omega
        have e1:((k+1:Nat):Int) - 1=(k:Int):=by omega
        have Qg:xs[k] < xs[k+1]:=by
          have:=hp.2.resolve_left h0
          rwa [Nat.add_sub_cancel,bQ hk] at this
        simp (disch:=first | omega | assumption) only [aH,bc,bl,bI,bW,aA,aU,bq,cQ,dH,dI,yI,aF,ao,decide_eq_true hp.1,ir,e1,oW,db]
        exact hJ
    · rw [oI]
      unfold vq at hp
      rw [bQ hi] at hp
      by_cases hc:0≤xs[i]∧xs[i]≤7
      · rw [decide_eq_true hc,Bool.true_and,Bool.or_eq_false_iff,decide_eq_false_iff_not,decide_eq_false_iff_not] at hp
        obtain ⟨k,rfl⟩:∃ k,i=k+1:=⟨i - 1,by omega⟩
        have hk:k < xs.length:=by omega
        have e1:((k+1:Nat):Int) - 1=(k:Int):=by omega
        have Qg:xs[k+1]≤xs[k]:=by
          have:=hp.2
          rw [Nat.add_sub_cancel,bQ hk] at this
          omega
        simp (disch:=first | omega | assumption) only [aH,bc,bl,bI,bW,aA,aU,bq,cQ,dH,dI,yI,aF,ao,decide_eq_true hc,ir,e1,Ce]
      · simp (disch:=first | omega | assumption) only [aH,bc,bl,bI,bW,aA,aU,bq,cQ,dH,dI,yI,aF,ao,decide_eq_false hc]
    · rw [oI]
      simp (disch:=omega) only [bm]
  · rw [Iw]
    exact hJ
end Go.Proofs.YtockoilcnmljiaaGreat
namespace Go.Proofs.YtockoilcnmljiaaGreat
set_option maxRecDepth 100000
section
variable (pr:dT) (cv:Cv Rz) (J:Nat→St→Option Rz)
def kL (i0:Int) (g1:Bool) (n2:Nat) (c3:List D) (g4:Bool) (n5:Nat) (c6:List D) (b7:Bool) (b8:Bool) (b9:Bool) (i10:Int):St:=(St.mk [(1,(.ptr 1 [] 0)),(3,(.int .i64 i0))] [(1,[(.sl (some g1) 1 n2 c3),(.sl (some g4) 1 n5 c6),(.bool b7),(.bool b8),(.bool b9),(.int .i64 i10)])] [] 0)
theorem K2:Told cfg Tryz.prog 100 Tryz.f100:=⟨by kernel_rfl,Tryz.func100,by kernel_rfl⟩
theorem K3 (g0:Bool) (n0:Nat) (c0:List D) (g1:Bool) (n1:Nat) (c1:List D) (a2:Bool) (a3:Bool) (a4:Bool) (a5:Int):aQ pr cv J 100 Tryz.f100 [(.agg [(.sl (some g0) 1 n0 c0),(.sl (some g1) 1 n1 c1),(.bool a2),(.bool a3),(.bool a4),(.int .i64 a5)])]=
    (J 0 (kL 0 g0 n0 c0 g1 n1 c1 a2 a3 a4 a5)):=by kernel_rfl
theorem px (i0:Int) (g1:Bool) (n2:Nat) (c3:List D) (g4:Bool) (n5:Nat) (c6:List D) (b7:Bool) (b8:Bool) (b9:Bool) (i10:Int):bJ pr cv J 100 Tryz.f100 [.undef] 0 (kL i0 g1 n2 c3 g4 n5 c6 b7 b8 b9 i10)=
    let y1:Option (D × List D):=(some ((.bool false),[.undef]))
    (br (pr.lt i0 (pr.aS n5)) (br (pr.bD i0 n5) (br (br (pr.bU 1 c6 (pr.idx 0 i0 1)) true false) (cv 136 [(.sl (some (pr.bo c6 (pr.idx 0 i0 1))) 1 (pr.aR c6 (pr.idx 0 i0 1)) (pr.aV c6 (pr.idx 0 i0 1)))] (.bool (fun cf=>(.done (br (br cf false true) y1 (J 0 (kL (pr.ar .add .i64 i0 1) g1 n2 c3 g4 n5 c6 b7 b8 b9 i10))))))) none) none) (cv 137 [(.sl (some g1) 1 n2 c3)] (.bool (fun eN=>(.done (br eN (br (pr.lt 0 (pr.aS n2)) (br (pr.eq (pr.aS n5) 3) (cv 69 [(.int .i64 i10),(.int .i64 0),(.int .i64 200)] (.bool (fun iq=>(.done (br iq (br b8 (some ((.bool (br b9 false true)),[.undef])) (some ((.bool true),[.undef]))) y1))))) y1) y1) y1)))))):=by kernel_rfl
theorem K4:Told cfg Tryz.prog 111 Tryz.f111:=⟨by kernel_rfl,Tryz.func111,by kernel_rfl⟩
theorem K5 (g0:Bool) (n0:Nat) (c0:List D) (g1:Bool) (n1:Nat) (c1:List D) (a2:Bool) (a3:Bool) (a4:Bool) (a5:Int):aQ pr cv J 111 Tryz.f111 [(.agg [(.sl (some g0) 1 n0 c0),(.sl (some g1) 1 n1 c1),(.bool a2),(.bool a3),(.bool a4),(.int .i64 a5)])]=
    let y1:Option (D × List D):=(some ((.bool false),[.undef]))
    (cv 142 [(.sl (some g0) 1 n0 c0)] (.bool (fun cf=>(.done (br cf (br (pr.lt 0 (pr.aS n0)) (cv 112 [(.sl (some g1) 1 n1 c1)] (.bool (fun eN=>(.done (br eN (cv 75 [(.int .i64 a5),(.int .i64 0),(.int .i64 200)] (.bool (fun iq=>(.done (br iq (br a3 (some ((.bool (br a4 false true)),[.undef])) (some ((.bool true),[.undef]))) y1))))) y1))))) y1) y1))))):=by kernel_rfl
def jb (i0:Int) (g1:Bool) (n2:Nat) (c3:List D) (g4:Bool) (n5:Nat) (c6:List D) (b7:Bool) (b8:Bool) (b9:Bool) (i10:Int) (g11:Bool) (fE:Nat) (gg:List D) (g14:Bool) (wa:Nat) (J2:List D) (qL:Bool) (YJ:Bool) (YK:Bool) (i20:Int):St:=(St.mk [(2,(.ptr 2 [] 0)),(3,(.ptr 3 [] 0)),(5,(.int .i64 i0))] [(2,[(.sl (some g1) 1 n2 c3),(.sl (some g4) 1 n5 c6),(.bool b7),(.bool b8),(.bool b9),(.int .i64 i10)]),(3,[(.sl (some g11) 1 fE gg),(.sl (some g14) 1 wa J2),(.bool qL),(.bool YJ),(.bool YK),(.int .i64 i20)])] [] 0)
theorem wc:Told cfg Tryz.prog 103 Tryz.f103:=⟨by kernel_rfl,Tryz.func103,by kernel_rfl⟩
theorem we (g0:Bool) (n0:Nat) (c0:List D) (g1:Bool) (n1:Nat) (c1:List D) (a2:Bool) (a3:Bool) (a4:Bool) (a5:Int) (g6:Bool) (n6:Nat) (c6:List D) (g7:Bool) (n7:Nat) (c7:List D) (a8:Bool) (a9:Bool) (a10:Bool) (a11:Int):aQ pr cv J 103 Tryz.f103 [(.agg [(.sl (some g0) 1 n0 c0),(.sl (some g1) 1 n1 c1),(.bool a2),(.bool a3),(.bool a4),(.int .i64 a5)]),(.agg [(.sl (some g6) 1 n6 c6),(.sl (some g7) 1 n7 c7),(.bool a8),(.bool a9),(.bool a10),(.int .i64 a11)])]=
    let y1:Option (D × List D):=(some ((.bool false),[.undef,.undef]))
    (br (br (pr.eq (pr.aS n1) (pr.aS n7)) false true) y1 (cv 90 [(.sl (some g0) 1 n0 c0),(.sl (some g6) 1 n6 c6)] (.bool (fun cf=>(.done (br (br cf false true) y1 (br (br (pr.beq a2 a8) false true) y1 (br (br (pr.beq a3 a9) false true) y1 (br (br (pr.beq a4 a10) false true) y1 (br (br (pr.eq a5 a11) false true) y1 (J 0 (jb 0 g0 n0 c0 g1 n1 c1 a2 a3 a4 a5 g6 n6 c6 g7 n7 c7 a8 a9 a10 a11)))))))))))):=by kernel_rfl
theorem nO (i0:Int) (g1:Bool) (n2:Nat) (c3:List D) (g4:Bool) (n5:Nat) (c6:List D) (b7:Bool) (b8:Bool) (b9:Bool) (i10:Int) (g11:Bool) (fE:Nat) (gg:List D) (g14:Bool) (wa:Nat) (J2:List D) (qL:Bool) (YJ:Bool) (YK:Bool) (i20:Int):bJ pr cv J 103 Tryz.f103 [.undef,.undef] 0 (jb i0 g1 n2 c3 g4 n5 c6 b7 b8 b9 i10 g11 fE gg g14 wa J2 qL YJ YK i20)=
    (br (pr.lt i0 (pr.aS n5)) (br (pr.bD i0 n5) (br (br (pr.bU 1 c6 (pr.idx 0 i0 1)) true false) (br (pr.bD i0 wa) (br (br (pr.bU 1 J2 (pr.idx 0 i0 1)) true false) (cv 90 [(.sl (some (pr.bo c6 (pr.idx 0 i0 1))) 1 (pr.aR c6 (pr.idx 0 i0 1)) (pr.aV c6 (pr.idx 0 i0 1))),(.sl (some (pr.bo J2 (pr.idx 0 i0 1))) 1 (pr.aR J2 (pr.idx 0 i0 1)) (pr.aV J2 (pr.idx 0 i0 1)))] (.bool (fun cf=>(.done (br (br cf false true) (some ((.bool false),[.undef,.undef])) (J 0 (jb (pr.ar .add .i64 i0 1) g1 n2 c3 g4 n5 c6 b7 b8 b9 i10 g11 fE gg g14 wa J2 qL YJ YK i20))))))) none) none) none) none) (some ((.bool true),[.undef,.undef]))):=by kernel_rfl
theorem GB:Told cfg Tryz.prog 114 Tryz.f114:=⟨by kernel_rfl,Tryz.func114,by kernel_rfl⟩
theorem GC (g0:Bool) (n0:Nat) (c0:List D) (g1:Bool) (n1:Nat) (c1:List D) (a2:Bool) (a3:Bool) (a4:Bool) (a5:Int) (g6:Bool) (n6:Nat) (c6:List D) (g7:Bool) (n7:Nat) (c7:List D) (a8:Bool) (a9:Bool) (a10:Bool) (a11:Int):aQ pr cv J 114 Tryz.f114 [(.agg [(.sl (some g0) 1 n0 c0),(.sl (some g1) 1 n1 c1),(.bool a2),(.bool a3),(.bool a4),(.int .i64 a5)]),(.agg [(.sl (some g6) 1 n6 c6),(.sl (some g7) 1 n7 c7),(.bool a8),(.bool a9),(.bool a10),(.int .i64 a11)])]=
    let y1:Option (D × List D):=(some ((.bool false),[.undef,.undef]))
    (cv 94 [(.sl (some g0) 1 n0 c0),(.sl (some g6) 1 n6 c6)] (.bool (fun cf=>(.done (br cf (cv 147 [(.sl (some g1) 1 n1 c1),(.sl (some g7) 1 n7 c7),(.fn 94 [])] (.bool (fun eN=>(.done (br eN (br (pr.beq a2 a8) (br (pr.beq a3 a9) (br (pr.beq a4 a10) (some ((.bool (pr.eq a5 a11)),[.undef,.undef])) y1) y1) y1) y1))))) y1))))):=by kernel_rfl
end
theorem WP.find {f:FuncId} {fn:Func} {sk:List D} {j:Nat} {H:Nat→St} {n:Nat} (p:Nat→Bool) {bad:Nat→Rz} {yC:Rz} (Ff:∀ i r,i < n→p i=false→WP f fn sk j (H (i+1)) r→WP f fn sk j (H i) r) (W8:∀ i,i < n→p i=true→WP f fn sk j (H i) (bad i)) (W9:WP f fn sk j (H n) yC):WP f fn sk j (H 0) (match (List.range n).find? p with | some i=>bad i | none=>yC):=by
  have key:∀ k i,i+k=n→WP f fn sk j (H i) (match ((List.range n).drop i).find? p with | some i=>bad i | none=>yC):=by
    intro k
    induction k with
    | zero=>
      intro i hi
      obtain rfl:i=n:=by omega
      rw [List.drop_of_length_le (by simp)]
      exact W9
    | succ k ih=>
      intro i hi
      have cT:i < (List.range n).length:=by simp; omega
      rw [← List.getElem_cons_drop cT,List.getElem_range,List.find?_cons]
      cases hp:p i with
      | false=>exact Ff i _ (by omega) hp (ih (i+1) (by omega))
      | true=>exact W8 i (by omega) hp
  exact key n 0 (by omega)
theorem Xc {n:Nat} (p:Nat→Bool) (k:Nat→Int) (hk:∀ i,0≤k i):decide (0≤(match (List.range n).find? p with | some i=>k i | none=>-1))=!((List.range n).all fun i=>!p i):=by
  cases h:(List.range n).find? p with
  | none=>
    rw [List.find?_eq_none] at h
    have:((List.range n).all fun i=>!p i)=true:=by
      rw [List.all_eq_true]
      intro x hx
      simpa using h x hx
    rw [this]
    rfl
  | some i=>
    have h1:=List.mem_of_find?_eq_some h
    have h2:=List.find?_some h
    have:((List.range n).all fun i=>!p i)=false:=by
      rw [List.all_eq_false]
      exact ⟨i,h1,by simp [h2]⟩
    rw [this]
    simp [hk i]
theorem Bf {a b:Bool} {outs:List D}:(if a=true then ((D.bool b,outs):Rz) else (D.bool false,outs))=(D.bool (a&&b),outs):=by cases a<;>rfl
theorem Ch (n:Nat):ad.tv (n:Int) 0=n:=by simp [ad]
theorem GD:ad.js 0=0:=rfl
theorem GF (n:Nat):Nat.mul n 1=n:=Nat.mul_one n
theorem GG (n:Nat):Nat.mul 0 n=0:=Nat.zero_mul n
theorem tb (xs:List Int) (i:Nat):List.take i (ints xs)=ints (xs.take i):=by simp [ints,List.map_take]
def yJ (xs:List Int) (i:Nat):Bool:=decide (1≤xs.getD i 0∧xs.getD i 0≤100000)&&!decide (xs.getD i 0∈xs.take i)
def jx (xs:List Int):Bool:=(List.range xs.length).all (yJ xs)&&decide ((xs.length:Int)≤12)
theorem zc (g:Bool) (xs:List Int) (hb:xs.length < 4611686018427387904):Cm 137 [.sl (some g) 1 xs.length (ints xs)] (.bool (jx xs),[.undef]):=by
  unfold jx
  rw [← Bf]
  refine Cm.go KW [.undef] 0 (kJ g xs.length (ints xs) (0:Nat)) ?_ fun J hJ=>?_
  · refine WP.scan (H:=fun i:Nat=>kJ g xs.length (ints xs) (i:Nat)) (yJ xs) (fun i r hi hp ih=>WP.go _ ih fun J hJ=>?_) (fun i hi hp=>WP.fin fun J=>?_) (WP.fin fun J=>?_)
    · rw [pv]
      unfold yJ at hp
      rw [bQ hi,Bool.and_eq_true,decide_eq_true_eq,Bool.not_eq_true',decide_eq_false_iff_not] at hp
      simp (disch:=first | omega | assumption | (simp; omega)) only [aH,bc,bl,bI,bW,aA,aU,FJ,bq,cQ,dH,dI,kD,aF,ao,decide_eq_true hp.1,Ch,GD,GF,GG,List.drop_zero,tb,QQ,decide_eq_false hp.2,db]
      exact hJ
    · rw [pv]
      unfold yJ at hp
      rw [bQ hi] at hp
      by_cases hc:1≤xs[i]∧xs[i]≤100000
      · rw [decide_eq_true hc,Bool.true_and,Bool.not_eq_false',decide_eq_true_eq] at hp
        simp (disch:=first | omega | assumption | (simp; omega)) only [aH,bc,bl,bI,bW,aA,aU,FJ,bq,cQ,dH,dI,kD,aF,ao,decide_eq_true hc,Ch,GD,GF,GG,List.drop_zero,tb,QQ,decide_eq_true hp]
      · simp (disch:=first | omega | assumption) only [aH,bc,bl,bI,bW,aA,aU,bq,cQ,dH,dI,kD,aF,ao,decide_eq_false hc]
    · rw [pv]
      simp (disch:=omega) only [aA,bm,yD]
  · rw [KX]
    exact hJ
theorem zd (g:Bool) (xs:List Int) (hb:xs.length < 4611686018427387904):Cm 142 [.sl (some g) 1 xs.length (ints xs)] (.bool (jx xs),[.undef]):=by
  unfold jx
  rw [← Bf]
  refine Cm.go KY [.undef] 0 (kK g xs.length (ints xs) xs.length (0:Nat)) ?_ fun J hJ=>?_
  · refine WP.scan (H:=fun i:Nat=>kK g xs.length (ints xs) xs.length (i:Nat)) (yJ xs) (fun i r hi hp ih=>WP.go _ ih fun J hJ=>?_) (fun i hi hp=>WP.fin fun J=>?_) (WP.fin fun J=>?_)
    · rw [pw]
      unfold yJ at hp
      rw [bQ hi,Bool.and_eq_true,decide_eq_true_eq,Bool.not_eq_true',decide_eq_false_iff_not] at hp
      simp (disch:=first | omega | assumption | (simp; omega)) only [aH,bc,bl,bI,bW,aA,aU,FJ,bq,cQ,dH,dI,iu,aF,ao,decide_eq_true hp.1,Ch,GD,GF,GG,List.drop_zero,tb,GA,decide_eq_false hp.2,db]
      exact hJ
    · rw [pw]
      unfold yJ at hp
      rw [bQ hi] at hp
      by_cases hc:1≤xs[i]∧xs[i]≤100000
      · rw [decide_eq_true hc,Bool.true_and,Bool.not_eq_false',decide_eq_true_eq] at hp
        simp (disch:=first | omega | assumption | (simp; omega)) only [aH,bc,bl,bI,bW,aA,aU,FJ,bq,cQ,dH,dI,iu,aF,ao,decide_eq_true hc,Ch,GD,GF,GG,List.drop_zero,tb,GA,decide_eq_true hp]
      · simp (disch:=first | omega | assumption) only [aH,bc,bl,bI,bW,aA,aU,bq,cQ,dH,dI,iu,aF,ao,decide_eq_false hc]
    · rw [pw]
      simp (disch:=omega) only [aA,bm,yD]
  · rw [KZ]
    exact hJ
def o7 (xs:List Int) (i:Nat):Bool:=decide (0≤xs.getD i 0∧xs.getD i 0≤200)
def jV (xs:List Int):Bool:=(List.range xs.length).all (o7 xs)&&decide ((xs.length:Int)=8)
theorem IC (g:Bool) (xs:List Int) (hb:xs.length < 4611686018427387904):Cm 99 [.sl (some g) 1 xs.length (ints xs)] (.bool (jV xs),[.undef]):=by
  unfold jV
  rw [← Bf]
  refine Cm.go Ix [.undef] 0 (jS g xs.length (ints xs) (0:Nat)) ?_ fun J hJ=>?_
  · refine WP.scan (H:=fun i:Nat=>jS g xs.length (ints xs) (i:Nat)) (o7 xs) (fun i r hi hp ih=>WP.go _ ih fun J hJ=>?_) (fun i hi hp=>WP.fin fun J=>?_) (WP.fin fun J=>?_)
    · rw [oJ]
      unfold o7 at hp
      rw [bQ hi] at hp
      simp (disch:=first | omega | assumption) only [aH,bc,bl,bI,bW,aA,aU,bq,cQ,dH,dI,kD,aF,ao,hp,db]
      exact hJ
    · rw [oJ]
      unfold o7 at hp
      rw [bQ hi] at hp
      simp (disch:=first | omega | assumption) only [aH,bc,bl,bI,bW,aA,aU,bq,cQ,dH,dI,kD,aF,ao,hp]
    · rw [oJ]
      simp (disch:=omega) only [aA,bm,AG]
      rfl
  · rw [Iy]
    exact hJ
theorem PA (a:Int):Cm 141 [.int .i64 a] (.bool (!decide (0≤a∧a≤200)),[.undef]):=by
  refine Cm.fin D4 fun J=>?_
  rw [D5]
  simp only [iu,aF,ao,bI]
theorem Dc (a:Int) (t:bG Rz):aO 141 [.int .i64 a] t=feed t [.bool (!decide (0≤a∧a≤200))]:=aT (PA a) (by kernel_rfl) t
def wg (n:Nat) (p:Nat→Bool):Int:=match (List.range n).find? (fun i=>!p i) with | some i=>(i:Int) | none=>-1
theorem Om (n:Nat) (p:Nat→Bool):decide (0≤wg n p)=!(List.range n).all p:=by
  unfold wg
  rw [Xc _ _ (fun i=>Int.natCast_nonneg i)]
  simp
theorem On (g:Bool) (xs:List Int) (hb:xs.length < 4611686018427387904):Cm 150 [.sl (some g) 1 xs.length (ints xs),.fn 141 []] (.int .i64 (wg xs.length (o7 xs)),[.undef,.undef]):=by
  have e:((.int .i64 (wg xs.length (o7 xs)),[.undef,.undef]):Rz)=(match (List.range xs.length).find? (fun i=>!o7 xs i) with | some i=>((.int .i64 (i:Int),[.undef,.undef]):Rz) | none=>(.int .i64 (-1),[.undef,.undef])):=by
    unfold wg
    split<;>rfl
  rw [e]
  refine Cm.go qH [.undef,.undef] 0 (dX g xs.length (ints xs) xs.length (0:Nat)) ?_ fun J hJ=>?_
  · refine WP.find (H:=fun i:Nat=>dX g xs.length (ints xs) xs.length (i:Nat)) _ (fun i r hi hp ih=>WP.go _ ih fun J hJ=>?_) (fun i hi hp=>WP.fin fun J=>?_) (WP.fin fun J=>?_)
    · rw [fV]
      unfold o7 at hp
      rw [bQ hi] at hp
      simp (disch:=first | omega | assumption) only [aH,bc,bl,bI,bW,aA,aU,bq,cQ,dH,dI,Dc,aF,ao,hp,db]
      exact hJ
    · rw [fV]
      unfold o7 at hp
      rw [bQ hi] at hp
      simp (disch:=first | omega | assumption) only [aH,bc,bl,bI,aA,aU,bq,cQ,dH,dI,Dc,aF,ao,hp]
    · rw [fV]
      simp (disch:=omega) only [aA,bm]
  · rw [qI]
    exact hJ
theorem GH (g:Bool) (xs:List Int) (hb:xs.length < 4611686018427387904):Cm 124 [.sl (some g) 1 xs.length (ints xs),.fn 141 []] (.bool (!(List.range xs.length).all (o7 xs)),[.undef,.undef]):=by
  refine Cm.fin o3 fun J=>?_
  rw [o4]
  have:=aT (On g xs hb) (by kernel_rfl)
  simp only [this,ao,yD]
  rw [← Om]
  rfl
theorem ID (g:Bool) (xs:List Int) (hb:xs.length < 4611686018427387904):Cm 110 [.sl (some g) 1 xs.length (ints xs)] (.bool (jV xs),[.undef]):=by
  refine Cm.fin Iz fun J=>?_
  rw [IA]
  have:=aT (GH g xs hb) (by kernel_rfl)
  unfold jV
  by_cases h:(xs.length:Int)=8
  · simp (disch:=first | omega | assumption) only [aA,fQ,this,bI]
    rw [decide_eq_true h,Bool.and_true]
    show some (D.bool (!!_),_)=_
    rw [Bool.not_not]
  · simp (disch:=first | omega | assumption) only [aA,ec]
    rw [decide_eq_false h,Bool.and_false]
section
variable (t:bG Rz)
theorem K6 (g:Bool) (xs:List Int) (n:Nat) (hn:n=xs.length) (hb:xs.length < 4611686018427387904):aO 137 [.sl (some g) 1 n (ints xs)] t=feed t [.bool (jx xs)]:=by subst hn; exact aT (zc g xs hb) (by kernel_rfl) t
theorem K7 (g:Bool) (xs:List Int) (n:Nat) (hn:n=xs.length) (hb:xs.length < 4611686018427387904):aO 142 [.sl (some g) 1 n (ints xs)] t=feed t [.bool (jx xs)]:=by subst hn; exact aT (zd g xs hb) (by kernel_rfl) t
theorem xN (g:Bool) (xs:List Int) (n:Nat) (hn:n=xs.length) (hb:xs.length < 4611686018427387904):aO 136 [.sl (some g) 1 n (ints xs)] t=feed t [.bool (fM xs)]:=by subst hn; exact aT (xL g xs hb) (by kernel_rfl) t
theorem IE (g:Bool) (xs:List Int) (n:Nat) (hn:n=xs.length) (hb:xs.length < 4611686018427387904):aO 145 [.sl (some g) 1 n (ints xs)] t=feed t [.bool (fM xs)]:=by subst hn; exact aT (xM g xs hb) (by kernel_rfl) t
end
end Go.Proofs.YtockoilcnmljiaaGreat
namespace Go.Proofs.YtockoilcnmljiaaGreat
set_option maxRecDepth 100000
section
variable (pr:dT) (cv:Cv Rz) (J:Nat→St→Option Rz)
def dB (g0:Bool) (n1:Nat) (c2:List D) (g3:Bool) (n4:Nat) (c5:List D) (i6:Int) (i7:Int):St:=(St.mk [(1,(.sl (some g0) 1 n1 c2)),(2,(.fn 94 [])),(15,(.sl (some g3) 1 n4 c5)),(16,(.int .i64 i6)),(17,(.int .i64 i7))] [] [] 0)
theorem ju:Told cfg Tryz.prog 147 Tryz.f147:=⟨by kernel_rfl,Tryz.func147,by kernel_rfl⟩
theorem jv (g0:Bool) (n0:Nat) (c0:List D) (g1:Bool) (n1:Nat) (c1:List D):aQ pr cv J 147 Tryz.f147 [(.sl (some g0) 1 n0 c0),(.sl (some g1) 1 n1 c1),(.fn 94 [])]=
    (br (br (pr.eq (pr.aS n0) (pr.aS n1)) false true) (some ((.bool false),[.undef,.undef,.undef])) (J 0 (dB g1 n1 c1 g0 n0 c0 (pr.aS n0) 0))):=by kernel_rfl
theorem fx (g0:Bool) (n1:Nat) (c2:List D) (g3:Bool) (n4:Nat) (c5:List D) (i6:Int) (i7:Int):bJ pr cv J 147 Tryz.f147 [.undef,.undef,.undef] 0 (dB g0 n1 c2 g3 n4 c5 i6 i7)=
    (br (pr.lt i7 i6) (br (pr.bD i7 n4) (br (br (pr.bU 1 c5 (pr.idx 0 i7 1)) true false) (br (pr.bD i7 n1) (br (br (pr.bU 1 c2 (pr.idx 0 i7 1)) true false) (cv 94 [(.sl (some (pr.bo c5 (pr.idx 0 i7 1))) 1 (pr.aR c5 (pr.idx 0 i7 1)) (pr.aV c5 (pr.idx 0 i7 1))),(.sl (some (pr.bo c2 (pr.idx 0 i7 1))) 1 (pr.aR c2 (pr.idx 0 i7 1)) (pr.aV c2 (pr.idx 0 i7 1)))] (.bool (fun cf=>(.done (br (br cf false true) (some ((.bool false),[.undef,.undef,.undef])) (J 0 (dB g0 n1 c2 g3 n4 c5 i6 (pr.ar .add .i64 i7 1)))))))) none) none) none) none) (some ((.bool true),[.undef,.undef,.undef]))):=by kernel_rfl
theorem PB:Told cfg Tryz.prog 167 Tryz.f167:=⟨by kernel_rfl,Tryz.func167,by kernel_rfl⟩
theorem PC (a0:Int):aQ pr cv J 167 Tryz.f167 [(.int .i64 a0)]=
    (br (br (pr.lt 8 0) false true) (br (br (pr.lt 16 0) false true) (br (br (pr.lt 24 0) false true) (some ((.sl none 1 4 [(.int .u8 (pr.wrap .u8 a0)),(.int .u8 (pr.wrap .u8 (pr.ar .shr .i64 a0 8))),(.int .u8 (pr.wrap .u8 (pr.ar .shr .i64 a0 16))),(.int .u8 (pr.wrap .u8 (pr.ar .shr .i64 a0 24)))]),[.undef])) none) none) none):=by kernel_rfl
end
theorem all_eq {α:Type} [DecidableEq α] (d:α):∀ (xs ys:List α),xs.length=ys.length→((List.range xs.length).all fun i=>decide (xs.getD i d=ys.getD i d))=decide (xs=ys):=by
  intro xs ys hl
  rw [Bool.eq_iff_iff,List.all_eq_true,decide_eq_true_eq]
  constructor
  · intro h
    apply List.ext_getElem hl
    intro i hi nD
    have:=h i (List.mem_range.2 hi)
    rwa [decide_eq_true_eq,bQ hi,bQ nD] at this
  · intro h
    subst h
    intro i _
    simp
theorem So {α:Type} [DecidableEq α] (d:α) (xs ys:List α):(((List.range (min xs.length ys.length)).all fun i=>decide (xs.getD i d=ys.getD i d))&&decide ((xs.length:Int)=(ys.length:Int)))=decide (xs=ys):=by
  by_cases h:xs.length=ys.length
  · rw [← h,Nat.min_self,all_eq d xs ys h]
    simp
  · have:xs≠ys:=fun e=>h (e▸rfl)
    have h':¬ (xs.length:Int)=(ys.length:Int):=by omega
    rw [decide_eq_false h',decide_eq_false this,Bool.and_false]
theorem Oo (g h:Bool) (xs ys:List Int) (hx:xs.length < 4611686018427387904) (hy:ys.length < 4611686018427387904):Cm 90 [.sl (some g) 1 xs.length (ints xs),.sl (some h) 1 ys.length (ints ys)] (.bool (decide (xs=ys)),[.undef,.undef]):=by
  rw [← So 0,← Bf]
  refine Cm.go KQ [.undef,.undef] 0 (kI g xs.length (ints xs) h ys.length (ints ys) (0:Nat)) ?_ fun J hJ=>?_
  · refine WP.scan (H:=fun i:Nat=>kI g xs.length (ints xs) h ys.length (ints ys) (i:Nat)) _ (fun i r hi hp ih=>WP.go _ ih fun J hJ=>?_) (fun i hi hp=>WP.fin fun J=>?_) (WP.fin fun J=>?_)
    · rw [pq]
      have h1:i < xs.length:=by omega
      have h2:i < ys.length:=by omega
      rw [bQ h1,bQ h2,decide_eq_true_eq] at hp
      simp (disch:=first | omega | assumption) only [aH,bc,bl,bI,bW,aA,aU,bq,cQ,dH,dI,fQ,db]
      exact hJ
    · rw [pq]
      have h1:i < xs.length:=by omega
      have h2:i < ys.length:=by omega
      rw [bQ h1,bQ h2,decide_eq_false_iff_not] at hp
      simp (disch:=first | omega | assumption) only [aH,bc,bl,bI,bW,aA,aU,bq,cQ,dH,dI,ec]
    · rw [pq]
      by_cases h1:min xs.length ys.length < xs.length
      · simp (disch:=omega) only [aA,aU,bm,AG]
        rfl
      · simp (disch:=omega) only [aA,bm,AG]
        rfl
  · rw [KR]
    exact hJ
theorem QR (g h:Bool) (xs ys:List Int) (hx:xs.length < 4611686018427387904) (hy:ys.length < 4611686018427387904):Cm 94 [.sl (some g) 1 xs.length (ints xs),.sl (some h) 1 ys.length (ints ys)] (.bool (decide (xs=ys)),[.undef,.undef]):=by
  by_cases hl:xs.length=ys.length
  · rw [← all_eq 0 xs ys hl,← xK]
    refine Cm.go pS [.undef,.undef] 0 (fG g xs.length (ints xs) h ys.length (ints ys) xs.length (0:Nat)) ?_ fun J hJ=>?_
    · refine WP.scan (H:=fun i:Nat=>fG g xs.length (ints xs) h ys.length (ints ys) xs.length (i:Nat)) _ (fun i r hi hp ih=>WP.go _ ih fun J hJ=>?_) (fun i hi hp=>WP.fin fun J=>?_) (WP.fin fun J=>?_)
      · rw [jU]
        have h2:i < ys.length:=by omega
        rw [bQ hi,bQ h2,decide_eq_true_eq] at hp
        simp (disch:=first | omega | assumption) only [aH,bc,bl,bI,bW,aA,aU,bq,cQ,dH,dI,fQ,db]
        exact hJ
      · rw [jU]
        have h2:i < ys.length:=by omega
        rw [bQ hi,bQ h2,decide_eq_false_iff_not] at hp
        simp (disch:=first | omega | assumption) only [aH,bc,bl,bI,bW,aA,aU,bq,cQ,dH,dI,ec]
      · rw [jU]
        simp (disch:=omega) only [aA,bm]
    · rw [pT]
      simp (disch:=omega) only [aA,fQ,bI,bW,aH,bc]
      exact hJ
  · have cZ:xs≠ys:=fun e=>hl (e▸rfl)
    refine Cm.fin pS fun J=>?_
    rw [pT,decide_eq_false cZ]
    simp (disch:=omega) only [aA,ec,bI,bW,aH,bc]
section
variable (t:bG Rz)
theorem yK (g h:Bool) (xs ys:List Int) (n k:Nat) (hn:n=xs.length) (hk:k=ys.length) (hx:xs.length < 4611686018427387904) (hy:ys.length < 4611686018427387904):aO 90 [.sl (some g) 1 n (ints xs),.sl (some h) 1 k (ints ys)] t=feed t [.bool (decide (xs=ys))]:=by subst hn hk; exact aT (Oo g h xs ys hx hy) (by kernel_rfl) t
theorem IF (g h:Bool) (xs ys:List Int) (n k:Nat) (hn:n=xs.length) (hk:k=ys.length) (hx:xs.length < 4611686018427387904) (hy:ys.length < 4611686018427387904):aO 94 [.sl (some g) 1 n (ints xs),.sl (some h) 1 k (ints ys)] t=feed t [.bool (decide (xs=ys))]:=by subst hn hk; exact aT (QR g h xs ys hx hy) (by kernel_rfl) t
end
theorem PD (g h:Bool) (xs ys:List (List Int)) (hx:ra xs) (hy:ra ys):Cm 147 [sR (some g) xs,sR (some h) ys,.fn 94 []] (.bool (decide (xs=ys)),[.undef,.undef,.undef]):=by
  by_cases hl:xs.length=ys.length
  · rw [← all_eq [] xs ys hl,← xK]
    refine Cm.go ju [.undef,.undef,.undef] 0 (dB h ys.length (rows (some h) ys) g xs.length (rows (some g) xs) xs.length (0:Nat)) ?_ fun J hJ=>?_
    · refine WP.scan (H:=fun i:Nat=>dB h ys.length (rows (some h) ys) g xs.length (rows (some g) xs) xs.length (i:Nat)) _ (fun i r hi hp ih=>WP.go _ ih fun J hJ=>?_) (fun i hi hp=>WP.fin fun J=>?_) (WP.fin fun J=>?_)
      · have b1:=hx.1
        have h2:i < ys.length:=by omega
        have b2:=hx.2 _ (List.getElem_mem hi)
        have b3:=hy.2 _ (List.getElem_mem h2)
        rw [fx]
        rw [bQ hi,bQ h2] at hp
        simp (disch:=first | omega | assumption) only [aH,bc,bl,bI,bW,aA,aU,bq,cQ,iy,iz,gX,iA,IF,aF,ao,hp,db]
        exact hJ
      · have b1:=hx.1
        have h2:i < ys.length:=by omega
        have b2:=hx.2 _ (List.getElem_mem hi)
        have b3:=hy.2 _ (List.getElem_mem h2)
        rw [fx]
        rw [bQ hi,bQ h2] at hp
        simp (disch:=first | omega | assumption) only [aH,bc,bl,bI,bW,aA,aU,bq,cQ,iy,iz,gX,iA,IF,aF,ao,hp]
      · rw [fx]
        simp (disch:=omega) only [aA,bm]
    · rw [jv]
      simp (disch:=omega) only [aA,fQ,bI,bW,aH,bc]
      exact hJ
  · have cZ:xs≠ys:=fun e=>hl (e▸rfl)
    refine Cm.fin ju fun J=>?_
    rw [jv,decide_eq_false cZ]
    simp (disch:=omega) only [aA,ec,bI,bW,aH,bc]
def m8 (xss:List (List Int)) (i:Nat):Bool:=fM (xss.getD i [])
def gR (xss:List (List Int)):Bool:=(List.range xss.length).all (m8 xss)
theorem Oq (g:Bool) (xs:List Int) (hb:xs.length < 4611686018427387904):Cm 144 [.sl (some g) 1 xs.length (ints xs)] (.bool (!fM xs),[.undef]):=by
  refine Cm.fin Co fun J=>?_
  rw [Cp]
  simp (disch:=first | rfl | assumption) only [IE,aF,ao,bI]
theorem Bg (g:Bool) (xs:List Int) (n:Nat) (hn:n=xs.length) (hb:xs.length < 4611686018427387904) (t:bG Rz):aO 144 [.sl (some g) 1 n (ints xs)] t=feed t [.bool (!fM xs)]:=by subst hn; exact aT (Oq g xs hb) (by kernel_rfl) t
theorem Ot (g:Bool) (xss:List (List Int)) (hb:ra xss):Cm 153 [sR (some g) xss,.fn 144 []] (.int .i64 (wg xss.length (m8 xss)),[.undef,.undef]):=by
  have e:((.int .i64 (wg xss.length (m8 xss)),[.undef,.undef]):Rz)=(match (List.range xss.length).find? (fun i=>!m8 xss i) with | some i=>((.int .i64 (i:Int),[.undef,.undef]):Rz) | none=>(.int .i64 (-1),[.undef,.undef])):=by
    unfold wg
    cases (List.range xss.length).find? (fun i=>!m8 xss i)<;>rfl
  rw [e]
  have b1:=hb.1
  refine Cm.go qJ [.undef,.undef] 0 (dY g xss.length (rows (some g) xss) xss.length (0:Nat)) ?_ fun J hJ=>?_
  · refine WP.find (H:=fun i:Nat=>dY g xss.length (rows (some g) xss) xss.length (i:Nat)) _ (fun i r hi hp ih=>WP.go _ ih fun J hJ=>?_) (fun i hi hp=>WP.fin fun J=>?_) (WP.fin fun J=>?_)
    · have b2:=hb.2 _ (List.getElem_mem hi)
      rw [fW]
      unfold m8 at hp
      rw [bQ hi] at hp
      simp (disch:=first | omega | assumption) only [aH,bc,bl,bI,aA,aU,bq,cQ,iy,iz,gX,iA,Bg,aF,ao,hp,db]
      exact hJ
    · have b2:=hb.2 _ (List.getElem_mem hi)
      rw [fW]
      unfold m8 at hp
      rw [bQ hi] at hp
      simp (disch:=first | omega | assumption) only [aH,bc,bl,bI,aA,aU,bq,cQ,iy,iz,gX,iA,Bg,aF,ao,hp]
    · rw [fW]
      simp (disch:=omega) only [aA,bm]
  · rw [qK]
    exact hJ
theorem GI (g:Bool) (xss:List (List Int)) (hb:ra xss):Cm 143 [sR (some g) xss,.fn 144 []] (.bool (!gR xss),[.undef,.undef]):=by
  refine Cm.fin o5 fun J=>?_
  rw [o6]
  have:=aT (Ot g xss hb) (by kernel_rfl)
  simp only [this,ao,yD]
  unfold gR
  rw [← Om]
  rfl
theorem GJ (g:Bool) (xss:List (List Int)) (hb:ra xss):Cm 112 [sR (some g) xss] (.bool (((xss.length:Int)==3)&&gR xss),[.undef]):=by
  refine Cm.fin Gx fun J=>?_
  rw [Gy]
  have:=aT (GI g xss hb) (by kernel_rfl)
  simp only [this,aA,AG]
  cases (xss.length:Int)==3 with
  | true=>
    show some (D.bool (br (!gR xss) false true),_)=_
    rw [bI,Bool.not_not]
    rfl
  | false=>rfl
def gL (m:aI):Bool:=gR m.bits&&(jx m.ay&&(decide (0 < (m.ay.length:Int))&&(((m.bits.length:Int)==3)&&(decide (0≤m.last∧m.last≤200)&&!(m.bN&&m.held)))))
theorem ze (g:Bool) (m:aI) (hb:cJ m):Cm 100 [.agg (bR (some g) m)] (.bool (gL m),[.undef]):=by
  unfold gL
  rw [← Bf]
  have b0:=hb.ay
  have b1:=hb.bits.1
  refine Cm.go K2 [.undef] 0 (kL (0:Nat) g m.ay.length (ints m.ay) g m.bits.length (rows (some g) m.bits) m.cI m.bN m.held m.last) ?_ fun J hJ=>?_
  · refine WP.scan (H:=fun i:Nat=>kL (i:Nat) g m.ay.length (ints m.ay) g m.bits.length (rows (some g) m.bits) m.cI m.bN m.held m.last) (m8 m.bits) (fun i r hi hp ih=>WP.go _ ih fun J hJ=>?_) (fun i hi hp=>WP.fin fun J=>?_) (WP.fin fun J=>?_)
    · have b2:=hb.bits.2 _ (List.getElem_mem hi)
      rw [px]
      unfold m8 at hp
      rw [bQ hi] at hp
      simp (disch:=first | omega | assumption) only [aH,bc,bl,bI,bW,aA,aU,bq,cQ,iy,iz,gX,iA,xN,aF,ao,hp,db]
      exact hJ
    · have b2:=hb.bits.2 _ (List.getElem_mem hi)
      rw [px]
      unfold m8 at hp
      rw [bQ hi] at hp
      simp (disch:=first | omega | assumption) only [aH,bc,bl,bI,bW,aA,aU,bq,cQ,iy,iz,gX,iA,xN,aF,ao,hp]
    · rw [px]
      simp (disch:=first | omega | assumption) only [aA,bm,K6,aF,ao,kD]
      simp only [Sa,AG]
      generalize jx m.ay=a
      generalize decide (0 < (m.ay.length:Int))=b
      generalize ((m.bits.length:Int)==3)=c
      generalize decide (0≤m.last∧m.last≤200)=d
      generalize m.bN=e
      generalize m.held=f
      cases a<;>cases b<;>cases c<;>cases d<;>cases e<;>cases f<;>rfl
  · rw [K3]
    exact hJ
theorem zf (g:Bool) (m:aI) (hb:cJ m):Cm 111 [.agg (bR (some g) m)] (.bool (gL m),[.undef]):=by
  have b0:=hb.ay
  have hm:=aT (GJ g m.bits hb.bits) (by kernel_rfl)
  refine Cm.fin K4 fun J=>?_
  rw [K5]
  simp (disch:=first | omega | assumption) only [aA,K7,hm,aF,ao,iu,Sa]
  unfold gL
  generalize jx m.ay=a
  generalize decide (0 < (m.ay.length:Int))=b
  generalize ((m.bits.length:Int)==3)=c
  generalize decide (0≤m.last∧m.last≤200)=d
  generalize m.bN=e
  generalize m.held=f
  generalize gR m.bits=k
  show (br a (br b (br (c&&k) _ _) _) _)=_
  cases a<;>cases b<;>cases c<;>cases d<;>cases e<;>cases f<;>cases k<;>rfl
section
variable (t:bG Rz)
theorem zg (g:Bool) (m:aI) (hb:cJ m):aO 100 [.agg (bR (some g) m)] t=feed t [.bool (gL m)]:=aT (ze g m hb) (by kernel_rfl) t
theorem zh (g:Bool) (m:aI) (hb:cJ m):aO 111 [.agg (bR (some g) m)] t=feed t [.bool (gL m)]:=aT (zf g m hb) (by kernel_rfl) t
end
def lz (m k:aI):Bool:=decide (m.ay=k.ay)&&(decide (m.bits=k.bits)&&((m.cI==k.cI)&&((m.bN==k.bN)&&((m.held==k.held)&&(m.last==k.last)))))
theorem GK (g h:Bool) (m k:aI) (hm:cJ m) (hk:cJ k):Cm 114 [.agg (bR (some g) m),.agg (bR (some h) k)] (.bool (lz m k),[.undef,.undef]):=by
  have b0:=hm.ay
  have b1:=hk.ay
  have he:=aT (PD g h m.bits k.bits hm.bits hk.bits) (by kernel_rfl)
  refine Cm.fin GB fun J=>?_
  rw [GC]
  simp (disch:=first | omega | assumption) only [IF,he,aF,ao,tZ,AG]
  unfold lz
  generalize decide (m.ay=k.ay)=a
  generalize decide (m.bits=k.bits)=b
  generalize (m.cI==k.cI)=c
  generalize (m.bN==k.bN)=d
  generalize (m.held==k.held)=e
  generalize (m.last==k.last)=f
  show (br a (br b _ _) _)=_
  cases a<;>cases b<;>cases c<;>cases d<;>cases e<;>cases f<;>rfl
theorem GL (g h:Bool) (m k:aI) (hm:cJ m) (hk:cJ k):Cm 103 [.agg (bR (some g) m),.agg (bR (some h) k)] (.bool (lz m k),[.undef,.undef]):=by
  have b0:=hm.ay
  have b1:=hk.ay
  have b2:=hm.bits.1
  have fin:lz m k=false→(m.bits.length=k.bits.length→(decide (m.ay=k.ay)&&((m.cI==k.cI)&&((m.bN==k.bN)&&((m.held==k.held)&&(m.last==k.last)))))=false)→Cm 103 [.agg (bR (some g) m),.agg (bR (some h) k)] (.bool (lz m k),[.undef,.undef]):=by
    intro hs hq
    rw [hs]
    refine Cm.fin wc fun J=>?_
    rw [we]
    by_cases hl:m.bits.length=k.bits.length
    · have hq:=hq hl
      simp (disch:=first | omega | assumption) only [yK,aF,ao,tZ,aA,fQ,bI,bW,aH,bc]
      simp only [AG]
      revert hq
      generalize decide (m.ay=k.ay)=a
      generalize (m.cI==k.cI)=c
      generalize (m.bN==k.bN)=d
      generalize (m.held==k.held)=e
      generalize (m.last==k.last)=f
      cases a<;>cases c<;>cases d<;>cases e<;>cases f<;>first | (intro _; rfl) | (intro hq; exact absurd hq (by decide))
    · simp (disch:=first | omega | assumption) only [aA,ec,bI,bW,aH,bc]
  by_cases hl:m.bits.length=k.bits.length
  · cases hq:(decide (m.ay=k.ay)&&((m.cI==k.cI)&&((m.bN==k.bN)&&((m.held==k.held)&&(m.last==k.last))))) with
    | false=>
      refine fin ?_ fun _=>hq
      revert hq
      unfold lz
      generalize decide (m.ay=k.ay)=a
      generalize decide (m.bits=k.bits)=b
      generalize ((m.cI==k.cI)&&((m.bN==k.bN)&&((m.held==k.held)&&(m.last==k.last))))=c
      cases a<;>cases b<;>cases c<;>simp
    | true=>
      have hs:lz m k=decide (m.bits=k.bits):=by
        revert hq
        unfold lz
        generalize decide (m.ay=k.ay)=a
        generalize decide (m.bits=k.bits)=b
        generalize ((m.cI==k.cI)&&((m.bN==k.bN)&&((m.held==k.held)&&(m.last==k.last))))=c
        cases a<;>cases b<;>cases c<;>simp
      simp only [Bool.and_eq_true] at hq
      rw [hs,← all_eq [] _ _ hl,← xK]
      refine Cm.go wc [.undef,.undef] 0 (jb (0:Nat) g m.ay.length (ints m.ay) g m.bits.length (rows (some g) m.bits) m.cI m.bN m.held m.last h k.ay.length (ints k.ay) h k.bits.length (rows (some h) k.bits) k.cI k.bN k.held k.last) ?_ fun J hJ=>?_
      · refine WP.scan (H:=fun i:Nat=>jb (i:Nat) g m.ay.length (ints m.ay) g m.bits.length (rows (some g) m.bits) m.cI m.bN m.held m.last h k.ay.length (ints k.ay) h k.bits.length (rows (some h) k.bits) k.cI k.bN k.held k.last) _ (fun i r hi hp ih=>WP.go _ ih fun J hJ=>?_) (fun i hi hp=>WP.fin fun J=>?_) (WP.fin fun J=>?_)
        · have h2:i < k.bits.length:=by omega
          have b3:=hm.bits.2 _ (List.getElem_mem hi)
          have b4:=hk.bits.2 _ (List.getElem_mem h2)
          rw [nO]
          rw [bQ hi,bQ h2] at hp
          simp (disch:=first | omega | assumption) only [aH,bc,bl,bI,bW,aA,aU,bq,cQ,iy,iz,gX,iA,yK,aF,ao,hp,db]
          exact hJ
        · have h2:i < k.bits.length:=by omega
          have b3:=hm.bits.2 _ (List.getElem_mem hi)
          have b4:=hk.bits.2 _ (List.getElem_mem h2)
          rw [nO]
          rw [bQ hi,bQ h2] at hp
          simp (disch:=first | omega | assumption) only [aH,bc,bl,bI,bW,aA,aU,bq,cQ,iy,iz,gX,iA,yK,aF,ao,hp]
        · rw [nO]
          simp (disch:=omega) only [aA,bm]
      · rw [we]
        simp (disch:=first | omega | assumption) only [yK,aF,ao,tZ,aA,AG,hq.1,hq.2.1,hq.2.2.1,hq.2.2.2.1,hq.2.2.2.2,bI,bW,aH]
        have e1:((m.bits.length:Int)==(k.bits.length:Int))=true:=by simp [hl]
        rw [e1]
        exact hJ
  · refine fin ?_ fun h=>absurd h hl
    have:m.bits≠k.bits:=fun e=>hl (e▸rfl)
    unfold lz
    rw [decide_eq_false this,Bool.false_and,Bool.and_false]
end Go.Proofs.YtockoilcnmljiaaGreat
namespace Go.Proofs.YtockoilcnmljiaaGreat
set_option maxRecDepth 100000
section
variable (pr:dT) (cv:Cv Rz) (J:Nat→St→Option Rz)
def kM (i0:Int) (n1:Nat) (c2:List D):St:=(St.mk [(0,(.int .i64 i0)),(3,(.ref 10003 [] 0 none))] [(10003,[(.sl none 1 n1 c2)])] [] 0)
theorem zi:Told cfg Tryz.prog 163 Tryz.f163:=⟨by kernel_rfl,Tryz.func163,by kernel_rfl⟩
theorem zj (a0:Int):aQ pr cv J 163 Tryz.f163 [(.int .i64 a0)]=
    (cv 69 [(.int .i64 a0),(.int .i64 0),(.int .i64 2147483647)] (.bool (fun cf=>(.done (br (br cf false true) (some ((.sl none 1 0 []),[.undef])) (J 0 (kM a0 0 []))))))):=by kernel_rfl
theorem vr (i0:Int) (n1:Nat) (c2:List D):bJ pr cv J 163 Tryz.f163 [.undef] 0 (kM i0 n1 c2)=
    let y1:List D:=[(.int .u8 (pr.wrap .u8 (pr.ar .add .i64 (pr.ar .rem .i64 i0 128) 128)))]
    (br (pr.lt 127 i0) (br (br (pr.eq 128 0) false true) (br (br (pr.flat y1) (pr.fits (n1+1) 1) false) (br (br (pr.eq 128 0) false true) (J 0 (kM (pr.ar .quo .i64 i0 128) (n1+1) (List.append c2 y1))) none) none) none) (br (br (pr.flat [(.int .u8 (pr.wrap .u8 i0))]) (pr.fits (n1+1) 1) false) (some ((.sl none 1 (n1+1) (List.append c2 [(.int .u8 (pr.wrap .u8 i0))])),[.undef])) none)):=by kernel_rfl
def kN (i0:Int) (n1:Nat) (c2:List D):St:=(St.mk [(0,(.int .i64 i0)),(3,(.ref 10003 [] 0 none))] [(10003,[(.sl none 1 n1 c2)])] [] 0)
theorem zk:Told cfg Tryz.prog 172 Tryz.f172:=⟨by kernel_rfl,Tryz.func172,by kernel_rfl⟩
theorem zl (a0:Int):aQ pr cv J 172 Tryz.f172 [(.int .i64 a0)]=
    let y1:Option (D × List D):=(some ((.sl none 1 0 []),[.undef]))
    (br (pr.lt a0 0) y1 (br (pr.lt 2147483647 a0) y1 (J 0 (kN a0 0 [])))):=by kernel_rfl
theorem vt (i0:Int) (n1:Nat) (c2:List D):bJ pr cv J 172 Tryz.f172 [.undef] 0 (kN i0 n1 c2)=
    let y1:List D:=[(.int .u8 (pr.wrap .u8 (pr.ar .add .i64 (pr.ar .rem .i64 i0 128) 128)))]
    (br (pr.lt 127 i0) (br (br (pr.eq 128 0) false true) (br (br (pr.flat y1) (pr.fits (Nat.succ n1) 1) false) (br (br (pr.eq 128 0) false true) (J 0 (kN (pr.ar .quo .i64 i0 128) (Nat.succ n1) (List.append c2 y1))) none) none) none) (br (br (pr.flat [(.int .u8 (pr.wrap .u8 i0))]) (pr.fits (Nat.succ n1) 1) false) (some ((.sl none 1 (Nat.succ n1) (List.append c2 [(.int .u8 (pr.wrap .u8 i0))])),[.undef])) none)):=by kernel_rfl
def kO (g0:Bool) (n1:Nat) (c2:List D) (i3:Int) (i4:Int) (i5:Int):St:=(St.mk [(0,(.sl (some g0) 1 n1 c2)),(1,(.int .i64 i3)),(7,(.int .i64 i4)),(8,(.int .i64 i5))] [] [] 0)
theorem zm:Told cfg Tryz.prog 162 Tryz.f162:=⟨by kernel_rfl,Tryz.func162,by kernel_rfl⟩
theorem zn (g0:Bool) (n0:Nat) (c0:List D) (a1:Int):aQ pr cv J 162 Tryz.f162 [(.sl (some g0) 1 n0 c0),(.int .i64 a1)]=
    (J 0 (kO g0 n0 c0 a1 0 0)):=by kernel_rfl
theorem jW (g0:Bool) (n1:Nat) (c2:List D) (i3:Int) (i4:Int) (i5:Int):bJ pr cv J 162 Tryz.f162 [.undef,.undef] 0 (kO g0 n1 c2 i3 i4 i5)=
    let y1:Option (D × List D):=(some ((.aL [(.int .i64 0),(.int .i64 0),(.bool false)]),[.undef,.undef]))
    let y2:Int:=(pr.wrap .i64 (pr.bn c2 (pr.idx 0 (pr.ar .add .i64 i3 i5) 1)))
    let y3:Int:=(pr.ar .or .i64 i4 (pr.ar .shl .i64 (pr.ar .rem .i64 y2 128) (pr.ar .mul .i64 7 i5)))
    let y4:D:=(.int .i64 y3)
    let y5:Option (D × List D):=(br (pr.lt 2147483647 y3) y1 (some ((.aL [y4,(.int .i64 (pr.ar .add .i64 (pr.ar .add .i64 i3 i5) 1)),(.bool true)]),[.undef,.undef])))
    (br (pr.lt i5 5) (br (pr.lt i3 0) y1 (br (pr.le (pr.ar .sub .i64 (pr.aS n1) i5) i3) y1 (br (pr.bD (pr.ar .add .i64 i3 i5) n1) (br (br (pr.cw .u8 c2 (pr.idx 0 (pr.ar .add .i64 i3 i5) 1)) true false) (br (br (pr.eq 128 0) false true) (br (br (pr.lt (pr.ar .mul .i64 7 i5) 0) false true) (br (pr.lt y2 128) (br (pr.lt 0 i5) (br (pr.eq y2 0) y1 y5) y5) (J 0 (kO g0 n1 c2 i3 y3 (pr.ar .add .i64 i5 1)))) none) none) none) none))) y1):=by kernel_rfl
def nh (g0:Bool) (n1:Nat) (c2:List D) (i3:Int) (i4:Int) (i5:Int) (i6:Int):St:=(St.mk [(0,(.sl (some g0) 1 n1 c2)),(1,(.int .i64 i3)),(7,(.int .i64 i4)),(8,(.int .i64 i5)),(9,(.int .i64 i6))] [] [] 0)
theorem zo:Told cfg Tryz.prog 168 Tryz.f168:=⟨by kernel_rfl,Tryz.func168,by kernel_rfl⟩
theorem zp (g0:Bool) (n0:Nat) (c0:List D) (a1:Int):aQ pr cv J 168 Tryz.f168 [(.sl (some g0) 1 n0 c0),(.int .i64 a1)]=
    (br (pr.lt a1 0) (some ((.aL [(.int .i64 0),(.int .i64 0),(.bool false)]),[.undef,.undef])) (J 0 (nh g0 n0 c0 a1 0 1 0))):=by kernel_rfl
theorem mw (g0:Bool) (n1:Nat) (c2:List D) (i3:Int) (i4:Int) (i5:Int) (i6:Int):bJ pr cv J 168 Tryz.f168 [.undef,.undef] 0 (nh g0 n1 c2 i3 i4 i5 i6)=
    let y1:Int:=(pr.wrap .i64 (pr.bn c2 (pr.idx 0 (pr.ar .add .i64 i3 i6) 1)))
    let y2:Int:=(pr.ar .add .i64 i4 (pr.ar .mul .i64 (pr.ar .rem .i64 y1 128) i5))
    let y3:Option (D × List D):=(some ((.aL [(.int .i64 0),(.int .i64 0),(.bool false)]),[.undef,.undef]))
    let y4:D:=(.int .i64 y2)
    let y5:Option (D × List D):=(some ((.aL [y4,(.int .i64 (pr.ar .add .i64 (pr.ar .add .i64 i3 i6) 1)),(.bool true)]),[.undef,.undef]))
    (br (pr.lt i6 5) (br (pr.lt i3 (pr.ar .sub .i64 (pr.aS n1) i6)) (br (pr.bD (pr.ar .add .i64 i3 i6) n1) (br (br (pr.cw .u8 c2 (pr.idx 0 (pr.ar .add .i64 i3 i6) 1)) true false) (br (br (pr.eq 128 0) false true) (br (pr.le 128 y1) (J 0 (nh g0 n1 c2 i3 y2 (pr.ar .mul .i64 i5 128) (pr.ar .add .i64 i6 1))) (br (pr.lt 2147483647 y2) y3 (br (pr.eq y1 0) (br (pr.lt 0 i6) y3 y5) y5))) none) none) none) y3) y3):=by kernel_rfl
theorem Ou:Told cfg Tryz.prog 158 Tryz.f158:=⟨by kernel_rfl,Tryz.func158,by kernel_rfl⟩
theorem Ov (a0:Int):aQ pr cv J 158 Tryz.f158 [(.int .i64 a0)]=
    (br (br (pr.lt 8 0) false true) (br (br (pr.lt 16 0) false true) (br (br (pr.lt 24 0) false true) (some ((.sl none 1 4 [(.int .u8 (pr.wrap .u8 (pr.ar .and .i64 a0 255))),(.int .u8 (pr.wrap .u8 (pr.ar .and .i64 (pr.ar .shr .i64 a0 8) 255))),(.int .u8 (pr.wrap .u8 (pr.ar .and .i64 (pr.ar .shr .i64 a0 16) 255))),(.int .u8 (pr.wrap .u8 (pr.ar .and .i64 (pr.ar .shr .i64 a0 24) 255)))]),[.undef])) none) none) none):=by kernel_rfl
end
theorem Vb {a b:Nat} (h:a < 9223372036854775808):ad.ar .quo .i64 (a:Int) (b:Int)=((a / b:Nat):Int):=by
  have e:(a:Int).tdiv (b:Int)=((a / b:Nat):Int):=rfl
  have:=Nat.div_le_self a b
  show IntKind.i64.wrap ((a:Int).tdiv (b:Int))=_
  rw [e]
  generalize a / b=q at this
  rw [wrap64 (by omega) (by omega)]
theorem tc {a b:Nat} (h:a+b < 9223372036854775808):ad.ar .add .i64 (a:Int) (b:Int)=((a+b:Nat):Int):=by
  rw [yF (by omega) (by omega)]
  omega
theorem Ow {a b:Nat} (h:a*b < 9223372036854775808):ad.ar .mul .i64 (a:Int) (b:Int)=((a*b:Nat):Int):=by
  have e:(a:Int)*(b:Int)=((a*b:Nat):Int):=by simp
  show IntKind.i64.wrap ((a:Int)*(b:Int))=_
  rw [e,wrap64 (by omega) (by omega)]
theorem J3 {a:Nat} (h:a < 9223372036854775808):ad.wrap .i64 (a:Int)=(a:Int):=wrap64 (by omega) (by omega)
theorem L4 {a b:Nat} (ha:a < 4611686018427387904) (hb:b < 4611686018427387904):ad.ar .or .i64 (a:Int) (b:Int)=((a||| b:Nat):Int):=by
  show IntKind.i64.wrap ((BitVec.ofInt 64 (a:Int)||| BitVec.ofInt 64 (b:Int)).toNat:Int)=_
  have h:(a||| b) < 2 ^ 62:=Nat.or_lt_two_pow (by omega) (by omega)
  have e:(BitVec.ofInt 64 (a:Int)||| BitVec.ofInt 64 (b:Int)).toNat=a||| b:=by
    rw [BitVec.toNat_or,BitVec.ofInt_natCast,BitVec.ofInt_natCast,BitVec.toNat_ofNat,BitVec.toNat_ofNat,Nat.mod_eq_of_lt (by omega),Nat.mod_eq_of_lt (by omega)]
  rw [e,wrap64 (by omega) (by omega)]
theorem acB {a b:Nat} (ha:a < 4611686018427387904) (hb:b < 4611686018427387904):ad.ar .and .i64 (a:Int) (b:Int)=((a&&& b:Nat):Int):=by
  show IntKind.i64.wrap ((BitVec.ofInt 64 (a:Int)&&& BitVec.ofInt 64 (b:Int)).toNat:Int)=_
  have h:(a&&& b)≤b:=Nat.and_le_right
  have e:(BitVec.ofInt 64 (a:Int)&&& BitVec.ofInt 64 (b:Int)).toNat=a&&& b:=by
    rw [BitVec.toNat_and,BitVec.ofInt_natCast,BitVec.ofInt_natCast,BitVec.toNat_ofNat,BitVec.toNat_ofNat,Nat.mod_eq_of_lt (by omega),Nat.mod_eq_of_lt (by omega)]
  rw [e,wrap64 (by omega) (by omega)]
theorem vu {a k:Nat} (hk:k≤64) (h:a*2 ^ k < 9223372036854775808):ad.ar .shl .i64 (a:Int) (k:Int)=((a*2 ^ k:Nat):Int):=by
  show IntKind.i64.wrap ((a:Int)*2 ^ (min ((k:Int).toNat) 64))=_
  have e:min ((k:Int).toNat) 64=k:=by omega
  have e2:(a:Int)*2 ^ k=((a*2 ^ k:Nat):Int):=by simp
  rw [e,e2,wrap64 (by omega) (by omega)]
theorem xO (a:Nat) {k:Nat} (hk:k≤64):ad.ar .shr .i64 (a:Int) (k:Int)=((a / 2 ^ k:Nat):Int):=by
  show (a:Int).fdiv (2 ^ (min ((k:Int).toNat) 64))=_
  have e:min ((k:Int).toNat) 64=k:=by omega
  have e2:((2:Int) ^ k)=((2 ^ k:Nat):Int):=by simp
  rw [e,e2,← Int.ofNat_fdiv]
theorem GM {a x k:Nat} (h:a < 2 ^ k):a||| x*2 ^ k=a+x*2 ^ k:=by
  rw [Nat.or_comm,Nat.mul_comm x,← Nat.two_pow_add_eq_or_of_lt h,Nat.add_comm]
theorem rQ (x:Nat):D.int .u8 (ad.wrap .u8 (x:Int))=dq (UInt8.ofNat x):=by
  show D.int .u8 (IntKind.u8.wrap (x:Int))=_
  simp only [dq,IntKind.wrap,IntKind.bits,IntKind.signed]
  simp
theorem iT {R:Type} {x y:R} (xs:List UInt8):br (ad.flat (bytes xs)) x y=x:=by
  have:ad.flat (bytes xs)=true:=by
    show (bytes xs).all gC=true
    rw [List.all_eq_true]
    intro d hd
    obtain ⟨a,_,rfl⟩:=List.mem_map.1 hd
    rfl
  rw [this,aH]
theorem GN (x:UInt8):[dq x]=bytes [x]:=rfl
theorem gr (xs ys:List UInt8):List.append (bytes xs) (bytes ys)=bytes (xs++ys):=by simp [bytes]
def gH (n:Nat):List UInt8:=if h:n < 128 then [UInt8.ofNat n] else UInt8.ofNat (n % 128+128)::gH (n / 128)
termination_by n
decreasing_by omega
theorem r9:∀ (k n:Nat),n < 128 ^ (k+1)→(gH n).length≤k+1
  | 0,n,h=>by
    rw [gH,dif_pos (by omega)]
    simp
  | k+1,n,h=>by
    rw [gH]
    split
    · simp
    · have:n / 128 < 128 ^ (k+1):=by
        apply Nat.div_lt_of_lt_mul
        rw [Nat.pow_succ] at h
        omega
      have:=r9 k (n / 128) this
      simp only [List.length_cons]
      omega
def du (a:Int):List UInt8:=if 0≤a∧a≤2147483647 then gH a.toNat else []
theorem fy (a:Int):(du a).length≤5:=by
  unfold du
  split
  · exact r9 4 _ (by omega)
  · simp
theorem zq:∀ (k n:Nat) (acc:List UInt8),n < 128 ^ (k+1)→n < 2147483648→acc.length+(gH n).length < 1000000→WP 163 Tryz.f163 [.undef] 0 (kM (n:Int) acc.length (bytes acc)) (.sl none 1 (acc++gH n).length (bytes (acc++gH n)),[.undef])
  | k,n,acc,hk,hn,hl=>by
    by_cases h:n < 128
    · refine WP.fin fun J=>?_
      rw [vr,gH,dif_pos h]
      rw [gH,dif_pos h] at hl
      simp only [List.length_singleton] at hl
      simp (disch:=omega) only [bm,rQ,GN,iT,fm,aH,gr,bl,Cd]
      simp
    · cases k with
      | zero=>omega
      | succ k=>
        have e:acc++gH n=(acc++[UInt8.ofNat (n % 128+128)])++gH (n / 128):=by
          conv=>lhs; rw [gH,dif_neg h]
          simp
        have hlen:(gH n).length=(gH (n / 128)).length+1:=by
          conv=>lhs; rw [gH,dif_neg h]
          simp
        have hd:n / 128 < 128 ^ (k+1):=by
          apply Nat.div_lt_of_lt_mul
          rw [Nat.pow_succ] at hk
          omega
        have ih:=zq k (n / 128) (acc++[UInt8.ofNat (n % 128+128)]) hd (by omega) (by simp only [List.length_append,List.length_singleton]; omega)
        rw [e]
        refine WP.go _ ih fun J hJ=>?_
        rw [vr]
        have r1:ad.ar .rem .i64 (n:Int) 128=((n % 128:Nat):Int):=rfl
        have r2:ad.ar .add .i64 ((n % 128:Nat):Int) 128=((n % 128+128:Nat):Int):=tc (b:=128) (by omega)
        have r3:ad.ar .quo .i64 (n:Int) 128=((n / 128:Nat):Int):=Vb (b:=128) (by omega)
        simp (disch:=omega) only [aU,ec,bI,bW,aH,bc,r1,r2,r3,rQ,GN,iT,fm,gr]
        have e2:(acc++[UInt8.ofNat (n % 128+128)]).length=acc.length+1:=by simp
        rw [e2] at hJ
        exact hJ
theorem K8 (a:Int):Cm 163 [.int .i64 a] (.sl none 1 (du a).length (bytes (du a)),[.undef]):=by
  by_cases h:0≤a∧a≤2147483647
  · obtain ⟨n,rfl⟩:∃ n:Nat,a=n:=⟨a.toNat,by omega⟩
    have e:du (n:Int)=gH n:=by unfold du; rw [if_pos h]; rfl
    rw [e]
    have hl:=r9 4 n (by omega)
    refine Cm.go zi [.undef] 0 (kM (n:Int) 0 []) (zq 4 n [] (by omega) (by omega) (by simp; omega)) fun J hJ=>?_
    rw [zj]
    simp only [kD,aF,ao,decide_eq_true h,bI,bW,aH,bc]
    exact hJ
  · have e:du a=[]:=by unfold du; rw [if_neg h]
    rw [e]
    refine Cm.fin zi fun J=>?_
    rw [zj]
    simp only [kD,aF,ao,decide_eq_false h,bI,bW,aH,bc]
    rfl
theorem zr:∀ (k n:Nat) (acc:List UInt8),n < 128 ^ (k+1)→n < 2147483648→acc.length+(gH n).length < 1000000→WP 172 Tryz.f172 [.undef] 0 (kN (n:Int) acc.length (bytes acc)) (.sl none 1 (acc++gH n).length (bytes (acc++gH n)),[.undef])
  | k,n,acc,hk,hn,hl=>by
    by_cases h:n < 128
    · refine WP.fin fun J=>?_
      rw [vt,gH,dif_pos h]
      rw [gH,dif_pos h] at hl
      simp only [List.length_singleton] at hl
      simp (disch:=omega) only [bm,rQ,GN,iT,fm,aH,gr,bl,Cd]
      simp
    · cases k with
      | zero=>omega
      | succ k=>
        have e:acc++gH n=(acc++[UInt8.ofNat (n % 128+128)])++gH (n / 128):=by
          conv=>lhs; rw [gH,dif_neg h]
          simp
        have hlen:(gH n).length=(gH (n / 128)).length+1:=by
          conv=>lhs; rw [gH,dif_neg h]
          simp
        have hd:n / 128 < 128 ^ (k+1):=by
          apply Nat.div_lt_of_lt_mul
          rw [Nat.pow_succ] at hk
          omega
        have ih:=zr k (n / 128) (acc++[UInt8.ofNat (n % 128+128)]) hd (by omega) (by simp only [List.length_append,List.length_singleton]; omega)
        rw [e]
        refine WP.go _ ih fun J hJ=>?_
        rw [vt]
        have r1:ad.ar .rem .i64 (n:Int) 128=((n % 128:Nat):Int):=rfl
        have r2:ad.ar .add .i64 ((n % 128:Nat):Int) 128=((n % 128+128:Nat):Int):=tc (b:=128) (by omega)
        have r3:ad.ar .quo .i64 (n:Int) 128=((n / 128:Nat):Int):=Vb (b:=128) (by omega)
        simp (disch:=omega) only [aU,ec,bI,bW,aH,bc,r1,r2,r3,rQ,GN,iT,fm,gr]
        have e2:(acc++[UInt8.ofNat (n % 128+128)]).length=acc.length+1:=by simp
        rw [e2] at hJ
        exact hJ
theorem K9 (a:Int):Cm 172 [.int .i64 a] (.sl none 1 (du a).length (bytes (du a)),[.undef]):=by
  by_cases h:0≤a∧a≤2147483647
  · obtain ⟨n,rfl⟩:∃ n:Nat,a=n:=⟨a.toNat,by omega⟩
    have e:du (n:Int)=gH n:=by unfold du; rw [if_pos h]; rfl
    rw [e]
    have hl:=r9 4 n (by omega)
    refine Cm.go zk [.undef] 0 (kN (n:Int) 0 []) (zr 4 n [] (by omega) (by omega) (by simp; omega)) fun J hJ=>?_
    rw [zl]
    simp (disch:=omega) only [bm]
    exact hJ
  · have e:du a=[]:=by unfold du; rw [if_neg h]
    rw [e]
    refine Cm.fin zk fun J=>?_
    rw [zl]
    by_cases h0:a < 0
    · simp (disch:=omega) only [aU]
      rfl
    · simp (disch:=omega) only [bm,aU]
      rfl
section
variable (t:bG Rz)
theorem mN (a:Int):aO 163 [.int .i64 a] t=feed t [.sl none 1 (du a).length (bytes (du a))]:=aT (K8 a) (by kernel_rfl) t
theorem Lb (a:Int):aO 172 [.int .i64 a] t=feed t [.sl none 1 (du a).length (bytes (du a))]:=aT (K9 a) (by kernel_rfl) t
end
def qM (a:Nat):List UInt8:=[UInt8.ofNat a,UInt8.ofNat (a / 256),UInt8.ofNat (a / 65536),UInt8.ofNat (a / 16777216)]
theorem acC (a:Nat) (h:a < 4611686018427387904):Cm 167 [.int .i64 (a:Int)] (.sl none 1 4 (bytes (qM a)),[.undef]):=by
  refine Cm.fin PB fun J=>?_
  rw [PC]
  have r1:ad.ar .shr .i64 (a:Int) 8=((a / 256:Nat):Int):=xO a (k:=8) (by omega)
  have r2:ad.ar .shr .i64 (a:Int) 16=((a / 65536:Nat):Int):=xO a (k:=16) (by omega)
  have r3:ad.ar .shr .i64 (a:Int) 24=((a / 16777216:Nat):Int):=xO a (k:=24) (by omega)
  simp (disch:=omega) only [bm,bI,bW,aH,bc,r1,r2,r3,rQ]
  rfl
theorem ZX (x:Nat):UInt8.ofNat (x&&& 255)=UInt8.ofNat x:=by
  apply UInt8.toNat_inj.1
  have:x&&& 255=x % 256:=Nat.and_two_pow_sub_one_eq_mod x 8
  rw [this]
  simp
theorem ZY (a:Nat) (h:a < 4611686018427387904):Cm 158 [.int .i64 (a:Int)] (.sl none 1 4 (bytes (qM a)),[.undef]):=by
  refine Cm.fin Ou fun J=>?_
  rw [Ov]
  have r1:ad.ar .shr .i64 (a:Int) 8=((a / 256:Nat):Int):=xO a (k:=8) (by omega)
  have r2:ad.ar .shr .i64 (a:Int) 16=((a / 65536:Nat):Int):=xO a (k:=16) (by omega)
  have r3:ad.ar .shr .i64 (a:Int) 24=((a / 16777216:Nat):Int):=xO a (k:=24) (by omega)
  have q:∀ x:Nat,x < 4611686018427387904→ad.ar .and .i64 (x:Int) 255=((x&&& 255:Nat):Int):=fun x hx=>acB (b:=255) hx (by omega)
  simp (disch:=omega) only [bm,bI,bW,aH,bc,r1,r2,r3,q,rQ,ZX]
  rfl
def lA:Int × Int × Bool:=(0,0,false)
def iE (b:List UInt8) (p:Nat):Nat→Nat→Nat→Int × Int × Bool
  | 0,_,_=>lA
  | k+1,i,acc=>
    if h:p+i < b.length then
      if 128≤b[p+i].toNat then iE b p k (i+1) (acc+b[p+i].toNat % 128*128 ^ i)
      else if 2147483647 < acc+b[p+i].toNat % 128*128 ^ i∨(b[p+i].toNat=0∧0 < i) then lA
      else (((acc+b[p+i].toNat % 128*128 ^ i:Nat):Int),((p+i+1:Nat):Int),true)
    else lA
def gU (b:List UInt8) (a:Int):Int × Int × Bool:=if a < 0 then lA else iE b a.toNat 5 0 0
abbrev L5 (x:Int × Int × Bool):Rz:=(.aL [.int .i64 x.1,.int .i64 x.2.1,.bool x.2.2],[.undef,.undef])
theorem GO (i:Nat):128 ^ i=2 ^ (7*i):=by rw [Nat.pow_mul]
theorem zu (g:Bool) (b:List UInt8) (p:Nat) (hb:b.length < 4611686018427387904):∀ (k i acc:Nat),i+k=5→acc < 128 ^ i→WP 168 Tryz.f168 [.undef,.undef] 0 (nh g b.length (bytes b) (p:Int) (acc:Int) ((128 ^ i:Nat):Int) (i:Int)) (L5 (iE b p k i acc))
  | 0,i,acc,hi,ha=>by
    obtain rfl:i=5:=by omega
    refine WP.fin fun J=>?_
    rw [mw]
    simp (disch:=omega) only [bm]
    rfl
  | k+1,i,acc,hi,ha=>by
    have hpw:128 ^ i≤268435456:=by
      have:128 ^ i≤128 ^ 4:=Nat.pow_le_pow_right (by omega) (by omega)
      omega
    have hs:ad.ar .sub .i64 (ad.aS b.length) (i:Int)=(b.length:Int) - (i:Int):=ir (by simp only [aA]; omega) (by simp only [aA]; omega)
    by_cases h:p+i < b.length
    · have hd:b[p+i].toNat < 256:=b[p+i].toNat_lt
      have hm:b[p+i].toNat % 128 < 128:=Nat.mod_lt _ (by omega)
      have hx:b[p+i].toNat % 128*128 ^ i≤127*128 ^ i:=Nat.mul_le_mul_right _ (by omega)
      have r0:ad.ar .add .i64 (p:Int) (i:Int)=((p+i:Nat):Int):=tc (by omega)
      have r1:ad.bn (bytes b) (p+i)=(b[p+i].toNat:Int):=wZ h
      have r2:ad.wrap .i64 (b[p+i].toNat:Int)=(b[p+i].toNat:Int):=J3 (by omega)
      have r3:ad.ar .rem .i64 (b[p+i].toNat:Int) 128=((b[p+i].toNat % 128:Nat):Int):=rfl
      have r4:ad.ar .mul .i64 ((b[p+i].toNat % 128:Nat):Int) ((128 ^ i:Nat):Int)=((b[p+i].toNat % 128*128 ^ i:Nat):Int):=Ow (by omega)
      have r5:ad.ar .add .i64 (acc:Int) ((b[p+i].toNat % 128*128 ^ i:Nat):Int)=((acc+b[p+i].toNat % 128*128 ^ i:Nat):Int):=tc (by omega)
      by_cases hc:128≤b[p+i].toNat
      · have e:iE b p (k+1) i acc=iE b p k (i+1) (acc+b[p+i].toNat % 128*128 ^ i):=by
          rw [iE,dif_pos h,if_pos hc]
        rw [e]
        have ih:=zu g b p hb k (i+1) (acc+b[p+i].toNat % 128*128 ^ i) (by omega) (by rw [Nat.pow_succ]; omega)
        refine WP.go _ ih fun J hJ=>?_
        rw [mw]
        have r6:ad.ar .mul .i64 ((128 ^ i:Nat):Int) 128=((128 ^ i*128:Nat):Int):=Ow (b:=128) (by omega)
        simp (disch:=first | omega | assumption) only [hs,r0,cQ,r1,r2,r3,r4,r5,aU,bq,mV,ec,bl,bI,bW,aH,bc,Ce,r6,db]
        rw [← Nat.pow_succ]
        exact hJ
      · have r7:ad.ar .add .i64 ((p+i:Nat):Int) 1=((p+i+1:Nat):Int):=db (by omega)
        refine WP.fin fun J=>?_
        rw [mw,iE,dif_pos h,if_neg hc]
        simp (disch:=first | omega | assumption) only [hs,r0,cQ,r1,r2,r3,r4,r5,aU,bq,mV,ec,bl,bI,bW,aH,bc,oW,r7]
        by_cases h1:2147483647 < acc+b[p+i].toNat % 128*128 ^ i
        · rw [if_pos (Or.inl h1),aU (by omega)]
          rfl
        · rw [bm (by omega)]
          by_cases h2:b[p+i].toNat=0
          · rw [fQ (by omega)]
            by_cases h3:0 < i
            · rw [if_pos (Or.inr ⟨h2,h3⟩),aU (by omega)]
              rfl
            · rw [if_neg (by omega),bm (by omega)]
          · rw [if_neg (by omega),ec (by omega)]
    · refine WP.fin fun J=>?_
      rw [mw,iE,dif_neg h]
      simp (disch:=omega) only [hs,aU,bm]
      rfl
theorem zw (g:Bool) (b:List UInt8) (p:Nat) (hb:b.length < 4611686018427387904):∀ (k i acc:Nat),i+k=5→acc < 128 ^ i→WP 162 Tryz.f162 [.undef,.undef] 0 (kO g b.length (bytes b) (p:Int) (acc:Int) (i:Int)) (L5 (iE b p k i acc))
  | 0,i,acc,hi,ha=>by
    obtain rfl:i=5:=by omega
    refine WP.fin fun J=>?_
    rw [jW]
    simp (disch:=omega) only [bm]
    rfl
  | k+1,i,acc,hi,ha=>by
    have hpw:128 ^ i≤268435456:=by
      have:128 ^ i≤128 ^ 4:=Nat.pow_le_pow_right (by omega) (by omega)
      omega
    have hs:ad.ar .sub .i64 (ad.aS b.length) (i:Int)=(b.length:Int) - (i:Int):=ir (by simp only [aA]; omega) (by simp only [aA]; omega)
    by_cases h:p+i < b.length
    · have hd:b[p+i].toNat < 256:=b[p+i].toNat_lt
      have hm:b[p+i].toNat % 128 < 128:=Nat.mod_lt _ (by omega)
      have hx:b[p+i].toNat % 128*128 ^ i≤127*128 ^ i:=Nat.mul_le_mul_right _ (by omega)
      have r0:ad.ar .add .i64 (p:Int) (i:Int)=((p+i:Nat):Int):=tc (by omega)
      have r1:ad.bn (bytes b) (p+i)=(b[p+i].toNat:Int):=wZ h
      have r2:ad.wrap .i64 (b[p+i].toNat:Int)=(b[p+i].toNat:Int):=J3 (by omega)
      have r3:ad.ar .rem .i64 (b[p+i].toNat:Int) 128=((b[p+i].toNat % 128:Nat):Int):=rfl
      have r4:ad.ar .mul .i64 7 (i:Int)=((7*i:Nat):Int):=Ow (a:=7) (by omega)
      have r5:ad.ar .shl .i64 ((b[p+i].toNat % 128:Nat):Int) ((7*i:Nat):Int)=((b[p+i].toNat % 128*128 ^ i:Nat):Int):=by
        rw [GO]
        exact vu (by omega) (by rw [← GO]; omega)
      have r6:ad.ar .or .i64 (acc:Int) ((b[p+i].toNat % 128*128 ^ i:Nat):Int)=((acc+b[p+i].toNat % 128*128 ^ i:Nat):Int):=by
        rw [L4 (by omega) (by omega),GO,GM (by rw [← GO]; exact ha)]
      by_cases hc:128≤b[p+i].toNat
      · have e:iE b p (k+1) i acc=iE b p k (i+1) (acc+b[p+i].toNat % 128*128 ^ i):=by
          rw [iE,dif_pos h,if_pos hc]
        rw [e]
        have ih:=zw g b p hb k (i+1) (acc+b[p+i].toNat % 128*128 ^ i) (by omega) (by rw [Nat.pow_succ]; omega)
        refine WP.go _ ih fun J hJ=>?_
        rw [jW]
        simp (disch:=first | omega | assumption) only [hs,r0,cQ,r1,r2,r3,r4,r5,r6,aU,bm,oW,bq,mV,ec,bl,bI,bW,aH,bc,db]
        exact hJ
      · have r7:ad.ar .add .i64 ((p+i:Nat):Int) 1=((p+i+1:Nat):Int):=db (by omega)
        refine WP.fin fun J=>?_
        rw [jW,iE,dif_pos h,if_neg hc]
        have Qn:(b[p+i].toNat:Int) < 128:=by omega
        by_cases h1:2147483647 < acc+b[p+i].toNat % 128*128 ^ i
        · have oN:(2147483647:Int) < ((acc+b[p+i].toNat % 128*128 ^ i:Nat):Int):=by omega
          rw [if_pos (Or.inl h1)]
          simp (disch:=first | omega | assumption) only [hs,r0,cQ,r1,r2,r3,r4,r5,r6,aU Qn,aU oN,bm,oW,bq,mV,ec,bl,bI,bW,aH,bc,r7,Cd]
          rfl
        · have oN:((acc+b[p+i].toNat % 128*128 ^ i:Nat):Int)≤2147483647:=by omega
          have h0:(i:Int) < 5:=by omega
          by_cases h2:b[p+i].toNat=0
          · have TH:(b[p+i].toNat:Int)=0:=by omega
            by_cases h3:0 < i
            · have Fg:(0:Int) < (i:Int):=by omega
              rw [if_pos (Or.inr ⟨h2,h3⟩)]
              simp (disch:=first | omega | assumption) only [hs,r0,cQ,r1,r2,r3,r4,r5,r6,aU h0,aU Qn,aU Fg,fQ TH,bm,oW,bq,mV,ec,bl,bI,bW,aH,bc,r7]
              rfl
            · have Fg:(i:Int)≤0:=by omega
              rw [if_neg (by omega)]
              simp (disch:=first | omega | assumption) only [hs,r0,cQ,r1,r2,r3,r4,r5,r6,aU h0,aU Qn,bm Fg,bm oN,bm,oW,bq,mV,ec,bl,bI,bW,aH,bc,r7]
          · have TH:(b[p+i].toNat:Int)≠0:=by omega
            rw [if_neg (by omega)]
            simp (disch:=first | omega | assumption) only [hs,r0,cQ,r1,r2,r3,r4,r5,r6,aU h0,aU Qn,ec TH,bm oN,bm,oW,bq,mV,ec,bl,bI,bW,aH,bc,r7,Cd]
    · refine WP.fin fun J=>?_
      rw [jW,iE,dif_neg h]
      simp (disch:=omega) only [hs,aU,bm,Ce]
      rfl
theorem Lc (g:Bool) (b:List UInt8) (a:Int) (hb:b.length < 4611686018427387904):Cm 168 [.sl (some g) 1 b.length (bytes b),.int .i64 a] (L5 (gU b a)):=by
  unfold gU
  by_cases h:a < 0
  · rw [if_pos h]
    refine Cm.fin zo fun J=>?_
    rw [zp]
    simp (disch:=omega) only [aU]
    rfl
  · rw [if_neg h]
    obtain ⟨p,rfl⟩:∃ n:Nat,a=n:=⟨a.toNat,by omega⟩
    refine Cm.go zo [.undef,.undef] 0 _ (zu g b p hb 5 0 0 rfl (by omega)) fun J hJ=>?_
    rw [zp]
    simp (disch:=omega) only [bm]
    exact hJ
theorem Ld (g:Bool) (b:List UInt8) (a:Int) (hb:b.length < 4611686018427387904):Cm 162 [.sl (some g) 1 b.length (bytes b),.int .i64 a] (L5 (gU b a)):=by
  unfold gU
  by_cases h:a < 0
  · rw [if_pos h]
    refine Cm.go zm [.undef,.undef] 0 (kO g b.length (bytes b) a 0 0) (WP.fin fun J=>?_) fun J hJ=>?_
    · rw [jW]
      simp (disch:=omega) only [aU]
      rfl
    · rw [zn]
      exact hJ
  · rw [if_neg h]
    obtain ⟨p,rfl⟩:∃ n:Nat,a=n:=⟨a.toNat,by omega⟩
    refine Cm.go zm [.undef,.undef] 0 _ (zw g b p hb 5 0 0 rfl (by omega)) fun J hJ=>?_
    rw [zn]
    exact hJ
section
variable (t:bG Rz)
theorem Le (g:Bool) (b:List UInt8) (a:Int) (hb:b.length < 4611686018427387904):aO 168 [.sl (some g) 1 b.length (bytes b),.int .i64 a] t=feed t [.int .i64 (gU b a).1,.int .i64 (gU b a).2.1,.bool (gU b a).2.2]:=aT (Lc g b a hb) (by kernel_rfl) t
theorem Lf (g:Bool) (b:List UInt8) (a:Int) (hb:b.length < 4611686018427387904):aO 162 [.sl (some g) 1 b.length (bytes b),.int .i64 a] t=feed t [.int .i64 (gU b a).1,.int .i64 (gU b a).2.1,.bool (gU b a).2.2]:=aT (Ld g b a hb) (by kernel_rfl) t
end
end Go.Proofs.YtockoilcnmljiaaGreat
namespace Go.Proofs.YtockoilcnmljiaaGreat
set_option maxRecDepth 100000
section
variable (pr:dT) (cv:Cv Rz) (J:Nat→St→Option Rz)
theorem Ox:Told cfg Tryz.prog 156 Tryz.f156:=⟨by kernel_rfl,Tryz.func156,by kernel_rfl⟩
theorem Oy (n0:Nat) (c0:List D) (a1:Int) (a2:Bool):aQ pr cv J 156 Tryz.f156 [(.bf [(.sl (some false) 1 n0 c0),(.int .i64 a1),(.bool a2)])]=
    let y1:Option (D × List D):=(some ((.int .i64 0),[(.bf [(.sl (some false) 1 n0 c0),(.int .i64 a1),(.bool false)])]))
    (cv 162 [(.sl (some false) 1 n0 c0),(.int .i64 a1)] (.int (fun dm=>(.int (fun gP=>(.bool (fun iq=>(.done (br (br iq false true) y1 (br (br a2 false true) y1 (some ((.int .i64 dm),[(.bf [(.sl (some false) 1 n0 c0),(.int .i64 gP),(.bool a2)])])))))))))))):=by kernel_rfl
theorem Cq:Told cfg Tryz.prog 165 Tryz.f165:=⟨by kernel_rfl,Tryz.func165,by kernel_rfl⟩
theorem Cr (n0:Nat) (c0:List D) (a1:Int) (a2:Bool):aQ pr cv J 165 Tryz.f165 [(.bf [(.sl (some false) 1 n0 c0),(.int .i64 a1),(.bool a2)])]=
    (br (br a2 false true) (some ((.int .i64 0),[(.bf [(.sl (some false) 1 n0 c0),(.int .i64 a1),(.bool a2)])])) (cv 168 [(.sl (some false) 1 n0 c0),(.int .i64 a1)] (.int (fun dm=>(.int (fun gP=>(.bool (fun iq=>(.done (some ((.int .i64 dm),[(.bf [(.sl (some false) 1 n0 c0),(.int .i64 gP),(.bool iq)])]))))))))))):=by kernel_rfl
def ni (i0:Int) (i1:Int) (n2:Nat) (c3:List D) (i4:Int) (b5:Bool) (n6:Nat) (c7:List D):St:=(St.mk [(0,(.ptr 28 [] 0)),(3,(.ref 10003 [] 0 none)),(4,(.int .i64 i0)),(5,(.int .i64 i1))] [(28,[(.sl (some false) 1 n2 c3),(.int .i64 i4),(.bool b5)]),(10003,[(.sl none 1 n6 c7)])] [] 0)
theorem Lg:Told cfg Tryz.prog 155 Tryz.f155:=⟨by kernel_rfl,Tryz.func155,by kernel_rfl⟩
theorem Lh (n0:Nat) (c0:List D) (a1:Int) (a2:Bool):aQ pr cv J 155 Tryz.f155 [(.bf [(.sl (some false) 1 n0 c0),(.int .i64 a1),(.bool a2)])]=
    (br (br (br (pr.nl c0) true false) true false) (cv 156 [(.bf [(.sl (some false) 1 n0 c0),(.int .i64 a1),(.bool a2)])] (.int (fun dm=>(.jD (fun eN=>(fun ou=>(fun iJ=>(.int (fun nL=>(.bool (fun vi=>(.done (br (br (br (pr.nl iJ) true false) true false) (J 0 (ni dm 0 ou iJ nL vi 0 [])) none))))))))))))) none):=by kernel_rfl
theorem py (i0:Int) (i1:Int) (n2:Nat) (c3:List D) (i4:Int) (b5:Bool) (n6:Nat) (c7:List D):bJ pr cv J 155 Tryz.f155 [(.bf [])] 0 (ni i0 i1 n2 c3 i4 b5 n6 c7)=
    let y1:List D:=[(.bf [(.sl (some false) 1 n2 c3),(.int .i64 i4),(.bool b5)])]
    let y2:Option (D × List D):=(some ((.sl none 1 n6 c7),y1))
    (br (pr.lt i1 i0) (br b5 (br (br (br (pr.nl c3) true false) true false) (cv 156 y1 (.int (fun dm=>(.jD (fun eN=>(fun ou=>(fun iJ=>(.int (fun nL=>(.bool (fun vi=>(.done (br (br (br (pr.nl iJ) true false) true false) (br (br (pr.flat [(.int .i64 dm)]) (pr.fits (n6+1) 8) false) (J 0 (ni i0 (pr.ar .add .i64 i1 1) ou iJ nL vi (n6+1) (List.append c7 [(.int .i64 dm)]))) none) none))))))))))))) none) y2) y2):=by kernel_rfl
def jm (i0:Int) (i1:Int) (n2:Nat) (c3:List D) (i4:Int) (b5:Bool) (n6:Nat) (c7:List D):St:=(St.mk [(0,(.ptr 28 [] 0)),(3,(.ref 10003 [] 0 none)),(4,(.int .i64 i0)),(5,(.int .i64 i1))] [(28,[(.sl (some false) 1 n2 c3),(.int .i64 i4),(.bool b5)]),(10003,[(.sl none 1 n6 c7)])] [] 0)
theorem Bh:Told cfg Tryz.prog 164 Tryz.f164:=⟨by kernel_rfl,Tryz.func164,by kernel_rfl⟩
theorem Bi (n0:Nat) (c0:List D) (a1:Int) (a2:Bool):aQ pr cv J 164 Tryz.f164 [(.bf [(.sl (some false) 1 n0 c0),(.int .i64 a1),(.bool a2)])]=
    (br (br (br (pr.nl c0) true false) true false) (cv 165 [(.bf [(.sl (some false) 1 n0 c0),(.int .i64 a1),(.bool a2)])] (.int (fun dm=>(.jD (fun eN=>(fun ou=>(fun iJ=>(.int (fun nL=>(.bool (fun vi=>(.done (br (br (br (pr.nl iJ) true false) true false) (J 0 (jm dm 0 ou iJ nL vi 0 [])) none))))))))))))) none):=by kernel_rfl
theorem lX (i0:Int) (i1:Int) (n2:Nat) (c3:List D) (i4:Int) (b5:Bool) (n6:Nat) (c7:List D):bJ pr cv J 164 Tryz.f164 [(.bf [])] 0 (jm i0 i1 n2 c3 i4 b5 n6 c7)=
    let y1:List D:=[(.bf [(.sl (some false) 1 n2 c3),(.int .i64 i4),(.bool b5)])]
    let y2:Option (D × List D):=(some ((.sl none 1 n6 c7),y1))
    (br (pr.lt i1 i0) (br b5 (br (br (br (pr.nl c3) true false) true false) (cv 165 y1 (.int (fun dm=>(.jD (fun eN=>(fun ou=>(fun iJ=>(.int (fun nL=>(.bool (fun vi=>(.done (br (br (br (pr.nl iJ) true false) true false) (br (br (pr.flat [(.int .i64 dm)]) (pr.fits (n6+1) 8) false) (J 0 (jm i0 (pr.ar .add .i64 i1 1) ou iJ nL vi (n6+1) (List.append c7 [(.int .i64 dm)]))) none) none))))))))))))) none) y2) y2):=by kernel_rfl
end
theorem gI {R:Type} (f:Bool→Nat→List D→bG R) (g:Bool) (s n:Nat) (cs l:List D):feed (.jD f) (.sl (some g) s n cs::l)=feed (f g n cs) l:=rfl
theorem GP (b:List UInt8) (p:Nat):∀ k i acc,0≤(iE b p k i acc).1∧(iE b p k i acc).1≤2147483647
  | 0,_,_=>by simp [iE,lA]
  | k+1,i,acc=>by
    rw [iE]
    split
    · split
      · exact GP b p k _ _
      · split
        · simp [lA]
        · simp only
          omega
    · simp [lA]
theorem GQ (b:List UInt8) (a:Int):0≤(gU b a).1∧(gU b a).1≤2147483647:=by
  unfold gU
  split
  · simp [lA]
  · exact GP b _ _ _ _
theorem J4 (b:List UInt8) (p:Nat):∀ k i acc,(iE b p k i acc).2.2=true→(p:Int) < (iE b p k i acc).2.1∧(iE b p k i acc).2.1≤b.length
  | 0,_,_,h=>by simp [iE,lA] at h
  | k+1,i,acc,h=>by
    rw [iE] at h ⊢
    split at h
    · rename_i h1
      rw [dif_pos h1]
      split at h
      · rename_i h2
        rw [if_pos h2]
        exact J4 b p k _ _ h
      · rename_i h2
        rw [if_neg h2]
        split at h
        · simp [lA] at h
        · rename_i h3
          rw [if_neg h3]
          simp only
          omega
    · simp [lA] at h
theorem J5 (b:List UInt8) (a:Int) (h:(gU b a).2.2=true):0≤a∧a < (gU b a).2.1∧(gU b a).2.1≤b.length:=by
  unfold gU at h ⊢
  split at h
  · simp [lA] at h
  · rename_i h1
    rw [if_neg h1]
    have:=J4 b a.toNat _ _ _ h
    omega
abbrev wC (b:List UInt8) (c:Int × Bool):D:=.bf [s8 (some false) b,.int .i64 c.1,.bool c.2]
def bH (b:List UInt8) (c:Int × Bool):Int × (Int × Bool):=if (gU b c.1).2.2&&c.2 then ((gU b c.1).1,((gU b c.1).2.1,true)) else (0,(c.1,false))
def bK (b:List UInt8) (c:Int × Bool):Int × (Int × Bool):=if c.2 then ((gU b c.1).1,((gU b c.1).2.1,(gU b c.1).2.2)) else (0,c)
theorem Sp (b:List UInt8) (c:Int × Bool):0≤(bH b c).1∧(bH b c).1≤2147483647:=by
  have:=GQ b c.1
  unfold bH
  split<;>simp [this]
theorem Sq (b:List UInt8) (c:Int × Bool):0≤(bK b c).1∧(bK b c).1≤2147483647:=by
  have:=GQ b c.1
  unfold bK
  split<;>simp [this]
theorem Sr (b:List UInt8) (c:Int × Bool) (hb:b.length < 4611686018427387904):Cm 156 [wC b c] (.int .i64 (bH b c).1,[wC b (bH b c).2]):=by
  obtain ⟨p,k⟩:=c
  refine Cm.fin Ox fun J=>?_
  rw [Oy]
  simp (disch:=assumption) only [Lf,bX,aF,ao]
  unfold bH
  cases (gU b p).2.2<;>cases k<;>rfl
theorem Ss (b:List UInt8) (c:Int × Bool) (hb:b.length < 4611686018427387904):Cm 165 [wC b c] (.int .i64 (bK b c).1,[wC b (bK b c).2]):=by
  obtain ⟨p,k⟩:=c
  refine Cm.fin Cq fun J=>?_
  rw [Cr]
  simp (disch:=assumption) only [Le,bX,aF,ao]
  unfold bK
  cases k<;>rfl
section
variable (t:bG Rz)
theorem yL (b:List UInt8) (p:Int) (k:Bool) (hb:b.length < 4611686018427387904):aO 156 [.bf [.sl (some false) 1 b.length (bytes b),.int .i64 p,.bool k]] t=feed t [.int .i64 (bH b (p,k)).1,.sl (some false) 1 b.length (bytes b),.int .i64 (bH b (p,k)).2.1,.bool (bH b (p,k)).2.2]:=aT (Sr b (p,k) hb) (by kernel_rfl) t
theorem yM (b:List UInt8) (p:Int) (k:Bool) (hb:b.length < 4611686018427387904):aO 165 [.bf [.sl (some false) 1 b.length (bytes b),.int .i64 p,.bool k]] t=feed t [.int .i64 (bK b (p,k)).1,.sl (some false) 1 b.length (bytes b),.int .i64 (bK b (p,k)).2.1,.bool (bK b (p,k)).2.2]:=aT (Ss b (p,k) hb) (by kernel_rfl) t
end
def nP (num:List UInt8→Int × Bool→Int × (Int × Bool)) (b:List UInt8):Nat→Int × Bool→List Int→List Int × (Int × Bool)
  | 0,c,out=>(out,c)
  | k+1,c,out=>if c.2 then nP num b k (num b c).2 (out++[(num b c).1]) else (out,c)
def bd (num:List UInt8→Int × Bool→Int × (Int × Bool)) (b:List UInt8) (c:Int × Bool):List Int × (Int × Bool):=nP num b (num b c).1.toNat (num b c).2 []
theorem Vc {R:Type} {x y:R} (a:Int):br (ad.flat [.int .i64 a]) x y=x:=rfl
theorem J6 (xs:List Int) (a:Int):List.append (ints xs) [.int .i64 a]=ints (xs++[a]):=by simp [ints]
theorem Dd (b:List UInt8) (hb:b.length < 4611686018427387904) (n:Nat) (hn:n≤2147483647):∀ (k i:Nat) (c:Int × Bool) (out:List Int),i+k=n→out.length≤i→WP 155 Tryz.f155 [.bf []] 0 (ni (n:Int) (i:Int) b.length (bytes b) c.1 c.2 out.length (ints out)) (.sl none 1 (nP bH b k c out).1.length (ints (nP bH b k c out).1),[wC b (nP bH b k c out).2])
  | 0,i,c,out,hi,ho=>by
    refine WP.fin fun J=>?_
    rw [py]
    simp (disch:=omega) only [bm]
    rfl
  | k+1,i,c,out,hi,ho=>by
    obtain ⟨p,q⟩:=c
    cases q with
    | false=>
      refine WP.fin fun J=>?_
      rw [py]
      simp (disch:=omega) only [aU,bc]
      rfl
    | true=>
      have e:nP bH b (k+1) (p,true) out=nP bH b k (bH b (p,true)).2 (out++[(bH b (p,true)).1]):=by rw [nP,if_pos rfl]
      rw [e]
      have ih:=Dd b hb n hn k (i+1) (bH b (p,true)).2 (out++[(bH b (p,true)).1]) (by omega) (by simp only [List.length_append,List.length_singleton]; omega)
      refine WP.go _ ih fun J hJ=>?_
      rw [py]
      simp (disch:=first | omega | assumption) only [aU,aH,eB,bl,yL,bX,gI,aF,ao,Vc,fm,J6,db]
      have e2:(out++[(bH b (p,true)).1]).length=out.length+1:=by simp
      rw [e2] at hJ
      exact hJ
theorem PE (b:List UInt8) (c:Int × Bool) (hb:b.length < 4611686018427387904):Cm 155 [wC b c] (.sl none 1 (bd bH b c).1.length (ints (bd bH b c).1),[wC b (bd bH b c).2]):=by
  obtain ⟨p,q⟩:=c
  have hn:=Sp b (p,q)
  have en:(((bH b (p,q)).1.toNat:Nat):Int)=(bH b (p,q)).1:=by omega
  refine Cm.go Lg [.bf []] 0 _ (Dd b hb (bH b (p,q)).1.toNat (by omega) (bH b (p,q)).1.toNat 0 (bH b (p,q)).2 [] (by omega) (by simp)) fun J hJ=>?_
  rw [Lh]
  simp (disch:=first | omega | assumption) only [aH,eB,bl,yL,bX,gI,aF,ao]
  rw [en] at hJ
  exact hJ
theorem sa (b:List UInt8) (p:Int) (k:Bool) (hb:b.length < 4611686018427387904) (t:bG Rz):aO 155 [.bf [.sl (some false) 1 b.length (bytes b),.int .i64 p,.bool k]] t=feed t [.sl none 1 (bd bH b (p,k)).1.length (ints (bd bH b (p,k)).1),.sl (some false) 1 b.length (bytes b),.int .i64 (bd bH b (p,k)).2.1,.bool (bd bH b (p,k)).2.2]:=aT (PE b (p,k) hb) (by kernel_rfl) t
theorem De (b:List UInt8) (hb:b.length < 4611686018427387904) (n:Nat) (hn:n≤2147483647):∀ (k i:Nat) (c:Int × Bool) (out:List Int),i+k=n→out.length≤i→WP 164 Tryz.f164 [.bf []] 0 (jm (n:Int) (i:Int) b.length (bytes b) c.1 c.2 out.length (ints out)) (.sl none 1 (nP bK b k c out).1.length (ints (nP bK b k c out).1),[wC b (nP bK b k c out).2])
  | 0,i,c,out,hi,ho=>by
    refine WP.fin fun J=>?_
    rw [lX]
    simp (disch:=omega) only [bm]
    rfl
  | k+1,i,c,out,hi,ho=>by
    obtain ⟨p,q⟩:=c
    cases q with
    | false=>
      refine WP.fin fun J=>?_
      rw [lX]
      simp (disch:=omega) only [aU,bc]
      rfl
    | true=>
      have e:nP bK b (k+1) (p,true) out=nP bK b k (bK b (p,true)).2 (out++[(bK b (p,true)).1]):=by rw [nP,if_pos rfl]
      rw [e]
      have ih:=De b hb n hn k (i+1) (bK b (p,true)).2 (out++[(bK b (p,true)).1]) (by omega) (by simp only [List.length_append,List.length_singleton]; omega)
      refine WP.go _ ih fun J hJ=>?_
      rw [lX]
      simp (disch:=first | omega | assumption) only [aU,aH,eB,bl,yM,bX,gI,aF,ao,Vc,fm,J6,db]
      have e2:(out++[(bK b (p,true)).1]).length=out.length+1:=by simp
      rw [e2] at hJ
      exact hJ
theorem PF (b:List UInt8) (c:Int × Bool) (hb:b.length < 4611686018427387904):Cm 164 [wC b c] (.sl none 1 (bd bK b c).1.length (ints (bd bK b c).1),[wC b (bd bK b c).2]):=by
  obtain ⟨p,q⟩:=c
  have hn:=Sq b (p,q)
  have en:(((bK b (p,q)).1.toNat:Nat):Int)=(bK b (p,q)).1:=by omega
  refine Cm.go Bh [.bf []] 0 _ (De b hb (bK b (p,q)).1.toNat (by omega) (bK b (p,q)).1.toNat 0 (bK b (p,q)).2 [] (by omega) (by simp)) fun J hJ=>?_
  rw [Bi]
  simp (disch:=first | omega | assumption) only [aH,eB,bl,yM,bX,gI,aF,ao]
  rw [en] at hJ
  exact hJ
theorem sb (b:List UInt8) (p:Int) (k:Bool) (hb:b.length < 4611686018427387904) (t:bG Rz):aO 164 [.bf [.sl (some false) 1 b.length (bytes b),.int .i64 p,.bool k]] t=feed t [.sl none 1 (bd bK b (p,k)).1.length (ints (bd bK b (p,k)).1),.sl (some false) 1 b.length (bytes b),.int .i64 (bd bK b (p,k)).2.1,.bool (bd bK b (p,k)).2.2]:=aT (PF b (p,k) hb) (by kernel_rfl) t
end Go.Proofs.YtockoilcnmljiaaGreat
namespace Go.Proofs.YtockoilcnmljiaaGreat
set_option maxRecDepth 100000
section
variable (pr:dT) (cv:Cv Rz) (J:Nat→St→Option Rz)
def jX (g0:Bool) (n1:Nat) (c2:List D) (i3:Int) (i4:Int) (n5:Nat) (c6:List D):St:=(St.mk [(3,(.ref 10003 [] 0 none)),(7,(.sl (some g0) 1 n1 c2)),(8,(.int .i64 i3)),(9,(.int .i64 i4))] [(10003,[(.sl none 1 n5 c6)])] [] 0)
theorem IG:Told cfg Tryz.prog 170 Tryz.f170:=⟨by kernel_rfl,Tryz.func170,by kernel_rfl⟩
theorem IH (g0:Bool) (n0:Nat) (c0:List D):aQ pr cv J 170 Tryz.f170 [(.sl (some g0) 1 n0 c0)]=
    (J 0 (jX g0 n0 c0 (pr.aS n0) 0 0 [])):=by kernel_rfl
theorem tL (g0:Bool) (n1:Nat) (c2:List D) (i3:Int) (i4:Int) (n5:Nat) (c6:List D):bJ pr cv J 170 Tryz.f170 [.undef] 0 (jX g0 n1 c2 i3 i4 n5 c6)=
    (br (pr.lt i4 i3) (br (pr.bD i4 n1) (br (br (pr.cw .i64 c2 (pr.idx 0 i4 1)) true false) (cv 172 [(.int .i64 (pr.bn c2 (pr.idx 0 i4 1)))] (.sl (fun dU=>(fun dp=>(.done (br (br (br (pr.nl dp) true false) true false) (br (br (pr.flat dp) (pr.fits (n5+dU) 1) false) (J 0 (jX g0 n1 c2 i3 (pr.ar .add .i64 i4 1) (n5+dU) (List.append c6 dp))) none) none)))))) none) none) (some ((.sl none 1 n5 c6),[.undef]))):=by kernel_rfl
theorem II:Told cfg Tryz.prog 169 Tryz.f169:=⟨by kernel_rfl,Tryz.func169,by kernel_rfl⟩
theorem IJ (g0:Bool) (n0:Nat) (c0:List D):aQ pr cv J 169 Tryz.f169 [(.sl (some g0) 1 n0 c0)]=
    (cv 170 [(.sl (some true) 1 1 [(.int .i64 (pr.aS n0))])] (.sl (fun dU=>(fun dp=>(.done (br (br (br (pr.nl dp) true false) true false) (cv 170 [(.sl (some g0) 1 n0 c0)] (.sl (fun ou=>(fun iJ=>(.done (br (br (br (pr.nl iJ) true false) true false) (br (br (pr.flat iJ) (pr.fits (dU+ou) 1) false) (some ((.sl none 1 (dU+ou) (List.append dp iJ)),[.undef])) none) none)))))) none)))))):=by kernel_rfl
def kP (i0:Int) (g1:Bool) (n2:Nat) (c3:List D) (g4:Bool) (n5:Nat) (c6:List D) (b7:Bool) (b8:Bool) (b9:Bool) (i10:Int) (eR:Nat) (fo:List D):St:=(St.mk [(1,(.ptr 1 [] 0)),(3,(.ref 10003 [] 0 none)),(4,(.int .i64 i0))] [(1,[(.sl (some g1) 1 n2 c3),(.sl (some g4) 1 n5 c6),(.bool b7),(.bool b8),(.bool b9),(.int .i64 i10)]),(10003,[(.sl none 1 eR fo)])] [] 0)
def kQ (i0:Int) (g1:Bool) (n2:Nat) (c3:List D) (g4:Bool) (n5:Nat) (c6:List D) (b7:Bool) (b8:Bool) (b9:Bool) (i10:Int) (eR:Nat) (fo:List D):St:=(St.mk [(1,(.ptr 1 [] 0)),(3,(.ref 10003 [] 0 none)),(5,(.int .i64 i0))] [(1,[(.sl (some g1) 1 n2 c3),(.sl (some g4) 1 n5 c6),(.bool b7),(.bool b8),(.bool b9),(.int .i64 i10)]),(10003,[(.sl none 1 eR fo)])] [] 0)
def kR (i0:Int) (i1:Int) (g2:Bool) (n3:Nat) (c4:List D) (g5:Bool) (n6:Nat) (c7:List D) (b8:Bool) (b9:Bool) (jt:Bool) (i11:Int) (fE:Nat) (gg:List D):St:=(St.mk [(1,(.ptr 1 [] 0)),(3,(.ref 10003 [] 0 none)),(5,(.int .i64 i0)),(6,(.int .i64 i1))] [(1,[(.sl (some g2) 1 n3 c4),(.sl (some g5) 1 n6 c7),(.bool b8),(.bool b9),(.bool jt),(.int .i64 i11)]),(10003,[(.sl none 1 fE gg)])] [] 0)
theorem vv:Told cfg Tryz.prog 157 Tryz.f157:=⟨by kernel_rfl,Tryz.func157,by kernel_rfl⟩
theorem vw (g0:Bool) (n0:Nat) (c0:List D) (g1:Bool) (n1:Nat) (c1:List D) (a2:Bool) (a3:Bool) (a4:Bool) (a5:Int):aQ pr cv J 157 Tryz.f157 [(.agg [(.sl (some g0) 1 n0 c0),(.sl (some g1) 1 n1 c1),(.bool a2),(.bool a3),(.bool a4),(.int .i64 a5)])]=
    let y1:List D:=[(.sl (some g0) 1 n0 c0),(.sl (some g1) 1 n1 c1),(.bool a2),(.bool a3),(.bool a4),(.int .i64 a5)]
    (cv 100 [(.agg y1)] (.bool (fun cf=>(.done (br (br cf false true) (some ((.sl none 1 0 []),[.undef])) (cv 163 [(.int .i64 (pr.aS n0))] (.sl (fun tH=>(fun qE=>(.done (br (br (br (pr.nl qE) true false) true false) (J 0 (kP 0 g0 n0 c0 g1 n1 c1 a2 a3 a4 a5 tH qE)) none))))))))))):=by kernel_rfl
theorem re (i0:Int) (g1:Bool) (n2:Nat) (c3:List D) (g4:Bool) (n5:Nat) (c6:List D) (b7:Bool) (b8:Bool) (b9:Bool) (i10:Int) (eR:Nat) (fo:List D):bJ pr cv J 157 Tryz.f157 [.undef] 0 (kP i0 g1 n2 c3 g4 n5 c6 b7 b8 b9 i10 eR fo)=
    (br (pr.lt i0 (pr.aS n2)) (br (pr.bD i0 n2) (br (br (pr.cw .i64 c3 (pr.idx 0 i0 1)) true false) (cv 163 [(.int .i64 (pr.bn c3 (pr.idx 0 i0 1)))] (.sl (fun dU=>(fun dp=>(.done (br (br (br (pr.nl dp) true false) true false) (br (br (pr.flat dp) (pr.fits (eR+dU) 1) false) (J 0 (kP (pr.ar .add .i64 i0 1) g1 n2 c3 g4 n5 c6 b7 b8 b9 i10 (eR+dU) (List.append fo dp))) none) none)))))) none) none) (J 2 (kQ 0 g1 n2 c3 g4 n5 c6 b7 b8 b9 i10 eR fo))):=by kernel_rfl
theorem rf (i0:Int) (g1:Bool) (n2:Nat) (c3:List D) (g4:Bool) (n5:Nat) (c6:List D) (b7:Bool) (b8:Bool) (b9:Bool) (i10:Int) (eR:Nat) (fo:List D):bJ pr cv J 157 Tryz.f157 [.undef] 2 (kQ i0 g1 n2 c3 g4 n5 c6 b7 b8 b9 i10 eR fo)=
    (br (pr.lt i0 3) (br (pr.bD i0 n5) (br (br (pr.bU 1 c6 (pr.idx 0 i0 1)) true false) (cv 163 [(.int .i64 (pr.aS (pr.aR c6 (pr.idx 0 i0 1))))] (.sl (fun dU=>(fun dp=>(.done (br (br (br (pr.nl dp) true false) true false) (br (br (pr.flat dp) (pr.fits (eR+dU) 1) false) (J 4 (kR i0 0 g1 n2 c3 g4 n5 c6 b7 b8 b9 i10 (eR+dU) (List.append fo dp))) none) none)))))) none) none) (cv 81 [(.bool b7)] (.int (fun qD=>(.done (cv 81 [(.bool b8)] (.int (fun q8=>(.done (cv 81 [(.bool b9)] (.int (fun nL=>(.done (cv 163 [(.int .i64 (pr.ar .add .i64 (pr.ar .add .i64 qD (pr.ar .mul .i64 2 q8)) (pr.ar .mul .i64 4 nL)))] (.sl (fun QS=>(fun Oz=>(.done (br (br (br (pr.nl Oz) true false) true false) (br (br (pr.flat Oz) (pr.fits (eR+QS) 1) false) (cv 163 [(.int .i64 i10)] (.sl (fun YL=>(fun QT=>(.done (br (br (br (pr.nl QT) true false) true false) (br (br (pr.flat QT) (pr.fits ((eR+QS)+YL) 1) false) (some ((.sl none 1 ((eR+QS)+YL) (List.append (List.append fo Oz) QT)),[.undef])) none) none)))))) none) none))))))))))))))))))):=by kernel_rfl
theorem rh (i0:Int) (i1:Int) (g2:Bool) (n3:Nat) (c4:List D) (g5:Bool) (n6:Nat) (c7:List D) (b8:Bool) (b9:Bool) (jt:Bool) (i11:Int) (fE:Nat) (gg:List D):bJ pr cv J 157 Tryz.f157 [.undef] 4 (kR i0 i1 g2 n3 c4 g5 n6 c7 b8 b9 jt i11 fE gg)=
    (br (pr.bD i0 n6) (br (br (pr.bU 1 c7 (pr.idx 0 i0 1)) true false) (br (pr.lt i1 (pr.aS (pr.aR c7 (pr.idx 0 i0 1)))) (br (pr.bD i0 n6) (br (br (pr.bU 1 c7 (pr.idx 0 i0 1)) true false) (br (pr.bD i1 (pr.aR c7 (pr.idx 0 i0 1))) (br (br (pr.cw .i64 (pr.aV c7 (pr.idx 0 i0 1)) (pr.idx 0 i1 1)) true false) (cv 163 [(.int .i64 (pr.bn (pr.aV c7 (pr.idx 0 i0 1)) (pr.idx 0 i1 1)))] (.sl (fun dU=>(fun dp=>(.done (br (br (br (pr.nl dp) true false) true false) (br (br (pr.flat dp) (pr.fits (fE+dU) 1) false) (J 4 (kR i0 (pr.ar .add .i64 i1 1) g2 n3 c4 g5 n6 c7 b8 b9 jt i11 (fE+dU) (List.append gg dp))) none) none)))))) none) none) none) none) (J 2 (kQ (pr.ar .add .i64 i0 1) g2 n3 c4 g5 n6 c7 b8 b9 jt i11 fE gg))) none) none):=by kernel_rfl
def iF (g0:Bool) (n1:Nat) (c2:List D) (i3:Int) (i4:Int) (g5:Bool) (n6:Nat) (c7:List D) (b8:Bool) (b9:Bool) (jt:Bool) (i11:Int) (fE:Nat) (gg:List D):St:=(St.mk [(1,(.ptr 1 [] 0)),(3,(.ref 10003 [] 0 none)),(13,(.sl (some g0) 1 n1 c2)),(14,(.int .i64 i3)),(15,(.int .i64 i4))] [(1,[(.sl (some g5) 1 n6 c7),(.sl (some g0) 1 n1 c2),(.bool b8),(.bool b9),(.bool jt),(.int .i64 i11)]),(10003,[(.sl none 1 fE gg)])] [] 0)
theorem vx:Told cfg Tryz.prog 166 Tryz.f166:=⟨by kernel_rfl,Tryz.func166,by kernel_rfl⟩
theorem vy (g0:Bool) (n0:Nat) (c0:List D) (g1:Bool) (n1:Nat) (c1:List D) (a2:Bool) (a3:Bool) (a4:Bool) (a5:Int):aQ pr cv J 166 Tryz.f166 [(.agg [(.sl (some g0) 1 n0 c0),(.sl (some g1) 1 n1 c1),(.bool a2),(.bool a3),(.bool a4),(.int .i64 a5)])]=
    let y1:List D:=[(.sl (some g0) 1 n0 c0),(.sl (some g1) 1 n1 c1),(.bool a2),(.bool a3),(.bool a4),(.int .i64 a5)]
    (cv 111 [(.agg y1)] (.bool (fun cf=>(.done (br (br cf false true) (some ((.sl none 1 0 []),[.undef])) (cv 169 [(.sl (some g0) 1 n0 c0)] (.sl (fun tH=>(fun qE=>(.done (br (br (br (pr.nl qE) true false) true false) (J 0 (iF g1 n1 c1 (pr.aS n1) 0 g0 n0 c0 a2 a3 a4 a5 tH qE)) none))))))))))):=by kernel_rfl
theorem ri (g0:Bool) (n1:Nat) (c2:List D) (i3:Int) (i4:Int) (g5:Bool) (n6:Nat) (c7:List D) (b8:Bool) (b9:Bool) (jt:Bool) (i11:Int) (fE:Nat) (gg:List D):bJ pr cv J 166 Tryz.f166 [.undef] 0 (iF g0 n1 c2 i3 i4 g5 n6 c7 b8 b9 jt i11 fE gg)=
    (br (pr.lt i4 i3) (br (pr.bD i4 n1) (br (br (pr.bU 1 c2 (pr.idx 0 i4 1)) true false) (cv 169 [(.sl (some (pr.bo c2 (pr.idx 0 i4 1))) 1 (pr.aR c2 (pr.idx 0 i4 1)) (pr.aV c2 (pr.idx 0 i4 1)))] (.sl (fun dU=>(fun dp=>(.done (br (br (br (pr.nl dp) true false) true false) (br (br (pr.flat dp) (pr.fits (fE+dU) 1) false) (J 0 (iF g0 n1 c2 i3 (pr.ar .add .i64 i4 1) g5 n6 c7 b8 b9 jt i11 (fE+dU) (List.append gg dp))) none) none)))))) none) none) (cv 171 [(.bool b8),(.int .i64 1)] (.int (fun qD=>(.done (cv 171 [(.bool b9),(.int .i64 2)] (.int (fun q8=>(.done (cv 171 [(.bool jt),(.int .i64 4)] (.int (fun nL=>(.done (cv 170 [(.sl (some true) 1 2 [(.int .i64 (pr.ar .add .i64 (pr.ar .add .i64 qD q8) nL)),(.int .i64 i11)])] (.sl (fun QS=>(fun Oz=>(.done (br (br (br (pr.nl Oz) true false) true false) (br (br (pr.flat Oz) (pr.fits (fE+QS) 1) false) (some ((.sl none 1 (fE+QS) (List.append gg Oz)),[.undef])) none) none))))))))))))))))))):=by kernel_rfl
end
def eH (xs:List Int):List UInt8:=xs.flatMap du
theorem ke:∀ xs:List Int,(eH xs).length≤5*xs.length
  | []=>by simp [eH]
  | x::xs=>by
    have h1:=ke xs
    have h2:=fy x
    simp only [eH,List.flatMap_cons,List.length_append,List.length_cons] at h1 ⊢
    omega
theorem wD {xs:List Int} {i:Nat} (h:i < xs.length):eH (xs.take (i+1))=eH (xs.take i)++du xs[i]:=by
  unfold eH
  rw [← List.take_append_getElem h,List.flatMap_append,List.flatMap_cons,List.flatMap_nil,List.append_nil]
def dc (xs:List Int):List UInt8:=du (xs.length:Int)++eH xs
theorem nj (xs:List Int):(dc xs).length≤5+5*xs.length:=by
  have h1:=ke xs
  have h2:=fy (xs.length:Int)
  simp only [dc,List.length_append]
  omega
def fC (xss:List (List Int)):List UInt8:=xss.flatMap dc
theorem nQ:∀ xss:List (List Int),(∀ xs∈xss,xs.length≤1048576)→(fC xss).length≤5242885*xss.length
  | [],_=>by simp [fC]
  | xs::xss,h=>by
    have h1:=nQ xss fun x hx=>h x (List.mem_cons_of_mem _ hx)
    have h2:=nj xs
    have h3:=h xs List.mem_cons_self
    simp only [fC,List.flatMap_cons,List.length_append,List.length_cons] at h1 ⊢
    omega
theorem GR {xss:List (List Int)} {i:Nat} (h:i < xss.length):fC (xss.take (i+1))=fC (xss.take i)++dc xss[i]:=by
  unfold fC
  rw [← List.take_append_getElem h,List.flatMap_append,List.flatMap_cons,List.flatMap_nil,List.append_nil]
def rR (b:Bool) (k:Int):Int:=if b then k else 0
def mO (m:aI):Int:=rR m.cI 1+rR m.bN 2+rR m.held 4
def cH (m:aI):List UInt8:=if gL m then (dc m.ay++fC m.bits)++(du (mO m)++du m.last) else []
theorem ZZ (b:Bool):Cm 81 [.bool b] (.int .i64 (rR b 1),[.undef]):=by
  refine Cm.fin Oj fun J=>?_
  rw [Ok]
  cases b<;>rfl
theorem acD (b:Bool) (k:Int):Cm 171 [.bool b,.int .i64 k] (.int .i64 (rR b k),[.undef,.undef]):=by
  refine Cm.fin Pr fun J=>?_
  rw [Pt]
  cases b<;>rfl
theorem Vd (g:Bool) (xs:List Int) (hb:xs.length≤1048576):Cm 170 [.sl (some g) 1 xs.length (ints xs)] (.sl none 1 (eH xs).length (bytes (eH xs)),[.undef]):=by
  refine Cm.go IG [.undef] 0 (jX g xs.length (ints xs) xs.length (0:Nat) 0 []) ?_ fun J hJ=>?_
  · refine WP.loop (H:=fun i:Nat=>jX g xs.length (ints xs) xs.length (i:Nat) (eH (xs.take i)).length (bytes (eH (xs.take i)))) (n:=xs.length) (fun _=>True) (fun i hi _ ih=>WP.go _ (ih trivial) fun J hJ=>?_) (fun _=>WP.fin fun J=>?_) 0 (Nat.zero_le _) trivial
    · have l1:=ke (xs.take i)
      have l2:=fy xs[i]
      have l3:(xs.take i).length≤xs.length:=by simp; omega
      rw [tL]
      simp (disch:=first | omega | assumption) only [aU,bq,cQ,dH,dI,Lb,dt,ao,eB,aH,bl,iT,fm,gr,db]
      rw [wD hi,List.length_append] at hJ
      exact hJ
    · rw [tL]
      simp (disch:=omega) only [bm,List.take_length]
  · rw [IH]
    exact hJ
section
variable (t:bG Rz)
theorem Z0 (b:Bool):aO 81 [.bool b] t=feed t [.int .i64 (rR b 1)]:=aT (ZZ b) (by kernel_rfl) t
theorem acE (b:Bool) (k:Int):aO 171 [.bool b,.int .i64 k] t=feed t [.int .i64 (rR b k)]:=aT (acD b k) (by kernel_rfl) t
theorem Bj (g:Bool) (xs:List Int) (n:Nat) (hn:n=xs.length) (hb:xs.length≤1048576):aO 170 [.sl (some g) 1 n (ints xs)] t=feed t [.sl none 1 (eH xs).length (bytes (eH xs))]:=by subst hn; exact aT (Vd g xs hb) (by kernel_rfl) t
theorem Su (g:Bool) (a:Int):aO 170 [.sl (some g) 1 1 [.int .i64 a]] t=feed t [.sl none 1 (du a).length (bytes (du a))]:=by
  have e:eH [a]=du a:=by simp [eH]
  rw [← e]
  exact Bj t g [a] 1 rfl (by simp)
theorem Sv (g:Bool) (a b:Int):aO 170 [.sl (some g) 1 2 [.int .i64 a,.int .i64 b]] t=feed t [.sl none 1 (du a++du b).length (bytes (du a++du b))]:=by
  have e:eH [a,b]=du a++du b:=by simp [eH]
  rw [← e]
  exact Bj t g [a,b] 2 rfl (by simp)
end
theorem Ve (g:Bool) (xs:List Int) (hb:xs.length≤1048576):Cm 169 [.sl (some g) 1 xs.length (ints xs)] (.sl none 1 (dc xs).length (bytes (dc xs)),[.undef]):=by
  refine Cm.fin II fun J=>?_
  rw [IJ]
  have l1:=ke xs
  have l2:=fy (xs.length:Int)
  simp (disch:=first | omega | assumption | rfl) only [aA,Su,Bj,dt,ao,eB,aH,bl,iT,fm,gr]
  unfold dc
  rw [List.length_append]
theorem J7 (g:Bool) (xs:List Int) (n:Nat) (hn:n=xs.length) (hb:xs.length≤1048576) (t:bG Rz):aO 169 [.sl (some g) 1 n (ints xs)] t=feed t [.sl none 1 (dc xs).length (bytes (dc xs))]:=by subst hn; exact aT (Ve g xs hb) (by kernel_rfl) t
theorem Df {m:aI} (h:gL m=true):m.bits.length=3:=by
  simp only [gL,Bool.and_eq_true,beq_iff_eq] at h
  omega
abbrev J8 (l:List UInt8):Rz:=(.sl none 1 l.length (bytes l),[.undef])
theorem D6 (g:Bool) (m:aI) (hm:cJ m):Cm 166 [.agg (bR (some g) m)] (J8 (cH m)):=by
  unfold cH
  have b0:=hm.ay
  cases cL:gL m with
  | false=>
    refine Cm.fin vx fun J=>?_
    rw [vy]
    simp (disch:=assumption) only [zh,aF,ao,cL,bI,bW,bc]
    rfl
  | true=>
    rw [if_pos rfl]
    have hl:=Df cL
    have l0:=nj m.ay
    have l3:=fy (mO m)
    have l4:=fy m.last
    refine Cm.go vx [.undef] 0 (iF g m.bits.length (rows (some g) m.bits) m.bits.length (0:Nat) g m.ay.length (ints m.ay) m.cI m.bN m.held m.last (dc m.ay).length (bytes (dc m.ay))) ?_ fun J hJ=>?_
    · have:=WP.loop (f:=166) (fn:=Tryz.f166) (sk:=[.undef]) (j:=0) (r:=J8 ((dc m.ay++fC m.bits)++(du (mO m)++du m.last))) (H:=fun i:Nat=>iF g m.bits.length (rows (some g) m.bits) m.bits.length (i:Nat) g m.ay.length (ints m.ay) m.cI m.bN m.held m.last (dc m.ay++fC (m.bits.take i)).length (bytes (dc m.ay++fC (m.bits.take i)))) (n:=m.bits.length) (fun _=>True) (fun i hi _ ih=>WP.go _ (ih trivial) fun J hJ=>?_) (fun _=>WP.fin fun J=>?_) 0 (Nat.zero_le _) trivial
      · simpa [fC] using this
      · have l1:=nQ (m.bits.take i) fun x hx=>hm.bits.2 x (List.mem_of_mem_take hx)
        have l5:(m.bits.take i).length≤3:=by simp; omega
        have l2:=nj m.bits[i]
        have b2:=hm.bits.2 _ (List.getElem_mem hi)
        have l6:(dc m.ay++fC (m.bits.take i)).length≤30000000:=by rw [List.length_append]; omega
        rw [ri]
        simp (disch:=first | omega | assumption) only [aU,bq,cQ,iy,iz,gX,iA,J7,dt,ao,eB,aH,bl,iT,fm,gr,db]
        rw [GR hi,← List.append_assoc,List.length_append (bs:=dc m.bits[i])] at hJ
        exact hJ
      · have l1:=nQ m.bits hm.bits.2
        have l6:(dc m.ay++fC m.bits).length≤30000000:=by rw [List.length_append]; omega
        have l7:(du (mO m)++du m.last).length≤10:=by rw [List.length_append]; omega
        have hf:ad.ar .add .i64 (ad.ar .add .i64 (rR m.cI 1) (rR m.bN 2)) (rR m.held 4)=mO m:=by
          unfold mO
          cases m.cI<;>cases m.bN<;>cases m.held<;>rfl
        rw [ri]
        simp (disch:=first | omega | assumption) only [bm,List.take_length,acE,bX,ao,hf,Sv,dt,eB,aH,bl,iT,fm,gr]
        simp only [J8,List.length_append]
    · rw [vy]
      simp (disch:=first | omega | assumption | rfl) only [zh,aF,ao,cL,bI,bW,aH,J7,dt,eB,bl,aA]
      exact hJ
theorem D7 (g:Bool) (m:aI) (hm:cJ m):Cm 157 [.agg (bR (some g) m)] (J8 (cH m)):=by
  unfold cH
  have b0:=hm.ay
  cases cL:gL m with
  | false=>
    refine Cm.fin vv fun J=>?_
    rw [vw]
    simp (disch:=assumption) only [zg,aF,ao,cL,bI,bW,bc]
    rfl
  | true=>
    rw [if_pos rfl]
    have hl:=Df cL
    have l0:=nj m.ay
    have l3:=fy (mO m)
    have l4:=fy m.last
    have w2:∀ k i,i+k=3→WP 157 Tryz.f157 [.undef] 2 (kQ (i:Nat) g m.ay.length (ints m.ay) g m.bits.length (rows (some g) m.bits) m.cI m.bN m.held m.last (dc m.ay++fC (m.bits.take i)).length (bytes (dc m.ay++fC (m.bits.take i)))) (J8 ((dc m.ay++fC m.bits)++(du (mO m)++du m.last))):=by
      intro k
      induction k with
      | zero=>
        intro i hi
        obtain rfl:i=3:=by omega
        have l1:=nQ m.bits hm.bits.2
        have l6:(dc m.ay++fC m.bits).length≤30000000:=by rw [List.length_append]; omega
        have ht:m.bits.take 3=m.bits:=by rw [← hl,List.take_length]
        have hf:ad.ar .add .i64 (ad.ar .add .i64 (rR m.cI 1) (ad.ar .mul .i64 2 (rR m.bN 1))) (ad.ar .mul .i64 4 (rR m.held 1))=mO m:=by
          unfold mO
          cases m.cI<;>cases m.bN<;>cases m.held<;>rfl
        refine WP.fin fun J=>?_
        rw [rf,ht]
        simp (disch:=first | omega | assumption) only [bm,Z0,bX,ao,hf,mN,dt,eB,aH,bl,iT,fm,gr]
        simp only [J8,List.length_append,List.append_assoc,Nat.add_assoc]
      | succ k ih=>
        intro i hi
        have Qr:i < m.bits.length:=by omega
        have ih:=ih (i+1) (by omega)
        have l1:=nQ (m.bits.take i) fun x hx=>hm.bits.2 x (List.mem_of_mem_take hx)
        have l5:(m.bits.take i).length≤3:=by simp; omega
        have b2:=hm.bits.2 _ (List.getElem_mem Qr)
        have l6:(dc m.ay++fC (m.bits.take i)).length≤30000000:=by rw [List.length_append]; omega
        have l8:=fy (m.bits[i].length:Int)
        have w4:=WP.loop (f:=157) (fn:=Tryz.f157) (sk:=[.undef]) (j:=4) (r:=J8 ((dc m.ay++fC m.bits)++(du (mO m)++du m.last))) (H:=fun j:Nat=>kR (i:Nat) (j:Nat) g m.ay.length (ints m.ay) g m.bits.length (rows (some g) m.bits) m.cI m.bN m.held m.last ((dc m.ay++fC (m.bits.take i))++du (m.bits[i].length:Int)++eH (m.bits[i].take j)).length (bytes ((dc m.ay++fC (m.bits.take i))++du (m.bits[i].length:Int)++eH (m.bits[i].take j)))) (n:=m.bits[i].length) (fun _=>True) (fun j hj _ ih4=>WP.go _ (ih4 trivial) fun J hJ=>?_) (fun _=>WP.go _ ih fun J hJ=>?_) 0 (Nat.zero_le _) trivial
        · refine WP.go _ w4 fun J hJ=>?_
          rw [rf]
          simp (disch:=first | omega | assumption) only [aU,bq,cQ,iy,iz,gX,iA,aA,mN,dt,ao,eB,aH,bl,iT,fm,gr]
          simp only [List.take_zero,eH,List.flatMap_nil,List.append_nil] at hJ
          rw [List.length_append (bs:=du (m.bits[i].length:Int))] at hJ
          exact hJ
        · have l9:=ke (m.bits[i].take j)
          have l10:(m.bits[i].take j).length≤m.bits[i].length:=by simp; omega
          have l11:=fy m.bits[i][j]
          have l12:((dc m.ay++fC (m.bits.take i))++du (m.bits[i].length:Int)++eH (m.bits[i].take j)).length≤60000000:=by rw [List.length_append,List.length_append]; omega
          rw [rh]
          simp (disch:=first | omega | assumption) only [aU,bq,cQ,iy,dH,dI,iz,gX,iA,aA,mN,dt,ao,eB,aH,bl,iT,fm,gr,db]
          rw [wD hj,← List.append_assoc,List.length_append (bs:=du m.bits[i][j])] at hJ
          exact hJ
        · rw [rh]
          simp (disch:=first | omega | assumption) only [bm,bq,cQ,iy,gX,aA,aH,bl,db,List.take_length]
          have e:fC (m.bits.take (i+1))=fC (m.bits.take i)++(du (m.bits[i].length:Int)++eH m.bits[i]):=GR Qr
          rw [e,← List.append_assoc,← List.append_assoc] at hJ
          exact hJ
    have w0:=WP.loop (f:=157) (fn:=Tryz.f157) (sk:=[.undef]) (j:=0) (r:=J8 ((dc m.ay++fC m.bits)++(du (mO m)++du m.last))) (H:=fun i:Nat=>kP (i:Nat) g m.ay.length (ints m.ay) g m.bits.length (rows (some g) m.bits) m.cI m.bN m.held m.last (du (m.ay.length:Int)++eH (m.ay.take i)).length (bytes (du (m.ay.length:Int)++eH (m.ay.take i)))) (n:=m.ay.length) (fun _=>True) (fun i hi _ ih=>WP.go _ (ih trivial) fun J hJ=>?_) (fun _=>WP.go _ (w2 3 0 rfl) fun J hJ=>?_) 0 (Nat.zero_le _) trivial
    · refine Cm.go vv [.undef] 0 _ w0 fun J hJ=>?_
      rw [vw]
      simp (disch:=first | omega | assumption | rfl) only [zg,aF,ao,cL,bI,bW,aH,mN,dt,eB,bl,aA]
      simp only [List.take_zero,eH,List.flatMap_nil,List.append_nil] at hJ
      exact hJ
    · have l9:=ke (m.ay.take i)
      have l10:(m.ay.take i).length≤m.ay.length:=by simp; omega
      have l11:=fy m.ay[i]
      have l8:=fy (m.ay.length:Int)
      have l12:(du (m.ay.length:Int)++eH (m.ay.take i)).length≤30000000:=by rw [List.length_append]; omega
      rw [re]
      simp (disch:=first | omega | assumption) only [aU,bq,cQ,dH,dI,aA,mN,dt,ao,eB,aH,bl,iT,fm,gr,db]
      rw [wD hi,← List.append_assoc,List.length_append (bs:=du m.ay[i])] at hJ
      exact hJ
    · rw [re]
      simp (disch:=omega) only [aA,bm,List.take_length]
      have e:dc m.ay++fC (m.bits.take 0)=du (m.ay.length:Int)++eH m.ay:=by simp [fC,dc]
      rw [e] at hJ
      exact hJ
section
variable (t:bG Rz)
theorem vz (g:Bool) (m:aI) (hm:cJ m):aO 157 [.agg (bR (some g) m)] t=feed t [.sl none 1 (cH m).length (bytes (cH m))]:=aT (D7 g m hm) (by kernel_rfl) t
theorem vA (g:Bool) (m:aI) (hm:cJ m):aO 166 [.agg (bR (some g) m)] t=feed t [.sl none 1 (cH m).length (bytes (cH m))]:=aT (D6 g m hm) (by kernel_rfl) t
end
end Go.Proofs.YtockoilcnmljiaaGreat
