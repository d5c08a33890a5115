/- What the proof of FnExactLead stands on, part 5: an abstract machine on plain data, its soundness, and the contracts of functions. -/
import Derived.Test.YtockoilcnmljiaaGreatMd
set_option linter.all false
set_option linter.unusedSimpArgs false
set_option linter.unusedVariables false
set_option linter.unnecessarySimpa false
set_option linter.unusedSectionVars false
namespace Go.Proofs.YtockoilcnmljiaaGreat
set_option maxRecDepth 100000
section
variable (pr:dA) (cv:Cv Rz) (J:Nat→St→Option Rz)
def mO (g0:Bool) (n1:Nat) (c2:List D) (i3:Int) (i4:Int):St:=(St.mk [(0,(.sl (some g0) 16 n1 c2)),(1,(.int .i64 i3)),(5,(.int .i64 i4))] [] [] 0)
theorem yo:Told cfg Tryz.prog 66 Tryz.f66:=⟨by kernel_rfl,Tryz.func66,by kernel_rfl⟩
theorem yp (g0:Bool) (n0:Nat) (c0:List D) (a1:Int):aO pr cv J 66 Tryz.f66 [(.sl (some g0) 16 n0 c0),(.int .i64 a1)]=
    (br (pr.lt (pr.ar .sub .i64 a1 (pr.aX n0)) 0) (some ((.int .i64 (-1)),[.undef,.undef])) (J 0 (mO g0 n0 c0 (pr.ar .sub .i64 a1 (pr.aX n0)) 0))):=by kernel_rfl
theorem o7 (g0:Bool) (n1:Nat) (c2:List D) (i3:Int) (i4:Int):bF pr cv J 66 Tryz.f66 [.undef,.undef] 0 (mO g0 n1 c2 i3 i4)=
    (br (pr.lt i4 (pr.aX n1)) (br (pr.bz i4 n1) (br (br (pr.cg .i64 c2 (pr.idx 0 i4 16)) (br (pr.cI c2 ((pr.idx 0 i4 16)+1)) (br (pr.cI c2 ((pr.idx 0 i4 16)+2)) (br (pr.bG 1 c2 ((pr.idx 0 i4 16)+3)) (br (pr.bG 1 c2 ((pr.idx 0 i4 16)+4)) (br (pr.bG 1 c2 ((pr.idx 0 i4 16)+5)) (br (pr.cI c2 ((pr.idx 0 i4 16)+6)) (br (pr.cI c2 ((pr.idx 0 i4 16)+7)) (br (pr.cI c2 ((pr.idx 0 i4 16)+8)) (br (pr.cg .i64 c2 ((pr.idx 0 i4 16)+9)) (br (pr.bG 1 c2 ((pr.idx 0 i4 16)+10)) (br (pr.bG 1 c2 ((pr.idx 0 i4 16)+11)) (br (pr.bG 1 c2 ((pr.idx 0 i4 16)+12)) (br (pr.bG 1 c2 ((pr.idx 0 i4 16)+13)) (br (pr.bG 1 c2 ((pr.idx 0 i4 16)+14)) (br (pr.bG 1 c2 ((pr.idx 0 i4 16)+15)) true false) false) false) false) false) false) false) false) false) false) false) false) false) false) false) false) (cv 11 [(.agg [(.int .i64 (pr.bm c2 (pr.idx 0 i4 16))),(.bool (pr.bT c2 ((pr.idx 0 i4 16)+1))),(.bool (pr.bT c2 ((pr.idx 0 i4 16)+2))),(.sl (some (pr.bD c2 ((pr.idx 0 i4 16)+3))) 1 (pr.aZ c2 ((pr.idx 0 i4 16)+3)) (pr.ba c2 ((pr.idx 0 i4 16)+3))),(.sl (some (pr.bD c2 ((pr.idx 0 i4 16)+4))) 1 (pr.aZ c2 ((pr.idx 0 i4 16)+4)) (pr.ba c2 ((pr.idx 0 i4 16)+4))),(.sl (some (pr.bD c2 ((pr.idx 0 i4 16)+5))) 1 (pr.aZ c2 ((pr.idx 0 i4 16)+5)) (pr.ba c2 ((pr.idx 0 i4 16)+5))),(.bool (pr.bT c2 ((pr.idx 0 i4 16)+6))),(.bool (pr.bT c2 ((pr.idx 0 i4 16)+7))),(.bool (pr.bT c2 ((pr.idx 0 i4 16)+8))),(.int .i64 (pr.bm c2 ((pr.idx 0 i4 16)+9))),(.sl (some (pr.bD c2 ((pr.idx 0 i4 16)+10))) 1 (pr.aZ c2 ((pr.idx 0 i4 16)+10)) (pr.ba c2 ((pr.idx 0 i4 16)+10))),(.sl (some (pr.bD c2 ((pr.idx 0 i4 16)+11))) 1 (pr.aZ c2 ((pr.idx 0 i4 16)+11)) (pr.ba c2 ((pr.idx 0 i4 16)+11))),(.sl (some (pr.bD c2 ((pr.idx 0 i4 16)+12))) 1 (pr.aZ c2 ((pr.idx 0 i4 16)+12)) (pr.ba c2 ((pr.idx 0 i4 16)+12))),(.sl (some (pr.bD c2 ((pr.idx 0 i4 16)+13))) 1 (pr.aZ c2 ((pr.idx 0 i4 16)+13)) (pr.ba c2 ((pr.idx 0 i4 16)+13))),(.sl (some (pr.bD c2 ((pr.idx 0 i4 16)+14))) 1 (pr.aZ c2 ((pr.idx 0 i4 16)+14)) (pr.ba c2 ((pr.idx 0 i4 16)+14))),(.sl (some (pr.bD c2 ((pr.idx 0 i4 16)+15))) 1 (pr.aZ c2 ((pr.idx 0 i4 16)+15)) (pr.ba c2 ((pr.idx 0 i4 16)+15)))]),(.int .i64 i3)] (.int (fun dm=>(.done (br (pr.lt dm 0) (some ((.int .i64 (-1)),[.undef,.undef])) (J 0 (mO g0 n1 c2 dm (pr.ar .add .i64 i4 1)))))))) none) none) (some ((.int .i64 i3),[.undef,.undef]))):=by kernel_rfl
def jW (g0:Bool) (n1:Nat) (c2:List D) (i3:Int) (n4:Nat) (c5:List D):St:=(St.mk [(0,(.sl (some g0) 16 n1 c2)),(3,(.ref 10003 [] 0 none)),(4,(.int .i64 i3))] [(10003,[(.sl none 16 n4 c5)])] [] 0)
theorem Jl:Told cfg Tryz.prog 71 Tryz.f71:=⟨by kernel_rfl,Tryz.func71,by kernel_rfl⟩
theorem Jm (g0:Bool) (n0:Nat) (c0:List D):aO pr cv J 71 Tryz.f71 [(.sl (some g0) 16 n0 c0)]=
    (br (pr.vH (pr.aX n0) (pr.aX n0) 248) (J 0 (jW g0 n0 c0 0 (pr.jk (pr.aX n0)) (fF (pr.jk (pr.aX n0)) [(.int .i64 0),(.bool false),(.bool false),(.nil 1),(.nil 1),(.nil 1),(.bool false),(.bool false),(.bool false),(.int .i64 0),(.nil 1),(.nil 1),(.nil 1),(.nil 1),(.nil 1),(.nil 1)]))) none):=by kernel_rfl
theorem uA (g0:Bool) (n1:Nat) (c2:List D) (i3:Int) (n4:Nat) (c5:List D):bF pr cv J 71 Tryz.f71 [.undef] 0 (jW g0 n1 c2 i3 n4 c5)=
    (br (pr.lt i3 (pr.aX n1)) (br (pr.bz i3 n1) (br (br (pr.cg .i64 c2 (pr.idx 0 i3 16)) (br (pr.cI c2 ((pr.idx 0 i3 16)+1)) (br (pr.cI c2 ((pr.idx 0 i3 16)+2)) (br (pr.bG 1 c2 ((pr.idx 0 i3 16)+3)) (br (pr.bG 1 c2 ((pr.idx 0 i3 16)+4)) (br (pr.bG 1 c2 ((pr.idx 0 i3 16)+5)) (br (pr.cI c2 ((pr.idx 0 i3 16)+6)) (br (pr.cI c2 ((pr.idx 0 i3 16)+7)) (br (pr.cI c2 ((pr.idx 0 i3 16)+8)) (br (pr.cg .i64 c2 ((pr.idx 0 i3 16)+9)) (br (pr.bG 1 c2 ((pr.idx 0 i3 16)+10)) (br (pr.bG 1 c2 ((pr.idx 0 i3 16)+11)) (br (pr.bG 1 c2 ((pr.idx 0 i3 16)+12)) (br (pr.bG 1 c2 ((pr.idx 0 i3 16)+13)) (br (pr.bG 1 c2 ((pr.idx 0 i3 16)+14)) (br (pr.bG 1 c2 ((pr.idx 0 i3 16)+15)) true false) false) false) false) false) false) false) false) false) false) false) false) false) false) false) false) (cv 13 [(.agg [(.int .i64 (pr.bm c2 (pr.idx 0 i3 16))),(.bool (pr.bT c2 ((pr.idx 0 i3 16)+1))),(.bool (pr.bT c2 ((pr.idx 0 i3 16)+2))),(.sl (some (pr.bD c2 ((pr.idx 0 i3 16)+3))) 1 (pr.aZ c2 ((pr.idx 0 i3 16)+3)) (pr.ba c2 ((pr.idx 0 i3 16)+3))),(.sl (some (pr.bD c2 ((pr.idx 0 i3 16)+4))) 1 (pr.aZ c2 ((pr.idx 0 i3 16)+4)) (pr.ba c2 ((pr.idx 0 i3 16)+4))),(.sl (some (pr.bD c2 ((pr.idx 0 i3 16)+5))) 1 (pr.aZ c2 ((pr.idx 0 i3 16)+5)) (pr.ba c2 ((pr.idx 0 i3 16)+5))),(.bool (pr.bT c2 ((pr.idx 0 i3 16)+6))),(.bool (pr.bT c2 ((pr.idx 0 i3 16)+7))),(.bool (pr.bT c2 ((pr.idx 0 i3 16)+8))),(.int .i64 (pr.bm c2 ((pr.idx 0 i3 16)+9))),(.sl (some (pr.bD c2 ((pr.idx 0 i3 16)+10))) 1 (pr.aZ c2 ((pr.idx 0 i3 16)+10)) (pr.ba c2 ((pr.idx 0 i3 16)+10))),(.sl (some (pr.bD c2 ((pr.idx 0 i3 16)+11))) 1 (pr.aZ c2 ((pr.idx 0 i3 16)+11)) (pr.ba c2 ((pr.idx 0 i3 16)+11))),(.sl (some (pr.bD c2 ((pr.idx 0 i3 16)+12))) 1 (pr.aZ c2 ((pr.idx 0 i3 16)+12)) (pr.ba c2 ((pr.idx 0 i3 16)+12))),(.sl (some (pr.bD c2 ((pr.idx 0 i3 16)+13))) 1 (pr.aZ c2 ((pr.idx 0 i3 16)+13)) (pr.ba c2 ((pr.idx 0 i3 16)+13))),(.sl (some (pr.bD c2 ((pr.idx 0 i3 16)+14))) 1 (pr.aZ c2 ((pr.idx 0 i3 16)+14)) (pr.ba c2 ((pr.idx 0 i3 16)+14))),(.sl (some (pr.bD c2 ((pr.idx 0 i3 16)+15))) 1 (pr.aZ c2 ((pr.idx 0 i3 16)+15)) (pr.ba c2 ((pr.idx 0 i3 16)+15)))])] (.ty eG.node (fun (ax:ae)=>(.done (br (pr.bz i3 n4) (br (br (pr.ne c5) (br (pr.slot c5 (pr.idx 0 i3 16)) (br (pr.slot (List.set c5 (pr.idx 0 i3 16) (.int .i64 ax.id)) ((pr.idx 0 i3 16)+1)) (br (pr.slot (List.set (List.set c5 (pr.idx 0 i3 16) (.int .i64 ax.id)) ((pr.idx 0 i3 16)+1) (.bool ax.up)) ((pr.idx 0 i3 16)+2)) (br (pr.jN 1 (List.set (List.set (List.set c5 (pr.idx 0 i3 16) (.int .i64 ax.id)) ((pr.idx 0 i3 16)+1) (.bool ax.up)) ((pr.idx 0 i3 16)+2) (.bool ax.cn)) ((pr.idx 0 i3 16)+3)) (br (pr.jN 1 (List.set (List.set (List.set (List.set c5 (pr.idx 0 i3 16) (.int .i64 ax.id)) ((pr.idx 0 i3 16)+1) (.bool ax.up)) ((pr.idx 0 i3 16)+2) (.bool ax.cn)) ((pr.idx 0 i3 16)+3) (.sl none 1 (List.length ax.image) (List.map (.int .i64) ax.image))) ((pr.idx 0 i3 16)+4)) (br (pr.jN 1 (List.set (List.set (List.set (List.set (List.set c5 (pr.idx 0 i3 16) (.int .i64 ax.id)) ((pr.idx 0 i3 16)+1) (.bool ax.up)) ((pr.idx 0 i3 16)+2) (.bool ax.cn)) ((pr.idx 0 i3 16)+3) (.sl none 1 (List.length ax.image) (List.map (.int .i64) ax.image))) ((pr.idx 0 i3 16)+4) (.sl none 1 (List.length (ae.mt ax).aA) (List.map (.int .i64) (ae.mt ax).aA))) ((pr.idx 0 i3 16)+5)) (br (pr.slot (List.set (List.set (List.set (List.set (List.set (List.set c5 (pr.idx 0 i3 16) (.int .i64 ax.id)) ((pr.idx 0 i3 16)+1) (.bool ax.up)) ((pr.idx 0 i3 16)+2) (.bool ax.cn)) ((pr.idx 0 i3 16)+3) (.sl none 1 (List.length ax.image) (List.map (.int .i64) ax.image))) ((pr.idx 0 i3 16)+4) (.sl none 1 (List.length (ae.mt ax).aA) (List.map (.int .i64) (ae.mt ax).aA))) ((pr.idx 0 i3 16)+5) (.sl none 1 (List.length (ae.mt ax).bits) (List.map (fun xs=>(.sl none 1 (List.length xs) (ints xs))) (ae.mt ax).bits))) ((pr.idx 0 i3 16)+6)) (br (pr.slot (List.set (List.set (List.set (List.set (List.set (List.set (List.set c5 (pr.idx 0 i3 16) (.int .i64 ax.id)) ((pr.idx 0 i3 16)+1) (.bool ax.up)) ((pr.idx 0 i3 16)+2) (.bool ax.cn)) ((pr.idx 0 i3 16)+3) (.sl none 1 (List.length ax.image) (List.map (.int .i64) ax.image))) ((pr.idx 0 i3 16)+4) (.sl none 1 (List.length (ae.mt ax).aA) (List.map (.int .i64) (ae.mt ax).aA))) ((pr.idx 0 i3 16)+5) (.sl none 1 (List.length (ae.mt ax).bits) (List.map (fun xs=>(.sl none 1 (List.length xs) (ints xs))) (ae.mt ax).bits))) ((pr.idx 0 i3 16)+6) (.bool (ae.mt ax).cK)) ((pr.idx 0 i3 16)+7)) (br (pr.slot (List.set (List.set (List.set (List.set (List.set (List.set (List.set (List.set c5 (pr.idx 0 i3 16) (.int .i64 ax.id)) ((pr.idx 0 i3 16)+1) (.bool ax.up)) ((pr.idx 0 i3 16)+2) (.bool ax.cn)) ((pr.idx 0 i3 16)+3) (.sl none 1 (List.length ax.image) (List.map (.int .i64) ax.image))) ((pr.idx 0 i3 16)+4) (.sl none 1 (List.length (ae.mt ax).aA) (List.map (.int .i64) (ae.mt ax).aA))) ((pr.idx 0 i3 16)+5) (.sl none 1 (List.length (ae.mt ax).bits) (List.map (fun xs=>(.sl none 1 (List.length xs) (ints xs))) (ae.mt ax).bits))) ((pr.idx 0 i3 16)+6) (.bool (ae.mt ax).cK)) ((pr.idx 0 i3 16)+7) (.bool (ae.mt ax).bO)) ((pr.idx 0 i3 16)+8)) (br (pr.slot (List.set (List.set (List.set (List.set (List.set (List.set (List.set (List.set (List.set c5 (pr.idx 0 i3 16) (.int .i64 ax.id)) ((pr.idx 0 i3 16)+1) (.bool ax.up)) ((pr.idx 0 i3 16)+2) (.bool ax.cn)) ((pr.idx 0 i3 16)+3) (.sl none 1 (List.length ax.image) (List.map (.int .i64) ax.image))) ((pr.idx 0 i3 16)+4) (.sl none 1 (List.length (ae.mt ax).aA) (List.map (.int .i64) (ae.mt ax).aA))) ((pr.idx 0 i3 16)+5) (.sl none 1 (List.length (ae.mt ax).bits) (List.map (fun xs=>(.sl none 1 (List.length xs) (ints xs))) (ae.mt ax).bits))) ((pr.idx 0 i3 16)+6) (.bool (ae.mt ax).cK)) ((pr.idx 0 i3 16)+7) (.bool (ae.mt ax).bO)) ((pr.idx 0 i3 16)+8) (.bool (ae.mt ax).held)) ((pr.idx 0 i3 16)+9)) (br (pr.jN 1 (List.set (List.set (List.set (List.set (List.set (List.set (List.set (List.set (List.set (List.set c5 (pr.idx 0 i3 16) (.int .i64 ax.id)) ((pr.idx 0 i3 16)+1) (.bool ax.up)) ((pr.idx 0 i3 16)+2) (.bool ax.cn)) ((pr.idx 0 i3 16)+3) (.sl none 1 (List.length ax.image) (List.map (.int .i64) ax.image))) ((pr.idx 0 i3 16)+4) (.sl none 1 (List.length (ae.mt ax).aA) (List.map (.int .i64) (ae.mt ax).aA))) ((pr.idx 0 i3 16)+5) (.sl none 1 (List.length (ae.mt ax).bits) (List.map (fun xs=>(.sl none 1 (List.length xs) (ints xs))) (ae.mt ax).bits))) ((pr.idx 0 i3 16)+6) (.bool (ae.mt ax).cK)) ((pr.idx 0 i3 16)+7) (.bool (ae.mt ax).bO)) ((pr.idx 0 i3 16)+8) (.bool (ae.mt ax).held)) ((pr.idx 0 i3 16)+9) (.int .i64 (ae.mt ax).last)) ((pr.idx 0 i3 16)+10)) (br (pr.jN 1 (List.set (List.set (List.set (List.set (List.set (List.set (List.set (List.set (List.set (List.set (List.set c5 (pr.idx 0 i3 16) (.int .i64 ax.id)) ((pr.idx 0 i3 16)+1) (.bool ax.up)) ((pr.idx 0 i3 16)+2) (.bool ax.cn)) ((pr.idx 0 i3 16)+3) (.sl none 1 (List.length ax.image) (List.map (.int .i64) ax.image))) ((pr.idx 0 i3 16)+4) (.sl none 1 (List.length (ae.mt ax).aA) (List.map (.int .i64) (ae.mt ax).aA))) ((pr.idx 0 i3 16)+5) (.sl none 1 (List.length (ae.mt ax).bits) (List.map (fun xs=>(.sl none 1 (List.length xs) (ints xs))) (ae.mt ax).bits))) ((pr.idx 0 i3 16)+6) (.bool (ae.mt ax).cK)) ((pr.idx 0 i3 16)+7) (.bool (ae.mt ax).bO)) ((pr.idx 0 i3 16)+8) (.bool (ae.mt ax).held)) ((pr.idx 0 i3 16)+9) (.int .i64 (ae.mt ax).last)) ((pr.idx 0 i3 16)+10) (.sl none 1 (List.length (ae.aN ax).a) (List.map du (ae.aN ax).a))) ((pr.idx 0 i3 16)+11)) (br (pr.jN 1 (List.set (List.set (List.set (List.set (List.set (List.set (List.set (List.set (List.set (List.set (List.set (List.set c5 (pr.idx 0 i3 16) (.int .i64 ax.id)) ((pr.idx 0 i3 16)+1) (.bool ax.up)) ((pr.idx 0 i3 16)+2) (.bool ax.cn)) ((pr.idx 0 i3 16)+3) (.sl none 1 (List.length ax.image) (List.map (.int .i64) ax.image))) ((pr.idx 0 i3 16)+4) (.sl none 1 (List.length (ae.mt ax).aA) (List.map (.int .i64) (ae.mt ax).aA))) ((pr.idx 0 i3 16)+5) (.sl none 1 (List.length (ae.mt ax).bits) (List.map (fun xs=>(.sl none 1 (List.length xs) (ints xs))) (ae.mt ax).bits))) ((pr.idx 0 i3 16)+6) (.bool (ae.mt ax).cK)) ((pr.idx 0 i3 16)+7) (.bool (ae.mt ax).bO)) ((pr.idx 0 i3 16)+8) (.bool (ae.mt ax).held)) ((pr.idx 0 i3 16)+9) (.int .i64 (ae.mt ax).last)) ((pr.idx 0 i3 16)+10) (.sl none 1 (List.length (ae.aN ax).a) (List.map du (ae.aN ax).a))) ((pr.idx 0 i3 16)+11) (.sl none 1 (List.length (ae.aN ax).b) (List.map du (ae.aN ax).b))) ((pr.idx 0 i3 16)+12)) (br (pr.jN 1 (List.set (List.set (List.set (List.set (List.set (List.set (List.set (List.set (List.set (List.set (List.set (List.set (List.set c5 (pr.idx 0 i3 16) (.int .i64 ax.id)) ((pr.idx 0 i3 16)+1) (.bool ax.up)) ((pr.idx 0 i3 16)+2) (.bool ax.cn)) ((pr.idx 0 i3 16)+3) (.sl none 1 (List.length ax.image) (List.map (.int .i64) ax.image))) ((pr.idx 0 i3 16)+4) (.sl none 1 (List.length (ae.mt ax).aA) (List.map (.int .i64) (ae.mt ax).aA))) ((pr.idx 0 i3 16)+5) (.sl none 1 (List.length (ae.mt ax).bits) (List.map (fun xs=>(.sl none 1 (List.length xs) (ints xs))) (ae.mt ax).bits))) ((pr.idx 0 i3 16)+6) (.bool (ae.mt ax).cK)) ((pr.idx 0 i3 16)+7) (.bool (ae.mt ax).bO)) ((pr.idx 0 i3 16)+8) (.bool (ae.mt ax).held)) ((pr.idx 0 i3 16)+9) (.int .i64 (ae.mt ax).last)) ((pr.idx 0 i3 16)+10) (.sl none 1 (List.length (ae.aN ax).a) (List.map du (ae.aN ax).a))) ((pr.idx 0 i3 16)+11) (.sl none 1 (List.length (ae.aN ax).b) (List.map du (ae.aN ax).b))) ((pr.idx 0 i3 16)+12) (.sl none 1 (List.length ax.conn) (List.map .bool ax.conn))) ((pr.idx 0 i3 16)+13)) (br (pr.jN 1 (List.set (List.set (List.set (List.set (List.set (List.set (List.set (List.set (List.set (List.set (List.set (List.set (List.set (List.set c5 (pr.idx 0 i3 16) (.int .i64 ax.id)) ((pr.idx 0 i3 16)+1) (.bool ax.up)) ((pr.idx 0 i3 16)+2) (.bool ax.cn)) ((pr.idx 0 i3 16)+3) (.sl none 1 (List.length ax.image) (List.map (.int .i64) ax.image))) ((pr.idx 0 i3 16)+4) (.sl none 1 (List.length (ae.mt ax).aA) (List.map (.int .i64) (ae.mt ax).aA))) ((pr.idx 0 i3 16)+5) (.sl none 1 (List.length (ae.mt ax).bits) (List.map (fun xs=>(.sl none 1 (List.length xs) (ints xs))) (ae.mt ax).bits))) ((pr.idx 0 i3 16)+6) (.bool (ae.mt ax).cK)) ((pr.idx 0 i3 16)+7) (.bool (ae.mt ax).bO)) ((pr.idx 0 i3 16)+8) (.bool (ae.mt ax).held)) ((pr.idx 0 i3 16)+9) (.int .i64 (ae.mt ax).last)) ((pr.idx 0 i3 16)+10) (.sl none 1 (List.length (ae.aN ax).a) (List.map du (ae.aN ax).a))) ((pr.idx 0 i3 16)+11) (.sl none 1 (List.length (ae.aN ax).b) (List.map du (ae.aN ax).b))) ((pr.idx 0 i3 16)+12) (.sl none 1 (List.length ax.conn) (List.map .bool ax.conn))) ((pr.idx 0 i3 16)+13) (.sl none 1 (List.length ax.sync) (List.map (fun xs=>(.sl none 1 (List.length xs) (ints xs))) ax.sync))) ((pr.idx 0 i3 16)+14)) (br (pr.jN 1 (List.set (List.set (List.set (List.set (List.set (List.set (List.set (List.set (List.set (List.set (List.set (List.set (List.set (List.set (List.set c5 (pr.idx 0 i3 16) (.int .i64 ax.id)) ((pr.idx 0 i3 16)+1) (.bool ax.up)) ((pr.idx 0 i3 16)+2) (.bool ax.cn)) ((pr.idx 0 i3 16)+3) (.sl none 1 (List.length ax.image) (List.map (.int .i64) ax.image))) ((pr.idx 0 i3 16)+4) (.sl none 1 (List.length (ae.mt ax).aA) (List.map (.int .i64) (ae.mt ax).aA))) ((pr.idx 0 i3 16)+5) (.sl none 1 (List.length (ae.mt ax).bits) (List.map (fun xs=>(.sl none 1 (List.length xs) (ints xs))) (ae.mt ax).bits))) ((pr.idx 0 i3 16)+6) (.bool (ae.mt ax).cK)) ((pr.idx 0 i3 16)+7) (.bool (ae.mt ax).bO)) ((pr.idx 0 i3 16)+8) (.bool (ae.mt ax).held)) ((pr.idx 0 i3 16)+9) (.int .i64 (ae.mt ax).last)) ((pr.idx 0 i3 16)+10) (.sl none 1 (List.length (ae.aN ax).a) (List.map du (ae.aN ax).a))) ((pr.idx 0 i3 16)+11) (.sl none 1 (List.length (ae.aN ax).b) (List.map du (ae.aN ax).b))) ((pr.idx 0 i3 16)+12) (.sl none 1 (List.length ax.conn) (List.map .bool ax.conn))) ((pr.idx 0 i3 16)+13) (.sl none 1 (List.length ax.sync) (List.map (fun xs=>(.sl none 1 (List.length xs) (ints xs))) ax.sync))) ((pr.idx 0 i3 16)+14) (.sl none 1 (List.length ax.aM) (List.map .bool ax.aM))) ((pr.idx 0 i3 16)+15)) true false) false) false) false) false) false) false) false) false) false) false) false) false) false) false) false) false) (cv 999999 [(.sl none 0 0 (List.set (List.set (List.set (List.set (List.set (List.set (List.set (List.set (List.set (List.set (List.set (List.set (List.set (List.set (List.set (List.set c5 (pr.idx 0 i3 16) (.int .i64 ax.id)) ((pr.idx 0 i3 16)+1) (.bool ax.up)) ((pr.idx 0 i3 16)+2) (.bool ax.cn)) ((pr.idx 0 i3 16)+3) (.sl none 1 (List.length ax.image) (List.map (.int .i64) ax.image))) ((pr.idx 0 i3 16)+4) (.sl none 1 (List.length (ae.mt ax).aA) (List.map (.int .i64) (ae.mt ax).aA))) ((pr.idx 0 i3 16)+5) (.sl none 1 (List.length (ae.mt ax).bits) (List.map (fun xs=>(.sl none 1 (List.length xs) (ints xs))) (ae.mt ax).bits))) ((pr.idx 0 i3 16)+6) (.bool (ae.mt ax).cK)) ((pr.idx 0 i3 16)+7) (.bool (ae.mt ax).bO)) ((pr.idx 0 i3 16)+8) (.bool (ae.mt ax).held)) ((pr.idx 0 i3 16)+9) (.int .i64 (ae.mt ax).last)) ((pr.idx 0 i3 16)+10) (.sl none 1 (List.length (ae.aN ax).a) (List.map du (ae.aN ax).a))) ((pr.idx 0 i3 16)+11) (.sl none 1 (List.length (ae.aN ax).b) (List.map du (ae.aN ax).b))) ((pr.idx 0 i3 16)+12) (.sl none 1 (List.length ax.conn) (List.map .bool ax.conn))) ((pr.idx 0 i3 16)+13) (.sl none 1 (List.length ax.sync) (List.map (fun xs=>(.sl none 1 (List.length xs) (ints xs))) ax.sync))) ((pr.idx 0 i3 16)+14) (.sl none 1 (List.length ax.aM) (List.map .bool ax.aM))) ((pr.idx 0 i3 16)+15) (.sl none 1 (List.length ax.wait) (List.map (.int .i64) ax.wait))))] (.sl (fun rp=>(fun oY=>(.done (J 0 (jW g0 n1 c2 (pr.ar .add .i64 i3 1) n4 oY))))))) none) none))))) none) none) (some ((.sl none 16 n4 c5),[.undef]))):=by kernel_rfl
def jX (g0:Bool) (n1:Nat) (c2:List D) (g3:Bool) (n4:Nat) (c5:List D) (i6:Int):St:=(St.mk [(0,(.sl (some g0) 16 n1 c2)),(1,(.sl (some g3) 16 n4 c5)),(5,(.int .i64 i6))] [] [] 0)
theorem Jo:Told cfg Tryz.prog 78 Tryz.f78:=⟨by kernel_rfl,Tryz.func78,by kernel_rfl⟩
theorem Jp (g0:Bool) (n0:Nat) (c0:List D) (g1:Bool) (n1:Nat) (c1:List D):aO pr cv J 78 Tryz.f78 [(.sl (some g0) 16 n0 c0),(.sl (some g1) 16 n1 c1)]=
    (br (br (pr.eq (pr.aX n0) (pr.aX n1)) false true) (some ((.bool false),[.undef,.undef])) (J 0 (jX g0 n0 c0 g1 n1 c1 0))):=by kernel_rfl
theorem uB (g0:Bool) (n1:Nat) (c2:List D) (g3:Bool) (n4:Nat) (c5:List D) (i6:Int):bF pr cv J 78 Tryz.f78 [.undef,.undef] 0 (jX g0 n1 c2 g3 n4 c5 i6)=
    (br (pr.lt i6 (pr.aX n1)) (br (pr.bz i6 n1) (br (br (pr.cg .i64 c2 (pr.idx 0 i6 16)) (br (pr.cI c2 ((pr.idx 0 i6 16)+1)) (br (pr.cI c2 ((pr.idx 0 i6 16)+2)) (br (pr.bG 1 c2 ((pr.idx 0 i6 16)+3)) (br (pr.bG 1 c2 ((pr.idx 0 i6 16)+4)) (br (pr.bG 1 c2 ((pr.idx 0 i6 16)+5)) (br (pr.cI c2 ((pr.idx 0 i6 16)+6)) (br (pr.cI c2 ((pr.idx 0 i6 16)+7)) (br (pr.cI c2 ((pr.idx 0 i6 16)+8)) (br (pr.cg .i64 c2 ((pr.idx 0 i6 16)+9)) (br (pr.bG 1 c2 ((pr.idx 0 i6 16)+10)) (br (pr.bG 1 c2 ((pr.idx 0 i6 16)+11)) (br (pr.bG 1 c2 ((pr.idx 0 i6 16)+12)) (br (pr.bG 1 c2 ((pr.idx 0 i6 16)+13)) (br (pr.bG 1 c2 ((pr.idx 0 i6 16)+14)) (br (pr.bG 1 c2 ((pr.idx 0 i6 16)+15)) true false) false) false) false) false) false) false) false) false) false) false) false) false) false) false) false) (br (pr.bz i6 n4) (br (br (pr.cg .i64 c5 (pr.idx 0 i6 16)) (br (pr.cI c5 ((pr.idx 0 i6 16)+1)) (br (pr.cI c5 ((pr.idx 0 i6 16)+2)) (br (pr.bG 1 c5 ((pr.idx 0 i6 16)+3)) (br (pr.bG 1 c5 ((pr.idx 0 i6 16)+4)) (br (pr.bG 1 c5 ((pr.idx 0 i6 16)+5)) (br (pr.cI c5 ((pr.idx 0 i6 16)+6)) (br (pr.cI c5 ((pr.idx 0 i6 16)+7)) (br (pr.cI c5 ((pr.idx 0 i6 16)+8)) (br (pr.cg .i64 c5 ((pr.idx 0 i6 16)+9)) (br (pr.bG 1 c5 ((pr.idx 0 i6 16)+10)) (br (pr.bG 1 c5 ((pr.idx 0 i6 16)+11)) (br (pr.bG 1 c5 ((pr.idx 0 i6 16)+12)) (br (pr.bG 1 c5 ((pr.idx 0 i6 16)+13)) (br (pr.bG 1 c5 ((pr.idx 0 i6 16)+14)) (br (pr.bG 1 c5 ((pr.idx 0 i6 16)+15)) true false) false) false) false) false) false) false) false) false) false) false) false) false) false) false) false) (cv 15 [(.agg [(.int .i64 (pr.bm c2 (pr.idx 0 i6 16))),(.bool (pr.bT c2 ((pr.idx 0 i6 16)+1))),(.bool (pr.bT c2 ((pr.idx 0 i6 16)+2))),(.sl (some (pr.bD c2 ((pr.idx 0 i6 16)+3))) 1 (pr.aZ c2 ((pr.idx 0 i6 16)+3)) (pr.ba c2 ((pr.idx 0 i6 16)+3))),(.sl (some (pr.bD c2 ((pr.idx 0 i6 16)+4))) 1 (pr.aZ c2 ((pr.idx 0 i6 16)+4)) (pr.ba c2 ((pr.idx 0 i6 16)+4))),(.sl (some (pr.bD c2 ((pr.idx 0 i6 16)+5))) 1 (pr.aZ c2 ((pr.idx 0 i6 16)+5)) (pr.ba c2 ((pr.idx 0 i6 16)+5))),(.bool (pr.bT c2 ((pr.idx 0 i6 16)+6))),(.bool (pr.bT c2 ((pr.idx 0 i6 16)+7))),(.bool (pr.bT c2 ((pr.idx 0 i6 16)+8))),(.int .i64 (pr.bm c2 ((pr.idx 0 i6 16)+9))),(.sl (some (pr.bD c2 ((pr.idx 0 i6 16)+10))) 1 (pr.aZ c2 ((pr.idx 0 i6 16)+10)) (pr.ba c2 ((pr.idx 0 i6 16)+10))),(.sl (some (pr.bD c2 ((pr.idx 0 i6 16)+11))) 1 (pr.aZ c2 ((pr.idx 0 i6 16)+11)) (pr.ba c2 ((pr.idx 0 i6 16)+11))),(.sl (some (pr.bD c2 ((pr.idx 0 i6 16)+12))) 1 (pr.aZ c2 ((pr.idx 0 i6 16)+12)) (pr.ba c2 ((pr.idx 0 i6 16)+12))),(.sl (some (pr.bD c2 ((pr.idx 0 i6 16)+13))) 1 (pr.aZ c2 ((pr.idx 0 i6 16)+13)) (pr.ba c2 ((pr.idx 0 i6 16)+13))),(.sl (some (pr.bD c2 ((pr.idx 0 i6 16)+14))) 1 (pr.aZ c2 ((pr.idx 0 i6 16)+14)) (pr.ba c2 ((pr.idx 0 i6 16)+14))),(.sl (some (pr.bD c2 ((pr.idx 0 i6 16)+15))) 1 (pr.aZ c2 ((pr.idx 0 i6 16)+15)) (pr.ba c2 ((pr.idx 0 i6 16)+15)))]),(.agg [(.int .i64 (pr.bm c5 (pr.idx 0 i6 16))),(.bool (pr.bT c5 ((pr.idx 0 i6 16)+1))),(.bool (pr.bT c5 ((pr.idx 0 i6 16)+2))),(.sl (some (pr.bD c5 ((pr.idx 0 i6 16)+3))) 1 (pr.aZ c5 ((pr.idx 0 i6 16)+3)) (pr.ba c5 ((pr.idx 0 i6 16)+3))),(.sl (some (pr.bD c5 ((pr.idx 0 i6 16)+4))) 1 (pr.aZ c5 ((pr.idx 0 i6 16)+4)) (pr.ba c5 ((pr.idx 0 i6 16)+4))),(.sl (some (pr.bD c5 ((pr.idx 0 i6 16)+5))) 1 (pr.aZ c5 ((pr.idx 0 i6 16)+5)) (pr.ba c5 ((pr.idx 0 i6 16)+5))),(.bool (pr.bT c5 ((pr.idx 0 i6 16)+6))),(.bool (pr.bT c5 ((pr.idx 0 i6 16)+7))),(.bool (pr.bT c5 ((pr.idx 0 i6 16)+8))),(.int .i64 (pr.bm c5 ((pr.idx 0 i6 16)+9))),(.sl (some (pr.bD c5 ((pr.idx 0 i6 16)+10))) 1 (pr.aZ c5 ((pr.idx 0 i6 16)+10)) (pr.ba c5 ((pr.idx 0 i6 16)+10))),(.sl (some (pr.bD c5 ((pr.idx 0 i6 16)+11))) 1 (pr.aZ c5 ((pr.idx 0 i6 16)+11)) (pr.ba c5 ((pr.idx 0 i6 16)+11))),(.sl (some (pr.bD c5 ((pr.idx 0 i6 16)+12))) 1 (pr.aZ c5 ((pr.idx 0 i6 16)+12)) (pr.ba c5 ((pr.idx 0 i6 16)+12))),(.sl (some (pr.bD c5 ((pr.idx 0 i6 16)+13))) 1 (pr.aZ c5 ((pr.idx 0 i6 16)+13)) (pr.ba c5 ((pr.idx 0 i6 16)+13))),(.sl (some (pr.bD c5 ((pr.idx 0 i6 16)+14))) 1 (pr.aZ c5 ((pr.idx 0 i6 16)+14)) (pr.ba c5 ((pr.idx 0 i6 16)+14))),(.sl (some (pr.bD c5 ((pr.idx 0 i6 16)+15))) 1 (pr.aZ c5 ((pr.idx 0 i6 16)+15)) (pr.ba c5 ((pr.idx 0 i6 16)+15)))])] (.bool (fun bR=>(.done (br (br bR false true) (some ((.bool false),[.undef,.undef])) (J 0 (jX g0 n1 c2 g3 n4 c5 (pr.ar .add .i64 i6 1)))))))) none) none) none) none) (some ((.bool true),[.undef,.undef]))):=by kernel_rfl
theorem LY:Told cfg Tryz.prog 121 Tryz.f121:=⟨by kernel_rfl,Tryz.func121,by kernel_rfl⟩
theorem LZ (a0:Int) (a1:Int) (g2:Bool) (n2:Nat) (c2:List D) (a3:Int):aO pr cv J 121 Tryz.f121 [(.agg [(.int .i64 a0),(.int .i64 a1),(.sl (some g2) 1 n2 c2)]),(.int .i64 a3)]=
    (cv 96 [(.sl (some g2) 1 n2 c2),(.int .i64 a3)] (.int (fun dm=>(.done (br (pr.lt dm 0) (some ((.int .i64 (-1)),[.undef,.undef])) (some ((.int .i64 dm),[.undef,.undef]))))))):=by kernel_rfl
theorem L0:Told cfg Tryz.prog 122 Tryz.f122:=⟨by kernel_rfl,Tryz.func122,by kernel_rfl⟩
theorem L1 (a0:Int) (a1:Int) (g2:Bool) (n2:Nat) (c2:List D):aO pr cv J 122 Tryz.f122 [(.agg [(.int .i64 a0),(.int .i64 a1),(.sl (some g2) 1 n2 c2)])]=
    (cv 104 [(.sl (some g2) 1 n2 c2)] (.sl (fun dX=>(fun dt=>(.done (br (br (br (pr.nl dt) true false) true false) (some ((.agg [(.int .i64 a0),(.int .i64 a1),(.sl none 1 dX dt)]),[.undef])) none)))))):=by kernel_rfl
theorem L2:Told cfg Tryz.prog 126 Tryz.f126:=⟨by kernel_rfl,Tryz.func126,by kernel_rfl⟩
theorem L3 (a0:Int) (a1:Int) (g2:Bool) (n2:Nat) (c2:List D) (a3:Int) (a4:Int) (g5:Bool) (n5:Nat) (c5:List D):aO pr cv J 126 Tryz.f126 [(.agg [(.int .i64 a0),(.int .i64 a1),(.sl (some g2) 1 n2 c2)]),(.agg [(.int .i64 a3),(.int .i64 a4),(.sl (some g5) 1 n5 c5)])]=
    let y1:Option (D × List D):=(some ((.bool false),[.undef,.undef]))
    (br (br (pr.eq a0 a3) false true) y1 (br (br (pr.eq a1 a4) false true) y1 (cv 116 [(.sl (some g2) 1 n2 c2),(.sl (some g5) 1 n5 c5)] (.bool (fun bR=>(.done (br (br bR false true) y1 (some ((.bool true),[.undef,.undef]))))))))):=by kernel_rfl
def mP (g0:Bool) (n1:Nat) (c2:List D) (i3:Int) (i4:Int):St:=(St.mk [(0,(.sl (some g0) 3 n1 c2)),(1,(.int .i64 i3)),(5,(.int .i64 i4))] [] [] 0)
theorem yq:Told cfg Tryz.prog 67 Tryz.f67:=⟨by kernel_rfl,Tryz.func67,by kernel_rfl⟩
theorem yr (g0:Bool) (n0:Nat) (c0:List D) (a1:Int):aO pr cv J 67 Tryz.f67 [(.sl (some g0) 3 n0 c0),(.int .i64 a1)]=
    (br (pr.lt (pr.ar .sub .i64 a1 (pr.aX n0)) 0) (some ((.int .i64 (-1)),[.undef,.undef])) (J 0 (mP g0 n0 c0 (pr.ar .sub .i64 a1 (pr.aX n0)) 0))):=by kernel_rfl
theorem o8 (g0:Bool) (n1:Nat) (c2:List D) (i3:Int) (i4:Int):bF pr cv J 67 Tryz.f67 [.undef,.undef] 0 (mP g0 n1 c2 i3 i4)=
    (br (pr.lt i4 (pr.aX n1)) (br (pr.bz i4 n1) (br (br (pr.cg .i64 c2 (pr.idx 0 i4 3)) (br (pr.cg .i64 c2 ((pr.idx 0 i4 3)+1)) (br (pr.bG 1 c2 ((pr.idx 0 i4 3)+2)) true false) false) false) (cv 121 [(.agg [(.int .i64 (pr.bm c2 (pr.idx 0 i4 3))),(.int .i64 (pr.bm c2 ((pr.idx 0 i4 3)+1))),(.sl (some (pr.bD c2 ((pr.idx 0 i4 3)+2))) 1 (pr.aZ c2 ((pr.idx 0 i4 3)+2)) (pr.ba c2 ((pr.idx 0 i4 3)+2)))]),(.int .i64 i3)] (.int (fun dm=>(.done (br (pr.lt dm 0) (some ((.int .i64 (-1)),[.undef,.undef])) (J 0 (mP g0 n1 c2 dm (pr.ar .add .i64 i4 1)))))))) none) none) (some ((.int .i64 i3),[.undef,.undef]))):=by kernel_rfl
def jY (g0:Bool) (n1:Nat) (c2:List D) (i3:Int) (n4:Nat) (c5:List D):St:=(St.mk [(0,(.sl (some g0) 3 n1 c2)),(3,(.ref 10003 [] 0 none)),(4,(.int .i64 i3))] [(10003,[(.sl none 3 n4 c5)])] [] 0)
theorem Jq:Told cfg Tryz.prog 72 Tryz.f72:=⟨by kernel_rfl,Tryz.func72,by kernel_rfl⟩
theorem Jr (g0:Bool) (n0:Nat) (c0:List D):aO pr cv J 72 Tryz.f72 [(.sl (some g0) 3 n0 c0)]=
    (br (pr.vH (pr.aX n0) (pr.aX n0) 40) (J 0 (jY g0 n0 c0 0 (pr.jk (pr.aX n0)) (fF (pr.jk (pr.aX n0)) [(.int .i64 0),(.int .i64 0),(.nil 1)]))) none):=by kernel_rfl
theorem uC (g0:Bool) (n1:Nat) (c2:List D) (i3:Int) (n4:Nat) (c5:List D):bF pr cv J 72 Tryz.f72 [.undef] 0 (jY g0 n1 c2 i3 n4 c5)=
    (br (pr.lt i3 (pr.aX n1)) (br (pr.bz i3 n1) (br (br (pr.cg .i64 c2 (pr.idx 0 i3 3)) (br (pr.cg .i64 c2 ((pr.idx 0 i3 3)+1)) (br (pr.bG 1 c2 ((pr.idx 0 i3 3)+2)) true false) false) false) (cv 122 [(.agg [(.int .i64 (pr.bm c2 (pr.idx 0 i3 3))),(.int .i64 (pr.bm c2 ((pr.idx 0 i3 3)+1))),(.sl (some (pr.bD c2 ((pr.idx 0 i3 3)+2))) 1 (pr.aZ c2 ((pr.idx 0 i3 3)+2)) (pr.ba c2 ((pr.idx 0 i3 3)+2)))])] (.int (fun dm=>(.int (fun gK=>(.sl (fun oW=>(fun iU=>(.done (br (br (br (pr.nl iU) true false) true false) (br (pr.bz i3 n4) (br (br (pr.ne c5) (br (pr.slot c5 (pr.idx 0 i3 3)) (br (pr.slot (List.set c5 (pr.idx 0 i3 3) (.int .i64 dm)) ((pr.idx 0 i3 3)+1)) (br (pr.jN 1 (List.set (List.set c5 (pr.idx 0 i3 3) (.int .i64 dm)) ((pr.idx 0 i3 3)+1) (.int .i64 gK)) ((pr.idx 0 i3 3)+2)) true false) false) false) false) (cv 999999 [(.sl none 0 0 (List.set (List.set (List.set c5 (pr.idx 0 i3 3) (.int .i64 dm)) ((pr.idx 0 i3 3)+1) (.int .i64 gK)) ((pr.idx 0 i3 3)+2) (.sl none 1 oW iU)))] (.sl (fun yi=>(fun uz=>(.done (J 0 (jY g0 n1 c2 (pr.ar .add .i64 i3 1) n4 uz))))))) none) none) none)))))))))) none) none) (some ((.sl none 3 n4 c5),[.undef]))):=by kernel_rfl
def jZ (g0:Bool) (n1:Nat) (c2:List D) (g3:Bool) (n4:Nat) (c5:List D) (i6:Int):St:=(St.mk [(0,(.sl (some g0) 3 n1 c2)),(1,(.sl (some g3) 3 n4 c5)),(5,(.int .i64 i6))] [] [] 0)
theorem Js:Told cfg Tryz.prog 79 Tryz.f79:=⟨by kernel_rfl,Tryz.func79,by kernel_rfl⟩
theorem Jt (g0:Bool) (n0:Nat) (c0:List D) (g1:Bool) (n1:Nat) (c1:List D):aO pr cv J 79 Tryz.f79 [(.sl (some g0) 3 n0 c0),(.sl (some g1) 3 n1 c1)]=
    (br (br (pr.eq (pr.aX n0) (pr.aX n1)) false true) (some ((.bool false),[.undef,.undef])) (J 0 (jZ g0 n0 c0 g1 n1 c1 0))):=by kernel_rfl
theorem uD (g0:Bool) (n1:Nat) (c2:List D) (g3:Bool) (n4:Nat) (c5:List D) (i6:Int):bF pr cv J 79 Tryz.f79 [.undef,.undef] 0 (jZ g0 n1 c2 g3 n4 c5 i6)=
    (br (pr.lt i6 (pr.aX n1)) (br (pr.bz i6 n1) (br (br (pr.cg .i64 c2 (pr.idx 0 i6 3)) (br (pr.cg .i64 c2 ((pr.idx 0 i6 3)+1)) (br (pr.bG 1 c2 ((pr.idx 0 i6 3)+2)) true false) false) false) (br (pr.bz i6 n4) (br (br (pr.cg .i64 c5 (pr.idx 0 i6 3)) (br (pr.cg .i64 c5 ((pr.idx 0 i6 3)+1)) (br (pr.bG 1 c5 ((pr.idx 0 i6 3)+2)) true false) false) false) (cv 126 [(.agg [(.int .i64 (pr.bm c2 (pr.idx 0 i6 3))),(.int .i64 (pr.bm c2 ((pr.idx 0 i6 3)+1))),(.sl (some (pr.bD c2 ((pr.idx 0 i6 3)+2))) 1 (pr.aZ c2 ((pr.idx 0 i6 3)+2)) (pr.ba c2 ((pr.idx 0 i6 3)+2)))]),(.agg [(.int .i64 (pr.bm c5 (pr.idx 0 i6 3))),(.int .i64 (pr.bm c5 ((pr.idx 0 i6 3)+1))),(.sl (some (pr.bD c5 ((pr.idx 0 i6 3)+2))) 1 (pr.aZ c5 ((pr.idx 0 i6 3)+2)) (pr.ba c5 ((pr.idx 0 i6 3)+2)))])] (.bool (fun bR=>(.done (br (br bR false true) (some ((.bool false),[.undef,.undef])) (J 0 (jZ g0 n1 c2 g3 n4 c5 (pr.ar .add .i64 i6 1)))))))) none) none) none) none) (some ((.bool true),[.undef,.undef]))):=by kernel_rfl
theorem PI:Told cfg Tryz.prog 123 Tryz.f123:=⟨by kernel_rfl,Tryz.func123,by kernel_rfl⟩
theorem PJ (a0:Int) (a1:Int):aO pr cv J 123 Tryz.f123 [(.agg [(.int .i64 a0),(.int .i64 a1)])]=
    (some ((.agg [(.int .i64 a0),(.int .i64 a1)]),[.undef])):=by kernel_rfl
theorem PK:Told cfg Tryz.prog 127 Tryz.f127:=⟨by kernel_rfl,Tryz.func127,by kernel_rfl⟩
theorem PL (a0:Int) (a1:Int) (a2:Int) (a3:Int):aO pr cv J 127 Tryz.f127 [(.agg [(.int .i64 a0),(.int .i64 a1)]),(.agg [(.int .i64 a2),(.int .i64 a3)])]=
    let y1:Option (D × List D):=(some ((.bool false),[.undef,.undef]))
    (br (br (pr.eq a0 a2) false true) y1 (br (br (pr.eq a1 a3) false true) y1 (some ((.bool true),[.undef,.undef])))):=by kernel_rfl
theorem L4:Told cfg Tryz.prog 68 Tryz.f68:=⟨by kernel_rfl,Tryz.func68,by kernel_rfl⟩
theorem L5 (g0:Bool) (n0:Nat) (c0:List D) (a1:Int):aO pr cv J 68 Tryz.f68 [(.sl (some g0) 2 n0 c0),(.int .i64 a1)]=
    (br (pr.lt (pr.ar .sub .i64 a1 (pr.aX n0)) 0) (some ((.int .i64 (-1)),[.undef,.undef])) (some ((.int .i64 (pr.ar .sub .i64 a1 (pr.aX n0))),[.undef,.undef]))):=by kernel_rfl
def kR (g0:Bool) (n1:Nat) (c2:List D) (i3:Int) (n4:Nat) (c5:List D):St:=(St.mk [(0,(.sl (some g0) 2 n1 c2)),(3,(.ref 10003 [] 0 none)),(4,(.int .i64 i3))] [(10003,[(.sl none 2 n4 c5)])] [] 0)
theorem L6:Told cfg Tryz.prog 73 Tryz.f73:=⟨by kernel_rfl,Tryz.func73,by kernel_rfl⟩
theorem L7 (g0:Bool) (n0:Nat) (c0:List D):aO pr cv J 73 Tryz.f73 [(.sl (some g0) 2 n0 c0)]=
    (br (pr.vH (pr.aX n0) (pr.aX n0) 16) (J 0 (kR g0 n0 c0 0 (pr.jk (pr.aX n0)) (fF (pr.jk (pr.aX n0)) [(.int .i64 0),(.int .i64 0)]))) none):=by kernel_rfl
theorem vW (g0:Bool) (n1:Nat) (c2:List D) (i3:Int) (n4:Nat) (c5:List D):bF pr cv J 73 Tryz.f73 [.undef] 0 (kR g0 n1 c2 i3 n4 c5)=
    (br (pr.lt i3 (pr.aX n1)) (br (pr.bz i3 n1) (br (br (pr.cg .i64 c2 (pr.idx 0 i3 2)) (br (pr.cg .i64 c2 ((pr.idx 0 i3 2)+1)) true false) false) (cv 123 [(.agg [(.int .i64 (pr.bm c2 (pr.idx 0 i3 2))),(.int .i64 (pr.bm c2 ((pr.idx 0 i3 2)+1)))])] (.int (fun dm=>(.int (fun gK=>(.done (br (pr.bz i3 n4) (br (br (pr.ne c5) (br (pr.slot c5 (pr.idx 0 i3 2)) (br (pr.slot (List.set c5 (pr.idx 0 i3 2) (.int .i64 dm)) ((pr.idx 0 i3 2)+1)) true false) false) false) (cv 999999 [(.sl none 0 0 (List.set (List.set c5 (pr.idx 0 i3 2) (.int .i64 dm)) ((pr.idx 0 i3 2)+1) (.int .i64 gK)))] (.sl (fun oW=>(fun iU=>(.done (J 0 (kR g0 n1 c2 (pr.ar .add .i64 i3 1) n4 iU))))))) none) none))))))) none) none) (some ((.sl none 2 n4 c5),[.undef]))):=by kernel_rfl
def kS (g0:Bool) (n1:Nat) (c2:List D) (g3:Bool) (n4:Nat) (c5:List D) (i6:Int):St:=(St.mk [(0,(.sl (some g0) 2 n1 c2)),(1,(.sl (some g3) 2 n4 c5)),(5,(.int .i64 i6))] [] [] 0)
theorem L8:Told cfg Tryz.prog 80 Tryz.f80:=⟨by kernel_rfl,Tryz.func80,by kernel_rfl⟩
theorem L9 (g0:Bool) (n0:Nat) (c0:List D) (g1:Bool) (n1:Nat) (c1:List D):aO pr cv J 80 Tryz.f80 [(.sl (some g0) 2 n0 c0),(.sl (some g1) 2 n1 c1)]=
    (br (br (pr.eq (pr.aX n0) (pr.aX n1)) false true) (some ((.bool false),[.undef,.undef])) (J 0 (kS g0 n0 c0 g1 n1 c1 0))):=by kernel_rfl
theorem vX (g0:Bool) (n1:Nat) (c2:List D) (g3:Bool) (n4:Nat) (c5:List D) (i6:Int):bF pr cv J 80 Tryz.f80 [.undef,.undef] 0 (kS g0 n1 c2 g3 n4 c5 i6)=
    (br (pr.lt i6 (pr.aX n1)) (br (pr.bz i6 n1) (br (br (pr.cg .i64 c2 (pr.idx 0 i6 2)) (br (pr.cg .i64 c2 ((pr.idx 0 i6 2)+1)) true false) false) (br (pr.bz i6 n4) (br (br (pr.cg .i64 c5 (pr.idx 0 i6 2)) (br (pr.cg .i64 c5 ((pr.idx 0 i6 2)+1)) true false) false) (cv 127 [(.agg [(.int .i64 (pr.bm c2 (pr.idx 0 i6 2))),(.int .i64 (pr.bm c2 ((pr.idx 0 i6 2)+1)))]),(.agg [(.int .i64 (pr.bm c5 (pr.idx 0 i6 2))),(.int .i64 (pr.bm c5 ((pr.idx 0 i6 2)+1)))])] (.bool (fun bR=>(.done (br (br bR false true) (some ((.bool false),[.undef,.undef])) (J 0 (kS g0 n1 c2 g3 n4 c5 (pr.ar .add .i64 i6 1)))))))) none) none) none) none) (some ((.bool true),[.undef,.undef]))):=by kernel_rfl
theorem Ju:Told cfg Tryz.prog 20 Tryz.f20:=⟨by kernel_rfl,Tryz.func20,by kernel_rfl⟩
theorem Jv (g0:Bool) (n0:Nat) (c0:List D) (g1:Bool) (n1:Nat) (c1:List D) (g2:Bool) (n2:Nat) (c2:List D) (g3:Bool) (n3:Nat) (c3:List D) (a4:Int) (a5:Int):aO pr cv J 20 Tryz.f20 [(.agg [(.sl (some g0) 16 n0 c0),(.sl (some g1) 3 n1 c1),(.sl (some g2) 2 n2 c2),(.sl (some g3) 1 n3 c3),(.int .i64 a4)]),(.int .i64 a5)]=
    let y1:Option (D × List D):=(some ((.int .i64 (-1)),[.undef,.undef]))
    (cv 66 [(.sl (some g0) 16 n0 c0),(.int .i64 a5)] (.int (fun dm=>(.done (br (pr.lt dm 0) y1 (cv 67 [(.sl (some g1) 3 n1 c1),(.int .i64 dm)] (.int (fun gK=>(.done (br (pr.lt gK 0) y1 (cv 68 [(.sl (some g2) 2 n2 c2),(.int .i64 gK)] (.int (fun rm=>(.done (br (pr.lt rm 0) y1 (cv 35 [(.sl (some g3) 1 n3 c3),(.int .i64 rm)] (.int (fun rS=>(.done (br (pr.lt rS 0) y1 (some ((.int .i64 rS),[.undef,.undef])))))))))))))))))))))):=by kernel_rfl
theorem Jw:Told cfg Tryz.prog 22 Tryz.f22:=⟨by kernel_rfl,Tryz.func22,by kernel_rfl⟩
theorem Jx (g0:Bool) (n0:Nat) (c0:List D) (g1:Bool) (n1:Nat) (c1:List D) (g2:Bool) (n2:Nat) (c2:List D) (g3:Bool) (n3:Nat) (c3:List D) (a4:Int):aO pr cv J 22 Tryz.f22 [(.agg [(.sl (some g0) 16 n0 c0),(.sl (some g1) 3 n1 c1),(.sl (some g2) 2 n2 c2),(.sl (some g3) 1 n3 c3),(.int .i64 a4)])]=
    (cv 71 [(.sl (some g0) 16 n0 c0)] (.sl (fun dX=>(fun dt=>(.done (br (br (br (pr.nl dt) true false) true false) (cv 72 [(.sl (some g1) 3 n1 c1)] (.sl (fun oW=>(fun iU=>(.done (br (br (br (pr.nl iU) true false) true false) (cv 73 [(.sl (some g2) 2 n2 c2)] (.sl (fun yi=>(fun uz=>(.done (br (br (br (pr.nl uz) true false) true false) (cv 42 [(.sl (some g3) 1 n3 c3)] (.sl (fun vn6=>(fun Wv=>(.done (br (br (br (pr.nl Wv) true false) true false) (some ((.agg [(.sl none 16 dX dt),(.sl none 3 oW iU),(.sl none 2 yi uz),(.sl none 1 vn6 Wv),(.int .i64 a4)]),[.undef])) none)))))) none)))))) none)))))) none)))))):=by kernel_rfl
theorem Jy:Told cfg Tryz.prog 24 Tryz.f24:=⟨by kernel_rfl,Tryz.func24,by kernel_rfl⟩
theorem Jz (g0:Bool) (n0:Nat) (c0:List D) (g1:Bool) (n1:Nat) (c1:List D) (g2:Bool) (n2:Nat) (c2:List D) (g3:Bool) (n3:Nat) (c3:List D) (a4:Int) (g5:Bool) (n5:Nat) (c5:List D) (g6:Bool) (n6:Nat) (c6:List D) (g7:Bool) (n7:Nat) (c7:List D) (g8:Bool) (n8:Nat) (c8:List D) (a9:Int):aO pr cv J 24 Tryz.f24 [(.agg [(.sl (some g0) 16 n0 c0),(.sl (some g1) 3 n1 c1),(.sl (some g2) 2 n2 c2),(.sl (some g3) 1 n3 c3),(.int .i64 a4)]),(.agg [(.sl (some g5) 16 n5 c5),(.sl (some g6) 3 n6 c6),(.sl (some g7) 2 n7 c7),(.sl (some g8) 1 n8 c8),(.int .i64 a9)])]=
    let y1:Option (D × List D):=(some ((.bool false),[.undef,.undef]))
    (cv 78 [(.sl (some g0) 16 n0 c0),(.sl (some g5) 16 n5 c5)] (.bool (fun bR=>(.done (br (br bR false true) y1 (cv 79 [(.sl (some g1) 3 n1 c1),(.sl (some g6) 3 n6 c6)] (.bool (fun eP=>(.done (br (br eP false true) y1 (cv 80 [(.sl (some g2) 2 n2 c2),(.sl (some g7) 2 n7 c7)] (.bool (fun iC=>(.done (br (br iC false true) y1 (cv 49 [(.sl (some g3) 1 n3 c3),(.sl (some g8) 1 n8 c8)] (.bool (fun BD=>(.done (br (br BD false true) y1 (br (br (pr.eq a4 a9) false true) y1 (some ((.bool true),[.undef,.undef]))))))))))))))))))))))):=by kernel_rfl
end
theorem rq (i w:Nat):ad.idx 0 (i:Int) w=i*w:=by rw [aaf,Nat.zero_add]
section
variable {α:Type} {e:α→List D} {w:Nat} (hw:∀ x,(e x).length=w) {xs:List α} {i k:Nat} (hi:i < xs.length) (hk:k < w)
include hw hi hk
theorem yt (kk:IntKind):ad.cg kk (ab e xs) (i*w+k)=ad.cg kk (e xs[i]) k:=by simp only [ad,mM hw xs hi hk]
theorem u7:ad.bm (ab e xs) (i*w+k)=ad.bm (e xs[i]) k:=by simp only [ad,mM hw xs hi hk]
theorem BF:ad.cI (ab e xs) (i*w+k)=ad.cI (e xs[i]) k:=by simp only [ad,mM hw xs hi hk]
theorem yu:ad.bT (ab e xs) (i*w+k)=ad.bT (e xs[i]) k:=by simp only [ad,mM hw xs hi hk]
theorem pC (s:Nat):ad.bG s (ab e xs) (i*w+k)=ad.bG s (e xs[i]) k:=by simp only [ad,mM hw xs hi hk]
theorem nu:ad.bD (ab e xs) (i*w+k)=ad.bD (e xs[i]) k:=by simp only [ad,mM hw xs hi hk]
theorem nv:ad.aZ (ab e xs) (i*w+k)=ad.aZ (e xs[i]) k:=by simp only [ad,mM hw xs hi hk]
theorem nw:ad.ba (ab e xs) (i*w+k)=ad.ba (e xs[i]) k:=by simp only [ad,mM hw xs hi hk]
end
theorem G3 {g:Bool} {xs:List ae} {i:Nat} (h:i < xs.length):ad.cg .i64 (ab (U (some g)) xs) (i*16)=true:=(yt (e:=U (some g)) (w:=16) (fun _=>rfl) (k:=0) h (by omega) _).trans rfl
theorem G4 {g:Bool} {xs:List ae} {i:Nat} (h:i < xs.length):ad.bm (ab (U (some g)) xs) (i*16)=xs[i].id:=(u7 (e:=U (some g)) (w:=16) (fun _=>rfl) (k:=0) h (by omega)).trans rfl
theorem G5 {g:Bool} {xs:List ae} {i:Nat} (h:i < xs.length):ad.cI (ab (U (some g)) xs) (i*16+1)=true:=(BF (e:=U (some g)) (w:=16) (fun _=>rfl) (k:=1) h (by omega)).trans rfl
theorem G6 {g:Bool} {xs:List ae} {i:Nat} (h:i < xs.length):ad.bT (ab (U (some g)) xs) (i*16+1)=xs[i].up:=(yu (e:=U (some g)) (w:=16) (fun _=>rfl) (k:=1) h (by omega)).trans rfl
theorem G7 {g:Bool} {xs:List ae} {i:Nat} (h:i < xs.length):ad.cI (ab (U (some g)) xs) (i*16+2)=true:=(BF (e:=U (some g)) (w:=16) (fun _=>rfl) (k:=2) h (by omega)).trans rfl
theorem G8 {g:Bool} {xs:List ae} {i:Nat} (h:i < xs.length):ad.bT (ab (U (some g)) xs) (i*16+2)=xs[i].cn:=(yu (e:=U (some g)) (w:=16) (fun _=>rfl) (k:=2) h (by omega)).trans rfl
theorem G9 {g:Bool} {xs:List ae} {i:Nat} (h:i < xs.length):ad.bG 1 (ab (U (some g)) xs) (i*16+3)=true:=(pC (e:=U (some g)) (w:=16) (fun _=>rfl) (k:=3) h (by omega) _).trans rfl
theorem Ha {g:Bool} {xs:List ae} {i:Nat} (h:i < xs.length):ad.bD (ab (U (some g)) xs) (i*16+3)=g:=(nu (e:=U (some g)) (w:=16) (fun _=>rfl) (k:=3) h (by omega)).trans rfl
theorem Hb {g:Bool} {xs:List ae} {i:Nat} (h:i < xs.length):ad.aZ (ab (U (some g)) xs) (i*16+3)=xs[i].image.length:=(nv (e:=U (some g)) (w:=16) (fun _=>rfl) (k:=3) h (by omega)).trans rfl
theorem Hc {g:Bool} {xs:List ae} {i:Nat} (h:i < xs.length):ad.ba (ab (U (some g)) xs) (i*16+3)=ints xs[i].image:=(nw (e:=U (some g)) (w:=16) (fun _=>rfl) (k:=3) h (by omega)).trans rfl
theorem Hd {g:Bool} {xs:List ae} {i:Nat} (h:i < xs.length):ad.bG 1 (ab (U (some g)) xs) (i*16+4)=true:=(pC (e:=U (some g)) (w:=16) (fun _=>rfl) (k:=4) h (by omega) _).trans rfl
theorem He {g:Bool} {xs:List ae} {i:Nat} (h:i < xs.length):ad.bD (ab (U (some g)) xs) (i*16+4)=g:=(nu (e:=U (some g)) (w:=16) (fun _=>rfl) (k:=4) h (by omega)).trans rfl
theorem Hf {g:Bool} {xs:List ae} {i:Nat} (h:i < xs.length):ad.aZ (ab (U (some g)) xs) (i*16+4)=xs[i].mt.aA.length:=(nv (e:=U (some g)) (w:=16) (fun _=>rfl) (k:=4) h (by omega)).trans rfl
theorem Hg {g:Bool} {xs:List ae} {i:Nat} (h:i < xs.length):ad.ba (ab (U (some g)) xs) (i*16+4)=ints xs[i].mt.aA:=(nw (e:=U (some g)) (w:=16) (fun _=>rfl) (k:=4) h (by omega)).trans rfl
theorem Hh {g:Bool} {xs:List ae} {i:Nat} (h:i < xs.length):ad.bG 1 (ab (U (some g)) xs) (i*16+5)=true:=(pC (e:=U (some g)) (w:=16) (fun _=>rfl) (k:=5) h (by omega) _).trans rfl
theorem Hi {g:Bool} {xs:List ae} {i:Nat} (h:i < xs.length):ad.bD (ab (U (some g)) xs) (i*16+5)=g:=(nu (e:=U (some g)) (w:=16) (fun _=>rfl) (k:=5) h (by omega)).trans rfl
theorem Hj {g:Bool} {xs:List ae} {i:Nat} (h:i < xs.length):ad.aZ (ab (U (some g)) xs) (i*16+5)=xs[i].mt.bits.length:=(nv (e:=U (some g)) (w:=16) (fun _=>rfl) (k:=5) h (by omega)).trans rfl
theorem Hk {g:Bool} {xs:List ae} {i:Nat} (h:i < xs.length):ad.ba (ab (U (some g)) xs) (i*16+5)=rows (some g) xs[i].mt.bits:=(nw (e:=U (some g)) (w:=16) (fun _=>rfl) (k:=5) h (by omega)).trans rfl
theorem Hl {g:Bool} {xs:List ae} {i:Nat} (h:i < xs.length):ad.cI (ab (U (some g)) xs) (i*16+6)=true:=(BF (e:=U (some g)) (w:=16) (fun _=>rfl) (k:=6) h (by omega)).trans rfl
theorem Hm {g:Bool} {xs:List ae} {i:Nat} (h:i < xs.length):ad.bT (ab (U (some g)) xs) (i*16+6)=xs[i].mt.cK:=(yu (e:=U (some g)) (w:=16) (fun _=>rfl) (k:=6) h (by omega)).trans rfl
theorem Hn {g:Bool} {xs:List ae} {i:Nat} (h:i < xs.length):ad.cI (ab (U (some g)) xs) (i*16+7)=true:=(BF (e:=U (some g)) (w:=16) (fun _=>rfl) (k:=7) h (by omega)).trans rfl
theorem Ho {g:Bool} {xs:List ae} {i:Nat} (h:i < xs.length):ad.bT (ab (U (some g)) xs) (i*16+7)=xs[i].mt.bO:=(yu (e:=U (some g)) (w:=16) (fun _=>rfl) (k:=7) h (by omega)).trans rfl
theorem Hp {g:Bool} {xs:List ae} {i:Nat} (h:i < xs.length):ad.cI (ab (U (some g)) xs) (i*16+8)=true:=(BF (e:=U (some g)) (w:=16) (fun _=>rfl) (k:=8) h (by omega)).trans rfl
theorem Hq {g:Bool} {xs:List ae} {i:Nat} (h:i < xs.length):ad.bT (ab (U (some g)) xs) (i*16+8)=xs[i].mt.held:=(yu (e:=U (some g)) (w:=16) (fun _=>rfl) (k:=8) h (by omega)).trans rfl
theorem Hr {g:Bool} {xs:List ae} {i:Nat} (h:i < xs.length):ad.cg .i64 (ab (U (some g)) xs) (i*16+9)=true:=(yt (e:=U (some g)) (w:=16) (fun _=>rfl) (k:=9) h (by omega) _).trans rfl
theorem Ht {g:Bool} {xs:List ae} {i:Nat} (h:i < xs.length):ad.bm (ab (U (some g)) xs) (i*16+9)=xs[i].mt.last:=(u7 (e:=U (some g)) (w:=16) (fun _=>rfl) (k:=9) h (by omega)).trans rfl
theorem BG {g:Bool} {xs:List ae} {i:Nat} (h:i < xs.length):ad.bG 1 (ab (U (some g)) xs) (i*16+10)=true:=(pC (e:=U (some g)) (w:=16) (fun _=>rfl) (k:=10) h (by omega) _).trans rfl
theorem BH {g:Bool} {xs:List ae} {i:Nat} (h:i < xs.length):ad.bD (ab (U (some g)) xs) (i*16+10)=g:=(nu (e:=U (some g)) (w:=16) (fun _=>rfl) (k:=10) h (by omega)).trans rfl
theorem BI {g:Bool} {xs:List ae} {i:Nat} (h:i < xs.length):ad.aZ (ab (U (some g)) xs) (i*16+10)=xs[i].aN.a.length:=(nv (e:=U (some g)) (w:=16) (fun _=>rfl) (k:=10) h (by omega)).trans rfl
theorem BJ {g:Bool} {xs:List ae} {i:Nat} (h:i < xs.length):ad.ba (ab (U (some g)) xs) (i*16+10)=bytes xs[i].aN.a:=(nw (e:=U (some g)) (w:=16) (fun _=>rfl) (k:=10) h (by omega)).trans rfl
theorem BK {g:Bool} {xs:List ae} {i:Nat} (h:i < xs.length):ad.bG 1 (ab (U (some g)) xs) (i*16+11)=true:=(pC (e:=U (some g)) (w:=16) (fun _=>rfl) (k:=11) h (by omega) _).trans rfl
theorem BL {g:Bool} {xs:List ae} {i:Nat} (h:i < xs.length):ad.bD (ab (U (some g)) xs) (i*16+11)=g:=(nu (e:=U (some g)) (w:=16) (fun _=>rfl) (k:=11) h (by omega)).trans rfl
theorem BM {g:Bool} {xs:List ae} {i:Nat} (h:i < xs.length):ad.aZ (ab (U (some g)) xs) (i*16+11)=xs[i].aN.b.length:=(nv (e:=U (some g)) (w:=16) (fun _=>rfl) (k:=11) h (by omega)).trans rfl
theorem BN {g:Bool} {xs:List ae} {i:Nat} (h:i < xs.length):ad.ba (ab (U (some g)) xs) (i*16+11)=bytes xs[i].aN.b:=(nw (e:=U (some g)) (w:=16) (fun _=>rfl) (k:=11) h (by omega)).trans rfl
theorem BO {g:Bool} {xs:List ae} {i:Nat} (h:i < xs.length):ad.bG 1 (ab (U (some g)) xs) (i*16+12)=true:=(pC (e:=U (some g)) (w:=16) (fun _=>rfl) (k:=12) h (by omega) _).trans rfl
theorem BP {g:Bool} {xs:List ae} {i:Nat} (h:i < xs.length):ad.bD (ab (U (some g)) xs) (i*16+12)=g:=(nu (e:=U (some g)) (w:=16) (fun _=>rfl) (k:=12) h (by omega)).trans rfl
theorem BQ {g:Bool} {xs:List ae} {i:Nat} (h:i < xs.length):ad.aZ (ab (U (some g)) xs) (i*16+12)=xs[i].conn.length:=(nv (e:=U (some g)) (w:=16) (fun _=>rfl) (k:=12) h (by omega)).trans rfl
theorem BR {g:Bool} {xs:List ae} {i:Nat} (h:i < xs.length):ad.ba (ab (U (some g)) xs) (i*16+12)=aG xs[i].conn:=(nw (e:=U (some g)) (w:=16) (fun _=>rfl) (k:=12) h (by omega)).trans rfl
theorem BS {g:Bool} {xs:List ae} {i:Nat} (h:i < xs.length):ad.bG 1 (ab (U (some g)) xs) (i*16+13)=true:=(pC (e:=U (some g)) (w:=16) (fun _=>rfl) (k:=13) h (by omega) _).trans rfl
theorem BT {g:Bool} {xs:List ae} {i:Nat} (h:i < xs.length):ad.bD (ab (U (some g)) xs) (i*16+13)=g:=(nu (e:=U (some g)) (w:=16) (fun _=>rfl) (k:=13) h (by omega)).trans rfl
theorem BU {g:Bool} {xs:List ae} {i:Nat} (h:i < xs.length):ad.aZ (ab (U (some g)) xs) (i*16+13)=xs[i].sync.length:=(nv (e:=U (some g)) (w:=16) (fun _=>rfl) (k:=13) h (by omega)).trans rfl
theorem BV {g:Bool} {xs:List ae} {i:Nat} (h:i < xs.length):ad.ba (ab (U (some g)) xs) (i*16+13)=rows (some g) xs[i].sync:=(nw (e:=U (some g)) (w:=16) (fun _=>rfl) (k:=13) h (by omega)).trans rfl
theorem BW {g:Bool} {xs:List ae} {i:Nat} (h:i < xs.length):ad.bG 1 (ab (U (some g)) xs) (i*16+14)=true:=(pC (e:=U (some g)) (w:=16) (fun _=>rfl) (k:=14) h (by omega) _).trans rfl
theorem BX {g:Bool} {xs:List ae} {i:Nat} (h:i < xs.length):ad.bD (ab (U (some g)) xs) (i*16+14)=g:=(nu (e:=U (some g)) (w:=16) (fun _=>rfl) (k:=14) h (by omega)).trans rfl
theorem BY {g:Bool} {xs:List ae} {i:Nat} (h:i < xs.length):ad.aZ (ab (U (some g)) xs) (i*16+14)=xs[i].aM.length:=(nv (e:=U (some g)) (w:=16) (fun _=>rfl) (k:=14) h (by omega)).trans rfl
theorem BZ {g:Bool} {xs:List ae} {i:Nat} (h:i < xs.length):ad.ba (ab (U (some g)) xs) (i*16+14)=aG xs[i].aM:=(nw (e:=U (some g)) (w:=16) (fun _=>rfl) (k:=14) h (by omega)).trans rfl
theorem B3 {g:Bool} {xs:List ae} {i:Nat} (h:i < xs.length):ad.bG 1 (ab (U (some g)) xs) (i*16+15)=true:=(pC (e:=U (some g)) (w:=16) (fun _=>rfl) (k:=15) h (by omega) _).trans rfl
theorem B4 {g:Bool} {xs:List ae} {i:Nat} (h:i < xs.length):ad.bD (ab (U (some g)) xs) (i*16+15)=g:=(nu (e:=U (some g)) (w:=16) (fun _=>rfl) (k:=15) h (by omega)).trans rfl
theorem B5 {g:Bool} {xs:List ae} {i:Nat} (h:i < xs.length):ad.aZ (ab (U (some g)) xs) (i*16+15)=xs[i].wait.length:=(nv (e:=U (some g)) (w:=16) (fun _=>rfl) (k:=15) h (by omega)).trans rfl
theorem B6 {g:Bool} {xs:List ae} {i:Nat} (h:i < xs.length):ad.ba (ab (U (some g)) xs) (i*16+15)=ints xs[i].wait:=(nw (e:=U (some g)) (w:=16) (fun _=>rfl) (k:=15) h (by omega)).trans rfl
theorem Hu {g:Bool} {xs:List dr} {i:Nat} (h:i < xs.length):ad.cg .i64 (ab (bd (some g)) xs) (i*3)=true:=(yt (e:=bd (some g)) (w:=3) (fun _=>rfl) (k:=0) h (by omega) _).trans rfl
theorem Hv {g:Bool} {xs:List dr} {i:Nat} (h:i < xs.length):ad.bm (ab (bd (some g)) xs) (i*3)=xs[i].src:=(u7 (e:=bd (some g)) (w:=3) (fun _=>rfl) (k:=0) h (by omega)).trans rfl
theorem Hw {g:Bool} {xs:List dr} {i:Nat} (h:i < xs.length):ad.cg .i64 (ab (bd (some g)) xs) (i*3+1)=true:=(yt (e:=bd (some g)) (w:=3) (fun _=>rfl) (k:=1) h (by omega) _).trans rfl
theorem Hy {g:Bool} {xs:List dr} {i:Nat} (h:i < xs.length):ad.bm (ab (bd (some g)) xs) (i*3+1)=xs[i].dst:=(u7 (e:=bd (some g)) (w:=3) (fun _=>rfl) (k:=1) h (by omega)).trans rfl
theorem Hz {g:Bool} {xs:List dr} {i:Nat} (h:i < xs.length):ad.bG 1 (ab (bd (some g)) xs) (i*3+2)=true:=(pC (e:=bd (some g)) (w:=3) (fun _=>rfl) (k:=2) h (by omega) _).trans rfl
theorem HA {g:Bool} {xs:List dr} {i:Nat} (h:i < xs.length):ad.bD (ab (bd (some g)) xs) (i*3+2)=g:=(nu (e:=bd (some g)) (w:=3) (fun _=>rfl) (k:=2) h (by omega)).trans rfl
theorem HB {g:Bool} {xs:List dr} {i:Nat} (h:i < xs.length):ad.aZ (ab (bd (some g)) xs) (i*3+2)=xs[i].bytes.length:=(nv (e:=bd (some g)) (w:=3) (fun _=>rfl) (k:=2) h (by omega)).trans rfl
theorem HC {g:Bool} {xs:List dr} {i:Nat} (h:i < xs.length):ad.ba (ab (bd (some g)) xs) (i*3+2)=bytes xs[i].bytes:=(nw (e:=bd (some g)) (w:=3) (fun _=>rfl) (k:=2) h (by omega)).trans rfl
theorem zE {g:Bool} {xs:List gx} {i:Nat} (h:i < xs.length):ad.cg .i64 (ab (cD (some g)) xs) (i*2)=true:=(yt (e:=cD (some g)) (w:=2) (fun _=>rfl) (k:=0) h (by omega) _).trans rfl
theorem zF {g:Bool} {xs:List gx} {i:Nat} (h:i < xs.length):ad.bm (ab (cD (some g)) xs) (i*2)=xs[i].cell:=(u7 (e:=cD (some g)) (w:=2) (fun _=>rfl) (k:=0) h (by omega)).trans rfl
theorem zG {g:Bool} {xs:List gx} {i:Nat} (h:i < xs.length):ad.cg .i64 (ab (cD (some g)) xs) (i*2+1)=true:=(yt (e:=cD (some g)) (w:=2) (fun _=>rfl) (k:=1) h (by omega) _).trans rfl
theorem zH {g:Bool} {xs:List gx} {i:Nat} (h:i < xs.length):ad.bm (ab (cD (some g)) xs) (i*2+1)=xs[i].up:=(u7 (e:=cD (some g)) (w:=2) (fun _=>rfl) (k:=1) h (by omega)).trans rfl
section
variable {A L B:List D} {m k:Nat} {d:D}
theorem HD (hA:A.length=m) (hk:k < L.length):List.set (A++(L++B)) (m+k) d=A++(L.set k d++B):=by
  subst hA
  rw [List.set_append_right _ _ (by omega),List.set_append_left _ _ (by omega)]
  simp
theorem JA (hA:A.length=m) (hk:0 < L.length):List.set (A++(L++B)) m d=A++(L.set 0 d++B):=HD (k:=0) hA hk
theorem Ww (hA:A.length=m) (hk:k < L.length):(A++(L++B))[m+k]?=L[k]?:=by
  subst hA
  rw [List.getElem?_append_right (by omega),List.getElem?_append_left (by omega)]
  simp
theorem Dh (hA:A.length=m) (hk:k < L.length):ad.slot (A++(L++B)) (m+k)=ad.slot L k:=by simp only [ad,Ww hA hk]
theorem E3 (hA:A.length=m) (hk:0 < L.length):ad.slot (A++(L++B)) m=ad.slot L 0:=Dh (k:=0) hA hk
theorem JB (s:Nat) (hA:A.length=m) (hk:k < L.length):ad.jN s (A++(L++B)) (m+k)=ad.jN s L k:=by simp only [ad,Ww hA hk]
theorem Ub (hk:0 < L.length):ad.ne (A++(L++B))=true:=by
  simp only [ad]
  cases A with
  | nil=>cases L with
    | nil=>simp at hk
    | cons _ _=>rfl
  | cons _ _=>rfl
theorem JC (l:List D) (n:Nat):ad.slot (d::l) (n+1)=ad.slot l n:=rfl
theorem JD (l:List D) (kk:IntKind) (x:Int):ad.slot (.int kk x::l) 0=true:=rfl
theorem JE (l:List D) (x:Bool):ad.slot (.bool x::l) 0=true:=rfl
theorem JF (s:Nat) (l:List D) (n:Nat):ad.jN s (d::l) (n+1)=ad.jN s l n:=rfl
theorem JG (l c:List D) (n:Nat):ad.jN 1 (.sl none 1 n c::l) 0=true:=rfl
end
theorem xE {α:Type} {e:α→List D} {w:Nat} (hw:∀ x,(e x).length=w) (xs:List α):(ab e xs).length=xs.length*w:=by
  induction xs with
  | nil=>simp [ab]
  | cons x xs ih=>
    have h:ab e (x::xs)=e x++ab e xs:=by simp [ab]
    rw [h,List.length_append,hw,ih,List.length_cons,Nat.succ_mul]
    omega
theorem PM {α:Type} (e:α→List D) (xs ys:List α):ab e (xs++ys)=ab e xs++ab e ys:=by simp [ab]
theorem zI {α:Type} (e:α→List D) {xs:List α} {i:Nat} (h:i < xs.length):ab e xs=ab e (xs.take i)++(e xs[i]++ab e (xs.drop (i+1))):=by
  have e1:xs.take i++xs[i]::xs.drop (i+1)=xs:=by rw [List.getElem_cons_drop h,List.take_append_drop]
  have h2:ab e (xs[i]::xs.drop (i+1))=e xs[i]++ab e (xs.drop (i+1)):=by simp only [ab,List.flatMap_cons]
  rw [← h2,← PM,e1]
theorem E4 {α:Type} (e:α→List D) {xs:List α} {i:Nat} (h:i < xs.length) (x:α):ab e (xs.set i x)=ab e (xs.take i)++(e x++ab e (xs.drop (i+1))):=by
  have e1:xs.set i x=xs.take i++x::xs.drop (i+1):=List.set_eq_take_append_cons_drop.trans (if_pos h)
  have h2:ab e (x::xs.drop (i+1))=e x++ab e (xs.drop (i+1)):=by simp [ab]
  rw [e1,PM,h2]
theorem B7 {α:Type} (e:α→List D) (z:List D) (x:α) (h:z.map vc=e x) (n:Nat):fF n z=ab e (List.replicate n x):=by
  unfold fF ab
  rw [h]
  simp [List.flatMap]
def vY:ae:=⟨0,false,false,[],⟨[],[],false,false,false,0⟩,⟨[],[]⟩,[],[],[],[]⟩
theorem HE:∀ l:List D,ad.nl l=cm l:=fun _=>rfl
theorem QZ (a b:List D):cm (a++b)=(cm a&&cm b):=by
  induction a with
  | nil=>simp [cm]
  | cons x a ih=>simp [cm,ih,Bool.and_assoc]
theorem B8 {α:Type} {e:α→List D} (h:∀ x,ad.nl (e x)=true) (xs:List α):ad.nl (ab e xs)=true:=by
  induction xs with
  | nil=>rfl
  | cons x xs ih=>
    have h1:ab e (x::xs)=e x++ab e xs:=by simp [ab]
    rw [h1,HE,QZ,← HE,← HE,h,ih]
    rfl
theorem af6 (xs:List ae):ad.nl (ab (U none) xs)=true:=B8 (fun x=>by
  have h1:=iT; have h2:=ym; have h3:=eI; have h4:=Dg
  simp only [HE] at h1 h2 h3 h4 ⊢
  simp only [cm,cf,h1,h2,h3,h4,Bool.and_self]) xs
theorem af7 (xs:List dr):ad.nl (ab (bd none) xs)=true:=B8 (fun x=>by
  have h3:=eI
  simp only [HE] at h3 ⊢
  simp only [cm,cf,h3,Bool.and_self]) xs
theorem af8 (g:Option Bool) (xs:List gx):ad.nl (ab (cD g) xs)=true:=B8 (fun _=>rfl) xs
def j0 (x:dr):Prop:=x.bytes.length≤1048576
structure dg (w:aB):Prop where
  nodes:w.nodes.length≤1048576
  node:∀ n∈w.nodes,bU n
  bV:w.bV.length≤1048576
  xD:∀ x∈w.bV,j0 x
  log:w.log.length≤1048576
  safe:w.safe.length≤1048576
theorem YB (g:Bool) (x:dr) (h:j0 x):Cm 122 [.agg (bd (some g) x)] (.agg (bd none x),[.undef]):=by
  unfold j0 at h
  refine Cm.fin L0 fun J=>?_
  rw [L1]
  simp (disch:=omega) only [K9,dv,ao,eI,aH]
theorem abw (g:Option Bool) (x:gx):Cm 123 [.agg (cD g x)] (.agg (cD none x),[.undef]):=by
  refine Cm.fin PI fun J=>?_
  rw [PJ]
theorem YC (g h:Bool) (x:dr) (ok:j0 x):Cm 126 [.agg (bd (some g) x),.agg (bd (some h) x)] (.bool true,[.undef,.undef]):=by
  unfold j0 at ok
  refine Cm.fin L2 fun J=>?_
  rw [L3]
  simp (disch:=omega) only [Lb,aE,ao,decide_true,aH,bc,fZ]
theorem abx (g h:Option Bool) (x:gx):Cm 127 [.agg (cD g x),.agg (cD h x)] (.bool true,[.undef,.undef]):=by
  refine Cm.fin PK fun J=>?_
  rw [PL]
  simp (disch:=omega) only [aH,bc,fZ]
def yv (x:dr):Prop:=x.bytes.length≤140737488355328
def gV (x:dr) (l:Int):Int:=iI (eX x.bytes.length l) fun l=>l
theorem HF {x:dr} {l:Int} (h:0≤l) (hm:l≤1048576):gV x l≤l∧-1≤gV x l∧(0≤gV x l→j0 x):=by
  have:=gQ (k:=fun l=>l) h (pB (n:=x.bytes.length) h hm) fun h3=>G0 h3
  exact ⟨this.1,this.2.1,fun hh=>(this.2.2 hh).1⟩
theorem HG {x:ae} {l:Int} (h:0≤l) (hm:l≤1048576):ew x l≤l∧-1≤ew x l∧(0≤ew x l→bU x):=zD h hm
theorem YD (g:Bool) (x:dr) (left:Int) (h0:0≤left) (h1:left≤1048576) (ln:yv x):Cm 121 [.agg (bd (some g) x),.int .i64 left] (.int .i64 (gV x left),[.undef,.undef]):=by
  unfold yv at ln
  refine Cm.fin LY fun J=>?_
  rw [LZ]
  simp (disch:=omega) only [BE,cd,ao]
  exact jm (f:=fun v=>some (.int .i64 v,[.undef,.undef])) fun _=>rfl
theorem YE (g:Bool) (n:Nat) (c:List D) (left:Int) (h0:0≤left) (h1:left≤1048576) (hn:n≤140737488355328):Cm 68 [.sl (some g) 2 n c,.int .i64 left] (.int .i64 (eX n left),[.undef,.undef]):=by
  refine Cm.fin L4 fun J=>?_
  rw [L5]
  unfold eX
  by_cases h:left < n
  · rw [if_pos h]
    simp (disch:=omega) only [ay,fI,aY]
  · rw [if_neg h]
    simp (disch:=omega) only [ay,fI,bA]
section
variable (t:bE Rz)
theorem YF (g:Bool) (x:dr) (h:j0 x):aL 122 [.agg (bd (some g) x)] t=feed t (bd none x):=aW (YB g x h) (by kernel_rfl) t
theorem YG (g h:Bool) (x:dr) (ok:j0 x):aL 126 [.agg (bd (some g) x),.agg (bd (some h) x)] t=feed t [.bool true]:=aW (YC g h x ok) (by kernel_rfl) t
theorem aby (a b:Int):aL 123 [.agg [.int .i64 a,.int .i64 b]] t=feed t [.int .i64 a,.int .i64 b]:=aW (abw none ⟨a,b⟩) (by kernel_rfl) t
theorem abz (a b:Int):aL 127 [.agg [.int .i64 a,.int .i64 b],.agg [.int .i64 a,.int .i64 b]] t=feed t [.bool true]:=aW (abx none none ⟨a,b⟩) (by kernel_rfl) t
theorem PN (g:Bool) (x:dr) (left:Int) (h0:0≤left) (h1:left≤1048576) (ln:yv x):aL 121 [.agg (bd (some g) x),.int .i64 left] t=feed t [.int .i64 (gV x left)]:=aW (YD g x left h0 h1 ln) (by kernel_rfl) t
end
theorem Wx (g:Bool) (xs:List ae) (hb:xs.length≤1048576) (ok:∀ x∈xs,bU x):Cm 71 [.sl (some g) 16 xs.length (ab (U (some g)) xs)] (.sl none 16 xs.length (ab (U none) xs),[.undef]):=by
  refine Cm.go Jl [.undef] 0 (jW g xs.length (ab (U (some g)) xs) (0:Nat) xs.length (ab (U none) (List.replicate xs.length vY))) ?_ fun J hJ=>?_
  · refine WP.loop (H:=fun i=>jW g xs.length (ab (U (some g)) xs) (i:Nat) xs.length (ab (U none) (xs.take i++List.replicate (xs.length - i) vY))) (n:=xs.length) (fun _=>True) (fun i hi _ ih=>WP.go _ (ih trivial) fun J hJ=>?_) (fun _=>WP.fin fun J=>?_) 0 (Nat.zero_le _) trivial
    · rw [uA]
      have hx:=ok _ (List.getElem_mem hi)
      have hy:i < (xs.take i++List.replicate (xs.length - i) vY).length:=by simp; omega
      rw [← pX hi _ xs rfl hi,E4 _ hy] at hJ
      rw [zI _ hy]
      have hA:(ab (U none) ((xs.take i++List.replicate (xs.length - i) vY).take i)).length=i*16:=by
        rw [xE (w:=16) (fun _=>rfl),List.length_take]
        congr 1
        simp; omega
      simp (disch:=first | omega | assumption | exact hA | (simp; done)) only [aH,bc,bf,ay,aY,bC,rq,G3,G4,G5,G6,G7,G8,G9,Ha,Hb,Hc,Hd,He,Hf,Hg,Hh,Hi,Hj,Hk,Hl,Hm,Hn,Ho,Hp,Hq,Hr,Ht,BG,BH,BI,BJ,BK,BL,BM,BN,BO,BP,BQ,BR,BS,BT,BU,BV,BW,BX,BY,BZ,B3,B4,B5,B6,PF,I3,dv,cd,aE,ao,iT,ym,eI,Dg,Ub,Dh,E3,JB,HD,JA,List.set_cons_zero,List.set_cons_succ,JC,JD,JE,JF,JG,x6,df]
      exact hJ
    · rw [uA]
      simp (disch:=omega) only [aH,bc,ay,bA,List.take_length,Nat.sub_self,List.replicate_zero,List.append_nil]
  · rw [Jm]
    have hz:=fun n=>B7 (U none) [.int .i64 0,.bool false,.bool false,.nil 1,.nil 1,.nil 1,.bool false,.bool false,.bool false,.int .i64 0,.nil 1,.nil 1,.nil 1,.nil 1,.nil 1,.nil 1] vY rfl n
    simp (disch:=omega) only [aH,bc,ay,sQ,zA,hz]
    exact hJ
theorem Wy (g h:Bool) (xs:List ae) (hb:xs.length≤1048576) (ok:∀ x∈xs,bU x):Cm 78 [.sl (some g) 16 xs.length (ab (U (some g)) xs),.sl (some h) 16 xs.length (ab (U (some h)) xs)] (.bool true,[.undef,.undef]):=by
  refine Cm.go Jo [.undef,.undef] 0 (jX g xs.length (ab (U (some g)) xs) h xs.length (ab (U (some h)) xs) (0:Nat)) ?_ fun J hJ=>?_
  · refine WP.loop (H:=fun i=>jX g xs.length (ab (U (some g)) xs) h xs.length (ab (U (some h)) xs) (i:Nat)) (n:=xs.length) (fun _=>True) (fun i hi _ ih=>WP.go _ (ih trivial) fun J hJ=>?_) (fun _=>WP.fin fun J=>?_) 0 (Nat.zero_le _) trivial
    · rw [uB]
      have hx:=ok _ (List.getElem_mem hi)
      simp (disch:=first | omega | assumption) only [aH,bc,bf,bJ,ay,aY,bC,rq,G3,G4,G5,G6,G7,G8,G9,Ha,Hb,Hc,Hd,He,Hf,Hg,Hh,Hi,Hj,Hk,Hl,Hm,Hn,Ho,Hp,Hq,Hr,Ht,BG,BH,BI,BJ,BK,BL,BM,BN,BO,BP,BQ,BR,BS,BT,BU,BV,BW,BX,BY,BZ,B3,B4,B5,B6,PG,aE,ao,df]
      exact hJ
    · rw [uB]
      simp (disch:=omega) only [aH,bc,ay,bA]
  · rw [Jp]
    simp (disch:=omega) only [aH,bc,ay,bJ,bY,fZ]
    exact hJ
theorem Wz (g:Bool) (xs:List dr) (hb:xs.length≤1048576) (ok:∀ x∈xs,j0 x):Cm 72 [.sl (some g) 3 xs.length (ab (bd (some g)) xs)] (.sl none 3 xs.length (ab (bd none) xs),[.undef]):=by
  refine Cm.go Jq [.undef] 0 (jY g xs.length (ab (bd (some g)) xs) (0:Nat) xs.length (ab (bd none) (List.replicate xs.length (⟨0,0,[]⟩:dr)))) ?_ fun J hJ=>?_
  · refine WP.loop (H:=fun i=>jY g xs.length (ab (bd (some g)) xs) (i:Nat) xs.length (ab (bd none) (xs.take i++List.replicate (xs.length - i) (⟨0,0,[]⟩:dr)))) (n:=xs.length) (fun _=>True) (fun i hi _ ih=>WP.go _ (ih trivial) fun J hJ=>?_) (fun _=>WP.fin fun J=>?_) 0 (Nat.zero_le _) trivial
    · rw [uC]
      have hx:=ok _ (List.getElem_mem hi)
      have hy:i < (xs.take i++List.replicate (xs.length - i) (⟨0,0,[]⟩:dr)).length:=by simp; omega
      rw [← pX hi _ xs rfl hi,E4 _ hy] at hJ
      rw [zI _ hy]
      have hA:(ab (bd none) ((xs.take i++List.replicate (xs.length - i) (⟨0,0,[]⟩:dr)).take i)).length=i*3:=by
        rw [xE (w:=3) (fun _=>rfl),List.length_take]
        congr 1
        simp; omega
      simp (disch:=first | omega | assumption | exact hA | (simp; done)) only [aH,bc,bf,ay,aY,bC,rq,Hu,Hv,Hw,Hy,Hz,HA,HB,HC,YF,dv,cd,aE,ao,iT,ym,eI,Dg,Ub,Dh,E3,JB,HD,JA,List.set_cons_zero,List.set_cons_succ,JC,JD,JE,JF,JG,x6,df]
      exact hJ
    · rw [uC]
      simp (disch:=omega) only [aH,bc,ay,bA,List.take_length,Nat.sub_self,List.replicate_zero,List.append_nil]
  · rw [Jr]
    have hz:=fun n=>B7 (bd none) [.int .i64 0,.int .i64 0,.nil 1] (⟨0,0,[]⟩:dr) rfl n
    simp (disch:=omega) only [aH,bc,ay,sQ,zA,hz]
    exact hJ
theorem WA (g h:Bool) (xs:List dr) (hb:xs.length≤1048576) (ok:∀ x∈xs,j0 x):Cm 79 [.sl (some g) 3 xs.length (ab (bd (some g)) xs),.sl (some h) 3 xs.length (ab (bd (some h)) xs)] (.bool true,[.undef,.undef]):=by
  refine Cm.go Js [.undef,.undef] 0 (jZ g xs.length (ab (bd (some g)) xs) h xs.length (ab (bd (some h)) xs) (0:Nat)) ?_ fun J hJ=>?_
  · refine WP.loop (H:=fun i=>jZ g xs.length (ab (bd (some g)) xs) h xs.length (ab (bd (some h)) xs) (i:Nat)) (n:=xs.length) (fun _=>True) (fun i hi _ ih=>WP.go _ (ih trivial) fun J hJ=>?_) (fun _=>WP.fin fun J=>?_) 0 (Nat.zero_le _) trivial
    · rw [uD]
      have hx:=ok _ (List.getElem_mem hi)
      simp (disch:=first | omega | assumption) only [aH,bc,bf,bJ,ay,aY,bC,rq,Hu,Hv,Hw,Hy,Hz,HA,HB,HC,YG,aE,ao,df]
      exact hJ
    · rw [uD]
      simp (disch:=omega) only [aH,bc,ay,bA]
  · rw [Jt]
    simp (disch:=omega) only [aH,bc,ay,bJ,bY,fZ]
    exact hJ
theorem YH (g:Bool) (xs:List gx) (hb:xs.length≤1048576):Cm 73 [.sl (some g) 2 xs.length (ab (cD (some g)) xs)] (.sl none 2 xs.length (ab (cD none) xs),[.undef]):=by
  refine Cm.go L6 [.undef] 0 (kR g xs.length (ab (cD (some g)) xs) (0:Nat) xs.length (ab (cD none) (List.replicate xs.length (⟨0,0⟩:gx)))) ?_ fun J hJ=>?_
  · refine WP.loop (H:=fun i=>kR g xs.length (ab (cD (some g)) xs) (i:Nat) xs.length (ab (cD none) (xs.take i++List.replicate (xs.length - i) (⟨0,0⟩:gx)))) (n:=xs.length) (fun _=>True) (fun i hi _ ih=>WP.go _ (ih trivial) fun J hJ=>?_) (fun _=>WP.fin fun J=>?_) 0 (Nat.zero_le _) trivial
    · rw [vW]
      have hx:=hi
      have hy:i < (xs.take i++List.replicate (xs.length - i) (⟨0,0⟩:gx)).length:=by simp; omega
      rw [← pX hi _ xs rfl hi,E4 _ hy] at hJ
      rw [zI _ hy]
      have hA:(ab (cD none) ((xs.take i++List.replicate (xs.length - i) (⟨0,0⟩:gx)).take i)).length=i*2:=by
        rw [xE (w:=2) (fun _=>rfl),List.length_take]
        congr 1
        simp; omega
      simp (disch:=first | omega | assumption | exact hA | (simp; done)) only [aH,bc,bf,ay,aY,bC,rq,zE,zF,zG,zH,aby,dv,cd,aE,ao,iT,ym,eI,Dg,Ub,Dh,E3,JB,HD,JA,List.set_cons_zero,List.set_cons_succ,JC,JD,JE,JF,JG,x6,df]
      exact hJ
    · rw [vW]
      simp (disch:=omega) only [aH,bc,ay,bA,List.take_length,Nat.sub_self,List.replicate_zero,List.append_nil]
  · rw [L7]
    have hz:=fun n=>B7 (cD none) [.int .i64 0,.int .i64 0] (⟨0,0⟩:gx) rfl n
    simp (disch:=omega) only [aH,bc,ay,sQ,zA,hz]
    exact hJ
theorem YI (g h:Bool) (xs:List gx) (hb:xs.length≤1048576):Cm 80 [.sl (some g) 2 xs.length (ab (cD (some g)) xs),.sl (some h) 2 xs.length (ab (cD (some h)) xs)] (.bool true,[.undef,.undef]):=by
  refine Cm.go L8 [.undef,.undef] 0 (kS g xs.length (ab (cD (some g)) xs) h xs.length (ab (cD (some h)) xs) (0:Nat)) ?_ fun J hJ=>?_
  · refine WP.loop (H:=fun i=>kS g xs.length (ab (cD (some g)) xs) h xs.length (ab (cD (some h)) xs) (i:Nat)) (n:=xs.length) (fun _=>True) (fun i hi _ ih=>WP.go _ (ih trivial) fun J hJ=>?_) (fun _=>WP.fin fun J=>?_) 0 (Nat.zero_le _) trivial
    · rw [vX]
      have hx:=hi
      simp (disch:=first | omega | assumption) only [aH,bc,bf,bJ,ay,aY,bC,rq,zE,zF,zG,zH,abz,aE,ao,df]
      exact hJ
    · rw [vX]
      simp (disch:=omega) only [aH,bc,ay,bA]
  · rw [L9]
    simp (disch:=omega) only [aH,bc,ay,bJ,bY,fZ]
    exact hJ
def oz (xs:List ae) (l:Int):Int:=iI (eX xs.length l) (oX ew xs)
theorem WB (g:Bool) (xs:List ae) (left:Int) (h0:0≤left) (h1:left≤1048576) (hn:xs.length≤140737488355328) (hx:∀ x∈xs,rn x):Cm 66 [.sl (some g) 16 xs.length (ab (U (some g)) xs),.int .i64 left] (.int .i64 (oz xs left),[.undef,.undef]):=by
  have hlen:=iJ (n:=xs.length) h0
  have loop:∀ k i (l:Int),i+k=xs.length→0≤l→l≤1048576→WP 66 Tryz.f66 [.undef,.undef] 0 (mO g xs.length (ab (U (some g)) xs) l (i:Nat)) (.int .i64 (oX ew (xs.drop i) l),[.undef,.undef]):=by
    intro k
    induction k with
    | zero=>
      intro i l hi hl hm
      refine WP.fin fun J=>?_
      rw [o7,List.drop_of_length_le (by omega)]
      simp (disch:=omega) only [ay,bA,oX]
    | succ k ih=>
      intro i l hi hl hm
      have oc:i < xs.length:=by omega
      have hxi:=hx _ (List.getElem_mem oc)
      obtain ⟨a1,a2,a3⟩:=HG (x:=xs[i]) hl hm
      have e:oX ew (xs.drop i) l=iI (ew xs[i] l) (oX ew (xs.drop (i+1))):=by
        rw [← List.getElem_cons_drop oc]
        rfl
      rw [e]
      by_cases hv:ew xs[i] l < 0
      · refine WP.fin fun J=>?_
        rw [o7,oQ _ hv]
        simp (disch:=first | omega | assumption) only [aH,bc,bf,ay,aY,bC,rq,G3,G4,G5,G6,G7,G8,G9,Ha,Hb,Hc,Hd,He,Hf,Hg,Hh,Hi,Hj,Hk,Hl,Hm,Hn,Ho,Hp,Hq,Hr,Ht,BG,BH,BI,BJ,BK,BL,BM,BN,BO,BP,BQ,BR,BS,BT,BU,BV,BW,BX,BY,BZ,B3,B4,B5,B6,E0,cd,ao]
      · rw [oR _ (by omega)]
        refine WP.go _ (ih (i+1) (ew xs[i] l) (by omega) (by omega) (by omega)) fun J hJ=>?_
        rw [o7]
        have lH:0≤ew xs[i] l:=by omega
        simp (disch:=first | omega | assumption) only [aH,bc,bf,ay,aY,bC,rq,G3,G4,G5,G6,G7,G8,G9,Ha,Hb,Hc,Hd,He,Hf,Hg,Hh,Hi,Hj,Hk,Hl,Hm,Hn,Ho,Hp,Hq,Hr,Ht,BG,BH,BI,BJ,BK,BL,BM,BN,BO,BP,BQ,BR,BS,BT,BU,BV,BW,BX,BY,BZ,B3,B4,B5,B6,E0,cd,ao,bA,df]
        exact hJ
  by_cases h:left < xs.length
  · refine Cm.fin yo fun J=>?_
    rw [yp,oz,oQ _ (by unfold eX; rw [if_pos h]; omega)]
    simp (disch:=omega) only [ay,fI,aY]
  · have e:eX xs.length left=left - xs.length:=if_neg h
    rw [oz,oR _ (by omega),e]
    refine Cm.go yo [.undef,.undef] 0 _ (loop xs.length 0 (left - xs.length) (by omega) (by omega) (by omega)) fun J hJ=>?_
    rw [yp]
    simp (disch:=omega) only [ay,fI,bA]
    exact hJ
def oA (xs:List dr) (l:Int):Int:=iI (eX xs.length l) (oX gV xs)
theorem WC (g:Bool) (xs:List dr) (left:Int) (h0:0≤left) (h1:left≤1048576) (hn:xs.length≤140737488355328) (hx:∀ x∈xs,yv x):Cm 67 [.sl (some g) 3 xs.length (ab (bd (some g)) xs),.int .i64 left] (.int .i64 (oA xs left),[.undef,.undef]):=by
  have hlen:=iJ (n:=xs.length) h0
  have loop:∀ k i (l:Int),i+k=xs.length→0≤l→l≤1048576→WP 67 Tryz.f67 [.undef,.undef] 0 (mP g xs.length (ab (bd (some g)) xs) l (i:Nat)) (.int .i64 (oX gV (xs.drop i) l),[.undef,.undef]):=by
    intro k
    induction k with
    | zero=>
      intro i l hi hl hm
      refine WP.fin fun J=>?_
      rw [o8,List.drop_of_length_le (by omega)]
      simp (disch:=omega) only [ay,bA,oX]
    | succ k ih=>
      intro i l hi hl hm
      have oc:i < xs.length:=by omega
      have hxi:=hx _ (List.getElem_mem oc)
      obtain ⟨a1,a2,a3⟩:=HF (x:=xs[i]) hl hm
      have e:oX gV (xs.drop i) l=iI (gV xs[i] l) (oX gV (xs.drop (i+1))):=by
        rw [← List.getElem_cons_drop oc]
        rfl
      rw [e]
      by_cases hv:gV xs[i] l < 0
      · refine WP.fin fun J=>?_
        rw [o8,oQ _ hv]
        simp (disch:=first | omega | assumption) only [aH,bc,bf,ay,aY,bC,rq,Hu,Hv,Hw,Hy,Hz,HA,HB,HC,PN,cd,ao]
      · rw [oR _ (by omega)]
        refine WP.go _ (ih (i+1) (gV xs[i] l) (by omega) (by omega) (by omega)) fun J hJ=>?_
        rw [o8]
        have lH:0≤gV xs[i] l:=by omega
        simp (disch:=first | omega | assumption) only [aH,bc,bf,ay,aY,bC,rq,Hu,Hv,Hw,Hy,Hz,HA,HB,HC,PN,cd,ao,bA,df]
        exact hJ
  by_cases h:left < xs.length
  · refine Cm.fin yq fun J=>?_
    rw [yr,oA,oQ _ (by unfold eX; rw [if_pos h]; omega)]
    simp (disch:=omega) only [ay,fI,aY]
  · have e:eX xs.length left=left - xs.length:=if_neg h
    rw [oA,oR _ (by omega),e]
    refine Cm.go yq [.undef,.undef] 0 _ (loop xs.length 0 (left - xs.length) (by omega) (by omega) (by omega)) fun J hJ=>?_
    rw [yr]
    simp (disch:=omega) only [ay,fI,bA]
    exact hJ
end Go.Proofs.YtockoilcnmljiaaGreat
namespace Go.Proofs.YtockoilcnmljiaaGreat
set_option maxRecDepth 100000
section
variable (t:bE Rz)
theorem WD (g:Bool) (xs:List ae) (hb:xs.length≤1048576) (ok:∀ x∈xs,bU x):aL 71 [sN (some g) xs] t=feed t [sN none xs]:=aW (Wx g xs hb ok) (by kernel_rfl) t
theorem WE (g h:Bool) (xs:List ae) (hb:xs.length≤1048576) (ok:∀ x∈xs,bU x):aL 78 [sN (some g) xs,sN (some h) xs] t=feed t [.bool true]:=aW (Wy g h xs hb ok) (by kernel_rfl) t
theorem WG (g:Bool) (xs:List ae) (left:Int) (h0:0≤left) (h1:left≤1048576) (hn:xs.length≤140737488355328) (hx:∀ x∈xs,rn x):aL 66 [sN (some g) xs,.int .i64 left] t=feed t [.int .i64 (oz xs left)]:=aW (WB g xs left h0 h1 hn hx) (by kernel_rfl) t
theorem WH (g:Bool) (xs:List dr) (hb:xs.length≤1048576) (ok:∀ x∈xs,j0 x):aL 72 [sW (some g) xs] t=feed t [sW none xs]:=aW (Wz g xs hb ok) (by kernel_rfl) t
theorem WI (g h:Bool) (xs:List dr) (hb:xs.length≤1048576) (ok:∀ x∈xs,j0 x):aL 79 [sW (some g) xs,sW (some h) xs] t=feed t [.bool true]:=aW (WA g h xs hb ok) (by kernel_rfl) t
theorem WJ (g:Bool) (xs:List dr) (left:Int) (h0:0≤left) (h1:left≤1048576) (hn:xs.length≤140737488355328) (hx:∀ x∈xs,yv x):aL 67 [sW (some g) xs,.int .i64 left] t=feed t [.int .i64 (oA xs left)]:=aW (WC g xs left h0 h1 hn hx) (by kernel_rfl) t
theorem YJ (g:Bool) (xs:List gx) (hb:xs.length≤1048576):aL 73 [sK (some g) xs] t=feed t [sK none xs]:=aW (YH g xs hb) (by kernel_rfl) t
theorem YK (g h:Bool) (xs:List gx) (hb:xs.length≤1048576):aL 80 [sK (some g) xs,sK (some h) xs] t=feed t [.bool true]:=aW (YI g h xs hb) (by kernel_rfl) t
theorem YL (g:Bool) (n:Nat) (c:List D) (left:Int) (h0:0≤left) (h1:left≤1048576) (hn:n≤140737488355328):aL 68 [.sl (some g) 2 n c,.int .i64 left] t=feed t [.int .i64 (eX n left)]:=aW (YE g n c left h0 h1 hn) (by kernel_rfl) t
end
theorem WK (g:Bool) (w:aB) (h:dg w):Cm 22 [.agg (dk (some g) w)] (.agg (dk none w),[.undef]):=by
  have h1:=h.nodes; have h2:=h.bV; have h3:=h.log; have h4:=h.safe
  refine Cm.fin Jw fun J=>?_
  rw [Jx]
  simp (disch:=first | omega | exact h.node | exact h.xD) only [WD,WH,YJ,zC,dv,ao,iT,af6,af7,af8,aH]
theorem WL (g h:Bool) (w:aB) (ok:dg w):Cm 24 [.agg (dk (some g) w),.agg (dk (some h) w)] (.bool true,[.undef,.undef]):=by
  have h1:=ok.nodes; have h2:=ok.bV; have h3:=ok.log; have h4:=ok.safe
  refine Cm.fin Jy fun J=>?_
  rw [Jz]
  simp (disch:=first | omega | exact ok.node | exact ok.xD) only [WE,WI,YK,vU,aE,ao,decide_true,aH,bc,fZ]
structure JH (w:aB):Prop where
  nodes:w.nodes.length≤140737488355328
  node:∀ n∈w.nodes,rn n
  bV:w.bV.length≤140737488355328
  xD:∀ x∈w.bV,yv x
  log:w.log.length≤140737488355328
  safe:w.safe.length≤140737488355328
def E5 (w:aB) (l:Int):Int:=iI (oz w.nodes l) fun l=>iI (oA w.bV l) fun l=>iI (eX w.log.length l) fun l=>iI (eX w.safe.length l) fun l=>l
theorem iV {v l:Int} {k:Int→Int} (hv:v≤l∧-1≤v) (hl:0≤l) (hk:0≤v→k v≤v∧-1≤k v):iI v k≤l∧-1≤iI v k:=by
  unfold iI
  split
  · omega
  · have:=hk (by omega); omega
theorem ny {n:Nat} {l:Int} (h:0≤l):eX n l≤l∧-1≤eX n l:=⟨(iJ h).1,(iJ h).2.1⟩
theorem SC {α:Type} {f:α→Int→Int} (hf:∀ x l,0≤l→f x l≤l∧-1≤f x l):∀ (xs:List α) (l:Int),0≤l→oX f xs l≤l∧-1≤oX f xs l
  | [],l,h=>⟨Int.le_refl _,by show -1≤l; omega⟩
  | x::xs,l,h=>iV (hf x l h) h fun h1=>SC hf xs _ h1
theorem SD {xss:List (List Int)} {l:Int} (h:0≤l):yn xss l≤l∧-1≤yn xss l:=iV (ny h) h fun h1=>SC (fun _ _ hl=>ny hl) _ _ h1
theorem Eb {n:ae} {l:Int} (h:0≤l):ew n l≤l∧-1≤ew n l:=by
  refine iV (ny h) h fun h=>iV ?_ h fun h=>iV ?_ h fun h=>iV (ny h) h fun h=>iV (SD h) h fun h=>iV (ny h) h fun h=>iV (ny h) h fun h=>?_
  · exact iV (ny h) h fun h=>iV (SD h) h fun h=>by omega
  · exact iV (ny h) h fun h=>iV (ny h) h fun h=>by omega
  · omega
theorem Q0 {xs:List ae} {l:Int} (h:0≤l) (hm:l≤1048576):oz xs l≤l∧-1≤oz xs l∧(0≤oz xs l→xs.length≤1048576∧∀ x∈xs,bU x):=by
  refine gQ h (pB h hm) fun h1=>?_
  have h2:=iJ (n:=xs.length) h
  exact GZ (f:=ew) (Q:=bU) (fun x l hl=>by
    by_cases hm:l≤1048576
    · obtain ⟨a,b,c⟩:=HG (x:=x) hl hm
      exact ⟨a,b,fun hh _=>c hh⟩
    · refine ⟨?_,?_,fun _ VJ=>absurd VJ hm⟩
      · exact (Eb hl).1
      · exact (Eb hl).2) xs _ h1 (by omega)
theorem Q1 {xs:List dr} {l:Int} (h:0≤l) (hm:l≤1048576):oA xs l≤l∧-1≤oA xs l∧(0≤oA xs l→xs.length≤1048576∧∀ x∈xs,j0 x):=by
  refine gQ h (pB h hm) fun h1=>?_
  have h2:=iJ (n:=xs.length) h
  exact GZ (f:=gV) (Q:=j0) (fun x l hl=>by
    by_cases hm:l≤1048576
    · obtain ⟨a,b,c⟩:=HF (x:=x) hl hm
      exact ⟨a,b,fun hh _=>c hh⟩
    · have h3:gV x l≤l∧-1≤gV x l:=iV (k:=fun l=>l) (ny hl) hl fun h=>by show (_:Int)≤_∧_; omega
      exact ⟨h3.1,h3.2,fun _ VJ=>absurd VJ hm⟩) xs _ h1 (by omega)
theorem WM (g:Bool) (w:aB) (left:Int) (h0:0≤left) (h1:left≤1048576) (ln:JH w):Cm 20 [.agg (dk (some g) w),.int .i64 left] (.int .i64 (E5 w left),[.undef,.undef]):=by
  refine Cm.fin Ju fun J=>?_
  rw [Jv]
  have l1:=ln.nodes; have l2:=ln.bV; have l3:=ln.log; have l4:=ln.safe
  have a1:=Q0 (xs:=w.nodes) h0 h1
  simp (disch:=first | omega | exact ln.node) only [WG,cd,ao]
  refine jm (f:=fun v=>aL 67 _ _) fun p1=>?_
  have a2:=Q1 (xs:=w.bV) p1 (by omega)
  simp (disch:=first | omega | exact ln.xD) only [WJ,cd,ao]
  refine jm (f:=fun v=>aL 68 _ _) fun p2=>?_
  have a3:=iJ (n:=w.log.length) p2
  simp (disch:=omega) only [YL,cd,ao]
  refine jm (f:=fun v=>aL 35 _ _) fun p3=>?_
  simp (disch:=omega) only [sS,cd,ao]
  exact jm (f:=fun v=>some (.int .i64 v,[.undef,.undef])) fun _=>rfl
section
variable (t:bE Rz)
theorem WN (g:Bool) (w:aB) (h:dg w):aL 22 [.agg (dk (some g) w)] t=feed t [enc .world w]:=bH (r:=enc .world w) (s:=.ty .world) (ss:=[.undef]) (WK g w h) (by kernel_rfl) (au _ _) (by simp only [af,aF,aj,Bool.and_self]) (aq _ _) rfl t
theorem WO (g h:Bool) (w:aB) (ok:dg w):aL 24 [.agg (dk (some g) w),.agg (dk (some h) w)] t=feed t [.bool true]:=aW (WL g h w ok) (by kernel_rfl) t
theorem WQ (g:Bool) (w:aB) (left:Int) (h0:0≤left) (h1:left≤1048576) (ln:JH w):aL 20 [.agg (dk (some g) w),.int .i64 left] t=feed t [.int .i64 (E5 w left)]:=aW (WM g w left h0 h1 ln) (by kernel_rfl) t
end
structure ajG (w:aB):Prop where
  node:∀ n∈w.nodes,G2 n
  src:∀ x∈w.bV,vS x.src=true∧vS x.dst=true
  aoh:∀ x∈w.log,vS x.cell=true∧vS x.up=true
  safe:vV w.safe
  gen:vS w.gen=true
end Go.Proofs.YtockoilcnmljiaaGreat
namespace Go.Proofs.YtockoilcnmljiaaGreat
set_option maxRecDepth 100000
section
variable (pr:dA) (cv:Cv Rz) (J:Nat→St→Option Rz)
def kT (i0:Int) (i1:Int) (n2:Nat) (c3:List D):St:=(St.mk [(0,(.ref 19 [] 0 none)),(1,(.int .i64 i0)),(5,(.int .i64 i1))] [(19,[(.sl none 1 n2 c3)])] [] 0)
theorem E6:Told cfg Tryz.prog 58 Tryz.f58:=⟨by kernel_rfl,Tryz.func58,by kernel_rfl⟩
theorem E7 (n0:Nat) (c0:List D) (a1:Int):aO pr cv J 58 Tryz.f58 [(.sl none 1 n0 c0),(.int .i64 a1)]=
    (J 0 (kT a1 0 n0 c0)):=by kernel_rfl
theorem rV (i0:Int) (i1:Int) (n2:Nat) (c3:List D):bF pr cv J 58 Tryz.f58 [(.sl none 0 0 []),.undef] 0 (kT i0 i1 n2 c3)=
    (br (pr.lt i1 (pr.aX n2)) (br (pr.bz i1 n2) (br (br (pr.VE c3 (pr.idx 0 i1 1)) true false) (br (pr.jN 1 c3 (pr.idx 0 i1 1)) (br (pr.nl (pr.ba c3 (pr.idx 0 i1 1))) (cv 54 [(.sl none 1 (pr.aZ c3 (pr.idx 0 i1 1)) (pr.ba c3 (pr.idx 0 i1 1))),(.int .i64 i0)] (.int (fun dm=>(.sl (fun rp=>(fun oY=>(.done (br (br (br (pr.nl oY) true false) true false) (br (pr.neq (pr.aZ c3 (pr.idx 0 i1 1)) rp) (cv 999999 [(.sl none 0 0 (List.set c3 (pr.idx 0 i1 1) (.sl none 1 rp oY)))] (.sl (fun z7=>(fun ru=>(.done (J 0 (kT dm (pr.ar .add .i64 i1 1) n2 ru))))))) none) none)))))))) none) none) none) none) (some ((.int .i64 i0),[(.sl none 1 n2 c3),.undef]))):=by kernel_rfl
end
section
variable (t:bE Rz)
theorem HH (n:Nat) (xs:List Int) (k:Int) (hn:n=xs.length) (h0:0≤k) (h1:k+xs.length < 9223372036854775807):aL 54 [.sl none 1 n (ints xs),.int .i64 k] t=feed t [.int .i64 (k+xs.length),.sl none 1 xs.length (ints (jl k xs.length))]:=by subst hn; exact aW (T7 xs k h0 h1) (by kernel_rfl) t
theorem Q2 (n:Nat) (xs:List UInt8) (k:Int) (hn:n=xs.length) (h0:0≤k) (h1:k+xs.length < 9223372036854775807):aL 117 [.sl none 1 n (bytes xs),.int .i64 k] t=feed t [.int .i64 (k+xs.length),.sl none 1 xs.length (bytes (py k xs.length))]:=by subst hn; exact aW (QT xs k h0 h1) (by kernel_rfl) t
theorem Q3 (n:Nat) (xs:List Bool) (k:Int) (hn:n=xs.length) (h0:0≤k) (h1:k+xs.length < 9223372036854775807):aL 57 [.sl none 1 n (aG xs),.int .i64 k] t=feed t [.int .i64 (k+xs.length),.sl none 1 xs.length (aG (ot k xs.length))]:=by subst hn; exact aW (QU xs k h0 h1) (by kernel_rfl) t
end
theorem SE {R:Type} {a b:Nat} {u v:R} (h:a=b):br (ad.neq a b) u v=u:=by simp [ad,br,h]
def dC (xss:List (List Int)):Nat:=(xss.map List.length).sum
def mq:Int→List (List Int)→List (List Int)
  | _,[]=>[]
  | k,xs::r=>jl k xs.length::mq (k+xs.length) r
theorem eK:∀ (k:Int) (xss:List (List Int)),(mq k xss).length=xss.length
  | _,[]=>rfl
  | k,xs::r=>by simp [mq,eK]
theorem WR {α:Type} (a:List α) (x y:α) (b:List α):(a++x::b).set a.length y=(a++[y])++b:=by
  rw [List.set_append_right _ _ (Nat.le_refl _)]
  simp
theorem Ec:∀ (rest done:List (List Int)) (k:Int) (n:Nat),n=done.length+rest.length→0≤k→k+dC rest < 9223372036854775807→n < 9223372036854775807→
    WP 58 Tryz.f58 [.sl none 0 0 [],.undef] 0 (kT k (done.length:Nat) n (rows none (done++rest))) (.int .i64 (k+dC rest),[.sl none 1 n (rows none (done++mq k rest)),.undef])
  | [],done,k,n,hn,h0,h1,hs=>by
    refine WP.fin fun J=>?_
    rw [rV]
    simp (disch:=(simp at hn; omega)) only [ay,bA,dC,List.map_nil,List.sum_nil,mq,Int.natCast_zero,Int.add_zero]
  | xs::rest,done,k,n,hn,h0,h1,hs=>by
    have ht:dC (xs::rest)=xs.length+dC rest:=by simp [dC]
    rw [ht] at h1
    have hlen:done.length < (done++xs::rest).length:=by simp
    have me:(done++xs::rest)[done.length]=xs:=by simp
    have NO:done.length < n:=by rw [hn]; simp
    have ih:=Ec rest (done++[jl k xs.length]) (k+xs.length) n (by rw [hn]; simp; omega) (by omega) (by omega) hs
    have e1:((done++[jl k xs.length]).length:Nat)=done.length+1:=by simp
    have e2:(done++[jl k xs.length])++mq (k+xs.length) rest=done++mq k (xs::rest):=by simp [mq]
    have e3:k+(xs.length:Int)+(dC rest:Int)=k+((dC (xs::rest):Nat):Int):=by rw [ht]; omega
    rw [e1,e2,e3] at ih
    refine WP.go _ ih fun J hJ=>?_
    rw [rV]
    simp (disch:=first | omega | assumption | (simp only [dG]; done)) only [aH,bc,bf,ay,aY,bC,cR,ad9,SA,ic,iH,me,iT,HH,cd,dv,ao,SE,x6,df]
    have e4:(D.sl none 1 xs.length (ints (jl k xs.length)))=.sl none 1 (jl k xs.length).length (ints (jl k xs.length)):=by rw [dG]
    rw [e4,EZ,WR]
    exact hJ
theorem Q4 (xss:List (List Int)) (k:Int) (h0:0≤k) (h1:k+dC xss < 9223372036854775807) (hs:xss.length < 9223372036854775807):Cm 58 [.sl none 1 xss.length (rows none xss),.int .i64 k] (.int .i64 (k+dC xss),[.sl none 1 xss.length (rows none (mq k xss)),.undef]):=by
  refine Cm.go E6 [.sl none 0 0 [],.undef] 0 _ (Ec xss [] k xss.length (by simp) h0 h1 hs) fun J hJ=>?_
  rw [E7]
  exact hJ
section
variable (t:bE Rz)
theorem Q5 (n:Nat) (xss:List (List Int)) (k:Int) (hn:n=xss.length) (h0:0≤k) (h1:k+dC xss < 9223372036854775807) (hs:xss.length < 9223372036854775807):aL 58 [.sl none 1 n (rows none xss),.int .i64 k] t=feed t [.int .i64 (k+dC xss),.sl none 1 xss.length (rows none (mq k xss))]:=by subst hn; exact aW (Q4 xss k h0 h1 hs) (by kernel_rfl) t
end
def Uc (k:Int):Bool:=k.tmod 3==0
theorem ait (k:Int):ad.eq (ad.ar .rem .i64 k 3) 0=Uc k:=rfl
end Go.Proofs.YtockoilcnmljiaaGreat
namespace Go.Proofs.YtockoilcnmljiaaGreat
set_option maxRecDepth 100000
section
variable (pr:dA) (cv:Cv Rz) (J:Nat→St→Option Rz)
def fv (i0:Int) (i1:Int) (n2:Nat) (c3:List D):St:=(St.mk [(0,(.ref 28 [] 0 none)),(2,(.int .i64 i0)),(3,(.int .i64 i1))] [(28,[(.sl none 1 n2 c3)])] [] 0)
theorem wB:Told cfg Tryz.prog 130 Tryz.f130:=⟨by kernel_rfl,Tryz.func130,by kernel_rfl⟩
theorem wC (n0:Nat) (c0:List D):aO pr cv J 130 Tryz.f130 [(.sl none 1 n0 c0)]=
    (J 0 (fv 0 (pr.ar .sub .i64 (pr.aX n0) 1) n0 c0)):=by kernel_rfl
theorem nh (i0:Int) (i1:Int) (n2:Nat) (c3:List D):bF pr cv J 130 Tryz.f130 [(.sl none 0 0 [])] 0 (fv i0 i1 n2 c3)=
    let y1:List D:=(List.set c3 (pr.idx 0 i0 1) (.int .i64 (pr.bm c3 (pr.idx 0 i1 1))))
    (br (pr.lt i0 i1) (br (pr.bz i1 n2) (br (br (pr.cg .i64 c3 (pr.idx 0 i1 1)) true false) (br (pr.bz i0 n2) (br (br (pr.cg .i64 c3 (pr.idx 0 i0 1)) true false) (br (pr.bz i0 n2) (br (pr.slot c3 (pr.idx 0 i0 1)) (br (pr.bz i1 n2) (br (pr.slot y1 (pr.idx 0 i1 1)) (J 0 (fv (pr.ar .add .i64 i0 1) (pr.ar .sub .i64 i1 1) n2 (List.set y1 (pr.idx 0 i1 1) (.int .i64 (pr.bm c3 (pr.idx 0 i0 1)))))) none) none) none) none) none) none) none) none) (some ((.aP []),[(.sl none 1 n2 c3)]))):=by kernel_rfl
def oS (i0:Int) (g1:Bool) (n2:Nat) (c3:List D) (g4:Bool) (n5:Nat) (c6:List D) (g7:Bool) (n8:Nat) (c9:List D) (g10:Bool) (eg:Nat) (eB:List D) (i13:Int) (nI:Nat) (ou:List D):St:=(St.mk [(1,(.int .i64 i0)),(2,(.ptr 2 [] 0)),(5,(.ref 10005 [] 0 none))] [(2,[(.sl (some g1) 16 n2 c3),(.sl (some g4) 3 n5 c6),(.sl (some g7) 2 n8 c9),(.sl (some g10) 1 eg eB),(.int .i64 i13)]),(10005,[(.sl none 1 nI ou)])] [] 0)
theorem PO:Told cfg Tryz.prog 87 Tryz.f87:=⟨by kernel_rfl,Tryz.func87,by kernel_rfl⟩
theorem PQ (g0:Bool) (n0:Nat) (c0:List D) (g1:Bool) (n1:Nat) (c1:List D) (g2:Bool) (n2:Nat) (c2:List D) (g3:Bool) (n3:Nat) (c3:List D) (a4:Int) (a5:Int):aO pr cv J 87 Tryz.f87 [(.agg [(.sl (some g0) 16 n0 c0),(.sl (some g1) 3 n1 c1),(.sl (some g2) 2 n2 c2),(.sl (some g3) 1 n3 c3),(.int .i64 a4)]),(.int .i64 a5)]=
    (J 0 (oS a5 g0 n0 c0 g1 n1 c1 g2 n2 c2 g3 n3 c3 a4 0 [])):=by kernel_rfl
theorem kU (i0:Int) (g1:Bool) (n2:Nat) (c3:List D) (g4:Bool) (n5:Nat) (c6:List D) (g7:Bool) (n8:Nat) (c9:List D) (g10:Bool) (eg:Nat) (eB:List D) (i13:Int) (nI:Nat) (ou:List D):bF pr cv J 87 Tryz.f87 [.undef,.undef] 0 (oS i0 g1 n2 c3 g4 n5 c6 g7 n8 c9 g10 eg eB i13 nI ou)=
    let y1:Bool:=(br (pr.cg .i64 c9 ((pr.idx 0 (pr.ar .sub .i64 i0 1) 2)+1)) true false)
    let y2:Int:=(pr.bm c9 ((pr.idx 0 (pr.ar .sub .i64 i0 1) 2)+1))
    let y3:Option (D × List D):=(some ((.sl none 1 nI ou),[.undef,.undef]))
    (br (pr.lt 0 i0) (br (pr.le i0 (pr.aX n8)) (br (br (pr.flat ou) (pr.fits (1+nI) 8) false) (br (pr.bz (pr.ar .sub .i64 i0 1) n8) (br y1 (br (pr.le i0 y2) (some ((.sl none 1 (1+nI) ((.int .i64 i0)::ou)),[.undef,.undef])) (br (pr.bz (pr.ar .sub .i64 i0 1) n8) (br y1 (J 0 (oS y2 g1 n2 c3 g4 n5 c6 g7 n8 c9 g10 eg eB i13 (1+nI) ((.int .i64 i0)::ou))) none) none)) none) none) none) y3) y3):=by kernel_rfl
def oT (i0:Int) (g1:Bool) (n2:Nat) (c3:List D) (g4:Bool) (n5:Nat) (c6:List D) (g7:Bool) (n8:Nat) (c9:List D) (g10:Bool) (eg:Nat) (eB:List D) (i13:Int) (nI:Nat) (ou:List D):St:=(St.mk [(1,(.int .i64 i0)),(2,(.ptr 2 [] 0)),(5,(.ref 10005 [] 0 none))] [(2,[(.sl (some g1) 16 n2 c3),(.sl (some g4) 3 n5 c6),(.sl (some g7) 2 n8 c9),(.sl (some g10) 1 eg eB),(.int .i64 i13)]),(10005,[(.sl none 1 nI ou)])] [] 0)
theorem B9:Told cfg Tryz.prog 89 Tryz.f89:=⟨by kernel_rfl,Tryz.func89,by kernel_rfl⟩
theorem Ca (g0:Bool) (n0:Nat) (c0:List D) (g1:Bool) (n1:Nat) (c1:List D) (g2:Bool) (n2:Nat) (c2:List D) (g3:Bool) (n3:Nat) (c3:List D) (a4:Int) (a5:Int):aO pr cv J 89 Tryz.f89 [(.agg [(.sl (some g0) 16 n0 c0),(.sl (some g1) 3 n1 c1),(.sl (some g2) 2 n2 c2),(.sl (some g3) 1 n3 c3),(.int .i64 a4)]),(.int .i64 a5)]=
    (cv 75 [(.int .i64 a5),(.int .i64 1),(.int .i64 (pr.aX n2))] (.bool (fun bR=>(.done (br (br bR false true) (some ((.sl none 1 0 []),[.undef,.undef])) (J 0 (oT a5 g0 n0 c0 g1 n1 c1 g2 n2 c2 g3 n3 c3 a4 0 []))))))):=by kernel_rfl
theorem w5 (i0:Int) (g1:Bool) (n2:Nat) (c3:List D) (g4:Bool) (n5:Nat) (c6:List D) (g7:Bool) (n8:Nat) (c9:List D) (g10:Bool) (eg:Nat) (eB:List D) (i13:Int) (nI:Nat) (ou:List D):bF pr cv J 89 Tryz.f89 [.undef,.undef] 0 (oT i0 g1 n2 c3 g4 n5 c6 g7 n8 c9 g10 eg eB i13 nI ou)=
    let y1:D:=(.int .i64 (pr.bm c9 ((pr.idx 0 (pr.ar .sub .i64 i0 1) 2)+1)))
    let y2:List D:=[(.sl none 1 (nI+1) (List.append ou [(.int .i64 i0)]))]
    (br (br (pr.flat [(.int .i64 i0)]) (pr.fits (nI+1) 8) false) (br (pr.bz (pr.ar .sub .i64 i0 1) n8) (br (br (pr.cg .i64 c9 ((pr.idx 0 (pr.ar .sub .i64 i0 1) 2)+1)) true false) (cv 75 [y1,(.int .i64 1),(.int .i64 (pr.ar .sub .i64 i0 1))] (.bool (fun bR=>(.done (br (br bR false true) (br (br (br (pr.nl (List.append ou [(.int .i64 i0)])) true false) true false) (cv 130 y2 (.sl (fun rp=>(fun oY=>(.done (br (br (br (pr.nl oY) true false) true false) (br (br (br (pr.neq (nI+1) rp) true false) true false) (some ((.sl none 1 rp oY),[.undef,.undef])) none) none)))))) none) (J 0 (oT (pr.bm c9 ((pr.idx 0 (pr.ar .sub .i64 i0 1) 2)+1)) g1 n2 c3 g4 n5 c6 g7 n8 c9 g10 eg eB i13 (nI+1) (List.append ou [(.int .i64 i0)])))))))) none) none) none):=by kernel_rfl
end
def rv (xs:List Int) (k:Nat):List Int:=(List.range xs.length).map fun j=>if j < k∨xs.length≤j+k then xs.getD (xs.length - 1 - j) 0 else xs.getD j 0
theorem qx (xs:List Int) (k:Nat):(rv xs k).length=xs.length:=by simp [rv]
theorem PR (xs:List Int) (k j:Nat) (h:j < (rv xs k).length):(rv xs k)[j]=if j < k∨xs.length≤j+k then xs.getD (xs.length - 1 - j) 0 else xs.getD j 0:=by simp [rv]
theorem abA (xs:List Int):rv xs 0=xs:=by
  apply List.ext_getElem (by rw [qx])
  intro j h1 h2
  rw [PR,if_neg (by omega)]
  simp [List.getD_eq_getElem?_getD,h2]
theorem aej (xs:List Int) {k:Nat} (h:xs.length≤2*k+1):rv xs k=xs.reverse:=by
  apply List.ext_getElem (by rw [qx,List.length_reverse])
  intro j h1 h2
  rw [qx] at h1
  rw [PR,List.getElem_reverse]
  split
  · simp [List.getD_eq_getElem?_getD,show xs.length - 1 - j < xs.length by omega]
  · have e:xs.length - 1 - j=j:=by omega
    simp [List.getD_eq_getElem?_getD,h1,e]
theorem abB (xs:List Int) {k:Nat} (h:k+(k+1) < xs.length) (h1:k < (rv xs k).length) (h2:xs.length - 1 - k < (rv xs k).length):
    ((rv xs k).set k (rv xs k)[xs.length - 1 - k]).set (xs.length - 1 - k) (rv xs k)[k]=rv xs (k+1):=by
  apply List.ext_getElem (by simp [qx])
  intro j g1 g2
  rw [qx] at g2
  rw [List.getElem_set,List.getElem_set]
  simp only [PR]
  by_cases e1:xs.length - 1 - k=j
  · rw [if_pos e1,if_neg (by omega),if_pos (by omega)]
    congr 1
    omega
  · rw [if_neg e1]
    by_cases e2:k=j
    · rw [if_pos e2,if_neg (by omega),if_pos (by omega)]
      subst e2
      rfl
    · rw [if_neg e2]
      by_cases e3:j < k∨xs.length≤j+k
      · rw [if_pos e3,if_pos (by omega)]
      · rw [if_neg e3,if_neg (by omega)]
theorem Ud (xs:List Int) (hb:xs.length < 4611686018427387904):Cm 130 [.sl none 1 xs.length (ints xs)] (.aP [],[.sl none 1 xs.length (ints xs.reverse)]):=by
  refine Cm.go wB [.sl none 0 0 []] 0 (fv ((0:Nat):Int) ((xs.length:Int) - 1 - ((0:Nat):Int)) xs.length (ints (rv xs 0))) ?_ fun J hJ=>?_
  · refine WP.loop (H:=fun k:Nat=>fv (k:Int) ((xs.length:Int) - 1 - (k:Int)) xs.length (ints (rv xs k))) (n:=xs.length / 2) (fun _=>True) (fun k hk _ ih=>WP.go _ (ih trivial) fun J hJ=>?_) (fun _=>WP.fin fun J=>?_) 0 (Nat.zero_le _) trivial
    · rw [nh]
      have hl:=qx xs k
      have e0:(xs.length:Int) - 1 - (k:Int)=((xs.length - 1 - k:Nat):Int):=by omega
      have e1:(xs.length:Int) - 1 - ((k+1:Nat):Int)=((xs.length - 1 - k:Nat):Int) - 1:=by omega
      have h1:k < (rv xs k).length:=by omega
      have h2:xs.length - 1 - k < (rv xs k).length:=by omega
      rw [e1,← abB xs (by omega) h1 h2] at hJ
      rw [e0]
      simp (disch:=first | omega | (rw [List.length_set]; omega)) only [aH,bc,bf,aY,bC,cR,dE,EU,dF,ints_set,df,fI]
      exact hJ
    · rw [nh]
      simp (disch:=omega) only [bA,aej]
  · rw [wC]
    simp (disch:=omega) only [ay,fI]
    rw [abA] at hJ
    have e:(xs.length:Int) - 1 - ((0:Nat):Int)=(xs.length:Int) - 1:=by omega
    rw [e] at hJ
    exact hJ
def jE (log:List gx):Nat→Int→List Int
  | 0,_=>[]
  | f+1,n=>if 1≤n∧n≤log.length then n::(if (log.getD (n - 1).toNat ⟨0,0⟩).up < n then jE log f (log.getD (n - 1).toNat ⟨0,0⟩).up else []) else []
theorem mr {log:List gx} {n:Int} (h:¬ (1≤n∧n≤log.length)):∀ f,jE log f n=[]
  | 0=>rfl
  | f+1=>by rw [jE,if_neg h]
theorem PS {log:List gx}:∀ (f g:Nat) (n:Int),n≤f→n≤g→jE log f n=jE log g n
  | 0,g,n,hf,hg=>by rw [mr (by omega),mr (by omega)]
  | f+1,0,n,hf,hg=>by rw [mr (by omega),mr (by omega)]
  | f+1,g+1,n,hf,hg=>by
    rw [jE,jE]
    split
    · split
      · rw [PS f g _ (by omega) (by omega)]
      · rfl
    · rfl
theorem SF {log:List gx}:∀ (f:Nat) (n:Int),((jE log f n).length:Int)≤max n 0
  | 0,n=>by simp [jE]; omega
  | f+1,n=>by
    rw [jE]
    split
    · split
      · have:=SF (log:=log) f (log.getD (n - 1).toNat ⟨0,0⟩).up
        simp only [List.length_cons]
        omega
      · simp only [List.length_cons,List.length_nil]; omega
    · simp only [List.length_nil]; omega
theorem PT {α:Type} {l:List α} {i:Nat} (h:i < l.length) (d:α):l.getD i d=l[i]:=by simp [List.getD_eq_getElem?_getD,h]
theorem Ue {R:Type} {x y:R} (xs:List Int):br (ad.flat (ints xs)) x y=x:=by
  have:ad.flat (ints xs)=true:=by simp [ad,ints,gG]
  rw [this]; rfl
theorem WS {R:Type} {x y:R} (a:Int):br (ad.flat [.int .i64 a]) x y=x:=Ue [a]
section
variable (g:Bool) (w:aB) (ok:dg w)
include ok
theorem Cb:∀ (f:Nat) (n:Int) (out:List Int),n≤f→(out.length:Int)+max n 0≤1048576∨¬ (1≤n∧n≤w.log.length)→
    WP 87 Tryz.f87 [.undef,.undef] 0 (oS n g w.nodes.length (ab (U (some g)) w.nodes) g w.bV.length (ab (bd (some g)) w.bV) g w.log.length (ab (cD (some g)) w.log) g w.safe.length (ints w.safe) w.gen out.length (ints out)) (.sl none 1 ((jE w.log f n).reverse++out).length (ints ((jE w.log f n).reverse++out)),[.undef,.undef])
  | 0,n,out,hf,ho=>by
    refine WP.fin fun J=>?_
    rw [kU,mr (by omega)]
    simp (disch:=omega) only [bA,List.reverse_nil,List.nil_append]
  | f+1,n,out,hf,ho=>by
    have YM:=ok.log
    by_cases h1:1≤n
    · by_cases h2:n≤w.log.length
      · obtain ⟨m,rfl⟩:∃ m:Nat,n=(m:Int)+1:=⟨(n - 1).toNat,by omega⟩
        have hm:m < w.log.length:=by omega
        have e1:(m:Int)+1 - 1=(m:Int):=by omega
        have e2:ints (((m:Int)+1)::out)=.int .i64 ((m:Int)+1)::ints out:=rfl
        have e3:(((m:Int)+1)::out).length=1+out.length:=by rw [List.length_cons]; omega
        have hch:jE w.log (f+1) ((m:Int)+1)=((m:Int)+1)::(if (w.log[m]).up < (m:Int)+1 then jE w.log f (w.log[m]).up else []):=by
          rw [jE,if_pos ⟨h1,h2⟩,e1,Int.toNat_natCast,PT hm]
        rw [hch]
        by_cases h3:(w.log[m]).up < (m:Int)+1
        · rw [if_pos h3]
          have ih:=Cb f (w.log[m]).up (((m:Int)+1)::out) (by omega) (by rw [List.length_cons]; omega)
          have e4:(((m:Int)+1)::jE w.log f (w.log[m]).up).reverse++out=(jE w.log f (w.log[m]).up).reverse++(((m:Int)+1)::out):=by simp
          rw [e4]
          rw [e2,e3] at ih
          refine WP.go _ ih fun J hJ=>?_
          rw [kU]
          simp (disch:=first | omega | assumption) only [aH,bc,bf,ay,aY,wW,nc,GS,Ue,eD,fI,e1,bC,rq,zE,zF,zG,zH]
          exact hJ
        · rw [if_neg h3]
          refine WP.fin fun J=>?_
          rw [kU]
          simp (disch:=first | omega | assumption) only [aH,bc,bf,ay,aY,wW,GS,Ue,eD,fI,e1,bC,rq,zE,zF,zG,zH]
          have e5:[((m:Int)+1)].reverse++out=((m:Int)+1)::out:=rfl
          rw [e5,e2,e3]
      · refine WP.fin fun J=>?_
        rw [kU,mr (by omega)]
        simp (disch:=omega) only [aH,bc,ay,aY,nc,List.reverse_nil,List.nil_append]
    · refine WP.fin fun J=>?_
      rw [kU,mr (by omega)]
      simp (disch:=omega) only [bA,List.reverse_nil,List.nil_append]
theorem Cc:∀ (f:Nat) (n:Int) (out:List Int),n≤f→1≤n→n≤w.log.length→(out.length:Int)+n≤1048576→
    WP 89 Tryz.f89 [.undef,.undef] 0 (oT n g w.nodes.length (ab (U (some g)) w.nodes) g w.bV.length (ab (bd (some g)) w.bV) g w.log.length (ab (cD (some g)) w.log) g w.safe.length (ints w.safe) w.gen out.length (ints out)) (.sl none 1 (out++jE w.log f n).reverse.length (ints (out++jE w.log f n).reverse),[.undef,.undef])
  | 0,n,out,hf,h1,h2,ho=>absurd hf (by omega)
  | f+1,n,out,hf,h1,h2,ho=>by
    have YM:=ok.log
    obtain ⟨m,rfl⟩:∃ m:Nat,n=(m:Int)+1:=⟨(n - 1).toNat,by omega⟩
    have hm:m < w.log.length:=by omega
    have e1:(m:Int)+1 - 1=(m:Int):=by omega
    have e2:List.append (ints out) [.int .i64 ((m:Int)+1)]=ints (out++[(m:Int)+1]):=by simp [ints]
    have e3:(out++[(m:Int)+1]).length=out.length+1:=by simp
    have hch:jE w.log (f+1) ((m:Int)+1)=((m:Int)+1)::(if (w.log[m]).up < (m:Int)+1 then jE w.log f (w.log[m]).up else []):=by
      rw [jE,if_pos ⟨h1,h2⟩,e1,Int.toNat_natCast,PT hm]
    rw [hch]
    have vf:∀ t,aL 75 [.int .i64 (w.log[m]).up,.int .i64 1,.int .i64 (m:Int)] t=feed t [.bool (decide (1≤(w.log[m]).up∧(w.log[m]).up≤(m:Int)))]:=fun t=>aW (D9 _ _ _) (by kernel_rfl) t
    by_cases h3:1≤(w.log[m]).up∧(w.log[m]).up≤(m:Int)
    · have ih:=Cc f (w.log[m]).up (out++[(m:Int)+1]) (by omega) h3.1 (by omega) (by rw [e3]; omega)
      rw [if_pos (by omega)]
      have e4:out++((m:Int)+1)::jE w.log f (w.log[m]).up=(out++[(m:Int)+1])++jE w.log f (w.log[m]).up:=by simp
      rw [e4]
      rw [e3] at ih
      refine WP.go _ ih fun J hJ=>?_
      rw [w5]
      simp (disch:=first | omega | assumption) only [aH,bc,bf,bJ,bY,GS,WS,eD,fI,e1,bC,rq,zE,zF,zG,zH,vf,aE,ao,decide_eq_true h3,e2]
      exact hJ
    · have e4:(if (w.log[m]).up < (m:Int)+1 then jE w.log f (w.log[m]).up else [])=[]:=by
        split
        · exact mr (by omega) f
        · rfl
      rw [e4]
      have vr:∀ t,aL 130 [.sl none 1 (out.length+1) (ints (out++[(m:Int)+1]))] t=feed t [.sl none 1 (out.length+1) (ints (out++[(m:Int)+1]).reverse)]:=fun t=>by
        have:=Ud (out++[(m:Int)+1]) (by rw [e3]; omega)
        rw [e3] at this
        exact aW this (by kernel_rfl) t
      refine WP.fin fun J=>?_
      rw [w5]
      simp (disch:=first | omega | assumption) only [aH,bc,bf,bJ,bY,GS,WS,eD,fI,e1,bC,rq,zE,zF,zG,zH,vf,aE,dv,ao,decide_eq_false h3,e2,vr,iT,SE]
      rw [List.length_reverse,e3]
theorem PU (n:Int):Cm 87 [.agg (dk (some g) w),.int .i64 n] (.sl none 1 (jE w.log w.log.length n).reverse.length (ints (jE w.log w.log.length n).reverse),[.undef,.undef]):=by
  have YM:=ok.log
  have hw:=Cb g w ok (max n 0).toNat n [] (by omega) (by simp only [List.length_nil]; omega)
  have hf:jE w.log (max n 0).toNat n=jE w.log w.log.length n:=by
    by_cases h:1≤n∧n≤w.log.length
    · exact PS _ _ n (by omega) (by omega)
    · rw [mr h,mr h]
  rw [hf,List.append_nil] at hw
  refine Cm.go PO [.undef,.undef] 0 _ hw fun J hJ=>?_
  rw [PQ]
  exact hJ
theorem PV (n:Int):Cm 89 [.agg (dk (some g) w),.int .i64 n] (.sl none 1 (jE w.log w.log.length n).reverse.length (ints (jE w.log w.log.length n).reverse),[.undef,.undef]):=by
  have YM:=ok.log
  by_cases h:1≤n∧n≤w.log.length
  · have hw:=Cc g w ok w.log.length n [] (by omega) h.1 h.2 (by simp only [List.length_nil]; omega)
    rw [List.nil_append] at hw
    refine Cm.go B9 [.undef,.undef] 0 _ hw fun J hJ=>?_
    rw [Ca]
    simp only [ay,gg,aE,ao,decide_eq_true h,bJ,bY,aH]
    exact hJ
  · refine Cm.fin B9 fun J=>?_
    rw [Ca,mr h]
    simp only [ay,gg,aE,ao,decide_eq_false h,bJ,bY,bc]
    rfl
end
end Go.Proofs.YtockoilcnmljiaaGreat
namespace Go.Proofs.YtockoilcnmljiaaGreat
set_option maxRecDepth 100000
section
variable (pr:dA) (cv:Cv Rz) (J:Nat→St→Option Rz)
def mu (g0:Bool) (n1:Nat) (c2:List D) (i3:Int) (i4:Int):St:=(St.mk [(0,(.sl (some g0) 1 n1 c2)),(1,(.int .i64 i3)),(5,(.int .i64 i4))] [] [] 0)
theorem PW:Told cfg Tryz.prog 84 Tryz.f84:=⟨by kernel_rfl,Tryz.func84,by kernel_rfl⟩
theorem PX (g0:Bool) (n0:Nat) (c0:List D) (a1:Int):aO pr cv J 84 Tryz.f84 [(.sl (some g0) 1 n0 c0),(.int .i64 a1)]=
    (J 0 (mu g0 n0 c0 a1 0)):=by kernel_rfl
theorem ry (g0:Bool) (n1:Nat) (c2:List D) (i3:Int) (i4:Int):bF pr cv J 84 Tryz.f84 [.undef,.undef] 0 (mu g0 n1 c2 i3 i4)=
    (br (pr.lt i4 (pr.aX n1)) (br (pr.bz i4 n1) (br (br (pr.cg .i64 c2 (pr.idx 0 i4 1)) true false) (br (pr.eq (pr.bm c2 (pr.idx 0 i4 1)) i3) (some ((.bool true),[.undef,.undef])) (J 0 (mu g0 n1 c2 i3 (pr.ar .add .i64 i4 1)))) none) none) (some ((.bool false),[.undef,.undef]))):=by kernel_rfl
def kV (g0:Bool) (n1:Nat) (c2:List D) (g3:Bool) (n4:Nat) (c5:List D) (i6:Int):St:=(St.mk [(0,(.sl (some g0) 1 n1 c2)),(1,(.sl (some g3) 1 n4 c5)),(5,(.int .i64 i6))] [] [] 0)
theorem Ma:Told cfg Tryz.prog 90 Tryz.f90:=⟨by kernel_rfl,Tryz.func90,by kernel_rfl⟩
theorem Mb (g0:Bool) (n0:Nat) (c0:List D) (g1:Bool) (n1:Nat) (c1:List D):aO pr cv J 90 Tryz.f90 [(.sl (some g0) 1 n0 c0),(.sl (some g1) 1 n1 c1)]=
    (J 0 (kV g0 n0 c0 g1 n1 c1 0)):=by kernel_rfl
theorem pY (g0:Bool) (n1:Nat) (c2:List D) (g3:Bool) (n4:Nat) (c5:List D) (i6:Int):bF pr cv J 90 Tryz.f90 [.undef,.undef] 0 (kV g0 n1 c2 g3 n4 c5 i6)=
    let y1:Option (D × List D):=(some ((.bool (pr.eq (pr.aX n1) (pr.aX n4))),[.undef,.undef]))
    (br (pr.lt i6 (pr.aX n1)) (br (pr.lt i6 (pr.aX n4)) (br (pr.bz i6 n1) (br (br (pr.cg .i64 c2 (pr.idx 0 i6 1)) true false) (br (pr.bz i6 n4) (br (br (pr.cg .i64 c5 (pr.idx 0 i6 1)) true false) (br (br (pr.eq (pr.bm c2 (pr.idx 0 i6 1)) (pr.bm c5 (pr.idx 0 i6 1))) false true) (some ((.bool false),[.undef,.undef])) (J 0 (kV g0 n1 c2 g3 n4 c5 (pr.ar .add .i64 i6 1)))) none) none) none) none) y1) y1):=by kernel_rfl
theorem PY:Told cfg Tryz.prog 81 Tryz.f81:=⟨by kernel_rfl,Tryz.func81,by kernel_rfl⟩
theorem PZ (a0:Bool):aO pr cv J 81 Tryz.f81 [(.bool a0)]=
    (br a0 (some ((.int .i64 1),[.undef])) (some ((.int .i64 0),[.undef]))):=by kernel_rfl
theorem Mc:Told cfg Tryz.prog 76 Tryz.f76:=⟨by kernel_rfl,Tryz.func76,by kernel_rfl⟩
theorem Md (a0:Int):aO pr cv J 76 Tryz.f76 [(.int .i64 a0)]=
    (cv 75 [(.int .i64 a0),(.int .i64 0),(.int .i64 2)] (.bool (fun bR=>(.done (some ((.bool bR),[.undef])))))):=by kernel_rfl
theorem Me:Told cfg Tryz.prog 77 Tryz.f77:=⟨by kernel_rfl,Tryz.func77,by kernel_rfl⟩
theorem Mf (a0:Int):aO pr cv J 77 Tryz.f77 [(.int .i64 a0)]=
    (cv 75 [(.int .i64 a0),(.int .i64 0),(.int .i64 7)] (.bool (fun bR=>(.done (some ((.bool bR),[.undef])))))):=by kernel_rfl
theorem JI:Told cfg Tryz.prog 115 Tryz.f115:=⟨by kernel_rfl,Tryz.func115,by kernel_rfl⟩
theorem JJ (a0:Int):aO pr cv J 115 Tryz.f115 [(.int .i64 a0)]=
    (cv 75 [(.int .i64 a0),(.int .i64 1),(.int .i64 200)] (.bool (fun bR=>(.done (some ((.bool bR),[.undef])))))):=by kernel_rfl
theorem Q6:Told cfg Tryz.prog 171 Tryz.f171:=⟨by kernel_rfl,Tryz.func171,by kernel_rfl⟩
theorem Q7 (a0:Bool) (a1:Int):aO pr cv J 171 Tryz.f171 [(.bool a0),(.int .i64 a1)]=
    (br a0 (some ((.int .i64 a1),[.undef,.undef])) (some ((.int .i64 0),[.undef,.undef]))):=by kernel_rfl
theorem Q8:Told cfg Tryz.prog 149 Tryz.f149:=⟨by kernel_rfl,Tryz.func149,by kernel_rfl⟩
theorem Q9 (a0:Int):aO pr cv J 149 Tryz.f149 [(.int .i64 a0)]=
    let y1:Option (D × List D):=(some ((.int .i64 (pr.ar .sub .i64 1 a0)),[.undef]))
    (br (pr.eq a0 0) y1 (br (pr.eq a0 1) y1 (some ((.int .i64 (-1)),[.undef])))):=by kernel_rfl
theorem Ra:Told cfg Tryz.prog 148 Tryz.f148:=⟨by kernel_rfl,Tryz.func148,by kernel_rfl⟩
theorem Rb (a0:Int):aO pr cv J 148 Tryz.f148 [(.int .i64 a0)]=
    (cv 69 [(.int .i64 a0),(.int .i64 0),(.int .i64 1)] (.bool (fun bR=>(.done (br bR (some ((.int .i64 (pr.ar .sub .i64 1 a0)),[.undef])) (some ((.int .i64 (-1)),[.undef]))))))):=by kernel_rfl
def j1 (g0:Bool) (n1:Nat) (c2:List D) (i3:Int):St:=(St.mk [(0,(.sl (some g0) 1 n1 c2)),(3,(.int .i64 i3))] [] [] 0)
theorem JK:Told cfg Tryz.prog 136 Tryz.f136:=⟨by kernel_rfl,Tryz.func136,by kernel_rfl⟩
theorem JL (g0:Bool) (n0:Nat) (c0:List D):aO pr cv J 136 Tryz.f136 [(.sl (some g0) 1 n0 c0)]=
    (J 0 (j1 g0 n0 c0 0)):=by kernel_rfl
theorem o9 (g0:Bool) (n1:Nat) (c2:List D) (i3:Int):bF pr cv J 136 Tryz.f136 [.undef] 0 (j1 g0 n1 c2 i3)=
    let y1:Option (D × List D):=(some ((.bool false),[.undef]))
    let y2:Option Rz:=(J 0 (j1 g0 n1 c2 (pr.ar .add .i64 i3 1)))
    (br (pr.lt i3 (pr.aX n1)) (br (pr.bz i3 n1) (br (br (pr.cg .i64 c2 (pr.idx 0 i3 1)) true false) (cv 69 [(.int .i64 (pr.bm c2 (pr.idx 0 i3 1))),(.int .i64 0),(.int .i64 7)] (.bool (fun bR=>(.done (br (br bR false true) y1 (br (pr.lt 0 i3) (br (pr.bz (pr.ar .sub .i64 i3 1) n1) (br (br (pr.cg .i64 c2 (pr.idx 0 (pr.ar .sub .i64 i3 1) 1)) true false) (br (pr.bz i3 n1) (br (br (pr.cg .i64 c2 (pr.idx 0 i3 1)) true false) (br (pr.le (pr.bm c2 (pr.idx 0 i3 1)) (pr.bm c2 (pr.idx 0 (pr.ar .sub .i64 i3 1) 1))) y1 y2) none) none) none) none) y2)))))) none) none) (some ((.bool true),[.undef]))):=by kernel_rfl
def j2 (g0:Bool) (n1:Nat) (c2:List D) (i3:Int) (i4:Int):St:=(St.mk [(0,(.sl (some g0) 1 n1 c2)),(5,(.sl (some g0) 1 n1 c2)),(6,(.int .i64 i3)),(7,(.int .i64 i4))] [] [] 0)
theorem JM:Told cfg Tryz.prog 145 Tryz.f145:=⟨by kernel_rfl,Tryz.func145,by kernel_rfl⟩
theorem JN (g0:Bool) (n0:Nat) (c0:List D):aO pr cv J 145 Tryz.f145 [(.sl (some g0) 1 n0 c0)]=
    (J 0 (j2 g0 n0 c0 (pr.aX n0) 0)):=by kernel_rfl
theorem pb (g0:Bool) (n1:Nat) (c2:List D) (i3:Int) (i4:Int):bF pr cv J 145 Tryz.f145 [.undef] 0 (j2 g0 n1 c2 i3 i4)=
    let y1:Option (D × List D):=(some ((.bool false),[.undef]))
    let y2:Option Rz:=(J 0 (j2 g0 n1 c2 i3 (pr.ar .add .i64 i4 1)))
    (br (pr.lt i4 i3) (br (pr.bz i4 n1) (br (br (pr.cg .i64 c2 (pr.idx 0 i4 1)) true false) (cv 77 [(.int .i64 (pr.bm c2 (pr.idx 0 i4 1)))] (.bool (fun bR=>(.done (br (br bR false true) y1 (br (pr.lt 0 i4) (br (pr.bz (pr.ar .sub .i64 i4 1) n1) (br (br (pr.cg .i64 c2 (pr.idx 0 (pr.ar .sub .i64 i4 1) 1)) true false) (br (pr.le (pr.bm c2 (pr.idx 0 i4 1)) (pr.bm c2 (pr.idx 0 (pr.ar .sub .i64 i4 1) 1))) y1 y2) none) none) y2)))))) none) none) (some ((.bool true),[.undef]))):=by kernel_rfl
def kW (g0:Bool) (n1:Nat) (c2:List D) (i3:Int):St:=(St.mk [(0,(.sl (some g0) 1 n1 c2)),(3,(.int .i64 i3))] [] [] 0)
theorem Mg:Told cfg Tryz.prog 137 Tryz.f137:=⟨by kernel_rfl,Tryz.func137,by kernel_rfl⟩
theorem Mh (g0:Bool) (n0:Nat) (c0:List D):aO pr cv J 137 Tryz.f137 [(.sl (some g0) 1 n0 c0)]=
    (J 0 (kW g0 n0 c0 0)):=by kernel_rfl
theorem pZ (g0:Bool) (n1:Nat) (c2:List D) (i3:Int):bF pr cv J 137 Tryz.f137 [.undef] 0 (kW g0 n1 c2 i3)=
    let y1:Option (D × List D):=(some ((.bool false),[.undef]))
    (br (pr.lt i3 (pr.aX n1)) (br (pr.bz i3 n1) (br (br (pr.cg .i64 c2 (pr.idx 0 i3 1)) true false) (cv 69 [(.int .i64 (pr.bm c2 (pr.idx 0 i3 1))),(.int .i64 1),(.int .i64 100000)] (.bool (fun bR=>(.done (br (br bR false true) y1 (br (pr.wT 0 i3 n1) (br (pr.bz i3 n1) (br (br (pr.cg .i64 c2 (pr.idx 0 i3 1)) true false) (cv 84 [(.sl (some g0) 1 (pr.pV i3 0) (List.take (Nat.mul (pr.pV i3 0) 1) (List.drop (Nat.mul (pr.jk 0) 1) c2))),(.int .i64 (pr.bm c2 (pr.idx 0 i3 1)))] (.bool (fun eP=>(.done (br eP y1 (J 0 (kW g0 n1 c2 (pr.ar .add .i64 i3 1)))))))) none) none) none)))))) none) none) (some ((.bool (pr.le (pr.aX n1) 12)),[.undef]))):=by kernel_rfl
def kX (g0:Bool) (n1:Nat) (c2:List D) (i3:Int) (i4:Int):St:=(St.mk [(0,(.sl (some g0) 1 n1 c2)),(5,(.sl (some g0) 1 n1 c2)),(6,(.int .i64 i3)),(7,(.int .i64 i4))] [] [] 0)
theorem Mi:Told cfg Tryz.prog 142 Tryz.f142:=⟨by kernel_rfl,Tryz.func142,by kernel_rfl⟩
theorem Mj (g0:Bool) (n0:Nat) (c0:List D):aO pr cv J 142 Tryz.f142 [(.sl (some g0) 1 n0 c0)]=
    (J 0 (kX g0 n0 c0 (pr.aX n0) 0)):=by kernel_rfl
theorem p7 (g0:Bool) (n1:Nat) (c2:List D) (i3:Int) (i4:Int):bF pr cv J 142 Tryz.f142 [.undef] 0 (kX g0 n1 c2 i3 i4)=
    let y1:Option (D × List D):=(some ((.bool false),[.undef]))
    (br (pr.lt i4 i3) (br (pr.bz i4 n1) (br (br (pr.cg .i64 c2 (pr.idx 0 i4 1)) true false) (cv 75 [(.int .i64 (pr.bm c2 (pr.idx 0 i4 1))),(.int .i64 1),(.int .i64 100000)] (.bool (fun bR=>(.done (br (br bR false true) y1 (br (pr.wT 0 i4 n1) (cv 86 [(.sl (some g0) 1 (pr.pV i4 0) (List.take (Nat.mul (pr.pV i4 0) 1) (List.drop (Nat.mul (pr.jk 0) 1) c2))),(.int .i64 (pr.bm c2 (pr.idx 0 i4 1)))] (.bool (fun eP=>(.done (br eP y1 (J 0 (kX g0 n1 c2 i3 (pr.ar .add .i64 i4 1)))))))) none)))))) none) none) (some ((.bool (pr.le (pr.aX n1) 12)),[.undef]))):=by kernel_rfl
def j3 (g0:Bool) (n1:Nat) (c2:List D) (i3:Int):St:=(St.mk [(0,(.sl (some g0) 1 n1 c2)),(3,(.int .i64 i3))] [] [] 0)
theorem JO:Told cfg Tryz.prog 99 Tryz.f99:=⟨by kernel_rfl,Tryz.func99,by kernel_rfl⟩
theorem JP (g0:Bool) (n0:Nat) (c0:List D):aO pr cv J 99 Tryz.f99 [(.sl (some g0) 1 n0 c0)]=
    (J 0 (j3 g0 n0 c0 0)):=by kernel_rfl
theorem pc (g0:Bool) (n1:Nat) (c2:List D) (i3:Int):bF pr cv J 99 Tryz.f99 [.undef] 0 (j3 g0 n1 c2 i3)=
    (br (pr.lt i3 (pr.aX n1)) (br (pr.bz i3 n1) (br (br (pr.cg .i64 c2 (pr.idx 0 i3 1)) true false) (cv 69 [(.int .i64 (pr.bm c2 (pr.idx 0 i3 1))),(.int .i64 0),(.int .i64 200)] (.bool (fun bR=>(.done (br (br bR false true) (some ((.bool false),[.undef])) (J 0 (j3 g0 n1 c2 (pr.ar .add .i64 i3 1)))))))) none) none) (some ((.bool (pr.eq (pr.aX n1) 8)),[.undef]))):=by kernel_rfl
theorem vZ:Told cfg Tryz.prog 86 Tryz.f86:=⟨by kernel_rfl,Tryz.func86,by kernel_rfl⟩
theorem v7 (g0:Bool) (n0:Nat) (c0:List D) (a1:Int):aO pr cv J 86 Tryz.f86 [(.sl (some g0) 1 n0 c0),(.int .i64 a1)]=
    (cv 128 [(.sl (some g0) 1 n0 c0),(.int .i64 a1)] (.int (fun dm=>(.done (some ((.bool (pr.le 0 dm)),[.undef,.undef])))))):=by kernel_rfl
def fM (g0:Bool) (n1:Nat) (c2:List D) (i3:Int) (i4:Int) (i5:Int):St:=(St.mk [(0,(.sl (some g0) 1 n1 c2)),(1,(.int .i64 i3)),(7,(.int .i64 i4)),(8,(.int .i64 i5))] [] [] 0)
theorem yw:Told cfg Tryz.prog 128 Tryz.f128:=⟨by kernel_rfl,Tryz.func128,by kernel_rfl⟩
theorem yx (g0:Bool) (n0:Nat) (c0:List D) (a1:Int):aO pr cv J 128 Tryz.f128 [(.sl (some g0) 1 n0 c0),(.int .i64 a1)]=
    (J 0 (fM g0 n0 c0 a1 (pr.aX n0) 0)):=by kernel_rfl
theorem j4 (g0:Bool) (n1:Nat) (c2:List D) (i3:Int) (i4:Int) (i5:Int):bF pr cv J 128 Tryz.f128 [.undef,.undef] 0 (fM g0 n1 c2 i3 i4 i5)=
    (br (pr.lt i5 i4) (br (pr.bz i5 n1) (br (br (pr.cg .i64 c2 (pr.idx 0 i5 1)) true false) (br (pr.eq i3 (pr.bm c2 (pr.idx 0 i5 1))) (some ((.int .i64 i5),[.undef,.undef])) (J 0 (fM g0 n1 c2 i3 i4 (pr.ar .add .i64 i5 1)))) none) none) (some ((.int .i64 (-1)),[.undef,.undef]))):=by kernel_rfl
def fN (g0:Bool) (n1:Nat) (c2:List D) (g3:Bool) (n4:Nat) (c5:List D) (i6:Int) (i7:Int):St:=(St.mk [(0,(.sl (some g0) 1 n1 c2)),(1,(.sl (some g3) 1 n4 c5)),(12,(.int .i64 i6)),(13,(.int .i64 i7))] [] [] 0)
theorem qy:Told cfg Tryz.prog 94 Tryz.f94:=⟨by kernel_rfl,Tryz.func94,by kernel_rfl⟩
theorem qz (g0:Bool) (n0:Nat) (c0:List D) (g1:Bool) (n1:Nat) (c1:List D):aO pr cv J 94 Tryz.f94 [(.sl (some g0) 1 n0 c0),(.sl (some g1) 1 n1 c1)]=
    (br (br (pr.eq (pr.aX n0) (pr.aX n1)) false true) (some ((.bool false),[.undef,.undef])) (J 0 (fN g0 n0 c0 g1 n1 c1 (pr.aX n0) 0))):=by kernel_rfl
theorem j5 (g0:Bool) (n1:Nat) (c2:List D) (g3:Bool) (n4:Nat) (c5:List D) (i6:Int) (i7:Int):bF pr cv J 94 Tryz.f94 [.undef,.undef] 0 (fN g0 n1 c2 g3 n4 c5 i6 i7)=
    (br (pr.lt i7 i6) (br (pr.bz i7 n1) (br (br (pr.cg .i64 c2 (pr.idx 0 i7 1)) true false) (br (pr.bz i7 n4) (br (br (pr.cg .i64 c5 (pr.idx 0 i7 1)) true false) (br (br (pr.eq (pr.bm c2 (pr.idx 0 i7 1)) (pr.bm c5 (pr.idx 0 i7 1))) false true) (some ((.bool false),[.undef,.undef])) (J 0 (fN g0 n1 c2 g3 n4 c5 i6 (pr.ar .add .i64 i7 1)))) none) none) none) none) (some ((.bool true),[.undef,.undef]))):=by kernel_rfl
theorem Mk:Told cfg Tryz.prog 160 Tryz.f160:=⟨by kernel_rfl,Tryz.func160,by kernel_rfl⟩
theorem Ml (g0:Bool) (n0:Nat) (c0:List D) (g1:Bool) (n1:Nat) (c1:List D):aO pr cv J 160 Tryz.f160 [(.sl (some g0) 1 n0 c0),(.sl (some g1) 1 n1 c1)]=
    (br (pr.sL c0) (br (pr.sL c1) (some ((.bool (pr.seq (pr.Bh c0) (pr.Bh c1))),[.undef,.undef])) none) none):=by kernel_rfl
theorem E8:Told cfg Tryz.prog 141 Tryz.f141:=⟨by kernel_rfl,Tryz.func141,by kernel_rfl⟩
theorem E9 (a0:Int):aO pr cv J 141 Tryz.f141 [(.int .i64 a0)]=
    (cv 75 [(.int .i64 a0),(.int .i64 0),(.int .i64 200)] (.bool (fun bR=>(.done (some ((.bool (br bR false true)),[.undef])))))):=by kernel_rfl
theorem Dp:Told cfg Tryz.prog 144 Tryz.f144:=⟨by kernel_rfl,Tryz.func144,by kernel_rfl⟩
theorem Dq (g0:Bool) (n0:Nat) (c0:List D):aO pr cv J 144 Tryz.f144 [(.sl (some g0) 1 n0 c0)]=
    (cv 145 [(.sl (some g0) 1 n0 c0)] (.bool (fun bR=>(.done (some ((.bool (br bR false true)),[.undef])))))):=by kernel_rfl
theorem HI:Told cfg Tryz.prog 112 Tryz.f112:=⟨by kernel_rfl,Tryz.func112,by kernel_rfl⟩
theorem HJ (g0:Bool) (n0:Nat) (c0:List D):aO pr cv J 112 Tryz.f112 [(.sl (some g0) 1 n0 c0)]=
    (br (pr.eq (pr.aX n0) 3) (cv 143 [(.sl (some g0) 1 n0 c0),(.fn 144 [])] (.bool (fun bR=>(.done (some ((.bool (br bR false true)),[.undef])))))) (some ((.bool false),[.undef]))):=by kernel_rfl
theorem JQ:Told cfg Tryz.prog 110 Tryz.f110:=⟨by kernel_rfl,Tryz.func110,by kernel_rfl⟩
theorem JR (g0:Bool) (n0:Nat) (c0:List D):aO pr cv J 110 Tryz.f110 [(.sl (some g0) 1 n0 c0)]=
    (br (pr.eq (pr.aX n0) 8) (cv 124 [(.sl (some g0) 1 n0 c0),(.fn 141 [])] (.bool (fun bR=>(.done (some ((.bool (br bR false true)),[.undef])))))) (some ((.bool false),[.undef]))):=by kernel_rfl
theorem pD:Told cfg Tryz.prog 124 Tryz.f124:=⟨by kernel_rfl,Tryz.func124,by kernel_rfl⟩
theorem pE (g0:Bool) (n0:Nat) (c0:List D):aO pr cv J 124 Tryz.f124 [(.sl (some g0) 1 n0 c0),(.fn 141 [])]=
    (cv 150 [(.sl (some g0) 1 n0 c0),(.fn 141 [])] (.int (fun dm=>(.done (some ((.bool (pr.le 0 dm)),[.undef,.undef])))))):=by kernel_rfl
def ea (g0:Bool) (n1:Nat) (c2:List D) (i3:Int) (i4:Int):St:=(St.mk [(0,(.sl (some g0) 1 n1 c2)),(1,(.fn 141 [])),(7,(.int .i64 i3)),(8,(.int .i64 i4))] [] [] 0)
theorem rz:Told cfg Tryz.prog 150 Tryz.f150:=⟨by kernel_rfl,Tryz.func150,by kernel_rfl⟩
theorem rA (g0:Bool) (n0:Nat) (c0:List D):aO pr cv J 150 Tryz.f150 [(.sl (some g0) 1 n0 c0),(.fn 141 [])]=
    (J 0 (ea g0 n0 c0 (pr.aX n0) 0)):=by kernel_rfl
theorem gh (g0:Bool) (n1:Nat) (c2:List D) (i3:Int) (i4:Int):bF pr cv J 150 Tryz.f150 [.undef,.undef] 0 (ea g0 n1 c2 i3 i4)=
    (br (pr.lt i4 i3) (br (pr.bz i4 n1) (br (br (pr.cg .i64 c2 (pr.idx 0 i4 1)) true false) (cv 141 [(.int .i64 (pr.bm c2 (pr.idx 0 i4 1)))] (.bool (fun bR=>(.done (br bR (some ((.int .i64 i4),[.undef,.undef])) (J 0 (ea g0 n1 c2 i3 (pr.ar .add .i64 i4 1)))))))) none) none) (some ((.int .i64 (-1)),[.undef,.undef]))):=by kernel_rfl
theorem pF:Told cfg Tryz.prog 143 Tryz.f143:=⟨by kernel_rfl,Tryz.func143,by kernel_rfl⟩
theorem pG (g0:Bool) (n0:Nat) (c0:List D):aO pr cv J 143 Tryz.f143 [(.sl (some g0) 1 n0 c0),(.fn 144 [])]=
    (cv 153 [(.sl (some g0) 1 n0 c0),(.fn 144 [])] (.int (fun dm=>(.done (some ((.bool (pr.le 0 dm)),[.undef,.undef])))))):=by kernel_rfl
def eb (g0:Bool) (n1:Nat) (c2:List D) (i3:Int) (i4:Int):St:=(St.mk [(0,(.sl (some g0) 1 n1 c2)),(1,(.fn 144 [])),(7,(.int .i64 i3)),(8,(.int .i64 i4))] [] [] 0)
theorem rB:Told cfg Tryz.prog 153 Tryz.f153:=⟨by kernel_rfl,Tryz.func153,by kernel_rfl⟩
theorem rC (g0:Bool) (n0:Nat) (c0:List D):aO pr cv J 153 Tryz.f153 [(.sl (some g0) 1 n0 c0),(.fn 144 [])]=
    (J 0 (eb g0 n0 c0 (pr.aX n0) 0)):=by kernel_rfl
theorem gi (g0:Bool) (n1:Nat) (c2:List D) (i3:Int) (i4:Int):bF pr cv J 153 Tryz.f153 [.undef,.undef] 0 (eb g0 n1 c2 i3 i4)=
    (br (pr.lt i4 i3) (br (pr.bz i4 n1) (br (br (pr.bG 1 c2 (pr.idx 0 i4 1)) true false) (cv 144 [(.sl (some (pr.bD c2 (pr.idx 0 i4 1))) 1 (pr.aZ c2 (pr.idx 0 i4 1)) (pr.ba c2 (pr.idx 0 i4 1)))] (.bool (fun bR=>(.done (br bR (some ((.int .i64 i4),[.undef,.undef])) (J 0 (eb g0 n1 c2 i3 (pr.ar .add .i64 i4 1)))))))) none) none) (some ((.int .i64 (-1)),[.undef,.undef]))):=by kernel_rfl
end
theorem WP.scan {f:FuncId} {fn:Func} {sk:List D} {j:Nat} {H:Nat→St} {n:Nat} (p:Nat→Bool) {bad zx:Rz} (Gr:∀ i r,i < n→p i=true→WP f fn sk j (H (i+1)) r→WP f fn sk j (H i) r) (YN:∀ i,i < n→p i=false→WP f fn sk j (H i) bad) (YO:WP f fn sk j (H n) zx):WP f fn sk j (H 0) (if (List.range n).all p then zx else bad):=by
  have key:∀ k i,i+k=n→WP f fn sk j (H i) (if ((List.range n).drop i).all p then zx else bad):=by
    intro k
    induction k with
    | zero=>
      intro i hi
      obtain rfl:i=n:=by omega
      rw [List.drop_of_length_le (by simp)]
      exact YO
    | succ k ih=>
      intro i hi
      have cX:i < (List.range n).length:=by simp; omega
      have e:((List.range n).drop i).all p=(p i&&((List.range n).drop (i+1)).all p):=by
        rw [← List.getElem_cons_drop cX]
        simp
      rw [e]
      cases hp:p i with
      | true=>
        rw [Bool.true_and]
        exact Gr i _ (by omega) hp (ih (i+1) (by omega))
      | false=>
        rw [Bool.false_and]
        exact YN i (by omega) hp
  exact key n 0 (by omega)
theorem bW {α:Type} {l:List α} {i:Nat} (h:i < l.length) {d:α}:l.getD i d=l[i]:=by simp [List.getD_eq_getElem?_getD,h]
theorem YP {α:Type} (p:α→Bool) (d:α) (xs:List α):((List.range xs.length).all fun i=>p (xs.getD i d))=xs.all p:=by
  rw [Bool.eq_iff_iff,List.all_eq_true,List.all_eq_true]
  constructor
  · intro h x hx
    obtain ⟨i,hi,rfl⟩:=List.mem_iff_getElem.1 hx
    have:=h i (List.mem_range.2 hi)
    rwa [bW hi] at this
  · intro h i hi
    rw [bW (List.mem_range.1 hi)]
    exact h _ (List.getElem_mem _)
def Rz.bool (b:Bool) (k:Nat):Rz:=(.bool b,List.replicate k .undef)
theorem SG (g:Bool) (xs:List Int) (a:Int) (hb:xs.length < 4611686018427387904):Cm 84 [.sl (some g) 1 xs.length (ints xs),.int .i64 a] (.bool (decide (a∈xs)),[.undef,.undef]):=by
  have e0:(Rz.bool (decide (a∈xs)) 2)=(if (List.range xs.length).all fun i=>!(xs.getD i 0==a) then Rz.bool false 2 else Rz.bool true 2):=by
    rw [YP (fun x=>!(x==a))]
    by_cases h:a∈xs
    · have:(xs.all fun x=>!(x==a))=false:=by
        rw [List.all_eq_false]
        exact ⟨a,h,by simp⟩
      simp [this,h]
    · have:(xs.all fun x=>!(x==a))=true:=by
        rw [List.all_eq_true]
        intro x hx
        have:x≠a:=fun e=>h (e▸hx)
        simp [this]
      simp [this,h]
  show Cm _ _ (Rz.bool (decide (a∈xs)) 2)
  rw [e0]
  refine Cm.go PW [.undef,.undef] 0 (mu g xs.length (ints xs) a (0:Nat)) ?_ fun J hJ=>?_
  · refine WP.scan (H:=fun i:Nat=>mu g xs.length (ints xs) a (i:Nat)) _ (fun i r hi hp ih=>WP.go _ ih fun J hJ=>?_) (fun i hi hp=>WP.fin fun J=>?_) (WP.fin fun J=>?_)
    · rw [ry]
      rw [bW hi] at hp
      have dc:xs[i]≠a:=by simpa using hp
      simp (disch:=first | omega | assumption) only [aH,bc,bf,ay,aY,bC,cR,dE,dF,ej,df]
      exact hJ
    · rw [ry]
      rw [bW hi] at hp
      have he:xs[i]=a:=by simpa using hp
      simp (disch:=first | omega | assumption) only [aH,bc,bf,ay,aY,bC,cR,dE,dF,fZ]
      rfl
    · rw [ry]
      simp (disch:=omega) only [ay,bA]
      rfl
  · rw [PX]
    exact hJ
def JS (xs:List Int) (a:Int):Int:=if a∈xs then (xs.idxOf a:Int) else -1
theorem abC (g:Bool) (xs:List Int) (a:Int) (hb:xs.length < 4611686018427387904):Cm 128 [.sl (some g) 1 xs.length (ints xs),.int .i64 a] (.int .i64 (JS xs a),[.undef,.undef]):=by
  refine Cm.go yw [.undef,.undef] 0 (fM g xs.length (ints xs) a xs.length (0:Nat)) ?_ fun J hJ=>?_
  · refine WP.loop (H:=fun i:Nat=>fM g xs.length (ints xs) a xs.length (i:Nat)) (n:=xs.length) (fun i=>a∉xs.take i) (fun i hi hv ih=>?_) (fun hv=>WP.fin fun J=>?_) 0 (Nat.zero_le _) (by simp)
    · by_cases he:a=xs[i]
      · refine WP.fin fun J=>?_
        rw [j4]
        have hm:a∈xs:=he▸List.getElem_mem hi
        have hix:xs.idxOf a=i:=by
          have e1:xs=xs.take i++xs[i]::xs.drop (i+1):=by rw [List.getElem_cons_drop hi,List.take_append_drop]
          rw [e1,List.idxOf_append,if_neg hv,he,List.idxOf_cons_self,List.length_take]
          omega
        unfold JS
        rw [if_pos hm,hix]
        simp (disch:=first | omega | assumption) only [aH,bc,bf,aY,bC,cR,dE,dF,fZ]
      · refine WP.go _ (ih (by
          rw [← List.take_append_getElem hi]
          simp only [List.mem_append,List.mem_singleton,not_or]
          exact ⟨hv,he⟩)) fun J hJ=>?_
        rw [j4]
        simp (disch:=first | omega | assumption) only [aH,bc,bf,aY,bC,cR,dE,dF,ej,df]
        exact hJ
    · rw [j4]
      rw [List.take_length] at hv
      unfold JS
      rw [if_neg hv]
      simp (disch:=omega) only [bA]
  · rw [yx]
    exact hJ
theorem HK (g:Bool) (xs:List Int) (a:Int) (hb:xs.length < 4611686018427387904):Cm 86 [.sl (some g) 1 xs.length (ints xs),.int .i64 a] (.bool (decide (a∈xs)),[.undef,.undef]):=by
  refine Cm.fin vZ fun J=>?_
  rw [v7]
  have:=aW (abC g xs a hb) (by kernel_rfl)
  simp only [this,ao,zy]
  have e:decide (0≤JS xs a)=decide (a∈xs):=by
    unfold JS
    by_cases h:a∈xs<;>simp [h]
  show some (D.bool (decide (0≤JS xs a)),_)=_
  rw [e]
section
variable (t:bE Rz)
theorem SI (g:Bool) (xs:List Int) (a:Int) (n:Nat) (hn:n=xs.length) (hb:xs.length < 4611686018427387904):aL 84 [.sl (some g) 1 n (ints xs),.int .i64 a] t=feed t [.bool (decide (a∈xs))]:=by subst hn; exact aW (SG g xs a hb) (by kernel_rfl) t
theorem HL (g:Bool) (xs:List Int) (a:Int) (n:Nat) (hn:n=xs.length) (hb:xs.length < 4611686018427387904):aL 86 [.sl (some g) 1 n (ints xs),.int .i64 a] t=feed t [.bool (decide (a∈xs))]:=by subst hn; exact aW (HK g xs a hb) (by kernel_rfl) t
end
theorem YQ (a:Int):Cm 76 [.int .i64 a] (.bool (decide (0≤a∧a≤2)),[.undef]):=by
  refine Cm.fin Mc fun J=>?_
  rw [Md]
  simp only [gg,aE,ao]
theorem P2 (a:Int):Cm 77 [.int .i64 a] (.bool (decide (0≤a∧a≤7)),[.undef]):=by
  refine Cm.fin Me fun J=>?_
  rw [Mf]
  simp only [gg,aE,ao]
theorem WU (a:Int):Cm 115 [.int .i64 a] (.bool (decide (1≤a∧a≤200)),[.undef]):=by
  refine Cm.fin JI fun J=>?_
  rw [JJ]
  simp only [gg,aE,ao]
def lO (a:Int):Int:=if a=0∨a=1 then 1 - a else -1
theorem Rc (a:Int):Cm 149 [.int .i64 a] (.int .i64 (lO a),[.undef]):=by
  refine Cm.fin Q8 fun J=>?_
  rw [Q9]
  unfold lO
  by_cases h0:a=0
  · subst h0; rfl
  · by_cases h1:a=1
    · subst h1; rfl
    · rw [if_neg (by omega)]
      simp (disch:=omega) only [ej]
section
variable (t:bE Rz)
theorem zJ (a:Int):aL 77 [.int .i64 a] t=feed t [.bool (decide (0≤a∧a≤7))]:=aW (P2 a) (by kernel_rfl) t
end
theorem Re (a:Int):Cm 148 [.int .i64 a] (.int .i64 (lO a),[.undef]):=by
  refine Cm.fin Ra fun J=>?_
  rw [Rb]
  simp only [kP,aE,ao]
  unfold lO
  by_cases h0:a=0
  · subst h0; rfl
  · by_cases h1:a=1
    · subst h1; rfl
    · rw [if_neg (by omega),decide_eq_false (by omega)]
      rfl
def v8 (xs:List Int) (i:Nat):Bool:=decide (0≤xs.getD i 0∧xs.getD i 0≤7)&&(decide (i=0)||decide (xs.getD (i - 1) 0 < xs.getD i 0))
def fV (xs:List Int):Bool:=(List.range xs.length).all (v8 xs)
theorem yy {b:Bool} {outs:List D}:(if b=true then ((D.bool true,outs):Rz) else (D.bool false,outs))=(D.bool b,outs):=by cases b<;>rfl
theorem yz (g:Bool) (xs:List Int) (hb:xs.length < 4611686018427387904):Cm 136 [.sl (some g) 1 xs.length (ints xs)] (.bool (fV xs),[.undef]):=by
  rw [← yy]
  refine Cm.go JK [.undef] 0 (j1 g xs.length (ints xs) (0:Nat)) ?_ fun J hJ=>?_
  · refine WP.scan (H:=fun i:Nat=>j1 g xs.length (ints xs) (i:Nat)) (v8 xs) (fun i r hi hp ih=>WP.go _ ih fun J hJ=>?_) (fun i hi hp=>WP.fin fun J=>?_) (WP.fin fun J=>?_)
    · rw [o9]
      unfold v8 at hp
      rw [bW hi] at hp
      simp only [Bool.and_eq_true,decide_eq_true_eq,Bool.or_eq_true] at hp
      by_cases h0:i=0
      · subst h0
        simp (disch:=first | omega | assumption) only [aH,bc,bf,bJ,bY,ay,aY,bA,bC,cR,dE,dF,kP,aE,ao,decide_eq_true hp.1,df]
        exact hJ
      · obtain ⟨k,rfl⟩:∃ k,i=k+1:=⟨i - 1,by omega⟩
        have hk:k < xs.length:=by omega
        have e1:((k+1:Nat):Int) - 1=(k:Int):=by omega
        have RV:xs[k] < xs[k+1]:=by
          have:=hp.2.resolve_left h0
          rwa [Nat.add_sub_cancel,bW hk] at this
        simp (disch:=first | omega | assumption) only [aH,bc,bf,bJ,bY,ay,aY,bC,cR,dE,dF,kP,aE,ao,decide_eq_true hp.1,fI,e1,nc,df]
        exact hJ
    · rw [o9]
      unfold v8 at hp
      rw [bW hi] at hp
      by_cases hc:0≤xs[i]∧xs[i]≤7
      · rw [decide_eq_true hc,Bool.true_and,Bool.or_eq_false_iff,decide_eq_false_iff_not,decide_eq_false_iff_not] at hp
        obtain ⟨k,rfl⟩:∃ k,i=k+1:=⟨i - 1,by omega⟩
        have hk:k < xs.length:=by omega
        have e1:((k+1:Nat):Int) - 1=(k:Int):=by omega
        have RV:xs[k+1]≤xs[k]:=by
          have:=hp.2
          rw [Nat.add_sub_cancel,bW hk] at this
          omega
        simp (disch:=first | omega | assumption) only [aH,bc,bf,bJ,bY,ay,aY,bC,cR,dE,dF,kP,aE,ao,decide_eq_true hc,fI,e1,wW]
      · simp (disch:=first | omega | assumption) only [aH,bc,bf,bJ,bY,ay,aY,bC,cR,dE,dF,kP,aE,ao,decide_eq_false hc]
    · rw [o9]
      simp (disch:=omega) only [ay,bA]
  · rw [JL]
    exact hJ
theorem yA (g:Bool) (xs:List Int) (hb:xs.length < 4611686018427387904):Cm 145 [.sl (some g) 1 xs.length (ints xs)] (.bool (fV xs),[.undef]):=by
  rw [← yy]
  refine Cm.go JM [.undef] 0 (j2 g xs.length (ints xs) xs.length (0:Nat)) ?_ fun J hJ=>?_
  · refine WP.scan (H:=fun i:Nat=>j2 g xs.length (ints xs) xs.length (i:Nat)) (v8 xs) (fun i r hi hp ih=>WP.go _ ih fun J hJ=>?_) (fun i hi hp=>WP.fin fun J=>?_) (WP.fin fun J=>?_)
    · rw [pb]
      unfold v8 at hp
      rw [bW hi] at hp
      simp only [Bool.and_eq_true,decide_eq_true_eq,Bool.or_eq_true] at hp
      by_cases h0:i=0
      · subst h0
        simp (disch:=first | omega | assumption) only [aH,bc,bf,bJ,bY,ay,aY,bA,bC,cR,dE,dF,zJ,aE,ao,decide_eq_true hp.1,df]
        exact hJ
      · obtain ⟨k,rfl⟩:∃ k,i=k+1:=⟨i - 1,by omega⟩
        have hk:k < xs.length:=by omega
        have e1:((k+1:Nat):Int) - 1=(k:Int):=by omega
        have RV:xs[k] < xs[k+1]:=by
          have:=hp.2.resolve_left h0
          rwa [Nat.add_sub_cancel,bW hk] at this
        simp (disch:=first | omega | assumption) only [aH,bc,bf,bJ,bY,ay,aY,bC,cR,dE,dF,zJ,aE,ao,decide_eq_true hp.1,fI,e1,nc,df]
        exact hJ
    · rw [pb]
      unfold v8 at hp
      rw [bW hi] at hp
      by_cases hc:0≤xs[i]∧xs[i]≤7
      · rw [decide_eq_true hc,Bool.true_and,Bool.or_eq_false_iff,decide_eq_false_iff_not,decide_eq_false_iff_not] at hp
        obtain ⟨k,rfl⟩:∃ k,i=k+1:=⟨i - 1,by omega⟩
        have hk:k < xs.length:=by omega
        have e1:((k+1:Nat):Int) - 1=(k:Int):=by omega
        have RV:xs[k+1]≤xs[k]:=by
          have:=hp.2
          rw [Nat.add_sub_cancel,bW hk] at this
          omega
        simp (disch:=first | omega | assumption) only [aH,bc,bf,bJ,bY,ay,aY,bC,cR,dE,dF,zJ,aE,ao,decide_eq_true hc,fI,e1,wW]
      · simp (disch:=first | omega | assumption) only [aH,bc,bf,bJ,bY,ay,aY,bC,cR,dE,dF,zJ,aE,ao,decide_eq_false hc]
    · rw [pb]
      simp (disch:=omega) only [bA]
  · rw [JN]
    exact hJ
end Go.Proofs.YtockoilcnmljiaaGreat
namespace Go.Proofs.YtockoilcnmljiaaGreat
set_option maxRecDepth 100000
section
variable (pr:dA) (cv:Cv Rz) (J:Nat→St→Option Rz)
def kY (i0:Int) (g1:Bool) (n2:Nat) (c3:List D) (g4:Bool) (n5:Nat) (c6:List D) (b7:Bool) (b8:Bool) (b9:Bool) (i10:Int):St:=(St.mk [(1,(.ptr 1 [] 0)),(3,(.int .i64 i0))] [(1,[(.sl (some g1) 1 n2 c3),(.sl (some g4) 1 n5 c6),(.bool b7),(.bool b8),(.bool b9),(.int .i64 i10)])] [] 0)
theorem Mm:Told cfg Tryz.prog 100 Tryz.f100:=⟨by kernel_rfl,Tryz.func100,by kernel_rfl⟩
theorem Mn (g0:Bool) (n0:Nat) (c0:List D) (g1:Bool) (n1:Nat) (c1:List D) (a2:Bool) (a3:Bool) (a4:Bool) (a5:Int):aO pr cv J 100 Tryz.f100 [(.agg [(.sl (some g0) 1 n0 c0),(.sl (some g1) 1 n1 c1),(.bool a2),(.bool a3),(.bool a4),(.int .i64 a5)])]=
    (J 0 (kY 0 g0 n0 c0 g1 n1 c1 a2 a3 a4 a5)):=by kernel_rfl
theorem p8 (i0:Int) (g1:Bool) (n2:Nat) (c3:List D) (g4:Bool) (n5:Nat) (c6:List D) (b7:Bool) (b8:Bool) (b9:Bool) (i10:Int):bF pr cv J 100 Tryz.f100 [.undef] 0 (kY i0 g1 n2 c3 g4 n5 c6 b7 b8 b9 i10)=
    let y1:Option (D × List D):=(some ((.bool false),[.undef]))
    (br (pr.lt i0 (pr.aX n5)) (br (pr.bz i0 n5) (br (br (pr.bG 1 c6 (pr.idx 0 i0 1)) true false) (cv 136 [(.sl (some (pr.bD c6 (pr.idx 0 i0 1))) 1 (pr.aZ c6 (pr.idx 0 i0 1)) (pr.ba c6 (pr.idx 0 i0 1)))] (.bool (fun bR=>(.done (br (br bR false true) y1 (J 0 (kY (pr.ar .add .i64 i0 1) g1 n2 c3 g4 n5 c6 b7 b8 b9 i10))))))) none) none) (cv 137 [(.sl (some g1) 1 n2 c3)] (.bool (fun eP=>(.done (br eP (br (pr.lt 0 (pr.aX n2)) (br (pr.eq (pr.aX n5) 3) (cv 69 [(.int .i64 i10),(.int .i64 0),(.int .i64 200)] (.bool (fun iC=>(.done (br iC (br b8 (some ((.bool (br b9 false true)),[.undef])) (some ((.bool true),[.undef]))) y1))))) y1) y1) y1)))))):=by kernel_rfl
theorem Mo:Told cfg Tryz.prog 111 Tryz.f111:=⟨by kernel_rfl,Tryz.func111,by kernel_rfl⟩
theorem Mp (g0:Bool) (n0:Nat) (c0:List D) (g1:Bool) (n1:Nat) (c1:List D) (a2:Bool) (a3:Bool) (a4:Bool) (a5:Int):aO pr cv J 111 Tryz.f111 [(.agg [(.sl (some g0) 1 n0 c0),(.sl (some g1) 1 n1 c1),(.bool a2),(.bool a3),(.bool a4),(.int .i64 a5)])]=
    let y1:Option (D × List D):=(some ((.bool false),[.undef]))
    (cv 142 [(.sl (some g0) 1 n0 c0)] (.bool (fun bR=>(.done (br bR (br (pr.lt 0 (pr.aX n0)) (cv 112 [(.sl (some g1) 1 n1 c1)] (.bool (fun eP=>(.done (br eP (cv 75 [(.int .i64 a5),(.int .i64 0),(.int .i64 200)] (.bool (fun iC=>(.done (br iC (br a3 (some ((.bool (br a4 false true)),[.undef])) (some ((.bool true),[.undef]))) y1))))) y1))))) y1) y1))))):=by kernel_rfl
def jn (i0:Int) (g1:Bool) (n2:Nat) (c3:List D) (g4:Bool) (n5:Nat) (c6:List D) (b7:Bool) (b8:Bool) (b9:Bool) (i10:Int) (g11:Bool) (fL:Nat) (gu:List D) (g14:Bool) (wY:Nat) (Lg:List D) (rD:Bool) (b18:Bool) (b19:Bool) (i20:Int):St:=(St.mk [(2,(.ptr 2 [] 0)),(3,(.ptr 3 [] 0)),(5,(.int .i64 i0))] [(2,[(.sl (some g1) 1 n2 c3),(.sl (some g4) 1 n5 c6),(.bool b7),(.bool b8),(.bool b9),(.int .i64 i10)]),(3,[(.sl (some g11) 1 fL gu),(.sl (some g14) 1 wY Lg),(.bool rD),(.bool b18),(.bool b19),(.int .i64 i20)])] [] 0)
theorem w6:Told cfg Tryz.prog 103 Tryz.f103:=⟨by kernel_rfl,Tryz.func103,by kernel_rfl⟩
theorem w7 (g0:Bool) (n0:Nat) (c0:List D) (g1:Bool) (n1:Nat) (c1:List D) (a2:Bool) (a3:Bool) (a4:Bool) (a5:Int) (g6:Bool) (n6:Nat) (c6:List D) (g7:Bool) (n7:Nat) (c7:List D) (a8:Bool) (a9:Bool) (a10:Bool) (a11:Int):aO pr cv J 103 Tryz.f103 [(.agg [(.sl (some g0) 1 n0 c0),(.sl (some g1) 1 n1 c1),(.bool a2),(.bool a3),(.bool a4),(.int .i64 a5)]),(.agg [(.sl (some g6) 1 n6 c6),(.sl (some g7) 1 n7 c7),(.bool a8),(.bool a9),(.bool a10),(.int .i64 a11)])]=
    let y1:Option (D × List D):=(some ((.bool false),[.undef,.undef]))
    (br (br (pr.eq (pr.aX n1) (pr.aX n7)) false true) y1 (cv 90 [(.sl (some g0) 1 n0 c0),(.sl (some g6) 1 n6 c6)] (.bool (fun bR=>(.done (br (br bR false true) y1 (br (br (pr.beq a2 a8) false true) y1 (br (br (pr.beq a3 a9) false true) y1 (br (br (pr.beq a4 a10) false true) y1 (br (br (pr.eq a5 a11) false true) y1 (J 0 (jn 0 g0 n0 c0 g1 n1 c1 a2 a3 a4 a5 g6 n6 c6 g7 n7 c7 a8 a9 a10 a11)))))))))))):=by kernel_rfl
theorem oB (i0:Int) (g1:Bool) (n2:Nat) (c3:List D) (g4:Bool) (n5:Nat) (c6:List D) (b7:Bool) (b8:Bool) (b9:Bool) (i10:Int) (g11:Bool) (fL:Nat) (gu:List D) (g14:Bool) (wY:Nat) (Lg:List D) (rD:Bool) (b18:Bool) (b19:Bool) (i20:Int):bF pr cv J 103 Tryz.f103 [.undef,.undef] 0 (jn i0 g1 n2 c3 g4 n5 c6 b7 b8 b9 i10 g11 fL gu g14 wY Lg rD b18 b19 i20)=
    (br (pr.lt i0 (pr.aX n5)) (br (pr.bz i0 n5) (br (br (pr.bG 1 c6 (pr.idx 0 i0 1)) true false) (br (pr.bz i0 wY) (br (br (pr.bG 1 Lg (pr.idx 0 i0 1)) true false) (cv 90 [(.sl (some (pr.bD c6 (pr.idx 0 i0 1))) 1 (pr.aZ c6 (pr.idx 0 i0 1)) (pr.ba c6 (pr.idx 0 i0 1))),(.sl (some (pr.bD Lg (pr.idx 0 i0 1))) 1 (pr.aZ Lg (pr.idx 0 i0 1)) (pr.ba Lg (pr.idx 0 i0 1)))] (.bool (fun bR=>(.done (br (br bR false true) (some ((.bool false),[.undef,.undef])) (J 0 (jn (pr.ar .add .i64 i0 1) g1 n2 c3 g4 n5 c6 b7 b8 b9 i10 g11 fL gu g14 wY Lg rD b18 b19 i20))))))) none) none) none) none) (some ((.bool true),[.undef,.undef]))):=by kernel_rfl
theorem HM:Told cfg Tryz.prog 114 Tryz.f114:=⟨by kernel_rfl,Tryz.func114,by kernel_rfl⟩
theorem HN (g0:Bool) (n0:Nat) (c0:List D) (g1:Bool) (n1:Nat) (c1:List D) (a2:Bool) (a3:Bool) (a4:Bool) (a5:Int) (g6:Bool) (n6:Nat) (c6:List D) (g7:Bool) (n7:Nat) (c7:List D) (a8:Bool) (a9:Bool) (a10:Bool) (a11:Int):aO pr cv J 114 Tryz.f114 [(.agg [(.sl (some g0) 1 n0 c0),(.sl (some g1) 1 n1 c1),(.bool a2),(.bool a3),(.bool a4),(.int .i64 a5)]),(.agg [(.sl (some g6) 1 n6 c6),(.sl (some g7) 1 n7 c7),(.bool a8),(.bool a9),(.bool a10),(.int .i64 a11)])]=
    let y1:Option (D × List D):=(some ((.bool false),[.undef,.undef]))
    (cv 94 [(.sl (some g0) 1 n0 c0),(.sl (some g6) 1 n6 c6)] (.bool (fun bR=>(.done (br bR (cv 147 [(.sl (some g1) 1 n1 c1),(.sl (some g7) 1 n7 c7),(.fn 94 [])] (.bool (fun eP=>(.done (br eP (br (pr.beq a2 a8) (br (pr.beq a3 a9) (br (pr.beq a4 a10) (some ((.bool (pr.eq a5 a11)),[.undef,.undef])) y1) y1) y1) y1))))) y1))))):=by kernel_rfl
end
theorem WP.find {f:FuncId} {fn:Func} {sk:List D} {j:Nat} {H:Nat→St} {n:Nat} (p:Nat→Bool) {bad:Nat→Rz} {zx:Rz} (Gr:∀ i r,i < n→p i=false→WP f fn sk j (H (i+1)) r→WP f fn sk j (H i) r) (YN:∀ i,i < n→p i=true→WP f fn sk j (H i) (bad i)) (YO:WP f fn sk j (H n) zx):WP f fn sk j (H 0) (match (List.range n).find? p with | some i=>bad i | none=>zx):=by
  have key:∀ k i,i+k=n→WP f fn sk j (H i) (match ((List.range n).drop i).find? p with | some i=>bad i | none=>zx):=by
    intro k
    induction k with
    | zero=>
      intro i hi
      obtain rfl:i=n:=by omega
      rw [List.drop_of_length_le (by simp)]
      exact YO
    | succ k ih=>
      intro i hi
      have cX:i < (List.range n).length:=by simp; omega
      rw [← List.getElem_cons_drop cX,List.getElem_range,List.find?_cons]
      cases hp:p i with
      | false=>exact Gr i _ (by omega) hp (ih (i+1) (by omega))
      | true=>exact YN i (by omega) hp
  exact key n 0 (by omega)
theorem YR {n:Nat} (p:Nat→Bool) (k:Nat→Int) (hk:∀ i,0≤k i):decide (0≤(match (List.range n).find? p with | some i=>k i | none=>-1))=!((List.range n).all fun i=>!p i):=by
  cases h:(List.range n).find? p with
  | none=>
    rw [List.find?_eq_none] at h
    have:((List.range n).all fun i=>!p i)=true:=by
      rw [List.all_eq_true]
      intro x hx
      simpa using h x hx
    rw [this]
    rfl
  | some i=>
    have h1:=List.mem_of_find?_eq_some h
    have h2:=List.find?_some h
    have:((List.range n).all fun i=>!p i)=false:=by
      rw [List.all_eq_false]
      exact ⟨i,h1,by simp [h2]⟩
    rw [this]
    simp [hk i]
theorem Cd {a b:Bool} {outs:List D}:(if a=true then ((D.bool b,outs):Rz) else (D.bool false,outs))=(D.bool (a&&b),outs):=by cases a<;>rfl
theorem Di (n:Nat):ad.pV (n:Int) 0=n:=by simp [ad]
theorem HO:ad.jk 0=0:=rfl
theorem HP (n:Nat):Nat.mul n 1=n:=Nat.mul_one n
theorem HQ (n:Nat):Nat.mul 0 n=0:=Nat.zero_mul n
theorem tW (xs:List Int) (i:Nat):List.take i (ints xs)=ints (xs.take i):=by simp [ints,List.map_take]
def zK (xs:List Int) (i:Nat):Bool:=decide (1≤xs.getD i 0∧xs.getD i 0≤100000)&&!decide (xs.getD i 0∈xs.take i)
def jI (xs:List Int):Bool:=(List.range xs.length).all (zK xs)&&decide ((xs.length:Int)≤12)
theorem z8 (g:Bool) (xs:List Int) (hb:xs.length < 4611686018427387904):Cm 137 [.sl (some g) 1 xs.length (ints xs)] (.bool (jI xs),[.undef]):=by
  unfold jI
  rw [← Cd]
  refine Cm.go Mg [.undef] 0 (kW g xs.length (ints xs) (0:Nat)) ?_ fun J hJ=>?_
  · refine WP.scan (H:=fun i:Nat=>kW g xs.length (ints xs) (i:Nat)) (zK xs) (fun i r hi hp ih=>WP.go _ ih fun J hJ=>?_) (fun i hi hp=>WP.fin fun J=>?_) (WP.fin fun J=>?_)
    · rw [pZ]
      unfold zK at hp
      rw [bW hi,Bool.and_eq_true,decide_eq_true_eq,Bool.not_eq_true',decide_eq_false_iff_not] at hp
      simp (disch:=first | omega | assumption | (simp; omega)) only [aH,bc,bf,bJ,bY,ay,aY,GU,bC,cR,dE,dF,kP,aE,ao,decide_eq_true hp.1,Di,HO,HP,HQ,List.drop_zero,tW,SI,decide_eq_false hp.2,df]
      exact hJ
    · rw [pZ]
      unfold zK at hp
      rw [bW hi] at hp
      by_cases hc:1≤xs[i]∧xs[i]≤100000
      · rw [decide_eq_true hc,Bool.true_and,Bool.not_eq_false',decide_eq_true_eq] at hp
        simp (disch:=first | omega | assumption | (simp; omega)) only [aH,bc,bf,bJ,bY,ay,aY,GU,bC,cR,dE,dF,kP,aE,ao,decide_eq_true hc,Di,HO,HP,HQ,List.drop_zero,tW,SI,decide_eq_true hp]
      · simp (disch:=first | omega | assumption) only [aH,bc,bf,bJ,bY,ay,aY,bC,cR,dE,dF,kP,aE,ao,decide_eq_false hc]
    · rw [pZ]
      simp (disch:=omega) only [ay,bA,zy]
  · rw [Mh]
    exact hJ
theorem Aa (g:Bool) (xs:List Int) (hb:xs.length < 4611686018427387904):Cm 142 [.sl (some g) 1 xs.length (ints xs)] (.bool (jI xs),[.undef]):=by
  unfold jI
  rw [← Cd]
  refine Cm.go Mi [.undef] 0 (kX g xs.length (ints xs) xs.length (0:Nat)) ?_ fun J hJ=>?_
  · refine WP.scan (H:=fun i:Nat=>kX g xs.length (ints xs) xs.length (i:Nat)) (zK xs) (fun i r hi hp ih=>WP.go _ ih fun J hJ=>?_) (fun i hi hp=>WP.fin fun J=>?_) (WP.fin fun J=>?_)
    · rw [p7]
      unfold zK at hp
      rw [bW hi,Bool.and_eq_true,decide_eq_true_eq,Bool.not_eq_true',decide_eq_false_iff_not] at hp
      simp (disch:=first | omega | assumption | (simp; omega)) only [aH,bc,bf,bJ,bY,ay,aY,GU,bC,cR,dE,dF,gg,aE,ao,decide_eq_true hp.1,Di,HO,HP,HQ,List.drop_zero,tW,HL,decide_eq_false hp.2,df]
      exact hJ
    · rw [p7]
      unfold zK at hp
      rw [bW hi] at hp
      by_cases hc:1≤xs[i]∧xs[i]≤100000
      · rw [decide_eq_true hc,Bool.true_and,Bool.not_eq_false',decide_eq_true_eq] at hp
        simp (disch:=first | omega | assumption | (simp; omega)) only [aH,bc,bf,bJ,bY,ay,aY,GU,bC,cR,dE,dF,gg,aE,ao,decide_eq_true hc,Di,HO,HP,HQ,List.drop_zero,tW,HL,decide_eq_true hp]
      · simp (disch:=first | omega | assumption) only [aH,bc,bf,bJ,bY,ay,aY,bC,cR,dE,dF,gg,aE,ao,decide_eq_false hc]
    · rw [p7]
      simp (disch:=omega) only [ay,bA,zy]
  · rw [Mj]
    exact hJ
def pH (xs:List Int) (i:Nat):Bool:=decide (0≤xs.getD i 0∧xs.getD i 0≤200)
def j6 (xs:List Int):Bool:=(List.range xs.length).all (pH xs)&&decide ((xs.length:Int)=8)
theorem JT (g:Bool) (xs:List Int) (hb:xs.length < 4611686018427387904):Cm 99 [.sl (some g) 1 xs.length (ints xs)] (.bool (j6 xs),[.undef]):=by
  unfold j6
  rw [← Cd]
  refine Cm.go JO [.undef] 0 (j3 g xs.length (ints xs) (0:Nat)) ?_ fun J hJ=>?_
  · refine WP.scan (H:=fun i:Nat=>j3 g xs.length (ints xs) (i:Nat)) (pH xs) (fun i r hi hp ih=>WP.go _ ih fun J hJ=>?_) (fun i hi hp=>WP.fin fun J=>?_) (WP.fin fun J=>?_)
    · rw [pc]
      unfold pH at hp
      rw [bW hi] at hp
      simp (disch:=first | omega | assumption) only [aH,bc,bf,bJ,bY,ay,aY,bC,cR,dE,dF,kP,aE,ao,hp,df]
      exact hJ
    · rw [pc]
      unfold pH at hp
      rw [bW hi] at hp
      simp (disch:=first | omega | assumption) only [aH,bc,bf,bJ,bY,ay,aY,bC,cR,dE,dF,kP,aE,ao,hp]
    · rw [pc]
      simp (disch:=omega) only [ay,bA,Bz]
      rfl
  · rw [JP]
    exact hJ
theorem Rf (a:Int):Cm 141 [.int .i64 a] (.bool (!decide (0≤a∧a≤200)),[.undef]):=by
  refine Cm.fin E8 fun J=>?_
  rw [E9]
  simp only [gg,aE,ao,bJ]
theorem Ed (a:Int) (t:bE Rz):aL 141 [.int .i64 a] t=feed t [.bool (!decide (0≤a∧a≤200))]:=aW (Rf a) (by kernel_rfl) t
def w8 (n:Nat) (p:Nat→Bool):Int:=match (List.range n).find? (fun i=>!p i) with | some i=>(i:Int) | none=>-1
theorem P3 (n:Nat) (p:Nat→Bool):decide (0≤w8 n p)=!(List.range n).all p:=by
  unfold w8
  rw [YR _ _ (fun i=>Int.natCast_nonneg i)]
  simp
theorem P4 (g:Bool) (xs:List Int) (hb:xs.length < 4611686018427387904):Cm 150 [.sl (some g) 1 xs.length (ints xs),.fn 141 []] (.int .i64 (w8 xs.length (pH xs)),[.undef,.undef]):=by
  have e:((.int .i64 (w8 xs.length (pH xs)),[.undef,.undef]):Rz)=(match (List.range xs.length).find? (fun i=>!pH xs i) with | some i=>((.int .i64 (i:Int),[.undef,.undef]):Rz) | none=>(.int .i64 (-1),[.undef,.undef])):=by
    unfold w8
    split<;>rfl
  rw [e]
  refine Cm.go rz [.undef,.undef] 0 (ea g xs.length (ints xs) xs.length (0:Nat)) ?_ fun J hJ=>?_
  · refine WP.find (H:=fun i:Nat=>ea g xs.length (ints xs) xs.length (i:Nat)) _ (fun i r hi hp ih=>WP.go _ ih fun J hJ=>?_) (fun i hi hp=>WP.fin fun J=>?_) (WP.fin fun J=>?_)
    · rw [gh]
      unfold pH at hp
      rw [bW hi] at hp
      simp (disch:=first | omega | assumption) only [aH,bc,bf,bJ,bY,ay,aY,bC,cR,dE,dF,Ed,aE,ao,hp,df]
      exact hJ
    · rw [gh]
      unfold pH at hp
      rw [bW hi] at hp
      simp (disch:=first | omega | assumption) only [aH,bc,bf,bJ,ay,aY,bC,cR,dE,dF,Ed,aE,ao,hp]
    · rw [gh]
      simp (disch:=omega) only [ay,bA]
  · rw [rA]
    exact hJ
theorem HR (g:Bool) (xs:List Int) (hb:xs.length < 4611686018427387904):Cm 124 [.sl (some g) 1 xs.length (ints xs),.fn 141 []] (.bool (!(List.range xs.length).all (pH xs)),[.undef,.undef]):=by
  refine Cm.fin pD fun J=>?_
  rw [pE]
  have:=aW (P4 g xs hb) (by kernel_rfl)
  simp only [this,ao,zy]
  rw [← P3]
  rfl
theorem JU (g:Bool) (xs:List Int) (hb:xs.length < 4611686018427387904):Cm 110 [.sl (some g) 1 xs.length (ints xs)] (.bool (j6 xs),[.undef]):=by
  refine Cm.fin JQ fun J=>?_
  rw [JR]
  have:=aW (HR g xs hb) (by kernel_rfl)
  unfold j6
  by_cases h:(xs.length:Int)=8
  · simp (disch:=first | omega | assumption) only [ay,fZ,this,bJ]
    rw [decide_eq_true h,Bool.and_true]
    show some (D.bool (!!_),_)=_
    rw [Bool.not_not]
  · simp (disch:=first | omega | assumption) only [ay,ej]
    rw [decide_eq_false h,Bool.and_false]
section
variable (t:bE Rz)
theorem Mq (g:Bool) (xs:List Int) (n:Nat) (hn:n=xs.length) (hb:xs.length < 4611686018427387904):aL 137 [.sl (some g) 1 n (ints xs)] t=feed t [.bool (jI xs)]:=by subst hn; exact aW (z8 g xs hb) (by kernel_rfl) t
theorem Mr (g:Bool) (xs:List Int) (n:Nat) (hn:n=xs.length) (hb:xs.length < 4611686018427387904):aL 142 [.sl (some g) 1 n (ints xs)] t=feed t [.bool (jI xs)]:=by subst hn; exact aW (Aa g xs hb) (by kernel_rfl) t
theorem yB (g:Bool) (xs:List Int) (n:Nat) (hn:n=xs.length) (hb:xs.length < 4611686018427387904):aL 136 [.sl (some g) 1 n (ints xs)] t=feed t [.bool (fV xs)]:=by subst hn; exact aW (yz g xs hb) (by kernel_rfl) t
theorem JV (g:Bool) (xs:List Int) (n:Nat) (hn:n=xs.length) (hb:xs.length < 4611686018427387904):aL 145 [.sl (some g) 1 n (ints xs)] t=feed t [.bool (fV xs)]:=by subst hn; exact aW (yA g xs hb) (by kernel_rfl) t
end
end Go.Proofs.YtockoilcnmljiaaGreat
namespace Go.Proofs.YtockoilcnmljiaaGreat
set_option maxRecDepth 100000
section
variable (pr:dA) (cv:Cv Rz) (J:Nat→St→Option Rz)
def dH (g0:Bool) (n1:Nat) (c2:List D) (g3:Bool) (n4:Nat) (c5:List D) (i6:Int) (i7:Int):St:=(St.mk [(1,(.sl (some g0) 1 n1 c2)),(2,(.fn 94 [])),(15,(.sl (some g3) 1 n4 c5)),(16,(.int .i64 i6)),(17,(.int .i64 i7))] [] [] 0)
theorem jF:Told cfg Tryz.prog 147 Tryz.f147:=⟨by kernel_rfl,Tryz.func147,by kernel_rfl⟩
theorem jG (g0:Bool) (n0:Nat) (c0:List D) (g1:Bool) (n1:Nat) (c1:List D):aO pr cv J 147 Tryz.f147 [(.sl (some g0) 1 n0 c0),(.sl (some g1) 1 n1 c1),(.fn 94 [])]=
    (br (br (pr.eq (pr.aX n0) (pr.aX n1)) false true) (some ((.bool false),[.undef,.undef,.undef])) (J 0 (dH g1 n1 c1 g0 n0 c0 (pr.aX n0) 0))):=by kernel_rfl
theorem fD (g0:Bool) (n1:Nat) (c2:List D) (g3:Bool) (n4:Nat) (c5:List D) (i6:Int) (i7:Int):bF pr cv J 147 Tryz.f147 [.undef,.undef,.undef] 0 (dH g0 n1 c2 g3 n4 c5 i6 i7)=
    (br (pr.lt i7 i6) (br (pr.bz i7 n4) (br (br (pr.bG 1 c5 (pr.idx 0 i7 1)) true false) (br (pr.bz i7 n1) (br (br (pr.bG 1 c2 (pr.idx 0 i7 1)) true false) (cv 94 [(.sl (some (pr.bD c5 (pr.idx 0 i7 1))) 1 (pr.aZ c5 (pr.idx 0 i7 1)) (pr.ba c5 (pr.idx 0 i7 1))),(.sl (some (pr.bD c2 (pr.idx 0 i7 1))) 1 (pr.aZ c2 (pr.idx 0 i7 1)) (pr.ba c2 (pr.idx 0 i7 1)))] (.bool (fun bR=>(.done (br (br bR false true) (some ((.bool false),[.undef,.undef,.undef])) (J 0 (dH g0 n1 c2 g3 n4 c5 i6 (pr.ar .add .i64 i7 1)))))))) none) none) none) none) (some ((.bool true),[.undef,.undef,.undef]))):=by kernel_rfl
theorem Rg:Told cfg Tryz.prog 167 Tryz.f167:=⟨by kernel_rfl,Tryz.func167,by kernel_rfl⟩
theorem Rh (a0:Int):aO pr cv J 167 Tryz.f167 [(.int .i64 a0)]=
    (br (br (pr.lt 8 0) false true) (br (br (pr.lt 16 0) false true) (br (br (pr.lt 24 0) false true) (some ((.sl none 1 4 [(.int .u8 (pr.wrap .u8 a0)),(.int .u8 (pr.wrap .u8 (pr.ar .shr .i64 a0 8))),(.int .u8 (pr.wrap .u8 (pr.ar .shr .i64 a0 16))),(.int .u8 (pr.wrap .u8 (pr.ar .shr .i64 a0 24)))]),[.undef])) none) none) none):=by kernel_rfl
end
theorem all_eq {α:Type} [DecidableEq α] (d:α):∀ (xs ys:List α),xs.length=ys.length→((List.range xs.length).all fun i=>decide (xs.getD i d=ys.getD i d))=decide (xs=ys):=by
  intro xs ys hl
  rw [Bool.eq_iff_iff,List.all_eq_true,decide_eq_true_eq]
  constructor
  · intro h
    apply List.ext_getElem hl
    intro i hi oc
    have:=h i (List.mem_range.2 hi)
    rwa [decide_eq_true_eq,bW hi,bW oc] at this
  · intro h
    subst h
    intro i _
    simp
theorem Uf {α:Type} [DecidableEq α] (d:α) (xs ys:List α):(((List.range (min xs.length ys.length)).all fun i=>decide (xs.getD i d=ys.getD i d))&&decide ((xs.length:Int)=(ys.length:Int)))=decide (xs=ys):=by
  by_cases h:xs.length=ys.length
  · rw [← h,Nat.min_self,all_eq d xs ys h]
    simp
  · have:xs≠ys:=fun e=>h (e▸rfl)
    have h':¬ (xs.length:Int)=(ys.length:Int):=by omega
    rw [decide_eq_false h',decide_eq_false this,Bool.and_false]
theorem P5 (g h:Bool) (xs ys:List Int) (hx:xs.length < 4611686018427387904) (hy:ys.length < 4611686018427387904):Cm 90 [.sl (some g) 1 xs.length (ints xs),.sl (some h) 1 ys.length (ints ys)] (.bool (decide (xs=ys)),[.undef,.undef]):=by
  rw [← Uf 0,← Cd]
  refine Cm.go Ma [.undef,.undef] 0 (kV g xs.length (ints xs) h ys.length (ints ys) (0:Nat)) ?_ fun J hJ=>?_
  · refine WP.scan (H:=fun i:Nat=>kV g xs.length (ints xs) h ys.length (ints ys) (i:Nat)) _ (fun i r hi hp ih=>WP.go _ ih fun J hJ=>?_) (fun i hi hp=>WP.fin fun J=>?_) (WP.fin fun J=>?_)
    · rw [pY]
      have h1:i < xs.length:=by omega
      have h2:i < ys.length:=by omega
      rw [bW h1,bW h2,decide_eq_true_eq] at hp
      simp (disch:=first | omega | assumption) only [aH,bc,bf,bJ,bY,ay,aY,bC,cR,dE,dF,fZ,df]
      exact hJ
    · rw [pY]
      have h1:i < xs.length:=by omega
      have h2:i < ys.length:=by omega
      rw [bW h1,bW h2,decide_eq_false_iff_not] at hp
      simp (disch:=first | omega | assumption) only [aH,bc,bf,bJ,bY,ay,aY,bC,cR,dE,dF,ej]
    · rw [pY]
      by_cases h1:min xs.length ys.length < xs.length
      · simp (disch:=omega) only [ay,aY,bA,Bz]
        rfl
      · simp (disch:=omega) only [ay,bA,Bz]
        rfl
  · rw [Mb]
    exact hJ
theorem SJ (g h:Bool) (xs ys:List Int) (hx:xs.length < 4611686018427387904) (hy:ys.length < 4611686018427387904):Cm 94 [.sl (some g) 1 xs.length (ints xs),.sl (some h) 1 ys.length (ints ys)] (.bool (decide (xs=ys)),[.undef,.undef]):=by
  by_cases hl:xs.length=ys.length
  · rw [← all_eq 0 xs ys hl,← yy]
    refine Cm.go qy [.undef,.undef] 0 (fN g xs.length (ints xs) h ys.length (ints ys) xs.length (0:Nat)) ?_ fun J hJ=>?_
    · refine WP.scan (H:=fun i:Nat=>fN g xs.length (ints xs) h ys.length (ints ys) xs.length (i:Nat)) _ (fun i r hi hp ih=>WP.go _ ih fun J hJ=>?_) (fun i hi hp=>WP.fin fun J=>?_) (WP.fin fun J=>?_)
      · rw [j5]
        have h2:i < ys.length:=by omega
        rw [bW hi,bW h2,decide_eq_true_eq] at hp
        simp (disch:=first | omega | assumption) only [aH,bc,bf,bJ,bY,ay,aY,bC,cR,dE,dF,fZ,df]
        exact hJ
      · rw [j5]
        have h2:i < ys.length:=by omega
        rw [bW hi,bW h2,decide_eq_false_iff_not] at hp
        simp (disch:=first | omega | assumption) only [aH,bc,bf,bJ,bY,ay,aY,bC,cR,dE,dF,ej]
      · rw [j5]
        simp (disch:=omega) only [ay,bA]
    · rw [qz]
      simp (disch:=omega) only [ay,fZ,bJ,bY,aH,bc]
      exact hJ
  · have dc:xs≠ys:=fun e=>hl (e▸rfl)
    refine Cm.fin qy fun J=>?_
    rw [qz,decide_eq_false dc]
    simp (disch:=omega) only [ay,ej,bJ,bY,aH,bc]
section
variable (t:bE Rz)
theorem zL (g h:Bool) (xs ys:List Int) (n k:Nat) (hn:n=xs.length) (hk:k=ys.length) (hx:xs.length < 4611686018427387904) (hy:ys.length < 4611686018427387904):aL 90 [.sl (some g) 1 n (ints xs),.sl (some h) 1 k (ints ys)] t=feed t [.bool (decide (xs=ys))]:=by subst hn hk; exact aW (P5 g h xs ys hx hy) (by kernel_rfl) t
theorem JW (g h:Bool) (xs ys:List Int) (n k:Nat) (hn:n=xs.length) (hk:k=ys.length) (hx:xs.length < 4611686018427387904) (hy:ys.length < 4611686018427387904):aL 94 [.sl (some g) 1 n (ints xs),.sl (some h) 1 k (ints ys)] t=feed t [.bool (decide (xs=ys))]:=by subst hn hk; exact aW (SJ g h xs ys hx hy) (by kernel_rfl) t
end
theorem Ri (g h:Bool) (xs ys:List (List Int)) (hx:rU xs) (hy:rU ys):Cm 147 [sR (some g) xs,sR (some h) ys,.fn 94 []] (.bool (decide (xs=ys)),[.undef,.undef,.undef]):=by
  by_cases hl:xs.length=ys.length
  · rw [← all_eq [] xs ys hl,← yy]
    refine Cm.go jF [.undef,.undef,.undef] 0 (dH h ys.length (rows (some h) ys) g xs.length (rows (some g) xs) xs.length (0:Nat)) ?_ fun J hJ=>?_
    · refine WP.scan (H:=fun i:Nat=>dH h ys.length (rows (some h) ys) g xs.length (rows (some g) xs) xs.length (i:Nat)) _ (fun i r hi hp ih=>WP.go _ ih fun J hJ=>?_) (fun i hi hp=>WP.fin fun J=>?_) (WP.fin fun J=>?_)
      · have b1:=hx.1
        have h2:i < ys.length:=by omega
        have b2:=hx.2 _ (List.getElem_mem hi)
        have b3:=hy.2 _ (List.getElem_mem h2)
        rw [fD]
        rw [bW hi,bW h2] at hp
        simp (disch:=first | omega | assumption) only [aH,bc,bf,bJ,bY,ay,aY,bC,cR,iF,iG,ic,iH,JW,aE,ao,hp,df]
        exact hJ
      · have b1:=hx.1
        have h2:i < ys.length:=by omega
        have b2:=hx.2 _ (List.getElem_mem hi)
        have b3:=hy.2 _ (List.getElem_mem h2)
        rw [fD]
        rw [bW hi,bW h2] at hp
        simp (disch:=first | omega | assumption) only [aH,bc,bf,bJ,bY,ay,aY,bC,cR,iF,iG,ic,iH,JW,aE,ao,hp]
      · rw [fD]
        simp (disch:=omega) only [ay,bA]
    · rw [jG]
      simp (disch:=omega) only [ay,fZ,bJ,bY,aH,bc]
      exact hJ
  · have dc:xs≠ys:=fun e=>hl (e▸rfl)
    refine Cm.fin jF fun J=>?_
    rw [jG,decide_eq_false dc]
    simp (disch:=omega) only [ay,ej,bJ,bY,aH,bc]
def nz (xss:List (List Int)) (i:Nat):Bool:=fV (xss.getD i [])
def hD (xss:List (List Int)):Bool:=(List.range xss.length).all (nz xss)
theorem P6 (g:Bool) (xs:List Int) (hb:xs.length < 4611686018427387904):Cm 144 [.sl (some g) 1 xs.length (ints xs)] (.bool (!fV xs),[.undef]):=by
  refine Cm.fin Dp fun J=>?_
  rw [Dq]
  simp (disch:=first | rfl | assumption) only [JV,aE,ao,bJ]
theorem Ce (g:Bool) (xs:List Int) (n:Nat) (hn:n=xs.length) (hb:xs.length < 4611686018427387904) (t:bE Rz):aL 144 [.sl (some g) 1 n (ints xs)] t=feed t [.bool (!fV xs)]:=by subst hn; exact aW (P6 g xs hb) (by kernel_rfl) t
theorem P7 (g:Bool) (xss:List (List Int)) (hb:rU xss):Cm 153 [sR (some g) xss,.fn 144 []] (.int .i64 (w8 xss.length (nz xss)),[.undef,.undef]):=by
  have e:((.int .i64 (w8 xss.length (nz xss)),[.undef,.undef]):Rz)=(match (List.range xss.length).find? (fun i=>!nz xss i) with | some i=>((.int .i64 (i:Int),[.undef,.undef]):Rz) | none=>(.int .i64 (-1),[.undef,.undef])):=by
    unfold w8
    cases (List.range xss.length).find? (fun i=>!nz xss i)<;>rfl
  rw [e]
  have b1:=hb.1
  refine Cm.go rB [.undef,.undef] 0 (eb g xss.length (rows (some g) xss) xss.length (0:Nat)) ?_ fun J hJ=>?_
  · refine WP.find (H:=fun i:Nat=>eb g xss.length (rows (some g) xss) xss.length (i:Nat)) _ (fun i r hi hp ih=>WP.go _ ih fun J hJ=>?_) (fun i hi hp=>WP.fin fun J=>?_) (WP.fin fun J=>?_)
    · have b2:=hb.2 _ (List.getElem_mem hi)
      rw [gi]
      unfold nz at hp
      rw [bW hi] at hp
      simp (disch:=first | omega | assumption) only [aH,bc,bf,bJ,ay,aY,bC,cR,iF,iG,ic,iH,Ce,aE,ao,hp,df]
      exact hJ
    · have b2:=hb.2 _ (List.getElem_mem hi)
      rw [gi]
      unfold nz at hp
      rw [bW hi] at hp
      simp (disch:=first | omega | assumption) only [aH,bc,bf,bJ,ay,aY,bC,cR,iF,iG,ic,iH,Ce,aE,ao,hp]
    · rw [gi]
      simp (disch:=omega) only [ay,bA]
  · rw [rC]
    exact hJ
theorem HS (g:Bool) (xss:List (List Int)) (hb:rU xss):Cm 143 [sR (some g) xss,.fn 144 []] (.bool (!hD xss),[.undef,.undef]):=by
  refine Cm.fin pF fun J=>?_
  rw [pG]
  have:=aW (P7 g xss hb) (by kernel_rfl)
  simp only [this,ao,zy]
  unfold hD
  rw [← P3]
  rfl
theorem HT (g:Bool) (xss:List (List Int)) (hb:rU xss):Cm 112 [sR (some g) xss] (.bool (((xss.length:Int)==3)&&hD xss),[.undef]):=by
  refine Cm.fin HI fun J=>?_
  rw [HJ]
  have:=aW (HS g xss hb) (by kernel_rfl)
  simp only [this,ay,Bz]
  cases (xss.length:Int)==3 with
  | true=>
    show some (D.bool (br (!hD xss) false true),_)=_
    rw [bJ,Bool.not_not]
    rfl
  | false=>rfl
def gW (m:aK):Bool:=hD m.bits&&(jI m.aA&&(decide (0 < (m.aA.length:Int))&&(((m.bits.length:Int)==3)&&(decide (0≤m.last∧m.last≤200)&&!(m.bO&&m.held)))))
theorem Ab (g:Bool) (m:aK) (hb:cO m):Cm 100 [.agg (bX (some g) m)] (.bool (gW m),[.undef]):=by
  unfold gW
  rw [← Cd]
  have b0:=hb.aA
  have b1:=hb.bits.1
  refine Cm.go Mm [.undef] 0 (kY (0:Nat) g m.aA.length (ints m.aA) g m.bits.length (rows (some g) m.bits) m.cK m.bO m.held m.last) ?_ fun J hJ=>?_
  · refine WP.scan (H:=fun i:Nat=>kY (i:Nat) g m.aA.length (ints m.aA) g m.bits.length (rows (some g) m.bits) m.cK m.bO m.held m.last) (nz m.bits) (fun i r hi hp ih=>WP.go _ ih fun J hJ=>?_) (fun i hi hp=>WP.fin fun J=>?_) (WP.fin fun J=>?_)
    · have b2:=hb.bits.2 _ (List.getElem_mem hi)
      rw [p8]
      unfold nz at hp
      rw [bW hi] at hp
      simp (disch:=first | omega | assumption) only [aH,bc,bf,bJ,bY,ay,aY,bC,cR,iF,iG,ic,iH,yB,aE,ao,hp,df]
      exact hJ
    · have b2:=hb.bits.2 _ (List.getElem_mem hi)
      rw [p8]
      unfold nz at hp
      rw [bW hi] at hp
      simp (disch:=first | omega | assumption) only [aH,bc,bf,bJ,bY,ay,aY,bC,cR,iF,iG,ic,iH,yB,aE,ao,hp]
    · rw [p8]
      simp (disch:=first | omega | assumption) only [ay,bA,Mq,aE,ao,kP]
      simp only [T6,Bz]
      generalize jI m.aA=a
      generalize decide (0 < (m.aA.length:Int))=b
      generalize ((m.bits.length:Int)==3)=c
      generalize decide (0≤m.last∧m.last≤200)=d
      generalize m.bO=e
      generalize m.held=f
      cases a<;>cases b<;>cases c<;>cases d<;>cases e<;>cases f<;>rfl
  · rw [Mn]
    exact hJ
theorem Ac (g:Bool) (m:aK) (hb:cO m):Cm 111 [.agg (bX (some g) m)] (.bool (gW m),[.undef]):=by
  have b0:=hb.aA
  have hm:=aW (HT g m.bits hb.bits) (by kernel_rfl)
  refine Cm.fin Mo fun J=>?_
  rw [Mp]
  simp (disch:=first | omega | assumption) only [ay,Mr,hm,aE,ao,gg,T6]
  unfold gW
  generalize jI m.aA=a
  generalize decide (0 < (m.aA.length:Int))=b
  generalize ((m.bits.length:Int)==3)=c
  generalize decide (0≤m.last∧m.last≤200)=d
  generalize m.bO=e
  generalize m.held=f
  generalize hD m.bits=k
  show (br a (br b (br (c&&k) _ _) _) _)=_
  cases a<;>cases b<;>cases c<;>cases d<;>cases e<;>cases f<;>cases k<;>rfl
section
variable (t:bE Rz)
theorem Ad (g:Bool) (m:aK) (hb:cO m):aL 100 [.agg (bX (some g) m)] t=feed t [.bool (gW m)]:=aW (Ab g m hb) (by kernel_rfl) t
theorem Ae (g:Bool) (m:aK) (hb:cO m):aL 111 [.agg (bX (some g) m)] t=feed t [.bool (gW m)]:=aW (Ac g m hb) (by kernel_rfl) t
end
def lP (m k:aK):Bool:=decide (m.aA=k.aA)&&(decide (m.bits=k.bits)&&((m.cK==k.cK)&&((m.bO==k.bO)&&((m.held==k.held)&&(m.last==k.last)))))
theorem HU (g h:Bool) (m k:aK) (hm:cO m) (hk:cO k):Cm 114 [.agg (bX (some g) m),.agg (bX (some h) k)] (.bool (lP m k),[.undef,.undef]):=by
  have b0:=hm.aA
  have b1:=hk.aA
  have he:=aW (Ri g h m.bits k.bits hm.bits hk.bits) (by kernel_rfl)
  refine Cm.fin HM fun J=>?_
  rw [HN]
  simp (disch:=first | omega | assumption) only [JW,he,aE,ao,uR,Bz]
  unfold lP
  generalize decide (m.aA=k.aA)=a
  generalize decide (m.bits=k.bits)=b
  generalize (m.cK==k.cK)=c
  generalize (m.bO==k.bO)=d
  generalize (m.held==k.held)=e
  generalize (m.last==k.last)=f
  show (br a (br b _ _) _)=_
  cases a<;>cases b<;>cases c<;>cases d<;>cases e<;>cases f<;>rfl
theorem HV (g h:Bool) (m k:aK) (hm:cO m) (hk:cO k):Cm 103 [.agg (bX (some g) m),.agg (bX (some h) k)] (.bool (lP m k),[.undef,.undef]):=by
  have b0:=hm.aA
  have b1:=hk.aA
  have b2:=hm.bits.1
  have fin:lP m k=false→(m.bits.length=k.bits.length→(decide (m.aA=k.aA)&&((m.cK==k.cK)&&((m.bO==k.bO)&&((m.held==k.held)&&(m.last==k.last)))))=false)→Cm 103 [.agg (bX (some g) m),.agg (bX (some h) k)] (.bool (lP m k),[.undef,.undef]):=by
    intro hs hq
    rw [hs]
    refine Cm.fin w6 fun J=>?_
    rw [w7]
    by_cases hl:m.bits.length=k.bits.length
    · have hq:=hq hl
      simp (disch:=first | omega | assumption) only [zL,aE,ao,uR,ay,fZ,bJ,bY,aH,bc]
      simp only [Bz]
      revert hq
      generalize decide (m.aA=k.aA)=a
      generalize (m.cK==k.cK)=c
      generalize (m.bO==k.bO)=d
      generalize (m.held==k.held)=e
      generalize (m.last==k.last)=f
      cases a<;>cases c<;>cases d<;>cases e<;>cases f<;>first | (intro _; rfl) | (intro hq; exact absurd hq (by decide))
    · simp (disch:=first | omega | assumption) only [ay,ej,bJ,bY,aH,bc]
  by_cases hl:m.bits.length=k.bits.length
  · cases hq:(decide (m.aA=k.aA)&&((m.cK==k.cK)&&((m.bO==k.bO)&&((m.held==k.held)&&(m.last==k.last))))) with
    | false=>
      refine fin ?_ fun _=>hq
      revert hq
      unfold lP
      generalize decide (m.aA=k.aA)=a
      generalize decide (m.bits=k.bits)=b
      generalize ((m.cK==k.cK)&&((m.bO==k.bO)&&((m.held==k.held)&&(m.last==k.last))))=c
      cases a<;>cases b<;>cases c<;>simp
    | true=>
      have hs:lP m k=decide (m.bits=k.bits):=by
        revert hq
        unfold lP
        generalize decide (m.aA=k.aA)=a
        generalize decide (m.bits=k.bits)=b
        generalize ((m.cK==k.cK)&&((m.bO==k.bO)&&((m.held==k.held)&&(m.last==k.last))))=c
        cases a<;>cases b<;>cases c<;>simp
      simp only [Bool.and_eq_true] at hq
      rw [hs,← all_eq [] _ _ hl,← yy]
      refine Cm.go w6 [.undef,.undef] 0 (jn (0:Nat) g m.aA.length (ints m.aA) g m.bits.length (rows (some g) m.bits) m.cK m.bO m.held m.last h k.aA.length (ints k.aA) h k.bits.length (rows (some h) k.bits) k.cK k.bO k.held k.last) ?_ fun J hJ=>?_
      · refine WP.scan (H:=fun i:Nat=>jn (i:Nat) g m.aA.length (ints m.aA) g m.bits.length (rows (some g) m.bits) m.cK m.bO m.held m.last h k.aA.length (ints k.aA) h k.bits.length (rows (some h) k.bits) k.cK k.bO k.held k.last) _ (fun i r hi hp ih=>WP.go _ ih fun J hJ=>?_) (fun i hi hp=>WP.fin fun J=>?_) (WP.fin fun J=>?_)
        · have h2:i < k.bits.length:=by omega
          have b3:=hm.bits.2 _ (List.getElem_mem hi)
          have b4:=hk.bits.2 _ (List.getElem_mem h2)
          rw [oB]
          rw [bW hi,bW h2] at hp
          simp (disch:=first | omega | assumption) only [aH,bc,bf,bJ,bY,ay,aY,bC,cR,iF,iG,ic,iH,zL,aE,ao,hp,df]
          exact hJ
        · have h2:i < k.bits.length:=by omega
          have b3:=hm.bits.2 _ (List.getElem_mem hi)
          have b4:=hk.bits.2 _ (List.getElem_mem h2)
          rw [oB]
          rw [bW hi,bW h2] at hp
          simp (disch:=first | omega | assumption) only [aH,bc,bf,bJ,bY,ay,aY,bC,cR,iF,iG,ic,iH,zL,aE,ao,hp]
        · rw [oB]
          simp (disch:=omega) only [ay,bA]
      · rw [w7]
        simp (disch:=first | omega | assumption) only [zL,aE,ao,uR,ay,Bz,hq.1,hq.2.1,hq.2.2.1,hq.2.2.2.1,hq.2.2.2.2,bJ,bY,aH]
        have e1:((m.bits.length:Int)==(k.bits.length:Int))=true:=by simp [hl]
        rw [e1]
        exact hJ
  · refine fin ?_ fun h=>absurd h hl
    have:m.bits≠k.bits:=fun e=>hl (e▸rfl)
    unfold lP
    rw [decide_eq_false this,Bool.false_and,Bool.and_false]
end Go.Proofs.YtockoilcnmljiaaGreat
namespace Go.Proofs.YtockoilcnmljiaaGreat
set_option maxRecDepth 100000
section
variable (pr:dA) (cv:Cv Rz) (J:Nat→St→Option Rz)
def kZ (i0:Int) (n1:Nat) (c2:List D):St:=(St.mk [(0,(.int .i64 i0)),(3,(.ref 10003 [] 0 none))] [(10003,[(.sl none 1 n1 c2)])] [] 0)
theorem Af:Told cfg Tryz.prog 163 Tryz.f163:=⟨by kernel_rfl,Tryz.func163,by kernel_rfl⟩
theorem Ag (a0:Int):aO pr cv J 163 Tryz.f163 [(.int .i64 a0)]=
    (cv 69 [(.int .i64 a0),(.int .i64 0),(.int .i64 2147483647)] (.bool (fun bR=>(.done (br (br bR false true) (some ((.sl none 1 0 []),[.undef])) (J 0 (kZ a0 0 []))))))):=by kernel_rfl
theorem wa (i0:Int) (n1:Nat) (c2:List D):bF pr cv J 163 Tryz.f163 [.undef] 0 (kZ i0 n1 c2)=
    let y1:List D:=[(.int .u8 (pr.wrap .u8 (pr.ar .add .i64 (pr.ar .rem .i64 i0 128) 128)))]
    (br (pr.lt 127 i0) (br (br (pr.eq 128 0) false true) (br (br (pr.flat y1) (pr.fits (n1+1) 1) false) (br (br (pr.eq 128 0) false true) (J 0 (kZ (pr.ar .quo .i64 i0 128) (n1+1) (List.append c2 y1))) none) none) none) (br (br (pr.flat [(.int .u8 (pr.wrap .u8 i0))]) (pr.fits (n1+1) 1) false) (some ((.sl none 1 (n1+1) (List.append c2 [(.int .u8 (pr.wrap .u8 i0))])),[.undef])) none)):=by kernel_rfl
def la (i0:Int) (n1:Nat) (c2:List D):St:=(St.mk [(0,(.int .i64 i0)),(3,(.ref 10003 [] 0 none))] [(10003,[(.sl none 1 n1 c2)])] [] 0)
theorem Ah:Told cfg Tryz.prog 172 Tryz.f172:=⟨by kernel_rfl,Tryz.func172,by kernel_rfl⟩
theorem Ai (a0:Int):aO pr cv J 172 Tryz.f172 [(.int .i64 a0)]=
    let y1:Option (D × List D):=(some ((.sl none 1 0 []),[.undef]))
    (br (pr.lt a0 0) y1 (br (pr.lt 2147483647 a0) y1 (J 0 (la a0 0 [])))):=by kernel_rfl
theorem wb (i0:Int) (n1:Nat) (c2:List D):bF pr cv J 172 Tryz.f172 [.undef] 0 (la i0 n1 c2)=
    let y1:List D:=[(.int .u8 (pr.wrap .u8 (pr.ar .add .i64 (pr.ar .rem .i64 i0 128) 128)))]
    (br (pr.lt 127 i0) (br (br (pr.eq 128 0) false true) (br (br (pr.flat y1) (pr.fits (Nat.succ n1) 1) false) (br (br (pr.eq 128 0) false true) (J 0 (la (pr.ar .quo .i64 i0 128) (Nat.succ n1) (List.append c2 y1))) none) none) none) (br (br (pr.flat [(.int .u8 (pr.wrap .u8 i0))]) (pr.fits (Nat.succ n1) 1) false) (some ((.sl none 1 (Nat.succ n1) (List.append c2 [(.int .u8 (pr.wrap .u8 i0))])),[.undef])) none)):=by kernel_rfl
def ld (g0:Bool) (n1:Nat) (c2:List D) (i3:Int) (i4:Int) (i5:Int):St:=(St.mk [(0,(.sl (some g0) 1 n1 c2)),(1,(.int .i64 i3)),(7,(.int .i64 i4)),(8,(.int .i64 i5))] [] [] 0)
theorem Aj:Told cfg Tryz.prog 162 Tryz.f162:=⟨by kernel_rfl,Tryz.func162,by kernel_rfl⟩
theorem Ak (g0:Bool) (n0:Nat) (c0:List D) (a1:Int):aO pr cv J 162 Tryz.f162 [(.sl (some g0) 1 n0 c0),(.int .i64 a1)]=
    (J 0 (ld g0 n0 c0 a1 0 0)):=by kernel_rfl
theorem j7 (g0:Bool) (n1:Nat) (c2:List D) (i3:Int) (i4:Int) (i5:Int):bF pr cv J 162 Tryz.f162 [.undef,.undef] 0 (ld g0 n1 c2 i3 i4 i5)=
    let y1:Option (D × List D):=(some ((.aP [(.int .i64 0),(.int .i64 0),(.bool false)]),[.undef,.undef]))
    let y2:Int:=(pr.wrap .i64 (pr.bm c2 (pr.idx 0 (pr.ar .add .i64 i3 i5) 1)))
    let y3:Int:=(pr.ar .or .i64 i4 (pr.ar .shl .i64 (pr.ar .rem .i64 y2 128) (pr.ar .mul .i64 7 i5)))
    let y4:D:=(.int .i64 y3)
    let y5:Option (D × List D):=(br (pr.lt 2147483647 y3) y1 (some ((.aP [y4,(.int .i64 (pr.ar .add .i64 (pr.ar .add .i64 i3 i5) 1)),(.bool true)]),[.undef,.undef])))
    (br (pr.lt i5 5) (br (pr.lt i3 0) y1 (br (pr.le (pr.ar .sub .i64 (pr.aX n1) i5) i3) y1 (br (pr.bz (pr.ar .add .i64 i3 i5) n1) (br (br (pr.cg .u8 c2 (pr.idx 0 (pr.ar .add .i64 i3 i5) 1)) true false) (br (br (pr.eq 128 0) false true) (br (br (pr.lt (pr.ar .mul .i64 7 i5) 0) false true) (br (pr.lt y2 128) (br (pr.lt 0 i5) (br (pr.eq y2 0) y1 y5) y5) (J 0 (ld g0 n1 c2 i3 y3 (pr.ar .add .i64 i5 1)))) none) none) none) none))) y1):=by kernel_rfl
def nJ (g0:Bool) (n1:Nat) (c2:List D) (i3:Int) (i4:Int) (i5:Int) (i6:Int):St:=(St.mk [(0,(.sl (some g0) 1 n1 c2)),(1,(.int .i64 i3)),(7,(.int .i64 i4)),(8,(.int .i64 i5)),(9,(.int .i64 i6))] [] [] 0)
theorem Al:Told cfg Tryz.prog 168 Tryz.f168:=⟨by kernel_rfl,Tryz.func168,by kernel_rfl⟩
theorem Am (g0:Bool) (n0:Nat) (c0:List D) (a1:Int):aO pr cv J 168 Tryz.f168 [(.sl (some g0) 1 n0 c0),(.int .i64 a1)]=
    (br (pr.lt a1 0) (some ((.aP [(.int .i64 0),(.int .i64 0),(.bool false)]),[.undef,.undef])) (J 0 (nJ g0 n0 c0 a1 0 1 0))):=by kernel_rfl
theorem mQ (g0:Bool) (n1:Nat) (c2:List D) (i3:Int) (i4:Int) (i5:Int) (i6:Int):bF pr cv J 168 Tryz.f168 [.undef,.undef] 0 (nJ g0 n1 c2 i3 i4 i5 i6)=
    let y1:Int:=(pr.wrap .i64 (pr.bm c2 (pr.idx 0 (pr.ar .add .i64 i3 i6) 1)))
    let y2:Int:=(pr.ar .add .i64 i4 (pr.ar .mul .i64 (pr.ar .rem .i64 y1 128) i5))
    let y3:Option (D × List D):=(some ((.aP [(.int .i64 0),(.int .i64 0),(.bool false)]),[.undef,.undef]))
    let y4:D:=(.int .i64 y2)
    let y5:Option (D × List D):=(some ((.aP [y4,(.int .i64 (pr.ar .add .i64 (pr.ar .add .i64 i3 i6) 1)),(.bool true)]),[.undef,.undef]))
    (br (pr.lt i6 5) (br (pr.lt i3 (pr.ar .sub .i64 (pr.aX n1) i6)) (br (pr.bz (pr.ar .add .i64 i3 i6) n1) (br (br (pr.cg .u8 c2 (pr.idx 0 (pr.ar .add .i64 i3 i6) 1)) true false) (br (br (pr.eq 128 0) false true) (br (pr.le 128 y1) (J 0 (nJ g0 n1 c2 i3 y2 (pr.ar .mul .i64 i5 128) (pr.ar .add .i64 i6 1))) (br (pr.lt 2147483647 y2) y3 (br (pr.eq y1 0) (br (pr.lt 0 i6) y3 y5) y5))) none) none) none) y3) y3):=by kernel_rfl
theorem P8:Told cfg Tryz.prog 158 Tryz.f158:=⟨by kernel_rfl,Tryz.func158,by kernel_rfl⟩
theorem P9 (a0:Int):aO pr cv J 158 Tryz.f158 [(.int .i64 a0)]=
    (br (br (pr.lt 8 0) false true) (br (br (pr.lt 16 0) false true) (br (br (pr.lt 24 0) false true) (some ((.sl none 1 4 [(.int .u8 (pr.wrap .u8 (pr.ar .and .i64 a0 255))),(.int .u8 (pr.wrap .u8 (pr.ar .and .i64 (pr.ar .shr .i64 a0 8) 255))),(.int .u8 (pr.wrap .u8 (pr.ar .and .i64 (pr.ar .shr .i64 a0 16) 255))),(.int .u8 (pr.wrap .u8 (pr.ar .and .i64 (pr.ar .shr .i64 a0 24) 255)))]),[.undef])) none) none) none):=by kernel_rfl
end
theorem WV {a b:Nat} (h:a < 9223372036854775808):ad.ar .quo .i64 (a:Int) (b:Int)=((a / b:Nat):Int):=by
  have e:(a:Int).tdiv (b:Int)=((a / b:Nat):Int):=rfl
  have:=Nat.div_le_self a b
  show IntKind.i64.wrap ((a:Int).tdiv (b:Int))=_
  rw [e]
  generalize a / b=q at this
  rw [wrap64 (by omega) (by omega)]
theorem tX {a b:Nat} (h:a+b < 9223372036854775808):ad.ar .add .i64 (a:Int) (b:Int)=((a+b:Nat):Int):=by
  rw [zB (by omega) (by omega)]
  omega
theorem Qa {a b:Nat} (h:a*b < 9223372036854775808):ad.ar .mul .i64 (a:Int) (b:Int)=((a*b:Nat):Int):=by
  have e:(a:Int)*(b:Int)=((a*b:Nat):Int):=by simp
  show IntKind.i64.wrap ((a:Int)*(b:Int))=_
  rw [e,wrap64 (by omega) (by omega)]
theorem Lh {a:Nat} (h:a < 9223372036854775808):ad.wrap .i64 (a:Int)=(a:Int):=wrap64 (by omega) (by omega)
theorem Ny {a b:Nat} (ha:a < 4611686018427387904) (hb:b < 4611686018427387904):ad.ar .or .i64 (a:Int) (b:Int)=((a||| b:Nat):Int):=by
  show IntKind.i64.wrap ((BitVec.ofInt 64 (a:Int)||| BitVec.ofInt 64 (b:Int)).toNat:Int)=_
  have h:(a||| b) < 2 ^ 62:=Nat.or_lt_two_pow (by omega) (by omega)
  have e:(BitVec.ofInt 64 (a:Int)||| BitVec.ofInt 64 (b:Int)).toNat=a||| b:=by
    rw [BitVec.toNat_or,BitVec.ofInt_natCast,BitVec.ofInt_natCast,BitVec.toNat_ofNat,BitVec.toNat_ofNat,Nat.mod_eq_of_lt (by omega),Nat.mod_eq_of_lt (by omega)]
  rw [e,wrap64 (by omega) (by omega)]
theorem ael {a b:Nat} (ha:a < 4611686018427387904) (hb:b < 4611686018427387904):ad.ar .and .i64 (a:Int) (b:Int)=((a&&& b:Nat):Int):=by
  show IntKind.i64.wrap ((BitVec.ofInt 64 (a:Int)&&& BitVec.ofInt 64 (b:Int)).toNat:Int)=_
  have h:(a&&& b)≤b:=Nat.and_le_right
  have e:(BitVec.ofInt 64 (a:Int)&&& BitVec.ofInt 64 (b:Int)).toNat=a&&& b:=by
    rw [BitVec.toNat_and,BitVec.ofInt_natCast,BitVec.ofInt_natCast,BitVec.toNat_ofNat,BitVec.toNat_ofNat,Nat.mod_eq_of_lt (by omega),Nat.mod_eq_of_lt (by omega)]
  rw [e,wrap64 (by omega) (by omega)]
theorem wc {a k:Nat} (hk:k≤64) (h:a*2 ^ k < 9223372036854775808):ad.ar .shl .i64 (a:Int) (k:Int)=((a*2 ^ k:Nat):Int):=by
  show IntKind.i64.wrap ((a:Int)*2 ^ (min ((k:Int).toNat) 64))=_
  have e:min ((k:Int).toNat) 64=k:=by omega
  have e2:(a:Int)*2 ^ k=((a*2 ^ k:Nat):Int):=by simp
  rw [e,e2,wrap64 (by omega) (by omega)]
theorem yC (a:Nat) {k:Nat} (hk:k≤64):ad.ar .shr .i64 (a:Int) (k:Int)=((a / 2 ^ k:Nat):Int):=by
  show (a:Int).fdiv (2 ^ (min ((k:Int).toNat) 64))=_
  have e:min ((k:Int).toNat) 64=k:=by omega
  have e2:((2:Int) ^ k)=((2 ^ k:Nat):Int):=by simp
  rw [e,e2,← Int.ofNat_fdiv]
theorem HW {a x k:Nat} (h:a < 2 ^ k):a||| x*2 ^ k=a+x*2 ^ k:=by
  rw [Nat.or_comm,Nat.mul_comm x,← Nat.two_pow_add_eq_or_of_lt h,Nat.add_comm]
theorem sU (x:Nat):D.int .u8 (ad.wrap .u8 (x:Int))=du (UInt8.ofNat x):=by
  show D.int .u8 (IntKind.u8.wrap (x:Int))=_
  simp only [du,IntKind.wrap,IntKind.bits,IntKind.signed]
  simp
theorem je {R:Type} {x y:R} (xs:List UInt8):br (ad.flat (bytes xs)) x y=x:=by
  have:ad.flat (bytes xs)=true:=by
    show (bytes xs).all gG=true
    rw [List.all_eq_true]
    intro d hd
    obtain ⟨a,_,rfl⟩:=List.mem_map.1 hd
    rfl
  rw [this,aH]
theorem HX (x:UInt8):[du x]=bytes [x]:=rfl
theorem gB (xs ys:List UInt8):List.append (bytes xs) (bytes ys)=bytes (xs++ys):=by simp [bytes]
def gR (n:Nat):List UInt8:=if h:n < 128 then [UInt8.ofNat n] else UInt8.ofNat (n % 128+128)::gR (n / 128)
termination_by n
decreasing_by omega
theorem tf:∀ (k n:Nat),n < 128 ^ (k+1)→(gR n).length≤k+1
  | 0,n,h=>by
    rw [gR,dif_pos (by omega)]
    simp
  | k+1,n,h=>by
    rw [gR]
    split
    · simp
    · have:n / 128 < 128 ^ (k+1):=by
        apply Nat.div_lt_of_lt_mul
        rw [Nat.pow_succ] at h
        omega
      have:=tf k (n / 128) this
      simp only [List.length_cons]
      omega
def dz (a:Int):List UInt8:=if 0≤a∧a≤2147483647 then gR a.toNat else []
theorem fE (a:Int):(dz a).length≤5:=by
  unfold dz
  split
  · exact tf 4 _ (by omega)
  · simp
theorem An:∀ (k n:Nat) (acc:List UInt8),n < 128 ^ (k+1)→n < 2147483648→acc.length+(gR n).length < 1000000→WP 163 Tryz.f163 [.undef] 0 (kZ (n:Int) acc.length (bytes acc)) (.sl none 1 (acc++gR n).length (bytes (acc++gR n)),[.undef])
  | k,n,acc,hk,hn,hl=>by
    by_cases h:n < 128
    · refine WP.fin fun J=>?_
      rw [wa,gR,dif_pos h]
      rw [gR,dif_pos h] at hl
      simp only [List.length_singleton] at hl
      simp (disch:=omega) only [bA,sU,HX,je,eD,aH,gB,bf,Df]
      simp
    · cases k with
      | zero=>omega
      | succ k=>
        have e:acc++gR n=(acc++[UInt8.ofNat (n % 128+128)])++gR (n / 128):=by
          conv=>lhs; rw [gR,dif_neg h]
          simp
        have hlen:(gR n).length=(gR (n / 128)).length+1:=by
          conv=>lhs; rw [gR,dif_neg h]
          simp
        have hd:n / 128 < 128 ^ (k+1):=by
          apply Nat.div_lt_of_lt_mul
          rw [Nat.pow_succ] at hk
          omega
        have ih:=An k (n / 128) (acc++[UInt8.ofNat (n % 128+128)]) hd (by omega) (by simp only [List.length_append,List.length_singleton]; omega)
        rw [e]
        refine WP.go _ ih fun J hJ=>?_
        rw [wa]
        have r1:ad.ar .rem .i64 (n:Int) 128=((n % 128:Nat):Int):=rfl
        have r2:ad.ar .add .i64 ((n % 128:Nat):Int) 128=((n % 128+128:Nat):Int):=tX (b:=128) (by omega)
        have r3:ad.ar .quo .i64 (n:Int) 128=((n / 128:Nat):Int):=WV (b:=128) (by omega)
        simp (disch:=omega) only [aY,ej,bJ,bY,aH,bc,r1,r2,r3,sU,HX,je,eD,gB]
        have e2:(acc++[UInt8.ofNat (n % 128+128)]).length=acc.length+1:=by simp
        rw [e2] at hJ
        exact hJ
theorem Mt (a:Int):Cm 163 [.int .i64 a] (.sl none 1 (dz a).length (bytes (dz a)),[.undef]):=by
  by_cases h:0≤a∧a≤2147483647
  · obtain ⟨n,rfl⟩:∃ n:Nat,a=n:=⟨a.toNat,by omega⟩
    have e:dz (n:Int)=gR n:=by unfold dz; rw [if_pos h]; rfl
    rw [e]
    have hl:=tf 4 n (by omega)
    refine Cm.go Af [.undef] 0 (kZ (n:Int) 0 []) (An 4 n [] (by omega) (by omega) (by simp; omega)) fun J hJ=>?_
    rw [Ag]
    simp only [kP,aE,ao,decide_eq_true h,bJ,bY,aH,bc]
    exact hJ
  · have e:dz a=[]:=by unfold dz; rw [if_neg h]
    rw [e]
    refine Cm.fin Af fun J=>?_
    rw [Ag]
    simp only [kP,aE,ao,decide_eq_false h,bJ,bY,aH,bc]
    rfl
theorem Ao:∀ (k n:Nat) (acc:List UInt8),n < 128 ^ (k+1)→n < 2147483648→acc.length+(gR n).length < 1000000→WP 172 Tryz.f172 [.undef] 0 (la (n:Int) acc.length (bytes acc)) (.sl none 1 (acc++gR n).length (bytes (acc++gR n)),[.undef])
  | k,n,acc,hk,hn,hl=>by
    by_cases h:n < 128
    · refine WP.fin fun J=>?_
      rw [wb,gR,dif_pos h]
      rw [gR,dif_pos h] at hl
      simp only [List.length_singleton] at hl
      simp (disch:=omega) only [bA,sU,HX,je,eD,aH,gB,bf,Df]
      simp
    · cases k with
      | zero=>omega
      | succ k=>
        have e:acc++gR n=(acc++[UInt8.ofNat (n % 128+128)])++gR (n / 128):=by
          conv=>lhs; rw [gR,dif_neg h]
          simp
        have hlen:(gR n).length=(gR (n / 128)).length+1:=by
          conv=>lhs; rw [gR,dif_neg h]
          simp
        have hd:n / 128 < 128 ^ (k+1):=by
          apply Nat.div_lt_of_lt_mul
          rw [Nat.pow_succ] at hk
          omega
        have ih:=Ao k (n / 128) (acc++[UInt8.ofNat (n % 128+128)]) hd (by omega) (by simp only [List.length_append,List.length_singleton]; omega)
        rw [e]
        refine WP.go _ ih fun J hJ=>?_
        rw [wb]
        have r1:ad.ar .rem .i64 (n:Int) 128=((n % 128:Nat):Int):=rfl
        have r2:ad.ar .add .i64 ((n % 128:Nat):Int) 128=((n % 128+128:Nat):Int):=tX (b:=128) (by omega)
        have r3:ad.ar .quo .i64 (n:Int) 128=((n / 128:Nat):Int):=WV (b:=128) (by omega)
        simp (disch:=omega) only [aY,ej,bJ,bY,aH,bc,r1,r2,r3,sU,HX,je,eD,gB]
        have e2:(acc++[UInt8.ofNat (n % 128+128)]).length=acc.length+1:=by simp
        rw [e2] at hJ
        exact hJ
theorem Mu (a:Int):Cm 172 [.int .i64 a] (.sl none 1 (dz a).length (bytes (dz a)),[.undef]):=by
  by_cases h:0≤a∧a≤2147483647
  · obtain ⟨n,rfl⟩:∃ n:Nat,a=n:=⟨a.toNat,by omega⟩
    have e:dz (n:Int)=gR n:=by unfold dz; rw [if_pos h]; rfl
    rw [e]
    have hl:=tf 4 n (by omega)
    refine Cm.go Ah [.undef] 0 (la (n:Int) 0 []) (Ao 4 n [] (by omega) (by omega) (by simp; omega)) fun J hJ=>?_
    rw [Ai]
    simp (disch:=omega) only [bA]
    exact hJ
  · have e:dz a=[]:=by unfold dz; rw [if_neg h]
    rw [e]
    refine Cm.fin Ah fun J=>?_
    rw [Ai]
    by_cases h0:a < 0
    · simp (disch:=omega) only [aY]
      rfl
    · simp (disch:=omega) only [bA,aY]
      rfl
section
variable (t:bE Rz)
theorem ni (a:Int):aL 163 [.int .i64 a] t=feed t [.sl none 1 (dz a).length (bytes (dz a))]:=aW (Mt a) (by kernel_rfl) t
theorem Mv (a:Int):aL 172 [.int .i64 a] t=feed t [.sl none 1 (dz a).length (bytes (dz a))]:=aW (Mu a) (by kernel_rfl) t
end
def rE (a:Nat):List UInt8:=[UInt8.ofNat a,UInt8.ofNat (a / 256),UInt8.ofNat (a / 65536),UInt8.ofNat (a / 16777216)]
theorem aem (a:Nat) (h:a < 4611686018427387904):Cm 167 [.int .i64 (a:Int)] (.sl none 1 4 (bytes (rE a)),[.undef]):=by
  refine Cm.fin Rg fun J=>?_
  rw [Rh]
  have r1:ad.ar .shr .i64 (a:Int) 8=((a / 256:Nat):Int):=yC a (k:=8) (by omega)
  have r2:ad.ar .shr .i64 (a:Int) 16=((a / 65536:Nat):Int):=yC a (k:=16) (by omega)
  have r3:ad.ar .shr .i64 (a:Int) 24=((a / 16777216:Nat):Int):=yC a (k:=24) (by omega)
  simp (disch:=omega) only [bA,bJ,bY,aH,bc,r1,r2,r3,sU]
  rfl
theorem abD (x:Nat):UInt8.ofNat (x&&& 255)=UInt8.ofNat x:=by
  apply UInt8.toNat_inj.1
  have:x&&& 255=x % 256:=Nat.and_two_pow_sub_one_eq_mod x 8
  rw [this]
  simp
theorem abE (a:Nat) (h:a < 4611686018427387904):Cm 158 [.int .i64 (a:Int)] (.sl none 1 4 (bytes (rE a)),[.undef]):=by
  refine Cm.fin P8 fun J=>?_
  rw [P9]
  have r1:ad.ar .shr .i64 (a:Int) 8=((a / 256:Nat):Int):=yC a (k:=8) (by omega)
  have r2:ad.ar .shr .i64 (a:Int) 16=((a / 65536:Nat):Int):=yC a (k:=16) (by omega)
  have r3:ad.ar .shr .i64 (a:Int) 24=((a / 16777216:Nat):Int):=yC a (k:=24) (by omega)
  have q:∀ x:Nat,x < 4611686018427387904→ad.ar .and .i64 (x:Int) 255=((x&&& 255:Nat):Int):=fun x hx=>ael (b:=255) hx (by omega)
  simp (disch:=omega) only [bA,bJ,bY,aH,bc,r1,r2,r3,q,sU,abD]
  rfl
def lQ:Int × Int × Bool:=(0,0,false)
def iL (b:List UInt8) (p:Nat):Nat→Nat→Nat→Int × Int × Bool
  | 0,_,_=>lQ
  | k+1,i,acc=>
    if h:p+i < b.length then
      if 128≤b[p+i].toNat then iL b p k (i+1) (acc+b[p+i].toNat % 128*128 ^ i)
      else if 2147483647 < acc+b[p+i].toNat % 128*128 ^ i∨(b[p+i].toNat=0∧0 < i) then lQ
      else (((acc+b[p+i].toNat % 128*128 ^ i:Nat):Int),((p+i+1:Nat):Int),true)
    else lQ
def hL (b:List UInt8) (a:Int):Int × Int × Bool:=if a < 0 then lQ else iL b a.toNat 5 0 0
abbrev Nz (x:Int × Int × Bool):Rz:=(.aP [.int .i64 x.1,.int .i64 x.2.1,.bool x.2.2],[.undef,.undef])
theorem HY (i:Nat):128 ^ i=2 ^ (7*i):=by rw [Nat.pow_mul]
theorem Ap (g:Bool) (b:List UInt8) (p:Nat) (hb:b.length < 4611686018427387904):∀ (k i acc:Nat),i+k=5→acc < 128 ^ i→WP 168 Tryz.f168 [.undef,.undef] 0 (nJ g b.length (bytes b) (p:Int) (acc:Int) ((128 ^ i:Nat):Int) (i:Int)) (Nz (iL b p k i acc))
  | 0,i,acc,hi,ha=>by
    obtain rfl:i=5:=by omega
    refine WP.fin fun J=>?_
    rw [mQ]
    simp (disch:=omega) only [bA]
    rfl
  | k+1,i,acc,hi,ha=>by
    have hpw:128 ^ i≤268435456:=by
      have:128 ^ i≤128 ^ 4:=Nat.pow_le_pow_right (by omega) (by omega)
      omega
    have hs:ad.ar .sub .i64 (ad.aX b.length) (i:Int)=(b.length:Int) - (i:Int):=fI (by simp only [ay]; omega) (by simp only [ay]; omega)
    by_cases h:p+i < b.length
    · have hd:b[p+i].toNat < 256:=b[p+i].toNat_lt
      have hm:b[p+i].toNat % 128 < 128:=Nat.mod_lt _ (by omega)
      have hx:b[p+i].toNat % 128*128 ^ i≤127*128 ^ i:=Nat.mul_le_mul_right _ (by omega)
      have r0:ad.ar .add .i64 (p:Int) (i:Int)=((p+i:Nat):Int):=tX (by omega)
      have r1:ad.bm (bytes b) (p+i)=(b[p+i].toNat:Int):=x7 h
      have r2:ad.wrap .i64 (b[p+i].toNat:Int)=(b[p+i].toNat:Int):=Lh (by omega)
      have r3:ad.ar .rem .i64 (b[p+i].toNat:Int) 128=((b[p+i].toNat % 128:Nat):Int):=rfl
      have r4:ad.ar .mul .i64 ((b[p+i].toNat % 128:Nat):Int) ((128 ^ i:Nat):Int)=((b[p+i].toNat % 128*128 ^ i:Nat):Int):=Qa (by omega)
      have r5:ad.ar .add .i64 (acc:Int) ((b[p+i].toNat % 128*128 ^ i:Nat):Int)=((acc+b[p+i].toNat % 128*128 ^ i:Nat):Int):=tX (by omega)
      by_cases hc:128≤b[p+i].toNat
      · have e:iL b p (k+1) i acc=iL b p k (i+1) (acc+b[p+i].toNat % 128*128 ^ i):=by
          rw [iL,dif_pos h,if_pos hc]
        rw [e]
        have ih:=Ap g b p hb k (i+1) (acc+b[p+i].toNat % 128*128 ^ i) (by omega) (by rw [Nat.pow_succ]; omega)
        refine WP.go _ ih fun J hJ=>?_
        rw [mQ]
        have r6:ad.ar .mul .i64 ((128 ^ i:Nat):Int) 128=((128 ^ i*128:Nat):Int):=Qa (b:=128) (by omega)
        simp (disch:=first | omega | assumption) only [hs,r0,cR,r1,r2,r3,r4,r5,aY,bC,nt,ej,bf,bJ,bY,aH,bc,wW,r6,df]
        rw [← Nat.pow_succ]
        exact hJ
      · have r7:ad.ar .add .i64 ((p+i:Nat):Int) 1=((p+i+1:Nat):Int):=df (by omega)
        refine WP.fin fun J=>?_
        rw [mQ,iL,dif_pos h,if_neg hc]
        simp (disch:=first | omega | assumption) only [hs,r0,cR,r1,r2,r3,r4,r5,aY,bC,nt,ej,bf,bJ,bY,aH,bc,nc,r7]
        by_cases h1:2147483647 < acc+b[p+i].toNat % 128*128 ^ i
        · rw [if_pos (Or.inl h1),aY (by omega)]
          rfl
        · rw [bA (by omega)]
          by_cases h2:b[p+i].toNat=0
          · rw [fZ (by omega)]
            by_cases h3:0 < i
            · rw [if_pos (Or.inr ⟨h2,h3⟩),aY (by omega)]
              rfl
            · rw [if_neg (by omega),bA (by omega)]
          · rw [if_neg (by omega),ej (by omega)]
    · refine WP.fin fun J=>?_
      rw [mQ,iL,dif_neg h]
      simp (disch:=omega) only [hs,aY,bA]
      rfl
theorem Aq (g:Bool) (b:List UInt8) (p:Nat) (hb:b.length < 4611686018427387904):∀ (k i acc:Nat),i+k=5→acc < 128 ^ i→WP 162 Tryz.f162 [.undef,.undef] 0 (ld g b.length (bytes b) (p:Int) (acc:Int) (i:Int)) (Nz (iL b p k i acc))
  | 0,i,acc,hi,ha=>by
    obtain rfl:i=5:=by omega
    refine WP.fin fun J=>?_
    rw [j7]
    simp (disch:=omega) only [bA]
    rfl
  | k+1,i,acc,hi,ha=>by
    have hpw:128 ^ i≤268435456:=by
      have:128 ^ i≤128 ^ 4:=Nat.pow_le_pow_right (by omega) (by omega)
      omega
    have hs:ad.ar .sub .i64 (ad.aX b.length) (i:Int)=(b.length:Int) - (i:Int):=fI (by simp only [ay]; omega) (by simp only [ay]; omega)
    by_cases h:p+i < b.length
    · have hd:b[p+i].toNat < 256:=b[p+i].toNat_lt
      have hm:b[p+i].toNat % 128 < 128:=Nat.mod_lt _ (by omega)
      have hx:b[p+i].toNat % 128*128 ^ i≤127*128 ^ i:=Nat.mul_le_mul_right _ (by omega)
      have r0:ad.ar .add .i64 (p:Int) (i:Int)=((p+i:Nat):Int):=tX (by omega)
      have r1:ad.bm (bytes b) (p+i)=(b[p+i].toNat:Int):=x7 h
      have r2:ad.wrap .i64 (b[p+i].toNat:Int)=(b[p+i].toNat:Int):=Lh (by omega)
      have r3:ad.ar .rem .i64 (b[p+i].toNat:Int) 128=((b[p+i].toNat % 128:Nat):Int):=rfl
      have r4:ad.ar .mul .i64 7 (i:Int)=((7*i:Nat):Int):=Qa (a:=7) (by omega)
      have r5:ad.ar .shl .i64 ((b[p+i].toNat % 128:Nat):Int) ((7*i:Nat):Int)=((b[p+i].toNat % 128*128 ^ i:Nat):Int):=by
        rw [HY]
        exact wc (by omega) (by rw [← HY]; omega)
      have r6:ad.ar .or .i64 (acc:Int) ((b[p+i].toNat % 128*128 ^ i:Nat):Int)=((acc+b[p+i].toNat % 128*128 ^ i:Nat):Int):=by
        rw [Ny (by omega) (by omega),HY,HW (by rw [← HY]; exact ha)]
      by_cases hc:128≤b[p+i].toNat
      · have e:iL b p (k+1) i acc=iL b p k (i+1) (acc+b[p+i].toNat % 128*128 ^ i):=by
          rw [iL,dif_pos h,if_pos hc]
        rw [e]
        have ih:=Aq g b p hb k (i+1) (acc+b[p+i].toNat % 128*128 ^ i) (by omega) (by rw [Nat.pow_succ]; omega)
        refine WP.go _ ih fun J hJ=>?_
        rw [j7]
        simp (disch:=first | omega | assumption) only [hs,r0,cR,r1,r2,r3,r4,r5,r6,aY,bA,nc,bC,nt,ej,bf,bJ,bY,aH,bc,df]
        exact hJ
      · have r7:ad.ar .add .i64 ((p+i:Nat):Int) 1=((p+i+1:Nat):Int):=df (by omega)
        refine WP.fin fun J=>?_
        rw [j7,iL,dif_pos h,if_neg hc]
        have R5:(b[p+i].toNat:Int) < 128:=by omega
        by_cases h1:2147483647 < acc+b[p+i].toNat % 128*128 ^ i
        · have ph:(2147483647:Int) < ((acc+b[p+i].toNat % 128*128 ^ i:Nat):Int):=by omega
          rw [if_pos (Or.inl h1)]
          simp (disch:=first | omega | assumption) only [hs,r0,cR,r1,r2,r3,r4,r5,r6,aY R5,aY ph,bA,nc,bC,nt,ej,bf,bJ,bY,aH,bc,r7,Df]
          rfl
        · have ph:((acc+b[p+i].toNat % 128*128 ^ i:Nat):Int)≤2147483647:=by omega
          have h0:(i:Int) < 5:=by omega
          by_cases h2:b[p+i].toNat=0
          · have Vo:(b[p+i].toNat:Int)=0:=by omega
            by_cases h3:0 < i
            · have Gs:(0:Int) < (i:Int):=by omega
              rw [if_pos (Or.inr ⟨h2,h3⟩)]
              simp (disch:=first | omega | assumption) only [hs,r0,cR,r1,r2,r3,r4,r5,r6,aY h0,aY R5,aY Gs,fZ Vo,bA,nc,bC,nt,ej,bf,bJ,bY,aH,bc,r7]
              rfl
            · have Gs:(i:Int)≤0:=by omega
              rw [if_neg (by omega)]
              simp (disch:=first | omega | assumption) only [hs,r0,cR,r1,r2,r3,r4,r5,r6,aY h0,aY R5,bA Gs,bA ph,bA,nc,bC,nt,ej,bf,bJ,bY,aH,bc,r7]
          · have Vo:(b[p+i].toNat:Int)≠0:=by omega
            rw [if_neg (by omega)]
            simp (disch:=first | omega | assumption) only [hs,r0,cR,r1,r2,r3,r4,r5,r6,aY h0,aY R5,ej Vo,bA ph,bA,nc,bC,nt,ej,bf,bJ,bY,aH,bc,r7,Df]
    · refine WP.fin fun J=>?_
      rw [j7,iL,dif_neg h]
      simp (disch:=omega) only [hs,aY,bA,wW]
      rfl
theorem Mw (g:Bool) (b:List UInt8) (a:Int) (hb:b.length < 4611686018427387904):Cm 168 [.sl (some g) 1 b.length (bytes b),.int .i64 a] (Nz (hL b a)):=by
  unfold hL
  by_cases h:a < 0
  · rw [if_pos h]
    refine Cm.fin Al fun J=>?_
    rw [Am]
    simp (disch:=omega) only [aY]
    rfl
  · rw [if_neg h]
    obtain ⟨p,rfl⟩:∃ n:Nat,a=n:=⟨a.toNat,by omega⟩
    refine Cm.go Al [.undef,.undef] 0 _ (Ap g b p hb 5 0 0 rfl (by omega)) fun J hJ=>?_
    rw [Am]
    simp (disch:=omega) only [bA]
    exact hJ
theorem Mx (g:Bool) (b:List UInt8) (a:Int) (hb:b.length < 4611686018427387904):Cm 162 [.sl (some g) 1 b.length (bytes b),.int .i64 a] (Nz (hL b a)):=by
  unfold hL
  by_cases h:a < 0
  · rw [if_pos h]
    refine Cm.go Aj [.undef,.undef] 0 (ld g b.length (bytes b) a 0 0) (WP.fin fun J=>?_) fun J hJ=>?_
    · rw [j7]
      simp (disch:=omega) only [aY]
      rfl
    · rw [Ak]
      exact hJ
  · rw [if_neg h]
    obtain ⟨p,rfl⟩:∃ n:Nat,a=n:=⟨a.toNat,by omega⟩
    refine Cm.go Aj [.undef,.undef] 0 _ (Aq g b p hb 5 0 0 rfl (by omega)) fun J hJ=>?_
    rw [Ak]
    exact hJ
section
variable (t:bE Rz)
theorem My (g:Bool) (b:List UInt8) (a:Int) (hb:b.length < 4611686018427387904):aL 168 [.sl (some g) 1 b.length (bytes b),.int .i64 a] t=feed t [.int .i64 (hL b a).1,.int .i64 (hL b a).2.1,.bool (hL b a).2.2]:=aW (Mw g b a hb) (by kernel_rfl) t
theorem Mz (g:Bool) (b:List UInt8) (a:Int) (hb:b.length < 4611686018427387904):aL 162 [.sl (some g) 1 b.length (bytes b),.int .i64 a] t=feed t [.int .i64 (hL b a).1,.int .i64 (hL b a).2.1,.bool (hL b a).2.2]:=aW (Mx g b a hb) (by kernel_rfl) t
end
end Go.Proofs.YtockoilcnmljiaaGreat
namespace Go.Proofs.YtockoilcnmljiaaGreat
set_option maxRecDepth 100000
section
variable (pr:dA) (cv:Cv Rz) (J:Nat→St→Option Rz)
theorem Qb:Told cfg Tryz.prog 156 Tryz.f156:=⟨by kernel_rfl,Tryz.func156,by kernel_rfl⟩
theorem Qc (n0:Nat) (c0:List D) (a1:Int) (a2:Bool):aO pr cv J 156 Tryz.f156 [(.bh [(.sl (some false) 1 n0 c0),(.int .i64 a1),(.bool a2)])]=
    let y1:Option (D × List D):=(some ((.int .i64 0),[(.bh [(.sl (some false) 1 n0 c0),(.int .i64 a1),(.bool false)])]))
    (cv 162 [(.sl (some false) 1 n0 c0),(.int .i64 a1)] (.int (fun dm=>(.int (fun gK=>(.bool (fun iC=>(.done (br (br iC false true) y1 (br (br a2 false true) y1 (some ((.int .i64 dm),[(.bh [(.sl (some false) 1 n0 c0),(.int .i64 gK),(.bool a2)])])))))))))))):=by kernel_rfl
theorem Dr:Told cfg Tryz.prog 165 Tryz.f165:=⟨by kernel_rfl,Tryz.func165,by kernel_rfl⟩
theorem Dt (n0:Nat) (c0:List D) (a1:Int) (a2:Bool):aO pr cv J 165 Tryz.f165 [(.bh [(.sl (some false) 1 n0 c0),(.int .i64 a1),(.bool a2)])]=
    (br (br a2 false true) (some ((.int .i64 0),[(.bh [(.sl (some false) 1 n0 c0),(.int .i64 a1),(.bool a2)])])) (cv 168 [(.sl (some false) 1 n0 c0),(.int .i64 a1)] (.int (fun dm=>(.int (fun gK=>(.bool (fun iC=>(.done (some ((.int .i64 dm),[(.bh [(.sl (some false) 1 n0 c0),(.int .i64 gK),(.bool iC)])]))))))))))):=by kernel_rfl
def nK (i0:Int) (i1:Int) (n2:Nat) (c3:List D) (i4:Int) (b5:Bool) (n6:Nat) (c7:List D):St:=(St.mk [(0,(.ptr 28 [] 0)),(3,(.ref 10003 [] 0 none)),(4,(.int .i64 i0)),(5,(.int .i64 i1))] [(28,[(.sl (some false) 1 n2 c3),(.int .i64 i4),(.bool b5)]),(10003,[(.sl none 1 n6 c7)])] [] 0)
theorem MA:Told cfg Tryz.prog 155 Tryz.f155:=⟨by kernel_rfl,Tryz.func155,by kernel_rfl⟩
theorem MB (n0:Nat) (c0:List D) (a1:Int) (a2:Bool):aO pr cv J 155 Tryz.f155 [(.bh [(.sl (some false) 1 n0 c0),(.int .i64 a1),(.bool a2)])]=
    (br (br (br (pr.nl c0) true false) true false) (cv 156 [(.bh [(.sl (some false) 1 n0 c0),(.int .i64 a1),(.bool a2)])] (.int (fun dm=>(.jO (fun eP=>(fun oW=>(fun iU=>(.int (fun ov=>(.bool (fun rl=>(.done (br (br (br (pr.nl iU) true false) true false) (J 0 (nK dm 0 oW iU ov rl 0 [])) none))))))))))))) none):=by kernel_rfl
theorem p9 (i0:Int) (i1:Int) (n2:Nat) (c3:List D) (i4:Int) (b5:Bool) (n6:Nat) (c7:List D):bF pr cv J 155 Tryz.f155 [(.bh [])] 0 (nK i0 i1 n2 c3 i4 b5 n6 c7)=
    let y1:List D:=[(.bh [(.sl (some false) 1 n2 c3),(.int .i64 i4),(.bool b5)])]
    let y2:Option (D × List D):=(some ((.sl none 1 n6 c7),y1))
    (br (pr.lt i1 i0) (br b5 (br (br (br (pr.nl c3) true false) true false) (cv 156 y1 (.int (fun dm=>(.jO (fun eP=>(fun oW=>(fun iU=>(.int (fun ov=>(.bool (fun rl=>(.done (br (br (br (pr.nl iU) true false) true false) (br (br (pr.flat [(.int .i64 dm)]) (pr.fits (n6+1) 8) false) (J 0 (nK i0 (pr.ar .add .i64 i1 1) oW iU ov rl (n6+1) (List.append c7 [(.int .i64 dm)]))) none) none))))))))))))) none) y2) y2):=by kernel_rfl
def jy (i0:Int) (i1:Int) (n2:Nat) (c3:List D) (i4:Int) (b5:Bool) (n6:Nat) (c7:List D):St:=(St.mk [(0,(.ptr 28 [] 0)),(3,(.ref 10003 [] 0 none)),(4,(.int .i64 i0)),(5,(.int .i64 i1))] [(28,[(.sl (some false) 1 n2 c3),(.int .i64 i4),(.bool b5)]),(10003,[(.sl none 1 n6 c7)])] [] 0)
theorem Cf:Told cfg Tryz.prog 164 Tryz.f164:=⟨by kernel_rfl,Tryz.func164,by kernel_rfl⟩
theorem Cg (n0:Nat) (c0:List D) (a1:Int) (a2:Bool):aO pr cv J 164 Tryz.f164 [(.bh [(.sl (some false) 1 n0 c0),(.int .i64 a1),(.bool a2)])]=
    (br (br (br (pr.nl c0) true false) true false) (cv 165 [(.bh [(.sl (some false) 1 n0 c0),(.int .i64 a1),(.bool a2)])] (.int (fun dm=>(.jO (fun eP=>(fun oW=>(fun iU=>(.int (fun ov=>(.bool (fun rl=>(.done (br (br (br (pr.nl iU) true false) true false) (J 0 (jy dm 0 oW iU ov rl 0 [])) none))))))))))))) none):=by kernel_rfl
theorem mv (i0:Int) (i1:Int) (n2:Nat) (c3:List D) (i4:Int) (b5:Bool) (n6:Nat) (c7:List D):bF pr cv J 164 Tryz.f164 [(.bh [])] 0 (jy i0 i1 n2 c3 i4 b5 n6 c7)=
    let y1:List D:=[(.bh [(.sl (some false) 1 n2 c3),(.int .i64 i4),(.bool b5)])]
    let y2:Option (D × List D):=(some ((.sl none 1 n6 c7),y1))
    (br (pr.lt i1 i0) (br b5 (br (br (br (pr.nl c3) true false) true false) (cv 165 y1 (.int (fun dm=>(.jO (fun eP=>(fun oW=>(fun iU=>(.int (fun ov=>(.bool (fun rl=>(.done (br (br (br (pr.nl iU) true false) true false) (br (br (pr.flat [(.int .i64 dm)]) (pr.fits (n6+1) 8) false) (J 0 (jy i0 (pr.ar .add .i64 i1 1) oW iU ov rl (n6+1) (List.append c7 [(.int .i64 dm)]))) none) none))))))))))))) none) y2) y2):=by kernel_rfl
end
theorem gS {R:Type} (f:Bool→Nat→List D→bE R) (g:Bool) (s n:Nat) (cs l:List D):feed (.jO f) (.sl (some g) s n cs::l)=feed (f g n cs) l:=rfl
theorem HZ (b:List UInt8) (p:Nat):∀ k i acc,0≤(iL b p k i acc).1∧(iL b p k i acc).1≤2147483647
  | 0,_,_=>by simp [iL,lQ]
  | k+1,i,acc=>by
    rw [iL]
    split
    · split
      · exact HZ b p k _ _
      · split
        · simp [lQ]
        · simp only
          omega
    · simp [lQ]
theorem H0 (b:List UInt8) (a:Int):0≤(hL b a).1∧(hL b a).1≤2147483647:=by
  unfold hL
  split
  · simp [lQ]
  · exact HZ b _ _ _ _
theorem Li (b:List UInt8) (p:Nat):∀ k i acc,(iL b p k i acc).2.2=true→(p:Int) < (iL b p k i acc).2.1∧(iL b p k i acc).2.1≤b.length
  | 0,_,_,h=>by simp [iL,lQ] at h
  | k+1,i,acc,h=>by
    rw [iL] at h ⊢
    split at h
    · rename_i h1
      rw [dif_pos h1]
      split at h
      · rename_i h2
        rw [if_pos h2]
        exact Li b p k _ _ h
      · rename_i h2
        rw [if_neg h2]
        split at h
        · simp [lQ] at h
        · rename_i h3
          rw [if_neg h3]
          simp only
          omega
    · simp [lQ] at h
theorem Lj (b:List UInt8) (a:Int) (h:(hL b a).2.2=true):0≤a∧a < (hL b a).2.1∧(hL b a).2.1≤b.length:=by
  unfold hL at h ⊢
  split at h
  · simp [lQ] at h
  · rename_i h1
    rw [if_neg h1]
    have:=Li b a.toNat _ _ _ h
    omega
abbrev xF (b:List UInt8) (c:Int × Bool):D:=.bh [s8 (some false) b,.int .i64 c.1,.bool c.2]
def bN (b:List UInt8) (c:Int × Bool):Int × (Int × Bool):=if (hL b c.1).2.2&&c.2 then ((hL b c.1).1,((hL b c.1).2.1,true)) else (0,(c.1,false))
def bP (b:List UInt8) (c:Int × Bool):Int × (Int × Bool):=if c.2 then ((hL b c.1).1,((hL b c.1).2.1,(hL b c.1).2.2)) else (0,c)
theorem Ug (b:List UInt8) (c:Int × Bool):0≤(bN b c).1∧(bN b c).1≤2147483647:=by
  have:=H0 b c.1
  unfold bN
  split<;>simp [this]
theorem Uh (b:List UInt8) (c:Int × Bool):0≤(bP b c).1∧(bP b c).1≤2147483647:=by
  have:=H0 b c.1
  unfold bP
  split<;>simp [this]
theorem Ui (b:List UInt8) (c:Int × Bool) (hb:b.length < 4611686018427387904):Cm 156 [xF b c] (.int .i64 (bN b c).1,[xF b (bN b c).2]):=by
  obtain ⟨p,k⟩:=c
  refine Cm.fin Qb fun J=>?_
  rw [Qc]
  simp (disch:=assumption) only [Mz,cd,aE,ao]
  unfold bN
  cases (hL b p).2.2<;>cases k<;>rfl
theorem Uj (b:List UInt8) (c:Int × Bool) (hb:b.length < 4611686018427387904):Cm 165 [xF b c] (.int .i64 (bP b c).1,[xF b (bP b c).2]):=by
  obtain ⟨p,k⟩:=c
  refine Cm.fin Dr fun J=>?_
  rw [Dt]
  simp (disch:=assumption) only [My,cd,aE,ao]
  unfold bP
  cases k<;>rfl
section
variable (t:bE Rz)
theorem zM (b:List UInt8) (p:Int) (k:Bool) (hb:b.length < 4611686018427387904):aL 156 [.bh [.sl (some false) 1 b.length (bytes b),.int .i64 p,.bool k]] t=feed t [.int .i64 (bN b (p,k)).1,.sl (some false) 1 b.length (bytes b),.int .i64 (bN b (p,k)).2.1,.bool (bN b (p,k)).2.2]:=aW (Ui b (p,k) hb) (by kernel_rfl) t
theorem zN (b:List UInt8) (p:Int) (k:Bool) (hb:b.length < 4611686018427387904):aL 165 [.bh [.sl (some false) 1 b.length (bytes b),.int .i64 p,.bool k]] t=feed t [.int .i64 (bP b (p,k)).1,.sl (some false) 1 b.length (bytes b),.int .i64 (bP b (p,k)).2.1,.bool (bP b (p,k)).2.2]:=aW (Uj b (p,k) hb) (by kernel_rfl) t
end
def oC (num:List UInt8→Int × Bool→Int × (Int × Bool)) (b:List UInt8):Nat→Int × Bool→List Int→List Int × (Int × Bool)
  | 0,c,out=>(out,c)
  | k+1,c,out=>if c.2 then oC num b k (num b c).2 (out++[(num b c).1]) else (out,c)
def bg (num:List UInt8→Int × Bool→Int × (Int × Bool)) (b:List UInt8) (c:Int × Bool):List Int × (Int × Bool):=oC num b (num b c).1.toNat (num b c).2 []
theorem WW {R:Type} {x y:R} (a:Int):br (ad.flat [.int .i64 a]) x y=x:=rfl
theorem Ll (xs:List Int) (a:Int):List.append (ints xs) [.int .i64 a]=ints (xs++[a]):=by simp [ints]
theorem Ee (b:List UInt8) (hb:b.length < 4611686018427387904) (n:Nat) (hn:n≤2147483647):∀ (k i:Nat) (c:Int × Bool) (out:List Int),i+k=n→out.length≤i→WP 155 Tryz.f155 [.bh []] 0 (nK (n:Int) (i:Int) b.length (bytes b) c.1 c.2 out.length (ints out)) (.sl none 1 (oC bN b k c out).1.length (ints (oC bN b k c out).1),[xF b (oC bN b k c out).2])
  | 0,i,c,out,hi,ho=>by
    refine WP.fin fun J=>?_
    rw [p9]
    simp (disch:=omega) only [bA]
    rfl
  | k+1,i,c,out,hi,ho=>by
    obtain ⟨p,q⟩:=c
    cases q with
    | false=>
      refine WP.fin fun J=>?_
      rw [p9]
      simp (disch:=omega) only [aY,bc]
      rfl
    | true=>
      have e:oC bN b (k+1) (p,true) out=oC bN b k (bN b (p,true)).2 (out++[(bN b (p,true)).1]):=by rw [oC,if_pos rfl]
      rw [e]
      have ih:=Ee b hb n hn k (i+1) (bN b (p,true)).2 (out++[(bN b (p,true)).1]) (by omega) (by simp only [List.length_append,List.length_singleton]; omega)
      refine WP.go _ ih fun J hJ=>?_
      rw [p9]
      simp (disch:=first | omega | assumption) only [aY,aH,eI,bf,zM,cd,gS,aE,ao,WW,eD,Ll,df]
      have e2:(out++[(bN b (p,true)).1]).length=out.length+1:=by simp
      rw [e2] at hJ
      exact hJ
theorem Rj (b:List UInt8) (c:Int × Bool) (hb:b.length < 4611686018427387904):Cm 155 [xF b c] (.sl none 1 (bg bN b c).1.length (ints (bg bN b c).1),[xF b (bg bN b c).2]):=by
  obtain ⟨p,q⟩:=c
  have hn:=Ug b (p,q)
  have en:(((bN b (p,q)).1.toNat:Nat):Int)=(bN b (p,q)).1:=by omega
  refine Cm.go MA [.bh []] 0 _ (Ee b hb (bN b (p,q)).1.toNat (by omega) (bN b (p,q)).1.toNat 0 (bN b (p,q)).2 [] (by omega) (by simp)) fun J hJ=>?_
  rw [MB]
  simp (disch:=first | omega | assumption) only [aH,eI,bf,zM,cd,gS,aE,ao]
  rw [en] at hJ
  exact hJ
theorem tg (b:List UInt8) (p:Int) (k:Bool) (hb:b.length < 4611686018427387904) (t:bE Rz):aL 155 [.bh [.sl (some false) 1 b.length (bytes b),.int .i64 p,.bool k]] t=feed t [.sl none 1 (bg bN b (p,k)).1.length (ints (bg bN b (p,k)).1),.sl (some false) 1 b.length (bytes b),.int .i64 (bg bN b (p,k)).2.1,.bool (bg bN b (p,k)).2.2]:=aW (Rj b (p,k) hb) (by kernel_rfl) t
theorem Ef (b:List UInt8) (hb:b.length < 4611686018427387904) (n:Nat) (hn:n≤2147483647):∀ (k i:Nat) (c:Int × Bool) (out:List Int),i+k=n→out.length≤i→WP 164 Tryz.f164 [.bh []] 0 (jy (n:Int) (i:Int) b.length (bytes b) c.1 c.2 out.length (ints out)) (.sl none 1 (oC bP b k c out).1.length (ints (oC bP b k c out).1),[xF b (oC bP b k c out).2])
  | 0,i,c,out,hi,ho=>by
    refine WP.fin fun J=>?_
    rw [mv]
    simp (disch:=omega) only [bA]
    rfl
  | k+1,i,c,out,hi,ho=>by
    obtain ⟨p,q⟩:=c
    cases q with
    | false=>
      refine WP.fin fun J=>?_
      rw [mv]
      simp (disch:=omega) only [aY,bc]
      rfl
    | true=>
      have e:oC bP b (k+1) (p,true) out=oC bP b k (bP b (p,true)).2 (out++[(bP b (p,true)).1]):=by rw [oC,if_pos rfl]
      rw [e]
      have ih:=Ef b hb n hn k (i+1) (bP b (p,true)).2 (out++[(bP b (p,true)).1]) (by omega) (by simp only [List.length_append,List.length_singleton]; omega)
      refine WP.go _ ih fun J hJ=>?_
      rw [mv]
      simp (disch:=first | omega | assumption) only [aY,aH,eI,bf,zN,cd,gS,aE,ao,WW,eD,Ll,df]
      have e2:(out++[(bP b (p,true)).1]).length=out.length+1:=by simp
      rw [e2] at hJ
      exact hJ
theorem Rk (b:List UInt8) (c:Int × Bool) (hb:b.length < 4611686018427387904):Cm 164 [xF b c] (.sl none 1 (bg bP b c).1.length (ints (bg bP b c).1),[xF b (bg bP b c).2]):=by
  obtain ⟨p,q⟩:=c
  have hn:=Uh b (p,q)
  have en:(((bP b (p,q)).1.toNat:Nat):Int)=(bP b (p,q)).1:=by omega
  refine Cm.go Cf [.bh []] 0 _ (Ef b hb (bP b (p,q)).1.toNat (by omega) (bP b (p,q)).1.toNat 0 (bP b (p,q)).2 [] (by omega) (by simp)) fun J hJ=>?_
  rw [Cg]
  simp (disch:=first | omega | assumption) only [aH,eI,bf,zN,cd,gS,aE,ao]
  rw [en] at hJ
  exact hJ
theorem th (b:List UInt8) (p:Int) (k:Bool) (hb:b.length < 4611686018427387904) (t:bE Rz):aL 164 [.bh [.sl (some false) 1 b.length (bytes b),.int .i64 p,.bool k]] t=feed t [.sl none 1 (bg bP b (p,k)).1.length (ints (bg bP b (p,k)).1),.sl (some false) 1 b.length (bytes b),.int .i64 (bg bP b (p,k)).2.1,.bool (bg bP b (p,k)).2.2]:=aW (Rk b (p,k) hb) (by kernel_rfl) t
end Go.Proofs.YtockoilcnmljiaaGreat
namespace Go.Proofs.YtockoilcnmljiaaGreat
set_option maxRecDepth 100000
section
variable (pr:dA) (cv:Cv Rz) (J:Nat→St→Option Rz)
def j8 (g0:Bool) (n1:Nat) (c2:List D) (i3:Int) (i4:Int) (n5:Nat) (c6:List D):St:=(St.mk [(3,(.ref 10003 [] 0 none)),(7,(.sl (some g0) 1 n1 c2)),(8,(.int .i64 i3)),(9,(.int .i64 i4))] [(10003,[(.sl none 1 n5 c6)])] [] 0)
theorem JX:Told cfg Tryz.prog 170 Tryz.f170:=⟨by kernel_rfl,Tryz.func170,by kernel_rfl⟩
theorem JY (g0:Bool) (n0:Nat) (c0:List D):aO pr cv J 170 Tryz.f170 [(.sl (some g0) 1 n0 c0)]=
    (J 0 (j8 g0 n0 c0 (pr.aX n0) 0 0 [])):=by kernel_rfl
theorem uE (g0:Bool) (n1:Nat) (c2:List D) (i3:Int) (i4:Int) (n5:Nat) (c6:List D):bF pr cv J 170 Tryz.f170 [.undef] 0 (j8 g0 n1 c2 i3 i4 n5 c6)=
    (br (pr.lt i4 i3) (br (pr.bz i4 n1) (br (br (pr.cg .i64 c2 (pr.idx 0 i4 1)) true false) (cv 172 [(.int .i64 (pr.bm c2 (pr.idx 0 i4 1)))] (.sl (fun dX=>(fun dt=>(.done (br (br (br (pr.nl dt) true false) true false) (br (br (pr.flat dt) (pr.fits (n5+dX) 1) false) (J 0 (j8 g0 n1 c2 i3 (pr.ar .add .i64 i4 1) (n5+dX) (List.append c6 dt))) none) none)))))) none) none) (some ((.sl none 1 n5 c6),[.undef]))):=by kernel_rfl
theorem JZ:Told cfg Tryz.prog 169 Tryz.f169:=⟨by kernel_rfl,Tryz.func169,by kernel_rfl⟩
theorem J0 (g0:Bool) (n0:Nat) (c0:List D):aO pr cv J 169 Tryz.f169 [(.sl (some g0) 1 n0 c0)]=
    (cv 170 [(.sl (some true) 1 1 [(.int .i64 (pr.aX n0))])] (.sl (fun dX=>(fun dt=>(.done (br (br (br (pr.nl dt) true false) true false) (cv 170 [(.sl (some g0) 1 n0 c0)] (.sl (fun oW=>(fun iU=>(.done (br (br (br (pr.nl iU) true false) true false) (br (br (pr.flat iU) (pr.fits (dX+oW) 1) false) (some ((.sl none 1 (dX+oW) (List.append dt iU)),[.undef])) none) none)))))) none)))))):=by kernel_rfl
def lf (i0:Int) (g1:Bool) (n2:Nat) (c3:List D) (g4:Bool) (n5:Nat) (c6:List D) (b7:Bool) (b8:Bool) (b9:Bool) (i10:Int) (eg:Nat) (eB:List D):St:=(St.mk [(1,(.ptr 1 [] 0)),(3,(.ref 10003 [] 0 none)),(4,(.int .i64 i0))] [(1,[(.sl (some g1) 1 n2 c3),(.sl (some g4) 1 n5 c6),(.bool b7),(.bool b8),(.bool b9),(.int .i64 i10)]),(10003,[(.sl none 1 eg eB)])] [] 0)
def lg (i0:Int) (g1:Bool) (n2:Nat) (c3:List D) (g4:Bool) (n5:Nat) (c6:List D) (b7:Bool) (b8:Bool) (b9:Bool) (i10:Int) (eg:Nat) (eB:List D):St:=(St.mk [(1,(.ptr 1 [] 0)),(3,(.ref 10003 [] 0 none)),(5,(.int .i64 i0))] [(1,[(.sl (some g1) 1 n2 c3),(.sl (some g4) 1 n5 c6),(.bool b7),(.bool b8),(.bool b9),(.int .i64 i10)]),(10003,[(.sl none 1 eg eB)])] [] 0)
def lh (i0:Int) (i1:Int) (g2:Bool) (n3:Nat) (c4:List D) (g5:Bool) (n6:Nat) (c7:List D) (b8:Bool) (b9:Bool) (jD:Bool) (i11:Int) (fL:Nat) (gu:List D):St:=(St.mk [(1,(.ptr 1 [] 0)),(3,(.ref 10003 [] 0 none)),(5,(.int .i64 i0)),(6,(.int .i64 i1))] [(1,[(.sl (some g2) 1 n3 c4),(.sl (some g5) 1 n6 c7),(.bool b8),(.bool b9),(.bool jD),(.int .i64 i11)]),(10003,[(.sl none 1 fL gu)])] [] 0)
theorem we:Told cfg Tryz.prog 157 Tryz.f157:=⟨by kernel_rfl,Tryz.func157,by kernel_rfl⟩
theorem wg (g0:Bool) (n0:Nat) (c0:List D) (g1:Bool) (n1:Nat) (c1:List D) (a2:Bool) (a3:Bool) (a4:Bool) (a5:Int):aO pr cv J 157 Tryz.f157 [(.agg [(.sl (some g0) 1 n0 c0),(.sl (some g1) 1 n1 c1),(.bool a2),(.bool a3),(.bool a4),(.int .i64 a5)])]=
    let y1:List D:=[(.sl (some g0) 1 n0 c0),(.sl (some g1) 1 n1 c1),(.bool a2),(.bool a3),(.bool a4),(.int .i64 a5)]
    (cv 100 [(.agg y1)] (.bool (fun bR=>(.done (br (br bR false true) (some ((.sl none 1 0 []),[.undef])) (cv 163 [(.int .i64 (pr.aX n0))] (.sl (fun rp=>(fun oY=>(.done (br (br (br (pr.nl oY) true false) true false) (J 0 (lf 0 g0 n0 c0 g1 n1 c1 a2 a3 a4 a5 rp oY)) none))))))))))):=by kernel_rfl
theorem rW (i0:Int) (g1:Bool) (n2:Nat) (c3:List D) (g4:Bool) (n5:Nat) (c6:List D) (b7:Bool) (b8:Bool) (b9:Bool) (i10:Int) (eg:Nat) (eB:List D):bF pr cv J 157 Tryz.f157 [.undef] 0 (lf i0 g1 n2 c3 g4 n5 c6 b7 b8 b9 i10 eg eB)=
    (br (pr.lt i0 (pr.aX n2)) (br (pr.bz i0 n2) (br (br (pr.cg .i64 c3 (pr.idx 0 i0 1)) true false) (cv 163 [(.int .i64 (pr.bm c3 (pr.idx 0 i0 1)))] (.sl (fun dX=>(fun dt=>(.done (br (br (br (pr.nl dt) true false) true false) (br (br (pr.flat dt) (pr.fits (eg+dX) 1) false) (J 0 (lf (pr.ar .add .i64 i0 1) g1 n2 c3 g4 n5 c6 b7 b8 b9 i10 (eg+dX) (List.append eB dt))) none) none)))))) none) none) (J 2 (lg 0 g1 n2 c3 g4 n5 c6 b7 b8 b9 i10 eg eB))):=by kernel_rfl
theorem rX (i0:Int) (g1:Bool) (n2:Nat) (c3:List D) (g4:Bool) (n5:Nat) (c6:List D) (b7:Bool) (b8:Bool) (b9:Bool) (i10:Int) (eg:Nat) (eB:List D):bF pr cv J 157 Tryz.f157 [.undef] 2 (lg i0 g1 n2 c3 g4 n5 c6 b7 b8 b9 i10 eg eB)=
    (br (pr.lt i0 3) (br (pr.bz i0 n5) (br (br (pr.bG 1 c6 (pr.idx 0 i0 1)) true false) (cv 163 [(.int .i64 (pr.aX (pr.aZ c6 (pr.idx 0 i0 1))))] (.sl (fun dX=>(fun dt=>(.done (br (br (br (pr.nl dt) true false) true false) (br (br (pr.flat dt) (pr.fits (eg+dX) 1) false) (J 4 (lh i0 0 g1 n2 c3 g4 n5 c6 b7 b8 b9 i10 (eg+dX) (List.append eB dt))) none) none)))))) none) none) (cv 81 [(.bool b7)] (.int (fun rm=>(.done (cv 81 [(.bool b8)] (.int (fun rS=>(.done (cv 81 [(.bool b9)] (.int (fun ov=>(.done (cv 163 [(.int .i64 (pr.ar .add .i64 (pr.ar .add .i64 rm (pr.ar .mul .i64 2 rS)) (pr.ar .mul .i64 4 ov)))] (.sl (fun SK=>(fun Qd=>(.done (br (br (br (pr.nl Qd) true false) true false) (br (br (pr.flat Qd) (pr.fits (eg+SK) 1) false) (cv 163 [(.int .i64 i10)] (.sl (fun vn7=>(fun SL=>(.done (br (br (br (pr.nl SL) true false) true false) (br (br (pr.flat SL) (pr.fits ((eg+SK)+vn7) 1) false) (some ((.sl none 1 ((eg+SK)+vn7) (List.append (List.append eB Qd) SL)),[.undef])) none) none)))))) none) none))))))))))))))))))):=by kernel_rfl
theorem rY (i0:Int) (i1:Int) (g2:Bool) (n3:Nat) (c4:List D) (g5:Bool) (n6:Nat) (c7:List D) (b8:Bool) (b9:Bool) (jD:Bool) (i11:Int) (fL:Nat) (gu:List D):bF pr cv J 157 Tryz.f157 [.undef] 4 (lh i0 i1 g2 n3 c4 g5 n6 c7 b8 b9 jD i11 fL gu)=
    (br (pr.bz i0 n6) (br (br (pr.bG 1 c7 (pr.idx 0 i0 1)) true false) (br (pr.lt i1 (pr.aX (pr.aZ c7 (pr.idx 0 i0 1)))) (br (pr.bz i0 n6) (br (br (pr.bG 1 c7 (pr.idx 0 i0 1)) true false) (br (pr.bz i1 (pr.aZ c7 (pr.idx 0 i0 1))) (br (br (pr.cg .i64 (pr.ba c7 (pr.idx 0 i0 1)) (pr.idx 0 i1 1)) true false) (cv 163 [(.int .i64 (pr.bm (pr.ba c7 (pr.idx 0 i0 1)) (pr.idx 0 i1 1)))] (.sl (fun dX=>(fun dt=>(.done (br (br (br (pr.nl dt) true false) true false) (br (br (pr.flat dt) (pr.fits (fL+dX) 1) false) (J 4 (lh i0 (pr.ar .add .i64 i1 1) g2 n3 c4 g5 n6 c7 b8 b9 jD i11 (fL+dX) (List.append gu dt))) none) none)))))) none) none) none) none) (J 2 (lg (pr.ar .add .i64 i0 1) g2 n3 c4 g5 n6 c7 b8 b9 jD i11 fL gu))) none) none):=by kernel_rfl
def iM (g0:Bool) (n1:Nat) (c2:List D) (i3:Int) (i4:Int) (g5:Bool) (n6:Nat) (c7:List D) (b8:Bool) (b9:Bool) (jD:Bool) (i11:Int) (fL:Nat) (gu:List D):St:=(St.mk [(1,(.ptr 1 [] 0)),(3,(.ref 10003 [] 0 none)),(13,(.sl (some g0) 1 n1 c2)),(14,(.int .i64 i3)),(15,(.int .i64 i4))] [(1,[(.sl (some g5) 1 n6 c7),(.sl (some g0) 1 n1 c2),(.bool b8),(.bool b9),(.bool jD),(.int .i64 i11)]),(10003,[(.sl none 1 fL gu)])] [] 0)
theorem wh:Told cfg Tryz.prog 166 Tryz.f166:=⟨by kernel_rfl,Tryz.func166,by kernel_rfl⟩
theorem wi (g0:Bool) (n0:Nat) (c0:List D) (g1:Bool) (n1:Nat) (c1:List D) (a2:Bool) (a3:Bool) (a4:Bool) (a5:Int):aO pr cv J 166 Tryz.f166 [(.agg [(.sl (some g0) 1 n0 c0),(.sl (some g1) 1 n1 c1),(.bool a2),(.bool a3),(.bool a4),(.int .i64 a5)])]=
    let y1:List D:=[(.sl (some g0) 1 n0 c0),(.sl (some g1) 1 n1 c1),(.bool a2),(.bool a3),(.bool a4),(.int .i64 a5)]
    (cv 111 [(.agg y1)] (.bool (fun bR=>(.done (br (br bR false true) (some ((.sl none 1 0 []),[.undef])) (cv 169 [(.sl (some g0) 1 n0 c0)] (.sl (fun rp=>(fun oY=>(.done (br (br (br (pr.nl oY) true false) true false) (J 0 (iM g1 n1 c1 (pr.aX n1) 0 g0 n0 c0 a2 a3 a4 a5 rp oY)) none))))))))))):=by kernel_rfl
theorem rZ (g0:Bool) (n1:Nat) (c2:List D) (i3:Int) (i4:Int) (g5:Bool) (n6:Nat) (c7:List D) (b8:Bool) (b9:Bool) (jD:Bool) (i11:Int) (fL:Nat) (gu:List D):bF pr cv J 166 Tryz.f166 [.undef] 0 (iM g0 n1 c2 i3 i4 g5 n6 c7 b8 b9 jD i11 fL gu)=
    (br (pr.lt i4 i3) (br (pr.bz i4 n1) (br (br (pr.bG 1 c2 (pr.idx 0 i4 1)) true false) (cv 169 [(.sl (some (pr.bD c2 (pr.idx 0 i4 1))) 1 (pr.aZ c2 (pr.idx 0 i4 1)) (pr.ba c2 (pr.idx 0 i4 1)))] (.sl (fun dX=>(fun dt=>(.done (br (br (br (pr.nl dt) true false) true false) (br (br (pr.flat dt) (pr.fits (fL+dX) 1) false) (J 0 (iM g0 n1 c2 i3 (pr.ar .add .i64 i4 1) g5 n6 c7 b8 b9 jD i11 (fL+dX) (List.append gu dt))) none) none)))))) none) none) (cv 171 [(.bool b8),(.int .i64 1)] (.int (fun rm=>(.done (cv 171 [(.bool b9),(.int .i64 2)] (.int (fun rS=>(.done (cv 171 [(.bool jD),(.int .i64 4)] (.int (fun ov=>(.done (cv 170 [(.sl (some true) 1 2 [(.int .i64 (pr.ar .add .i64 (pr.ar .add .i64 rm rS) ov)),(.int .i64 i11)])] (.sl (fun SK=>(fun Qd=>(.done (br (br (br (pr.nl Qd) true false) true false) (br (br (pr.flat Qd) (pr.fits (fL+SK) 1) false) (some ((.sl none 1 (fL+SK) (List.append gu Qd)),[.undef])) none) none))))))))))))))))))):=by kernel_rfl
end
def eQ (xs:List Int):List UInt8:=xs.flatMap dz
theorem ks:∀ xs:List Int,(eQ xs).length≤5*xs.length
  | []=>by simp [eQ]
  | x::xs=>by
    have h1:=ks xs
    have h2:=fE x
    simp only [eQ,List.flatMap_cons,List.length_append,List.length_cons] at h1 ⊢
    omega
theorem xG {xs:List Int} {i:Nat} (h:i < xs.length):eQ (xs.take (i+1))=eQ (xs.take i)++dz xs[i]:=by
  unfold eQ
  rw [← List.take_append_getElem h,List.flatMap_append,List.flatMap_cons,List.flatMap_nil,List.append_nil]
def dj (xs:List Int):List UInt8:=dz (xs.length:Int)++eQ xs
theorem nL (xs:List Int):(dj xs).length≤5+5*xs.length:=by
  have h1:=ks xs
  have h2:=fE (xs.length:Int)
  simp only [dj,List.length_append]
  omega
def fJ (xss:List (List Int)):List UInt8:=xss.flatMap dj
theorem oD:∀ xss:List (List Int),(∀ xs∈xss,xs.length≤1048576)→(fJ xss).length≤5242885*xss.length
  | [],_=>by simp [fJ]
  | xs::xss,h=>by
    have h1:=oD xss fun x hx=>h x (List.mem_cons_of_mem _ hx)
    have h2:=nL xs
    have h3:=h xs List.mem_cons_self
    simp only [fJ,List.flatMap_cons,List.length_append,List.length_cons] at h1 ⊢
    omega
theorem H3 {xss:List (List Int)} {i:Nat} (h:i < xss.length):fJ (xss.take (i+1))=fJ (xss.take i)++dj xss[i]:=by
  unfold fJ
  rw [← List.take_append_getElem h,List.flatMap_append,List.flatMap_cons,List.flatMap_nil,List.append_nil]
def qc (b:Bool) (k:Int):Int:=if b then k else 0
def nj (m:aK):Int:=qc m.cK 1+qc m.bO 2+qc m.held 4
def cM (m:aK):List UInt8:=if gW m then (dj m.aA++fJ m.bits)++(dz (nj m)++dz m.last) else []
theorem abF (b:Bool):Cm 81 [.bool b] (.int .i64 (qc b 1),[.undef]):=by
  refine Cm.fin PY fun J=>?_
  rw [PZ]
  cases b<;>rfl
theorem aen (b:Bool) (k:Int):Cm 171 [.bool b,.int .i64 k] (.int .i64 (qc b k),[.undef,.undef]):=by
  refine Cm.fin Q6 fun J=>?_
  rw [Q7]
  cases b<;>rfl
theorem WX (g:Bool) (xs:List Int) (hb:xs.length≤1048576):Cm 170 [.sl (some g) 1 xs.length (ints xs)] (.sl none 1 (eQ xs).length (bytes (eQ xs)),[.undef]):=by
  refine Cm.go JX [.undef] 0 (j8 g xs.length (ints xs) xs.length (0:Nat) 0 []) ?_ fun J hJ=>?_
  · refine WP.loop (H:=fun i:Nat=>j8 g xs.length (ints xs) xs.length (i:Nat) (eQ (xs.take i)).length (bytes (eQ (xs.take i)))) (n:=xs.length) (fun _=>True) (fun i hi _ ih=>WP.go _ (ih trivial) fun J hJ=>?_) (fun _=>WP.fin fun J=>?_) 0 (Nat.zero_le _) trivial
    · have l1:=ks (xs.take i)
      have l2:=fE xs[i]
      have l3:(xs.take i).length≤xs.length:=by simp; omega
      rw [uE]
      simp (disch:=first | omega | assumption) only [aY,bC,cR,dE,dF,Mv,dv,ao,eI,aH,bf,je,eD,gB,df]
      rw [xG hi,List.length_append] at hJ
      exact hJ
    · rw [uE]
      simp (disch:=omega) only [bA,List.take_length]
  · rw [JY]
    exact hJ
section
variable (t:bE Rz)
theorem SM (b:Bool):aL 81 [.bool b] t=feed t [.int .i64 (qc b 1)]:=aW (abF b) (by kernel_rfl) t
theorem aeo (b:Bool) (k:Int):aL 171 [.bool b,.int .i64 k] t=feed t [.int .i64 (qc b k)]:=aW (aen b k) (by kernel_rfl) t
theorem Ch (g:Bool) (xs:List Int) (n:Nat) (hn:n=xs.length) (hb:xs.length≤1048576):aL 170 [.sl (some g) 1 n (ints xs)] t=feed t [.sl none 1 (eQ xs).length (bytes (eQ xs))]:=by subst hn; exact aW (WX g xs hb) (by kernel_rfl) t
theorem Uk (g:Bool) (a:Int):aL 170 [.sl (some g) 1 1 [.int .i64 a]] t=feed t [.sl none 1 (dz a).length (bytes (dz a))]:=by
  have e:eQ [a]=dz a:=by simp [eQ]
  rw [← e]
  exact Ch t g [a] 1 rfl (by simp)
theorem Ul (g:Bool) (a b:Int):aL 170 [.sl (some g) 1 2 [.int .i64 a,.int .i64 b]] t=feed t [.sl none 1 (dz a++dz b).length (bytes (dz a++dz b))]:=by
  have e:eQ [a,b]=dz a++dz b:=by simp [eQ]
  rw [← e]
  exact Ch t g [a,b] 2 rfl (by simp)
end
theorem WY (g:Bool) (xs:List Int) (hb:xs.length≤1048576):Cm 169 [.sl (some g) 1 xs.length (ints xs)] (.sl none 1 (dj xs).length (bytes (dj xs)),[.undef]):=by
  refine Cm.fin JZ fun J=>?_
  rw [J0]
  have l1:=ks xs
  have l2:=fE (xs.length:Int)
  simp (disch:=first | omega | assumption | rfl) only [ay,Uk,Ch,dv,ao,eI,aH,bf,je,eD,gB]
  unfold dj
  rw [List.length_append]
theorem Lm (g:Bool) (xs:List Int) (n:Nat) (hn:n=xs.length) (hb:xs.length≤1048576) (t:bE Rz):aL 169 [.sl (some g) 1 n (ints xs)] t=feed t [.sl none 1 (dj xs).length (bytes (dj xs))]:=by subst hn; exact aW (WY g xs hb) (by kernel_rfl) t
theorem Eg {m:aK} (h:gW m=true):m.bits.length=3:=by
  simp only [gW,Bool.and_eq_true,beq_iff_eq] at h
  omega
abbrev Ln (l:List UInt8):Rz:=(.sl none 1 l.length (bytes l),[.undef])
theorem Fa (g:Bool) (m:aK) (hm:cO m):Cm 166 [.agg (bX (some g) m)] (Ln (cM m)):=by
  unfold cM
  have b0:=hm.aA
  cases cQ:gW m with
  | false=>
    refine Cm.fin wh fun J=>?_
    rw [wi]
    simp (disch:=assumption) only [Ae,aE,ao,cQ,bJ,bY,bc]
    rfl
  | true=>
    rw [if_pos rfl]
    have hl:=Eg cQ
    have l0:=nL m.aA
    have l3:=fE (nj m)
    have l4:=fE m.last
    refine Cm.go wh [.undef] 0 (iM g m.bits.length (rows (some g) m.bits) m.bits.length (0:Nat) g m.aA.length (ints m.aA) m.cK m.bO m.held m.last (dj m.aA).length (bytes (dj m.aA))) ?_ fun J hJ=>?_
    · have:=WP.loop (f:=166) (fn:=Tryz.f166) (sk:=[.undef]) (j:=0) (r:=Ln ((dj m.aA++fJ m.bits)++(dz (nj m)++dz m.last))) (H:=fun i:Nat=>iM g m.bits.length (rows (some g) m.bits) m.bits.length (i:Nat) g m.aA.length (ints m.aA) m.cK m.bO m.held m.last (dj m.aA++fJ (m.bits.take i)).length (bytes (dj m.aA++fJ (m.bits.take i)))) (n:=m.bits.length) (fun _=>True) (fun i hi _ ih=>WP.go _ (ih trivial) fun J hJ=>?_) (fun _=>WP.fin fun J=>?_) 0 (Nat.zero_le _) trivial
      · simpa [fJ] using this
      · have l1:=oD (m.bits.take i) fun x hx=>hm.bits.2 x (List.mem_of_mem_take hx)
        have l5:(m.bits.take i).length≤3:=by simp; omega
        have l2:=nL m.bits[i]
        have b2:=hm.bits.2 _ (List.getElem_mem hi)
        have l6:(dj m.aA++fJ (m.bits.take i)).length≤30000000:=by rw [List.length_append]; omega
        rw [rZ]
        simp (disch:=first | omega | assumption) only [aY,bC,cR,iF,iG,ic,iH,Lm,dv,ao,eI,aH,bf,je,eD,gB,df]
        rw [H3 hi,← List.append_assoc,List.length_append (bs:=dj m.bits[i])] at hJ
        exact hJ
      · have l1:=oD m.bits hm.bits.2
        have l6:(dj m.aA++fJ m.bits).length≤30000000:=by rw [List.length_append]; omega
        have l7:(dz (nj m)++dz m.last).length≤10:=by rw [List.length_append]; omega
        have hf:ad.ar .add .i64 (ad.ar .add .i64 (qc m.cK 1) (qc m.bO 2)) (qc m.held 4)=nj m:=by
          unfold nj
          cases m.cK<;>cases m.bO<;>cases m.held<;>rfl
        rw [rZ]
        simp (disch:=first | omega | assumption) only [bA,List.take_length,aeo,cd,ao,hf,Ul,dv,eI,aH,bf,je,eD,gB]
        simp only [Ln,List.length_append]
    · rw [wi]
      simp (disch:=first | omega | assumption | rfl) only [Ae,aE,ao,cQ,bJ,bY,aH,Lm,dv,eI,bf,ay]
      exact hJ
theorem Fb (g:Bool) (m:aK) (hm:cO m):Cm 157 [.agg (bX (some g) m)] (Ln (cM m)):=by
  unfold cM
  have b0:=hm.aA
  cases cQ:gW m with
  | false=>
    refine Cm.fin we fun J=>?_
    rw [wg]
    simp (disch:=assumption) only [Ad,aE,ao,cQ,bJ,bY,bc]
    rfl
  | true=>
    rw [if_pos rfl]
    have hl:=Eg cQ
    have l0:=nL m.aA
    have l3:=fE (nj m)
    have l4:=fE m.last
    have w2:∀ k i,i+k=3→WP 157 Tryz.f157 [.undef] 2 (lg (i:Nat) g m.aA.length (ints m.aA) g m.bits.length (rows (some g) m.bits) m.cK m.bO m.held m.last (dj m.aA++fJ (m.bits.take i)).length (bytes (dj m.aA++fJ (m.bits.take i)))) (Ln ((dj m.aA++fJ m.bits)++(dz (nj m)++dz m.last))):=by
      intro k
      induction k with
      | zero=>
        intro i hi
        obtain rfl:i=3:=by omega
        have l1:=oD m.bits hm.bits.2
        have l6:(dj m.aA++fJ m.bits).length≤30000000:=by rw [List.length_append]; omega
        have ht:m.bits.take 3=m.bits:=by rw [← hl,List.take_length]
        have hf:ad.ar .add .i64 (ad.ar .add .i64 (qc m.cK 1) (ad.ar .mul .i64 2 (qc m.bO 1))) (ad.ar .mul .i64 4 (qc m.held 1))=nj m:=by
          unfold nj
          cases m.cK<;>cases m.bO<;>cases m.held<;>rfl
        refine WP.fin fun J=>?_
        rw [rX,ht]
        simp (disch:=first | omega | assumption) only [bA,SM,cd,ao,hf,ni,dv,eI,aH,bf,je,eD,gB]
        simp only [Ln,List.length_append,List.append_assoc,Nat.add_assoc]
      | succ k ih=>
        intro i hi
        have R9:i < m.bits.length:=by omega
        have ih:=ih (i+1) (by omega)
        have l1:=oD (m.bits.take i) fun x hx=>hm.bits.2 x (List.mem_of_mem_take hx)
        have l5:(m.bits.take i).length≤3:=by simp; omega
        have b2:=hm.bits.2 _ (List.getElem_mem R9)
        have l6:(dj m.aA++fJ (m.bits.take i)).length≤30000000:=by rw [List.length_append]; omega
        have l8:=fE (m.bits[i].length:Int)
        have w4:=WP.loop (f:=157) (fn:=Tryz.f157) (sk:=[.undef]) (j:=4) (r:=Ln ((dj m.aA++fJ m.bits)++(dz (nj m)++dz m.last))) (H:=fun j:Nat=>lh (i:Nat) (j:Nat) g m.aA.length (ints m.aA) g m.bits.length (rows (some g) m.bits) m.cK m.bO m.held m.last ((dj m.aA++fJ (m.bits.take i))++dz (m.bits[i].length:Int)++eQ (m.bits[i].take j)).length (bytes ((dj m.aA++fJ (m.bits.take i))++dz (m.bits[i].length:Int)++eQ (m.bits[i].take j)))) (n:=m.bits[i].length) (fun _=>True) (fun j hj _ ih4=>WP.go _ (ih4 trivial) fun J hJ=>?_) (fun _=>WP.go _ ih fun J hJ=>?_) 0 (Nat.zero_le _) trivial
        · refine WP.go _ w4 fun J hJ=>?_
          rw [rX]
          simp (disch:=first | omega | assumption) only [aY,bC,cR,iF,iG,ic,iH,ay,ni,dv,ao,eI,aH,bf,je,eD,gB]
          simp only [List.take_zero,eQ,List.flatMap_nil,List.append_nil] at hJ
          rw [List.length_append (bs:=dz (m.bits[i].length:Int))] at hJ
          exact hJ
        · have l9:=ks (m.bits[i].take j)
          have l10:(m.bits[i].take j).length≤m.bits[i].length:=by simp; omega
          have l11:=fE m.bits[i][j]
          have l12:((dj m.aA++fJ (m.bits.take i))++dz (m.bits[i].length:Int)++eQ (m.bits[i].take j)).length≤60000000:=by rw [List.length_append,List.length_append]; omega
          rw [rY]
          simp (disch:=first | omega | assumption) only [aY,bC,cR,iF,dE,dF,iG,ic,iH,ay,ni,dv,ao,eI,aH,bf,je,eD,gB,df]
          rw [xG hj,← List.append_assoc,List.length_append (bs:=dz m.bits[i][j])] at hJ
          exact hJ
        · rw [rY]
          simp (disch:=first | omega | assumption) only [bA,bC,cR,iF,ic,ay,aH,bf,df,List.take_length]
          have e:fJ (m.bits.take (i+1))=fJ (m.bits.take i)++(dz (m.bits[i].length:Int)++eQ m.bits[i]):=H3 R9
          rw [e,← List.append_assoc,← List.append_assoc] at hJ
          exact hJ
    have w0:=WP.loop (f:=157) (fn:=Tryz.f157) (sk:=[.undef]) (j:=0) (r:=Ln ((dj m.aA++fJ m.bits)++(dz (nj m)++dz m.last))) (H:=fun i:Nat=>lf (i:Nat) g m.aA.length (ints m.aA) g m.bits.length (rows (some g) m.bits) m.cK m.bO m.held m.last (dz (m.aA.length:Int)++eQ (m.aA.take i)).length (bytes (dz (m.aA.length:Int)++eQ (m.aA.take i)))) (n:=m.aA.length) (fun _=>True) (fun i hi _ ih=>WP.go _ (ih trivial) fun J hJ=>?_) (fun _=>WP.go _ (w2 3 0 rfl) fun J hJ=>?_) 0 (Nat.zero_le _) trivial
    · refine Cm.go we [.undef] 0 _ w0 fun J hJ=>?_
      rw [wg]
      simp (disch:=first | omega | assumption | rfl) only [Ad,aE,ao,cQ,bJ,bY,aH,ni,dv,eI,bf,ay]
      simp only [List.take_zero,eQ,List.flatMap_nil,List.append_nil] at hJ
      exact hJ
    · have l9:=ks (m.aA.take i)
      have l10:(m.aA.take i).length≤m.aA.length:=by simp; omega
      have l11:=fE m.aA[i]
      have l8:=fE (m.aA.length:Int)
      have l12:(dz (m.aA.length:Int)++eQ (m.aA.take i)).length≤30000000:=by rw [List.length_append]; omega
      rw [rW]
      simp (disch:=first | omega | assumption) only [aY,bC,cR,dE,dF,ay,ni,dv,ao,eI,aH,bf,je,eD,gB,df]
      rw [xG hi,← List.append_assoc,List.length_append (bs:=dz m.aA[i])] at hJ
      exact hJ
    · rw [rW]
      simp (disch:=omega) only [ay,bA,List.take_length]
      have e:dj m.aA++fJ (m.bits.take 0)=dz (m.aA.length:Int)++eQ m.aA:=by simp [fJ,dj]
      rw [e] at hJ
      exact hJ
section
variable (t:bE Rz)
theorem wj (g:Bool) (m:aK) (hm:cO m):aL 157 [.agg (bX (some g) m)] t=feed t [.sl none 1 (cM m).length (bytes (cM m))]:=aW (Fb g m hm) (by kernel_rfl) t
theorem wk (g:Bool) (m:aK) (hm:cO m):aL 166 [.agg (bX (some g) m)] t=feed t [.sl none 1 (cM m).length (bytes (cM m))]:=aW (Fa g m hm) (by kernel_rfl) t
end
end Go.Proofs.YtockoilcnmljiaaGreat
