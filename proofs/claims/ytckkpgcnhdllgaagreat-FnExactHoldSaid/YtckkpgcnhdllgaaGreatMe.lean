/- What the proof of FnExactHold stands on, part 5: an abstract machine on plain data, its soundness, and the contracts of functions. -/
import Derived.Test.YtckkpgcnhdllgaaGreatMd
set_option linter.all false
set_option linter.unusedSimpArgs false
set_option linter.unusedVariables false
set_option linter.unnecessarySimpa false
set_option linter.unusedSectionVars false
namespace Go.Proofs.YtckkpgcnhdllgaaGreat
set_option maxRecDepth 100000
section
variable (pr:ej) (cv:Cv Rz) (J:Nat->St->Option Rz)
def mA (g0:Bool) (n1:Nat) (c2:List D) (i3:Int) (i4:Int):St:=(St.mk [(0,(.sl (some g0) 16 n1 c2)),(1,(.int .i64 i3)),(5,(.int .i64 i4))] [] [] 0)
theorem xS:Told cfg Tryz.prog 113 Tryz.f113:=⟨by kernel_rfl,Tryz.func113,by kernel_rfl⟩
theorem xT (g0:Bool) (n0:Nat) (c0:List D) (a1:Int):aU pr cv J 113 Tryz.f113 [(.sl (some g0) 16 n0 c0),(.int .i64 a1)]=
 (br (pr.lt (pr.ar .sub .i64 a1 (pr.ba n0)) 0) (some ((.int .i64 (-1)),[.undef,.undef])) (J 0 (mA g0 n0 c0 (pr.ar .sub .i64 a1 (pr.ba n0)) 0))):=by kernel_rfl
theorem oM (g0:Bool) (n1:Nat) (c2:List D) (i3:Int) (i4:Int):cg pr cv J 113 Tryz.f113 [.undef,.undef] 0 (mA g0 n1 c2 i3 i4)=
 (br (pr.lt i4 (pr.ba n1)) (br (pr.bR i4 n1) (br (br (pr.da .i64 c2 (pr.idx 0 i4 16)) (br (pr.eH c2 ((pr.idx 0 i4 16)+1)) (br (pr.eH c2 ((pr.idx 0 i4 16)+2)) (br (pr.cZ 1 c2 ((pr.idx 0 i4 16)+3)) (br (pr.cZ 1 c2 ((pr.idx 0 i4 16)+4)) (br (pr.cZ 1 c2 ((pr.idx 0 i4 16)+5)) (br (pr.eH c2 ((pr.idx 0 i4 16)+6)) (br (pr.eH c2 ((pr.idx 0 i4 16)+7)) (br (pr.eH c2 ((pr.idx 0 i4 16)+8)) (br (pr.da .i64 c2 ((pr.idx 0 i4 16)+9)) (br (pr.cZ 1 c2 ((pr.idx 0 i4 16)+10)) (br (pr.cZ 1 c2 ((pr.idx 0 i4 16)+11)) (br (pr.cZ 1 c2 ((pr.idx 0 i4 16)+12)) (br (pr.cZ 1 c2 ((pr.idx 0 i4 16)+13)) (br (pr.cZ 1 c2 ((pr.idx 0 i4 16)+14)) (br (pr.cZ 1 c2 ((pr.idx 0 i4 16)+15)) true false) false) false) false) false) false) false) false) false) false) false) false) false) false) false) false) (cv 15 [(.agg [(.int .i64 (pr.cd c2 (pr.idx 0 i4 16))),(.bool (pr.df c2 ((pr.idx 0 i4 16)+1))),(.bool (pr.df c2 ((pr.idx 0 i4 16)+2))),(.sl (some (pr.cD c2 ((pr.idx 0 i4 16)+3))) 1 (pr.bM c2 ((pr.idx 0 i4 16)+3)) (pr.bP c2 ((pr.idx 0 i4 16)+3))),(.sl (some (pr.cD c2 ((pr.idx 0 i4 16)+4))) 1 (pr.bM c2 ((pr.idx 0 i4 16)+4)) (pr.bP c2 ((pr.idx 0 i4 16)+4))),(.sl (some (pr.cD c2 ((pr.idx 0 i4 16)+5))) 1 (pr.bM c2 ((pr.idx 0 i4 16)+5)) (pr.bP c2 ((pr.idx 0 i4 16)+5))),(.bool (pr.df c2 ((pr.idx 0 i4 16)+6))),(.bool (pr.df c2 ((pr.idx 0 i4 16)+7))),(.bool (pr.df c2 ((pr.idx 0 i4 16)+8))),(.int .i64 (pr.cd c2 ((pr.idx 0 i4 16)+9))),(.sl (some (pr.cD c2 ((pr.idx 0 i4 16)+10))) 1 (pr.bM c2 ((pr.idx 0 i4 16)+10)) (pr.bP c2 ((pr.idx 0 i4 16)+10))),(.sl (some (pr.cD c2 ((pr.idx 0 i4 16)+11))) 1 (pr.bM c2 ((pr.idx 0 i4 16)+11)) (pr.bP c2 ((pr.idx 0 i4 16)+11))),(.sl (some (pr.cD c2 ((pr.idx 0 i4 16)+12))) 1 (pr.bM c2 ((pr.idx 0 i4 16)+12)) (pr.bP c2 ((pr.idx 0 i4 16)+12))),(.sl (some (pr.cD c2 ((pr.idx 0 i4 16)+13))) 1 (pr.bM c2 ((pr.idx 0 i4 16)+13)) (pr.bP c2 ((pr.idx 0 i4 16)+13))),(.sl (some (pr.cD c2 ((pr.idx 0 i4 16)+14))) 1 (pr.bM c2 ((pr.idx 0 i4 16)+14)) (pr.bP c2 ((pr.idx 0 i4 16)+14))),(.sl (some (pr.cD c2 ((pr.idx 0 i4 16)+15))) 1 (pr.bM c2 ((pr.idx 0 i4 16)+15)) (pr.bP c2 ((pr.idx 0 i4 16)+15)))]),(.int .i64 i3)] (.int (fun dj=>(.done (br (pr.lt dj 0) (some ((.int .i64 (-1)),[.undef,.undef])) (J 0 (mA g0 n1 c2 dj (pr.ar .add .i64 i4 1)))))))) none) none) (some ((.int .i64 i3),[.undef,.undef]))):=by kernel_rfl
def jT (g0:Bool) (n1:Nat) (c2:List D) (i3:Int) (n4:Nat) (c5:List D):St:=(St.mk [(0,(.sl (some g0) 16 n1 c2)),(3,(.ref 10003 [] 0 none)),(4,(.int .i64 i3))] [(10003,[(.sl none 16 n4 c5)])] [] 0)
theorem HE:Told cfg Tryz.prog 120 Tryz.f120:=⟨by kernel_rfl,Tryz.func120,by kernel_rfl⟩
theorem HF (g0:Bool) (n0:Nat) (c0:List D):aU pr cv J 120 Tryz.f120 [(.sl (some g0) 16 n0 c0)]=
 (br (pr.u7 (pr.ba n0) (pr.ba n0) 248) (J 0 (jT g0 n0 c0 0 (pr.gF (pr.ba n0)) (fu (pr.gF (pr.ba n0)) [(.int .i64 0),(.bool false),(.bool false),(.nil 1),(.nil 1),(.nil 1),(.bool false),(.bool false),(.bool false),(.int .i64 0),(.nil 1),(.nil 1),(.nil 1),(.nil 1),(.nil 1),(.nil 1)]))) none):=by kernel_rfl
theorem tQ (g0:Bool) (n1:Nat) (c2:List D) (i3:Int) (n4:Nat) (c5:List D):cg pr cv J 120 Tryz.f120 [.undef] 0 (jT g0 n1 c2 i3 n4 c5)=
 (br (pr.lt i3 (pr.ba n1)) (br (pr.bR i3 n1) (br (br (pr.da .i64 c2 (pr.idx 0 i3 16)) (br (pr.eH c2 ((pr.idx 0 i3 16)+1)) (br (pr.eH c2 ((pr.idx 0 i3 16)+2)) (br (pr.cZ 1 c2 ((pr.idx 0 i3 16)+3)) (br (pr.cZ 1 c2 ((pr.idx 0 i3 16)+4)) (br (pr.cZ 1 c2 ((pr.idx 0 i3 16)+5)) (br (pr.eH c2 ((pr.idx 0 i3 16)+6)) (br (pr.eH c2 ((pr.idx 0 i3 16)+7)) (br (pr.eH c2 ((pr.idx 0 i3 16)+8)) (br (pr.da .i64 c2 ((pr.idx 0 i3 16)+9)) (br (pr.cZ 1 c2 ((pr.idx 0 i3 16)+10)) (br (pr.cZ 1 c2 ((pr.idx 0 i3 16)+11)) (br (pr.cZ 1 c2 ((pr.idx 0 i3 16)+12)) (br (pr.cZ 1 c2 ((pr.idx 0 i3 16)+13)) (br (pr.cZ 1 c2 ((pr.idx 0 i3 16)+14)) (br (pr.cZ 1 c2 ((pr.idx 0 i3 16)+15)) true false) false) false) false) false) false) false) false) false) false) false) false) false) false) false) false) (cv 17 [(.agg [(.int .i64 (pr.cd c2 (pr.idx 0 i3 16))),(.bool (pr.df c2 ((pr.idx 0 i3 16)+1))),(.bool (pr.df c2 ((pr.idx 0 i3 16)+2))),(.sl (some (pr.cD c2 ((pr.idx 0 i3 16)+3))) 1 (pr.bM c2 ((pr.idx 0 i3 16)+3)) (pr.bP c2 ((pr.idx 0 i3 16)+3))),(.sl (some (pr.cD c2 ((pr.idx 0 i3 16)+4))) 1 (pr.bM c2 ((pr.idx 0 i3 16)+4)) (pr.bP c2 ((pr.idx 0 i3 16)+4))),(.sl (some (pr.cD c2 ((pr.idx 0 i3 16)+5))) 1 (pr.bM c2 ((pr.idx 0 i3 16)+5)) (pr.bP c2 ((pr.idx 0 i3 16)+5))),(.bool (pr.df c2 ((pr.idx 0 i3 16)+6))),(.bool (pr.df c2 ((pr.idx 0 i3 16)+7))),(.bool (pr.df c2 ((pr.idx 0 i3 16)+8))),(.int .i64 (pr.cd c2 ((pr.idx 0 i3 16)+9))),(.sl (some (pr.cD c2 ((pr.idx 0 i3 16)+10))) 1 (pr.bM c2 ((pr.idx 0 i3 16)+10)) (pr.bP c2 ((pr.idx 0 i3 16)+10))),(.sl (some (pr.cD c2 ((pr.idx 0 i3 16)+11))) 1 (pr.bM c2 ((pr.idx 0 i3 16)+11)) (pr.bP c2 ((pr.idx 0 i3 16)+11))),(.sl (some (pr.cD c2 ((pr.idx 0 i3 16)+12))) 1 (pr.bM c2 ((pr.idx 0 i3 16)+12)) (pr.bP c2 ((pr.idx 0 i3 16)+12))),(.sl (some (pr.cD c2 ((pr.idx 0 i3 16)+13))) 1 (pr.bM c2 ((pr.idx 0 i3 16)+13)) (pr.bP c2 ((pr.idx 0 i3 16)+13))),(.sl (some (pr.cD c2 ((pr.idx 0 i3 16)+14))) 1 (pr.bM c2 ((pr.idx 0 i3 16)+14)) (pr.bP c2 ((pr.idx 0 i3 16)+14))),(.sl (some (pr.cD c2 ((pr.idx 0 i3 16)+15))) 1 (pr.bM c2 ((pr.idx 0 i3 16)+15)) (pr.bP c2 ((pr.idx 0 i3 16)+15)))])] (.ty cJ.node (fun (au:U)=>(.done (br (pr.bR i3 n4) (br (br (pr.ne c5) (br (pr.slot c5 (pr.idx 0 i3 16)) (br (pr.slot (List.set c5 (pr.idx 0 i3 16) (.int .i64 au.id)) ((pr.idx 0 i3 16)+1)) (br (pr.slot (List.set (List.set c5 (pr.idx 0 i3 16) (.int .i64 au.id)) ((pr.idx 0 i3 16)+1) (.bool au.up)) ((pr.idx 0 i3 16)+2)) (br (pr.jL 1 (List.set (List.set (List.set c5 (pr.idx 0 i3 16) (.int .i64 au.id)) ((pr.idx 0 i3 16)+1) (.bool au.up)) ((pr.idx 0 i3 16)+2) (.bool au.bS)) ((pr.idx 0 i3 16)+3)) (br (pr.jL 1 (List.set (List.set (List.set (List.set c5 (pr.idx 0 i3 16) (.int .i64 au.id)) ((pr.idx 0 i3 16)+1) (.bool au.up)) ((pr.idx 0 i3 16)+2) (.bool au.bS)) ((pr.idx 0 i3 16)+3) (.sl none 1 (List.length au.image) (List.map (.int .i64) au.image))) ((pr.idx 0 i3 16)+4)) (br (pr.jL 1 (List.set (List.set (List.set (List.set (List.set c5 (pr.idx 0 i3 16) (.int .i64 au.id)) ((pr.idx 0 i3 16)+1) (.bool au.up)) ((pr.idx 0 i3 16)+2) (.bool au.bS)) ((pr.idx 0 i3 16)+3) (.sl none 1 (List.length au.image) (List.map (.int .i64) au.image))) ((pr.idx 0 i3 16)+4) (.sl none 1 (List.length (U.mt au).av) (List.map (.int .i64) (U.mt au).av))) ((pr.idx 0 i3 16)+5)) (br (pr.slot (List.set (List.set (List.set (List.set (List.set (List.set c5 (pr.idx 0 i3 16) (.int .i64 au.id)) ((pr.idx 0 i3 16)+1) (.bool au.up)) ((pr.idx 0 i3 16)+2) (.bool au.bS)) ((pr.idx 0 i3 16)+3) (.sl none 1 (List.length au.image) (List.map (.int .i64) au.image))) ((pr.idx 0 i3 16)+4) (.sl none 1 (List.length (U.mt au).av) (List.map (.int .i64) (U.mt au).av))) ((pr.idx 0 i3 16)+5) (.sl none 1 (List.length (U.mt au).bits) (List.map (fun xs=>(.sl none 1 (List.length xs) (ints xs))) (U.mt au).bits))) ((pr.idx 0 i3 16)+6)) (br (pr.slot (List.set (List.set (List.set (List.set (List.set (List.set (List.set c5 (pr.idx 0 i3 16) (.int .i64 au.id)) ((pr.idx 0 i3 16)+1) (.bool au.up)) ((pr.idx 0 i3 16)+2) (.bool au.bS)) ((pr.idx 0 i3 16)+3) (.sl none 1 (List.length au.image) (List.map (.int .i64) au.image))) ((pr.idx 0 i3 16)+4) (.sl none 1 (List.length (U.mt au).av) (List.map (.int .i64) (U.mt au).av))) ((pr.idx 0 i3 16)+5) (.sl none 1 (List.length (U.mt au).bits) (List.map (fun xs=>(.sl none 1 (List.length xs) (ints xs))) (U.mt au).bits))) ((pr.idx 0 i3 16)+6) (.bool (U.mt au).cf)) ((pr.idx 0 i3 16)+7)) (br (pr.slot (List.set (List.set (List.set (List.set (List.set (List.set (List.set (List.set c5 (pr.idx 0 i3 16) (.int .i64 au.id)) ((pr.idx 0 i3 16)+1) (.bool au.up)) ((pr.idx 0 i3 16)+2) (.bool au.bS)) ((pr.idx 0 i3 16)+3) (.sl none 1 (List.length au.image) (List.map (.int .i64) au.image))) ((pr.idx 0 i3 16)+4) (.sl none 1 (List.length (U.mt au).av) (List.map (.int .i64) (U.mt au).av))) ((pr.idx 0 i3 16)+5) (.sl none 1 (List.length (U.mt au).bits) (List.map (fun xs=>(.sl none 1 (List.length xs) (ints xs))) (U.mt au).bits))) ((pr.idx 0 i3 16)+6) (.bool (U.mt au).cf)) ((pr.idx 0 i3 16)+7) (.bool (U.mt au).bB)) ((pr.idx 0 i3 16)+8)) (br (pr.slot (List.set (List.set (List.set (List.set (List.set (List.set (List.set (List.set (List.set c5 (pr.idx 0 i3 16) (.int .i64 au.id)) ((pr.idx 0 i3 16)+1) (.bool au.up)) ((pr.idx 0 i3 16)+2) (.bool au.bS)) ((pr.idx 0 i3 16)+3) (.sl none 1 (List.length au.image) (List.map (.int .i64) au.image))) ((pr.idx 0 i3 16)+4) (.sl none 1 (List.length (U.mt au).av) (List.map (.int .i64) (U.mt au).av))) ((pr.idx 0 i3 16)+5) (.sl none 1 (List.length (U.mt au).bits) (List.map (fun xs=>(.sl none 1 (List.length xs) (ints xs))) (U.mt au).bits))) ((pr.idx 0 i3 16)+6) (.bool (U.mt au).cf)) ((pr.idx 0 i3 16)+7) (.bool (U.mt au).bB)) ((pr.idx 0 i3 16)+8) (.bool (U.mt au).held)) ((pr.idx 0 i3 16)+9)) (br (pr.jL 1 (List.set (List.set (List.set (List.set (List.set (List.set (List.set (List.set (List.set (List.set c5 (pr.idx 0 i3 16) (.int .i64 au.id)) ((pr.idx 0 i3 16)+1) (.bool au.up)) ((pr.idx 0 i3 16)+2) (.bool au.bS)) ((pr.idx 0 i3 16)+3) (.sl none 1 (List.length au.image) (List.map (.int .i64) au.image))) ((pr.idx 0 i3 16)+4) (.sl none 1 (List.length (U.mt au).av) (List.map (.int .i64) (U.mt au).av))) ((pr.idx 0 i3 16)+5) (.sl none 1 (List.length (U.mt au).bits) (List.map (fun xs=>(.sl none 1 (List.length xs) (ints xs))) (U.mt au).bits))) ((pr.idx 0 i3 16)+6) (.bool (U.mt au).cf)) ((pr.idx 0 i3 16)+7) (.bool (U.mt au).bB)) ((pr.idx 0 i3 16)+8) (.bool (U.mt au).held)) ((pr.idx 0 i3 16)+9) (.int .i64 (U.mt au).last)) ((pr.idx 0 i3 16)+10)) (br (pr.jL 1 (List.set (List.set (List.set (List.set (List.set (List.set (List.set (List.set (List.set (List.set (List.set c5 (pr.idx 0 i3 16) (.int .i64 au.id)) ((pr.idx 0 i3 16)+1) (.bool au.up)) ((pr.idx 0 i3 16)+2) (.bool au.bS)) ((pr.idx 0 i3 16)+3) (.sl none 1 (List.length au.image) (List.map (.int .i64) au.image))) ((pr.idx 0 i3 16)+4) (.sl none 1 (List.length (U.mt au).av) (List.map (.int .i64) (U.mt au).av))) ((pr.idx 0 i3 16)+5) (.sl none 1 (List.length (U.mt au).bits) (List.map (fun xs=>(.sl none 1 (List.length xs) (ints xs))) (U.mt au).bits))) ((pr.idx 0 i3 16)+6) (.bool (U.mt au).cf)) ((pr.idx 0 i3 16)+7) (.bool (U.mt au).bB)) ((pr.idx 0 i3 16)+8) (.bool (U.mt au).held)) ((pr.idx 0 i3 16)+9) (.int .i64 (U.mt au).last)) ((pr.idx 0 i3 16)+10) (.sl none 1 (List.length (U.aA au).a) (List.map dz (U.aA au).a))) ((pr.idx 0 i3 16)+11)) (br (pr.jL 1 (List.set (List.set (List.set (List.set (List.set (List.set (List.set (List.set (List.set (List.set (List.set (List.set c5 (pr.idx 0 i3 16) (.int .i64 au.id)) ((pr.idx 0 i3 16)+1) (.bool au.up)) ((pr.idx 0 i3 16)+2) (.bool au.bS)) ((pr.idx 0 i3 16)+3) (.sl none 1 (List.length au.image) (List.map (.int .i64) au.image))) ((pr.idx 0 i3 16)+4) (.sl none 1 (List.length (U.mt au).av) (List.map (.int .i64) (U.mt au).av))) ((pr.idx 0 i3 16)+5) (.sl none 1 (List.length (U.mt au).bits) (List.map (fun xs=>(.sl none 1 (List.length xs) (ints xs))) (U.mt au).bits))) ((pr.idx 0 i3 16)+6) (.bool (U.mt au).cf)) ((pr.idx 0 i3 16)+7) (.bool (U.mt au).bB)) ((pr.idx 0 i3 16)+8) (.bool (U.mt au).held)) ((pr.idx 0 i3 16)+9) (.int .i64 (U.mt au).last)) ((pr.idx 0 i3 16)+10) (.sl none 1 (List.length (U.aA au).a) (List.map dz (U.aA au).a))) ((pr.idx 0 i3 16)+11) (.sl none 1 (List.length (U.aA au).b) (List.map dz (U.aA au).b))) ((pr.idx 0 i3 16)+12)) (br (pr.jL 1 (List.set (List.set (List.set (List.set (List.set (List.set (List.set (List.set (List.set (List.set (List.set (List.set (List.set c5 (pr.idx 0 i3 16) (.int .i64 au.id)) ((pr.idx 0 i3 16)+1) (.bool au.up)) ((pr.idx 0 i3 16)+2) (.bool au.bS)) ((pr.idx 0 i3 16)+3) (.sl none 1 (List.length au.image) (List.map (.int .i64) au.image))) ((pr.idx 0 i3 16)+4) (.sl none 1 (List.length (U.mt au).av) (List.map (.int .i64) (U.mt au).av))) ((pr.idx 0 i3 16)+5) (.sl none 1 (List.length (U.mt au).bits) (List.map (fun xs=>(.sl none 1 (List.length xs) (ints xs))) (U.mt au).bits))) ((pr.idx 0 i3 16)+6) (.bool (U.mt au).cf)) ((pr.idx 0 i3 16)+7) (.bool (U.mt au).bB)) ((pr.idx 0 i3 16)+8) (.bool (U.mt au).held)) ((pr.idx 0 i3 16)+9) (.int .i64 (U.mt au).last)) ((pr.idx 0 i3 16)+10) (.sl none 1 (List.length (U.aA au).a) (List.map dz (U.aA au).a))) ((pr.idx 0 i3 16)+11) (.sl none 1 (List.length (U.aA au).b) (List.map dz (U.aA au).b))) ((pr.idx 0 i3 16)+12) (.sl none 1 (List.length au.conn) (List.map .bool au.conn))) ((pr.idx 0 i3 16)+13)) (br (pr.jL 1 (List.set (List.set (List.set (List.set (List.set (List.set (List.set (List.set (List.set (List.set (List.set (List.set (List.set (List.set c5 (pr.idx 0 i3 16) (.int .i64 au.id)) ((pr.idx 0 i3 16)+1) (.bool au.up)) ((pr.idx 0 i3 16)+2) (.bool au.bS)) ((pr.idx 0 i3 16)+3) (.sl none 1 (List.length au.image) (List.map (.int .i64) au.image))) ((pr.idx 0 i3 16)+4) (.sl none 1 (List.length (U.mt au).av) (List.map (.int .i64) (U.mt au).av))) ((pr.idx 0 i3 16)+5) (.sl none 1 (List.length (U.mt au).bits) (List.map (fun xs=>(.sl none 1 (List.length xs) (ints xs))) (U.mt au).bits))) ((pr.idx 0 i3 16)+6) (.bool (U.mt au).cf)) ((pr.idx 0 i3 16)+7) (.bool (U.mt au).bB)) ((pr.idx 0 i3 16)+8) (.bool (U.mt au).held)) ((pr.idx 0 i3 16)+9) (.int .i64 (U.mt au).last)) ((pr.idx 0 i3 16)+10) (.sl none 1 (List.length (U.aA au).a) (List.map dz (U.aA au).a))) ((pr.idx 0 i3 16)+11) (.sl none 1 (List.length (U.aA au).b) (List.map dz (U.aA au).b))) ((pr.idx 0 i3 16)+12) (.sl none 1 (List.length au.conn) (List.map .bool au.conn))) ((pr.idx 0 i3 16)+13) (.sl none 1 (List.length au.sync) (List.map (fun xs=>(.sl none 1 (List.length xs) (ints xs))) au.sync))) ((pr.idx 0 i3 16)+14)) (br (pr.jL 1 (List.set (List.set (List.set (List.set (List.set (List.set (List.set (List.set (List.set (List.set (List.set (List.set (List.set (List.set (List.set c5 (pr.idx 0 i3 16) (.int .i64 au.id)) ((pr.idx 0 i3 16)+1) (.bool au.up)) ((pr.idx 0 i3 16)+2) (.bool au.bS)) ((pr.idx 0 i3 16)+3) (.sl none 1 (List.length au.image) (List.map (.int .i64) au.image))) ((pr.idx 0 i3 16)+4) (.sl none 1 (List.length (U.mt au).av) (List.map (.int .i64) (U.mt au).av))) ((pr.idx 0 i3 16)+5) (.sl none 1 (List.length (U.mt au).bits) (List.map (fun xs=>(.sl none 1 (List.length xs) (ints xs))) (U.mt au).bits))) ((pr.idx 0 i3 16)+6) (.bool (U.mt au).cf)) ((pr.idx 0 i3 16)+7) (.bool (U.mt au).bB)) ((pr.idx 0 i3 16)+8) (.bool (U.mt au).held)) ((pr.idx 0 i3 16)+9) (.int .i64 (U.mt au).last)) ((pr.idx 0 i3 16)+10) (.sl none 1 (List.length (U.aA au).a) (List.map dz (U.aA au).a))) ((pr.idx 0 i3 16)+11) (.sl none 1 (List.length (U.aA au).b) (List.map dz (U.aA au).b))) ((pr.idx 0 i3 16)+12) (.sl none 1 (List.length au.conn) (List.map .bool au.conn))) ((pr.idx 0 i3 16)+13) (.sl none 1 (List.length au.sync) (List.map (fun xs=>(.sl none 1 (List.length xs) (ints xs))) au.sync))) ((pr.idx 0 i3 16)+14) (.sl none 1 (List.length au.aH) (List.map .bool au.aH))) ((pr.idx 0 i3 16)+15)) true false) false) false) false) false) false) false) false) false) false) false) false) false) false) false) false) false) (cv 999999 [(.sl none 0 0 (List.set (List.set (List.set (List.set (List.set (List.set (List.set (List.set (List.set (List.set (List.set (List.set (List.set (List.set (List.set (List.set c5 (pr.idx 0 i3 16) (.int .i64 au.id)) ((pr.idx 0 i3 16)+1) (.bool au.up)) ((pr.idx 0 i3 16)+2) (.bool au.bS)) ((pr.idx 0 i3 16)+3) (.sl none 1 (List.length au.image) (List.map (.int .i64) au.image))) ((pr.idx 0 i3 16)+4) (.sl none 1 (List.length (U.mt au).av) (List.map (.int .i64) (U.mt au).av))) ((pr.idx 0 i3 16)+5) (.sl none 1 (List.length (U.mt au).bits) (List.map (fun xs=>(.sl none 1 (List.length xs) (ints xs))) (U.mt au).bits))) ((pr.idx 0 i3 16)+6) (.bool (U.mt au).cf)) ((pr.idx 0 i3 16)+7) (.bool (U.mt au).bB)) ((pr.idx 0 i3 16)+8) (.bool (U.mt au).held)) ((pr.idx 0 i3 16)+9) (.int .i64 (U.mt au).last)) ((pr.idx 0 i3 16)+10) (.sl none 1 (List.length (U.aA au).a) (List.map dz (U.aA au).a))) ((pr.idx 0 i3 16)+11) (.sl none 1 (List.length (U.aA au).b) (List.map dz (U.aA au).b))) ((pr.idx 0 i3 16)+12) (.sl none 1 (List.length au.conn) (List.map .bool au.conn))) ((pr.idx 0 i3 16)+13) (.sl none 1 (List.length au.sync) (List.map (fun xs=>(.sl none 1 (List.length xs) (ints xs))) au.sync))) ((pr.idx 0 i3 16)+14) (.sl none 1 (List.length au.aH) (List.map .bool au.aH))) ((pr.idx 0 i3 16)+15) (.sl none 1 (List.length au.wait) (List.map (.int .i64) au.wait))))] (.sl (fun rq=>(fun oD=>(.done (J 0 (jT g0 n1 c2 (pr.ar .add .i64 i3 1) n4 oD))))))) none) none))))) none) none) (some ((.sl none 16 n4 c5),[.undef]))):=by kernel_rfl
def jU (g0:Bool) (n1:Nat) (c2:List D) (g3:Bool) (n4:Nat) (c5:List D) (i6:Int):St:=(St.mk [(0,(.sl (some g0) 16 n1 c2)),(1,(.sl (some g3) 16 n4 c5)),(5,(.int .i64 i6))] [] [] 0)
theorem HG:Told cfg Tryz.prog 127 Tryz.f127:=⟨by kernel_rfl,Tryz.func127,by kernel_rfl⟩
theorem HH (g0:Bool) (n0:Nat) (c0:List D) (g1:Bool) (n1:Nat) (c1:List D):aU pr cv J 127 Tryz.f127 [(.sl (some g0) 16 n0 c0),(.sl (some g1) 16 n1 c1)]=
 (br (br (pr.eq (pr.ba n0) (pr.ba n1)) false true) (some ((.bool false),[.undef,.undef])) (J 0 (jU g0 n0 c0 g1 n1 c1 0))):=by kernel_rfl
theorem tR (g0:Bool) (n1:Nat) (c2:List D) (g3:Bool) (n4:Nat) (c5:List D) (i6:Int):cg pr cv J 127 Tryz.f127 [.undef,.undef] 0 (jU g0 n1 c2 g3 n4 c5 i6)=
 (br (pr.lt i6 (pr.ba n1)) (br (pr.bR i6 n1) (br (br (pr.da .i64 c2 (pr.idx 0 i6 16)) (br (pr.eH c2 ((pr.idx 0 i6 16)+1)) (br (pr.eH c2 ((pr.idx 0 i6 16)+2)) (br (pr.cZ 1 c2 ((pr.idx 0 i6 16)+3)) (br (pr.cZ 1 c2 ((pr.idx 0 i6 16)+4)) (br (pr.cZ 1 c2 ((pr.idx 0 i6 16)+5)) (br (pr.eH c2 ((pr.idx 0 i6 16)+6)) (br (pr.eH c2 ((pr.idx 0 i6 16)+7)) (br (pr.eH c2 ((pr.idx 0 i6 16)+8)) (br (pr.da .i64 c2 ((pr.idx 0 i6 16)+9)) (br (pr.cZ 1 c2 ((pr.idx 0 i6 16)+10)) (br (pr.cZ 1 c2 ((pr.idx 0 i6 16)+11)) (br (pr.cZ 1 c2 ((pr.idx 0 i6 16)+12)) (br (pr.cZ 1 c2 ((pr.idx 0 i6 16)+13)) (br (pr.cZ 1 c2 ((pr.idx 0 i6 16)+14)) (br (pr.cZ 1 c2 ((pr.idx 0 i6 16)+15)) true false) false) false) false) false) false) false) false) false) false) false) false) false) false) false) false) (br (pr.bR i6 n4) (br (br (pr.da .i64 c5 (pr.idx 0 i6 16)) (br (pr.eH c5 ((pr.idx 0 i6 16)+1)) (br (pr.eH c5 ((pr.idx 0 i6 16)+2)) (br (pr.cZ 1 c5 ((pr.idx 0 i6 16)+3)) (br (pr.cZ 1 c5 ((pr.idx 0 i6 16)+4)) (br (pr.cZ 1 c5 ((pr.idx 0 i6 16)+5)) (br (pr.eH c5 ((pr.idx 0 i6 16)+6)) (br (pr.eH c5 ((pr.idx 0 i6 16)+7)) (br (pr.eH c5 ((pr.idx 0 i6 16)+8)) (br (pr.da .i64 c5 ((pr.idx 0 i6 16)+9)) (br (pr.cZ 1 c5 ((pr.idx 0 i6 16)+10)) (br (pr.cZ 1 c5 ((pr.idx 0 i6 16)+11)) (br (pr.cZ 1 c5 ((pr.idx 0 i6 16)+12)) (br (pr.cZ 1 c5 ((pr.idx 0 i6 16)+13)) (br (pr.cZ 1 c5 ((pr.idx 0 i6 16)+14)) (br (pr.cZ 1 c5 ((pr.idx 0 i6 16)+15)) true false) false) false) false) false) false) false) false) false) false) false) false) false) false) false) false) (cv 20 [(.agg [(.int .i64 (pr.cd c2 (pr.idx 0 i6 16))),(.bool (pr.df c2 ((pr.idx 0 i6 16)+1))),(.bool (pr.df c2 ((pr.idx 0 i6 16)+2))),(.sl (some (pr.cD c2 ((pr.idx 0 i6 16)+3))) 1 (pr.bM c2 ((pr.idx 0 i6 16)+3)) (pr.bP c2 ((pr.idx 0 i6 16)+3))),(.sl (some (pr.cD c2 ((pr.idx 0 i6 16)+4))) 1 (pr.bM c2 ((pr.idx 0 i6 16)+4)) (pr.bP c2 ((pr.idx 0 i6 16)+4))),(.sl (some (pr.cD c2 ((pr.idx 0 i6 16)+5))) 1 (pr.bM c2 ((pr.idx 0 i6 16)+5)) (pr.bP c2 ((pr.idx 0 i6 16)+5))),(.bool (pr.df c2 ((pr.idx 0 i6 16)+6))),(.bool (pr.df c2 ((pr.idx 0 i6 16)+7))),(.bool (pr.df c2 ((pr.idx 0 i6 16)+8))),(.int .i64 (pr.cd c2 ((pr.idx 0 i6 16)+9))),(.sl (some (pr.cD c2 ((pr.idx 0 i6 16)+10))) 1 (pr.bM c2 ((pr.idx 0 i6 16)+10)) (pr.bP c2 ((pr.idx 0 i6 16)+10))),(.sl (some (pr.cD c2 ((pr.idx 0 i6 16)+11))) 1 (pr.bM c2 ((pr.idx 0 i6 16)+11)) (pr.bP c2 ((pr.idx 0 i6 16)+11))),(.sl (some (pr.cD c2 ((pr.idx 0 i6 16)+12))) 1 (pr.bM c2 ((pr.idx 0 i6 16)+12)) (pr.bP c2 ((pr.idx 0 i6 16)+12))),(.sl (some (pr.cD c2 ((pr.idx 0 i6 16)+13))) 1 (pr.bM c2 ((pr.idx 0 i6 16)+13)) (pr.bP c2 ((pr.idx 0 i6 16)+13))),(.sl (some (pr.cD c2 ((pr.idx 0 i6 16)+14))) 1 (pr.bM c2 ((pr.idx 0 i6 16)+14)) (pr.bP c2 ((pr.idx 0 i6 16)+14))),(.sl (some (pr.cD c2 ((pr.idx 0 i6 16)+15))) 1 (pr.bM c2 ((pr.idx 0 i6 16)+15)) (pr.bP c2 ((pr.idx 0 i6 16)+15)))]),(.agg [(.int .i64 (pr.cd c5 (pr.idx 0 i6 16))),(.bool (pr.df c5 ((pr.idx 0 i6 16)+1))),(.bool (pr.df c5 ((pr.idx 0 i6 16)+2))),(.sl (some (pr.cD c5 ((pr.idx 0 i6 16)+3))) 1 (pr.bM c5 ((pr.idx 0 i6 16)+3)) (pr.bP c5 ((pr.idx 0 i6 16)+3))),(.sl (some (pr.cD c5 ((pr.idx 0 i6 16)+4))) 1 (pr.bM c5 ((pr.idx 0 i6 16)+4)) (pr.bP c5 ((pr.idx 0 i6 16)+4))),(.sl (some (pr.cD c5 ((pr.idx 0 i6 16)+5))) 1 (pr.bM c5 ((pr.idx 0 i6 16)+5)) (pr.bP c5 ((pr.idx 0 i6 16)+5))),(.bool (pr.df c5 ((pr.idx 0 i6 16)+6))),(.bool (pr.df c5 ((pr.idx 0 i6 16)+7))),(.bool (pr.df c5 ((pr.idx 0 i6 16)+8))),(.int .i64 (pr.cd c5 ((pr.idx 0 i6 16)+9))),(.sl (some (pr.cD c5 ((pr.idx 0 i6 16)+10))) 1 (pr.bM c5 ((pr.idx 0 i6 16)+10)) (pr.bP c5 ((pr.idx 0 i6 16)+10))),(.sl (some (pr.cD c5 ((pr.idx 0 i6 16)+11))) 1 (pr.bM c5 ((pr.idx 0 i6 16)+11)) (pr.bP c5 ((pr.idx 0 i6 16)+11))),(.sl (some (pr.cD c5 ((pr.idx 0 i6 16)+12))) 1 (pr.bM c5 ((pr.idx 0 i6 16)+12)) (pr.bP c5 ((pr.idx 0 i6 16)+12))),(.sl (some (pr.cD c5 ((pr.idx 0 i6 16)+13))) 1 (pr.bM c5 ((pr.idx 0 i6 16)+13)) (pr.bP c5 ((pr.idx 0 i6 16)+13))),(.sl (some (pr.cD c5 ((pr.idx 0 i6 16)+14))) 1 (pr.bM c5 ((pr.idx 0 i6 16)+14)) (pr.bP c5 ((pr.idx 0 i6 16)+14))),(.sl (some (pr.cD c5 ((pr.idx 0 i6 16)+15))) 1 (pr.bM c5 ((pr.idx 0 i6 16)+15)) (pr.bP c5 ((pr.idx 0 i6 16)+15)))])] (.bool (fun ct=>(.done (br (br ct false true) (some ((.bool false),[.undef,.undef])) (J 0 (jU g0 n1 c2 g3 n4 c5 (pr.ar .add .i64 i6 1)))))))) none) none) none) none) (some ((.bool true),[.undef,.undef]))):=by kernel_rfl
theorem Kv:Told cfg Tryz.prog 191 Tryz.f191:=⟨by kernel_rfl,Tryz.func191,by kernel_rfl⟩
theorem Kw (a0:Int) (a1:Int) (g2:Bool) (n2:Nat) (c2:List D) (a3:Int):aU pr cv J 191 Tryz.f191 [(.agg [(.int .i64 a0),(.int .i64 a1),(.sl (some g2) 1 n2 c2)]),(.int .i64 a3)]=
 (cv 159 [(.sl (some g2) 1 n2 c2),(.int .i64 a3)] (.int (fun dj=>(.done (br (pr.lt dj 0) (some ((.int .i64 (-1)),[.undef,.undef])) (some ((.int .i64 dj),[.undef,.undef]))))))):=by kernel_rfl
theorem Kx:Told cfg Tryz.prog 197 Tryz.f197:=⟨by kernel_rfl,Tryz.func197,by kernel_rfl⟩
theorem Ky (a0:Int) (a1:Int) (g2:Bool) (n2:Nat) (c2:List D):aU pr cv J 197 Tryz.f197 [(.agg [(.int .i64 a0),(.int .i64 a1),(.sl (some g2) 1 n2 c2)])]=
 (cv 166 [(.sl (some g2) 1 n2 c2)] (.sl (fun dU=>(fun dg=>(.done (br (br (br (pr.nl dg) true false) true false) (some ((.agg [(.int .i64 a0),(.int .i64 a1),(.sl none 1 dU dg)]),[.undef])) none)))))):=by kernel_rfl
theorem Kz:Told cfg Tryz.prog 207 Tryz.f207:=⟨by kernel_rfl,Tryz.func207,by kernel_rfl⟩
theorem KA (a0:Int) (a1:Int) (g2:Bool) (n2:Nat) (c2:List D) (a3:Int) (a4:Int) (g5:Bool) (n5:Nat) (c5:List D):aU pr cv J 207 Tryz.f207 [(.agg [(.int .i64 a0),(.int .i64 a1),(.sl (some g2) 1 n2 c2)]),(.agg [(.int .i64 a3),(.int .i64 a4),(.sl (some g5) 1 n5 c5)])]=
 let y1:Option (D × List D):=(some ((.bool false),[.undef,.undef]))
 (br (br (pr.eq a0 a3) false true) y1 (br (br (pr.eq a1 a4) false true) y1 (cv 175 [(.sl (some g2) 1 n2 c2),(.sl (some g5) 1 n5 c5)] (.bool (fun ct=>(.done (br (br ct false true) y1 (some ((.bool true),[.undef,.undef]))))))))):=by kernel_rfl
def mB (g0:Bool) (n1:Nat) (c2:List D) (i3:Int) (i4:Int):St:=(St.mk [(0,(.sl (some g0) 3 n1 c2)),(1,(.int .i64 i3)),(5,(.int .i64 i4))] [] [] 0)
theorem xU:Told cfg Tryz.prog 114 Tryz.f114:=⟨by kernel_rfl,Tryz.func114,by kernel_rfl⟩
theorem xV (g0:Bool) (n0:Nat) (c0:List D) (a1:Int):aU pr cv J 114 Tryz.f114 [(.sl (some g0) 3 n0 c0),(.int .i64 a1)]=
 (br (pr.lt (pr.ar .sub .i64 a1 (pr.ba n0)) 0) (some ((.int .i64 (-1)),[.undef,.undef])) (J 0 (mB g0 n0 c0 (pr.ar .sub .i64 a1 (pr.ba n0)) 0))):=by kernel_rfl
theorem oN (g0:Bool) (n1:Nat) (c2:List D) (i3:Int) (i4:Int):cg pr cv J 114 Tryz.f114 [.undef,.undef] 0 (mB g0 n1 c2 i3 i4)=
 (br (pr.lt i4 (pr.ba n1)) (br (pr.bR i4 n1) (br (br (pr.da .i64 c2 (pr.idx 0 i4 3)) (br (pr.da .i64 c2 ((pr.idx 0 i4 3)+1)) (br (pr.cZ 1 c2 ((pr.idx 0 i4 3)+2)) true false) false) false) (cv 191 [(.agg [(.int .i64 (pr.cd c2 (pr.idx 0 i4 3))),(.int .i64 (pr.cd c2 ((pr.idx 0 i4 3)+1))),(.sl (some (pr.cD c2 ((pr.idx 0 i4 3)+2))) 1 (pr.bM c2 ((pr.idx 0 i4 3)+2)) (pr.bP c2 ((pr.idx 0 i4 3)+2)))]),(.int .i64 i3)] (.int (fun dj=>(.done (br (pr.lt dj 0) (some ((.int .i64 (-1)),[.undef,.undef])) (J 0 (mB g0 n1 c2 dj (pr.ar .add .i64 i4 1)))))))) none) none) (some ((.int .i64 i3),[.undef,.undef]))):=by kernel_rfl
def jV (g0:Bool) (n1:Nat) (c2:List D) (i3:Int) (n4:Nat) (c5:List D):St:=(St.mk [(0,(.sl (some g0) 3 n1 c2)),(3,(.ref 10003 [] 0 none)),(4,(.int .i64 i3))] [(10003,[(.sl none 3 n4 c5)])] [] 0)
theorem HI:Told cfg Tryz.prog 121 Tryz.f121:=⟨by kernel_rfl,Tryz.func121,by kernel_rfl⟩
theorem HJ (g0:Bool) (n0:Nat) (c0:List D):aU pr cv J 121 Tryz.f121 [(.sl (some g0) 3 n0 c0)]=
 (br (pr.u7 (pr.ba n0) (pr.ba n0) 40) (J 0 (jV g0 n0 c0 0 (pr.gF (pr.ba n0)) (fu (pr.gF (pr.ba n0)) [(.int .i64 0),(.int .i64 0),(.nil 1)]))) none):=by kernel_rfl
theorem tS (g0:Bool) (n1:Nat) (c2:List D) (i3:Int) (n4:Nat) (c5:List D):cg pr cv J 121 Tryz.f121 [.undef] 0 (jV g0 n1 c2 i3 n4 c5)=
 (br (pr.lt i3 (pr.ba n1)) (br (pr.bR i3 n1) (br (br (pr.da .i64 c2 (pr.idx 0 i3 3)) (br (pr.da .i64 c2 ((pr.idx 0 i3 3)+1)) (br (pr.cZ 1 c2 ((pr.idx 0 i3 3)+2)) true false) false) false) (cv 197 [(.agg [(.int .i64 (pr.cd c2 (pr.idx 0 i3 3))),(.int .i64 (pr.cd c2 ((pr.idx 0 i3 3)+1))),(.sl (some (pr.cD c2 ((pr.idx 0 i3 3)+2))) 1 (pr.bM c2 ((pr.idx 0 i3 3)+2)) (pr.bP c2 ((pr.idx 0 i3 3)+2)))])] (.int (fun dj=>(.int (fun fk=>(.sl (fun oA=>(fun iT=>(.done (br (br (br (pr.nl iT) true false) true false) (br (pr.bR i3 n4) (br (br (pr.ne c5) (br (pr.slot c5 (pr.idx 0 i3 3)) (br (pr.slot (List.set c5 (pr.idx 0 i3 3) (.int .i64 dj)) ((pr.idx 0 i3 3)+1)) (br (pr.jL 1 (List.set (List.set c5 (pr.idx 0 i3 3) (.int .i64 dj)) ((pr.idx 0 i3 3)+1) (.int .i64 fk)) ((pr.idx 0 i3 3)+2)) true false) false) false) false) (cv 999999 [(.sl none 0 0 (List.set (List.set (List.set c5 (pr.idx 0 i3 3) (.int .i64 dj)) ((pr.idx 0 i3 3)+1) (.int .i64 fk)) ((pr.idx 0 i3 3)+2) (.sl none 1 oA iT)))] (.sl (fun xP=>(fun tP=>(.done (J 0 (jV g0 n1 c2 (pr.ar .add .i64 i3 1) n4 tP))))))) none) none) none)))))))))) none) none) (some ((.sl none 3 n4 c5),[.undef]))):=by kernel_rfl
def jW (g0:Bool) (n1:Nat) (c2:List D) (g3:Bool) (n4:Nat) (c5:List D) (i6:Int):St:=(St.mk [(0,(.sl (some g0) 3 n1 c2)),(1,(.sl (some g3) 3 n4 c5)),(5,(.int .i64 i6))] [] [] 0)
theorem HK:Told cfg Tryz.prog 128 Tryz.f128:=⟨by kernel_rfl,Tryz.func128,by kernel_rfl⟩
theorem HL (g0:Bool) (n0:Nat) (c0:List D) (g1:Bool) (n1:Nat) (c1:List D):aU pr cv J 128 Tryz.f128 [(.sl (some g0) 3 n0 c0),(.sl (some g1) 3 n1 c1)]=
 (br (br (pr.eq (pr.ba n0) (pr.ba n1)) false true) (some ((.bool false),[.undef,.undef])) (J 0 (jW g0 n0 c0 g1 n1 c1 0))):=by kernel_rfl
theorem tT (g0:Bool) (n1:Nat) (c2:List D) (g3:Bool) (n4:Nat) (c5:List D) (i6:Int):cg pr cv J 128 Tryz.f128 [.undef,.undef] 0 (jW g0 n1 c2 g3 n4 c5 i6)=
 (br (pr.lt i6 (pr.ba n1)) (br (pr.bR i6 n1) (br (br (pr.da .i64 c2 (pr.idx 0 i6 3)) (br (pr.da .i64 c2 ((pr.idx 0 i6 3)+1)) (br (pr.cZ 1 c2 ((pr.idx 0 i6 3)+2)) true false) false) false) (br (pr.bR i6 n4) (br (br (pr.da .i64 c5 (pr.idx 0 i6 3)) (br (pr.da .i64 c5 ((pr.idx 0 i6 3)+1)) (br (pr.cZ 1 c5 ((pr.idx 0 i6 3)+2)) true false) false) false) (cv 207 [(.agg [(.int .i64 (pr.cd c2 (pr.idx 0 i6 3))),(.int .i64 (pr.cd c2 ((pr.idx 0 i6 3)+1))),(.sl (some (pr.cD c2 ((pr.idx 0 i6 3)+2))) 1 (pr.bM c2 ((pr.idx 0 i6 3)+2)) (pr.bP c2 ((pr.idx 0 i6 3)+2)))]),(.agg [(.int .i64 (pr.cd c5 (pr.idx 0 i6 3))),(.int .i64 (pr.cd c5 ((pr.idx 0 i6 3)+1))),(.sl (some (pr.cD c5 ((pr.idx 0 i6 3)+2))) 1 (pr.bM c5 ((pr.idx 0 i6 3)+2)) (pr.bP c5 ((pr.idx 0 i6 3)+2)))])] (.bool (fun ct=>(.done (br (br ct false true) (some ((.bool false),[.undef,.undef])) (J 0 (jW g0 n1 c2 g3 n4 c5 (pr.ar .add .i64 i6 1)))))))) none) none) none) none) (some ((.bool true),[.undef,.undef]))):=by kernel_rfl
theorem OG:Told cfg Tryz.prog 198 Tryz.f198:=⟨by kernel_rfl,Tryz.func198,by kernel_rfl⟩
theorem OI (a0:Int) (a1:Int):aU pr cv J 198 Tryz.f198 [(.agg [(.int .i64 a0),(.int .i64 a1)])]=
 (some ((.agg [(.int .i64 a0),(.int .i64 a1)]),[.undef])):=by kernel_rfl
theorem OJ:Told cfg Tryz.prog 208 Tryz.f208:=⟨by kernel_rfl,Tryz.func208,by kernel_rfl⟩
theorem OK (a0:Int) (a1:Int) (a2:Int) (a3:Int):aU pr cv J 208 Tryz.f208 [(.agg [(.int .i64 a0),(.int .i64 a1)]),(.agg [(.int .i64 a2),(.int .i64 a3)])]=
 let y1:Option (D × List D):=(some ((.bool false),[.undef,.undef]))
 (br (br (pr.eq a0 a2) false true) y1 (br (br (pr.eq a1 a3) false true) y1 (some ((.bool true),[.undef,.undef])))):=by kernel_rfl
theorem KC:Told cfg Tryz.prog 115 Tryz.f115:=⟨by kernel_rfl,Tryz.func115,by kernel_rfl⟩
theorem KD (g0:Bool) (n0:Nat) (c0:List D) (a1:Int):aU pr cv J 115 Tryz.f115 [(.sl (some g0) 2 n0 c0),(.int .i64 a1)]=
 (br (pr.lt (pr.ar .sub .i64 a1 (pr.ba n0)) 0) (some ((.int .i64 (-1)),[.undef,.undef])) (some ((.int .i64 (pr.ar .sub .i64 a1 (pr.ba n0))),[.undef,.undef]))):=by kernel_rfl
def kK (g0:Bool) (n1:Nat) (c2:List D) (i3:Int) (n4:Nat) (c5:List D):St:=(St.mk [(0,(.sl (some g0) 2 n1 c2)),(3,(.ref 10003 [] 0 none)),(4,(.int .i64 i3))] [(10003,[(.sl none 2 n4 c5)])] [] 0)
theorem KE:Told cfg Tryz.prog 122 Tryz.f122:=⟨by kernel_rfl,Tryz.func122,by kernel_rfl⟩
theorem KF (g0:Bool) (n0:Nat) (c0:List D):aU pr cv J 122 Tryz.f122 [(.sl (some g0) 2 n0 c0)]=
 (br (pr.u7 (pr.ba n0) (pr.ba n0) 16) (J 0 (kK g0 n0 c0 0 (pr.gF (pr.ba n0)) (fu (pr.gF (pr.ba n0)) [(.int .i64 0),(.int .i64 0)]))) none):=by kernel_rfl
theorem vp (g0:Bool) (n1:Nat) (c2:List D) (i3:Int) (n4:Nat) (c5:List D):cg pr cv J 122 Tryz.f122 [.undef] 0 (kK g0 n1 c2 i3 n4 c5)=
 (br (pr.lt i3 (pr.ba n1)) (br (pr.bR i3 n1) (br (br (pr.da .i64 c2 (pr.idx 0 i3 2)) (br (pr.da .i64 c2 ((pr.idx 0 i3 2)+1)) true false) false) (cv 198 [(.agg [(.int .i64 (pr.cd c2 (pr.idx 0 i3 2))),(.int .i64 (pr.cd c2 ((pr.idx 0 i3 2)+1)))])] (.int (fun dj=>(.int (fun fk=>(.done (br (pr.bR i3 n4) (br (br (pr.ne c5) (br (pr.slot c5 (pr.idx 0 i3 2)) (br (pr.slot (List.set c5 (pr.idx 0 i3 2) (.int .i64 dj)) ((pr.idx 0 i3 2)+1)) true false) false) false) (cv 999999 [(.sl none 0 0 (List.set (List.set c5 (pr.idx 0 i3 2) (.int .i64 dj)) ((pr.idx 0 i3 2)+1) (.int .i64 fk)))] (.sl (fun oA=>(fun iT=>(.done (J 0 (kK g0 n1 c2 (pr.ar .add .i64 i3 1) n4 iT))))))) none) none))))))) none) none) (some ((.sl none 2 n4 c5),[.undef]))):=by kernel_rfl
def kL (g0:Bool) (n1:Nat) (c2:List D) (g3:Bool) (n4:Nat) (c5:List D) (i6:Int):St:=(St.mk [(0,(.sl (some g0) 2 n1 c2)),(1,(.sl (some g3) 2 n4 c5)),(5,(.int .i64 i6))] [] [] 0)
theorem KG:Told cfg Tryz.prog 129 Tryz.f129:=⟨by kernel_rfl,Tryz.func129,by kernel_rfl⟩
theorem KH (g0:Bool) (n0:Nat) (c0:List D) (g1:Bool) (n1:Nat) (c1:List D):aU pr cv J 129 Tryz.f129 [(.sl (some g0) 2 n0 c0),(.sl (some g1) 2 n1 c1)]=
 (br (br (pr.eq (pr.ba n0) (pr.ba n1)) false true) (some ((.bool false),[.undef,.undef])) (J 0 (kL g0 n0 c0 g1 n1 c1 0))):=by kernel_rfl
theorem vq (g0:Bool) (n1:Nat) (c2:List D) (g3:Bool) (n4:Nat) (c5:List D) (i6:Int):cg pr cv J 129 Tryz.f129 [.undef,.undef] 0 (kL g0 n1 c2 g3 n4 c5 i6)=
 (br (pr.lt i6 (pr.ba n1)) (br (pr.bR i6 n1) (br (br (pr.da .i64 c2 (pr.idx 0 i6 2)) (br (pr.da .i64 c2 ((pr.idx 0 i6 2)+1)) true false) false) (br (pr.bR i6 n4) (br (br (pr.da .i64 c5 (pr.idx 0 i6 2)) (br (pr.da .i64 c5 ((pr.idx 0 i6 2)+1)) true false) false) (cv 208 [(.agg [(.int .i64 (pr.cd c2 (pr.idx 0 i6 2))),(.int .i64 (pr.cd c2 ((pr.idx 0 i6 2)+1)))]),(.agg [(.int .i64 (pr.cd c5 (pr.idx 0 i6 2))),(.int .i64 (pr.cd c5 ((pr.idx 0 i6 2)+1)))])] (.bool (fun ct=>(.done (br (br ct false true) (some ((.bool false),[.undef,.undef])) (J 0 (kL g0 n1 c2 g3 n4 c5 (pr.ar .add .i64 i6 1)))))))) none) none) none) none) (some ((.bool true),[.undef,.undef]))):=by kernel_rfl
theorem HM:Told cfg Tryz.prog 34 Tryz.f34:=⟨by kernel_rfl,Tryz.func34,by kernel_rfl⟩
theorem HN (g0:Bool) (n0:Nat) (c0:List D) (g1:Bool) (n1:Nat) (c1:List D) (g2:Bool) (n2:Nat) (c2:List D) (g3:Bool) (n3:Nat) (c3:List D) (a4:Int) (a5:Int):aU pr cv J 34 Tryz.f34 [(.agg [(.sl (some g0) 16 n0 c0),(.sl (some g1) 3 n1 c1),(.sl (some g2) 2 n2 c2),(.sl (some g3) 1 n3 c3),(.int .i64 a4)]),(.int .i64 a5)]=
 let y1:Option (D × List D):=(some ((.int .i64 (-1)),[.undef,.undef]))
 (cv 113 [(.sl (some g0) 16 n0 c0),(.int .i64 a5)] (.int (fun dj=>(.done (br (pr.lt dj 0) y1 (cv 114 [(.sl (some g1) 3 n1 c1),(.int .i64 dj)] (.int (fun fk=>(.done (br (pr.lt fk 0) y1 (cv 115 [(.sl (some g2) 2 n2 c2),(.int .i64 fk)] (.int (fun lU=>(.done (br (pr.lt lU 0) y1 (cv 64 [(.sl (some g3) 1 n3 c3),(.int .i64 lU)] (.int (fun rn=>(.done (br (pr.lt rn 0) y1 (some ((.int .i64 rn),[.undef,.undef])))))))))))))))))))))):=by kernel_rfl
theorem HO:Told cfg Tryz.prog 36 Tryz.f36:=⟨by kernel_rfl,Tryz.func36,by kernel_rfl⟩
theorem HP (g0:Bool) (n0:Nat) (c0:List D) (g1:Bool) (n1:Nat) (c1:List D) (g2:Bool) (n2:Nat) (c2:List D) (g3:Bool) (n3:Nat) (c3:List D) (a4:Int):aU pr cv J 36 Tryz.f36 [(.agg [(.sl (some g0) 16 n0 c0),(.sl (some g1) 3 n1 c1),(.sl (some g2) 2 n2 c2),(.sl (some g3) 1 n3 c3),(.int .i64 a4)])]=
 (cv 120 [(.sl (some g0) 16 n0 c0)] (.sl (fun dU=>(fun dg=>(.done (br (br (br (pr.nl dg) true false) true false) (cv 121 [(.sl (some g1) 3 n1 c1)] (.sl (fun oA=>(fun iT=>(.done (br (br (br (pr.nl iT) true false) true false) (cv 122 [(.sl (some g2) 2 n2 c2)] (.sl (fun xP=>(fun tP=>(.done (br (br (br (pr.nl tP) true false) true false) (cv 71 [(.sl (some g3) 1 n3 c3)] (.sl (fun Z3=>(fun VV=>(.done (br (br (br (pr.nl VV) true false) true false) (some ((.agg [(.sl none 16 dU dg),(.sl none 3 oA iT),(.sl none 2 xP tP),(.sl none 1 Z3 VV),(.int .i64 a4)]),[.undef])) none)))))) none)))))) none)))))) none)))))):=by kernel_rfl
theorem HQ:Told cfg Tryz.prog 38 Tryz.f38:=⟨by kernel_rfl,Tryz.func38,by kernel_rfl⟩
theorem HR (g0:Bool) (n0:Nat) (c0:List D) (g1:Bool) (n1:Nat) (c1:List D) (g2:Bool) (n2:Nat) (c2:List D) (g3:Bool) (n3:Nat) (c3:List D) (a4:Int) (g5:Bool) (n5:Nat) (c5:List D) (g6:Bool) (n6:Nat) (c6:List D) (g7:Bool) (n7:Nat) (c7:List D) (g8:Bool) (n8:Nat) (c8:List D) (a9:Int):aU pr cv J 38 Tryz.f38 [(.agg [(.sl (some g0) 16 n0 c0),(.sl (some g1) 3 n1 c1),(.sl (some g2) 2 n2 c2),(.sl (some g3) 1 n3 c3),(.int .i64 a4)]),(.agg [(.sl (some g5) 16 n5 c5),(.sl (some g6) 3 n6 c6),(.sl (some g7) 2 n7 c7),(.sl (some g8) 1 n8 c8),(.int .i64 a9)])]=
 let y1:Option (D × List D):=(some ((.bool false),[.undef,.undef]))
 (cv 127 [(.sl (some g0) 16 n0 c0),(.sl (some g5) 16 n5 c5)] (.bool (fun ct=>(.done (br (br ct false true) y1 (cv 128 [(.sl (some g1) 3 n1 c1),(.sl (some g6) 3 n6 c6)] (.bool (fun hZ=>(.done (br (br hZ false true) y1 (cv 129 [(.sl (some g2) 2 n2 c2),(.sl (some g7) 2 n7 c7)] (.bool (fun iy=>(.done (br (br iy false true) y1 (cv 19 [(.sl (some g3) 1 n3 c3),(.sl (some g8) 1 n8 c8)] (.bool (fun rm=>(.done (br (br rm false true) y1 (br (br (pr.eq a4 a9) false true) y1 (some ((.bool true),[.undef,.undef]))))))))))))))))))))))):=by kernel_rfl
end
theorem wQ (i w:Nat):ad.idx 0 (i:Int) w=i*w:=by rw [Z0,aef]
section
variable {α:Type} {e:α->List D} {w:Nat} (hw:∀ x,(e x).length=w) {xs:List α} {i k:Nat} (hi:i < xs.length) (hk:k < w)
include hw hi hk
theorem xW (kk:IntKind):ad.da kk (aM e xs) (i*w+k)=ad.da kk (e xs[i]) k:=by simp only [ad,my hw xs hi hk]
theorem uy:ad.cd (aM e xs) (i*w+k)=ad.cd (e xs[i]) k:=by simp only [ad,my hw xs hi hk]
theorem A4:ad.eH (aM e xs) (i*w+k)=ad.eH (e xs[i]) k:=by simp only [ad,my hw xs hi hk]
theorem xX:ad.df (aM e xs) (i*w+k)=ad.df (e xs[i]) k:=by simp only [ad,my hw xs hi hk]
theorem o8 (s:Nat):ad.cZ s (aM e xs) (i*w+k)=ad.cZ s (e xs[i]) k:=by simp only [ad,my hw xs hi hk]
theorem mR:ad.cD (aM e xs) (i*w+k)=ad.cD (e xs[i]) k:=by simp only [ad,my hw xs hi hk]
theorem mS:ad.bM (aM e xs) (i*w+k)=ad.bM (e xs[i]) k:=by simp only [ad,my hw xs hi hk]
theorem mT:ad.bP (aM e xs) (i*w+k)=ad.bP (e xs[i]) k:=by simp only [ad,my hw xs hi hk]
end
theorem L1 {g:Bool} {xs:List U} {i:Nat} (h:i < xs.length):ad.da .i64 (aM (ab (some g)) xs) (i*16)=true:=(xW (e:=ab (some g)) (w:=16) (fun _=>rfl) (k:=0) h (by omega) _).trans rfl
theorem L2 {g:Bool} {xs:List U} {i:Nat} (h:i < xs.length):ad.cd (aM (ab (some g)) xs) (i*16)=xs[i].id:=(uy (e:=ab (some g)) (w:=16) (fun _=>rfl) (k:=0) h (by omega)).trans rfl
theorem L3 {g:Bool} {xs:List U} {i:Nat} (h:i < xs.length):ad.eH (aM (ab (some g)) xs) (i*16+1)=true:=(A4 (e:=ab (some g)) (w:=16) (fun _=>rfl) (k:=1) h (by omega)).trans rfl
theorem L4 {g:Bool} {xs:List U} {i:Nat} (h:i < xs.length):ad.df (aM (ab (some g)) xs) (i*16+1)=xs[i].up:=(xX (e:=ab (some g)) (w:=16) (fun _=>rfl) (k:=1) h (by omega)).trans rfl
theorem L5 {g:Bool} {xs:List U} {i:Nat} (h:i < xs.length):ad.eH (aM (ab (some g)) xs) (i*16+2)=true:=(A4 (e:=ab (some g)) (w:=16) (fun _=>rfl) (k:=2) h (by omega)).trans rfl
theorem L6 {g:Bool} {xs:List U} {i:Nat} (h:i < xs.length):ad.df (aM (ab (some g)) xs) (i*16+2)=xs[i].bS:=(xX (e:=ab (some g)) (w:=16) (fun _=>rfl) (k:=2) h (by omega)).trans rfl
theorem L7 {g:Bool} {xs:List U} {i:Nat} (h:i < xs.length):ad.cZ 1 (aM (ab (some g)) xs) (i*16+3)=true:=(o8 (e:=ab (some g)) (w:=16) (fun _=>rfl) (k:=3) h (by omega) _).trans rfl
theorem L8 {g:Bool} {xs:List U} {i:Nat} (h:i < xs.length):ad.cD (aM (ab (some g)) xs) (i*16+3)=g:=(mR (e:=ab (some g)) (w:=16) (fun _=>rfl) (k:=3) h (by omega)).trans rfl
theorem L9 {g:Bool} {xs:List U} {i:Nat} (h:i < xs.length):ad.bM (aM (ab (some g)) xs) (i*16+3)=xs[i].image.length:=(mS (e:=ab (some g)) (w:=16) (fun _=>rfl) (k:=3) h (by omega)).trans rfl
theorem Ma {g:Bool} {xs:List U} {i:Nat} (h:i < xs.length):ad.bP (aM (ab (some g)) xs) (i*16+3)=ints xs[i].image:=(mT (e:=ab (some g)) (w:=16) (fun _=>rfl) (k:=3) h (by omega)).trans rfl
theorem Mb {g:Bool} {xs:List U} {i:Nat} (h:i < xs.length):ad.cZ 1 (aM (ab (some g)) xs) (i*16+4)=true:=(o8 (e:=ab (some g)) (w:=16) (fun _=>rfl) (k:=4) h (by omega) _).trans rfl
theorem Mc {g:Bool} {xs:List U} {i:Nat} (h:i < xs.length):ad.cD (aM (ab (some g)) xs) (i*16+4)=g:=(mR (e:=ab (some g)) (w:=16) (fun _=>rfl) (k:=4) h (by omega)).trans rfl
theorem Md {g:Bool} {xs:List U} {i:Nat} (h:i < xs.length):ad.bM (aM (ab (some g)) xs) (i*16+4)=xs[i].mt.av.length:=(mS (e:=ab (some g)) (w:=16) (fun _=>rfl) (k:=4) h (by omega)).trans rfl
theorem Me {g:Bool} {xs:List U} {i:Nat} (h:i < xs.length):ad.bP (aM (ab (some g)) xs) (i*16+4)=ints xs[i].mt.av:=(mT (e:=ab (some g)) (w:=16) (fun _=>rfl) (k:=4) h (by omega)).trans rfl
theorem Mf {g:Bool} {xs:List U} {i:Nat} (h:i < xs.length):ad.cZ 1 (aM (ab (some g)) xs) (i*16+5)=true:=(o8 (e:=ab (some g)) (w:=16) (fun _=>rfl) (k:=5) h (by omega) _).trans rfl
theorem Mg {g:Bool} {xs:List U} {i:Nat} (h:i < xs.length):ad.cD (aM (ab (some g)) xs) (i*16+5)=g:=(mR (e:=ab (some g)) (w:=16) (fun _=>rfl) (k:=5) h (by omega)).trans rfl
theorem Mh {g:Bool} {xs:List U} {i:Nat} (h:i < xs.length):ad.bM (aM (ab (some g)) xs) (i*16+5)=xs[i].mt.bits.length:=(mS (e:=ab (some g)) (w:=16) (fun _=>rfl) (k:=5) h (by omega)).trans rfl
theorem Mi {g:Bool} {xs:List U} {i:Nat} (h:i < xs.length):ad.bP (aM (ab (some g)) xs) (i*16+5)=rows (some g) xs[i].mt.bits:=(mT (e:=ab (some g)) (w:=16) (fun _=>rfl) (k:=5) h (by omega)).trans rfl
theorem Mj {g:Bool} {xs:List U} {i:Nat} (h:i < xs.length):ad.eH (aM (ab (some g)) xs) (i*16+6)=true:=(A4 (e:=ab (some g)) (w:=16) (fun _=>rfl) (k:=6) h (by omega)).trans rfl
theorem Mk {g:Bool} {xs:List U} {i:Nat} (h:i < xs.length):ad.df (aM (ab (some g)) xs) (i*16+6)=xs[i].mt.cf:=(xX (e:=ab (some g)) (w:=16) (fun _=>rfl) (k:=6) h (by omega)).trans rfl
theorem Ml {g:Bool} {xs:List U} {i:Nat} (h:i < xs.length):ad.eH (aM (ab (some g)) xs) (i*16+7)=true:=(A4 (e:=ab (some g)) (w:=16) (fun _=>rfl) (k:=7) h (by omega)).trans rfl
theorem Mm {g:Bool} {xs:List U} {i:Nat} (h:i < xs.length):ad.df (aM (ab (some g)) xs) (i*16+7)=xs[i].mt.bB:=(xX (e:=ab (some g)) (w:=16) (fun _=>rfl) (k:=7) h (by omega)).trans rfl
theorem Mn {g:Bool} {xs:List U} {i:Nat} (h:i < xs.length):ad.eH (aM (ab (some g)) xs) (i*16+8)=true:=(A4 (e:=ab (some g)) (w:=16) (fun _=>rfl) (k:=8) h (by omega)).trans rfl
theorem Mo {g:Bool} {xs:List U} {i:Nat} (h:i < xs.length):ad.df (aM (ab (some g)) xs) (i*16+8)=xs[i].mt.held:=(xX (e:=ab (some g)) (w:=16) (fun _=>rfl) (k:=8) h (by omega)).trans rfl
theorem Mp {g:Bool} {xs:List U} {i:Nat} (h:i < xs.length):ad.da .i64 (aM (ab (some g)) xs) (i*16+9)=true:=(xW (e:=ab (some g)) (w:=16) (fun _=>rfl) (k:=9) h (by omega) _).trans rfl
theorem Mq {g:Bool} {xs:List U} {i:Nat} (h:i < xs.length):ad.cd (aM (ab (some g)) xs) (i*16+9)=xs[i].mt.last:=(uy (e:=ab (some g)) (w:=16) (fun _=>rfl) (k:=9) h (by omega)).trans rfl
theorem FC {g:Bool} {xs:List U} {i:Nat} (h:i < xs.length):ad.cZ 1 (aM (ab (some g)) xs) (i*16+10)=true:=(o8 (e:=ab (some g)) (w:=16) (fun _=>rfl) (k:=10) h (by omega) _).trans rfl
theorem FD {g:Bool} {xs:List U} {i:Nat} (h:i < xs.length):ad.cD (aM (ab (some g)) xs) (i*16+10)=g:=(mR (e:=ab (some g)) (w:=16) (fun _=>rfl) (k:=10) h (by omega)).trans rfl
theorem FE {g:Bool} {xs:List U} {i:Nat} (h:i < xs.length):ad.bM (aM (ab (some g)) xs) (i*16+10)=xs[i].aA.a.length:=(mS (e:=ab (some g)) (w:=16) (fun _=>rfl) (k:=10) h (by omega)).trans rfl
theorem FF {g:Bool} {xs:List U} {i:Nat} (h:i < xs.length):ad.bP (aM (ab (some g)) xs) (i*16+10)=bytes xs[i].aA.a:=(mT (e:=ab (some g)) (w:=16) (fun _=>rfl) (k:=10) h (by omega)).trans rfl
theorem FH {g:Bool} {xs:List U} {i:Nat} (h:i < xs.length):ad.cZ 1 (aM (ab (some g)) xs) (i*16+11)=true:=(o8 (e:=ab (some g)) (w:=16) (fun _=>rfl) (k:=11) h (by omega) _).trans rfl
theorem FI {g:Bool} {xs:List U} {i:Nat} (h:i < xs.length):ad.cD (aM (ab (some g)) xs) (i*16+11)=g:=(mR (e:=ab (some g)) (w:=16) (fun _=>rfl) (k:=11) h (by omega)).trans rfl
theorem FJ {g:Bool} {xs:List U} {i:Nat} (h:i < xs.length):ad.bM (aM (ab (some g)) xs) (i*16+11)=xs[i].aA.b.length:=(mS (e:=ab (some g)) (w:=16) (fun _=>rfl) (k:=11) h (by omega)).trans rfl
theorem FK {g:Bool} {xs:List U} {i:Nat} (h:i < xs.length):ad.bP (aM (ab (some g)) xs) (i*16+11)=bytes xs[i].aA.b:=(mT (e:=ab (some g)) (w:=16) (fun _=>rfl) (k:=11) h (by omega)).trans rfl
theorem FL {g:Bool} {xs:List U} {i:Nat} (h:i < xs.length):ad.cZ 1 (aM (ab (some g)) xs) (i*16+12)=true:=(o8 (e:=ab (some g)) (w:=16) (fun _=>rfl) (k:=12) h (by omega) _).trans rfl
theorem FM {g:Bool} {xs:List U} {i:Nat} (h:i < xs.length):ad.cD (aM (ab (some g)) xs) (i*16+12)=g:=(mR (e:=ab (some g)) (w:=16) (fun _=>rfl) (k:=12) h (by omega)).trans rfl
theorem FN {g:Bool} {xs:List U} {i:Nat} (h:i < xs.length):ad.bM (aM (ab (some g)) xs) (i*16+12)=xs[i].conn.length:=(mS (e:=ab (some g)) (w:=16) (fun _=>rfl) (k:=12) h (by omega)).trans rfl
theorem FO {g:Bool} {xs:List U} {i:Nat} (h:i < xs.length):ad.bP (aM (ab (some g)) xs) (i*16+12)=aE xs[i].conn:=(mT (e:=ab (some g)) (w:=16) (fun _=>rfl) (k:=12) h (by omega)).trans rfl
theorem FP {g:Bool} {xs:List U} {i:Nat} (h:i < xs.length):ad.cZ 1 (aM (ab (some g)) xs) (i*16+13)=true:=(o8 (e:=ab (some g)) (w:=16) (fun _=>rfl) (k:=13) h (by omega) _).trans rfl
theorem FQ {g:Bool} {xs:List U} {i:Nat} (h:i < xs.length):ad.cD (aM (ab (some g)) xs) (i*16+13)=g:=(mR (e:=ab (some g)) (w:=16) (fun _=>rfl) (k:=13) h (by omega)).trans rfl
theorem FR {g:Bool} {xs:List U} {i:Nat} (h:i < xs.length):ad.bM (aM (ab (some g)) xs) (i*16+13)=xs[i].sync.length:=(mS (e:=ab (some g)) (w:=16) (fun _=>rfl) (k:=13) h (by omega)).trans rfl
theorem FT {g:Bool} {xs:List U} {i:Nat} (h:i < xs.length):ad.bP (aM (ab (some g)) xs) (i*16+13)=rows (some g) xs[i].sync:=(mT (e:=ab (some g)) (w:=16) (fun _=>rfl) (k:=13) h (by omega)).trans rfl
theorem FU {g:Bool} {xs:List U} {i:Nat} (h:i < xs.length):ad.cZ 1 (aM (ab (some g)) xs) (i*16+14)=true:=(o8 (e:=ab (some g)) (w:=16) (fun _=>rfl) (k:=14) h (by omega) _).trans rfl
theorem FV {g:Bool} {xs:List U} {i:Nat} (h:i < xs.length):ad.cD (aM (ab (some g)) xs) (i*16+14)=g:=(mR (e:=ab (some g)) (w:=16) (fun _=>rfl) (k:=14) h (by omega)).trans rfl
theorem FW {g:Bool} {xs:List U} {i:Nat} (h:i < xs.length):ad.bM (aM (ab (some g)) xs) (i*16+14)=xs[i].aH.length:=(mS (e:=ab (some g)) (w:=16) (fun _=>rfl) (k:=14) h (by omega)).trans rfl
theorem FX {g:Bool} {xs:List U} {i:Nat} (h:i < xs.length):ad.bP (aM (ab (some g)) xs) (i*16+14)=aE xs[i].aH:=(mT (e:=ab (some g)) (w:=16) (fun _=>rfl) (k:=14) h (by omega)).trans rfl
theorem FY {g:Bool} {xs:List U} {i:Nat} (h:i < xs.length):ad.cZ 1 (aM (ab (some g)) xs) (i*16+15)=true:=(o8 (e:=ab (some g)) (w:=16) (fun _=>rfl) (k:=15) h (by omega) _).trans rfl
theorem FZ {g:Bool} {xs:List U} {i:Nat} (h:i < xs.length):ad.cD (aM (ab (some g)) xs) (i*16+15)=g:=(mR (e:=ab (some g)) (w:=16) (fun _=>rfl) (k:=15) h (by omega)).trans rfl
theorem F0 {g:Bool} {xs:List U} {i:Nat} (h:i < xs.length):ad.bM (aM (ab (some g)) xs) (i*16+15)=xs[i].wait.length:=(mS (e:=ab (some g)) (w:=16) (fun _=>rfl) (k:=15) h (by omega)).trans rfl
theorem F1 {g:Bool} {xs:List U} {i:Nat} (h:i < xs.length):ad.bP (aM (ab (some g)) xs) (i*16+15)=ints xs[i].wait:=(mT (e:=ab (some g)) (w:=16) (fun _=>rfl) (k:=15) h (by omega)).trans rfl
theorem Mr {g:Bool} {xs:List dr} {i:Nat} (h:i < xs.length):ad.da .i64 (aM (cS (some g)) xs) (i*3)=true:=(xW (e:=cS (some g)) (w:=3) (fun _=>rfl) (k:=0) h (by omega) _).trans rfl
theorem Mt {g:Bool} {xs:List dr} {i:Nat} (h:i < xs.length):ad.cd (aM (cS (some g)) xs) (i*3)=xs[i].src:=(uy (e:=cS (some g)) (w:=3) (fun _=>rfl) (k:=0) h (by omega)).trans rfl
theorem Mu {g:Bool} {xs:List dr} {i:Nat} (h:i < xs.length):ad.da .i64 (aM (cS (some g)) xs) (i*3+1)=true:=(xW (e:=cS (some g)) (w:=3) (fun _=>rfl) (k:=1) h (by omega) _).trans rfl
theorem Mv {g:Bool} {xs:List dr} {i:Nat} (h:i < xs.length):ad.cd (aM (cS (some g)) xs) (i*3+1)=xs[i].dst:=(uy (e:=cS (some g)) (w:=3) (fun _=>rfl) (k:=1) h (by omega)).trans rfl
theorem Mw {g:Bool} {xs:List dr} {i:Nat} (h:i < xs.length):ad.cZ 1 (aM (cS (some g)) xs) (i*3+2)=true:=(o8 (e:=cS (some g)) (w:=3) (fun _=>rfl) (k:=2) h (by omega) _).trans rfl
theorem Mx {g:Bool} {xs:List dr} {i:Nat} (h:i < xs.length):ad.cD (aM (cS (some g)) xs) (i*3+2)=g:=(mR (e:=cS (some g)) (w:=3) (fun _=>rfl) (k:=2) h (by omega)).trans rfl
theorem My {g:Bool} {xs:List dr} {i:Nat} (h:i < xs.length):ad.bM (aM (cS (some g)) xs) (i*3+2)=xs[i].bytes.length:=(mS (e:=cS (some g)) (w:=3) (fun _=>rfl) (k:=2) h (by omega)).trans rfl
theorem Mz {g:Bool} {xs:List dr} {i:Nat} (h:i < xs.length):ad.bP (aM (cS (some g)) xs) (i*3+2)=bytes xs[i].bytes:=(mT (e:=cS (some g)) (w:=3) (fun _=>rfl) (k:=2) h (by omega)).trans rfl
theorem Z4 {g:Bool} {xs:List js} {i:Nat} (h:i < xs.length):ad.da .i64 (aM (fY (some g)) xs) (i*2)=true:=(xW (e:=fY (some g)) (w:=2) (fun _=>rfl) (k:=0) h (by omega) _).trans rfl
theorem Z5 {g:Bool} {xs:List js} {i:Nat} (h:i < xs.length):ad.cd (aM (fY (some g)) xs) (i*2)=xs[i].cell:=(uy (e:=fY (some g)) (w:=2) (fun _=>rfl) (k:=0) h (by omega)).trans rfl
theorem Z6 {g:Bool} {xs:List js} {i:Nat} (h:i < xs.length):ad.da .i64 (aM (fY (some g)) xs) (i*2+1)=true:=(xW (e:=fY (some g)) (w:=2) (fun _=>rfl) (k:=1) h (by omega) _).trans rfl
theorem Z7 {g:Bool} {xs:List js} {i:Nat} (h:i < xs.length):ad.cd (aM (fY (some g)) xs) (i*2+1)=xs[i].up:=(uy (e:=fY (some g)) (w:=2) (fun _=>rfl) (k:=1) h (by omega)).trans rfl
section
variable {A L B:List D} {m k:Nat} {d:D}
theorem F2 (hA:A.length=m) (hk:k < L.length):List.set (A++(L++B)) (m+k) d=A++(L.set k d++B):=by
 subst hA;rw [ag0 _ _ (by omega),List.set_append_left _ _ (by omega)]
 simp
theorem HS (hA:A.length=m) (hk:0 < L.length):List.set (A++(L++B)) m d=A++(L.set 0 d++B):=F2 (k:=0) hA hk
theorem VW (hA:A.length=m) (hk:k < L.length):(A++(L++B))[m+k]?=L[k]?:=by
 subst hA;rw [adr (by omega),adx (by omega)]
 simp
theorem B5 (hA:A.length=m) (hk:k < L.length):ad.slot (A++(L++B)) (m+k)=ad.slot L k:=by simp only [ad,VW hA hk]
theorem DL (hA:A.length=m) (hk:0 < L.length):ad.slot (A++(L++B)) m=ad.slot L 0:=B5 (k:=0) hA hk
theorem HT (s:Nat) (hA:A.length=m) (hk:k < L.length):ad.jL s (A++(L++B)) (m+k)=ad.jL s L k:=by simp only [ad,VW hA hk]
theorem S7 (hk:0 < L.length):ad.ne (A++(L++B))=true:=by
 simp only [ad];cases A with
 | nil=>cases L with
  | nil=>simp at hk
  | cons _ _=>rfl
 | cons _ _=>rfl
theorem HU (l:List D) (n:Nat):ad.slot (d::l) (n+1)=ad.slot l n:=rfl
theorem HV (l:List D) (kk:IntKind) (x:Int):ad.slot (.int kk x::l) 0=true:=rfl
theorem HW (l:List D) (x:Bool):ad.slot (.bool x::l) 0=true:=rfl
theorem HX (s:Nat) (l:List D) (n:Nat):ad.jL s (d::l) (n+1)=ad.jL s l n:=rfl
theorem HY (l c:List D) (n:Nat):ad.jL 1 (.sl none 1 n c::l) 0=true:=rfl
end
theorem wR {α:Type} {e:α->List D} {w:Nat} (hw:∀ x,(e x).length=w) (xs:List α):(aM e xs).length=xs.length*w:=by
 induction xs with
 | nil=>simp [aM]
 | cons x xs ih=>
  have h:aM e (x::xs)=e x++aM e xs:=by simp [aM]
  rw [h,aap,hw,ih,adj,Nat.succ_mul];omega
theorem OL {α:Type} (e:α->List D) (xs ys:List α):aM e (xs++ys)=aM e xs++aM e ys:=by simp [aM]
theorem zd {α:Type} (e:α->List D) {xs:List α} {i:Nat} (h:i < xs.length):aM e xs=aM e (xs.take i)++(e xs[i]++aM e (xs.drop (i+1))):=by
 have e1:xs.take i++xs[i]::xs.drop (i+1)=xs:=by rw [af9 h,agH]
 have h2:aM e (xs[i]::xs.drop (i+1))=e xs[i]++aM e (xs.drop (i+1)):=by simp only [aM,adL]
 rw [<- h2,<- OL,e1]
theorem DM {α:Type} (e:α->List D) {xs:List α} {i:Nat} (h:i < xs.length) (x:α):aM e (xs.set i x)=aM e (xs.take i)++(e x++aM e (xs.drop (i+1))):=by
 have e1:xs.set i x=xs.take i++x::xs.drop (i+1):=List.set_eq_take_append_cons_drop.trans (if_pos h);have h2:aM e (x::xs.drop (i+1))=e x++aM e (xs.drop (i+1)):=by simp [aM]
 rw [e1,OL,h2]
theorem A5 {α:Type} (e:α->List D) (z:List D) (x:α) (h:z.map rD=e x) (n:Nat):fu n z=aM e (List.replicate n x):=by
 unfold fu aM;rw [h];simp [List.flatMap]
def vr:U:=⟨0,false,false,[],⟨[],[],false,false,false,0⟩,⟨[],[]⟩,[],[],[],[]⟩
theorem F3:∀ l:List D,ad.nl l=cb l:=fun _=>rfl
theorem PW (a b:List D):cb (a++b)=(cb a&&cb b):=by
 induction a with
 | nil=>simp [cb]
 | cons x a ih=>simp [cb,ih,Bool.and_assoc]
theorem A6 {α:Type} {e:α->List D} (h:∀ x,ad.nl (e x)=true) (xs:List α):ad.nl (aM e xs)=true:=by
 induction xs with
 | nil=>rfl
 | cons x xs ih=>
  have h1:aM e (x::xs)=e x++aM e xs:=by simp [aM]
  rw [h1,F3,PW,<- F3,<- F3,h,ih];rfl
theorem afB (xs:List U):ad.nl (aM (ab none) xs)=true:=A6 (fun x=>by
 have h1:=jt; have h2:=xQ; have h3:=eM; have h4:=B3;simp only [F3] at h1 h2 h3 h4 ⊢;simp only [cb,bW,h1,h2,h3,h4,sC]) xs
theorem afC (xs:List dr):ad.nl (aM (cS none) xs)=true:=A6 (fun x=>by
 have h3:=eM;simp only [F3] at h3 ⊢;simp only [cb,bW,h3,sC]) xs
theorem afD (g:Option Bool) (xs:List js):ad.nl (aM (fY g) xs)=true:=A6 (fun _=>rfl) xs
def kM (x:dr):Prop:=x.bytes.length<=1048576
structure uz (w:gO):Prop where
 nodes:w.nodes.length<=1048576
 node:∀ n∈w.nodes,aV n
 wm:w.wm.length<=1048576
 yX:∀ x∈w.wm,kM x
 log:w.log.length<=1048576
 safe:w.safe.length<=1048576
theorem Yk (g:Bool) (x:dr) (h:kM x):Cm 197 [.agg (cS (some g) x)] (.agg (cS none x),[.undef]):=by
 unfold kM at h;refine Cm.fin Kx fun J=>?_;rw [Ky];simp (disch:=omega) only [JL,dq,aq,eM,aN]
theorem aa8 (g:Option Bool) (x:js):Cm 198 [.agg (fY g x)] (.agg (fY none x),[.undef]):=by
 refine Cm.fin OG fun J=>?_;rw [OI]
theorem Yl (g h:Bool) (x:dr) (ok:kM x):Cm 207 [.agg (cS (some g) x),.agg (cS (some h) x)] (.bool true,[.undef,.undef]):=by
 unfold kM at ok;refine Cm.fin Kz fun J=>?_;rw [KA];simp (disch:=omega) only [JM,aL,aq,decide_true,aN,bf,gb]
theorem aa9 (g h:Option Bool) (x:js):Cm 208 [.agg (fY g x),.agg (fY h x)] (.bool true,[.undef,.undef]):=by
 refine Cm.fin OJ fun J=>?_;rw [OK];simp (disch:=omega) only [aN,bf,gb]
def xY (x:dr):Prop:=x.bytes.length<=140737488355328
def gV (x:dr) (l:Int):Int:=iK (eV x.bytes.length l) fun l=>l
theorem F4 {x:dr} {l:Int} (h:0<=l) (hm:l<=1048576):gV x l<=l/\-1<=gV x l/\(0<=gV x l->kM x):=by
 have:=gP (k:=fun l=>l) h (o7 (n:=x.bytes.length) h hm) fun h3=>Fy h3;exact ⟨this.1,this.2.1,fun hh=>(this.2.2 hh).1⟩
theorem F5 {x:U} {l:Int} (h:0<=l) (hm:l<=1048576):eu x l<=l/\-1<=eu x l/\(0<=eu x l->aV x):=zc h hm
theorem Ym (g:Bool) (x:dr) (left:Int) (h0:0<=left) (h1:left<=1048576) (ln:xY x):Cm 191 [.agg (cS (some g) x),.int .i64 left] (.int .i64 (gV x left),[.undef,.undef]):=by
 unfold xY at ln;refine Cm.fin Kv fun J=>?_;rw [Kw];simp (disch:=omega) only [A3,bV,aq];exact jj (f:=fun v=>some (.int .i64 v,[.undef,.undef])) fun _=>rfl
theorem Yn (g:Bool) (n:Nat) (c:List D) (left:Int) (h0:0<=left) (h1:left<=1048576) (hn:n<=140737488355328):Cm 115 [.sl (some g) 2 n c,.int .i64 left] (.int .i64 (eV n left),[.undef,.undef]):=by
 refine Cm.fin KC fun J=>?_;rw [KD];unfold eV;by_cases h:left < n
 ·rw [if_pos h];simp (disch:=omega) only [aF,iA,aZ]
 ·rw [if_neg h];simp (disch:=omega) only [aF,iA,bu]
section
variable (t:bD Rz)
theorem Yo (g:Bool) (x:dr) (h:kM x):aO 197 [.agg (cS (some g) x)] t=feed t (cS none x):=bc (Yk g x h) (by kernel_rfl) t
theorem Yp (g h:Bool) (x:dr) (ok:kM x):aO 207 [.agg (cS (some g) x),.agg (cS (some h) x)] t=feed t [.bool true]:=bc (Yl g h x ok) (by kernel_rfl) t
theorem aba (a b:Int):aO 198 [.agg [.int .i64 a,.int .i64 b]] t=feed t [.int .i64 a,.int .i64 b]:=bc (aa8 none ⟨a,b⟩) (by kernel_rfl) t
theorem abb (a b:Int):aO 208 [.agg [.int .i64 a,.int .i64 b],.agg [.int .i64 a,.int .i64 b]] t=feed t [.bool true]:=bc (aa9 none none ⟨a,b⟩) (by kernel_rfl) t
theorem OM (g:Bool) (x:dr) (left:Int) (h0:0<=left) (h1:left<=1048576) (ln:xY x):aO 191 [.agg (cS (some g) x),.int .i64 left] t=feed t [.int .i64 (gV x left)]:=bc (Ym g x left h0 h1 ln) (by kernel_rfl) t
end
theorem VX (g:Bool) (xs:List U) (hb:xs.length<=1048576) (ok:∀ x∈xs,aV x):Cm 120 [.sl (some g) 16 xs.length (aM (ab (some g)) xs)] (.sl none 16 xs.length (aM (ab none) xs),[.undef]):=by
 refine Cm.go HE [.undef] 0 (jT g xs.length (aM (ab (some g)) xs) (0:Nat) xs.length (aM (ab none) (List.replicate xs.length vr))) ?_ fun J hJ=>?_
 ·refine WP.loop (H:=fun i=>jT g xs.length (aM (ab (some g)) xs) (i:Nat) xs.length (aM (ab none) (xs.take i++List.replicate (xs.length - i) vr))) (n:=xs.length) (fun _=>True) (fun i hi _ ih=>WP.go _ (ih trivial) fun J hJ=>?_) (fun _=>WP.fin fun J=>?_) 0 (adt _) trivial
  ·rw [tQ];have hx:=ok _ (acN hi);have hy:i < (xs.take i++List.replicate (xs.length - i) vr).length:=by simp; omega
   rw [<- pG hi _ xs rfl hi,DM _ hy] at hJ;rw [zd _ hy];have hA:(aM (ab none) ((xs.take i++List.replicate (xs.length - i) vr).take i)).length=i*16:=by
    rw [wR (w:=16) (fun _=>rfl),acG]
    congr 1
    simp; omega
   simp (disch:=first | omega | assumption | exact hA | (simp; done)) only [aN,bf,bt,aF,aZ,bE,wQ,L1,L2,L3,L4,L5,L6,L7,L8,L9,Ma,Mb,Mc,Md,Me,Mf,Mg,Mh,Mi,Mj,Mk,Ml,Mm,Mn,Mo,Mp,Mq,FC,FD,FE,FF,FH,FI,FJ,FK,FL,FM,FN,FO,FP,FQ,FR,FT,FU,FV,FW,FX,FY,FZ,F0,F1,OD,Hl,dq,bV,aL,aq,jt,xQ,eM,B3,S7,B5,DL,HT,F2,HS,agW,ajD,HU,HV,HW,HX,HY,xF,cY]
   exact hJ
  ·rw [tQ];simp (disch:=omega) only [aN,bf,aF,bu,ac8,agx,af5,acg]
 ·rw [HF];have hz:=fun n=>A5 (ab none) [.int .i64 0,.bool false,.bool false,.nil 1,.nil 1,.nil 1,.bool false,.bool false,.bool false,.int .i64 0,.nil 1,.nil 1,.nil 1,.nil 1,.nil 1,.nil 1] vr rfl n;simp (disch:=omega) only [aN,bf,aF,r8,y9,hz];exact hJ
theorem VY (g h:Bool) (xs:List U) (hb:xs.length<=1048576) (ok:∀ x∈xs,aV x):Cm 127 [.sl (some g) 16 xs.length (aM (ab (some g)) xs),.sl (some h) 16 xs.length (aM (ab (some h)) xs)] (.bool true,[.undef,.undef]):=by
 refine Cm.go HG [.undef,.undef] 0 (jU g xs.length (aM (ab (some g)) xs) h xs.length (aM (ab (some h)) xs) (0:Nat)) ?_ fun J hJ=>?_
 ·refine WP.loop (H:=fun i=>jU g xs.length (aM (ab (some g)) xs) h xs.length (aM (ab (some h)) xs) (i:Nat)) (n:=xs.length) (fun _=>True) (fun i hi _ ih=>WP.go _ (ih trivial) fun J hJ=>?_) (fun _=>WP.fin fun J=>?_) 0 (adt _) trivial
  ·rw [tR];have hx:=ok _ (acN hi);simp (disch:=first | omega | assumption) only [aN,bf,bt,bG,aF,aZ,bE,wQ,L1,L2,L3,L4,L5,L6,L7,L8,L9,Ma,Mb,Mc,Md,Me,Mf,Mg,Mh,Mi,Mj,Mk,Ml,Mm,Mn,Mo,Mp,Mq,FC,FD,FE,FF,FH,FI,FJ,FK,FL,FM,FN,FO,FP,FQ,FR,FT,FU,FV,FW,FX,FY,FZ,F0,F1,OE,aL,aq,cY]
   exact hJ
  ·rw [tR];simp (disch:=omega) only [aN,bf,aF,bu]
 ·rw [HH];simp (disch:=omega) only [aN,bf,aF,bG,bU,gb];exact hJ
theorem VZ (g:Bool) (xs:List dr) (hb:xs.length<=1048576) (ok:∀ x∈xs,kM x):Cm 121 [.sl (some g) 3 xs.length (aM (cS (some g)) xs)] (.sl none 3 xs.length (aM (cS none) xs),[.undef]):=by
 refine Cm.go HI [.undef] 0 (jV g xs.length (aM (cS (some g)) xs) (0:Nat) xs.length (aM (cS none) (List.replicate xs.length (⟨0,0,[]⟩:dr)))) ?_ fun J hJ=>?_
 ·refine WP.loop (H:=fun i=>jV g xs.length (aM (cS (some g)) xs) (i:Nat) xs.length (aM (cS none) (xs.take i++List.replicate (xs.length - i) (⟨0,0,[]⟩:dr)))) (n:=xs.length) (fun _=>True) (fun i hi _ ih=>WP.go _ (ih trivial) fun J hJ=>?_) (fun _=>WP.fin fun J=>?_) 0 (adt _) trivial
  ·rw [tS];have hx:=ok _ (acN hi);have hy:i < (xs.take i++List.replicate (xs.length - i) (⟨0,0,[]⟩:dr)).length:=by simp; omega
   rw [<- pG hi _ xs rfl hi,DM _ hy] at hJ;rw [zd _ hy];have hA:(aM (cS none) ((xs.take i++List.replicate (xs.length - i) (⟨0,0,[]⟩:dr)).take i)).length=i*3:=by
    rw [wR (w:=3) (fun _=>rfl),acG]
    congr 1
    simp; omega
   simp (disch:=first | omega | assumption | exact hA | (simp; done)) only [aN,bf,bt,aF,aZ,bE,wQ,Mr,Mt,Mu,Mv,Mw,Mx,My,Mz,Yo,dq,bV,aL,aq,jt,xQ,eM,B3,S7,B5,DL,HT,F2,HS,agW,ajD,HU,HV,HW,HX,HY,xF,cY]
   exact hJ
  ·rw [tS];simp (disch:=omega) only [aN,bf,aF,bu,ac8,agx,af5,acg]
 ·rw [HJ];have hz:=fun n=>A5 (cS none) [.int .i64 0,.int .i64 0,.nil 1] (⟨0,0,[]⟩:dr) rfl n;simp (disch:=omega) only [aN,bf,aF,r8,y9,hz];exact hJ
theorem V0 (g h:Bool) (xs:List dr) (hb:xs.length<=1048576) (ok:∀ x∈xs,kM x):Cm 128 [.sl (some g) 3 xs.length (aM (cS (some g)) xs),.sl (some h) 3 xs.length (aM (cS (some h)) xs)] (.bool true,[.undef,.undef]):=by
 refine Cm.go HK [.undef,.undef] 0 (jW g xs.length (aM (cS (some g)) xs) h xs.length (aM (cS (some h)) xs) (0:Nat)) ?_ fun J hJ=>?_
 ·refine WP.loop (H:=fun i=>jW g xs.length (aM (cS (some g)) xs) h xs.length (aM (cS (some h)) xs) (i:Nat)) (n:=xs.length) (fun _=>True) (fun i hi _ ih=>WP.go _ (ih trivial) fun J hJ=>?_) (fun _=>WP.fin fun J=>?_) 0 (adt _) trivial
  ·rw [tT];have hx:=ok _ (acN hi);simp (disch:=first | omega | assumption) only [aN,bf,bt,bG,aF,aZ,bE,wQ,Mr,Mt,Mu,Mv,Mw,Mx,My,Mz,Yp,aL,aq,cY]
   exact hJ
  ·rw [tT];simp (disch:=omega) only [aN,bf,aF,bu]
 ·rw [HL];simp (disch:=omega) only [aN,bf,aF,bG,bU,gb];exact hJ
theorem Yq (g:Bool) (xs:List js) (hb:xs.length<=1048576):Cm 122 [.sl (some g) 2 xs.length (aM (fY (some g)) xs)] (.sl none 2 xs.length (aM (fY none) xs),[.undef]):=by
 refine Cm.go KE [.undef] 0 (kK g xs.length (aM (fY (some g)) xs) (0:Nat) xs.length (aM (fY none) (List.replicate xs.length (⟨0,0⟩:js)))) ?_ fun J hJ=>?_
 ·refine WP.loop (H:=fun i=>kK g xs.length (aM (fY (some g)) xs) (i:Nat) xs.length (aM (fY none) (xs.take i++List.replicate (xs.length - i) (⟨0,0⟩:js)))) (n:=xs.length) (fun _=>True) (fun i hi _ ih=>WP.go _ (ih trivial) fun J hJ=>?_) (fun _=>WP.fin fun J=>?_) 0 (adt _) trivial
  ·rw [vp];have hx:=hi;have hy:i < (xs.take i++List.replicate (xs.length - i) (⟨0,0⟩:js)).length:=by simp; omega
   rw [<- pG hi _ xs rfl hi,DM _ hy] at hJ;rw [zd _ hy];have hA:(aM (fY none) ((xs.take i++List.replicate (xs.length - i) (⟨0,0⟩:js)).take i)).length=i*2:=by
    rw [wR (w:=2) (fun _=>rfl),acG]
    congr 1
    simp; omega
   simp (disch:=first | omega | assumption | exact hA | (simp; done)) only [aN,bf,bt,aF,aZ,bE,wQ,Z4,Z5,Z6,Z7,aba,dq,bV,aL,aq,jt,xQ,eM,B3,S7,B5,DL,HT,F2,HS,agW,ajD,HU,HV,HW,HX,HY,xF,cY]
   exact hJ
  ·rw [vp];simp (disch:=omega) only [aN,bf,aF,bu,ac8,agx,af5,acg]
 ·rw [KF];have hz:=fun n=>A5 (fY none) [.int .i64 0,.int .i64 0] (⟨0,0⟩:js) rfl n;simp (disch:=omega) only [aN,bf,aF,r8,y9,hz];exact hJ
theorem Yr (g h:Bool) (xs:List js) (hb:xs.length<=1048576):Cm 129 [.sl (some g) 2 xs.length (aM (fY (some g)) xs),.sl (some h) 2 xs.length (aM (fY (some h)) xs)] (.bool true,[.undef,.undef]):=by
 refine Cm.go KG [.undef,.undef] 0 (kL g xs.length (aM (fY (some g)) xs) h xs.length (aM (fY (some h)) xs) (0:Nat)) ?_ fun J hJ=>?_
 ·refine WP.loop (H:=fun i=>kL g xs.length (aM (fY (some g)) xs) h xs.length (aM (fY (some h)) xs) (i:Nat)) (n:=xs.length) (fun _=>True) (fun i hi _ ih=>WP.go _ (ih trivial) fun J hJ=>?_) (fun _=>WP.fin fun J=>?_) 0 (adt _) trivial
  ·rw [vq];have hx:=hi;simp (disch:=first | omega | assumption) only [aN,bf,bt,bG,aF,aZ,bE,wQ,Z4,Z5,Z6,Z7,abb,aL,aq,cY]
   exact hJ
  ·rw [vq];simp (disch:=omega) only [aN,bf,aF,bu]
 ·rw [KH];simp (disch:=omega) only [aN,bf,aF,bG,bU,gb];exact hJ
def nM (xs:List U) (l:Int):Int:=iK (eV xs.length l) (oC eu xs)
theorem V1 (g:Bool) (xs:List U) (left:Int) (h0:0<=left) (h1:left<=1048576) (hn:xs.length<=140737488355328) (hx:∀ x∈xs,qQ x):Cm 113 [.sl (some g) 16 xs.length (aM (ab (some g)) xs),.int .i64 left] (.int .i64 (nM xs left),[.undef,.undef]):=by
 have hlen:=iL (n:=xs.length) h0;have loop:∀ k i (l:Int),i+k=xs.length->0<=l->l<=1048576->WP 113 Tryz.f113 [.undef,.undef] 0 (mA g xs.length (aM (ab (some g)) xs) l (i:Nat)) (.int .i64 (oC eu (xs.drop i) l),[.undef,.undef]):=by
  intro k
  induction k with
  | zero=>
   intro i l hi hl hm;refine WP.fin fun J=>?_;rw [oM,agC (by omega)]
   simp (disch:=omega) only [aF,bu,oC]
  | succ k ih=>
   intro i l hi hl hm;have nC:i < xs.length:=by omega
   have hxi:=hx _ (acN nC);obtain ⟨a1,a2,a3⟩:=F5 (x:=xs[i]) hl hm;have e:oC eu (xs.drop i) l=iK (eu xs[i] l) (oC eu (xs.drop (i+1))):=by
    rw [<- af9 nC];rfl
   rw [e];by_cases hv:eu xs[i] l < 0
   ·refine WP.fin fun J=>?_;rw [oM,ot _ hv];simp (disch:=first | omega | assumption) only [aN,bf,bt,aF,aZ,bE,wQ,L1,L2,L3,L4,L5,L6,L7,L8,L9,Ma,Mb,Mc,Md,Me,Mf,Mg,Mh,Mi,Mj,Mk,Ml,Mm,Mn,Mo,Mp,Mq,FC,FD,FE,FF,FH,FI,FJ,FK,FL,FM,FN,FO,FP,FQ,FR,FT,FU,FV,FW,FX,FY,FZ,F0,F1,DK,bV,aq]
   ·rw [ou _ (by omega)]
    refine WP.go _ (ih (i+1) (eu xs[i] l) (by omega) (by omega) (by omega)) fun J hJ=>?_
    rw [oM];have lB:0<=eu xs[i] l:=by omega
    simp (disch:=first | omega | assumption) only [aN,bf,bt,aF,aZ,bE,wQ,L1,L2,L3,L4,L5,L6,L7,L8,L9,Ma,Mb,Mc,Md,Me,Mf,Mg,Mh,Mi,Mj,Mk,Ml,Mm,Mn,Mo,Mp,Mq,FC,FD,FE,FF,FH,FI,FJ,FK,FL,FM,FN,FO,FP,FQ,FR,FT,FU,FV,FW,FX,FY,FZ,F0,F1,DK,bV,aq,bu,cY]
    exact hJ
 by_cases h:left < xs.length
 ·refine Cm.fin xS fun J=>?_;rw [xT,nM,ot _ (by unfold eV; rw [if_pos h]; omega)]
  simp (disch:=omega) only [aF,iA,aZ]
 ·have e:eV xs.length left=left - xs.length:=if_neg h;rw [nM,ou _ (by omega),e]
  refine Cm.go xS [.undef,.undef] 0 _ (loop xs.length 0 (left - xs.length) (by omega) (by omega) (by omega)) fun J hJ=>?_
  rw [xT];simp (disch:=omega) only [aF,iA,bu];exact hJ
def nN (xs:List dr) (l:Int):Int:=iK (eV xs.length l) (oC gV xs)
theorem V2 (g:Bool) (xs:List dr) (left:Int) (h0:0<=left) (h1:left<=1048576) (hn:xs.length<=140737488355328) (hx:∀ x∈xs,xY x):Cm 114 [.sl (some g) 3 xs.length (aM (cS (some g)) xs),.int .i64 left] (.int .i64 (nN xs left),[.undef,.undef]):=by
 have hlen:=iL (n:=xs.length) h0;have loop:∀ k i (l:Int),i+k=xs.length->0<=l->l<=1048576->WP 114 Tryz.f114 [.undef,.undef] 0 (mB g xs.length (aM (cS (some g)) xs) l (i:Nat)) (.int .i64 (oC gV (xs.drop i) l),[.undef,.undef]):=by
  intro k
  induction k with
  | zero=>
   intro i l hi hl hm;refine WP.fin fun J=>?_;rw [oN,agC (by omega)]
   simp (disch:=omega) only [aF,bu,oC]
  | succ k ih=>
   intro i l hi hl hm;have nC:i < xs.length:=by omega
   have hxi:=hx _ (acN nC);obtain ⟨a1,a2,a3⟩:=F4 (x:=xs[i]) hl hm;have e:oC gV (xs.drop i) l=iK (gV xs[i] l) (oC gV (xs.drop (i+1))):=by
    rw [<- af9 nC];rfl
   rw [e];by_cases hv:gV xs[i] l < 0
   ·refine WP.fin fun J=>?_;rw [oN,ot _ hv];simp (disch:=first | omega | assumption) only [aN,bf,bt,aF,aZ,bE,wQ,Mr,Mt,Mu,Mv,Mw,Mx,My,Mz,OM,bV,aq]
   ·rw [ou _ (by omega)]
    refine WP.go _ (ih (i+1) (gV xs[i] l) (by omega) (by omega) (by omega)) fun J hJ=>?_
    rw [oN];have lB:0<=gV xs[i] l:=by omega
    simp (disch:=first | omega | assumption) only [aN,bf,bt,aF,aZ,bE,wQ,Mr,Mt,Mu,Mv,Mw,Mx,My,Mz,OM,bV,aq,bu,cY]
    exact hJ
 by_cases h:left < xs.length
 ·refine Cm.fin xU fun J=>?_;rw [xV,nN,ot _ (by unfold eV; rw [if_pos h]; omega)]
  simp (disch:=omega) only [aF,iA,aZ]
 ·have e:eV xs.length left=left - xs.length:=if_neg h;rw [nN,ou _ (by omega),e]
  refine Cm.go xU [.undef,.undef] 0 _ (loop xs.length 0 (left - xs.length) (by omega) (by omega) (by omega)) fun J hJ=>?_
  rw [xV];simp (disch:=omega) only [aF,iA,bu];exact hJ
set_option maxRecDepth 100000
section
variable (t:bD Rz)
theorem V3 (g:Bool) (xs:List U) (hb:xs.length<=1048576) (ok:∀ x∈xs,aV x):aO 120 [sN (some g) xs] t=feed t [sN none xs]:=bc (VX g xs hb ok) (by kernel_rfl) t
theorem V4 (g h:Bool) (xs:List U) (hb:xs.length<=1048576) (ok:∀ x∈xs,aV x):aO 127 [sN (some g) xs,sN (some h) xs] t=feed t [.bool true]:=bc (VY g h xs hb ok) (by kernel_rfl) t
theorem V5 (g:Bool) (xs:List U) (left:Int) (h0:0<=left) (h1:left<=1048576) (hn:xs.length<=140737488355328) (hx:∀ x∈xs,qQ x):aO 113 [sN (some g) xs,.int .i64 left] t=feed t [.int .i64 (nM xs left)]:=bc (V1 g xs left h0 h1 hn hx) (by kernel_rfl) t
theorem V6 (g:Bool) (xs:List dr) (hb:xs.length<=1048576) (ok:∀ x∈xs,kM x):aO 121 [sW (some g) xs] t=feed t [sW none xs]:=bc (VZ g xs hb ok) (by kernel_rfl) t
theorem V7 (g h:Bool) (xs:List dr) (hb:xs.length<=1048576) (ok:∀ x∈xs,kM x):aO 128 [sW (some g) xs,sW (some h) xs] t=feed t [.bool true]:=bc (V0 g h xs hb ok) (by kernel_rfl) t
theorem V8 (g:Bool) (xs:List dr) (left:Int) (h0:0<=left) (h1:left<=1048576) (hn:xs.length<=140737488355328) (hx:∀ x∈xs,xY x):aO 114 [sW (some g) xs,.int .i64 left] t=feed t [.int .i64 (nN xs left)]:=bc (V2 g xs left h0 h1 hn hx) (by kernel_rfl) t
theorem Yt (g:Bool) (xs:List js) (hb:xs.length<=1048576):aO 122 [sK (some g) xs] t=feed t [sK none xs]:=bc (Yq g xs hb) (by kernel_rfl) t
theorem Yu (g h:Bool) (xs:List js) (hb:xs.length<=1048576):aO 129 [sK (some g) xs,sK (some h) xs] t=feed t [.bool true]:=bc (Yr g h xs hb) (by kernel_rfl) t
theorem Yv (g:Bool) (n:Nat) (c:List D) (left:Int) (h0:0<=left) (h1:left<=1048576) (hn:n<=140737488355328):aO 115 [.sl (some g) 2 n c,.int .i64 left] t=feed t [.int .i64 (eV n left)]:=bc (Yn g n c left h0 h1 hn) (by kernel_rfl) t
end
theorem V9 (g:Bool) (w:gO) (h:uz w):Cm 36 [.agg (nG (some g) w)] (.agg (nG none w),[.undef]):=by
 have h1:=h.nodes; have h2:=h.wm; have h3:=h.log; have h4:=h.safe;refine Cm.fin HO fun J=>?_;rw [HP];simp (disch:=first | omega | exact h.node | exact h.yX) only [V3,V6,Yt,zb,dq,aq,jt,afB,afC,afD,aN]
theorem Wa (g h:Bool) (w:gO) (ok:uz w):Cm 38 [.agg (nG (some g) w),.agg (nG (some h) w)] (.bool true,[.undef,.undef]):=by
 have h1:=ok.nodes; have h2:=ok.wm; have h3:=ok.log; have h4:=ok.safe;refine Cm.fin HQ fun J=>?_;rw [HR];simp (disch:=first | omega | exact ok.node | exact ok.yX) only [V4,V7,Yu,vn,aL,aq,decide_true,aN,bf,gb]
structure HZ (w:gO):Prop where
 nodes:w.nodes.length<=140737488355328
 node:∀ n∈w.nodes,qQ n
 wm:w.wm.length<=140737488355328
 yX:∀ x∈w.wm,xY x
 log:w.log.length<=140737488355328
 safe:w.safe.length<=140737488355328
def DN (w:gO) (l:Int):Int:=iK (nM w.nodes l) fun l=>iK (nN w.wm l) fun l=>iK (eV w.log.length l) fun l=>iK (eV w.safe.length l) fun l=>l
theorem iU {v l:Int} {k:Int->Int} (hv:v<=l/\-1<=v) (hl:0<=l) (hk:0<=v->k v<=v/\-1<=k v):iK v k<=l/\-1<=iK v k:=by
 unfold iK;split
 ·omega
 ·have:=hk (by omega); omega
theorem mU {n:Nat} {l:Int} (h:0<=l):eV n l<=l/\-1<=eV n l:=⟨(iL h).1,(iL h).2.1⟩
theorem Rs {α:Type} {f:α->Int->Int} (hf:∀ x l,0<=l->f x l<=l/\-1<=f x l):∀ (xs:List α) (l:Int),0<=l->oC f xs l<=l/\-1<=oC f xs l
 | [],l,h=>⟨Int.le_refl _,by show -1<=l; omega⟩
 | x::xs,l,h=>iU (hf x l h) h fun h1=>Rs hf xs _ h1
theorem Rt {xss:List (List Int)} {l:Int} (h:0<=l):xR xss l<=l/\-1<=xR xss l:=iU (mU h) h fun h1=>Rs (fun _ _ hl=>mU hl) _ _ h1
theorem CQ {n:U} {l:Int} (h:0<=l):eu n l<=l/\-1<=eu n l:=by
 refine iU (mU h) h fun h=>iU ?_ h fun h=>iU ?_ h fun h=>iU (mU h) h fun h=>iU (Rt h) h fun h=>iU (mU h) h fun h=>iU (mU h) h fun h=>?_
 ·exact iU (mU h) h fun h=>iU (Rt h) h fun h=>by omega
 ·exact iU (mU h) h fun h=>iU (mU h) h fun h=>by omega
 ·omega
theorem PX {xs:List U} {l:Int} (h:0<=l) (hm:l<=1048576):nM xs l<=l/\-1<=nM xs l/\(0<=nM xs l->xs.length<=1048576/\∀ x∈xs,aV x):=by
 refine gP h (o7 h hm) fun h1=>?_;have h2:=iL (n:=xs.length) h;exact Fx (f:=eu) (Q:=aV) (fun x l hl=>by
  by_cases hm:l<=1048576
  ·obtain ⟨a,b,c⟩:=F5 (x:=x) hl hm;exact ⟨a,b,fun hh _=>c hh⟩
  ·refine ⟨?_,?_,fun _ U5=>absurd U5 hm⟩
   ·exact (CQ hl).1
   ·exact (CQ hl).2) xs _ h1 (by omega)
theorem PY {xs:List dr} {l:Int} (h:0<=l) (hm:l<=1048576):nN xs l<=l/\-1<=nN xs l/\(0<=nN xs l->xs.length<=1048576/\∀ x∈xs,kM x):=by
 refine gP h (o7 h hm) fun h1=>?_;have h2:=iL (n:=xs.length) h;exact Fx (f:=gV) (Q:=kM) (fun x l hl=>by
  by_cases hm:l<=1048576
  ·obtain ⟨a,b,c⟩:=F4 (x:=x) hl hm;exact ⟨a,b,fun hh _=>c hh⟩
  ·have h3:gV x l<=l/\-1<=gV x l:=iU (k:=fun l=>l) (mU hl) hl fun h=>by show (_:Int)<=_/\_; omega
   exact ⟨h3.1,h3.2,fun _ U5=>absurd U5 hm⟩) xs _ h1 (by omega)
theorem Wb (g:Bool) (w:gO) (left:Int) (h0:0<=left) (h1:left<=1048576) (ln:HZ w):Cm 34 [.agg (nG (some g) w),.int .i64 left] (.int .i64 (DN w left),[.undef,.undef]):=by
 refine Cm.fin HM fun J=>?_;rw [HN];have l1:=ln.nodes; have l2:=ln.wm; have l3:=ln.log; have l4:=ln.safe;have a1:=PX (xs:=w.nodes) h0 h1;simp (disch:=first | omega | exact ln.node) only [V5,bV,aq]
 refine jj (f:=fun v=>aO 114 _ _) fun p1=>?_;have a2:=PY (xs:=w.wm) p1 (by omega)
 simp (disch:=first | omega | exact ln.yX) only [V8,bV,aq]
 refine jj (f:=fun v=>aO 115 _ _) fun p2=>?_;have a3:=iL (n:=w.log.length) p2;simp (disch:=omega) only [Yv,bV,aq];refine jj (f:=fun v=>aO 64 _ _) fun p3=>?_;simp (disch:=omega) only [r9,bV,aq];exact jj (f:=fun v=>some (.int .i64 v,[.undef,.undef])) fun _=>rfl
section
variable (t:bD Rz)
theorem Wc (g:Bool) (w:gO) (h:uz w):aO 36 [.agg (nG (some g) w)] t=feed t [enc .world w]:=bw (r:=enc .world w) (s:=.ty .world) (ss:=[.undef]) (V9 g w h) (by kernel_rfl) (ao _ _) (by simp only [ae,aI,ai,sC]) (ak _ _) rfl t
theorem Wd (g h:Bool) (w:gO) (ok:uz w):aO 38 [.agg (nG (some g) w),.agg (nG (some h) w)] t=feed t [.bool true]:=bc (Wa g h w ok) (by kernel_rfl) t
theorem We (g:Bool) (w:gO) (left:Int) (h0:0<=left) (h1:left<=1048576) (ln:HZ w):aO 34 [.agg (nG (some g) w),.int .i64 left] t=feed t [.int .i64 (DN w left)]:=bc (Wb g w left h0 h1 ln) (by kernel_rfl) t
end
structure ai1 (w:gO):Prop where
 node:∀ n∈w.nodes,FB n
 src:∀ x∈w.wm,tF x.src=true/\tF x.dst=true
 amv:∀ x∈w.log,tF x.cell=true/\tF x.up=true
 safe:vo w.safe
 gen:tF w.gen=true
set_option maxRecDepth 100000
section
variable (pr:ej) (cv:Cv Rz) (J:Nat->St->Option Rz)
def kN (i0:Int) (i1:Int) (n2:Nat) (c3:List D):St:=(St.mk [(0,(.ref 19 [] 0 none)),(1,(.int .i64 i0)),(5,(.int .i64 i1))] [(19,[(.sl none 1 n2 c3)])] [] 0)
theorem DO:Told cfg Tryz.prog 85 Tryz.f85:=⟨by kernel_rfl,Tryz.func85,by kernel_rfl⟩
theorem DP (n0:Nat) (c0:List D) (a1:Int):aU pr cv J 85 Tryz.f85 [(.sl none 1 n0 c0),(.int .i64 a1)]=
 (J 0 (kN a1 0 n0 c0)):=by kernel_rfl
theorem ru (i0:Int) (i1:Int) (n2:Nat) (c3:List D):cg pr cv J 85 Tryz.f85 [(.sl none 0 0 []),.undef] 0 (kN i0 i1 n2 c3)=
 (br (pr.lt i1 (pr.ba n2)) (br (pr.bR i1 n2) (br (br (pr.UZ c3 (pr.idx 0 i1 1)) true false) (br (pr.jL 1 c3 (pr.idx 0 i1 1)) (br (pr.nl (pr.bP c3 (pr.idx 0 i1 1))) (cv 22 [(.sl none 1 (pr.bM c3 (pr.idx 0 i1 1)) (pr.bP c3 (pr.idx 0 i1 1))),(.int .i64 i0)] (.int (fun dj=>(.sl (fun rq=>(fun oD=>(.done (br (br (br (pr.nl oD) true false) true false) (br (pr.neq (pr.bM c3 (pr.idx 0 i1 1)) rq) (cv 999999 [(.sl none 0 0 (List.set c3 (pr.idx 0 i1 1) (.sl none 1 rq oD)))] (.sl (fun zB=>(fun qR=>(.done (J 0 (kN dj (pr.ar .add .i64 i1 1) n2 qR))))))) none) none)))))))) none) none) none) none) (some ((.int .i64 i0),[(.sl none 1 n2 c3),.undef]))):=by kernel_rfl
end
section
variable (t:bD Rz)
theorem F6 (n:Nat) (xs:List Int) (k:Int) (hn:n=xs.length) (h0:0<=k) (h1:k+xs.length < 9223372036854775807):aO 22 [.sl none 1 n (ints xs),.int .i64 k] t=feed t [.int .i64 (k+xs.length),.sl none 1 xs.length (ints (ji k xs.length))]:=by subst hn; exact bc (SY xs k h0 h1) (by kernel_rfl) t
theorem PZ (n:Nat) (xs:List UInt8) (k:Int) (hn:n=xs.length) (h0:0<=k) (h1:k+xs.length < 9223372036854775807):aO 176 [.sl none 1 n (bytes xs),.int .i64 k] t=feed t [.int .i64 (k+xs.length),.sl none 1 xs.length (bytes (o6 k xs.length))]:=by subst hn; exact bc (PO xs k h0 h1) (by kernel_rfl) t
theorem P2 (n:Nat) (xs:List Bool) (k:Int) (hn:n=xs.length) (h0:0<=k) (h1:k+xs.length < 9223372036854775807):aO 84 [.sl none 1 n (aE xs),.int .i64 k] t=feed t [.int .i64 (k+xs.length),.sl none 1 xs.length (aE (nK k xs.length))]:=by subst hn; exact bc (PQ xs k h0 h1) (by kernel_rfl) t
end
theorem abc {R:Type} {a b:Nat} {u v:R} (h:a=b):br (ad.neq a b) u v=u:=by simp [ad,br,h]
def dv (xss:List (List Int)):Nat:=(xss.map List.length).sum
def lV:Int->List (List Int)->List (List Int)
 | _,[]=>[]
 | k,xs::r=>ji k xs.length::lV (k+xs.length) r
theorem eN:∀ (k:Int) (xss:List (List Int)),(lV k xss).length=xss.length
 | _,[]=>rfl
 | k,xs::r=>by simp [lV,eN]
theorem Wf {α:Type} (a:List α) (x y:α) (b:List α):(a++x::b).set a.length y=(a++[y])++b:=by
 rw [ag0 _ _ (acD _)];simp
theorem CR:∀ (rest done:List (List Int)) (k:Int) (n:Nat),n=done.length+rest.length->0<=k->k+dv rest < 9223372036854775807->n < 9223372036854775807->
  WP 85 Tryz.f85 [.sl none 0 0 [],.undef] 0 (kN k (done.length:Nat) n (rows none (done++rest))) (.int .i64 (k+dv rest),[.sl none 1 n (rows none (done++lV k rest)),.undef])
 | [],done,k,n,hn,h0,h1,hs=>by
  refine WP.fin fun J=>?_;rw [ru];simp (disch:=(simp at hn; omega)) only [aF,bu,dv,agZ,List.sum_nil,lV,Int.natCast_zero,Int.add_zero]
 | xs::rest,done,k,n,hn,h0,h1,hs=>by
  have ht:dv (xs::rest)=xs.length+dv rest:=by simp [dv]
  rw [ht] at h1;have hlen:done.length < (done++xs::rest).length:=by simp
  have iF:(done++xs::rest)[done.length]=xs:=by simp
  have Ex:done.length < n:=by rw [hn]; simp
  have ih:=CR rest (done++[ji k xs.length]) (k+xs.length) n (by rw [hn]; simp; omega) (by omega) (by omega) hs
  have e1:((done++[ji k xs.length]).length:Nat)=done.length+1:=by simp
  have e2:(done++[ji k xs.length])++lV (k+xs.length) rest=done++lV k (xs::rest):=by simp [lV]
  have e3:k+(xs.length:Int)+(dv rest:Int)=k+((dv (xs::rest):Nat):Int):=by rw [ht]; omega
  rw [e1,e2,e3] at ih;refine WP.go _ ih fun J hJ=>?_;rw [ru];simp (disch:=first | omega | assumption | (simp only [dB]; done)) only [aN,bf,bt,aF,aZ,bE,cL,adR,Rq,ic,iJ,iF,jt,F6,bV,dq,aq,abc,xF,cY]
  have e4:(D.sl none 1 xs.length (ints (ji k xs.length)))=.sl none 1 (ji k xs.length).length (ints (ji k xs.length)):=by rw [dB]
  rw [e4,DJ,Wf];exact hJ
theorem P3 (xss:List (List Int)) (k:Int) (h0:0<=k) (h1:k+dv xss < 9223372036854775807) (hs:xss.length < 9223372036854775807):Cm 85 [.sl none 1 xss.length (rows none xss),.int .i64 k] (.int .i64 (k+dv xss),[.sl none 1 xss.length (rows none (lV k xss)),.undef]):=by
 refine Cm.go DO [.sl none 0 0 [],.undef] 0 _ (CR xss [] k xss.length (by simp) h0 h1 hs) fun J hJ=>?_
 rw [DP];exact hJ
section
variable (t:bD Rz)
theorem P4 (n:Nat) (xss:List (List Int)) (k:Int) (hn:n=xss.length) (h0:0<=k) (h1:k+dv xss < 9223372036854775807) (hs:xss.length < 9223372036854775807):aO 85 [.sl none 1 n (rows none xss),.int .i64 k] t=feed t [.int .i64 (k+dv xss),.sl none 1 xss.length (rows none (lV k xss))]:=by subst hn; exact bc (P3 xss k h0 h1 hs) (by kernel_rfl) t
end
def S8 (k:Int):Bool:=k.tmod 3==0
theorem ahQ (k:Int):ad.eq (ad.ar .rem .i64 k 3) 0=S8 k:=rfl
set_option maxRecDepth 100000
section
variable (pr:ej) (cv:Cv Rz) (J:Nat->St->Option Rz)
def lW (g0:Bool) (n1:Nat) (c2:List D) (i3:Int) (i4:Int):St:=(St.mk [(0,(.sl (some g0) 1 n1 c2)),(1,(.int .i64 i3)),(5,(.int .i64 i4))] [] [] 0)
theorem ON:Told cfg Tryz.prog 102 Tryz.f102:=⟨by kernel_rfl,Tryz.func102,by kernel_rfl⟩
theorem OO (g0:Bool) (n0:Nat) (c0:List D) (a1:Int):aU pr cv J 102 Tryz.f102 [(.sl (some g0) 1 n0 c0),(.int .i64 a1)]=
 (J 0 (lW g0 n0 c0 a1 0)):=by kernel_rfl
theorem qS (g0:Bool) (n1:Nat) (c2:List D) (i3:Int) (i4:Int):cg pr cv J 102 Tryz.f102 [.undef,.undef] 0 (lW g0 n1 c2 i3 i4)=
 (br (pr.lt i4 (pr.ba n1)) (br (pr.bR i4 n1) (br (br (pr.da .i64 c2 (pr.idx 0 i4 1)) true false) (br (pr.eq (pr.cd c2 (pr.idx 0 i4 1)) i3) (some ((.bool true),[.undef,.undef])) (J 0 (lW g0 n1 c2 i3 (pr.ar .add .i64 i4 1)))) none) none) (some ((.bool false),[.undef,.undef]))):=by kernel_rfl
def kO (g0:Bool) (n1:Nat) (c2:List D) (g3:Bool) (n4:Nat) (c5:List D) (i6:Int):St:=(St.mk [(0,(.sl (some g0) 1 n1 c2)),(1,(.sl (some g3) 1 n4 c5)),(5,(.int .i64 i6))] [] [] 0)
theorem KI:Told cfg Tryz.prog 193 Tryz.f193:=⟨by kernel_rfl,Tryz.func193,by kernel_rfl⟩
theorem KJ (g0:Bool) (n0:Nat) (c0:List D) (g1:Bool) (n1:Nat) (c1:List D):aU pr cv J 193 Tryz.f193 [(.sl (some g0) 1 n0 c0),(.sl (some g1) 1 n1 c1)]=
 (J 0 (kO g0 n0 c0 g1 n1 c1 0)):=by kernel_rfl
theorem pH (g0:Bool) (n1:Nat) (c2:List D) (g3:Bool) (n4:Nat) (c5:List D) (i6:Int):cg pr cv J 193 Tryz.f193 [.undef,.undef] 0 (kO g0 n1 c2 g3 n4 c5 i6)=
 let y1:Option (D × List D):=(some ((.bool (pr.eq (pr.ba n1) (pr.ba n4))),[.undef,.undef]))
 (br (pr.lt i6 (pr.ba n1)) (br (pr.lt i6 (pr.ba n4)) (br (pr.bR i6 n1) (br (br (pr.da .i64 c2 (pr.idx 0 i6 1)) true false) (br (pr.bR i6 n4) (br (br (pr.da .i64 c5 (pr.idx 0 i6 1)) true false) (br (br (pr.eq (pr.cd c2 (pr.idx 0 i6 1)) (pr.cd c5 (pr.idx 0 i6 1))) false true) (some ((.bool false),[.undef,.undef])) (J 0 (kO g0 n1 c2 g3 n4 c5 (pr.ar .add .i64 i6 1)))) none) none) none) none) y1) y1):=by kernel_rfl
theorem OP:Told cfg Tryz.prog 192 Tryz.f192:=⟨by kernel_rfl,Tryz.func192,by kernel_rfl⟩
theorem OQ (a0:Bool):aU pr cv J 192 Tryz.f192 [(.bool a0)]=
 (br a0 (some ((.int .i64 1),[.undef])) (some ((.int .i64 0),[.undef]))):=by kernel_rfl
theorem KK:Told cfg Tryz.prog 92 Tryz.f92:=⟨by kernel_rfl,Tryz.func92,by kernel_rfl⟩
theorem KL (a0:Int):aU pr cv J 92 Tryz.f92 [(.int .i64 a0)]=
 (cv 105 [(.int .i64 a0),(.int .i64 0),(.int .i64 2)] (.bool (fun ct=>(.done (some ((.bool ct),[.undef])))))):=by kernel_rfl
theorem KM:Told cfg Tryz.prog 93 Tryz.f93:=⟨by kernel_rfl,Tryz.func93,by kernel_rfl⟩
theorem KN (a0:Int):aU pr cv J 93 Tryz.f93 [(.int .i64 a0)]=
 (cv 105 [(.int .i64 a0),(.int .i64 0),(.int .i64 7)] (.bool (fun ct=>(.done (some ((.bool ct),[.undef])))))):=by kernel_rfl
theorem H0:Told cfg Tryz.prog 172 Tryz.f172:=⟨by kernel_rfl,Tryz.func172,by kernel_rfl⟩
theorem H3 (a0:Int):aU pr cv J 172 Tryz.f172 [(.int .i64 a0)]=
 (cv 105 [(.int .i64 a0),(.int .i64 1),(.int .i64 200)] (.bool (fun ct=>(.done (some ((.bool ct),[.undef])))))):=by kernel_rfl
theorem P5:Told cfg Tryz.prog 334 Tryz.f334:=⟨by kernel_rfl,Tryz.func334,by kernel_rfl⟩
theorem P6 (a0:Bool) (a1:Int):aU pr cv J 334 Tryz.f334 [(.bool a0),(.int .i64 a1)]=
 (br a0 (some ((.int .i64 a1),[.undef,.undef])) (some ((.int .i64 0),[.undef,.undef]))):=by kernel_rfl
theorem P7:Told cfg Tryz.prog 111 Tryz.f111:=⟨by kernel_rfl,Tryz.func111,by kernel_rfl⟩
theorem P8 (a0:Int):aU pr cv J 111 Tryz.f111 [(.int .i64 a0)]=
 let y1:Option (D × List D):=(some ((.int .i64 (pr.ar .sub .i64 1 a0)),[.undef]))
 (br (pr.eq a0 0) y1 (br (pr.eq a0 1) y1 (some ((.int .i64 (-1)),[.undef])))):=by kernel_rfl
theorem P9:Told cfg Tryz.prog 109 Tryz.f109:=⟨by kernel_rfl,Tryz.func109,by kernel_rfl⟩
theorem Qa (a0:Int):aU pr cv J 109 Tryz.f109 [(.int .i64 a0)]=
 (cv 87 [(.int .i64 a0),(.int .i64 0),(.int .i64 1)] (.bool (fun ct=>(.done (br ct (some ((.int .i64 (pr.ar .sub .i64 1 a0)),[.undef])) (some ((.int .i64 (-1)),[.undef]))))))):=by kernel_rfl
def jX (g0:Bool) (n1:Nat) (c2:List D) (i3:Int):St:=(St.mk [(0,(.sl (some g0) 1 n1 c2)),(3,(.int .i64 i3))] [] [] 0)
theorem H4:Told cfg Tryz.prog 233 Tryz.f233:=⟨by kernel_rfl,Tryz.func233,by kernel_rfl⟩
theorem H5 (g0:Bool) (n0:Nat) (c0:List D):aU pr cv J 233 Tryz.f233 [(.sl (some g0) 1 n0 c0)]=
 (J 0 (jX g0 n0 c0 0)):=by kernel_rfl
theorem oO (g0:Bool) (n1:Nat) (c2:List D) (i3:Int):cg pr cv J 233 Tryz.f233 [.undef] 0 (jX g0 n1 c2 i3)=
 let y1:Option (D × List D):=(some ((.bool false),[.undef]))
 let y2:Option Rz:=(J 0 (jX g0 n1 c2 (pr.ar .add .i64 i3 1)))
 (br (pr.lt i3 (pr.ba n1)) (br (pr.bR i3 n1) (br (br (pr.da .i64 c2 (pr.idx 0 i3 1)) true false) (cv 87 [(.int .i64 (pr.cd c2 (pr.idx 0 i3 1))),(.int .i64 0),(.int .i64 7)] (.bool (fun ct=>(.done (br (br ct false true) y1 (br (pr.lt 0 i3) (br (pr.bR (pr.ar .sub .i64 i3 1) n1) (br (br (pr.da .i64 c2 (pr.idx 0 (pr.ar .sub .i64 i3 1) 1)) true false) (br (pr.bR i3 n1) (br (br (pr.da .i64 c2 (pr.idx 0 i3 1)) true false) (br (pr.le (pr.cd c2 (pr.idx 0 i3 1)) (pr.cd c2 (pr.idx 0 (pr.ar .sub .i64 i3 1) 1))) y1 y2) none) none) none) none) y2)))))) none) none) (some ((.bool true),[.undef]))):=by kernel_rfl
def jY (g0:Bool) (n1:Nat) (c2:List D) (i3:Int) (i4:Int):St:=(St.mk [(0,(.sl (some g0) 1 n1 c2)),(5,(.sl (some g0) 1 n1 c2)),(6,(.int .i64 i3)),(7,(.int .i64 i4))] [] [] 0)
theorem H6:Told cfg Tryz.prog 239 Tryz.f239:=⟨by kernel_rfl,Tryz.func239,by kernel_rfl⟩
theorem H7 (g0:Bool) (n0:Nat) (c0:List D):aU pr cv J 239 Tryz.f239 [(.sl (some g0) 1 n0 c0)]=
 (J 0 (jY g0 n0 c0 (pr.ba n0) 0)):=by kernel_rfl
theorem oP (g0:Bool) (n1:Nat) (c2:List D) (i3:Int) (i4:Int):cg pr cv J 239 Tryz.f239 [.undef] 0 (jY g0 n1 c2 i3 i4)=
 let y1:Option (D × List D):=(some ((.bool false),[.undef]))
 let y2:Option Rz:=(J 0 (jY g0 n1 c2 i3 (pr.ar .add .i64 i4 1)))
 (br (pr.lt i4 i3) (br (pr.bR i4 n1) (br (br (pr.da .i64 c2 (pr.idx 0 i4 1)) true false) (cv 93 [(.int .i64 (pr.cd c2 (pr.idx 0 i4 1)))] (.bool (fun ct=>(.done (br (br ct false true) y1 (br (pr.lt 0 i4) (br (pr.bR (pr.ar .sub .i64 i4 1) n1) (br (br (pr.da .i64 c2 (pr.idx 0 (pr.ar .sub .i64 i4 1) 1)) true false) (br (pr.le (pr.cd c2 (pr.idx 0 i4 1)) (pr.cd c2 (pr.idx 0 (pr.ar .sub .i64 i4 1) 1))) y1 y2) none) none) y2)))))) none) none) (some ((.bool true),[.undef]))):=by kernel_rfl
def kP (g0:Bool) (n1:Nat) (c2:List D) (i3:Int):St:=(St.mk [(0,(.sl (some g0) 1 n1 c2)),(3,(.int .i64 i3))] [] [] 0)
theorem KO:Told cfg Tryz.prog 186 Tryz.f186:=⟨by kernel_rfl,Tryz.func186,by kernel_rfl⟩
theorem KP (g0:Bool) (n0:Nat) (c0:List D):aU pr cv J 186 Tryz.f186 [(.sl (some g0) 1 n0 c0)]=
 (J 0 (kP g0 n0 c0 0)):=by kernel_rfl
theorem pI (g0:Bool) (n1:Nat) (c2:List D) (i3:Int):cg pr cv J 186 Tryz.f186 [.undef] 0 (kP g0 n1 c2 i3)=
 let y1:Option (D × List D):=(some ((.bool false),[.undef]))
 (br (pr.lt i3 (pr.ba n1)) (br (pr.bR i3 n1) (br (br (pr.da .i64 c2 (pr.idx 0 i3 1)) true false) (cv 87 [(.int .i64 (pr.cd c2 (pr.idx 0 i3 1))),(.int .i64 1),(.int .i64 100000)] (.bool (fun ct=>(.done (br (br ct false true) y1 (br (pr.rj 0 i3 n1) (br (pr.bR i3 n1) (br (br (pr.da .i64 c2 (pr.idx 0 i3 1)) true false) (cv 102 [(.sl (some g0) 1 (pr.hI i3 0) (List.take (Nat.mul (pr.hI i3 0) 1) (List.drop (Nat.mul (pr.gF 0) 1) c2))),(.int .i64 (pr.cd c2 (pr.idx 0 i3 1)))] (.bool (fun hZ=>(.done (br hZ y1 (J 0 (kP g0 n1 c2 (pr.ar .add .i64 i3 1)))))))) none) none) none)))))) none) none) (some ((.bool (pr.le (pr.ba n1) 12)),[.undef]))):=by kernel_rfl
def kQ (g0:Bool) (n1:Nat) (c2:List D) (i3:Int) (i4:Int):St:=(St.mk [(0,(.sl (some g0) 1 n1 c2)),(5,(.sl (some g0) 1 n1 c2)),(6,(.int .i64 i3)),(7,(.int .i64 i4))] [] [] 0)
theorem KQ:Told cfg Tryz.prog 189 Tryz.f189:=⟨by kernel_rfl,Tryz.func189,by kernel_rfl⟩
theorem KR (g0:Bool) (n0:Nat) (c0:List D):aU pr cv J 189 Tryz.f189 [(.sl (some g0) 1 n0 c0)]=
 (J 0 (kQ g0 n0 c0 (pr.ba n0) 0)):=by kernel_rfl
theorem pJ (g0:Bool) (n1:Nat) (c2:List D) (i3:Int) (i4:Int):cg pr cv J 189 Tryz.f189 [.undef] 0 (kQ g0 n1 c2 i3 i4)=
 let y1:Option (D × List D):=(some ((.bool false),[.undef]))
 (br (pr.lt i4 i3) (br (pr.bR i4 n1) (br (br (pr.da .i64 c2 (pr.idx 0 i4 1)) true false) (cv 105 [(.int .i64 (pr.cd c2 (pr.idx 0 i4 1))),(.int .i64 1),(.int .i64 100000)] (.bool (fun ct=>(.done (br (br ct false true) y1 (br (pr.rj 0 i4 n1) (cv 106 [(.sl (some g0) 1 (pr.hI i4 0) (List.take (Nat.mul (pr.hI i4 0) 1) (List.drop (Nat.mul (pr.gF 0) 1) c2))),(.int .i64 (pr.cd c2 (pr.idx 0 i4 1)))] (.bool (fun hZ=>(.done (br hZ y1 (J 0 (kQ g0 n1 c2 i3 (pr.ar .add .i64 i4 1)))))))) none)))))) none) none) (some ((.bool (pr.le (pr.ba n1) 12)),[.undef]))):=by kernel_rfl
def jZ (g0:Bool) (n1:Nat) (c2:List D) (i3:Int):St:=(St.mk [(0,(.sl (some g0) 1 n1 c2)),(3,(.int .i64 i3))] [] [] 0)
theorem H8:Told cfg Tryz.prog 160 Tryz.f160:=⟨by kernel_rfl,Tryz.func160,by kernel_rfl⟩
theorem H9 (g0:Bool) (n0:Nat) (c0:List D):aU pr cv J 160 Tryz.f160 [(.sl (some g0) 1 n0 c0)]=
 (J 0 (jZ g0 n0 c0 0)):=by kernel_rfl
theorem oQ (g0:Bool) (n1:Nat) (c2:List D) (i3:Int):cg pr cv J 160 Tryz.f160 [.undef] 0 (jZ g0 n1 c2 i3)=
 (br (pr.lt i3 (pr.ba n1)) (br (pr.bR i3 n1) (br (br (pr.da .i64 c2 (pr.idx 0 i3 1)) true false) (cv 87 [(.int .i64 (pr.cd c2 (pr.idx 0 i3 1))),(.int .i64 0),(.int .i64 200)] (.bool (fun ct=>(.done (br (br ct false true) (some ((.bool false),[.undef])) (J 0 (jZ g0 n1 c2 (pr.ar .add .i64 i3 1)))))))) none) none) (some ((.bool (pr.eq (pr.ba n1) 8)),[.undef]))):=by kernel_rfl
theorem vt:Told cfg Tryz.prog 106 Tryz.f106:=⟨by kernel_rfl,Tryz.func106,by kernel_rfl⟩
theorem vu (g0:Bool) (n0:Nat) (c0:List D) (a1:Int):aU pr cv J 106 Tryz.f106 [(.sl (some g0) 1 n0 c0),(.int .i64 a1)]=
 (cv 188 [(.sl (some g0) 1 n0 c0),(.int .i64 a1)] (.int (fun dj=>(.done (some ((.bool (pr.le 0 dj)),[.undef,.undef])))))):=by kernel_rfl
def fQ (g0:Bool) (n1:Nat) (c2:List D) (i3:Int) (i4:Int) (i5:Int):St:=(St.mk [(0,(.sl (some g0) 1 n1 c2)),(1,(.int .i64 i3)),(7,(.int .i64 i4)),(8,(.int .i64 i5))] [] [] 0)
theorem xZ:Told cfg Tryz.prog 188 Tryz.f188:=⟨by kernel_rfl,Tryz.func188,by kernel_rfl⟩
theorem ya (g0:Bool) (n0:Nat) (c0:List D) (a1:Int):aU pr cv J 188 Tryz.f188 [(.sl (some g0) 1 n0 c0),(.int .i64 a1)]=
 (J 0 (fQ g0 n0 c0 a1 (pr.ba n0) 0)):=by kernel_rfl
theorem j0 (g0:Bool) (n1:Nat) (c2:List D) (i3:Int) (i4:Int) (i5:Int):cg pr cv J 188 Tryz.f188 [.undef,.undef] 0 (fQ g0 n1 c2 i3 i4 i5)=
 (br (pr.lt i5 i4) (br (pr.bR i5 n1) (br (br (pr.da .i64 c2 (pr.idx 0 i5 1)) true false) (br (pr.eq i3 (pr.cd c2 (pr.idx 0 i5 1))) (some ((.int .i64 i5),[.undef,.undef])) (J 0 (fQ g0 n1 c2 i3 i4 (pr.ar .add .i64 i5 1)))) none) none) (some ((.int .i64 (-1)),[.undef,.undef]))):=by kernel_rfl
def fR (g0:Bool) (n1:Nat) (c2:List D) (g3:Bool) (n4:Nat) (c5:List D) (i6:Int) (i7:Int):St:=(St.mk [(0,(.sl (some g0) 1 n1 c2)),(1,(.sl (some g3) 1 n4 c5)),(12,(.int .i64 i6)),(13,(.int .i64 i7))] [] [] 0)
theorem qe:Told cfg Tryz.prog 202 Tryz.f202:=⟨by kernel_rfl,Tryz.func202,by kernel_rfl⟩
theorem qf (g0:Bool) (n0:Nat) (c0:List D) (g1:Bool) (n1:Nat) (c1:List D):aU pr cv J 202 Tryz.f202 [(.sl (some g0) 1 n0 c0),(.sl (some g1) 1 n1 c1)]=
 (br (br (pr.eq (pr.ba n0) (pr.ba n1)) false true) (some ((.bool false),[.undef,.undef])) (J 0 (fR g0 n0 c0 g1 n1 c1 (pr.ba n0) 0))):=by kernel_rfl
theorem j1 (g0:Bool) (n1:Nat) (c2:List D) (g3:Bool) (n4:Nat) (c5:List D) (i6:Int) (i7:Int):cg pr cv J 202 Tryz.f202 [.undef,.undef] 0 (fR g0 n1 c2 g3 n4 c5 i6 i7)=
 (br (pr.lt i7 i6) (br (pr.bR i7 n1) (br (br (pr.da .i64 c2 (pr.idx 0 i7 1)) true false) (br (pr.bR i7 n4) (br (br (pr.da .i64 c5 (pr.idx 0 i7 1)) true false) (br (br (pr.eq (pr.cd c2 (pr.idx 0 i7 1)) (pr.cd c5 (pr.idx 0 i7 1))) false true) (some ((.bool false),[.undef,.undef])) (J 0 (fR g0 n1 c2 g3 n4 c5 i6 (pr.ar .add .i64 i7 1)))) none) none) none) none) (some ((.bool true),[.undef,.undef]))):=by kernel_rfl
theorem KS:Told cfg Tryz.prog 313 Tryz.f313:=⟨by kernel_rfl,Tryz.func313,by kernel_rfl⟩
theorem KT (g0:Bool) (n0:Nat) (c0:List D) (g1:Bool) (n1:Nat) (c1:List D):aU pr cv J 313 Tryz.f313 [(.sl (some g0) 1 n0 c0),(.sl (some g1) 1 n1 c1)]=
 (br (pr.rY c0) (br (pr.rY c1) (some ((.bool (pr.seq (pr.AD c0) (pr.AD c1))),[.undef,.undef])) none) none):=by kernel_rfl
theorem DQ:Told cfg Tryz.prog 236 Tryz.f236:=⟨by kernel_rfl,Tryz.func236,by kernel_rfl⟩
theorem DR (a0:Int):aU pr cv J 236 Tryz.f236 [(.int .i64 a0)]=
 (cv 105 [(.int .i64 a0),(.int .i64 0),(.int .i64 200)] (.bool (fun ct=>(.done (some ((.bool (br ct false true)),[.undef])))))):=by kernel_rfl
theorem Ce:Told cfg Tryz.prog 238 Tryz.f238:=⟨by kernel_rfl,Tryz.func238,by kernel_rfl⟩
theorem Cf (g0:Bool) (n0:Nat) (c0:List D):aU pr cv J 238 Tryz.f238 [(.sl (some g0) 1 n0 c0)]=
 (cv 239 [(.sl (some g0) 1 n0 c0)] (.bool (fun ct=>(.done (some ((.bool (br ct false true)),[.undef])))))):=by kernel_rfl
theorem F7:Told cfg Tryz.prog 169 Tryz.f169:=⟨by kernel_rfl,Tryz.func169,by kernel_rfl⟩
theorem F8 (g0:Bool) (n0:Nat) (c0:List D):aU pr cv J 169 Tryz.f169 [(.sl (some g0) 1 n0 c0)]=
 (br (pr.eq (pr.ba n0) 3) (cv 237 [(.sl (some g0) 1 n0 c0),(.fn 238 [])] (.bool (fun ct=>(.done (some ((.bool (br ct false true)),[.undef])))))) (some ((.bool false),[.undef]))):=by kernel_rfl
theorem Ia:Told cfg Tryz.prog 167 Tryz.f167:=⟨by kernel_rfl,Tryz.func167,by kernel_rfl⟩
theorem Ib (g0:Bool) (n0:Nat) (c0:List D):aU pr cv J 167 Tryz.f167 [(.sl (some g0) 1 n0 c0)]=
 (br (pr.eq (pr.ba n0) 8) (cv 135 [(.sl (some g0) 1 n0 c0),(.fn 236 [])] (.bool (fun ct=>(.done (some ((.bool (br ct false true)),[.undef])))))) (some ((.bool false),[.undef]))):=by kernel_rfl
theorem o9:Told cfg Tryz.prog 135 Tryz.f135:=⟨by kernel_rfl,Tryz.func135,by kernel_rfl⟩
theorem pb (g0:Bool) (n0:Nat) (c0:List D):aU pr cv J 135 Tryz.f135 [(.sl (some g0) 1 n0 c0),(.fn 236 [])]=
 (cv 216 [(.sl (some g0) 1 n0 c0),(.fn 236 [])] (.int (fun dj=>(.done (some ((.bool (pr.le 0 dj)),[.undef,.undef])))))):=by kernel_rfl
def dW (g0:Bool) (n1:Nat) (c2:List D) (i3:Int) (i4:Int):St:=(St.mk [(0,(.sl (some g0) 1 n1 c2)),(1,(.fn 236 [])),(7,(.int .i64 i3)),(8,(.int .i64 i4))] [] [] 0)
theorem qT:Told cfg Tryz.prog 216 Tryz.f216:=⟨by kernel_rfl,Tryz.func216,by kernel_rfl⟩
theorem qU (g0:Bool) (n0:Nat) (c0:List D):aU pr cv J 216 Tryz.f216 [(.sl (some g0) 1 n0 c0),(.fn 236 [])]=
 (J 0 (dW g0 n0 c0 (pr.ba n0) 0)):=by kernel_rfl
theorem gg (g0:Bool) (n1:Nat) (c2:List D) (i3:Int) (i4:Int):cg pr cv J 216 Tryz.f216 [.undef,.undef] 0 (dW g0 n1 c2 i3 i4)=
 (br (pr.lt i4 i3) (br (pr.bR i4 n1) (br (br (pr.da .i64 c2 (pr.idx 0 i4 1)) true false) (cv 236 [(.int .i64 (pr.cd c2 (pr.idx 0 i4 1)))] (.bool (fun ct=>(.done (br ct (some ((.int .i64 i4),[.undef,.undef])) (J 0 (dW g0 n1 c2 i3 (pr.ar .add .i64 i4 1)))))))) none) none) (some ((.int .i64 (-1)),[.undef,.undef]))):=by kernel_rfl
theorem pc:Told cfg Tryz.prog 237 Tryz.f237:=⟨by kernel_rfl,Tryz.func237,by kernel_rfl⟩
theorem pd (g0:Bool) (n0:Nat) (c0:List D):aU pr cv J 237 Tryz.f237 [(.sl (some g0) 1 n0 c0),(.fn 238 [])]=
 (cv 280 [(.sl (some g0) 1 n0 c0),(.fn 238 [])] (.int (fun dj=>(.done (some ((.bool (pr.le 0 dj)),[.undef,.undef])))))):=by kernel_rfl
def dX (g0:Bool) (n1:Nat) (c2:List D) (i3:Int) (i4:Int):St:=(St.mk [(0,(.sl (some g0) 1 n1 c2)),(1,(.fn 238 [])),(7,(.int .i64 i3)),(8,(.int .i64 i4))] [] [] 0)
theorem qV:Told cfg Tryz.prog 280 Tryz.f280:=⟨by kernel_rfl,Tryz.func280,by kernel_rfl⟩
theorem qW (g0:Bool) (n0:Nat) (c0:List D):aU pr cv J 280 Tryz.f280 [(.sl (some g0) 1 n0 c0),(.fn 238 [])]=
 (J 0 (dX g0 n0 c0 (pr.ba n0) 0)):=by kernel_rfl
theorem gh (g0:Bool) (n1:Nat) (c2:List D) (i3:Int) (i4:Int):cg pr cv J 280 Tryz.f280 [.undef,.undef] 0 (dX g0 n1 c2 i3 i4)=
 (br (pr.lt i4 i3) (br (pr.bR i4 n1) (br (br (pr.cZ 1 c2 (pr.idx 0 i4 1)) true false) (cv 238 [(.sl (some (pr.cD c2 (pr.idx 0 i4 1))) 1 (pr.bM c2 (pr.idx 0 i4 1)) (pr.bP c2 (pr.idx 0 i4 1)))] (.bool (fun ct=>(.done (br ct (some ((.int .i64 i4),[.undef,.undef])) (J 0 (dX g0 n1 c2 i3 (pr.ar .add .i64 i4 1)))))))) none) none) (some ((.int .i64 (-1)),[.undef,.undef]))):=by kernel_rfl
end
theorem WP.scan {f:FuncId} {fn:Func} {sk:List D} {j:Nat} {H:Nat->St} {n:Nat} (p:Nat->Bool) {bad y7:Rz} (EU:∀ i r,i < n->p i=true->WP f fn sk j (H (i+1)) r->WP f fn sk j (H i) r) (Yw:∀ i,i < n->p i=false->WP f fn sk j (H i) bad) (Yx:WP f fn sk j (H n) y7):WP f fn sk j (H 0) (if (List.range n).all p then y7 else bad):=by
 have key:∀ k i,i+k=n->WP f fn sk j (H i) (if ((List.range n).drop i).all p then y7 else bad):=by
  intro k
  induction k with
  | zero=>
   intro i hi;obtain rfl:i=n:=by omega
   rw [agC (by simp)]
   exact Yx
  | succ k ih=>
   intro i hi;have cK:i < (List.range n).length:=by simp; omega
   have e:((List.range n).drop i).all p=(p i&&((List.range n).drop (i+1)).all p):=by
    rw [<- af9 cK];simp
   rw [e];cases hp:p i with
   | true=>
    rw [agI];exact EU i _ (by omega) hp (ih (i+1) (by omega))
   | false=>
    rw [agj];exact Yw i (by omega) hp
 exact key n 0 (by omega)
theorem bJ {α:Type} {l:List α} {i:Nat} (h:i < l.length) {d:α}:l.getD i d=l[i]:=by simp [af6,h]
theorem Yy {α:Type} (p:α->Bool) (d:α) (xs:List α):((List.range xs.length).all fun i=>p (xs.getD i d))=xs.all p:=by
 rw [Bool.eq_iff_iff,ab9,ab9];constructor
 ·intro h x hx;obtain ⟨i,hi,rfl⟩:=List.mem_iff_getElem.1 hx;have:=h i (agq.2 hi)
  rwa [bJ hi] at this
 ·intro h i hi;rw [bJ (agq.1 hi)];exact h _ (acN _)
def Rz.bool (b:Bool) (k:Nat):Rz:=(.bool b,List.replicate k .undef)
theorem Ru (g:Bool) (xs:List Int) (a:Int) (hb:xs.length < 4611686018427387904):Cm 102 [.sl (some g) 1 xs.length (ints xs),.int .i64 a] (.bool (decide (a∈xs)),[.undef,.undef]):=by
 have e0:(Rz.bool (decide (a∈xs)) 2)=(if (List.range xs.length).all fun i=>!(xs.getD i 0==a) then Rz.bool false 2 else Rz.bool true 2):=by
  rw [Yy (fun x=>!(x==a))];by_cases h:a∈xs
  ·have:(xs.all fun x=>!(x==a))=false:=by
    rw [List.all_eq_false];exact ⟨a,h,by simp⟩
   simp [this,h]
  ·have:(xs.all fun x=>!(x==a))=true:=by
    rw [ab9];intro x hx;have:x≠a:=fun e=>h (e▸hx);simp [this]
   simp [this,h]
 show Cm _ _ (Rz.bool (decide (a∈xs)) 2);rw [e0];refine Cm.go ON [.undef,.undef] 0 (lW g xs.length (ints xs) a (0:Nat)) ?_ fun J hJ=>?_
 ·refine WP.scan (H:=fun i:Nat=>lW g xs.length (ints xs) a (i:Nat)) _ (fun i r hi hp ih=>WP.go _ ih fun J hJ=>?_) (fun i hi hp=>WP.fin fun J=>?_) (WP.fin fun J=>?_)
  ·rw [qS];rw [bJ hi] at hp;have cQ:xs[i]≠a:=by simpa using hp
   simp (disch:=first | omega | assumption) only [aN,bf,bt,aF,aZ,bE,cL,dI,dJ,eh,cY]
   exact hJ
  ·rw [qS];rw [bJ hi] at hp;have he:xs[i]=a:=by simpa using hp
   simp (disch:=first | omega | assumption) only [aN,bf,bt,aF,aZ,bE,cL,dI,dJ,gb]
   rfl
  ·rw [qS];simp (disch:=omega) only [aF,bu];rfl
 ·rw [OO];exact hJ
def Ic (xs:List Int) (a:Int):Int:=if a∈xs then (xs.idxOf a:Int) else -1
theorem abd (g:Bool) (xs:List Int) (a:Int) (hb:xs.length < 4611686018427387904):Cm 188 [.sl (some g) 1 xs.length (ints xs),.int .i64 a] (.int .i64 (Ic xs a),[.undef,.undef]):=by
 refine Cm.go xZ [.undef,.undef] 0 (fQ g xs.length (ints xs) a xs.length (0:Nat)) ?_ fun J hJ=>?_
 ·refine WP.loop (H:=fun i:Nat=>fQ g xs.length (ints xs) a xs.length (i:Nat)) (n:=xs.length) (fun i=>a∉xs.take i) (fun i hi hv ih=>?_) (fun hv=>WP.fin fun J=>?_) 0 (adt _) (by simp)
  ·by_cases he:a=xs[i]
   ·refine WP.fin fun J=>?_;rw [j0];have hm:a∈xs:=he▸acN hi;have hix:xs.idxOf a=i:=by
     have e1:xs=xs.take i++xs[i]::xs.drop (i+1):=by rw [af9 hi,agH]
     rw [e1,List.idxOf_append,if_neg hv,he,List.idxOf_cons_self,acG];omega
    unfold Ic;rw [if_pos hm,hix];simp (disch:=first | omega | assumption) only [aN,bf,bt,aZ,bE,cL,dI,dJ,gb]
   ·refine WP.go _ (ih (by
     rw [<- adw hi];simp only [sE,adU,not_or];exact ⟨hv,he⟩)) fun J hJ=>?_
    rw [j0];simp (disch:=first | omega | assumption) only [aN,bf,bt,aZ,bE,cL,dI,dJ,eh,cY]
    exact hJ
  ·rw [j0];rw [ac8] at hv;unfold Ic;rw [if_neg hv];simp (disch:=omega) only [bu]
 ·rw [ya];exact hJ
theorem F9 (g:Bool) (xs:List Int) (a:Int) (hb:xs.length < 4611686018427387904):Cm 106 [.sl (some g) 1 xs.length (ints xs),.int .i64 a] (.bool (decide (a∈xs)),[.undef,.undef]):=by
 refine Cm.fin vt fun J=>?_;rw [vu];have:=bc (abd g xs a hb) (by kernel_rfl)
 simp only [this,aq,y8];have e:decide (0<=Ic xs a)=decide (a∈xs):=by
  unfold Ic;by_cases h:a∈xs<;>simp [h]
 show some (D.bool (decide (0<=Ic xs a)),_)=_;rw [e]
section
variable (t:bD Rz)
theorem Rv (g:Bool) (xs:List Int) (a:Int) (n:Nat) (hn:n=xs.length) (hb:xs.length < 4611686018427387904):aO 102 [.sl (some g) 1 n (ints xs),.int .i64 a] t=feed t [.bool (decide (a∈xs))]:=by subst hn; exact bc (Ru g xs a hb) (by kernel_rfl) t
theorem Ga (g:Bool) (xs:List Int) (a:Int) (n:Nat) (hn:n=xs.length) (hb:xs.length < 4611686018427387904):aO 106 [.sl (some g) 1 n (ints xs),.int .i64 a] t=feed t [.bool (decide (a∈xs))]:=by subst hn; exact bc (F9 g xs a hb) (by kernel_rfl) t
end
theorem Yz (a:Int):Cm 92 [.int .i64 a] (.bool (decide (0<=a/\a<=2)),[.undef]):=by
 refine Cm.fin KK fun J=>?_;rw [KL];simp only [iB,aL,aq]
theorem OR (a:Int):Cm 93 [.int .i64 a] (.bool (decide (0<=a/\a<=7)),[.undef]):=by
 refine Cm.fin KM fun J=>?_;rw [KN];simp only [iB,aL,aq]
theorem Wg (a:Int):Cm 172 [.int .i64 a] (.bool (decide (1<=a/\a<=200)),[.undef]):=by
 refine Cm.fin H0 fun J=>?_;rw [H3];simp only [iB,aL,aq]
def lI (a:Int):Int:=if a=0∨a=1 then 1 - a else -1
theorem Qb (a:Int):Cm 111 [.int .i64 a] (.int .i64 (lI a),[.undef]):=by
 refine Cm.fin P7 fun J=>?_;rw [P8];unfold lI;by_cases h0:a=0
 ·subst h0; rfl
 ·by_cases h1:a=1
  ·subst h1; rfl
  ·rw [if_neg (by omega)]
   simp (disch:=omega) only [eh]
section
variable (t:bD Rz)
theorem ze (a:Int):aO 93 [.int .i64 a] t=feed t [.bool (decide (0<=a/\a<=7))]:=bc (OR a) (by kernel_rfl) t
end
theorem Qc (a:Int):Cm 109 [.int .i64 a] (.int .i64 (lI a),[.undef]):=by
 refine Cm.fin P9 fun J=>?_;rw [Qa];simp only [kI,aL,aq];unfold lI;by_cases h0:a=0
 ·subst h0; rfl
 ·by_cases h1:a=1
  ·subst h1; rfl
  ·rw [if_neg (by omega),decide_eq_false (by omega)]
   rfl
def pe (xs:List Int) (i:Nat):Bool:=decide (0<=xs.getD i 0/\xs.getD i 0<=7)&&(decide (i=0)||decide (xs.getD (i - 1) 0 < xs.getD i 0))
def eo (xs:List Int):Bool:=(List.range xs.length).all (pe xs)
theorem yb {b:Bool} {outs:List D}:(if b=true then ((D.bool true,outs):Rz) else (D.bool false,outs))=(D.bool b,outs):=by cases b<;>rfl
theorem yc (g:Bool) (xs:List Int) (hb:xs.length < 4611686018427387904):Cm 233 [.sl (some g) 1 xs.length (ints xs)] (.bool (eo xs),[.undef]):=by
 rw [<- yb];refine Cm.go H4 [.undef] 0 (jX g xs.length (ints xs) (0:Nat)) ?_ fun J hJ=>?_
 ·refine WP.scan (H:=fun i:Nat=>jX g xs.length (ints xs) (i:Nat)) (pe xs) (fun i r hi hp ih=>WP.go _ ih fun J hJ=>?_) (fun i hi hp=>WP.fin fun J=>?_) (WP.fin fun J=>?_)
  ·rw [oO];unfold pe at hp;rw [bJ hi] at hp;simp only [wX,decide_eq_true_eq,aej] at hp;by_cases h0:i=0
   ·subst h0;simp (disch:=first | omega | assumption) only [aN,bf,bt,bG,bU,aF,aZ,bu,bE,cL,dI,dJ,kI,aL,aq,decide_eq_true hp.1,cY]
    exact hJ
   ·obtain ⟨k,rfl⟩:∃ k,i=k+1:=⟨i - 1,by omega⟩
    have hk:k < xs.length:=by omega
    have e1:((k+1:Nat):Int) - 1=(k:Int):=by omega
    have QU:xs[k] < xs[k+1]:=by
     have:=hp.2.resolve_left h0
     rwa [agX,bJ hk] at this
    simp (disch:=first | omega | assumption) only [aN,bf,bt,bG,bU,aF,aZ,bE,cL,dI,dJ,kI,aL,aq,decide_eq_true hp.1,iA,e1,o0,cY]
    exact hJ
  ·rw [oO];unfold pe at hp;rw [bJ hi] at hp;by_cases hc:0<=xs[i]/\xs[i]<=7
   ·rw [decide_eq_true hc,agI,agc,decide_eq_false_iff_not,decide_eq_false_iff_not] at hp;obtain ⟨k,rfl⟩:∃ k,i=k+1:=⟨i - 1,by omega⟩
    have hk:k < xs.length:=by omega
    have e1:((k+1:Nat):Int) - 1=(k:Int):=by omega
    have QU:xs[k+1]<=xs[k]:=by
     have:=hp.2;rw [agX,bJ hk] at this;omega
    simp (disch:=first | omega | assumption) only [aN,bf,bt,bG,bU,aF,aZ,bE,cL,dI,dJ,kI,aL,aq,decide_eq_true hc,iA,e1,BZ]
   ·simp (disch:=first | omega | assumption) only [aN,bf,bt,bG,bU,aF,aZ,bE,cL,dI,dJ,kI,aL,aq,decide_eq_false hc]
  ·rw [oO];simp (disch:=omega) only [aF,bu]
 ·rw [H5];exact hJ
theorem yd (g:Bool) (xs:List Int) (hb:xs.length < 4611686018427387904):Cm 239 [.sl (some g) 1 xs.length (ints xs)] (.bool (eo xs),[.undef]):=by
 rw [<- yb];refine Cm.go H6 [.undef] 0 (jY g xs.length (ints xs) xs.length (0:Nat)) ?_ fun J hJ=>?_
 ·refine WP.scan (H:=fun i:Nat=>jY g xs.length (ints xs) xs.length (i:Nat)) (pe xs) (fun i r hi hp ih=>WP.go _ ih fun J hJ=>?_) (fun i hi hp=>WP.fin fun J=>?_) (WP.fin fun J=>?_)
  ·rw [oP];unfold pe at hp;rw [bJ hi] at hp;simp only [wX,decide_eq_true_eq,aej] at hp;by_cases h0:i=0
   ·subst h0;simp (disch:=first | omega | assumption) only [aN,bf,bt,bG,bU,aF,aZ,bu,bE,cL,dI,dJ,ze,aL,aq,decide_eq_true hp.1,cY]
    exact hJ
   ·obtain ⟨k,rfl⟩:∃ k,i=k+1:=⟨i - 1,by omega⟩
    have hk:k < xs.length:=by omega
    have e1:((k+1:Nat):Int) - 1=(k:Int):=by omega
    have QU:xs[k] < xs[k+1]:=by
     have:=hp.2.resolve_left h0
     rwa [agX,bJ hk] at this
    simp (disch:=first | omega | assumption) only [aN,bf,bt,bG,bU,aF,aZ,bE,cL,dI,dJ,ze,aL,aq,decide_eq_true hp.1,iA,e1,o0,cY]
    exact hJ
  ·rw [oP];unfold pe at hp;rw [bJ hi] at hp;by_cases hc:0<=xs[i]/\xs[i]<=7
   ·rw [decide_eq_true hc,agI,agc,decide_eq_false_iff_not,decide_eq_false_iff_not] at hp;obtain ⟨k,rfl⟩:∃ k,i=k+1:=⟨i - 1,by omega⟩
    have hk:k < xs.length:=by omega
    have e1:((k+1:Nat):Int) - 1=(k:Int):=by omega
    have QU:xs[k+1]<=xs[k]:=by
     have:=hp.2;rw [agX,bJ hk] at this;omega
    simp (disch:=first | omega | assumption) only [aN,bf,bt,bG,bU,aF,aZ,bE,cL,dI,dJ,ze,aL,aq,decide_eq_true hc,iA,e1,BZ]
   ·simp (disch:=first | omega | assumption) only [aN,bf,bt,bG,bU,aF,aZ,bE,cL,dI,dJ,ze,aL,aq,decide_eq_false hc]
  ·rw [oP];simp (disch:=omega) only [bu]
 ·rw [H7];exact hJ
set_option maxRecDepth 100000
section
variable (pr:ej) (cv:Cv Rz) (J:Nat->St->Option Rz)
def kR (i0:Int) (g1:Bool) (n2:Nat) (c3:List D) (g4:Bool) (n5:Nat) (c6:List D) (b7:Bool) (b8:Bool) (b9:Bool) (i10:Int):St:=(St.mk [(1,(.ptr 1 [] 0)),(3,(.int .i64 i0))] [(1,[(.sl (some g1) 1 n2 c3),(.sl (some g4) 1 n5 c6),(.bool b7),(.bool b8),(.bool b9),(.int .i64 i10)])] [] 0)
theorem KU:Told cfg Tryz.prog 161 Tryz.f161:=⟨by kernel_rfl,Tryz.func161,by kernel_rfl⟩
theorem KV (g0:Bool) (n0:Nat) (c0:List D) (g1:Bool) (n1:Nat) (c1:List D) (a2:Bool) (a3:Bool) (a4:Bool) (a5:Int):aU pr cv J 161 Tryz.f161 [(.agg [(.sl (some g0) 1 n0 c0),(.sl (some g1) 1 n1 c1),(.bool a2),(.bool a3),(.bool a4),(.int .i64 a5)])]=
 (J 0 (kR 0 g0 n0 c0 g1 n1 c1 a2 a3 a4 a5)):=by kernel_rfl
theorem pK (i0:Int) (g1:Bool) (n2:Nat) (c3:List D) (g4:Bool) (n5:Nat) (c6:List D) (b7:Bool) (b8:Bool) (b9:Bool) (i10:Int):cg pr cv J 161 Tryz.f161 [.undef] 0 (kR i0 g1 n2 c3 g4 n5 c6 b7 b8 b9 i10)=
 let y1:Option (D × List D):=(some ((.bool false),[.undef]))
 (br (pr.lt i0 (pr.ba n5)) (br (pr.bR i0 n5) (br (br (pr.cZ 1 c6 (pr.idx 0 i0 1)) true false) (cv 233 [(.sl (some (pr.cD c6 (pr.idx 0 i0 1))) 1 (pr.bM c6 (pr.idx 0 i0 1)) (pr.bP c6 (pr.idx 0 i0 1)))] (.bool (fun ct=>(.done (br (br ct false true) y1 (J 0 (kR (pr.ar .add .i64 i0 1) g1 n2 c3 g4 n5 c6 b7 b8 b9 i10))))))) none) none) (cv 186 [(.sl (some g1) 1 n2 c3)] (.bool (fun hZ=>(.done (br hZ (br (pr.lt 0 (pr.ba n2)) (br (pr.eq (pr.ba n5) 3) (cv 87 [(.int .i64 i10),(.int .i64 0),(.int .i64 200)] (.bool (fun iy=>(.done (br iy (br b8 (some ((.bool (br b9 false true)),[.undef])) (some ((.bool true),[.undef]))) y1))))) y1) y1) y1)))))):=by kernel_rfl
theorem KW:Told cfg Tryz.prog 168 Tryz.f168:=⟨by kernel_rfl,Tryz.func168,by kernel_rfl⟩
theorem KX (g0:Bool) (n0:Nat) (c0:List D) (g1:Bool) (n1:Nat) (c1:List D) (a2:Bool) (a3:Bool) (a4:Bool) (a5:Int):aU pr cv J 168 Tryz.f168 [(.agg [(.sl (some g0) 1 n0 c0),(.sl (some g1) 1 n1 c1),(.bool a2),(.bool a3),(.bool a4),(.int .i64 a5)])]=
 let y1:Option (D × List D):=(some ((.bool false),[.undef]))
 (cv 189 [(.sl (some g0) 1 n0 c0)] (.bool (fun ct=>(.done (br ct (br (pr.lt 0 (pr.ba n0)) (cv 169 [(.sl (some g1) 1 n1 c1)] (.bool (fun hZ=>(.done (br hZ (cv 105 [(.int .i64 a5),(.int .i64 0),(.int .i64 200)] (.bool (fun iy=>(.done (br iy (br a3 (some ((.bool (br a4 false true)),[.undef])) (some ((.bool true),[.undef]))) y1))))) y1))))) y1) y1))))):=by kernel_rfl
def jk (i0:Int) (g1:Bool) (n2:Nat) (c3:List D) (g4:Bool) (n5:Nat) (c6:List D) (b7:Bool) (b8:Bool) (b9:Bool) (i10:Int) (g11:Bool) (gG:Nat) (ia:List D) (g14:Bool) (n15:Nat) (JR:List D) (wy:Bool) (Z8:Bool) (Z9:Bool) (i20:Int):St:=(St.mk [(2,(.ptr 2 [] 0)),(3,(.ptr 3 [] 0)),(5,(.int .i64 i0))] [(2,[(.sl (some g1) 1 n2 c3),(.sl (some g4) 1 n5 c6),(.bool b7),(.bool b8),(.bool b9),(.int .i64 i10)]),(3,[(.sl (some g11) 1 gG ia),(.sl (some g14) 1 n15 JR),(.bool wy),(.bool Z8),(.bool Z9),(.int .i64 i20)])] [] 0)
theorem wz:Told cfg Tryz.prog 164 Tryz.f164:=⟨by kernel_rfl,Tryz.func164,by kernel_rfl⟩
theorem wA (g0:Bool) (n0:Nat) (c0:List D) (g1:Bool) (n1:Nat) (c1:List D) (a2:Bool) (a3:Bool) (a4:Bool) (a5:Int) (g6:Bool) (n6:Nat) (c6:List D) (g7:Bool) (n7:Nat) (c7:List D) (a8:Bool) (a9:Bool) (a10:Bool) (a11:Int):aU pr cv J 164 Tryz.f164 [(.agg [(.sl (some g0) 1 n0 c0),(.sl (some g1) 1 n1 c1),(.bool a2),(.bool a3),(.bool a4),(.int .i64 a5)]),(.agg [(.sl (some g6) 1 n6 c6),(.sl (some g7) 1 n7 c7),(.bool a8),(.bool a9),(.bool a10),(.int .i64 a11)])]=
 let y1:Option (D × List D):=(some ((.bool false),[.undef,.undef]))
 (br (br (pr.eq (pr.ba n1) (pr.ba n7)) false true) y1 (cv 193 [(.sl (some g0) 1 n0 c0),(.sl (some g6) 1 n6 c6)] (.bool (fun ct=>(.done (br (br ct false true) y1 (br (br (pr.beq a2 a8) false true) y1 (br (br (pr.beq a3 a9) false true) y1 (br (br (pr.beq a4 a10) false true) y1 (br (br (pr.eq a5 a11) false true) y1 (J 0 (jk 0 g0 n0 c0 g1 n1 c1 a2 a3 a4 a5 g6 n6 c6 g7 n7 c7 a8 a9 a10 a11)))))))))))):=by kernel_rfl
theorem nO (i0:Int) (g1:Bool) (n2:Nat) (c3:List D) (g4:Bool) (n5:Nat) (c6:List D) (b7:Bool) (b8:Bool) (b9:Bool) (i10:Int) (g11:Bool) (gG:Nat) (ia:List D) (g14:Bool) (n15:Nat) (JR:List D) (wy:Bool) (Z8:Bool) (Z9:Bool) (i20:Int):cg pr cv J 164 Tryz.f164 [.undef,.undef] 0 (jk i0 g1 n2 c3 g4 n5 c6 b7 b8 b9 i10 g11 gG ia g14 n15 JR wy Z8 Z9 i20)=
 (br (pr.lt i0 (pr.ba n5)) (br (pr.bR i0 n5) (br (br (pr.cZ 1 c6 (pr.idx 0 i0 1)) true false) (br (pr.bR i0 n15) (br (br (pr.cZ 1 JR (pr.idx 0 i0 1)) true false) (cv 193 [(.sl (some (pr.cD c6 (pr.idx 0 i0 1))) 1 (pr.bM c6 (pr.idx 0 i0 1)) (pr.bP c6 (pr.idx 0 i0 1))),(.sl (some (pr.cD JR (pr.idx 0 i0 1))) 1 (pr.bM JR (pr.idx 0 i0 1)) (pr.bP JR (pr.idx 0 i0 1)))] (.bool (fun ct=>(.done (br (br ct false true) (some ((.bool false),[.undef,.undef])) (J 0 (jk (pr.ar .add .i64 i0 1) g1 n2 c3 g4 n5 c6 b7 b8 b9 i10 g11 gG ia g14 n15 JR wy Z8 Z9 i20))))))) none) none) none) none) (some ((.bool true),[.undef,.undef]))):=by kernel_rfl
theorem Gb:Told cfg Tryz.prog 171 Tryz.f171:=⟨by kernel_rfl,Tryz.func171,by kernel_rfl⟩
theorem Gc (g0:Bool) (n0:Nat) (c0:List D) (g1:Bool) (n1:Nat) (c1:List D) (a2:Bool) (a3:Bool) (a4:Bool) (a5:Int) (g6:Bool) (n6:Nat) (c6:List D) (g7:Bool) (n7:Nat) (c7:List D) (a8:Bool) (a9:Bool) (a10:Bool) (a11:Int):aU pr cv J 171 Tryz.f171 [(.agg [(.sl (some g0) 1 n0 c0),(.sl (some g1) 1 n1 c1),(.bool a2),(.bool a3),(.bool a4),(.int .i64 a5)]),(.agg [(.sl (some g6) 1 n6 c6),(.sl (some g7) 1 n7 c7),(.bool a8),(.bool a9),(.bool a10),(.int .i64 a11)])]=
 let y1:Option (D × List D):=(some ((.bool false),[.undef,.undef]))
 (cv 202 [(.sl (some g0) 1 n0 c0),(.sl (some g6) 1 n6 c6)] (.bool (fun ct=>(.done (br ct (cv 241 [(.sl (some g1) 1 n1 c1),(.sl (some g7) 1 n7 c7),(.fn 202 [])] (.bool (fun hZ=>(.done (br hZ (br (pr.beq a2 a8) (br (pr.beq a3 a9) (br (pr.beq a4 a10) (some ((.bool (pr.eq a5 a11)),[.undef,.undef])) y1) y1) y1) y1))))) y1))))):=by kernel_rfl
end
theorem WP.find {f:FuncId} {fn:Func} {sk:List D} {j:Nat} {H:Nat->St} {n:Nat} (p:Nat->Bool) {bad:Nat->Rz} {y7:Rz} (EU:∀ i r,i < n->p i=false->WP f fn sk j (H (i+1)) r->WP f fn sk j (H i) r) (Yw:∀ i,i < n->p i=true->WP f fn sk j (H i) (bad i)) (Yx:WP f fn sk j (H n) y7):WP f fn sk j (H 0) (match (List.range n).find? p with | some i=>bad i | none=>y7):=by
 have key:∀ k i,i+k=n->WP f fn sk j (H i) (match ((List.range n).drop i).find? p with | some i=>bad i | none=>y7):=by
  intro k
  induction k with
  | zero=>
   intro i hi;obtain rfl:i=n:=by omega
   rw [agC (by simp)]
   exact Yx
  | succ k ih=>
   intro i hi;have cK:i < (List.range n).length:=by simp; omega
   rw [<- af9 cK,List.getElem_range,List.find?_cons];cases hp:p i with
   | false=>exact EU i _ (by omega) hp (ih (i+1) (by omega))
   | true=>exact Yw i (by omega) hp
 exact key n 0 (by omega)
theorem YA {n:Nat} (p:Nat->Bool) (k:Nat->Int) (hk:∀ i,0<=k i):decide (0<=(match (List.range n).find? p with | some i=>k i | none=>-1))=!((List.range n).all fun i=>!p i):=by
 cases h:(List.range n).find? p with
 | none=>
  rw [List.find?_eq_none] at h;have:((List.range n).all fun i=>!p i)=true:=by
   rw [ab9];intro x hx
   simpa using h x hx
  rw [this];rfl
 | some i=>
  have h1:=agv h;have h2:=List.find?_some h;have:((List.range n).all fun i=>!p i)=false:=by
   rw [List.all_eq_false];exact ⟨i,h1,by simp [h2]⟩
  rw [this];simp [hk i]
theorem A7 {a b:Bool} {outs:List D}:(if a=true then ((D.bool b,outs):Rz) else (D.bool false,outs))=(D.bool (a&&b),outs):=by cases a<;>rfl
theorem B6 (n:Nat):ad.hI (n:Int) 0=n:=by simp [ad]
theorem Gd:ad.gF 0=0:=rfl
theorem Ge (n:Nat):Nat.mul n 1=n:=Nat.mul_one n
theorem Gf (n:Nat):Nat.mul 0 n=0:=Nat.zero_mul n
theorem tn (xs:List Int) (i:Nat):List.take i (ints xs)=ints (xs.take i):=by simp [ints,ag6]
def wB (xs:List Int) (i:Nat):Bool:=decide (1<=xs.getD i 0/\xs.getD i 0<=100000)&&!decide (xs.getD i 0∈xs.take i)
def fN (xs:List Int):Bool:=(List.range xs.length).all (wB xs)&&decide ((xs.length:Int)<=12)
theorem zC (g:Bool) (xs:List Int) (hb:xs.length < 4611686018427387904):Cm 186 [.sl (some g) 1 xs.length (ints xs)] (.bool (fN xs),[.undef]):=by
 unfold fN;rw [<- A7];refine Cm.go KO [.undef] 0 (kP g xs.length (ints xs) (0:Nat)) ?_ fun J hJ=>?_
 ·refine WP.scan (H:=fun i:Nat=>kP g xs.length (ints xs) (i:Nat)) (wB xs) (fun i r hi hp ih=>WP.go _ ih fun J hJ=>?_) (fun i hi hp=>WP.fin fun J=>?_) (WP.fin fun J=>?_)
  ·rw [pI];unfold wB at hp;rw [bJ hi,wX,decide_eq_true_eq,adv,decide_eq_false_iff_not] at hp;simp (disch:=first | omega | assumption | (simp; omega)) only [aN,bf,bt,bG,bU,aF,aZ,Fs,bE,cL,dI,dJ,kI,aL,aq,decide_eq_true hp.1,B6,Gd,Ge,Gf,af7,tn,Rv,decide_eq_false hp.2,cY]
   exact hJ
  ·rw [pI];unfold wB at hp;rw [bJ hi] at hp;by_cases hc:1<=xs[i]/\xs[i]<=100000
   ·rw [decide_eq_true hc,agI,Bool.not_eq_false',decide_eq_true_eq] at hp;simp (disch:=first | omega | assumption | (simp; omega)) only [aN,bf,bt,bG,bU,aF,aZ,Fs,bE,cL,dI,dJ,kI,aL,aq,decide_eq_true hc,B6,Gd,Ge,Gf,af7,tn,Rv,decide_eq_true hp]
   ·simp (disch:=first | omega | assumption) only [aN,bf,bt,bG,bU,aF,aZ,bE,cL,dI,dJ,kI,aL,aq,decide_eq_false hc]
  ·rw [pI];simp (disch:=omega) only [aF,bu,y8]
 ·rw [KP];exact hJ
theorem zD (g:Bool) (xs:List Int) (hb:xs.length < 4611686018427387904):Cm 189 [.sl (some g) 1 xs.length (ints xs)] (.bool (fN xs),[.undef]):=by
 unfold fN;rw [<- A7];refine Cm.go KQ [.undef] 0 (kQ g xs.length (ints xs) xs.length (0:Nat)) ?_ fun J hJ=>?_
 ·refine WP.scan (H:=fun i:Nat=>kQ g xs.length (ints xs) xs.length (i:Nat)) (wB xs) (fun i r hi hp ih=>WP.go _ ih fun J hJ=>?_) (fun i hi hp=>WP.fin fun J=>?_) (WP.fin fun J=>?_)
  ·rw [pJ];unfold wB at hp;rw [bJ hi,wX,decide_eq_true_eq,adv,decide_eq_false_iff_not] at hp;simp (disch:=first | omega | assumption | (simp; omega)) only [aN,bf,bt,bG,bU,aF,aZ,Fs,bE,cL,dI,dJ,iB,aL,aq,decide_eq_true hp.1,B6,Gd,Ge,Gf,af7,tn,Ga,decide_eq_false hp.2,cY]
   exact hJ
  ·rw [pJ];unfold wB at hp;rw [bJ hi] at hp;by_cases hc:1<=xs[i]/\xs[i]<=100000
   ·rw [decide_eq_true hc,agI,Bool.not_eq_false',decide_eq_true_eq] at hp;simp (disch:=first | omega | assumption | (simp; omega)) only [aN,bf,bt,bG,bU,aF,aZ,Fs,bE,cL,dI,dJ,iB,aL,aq,decide_eq_true hc,B6,Gd,Ge,Gf,af7,tn,Ga,decide_eq_true hp]
   ·simp (disch:=first | omega | assumption) only [aN,bf,bt,bG,bU,aF,aZ,bE,cL,dI,dJ,iB,aL,aq,decide_eq_false hc]
  ·rw [pJ];simp (disch:=omega) only [aF,bu,y8]
 ·rw [KR];exact hJ
def pf (xs:List Int) (i:Nat):Bool:=decide (0<=xs.getD i 0/\xs.getD i 0<=200)
def mC (xs:List Int):Bool:=(List.range xs.length).all (pf xs)&&decide ((xs.length:Int)=8)
theorem Ie (g:Bool) (xs:List Int) (hb:xs.length < 4611686018427387904):Cm 160 [.sl (some g) 1 xs.length (ints xs)] (.bool (mC xs),[.undef]):=by
 unfold mC;rw [<- A7];refine Cm.go H8 [.undef] 0 (jZ g xs.length (ints xs) (0:Nat)) ?_ fun J hJ=>?_
 ·refine WP.scan (H:=fun i:Nat=>jZ g xs.length (ints xs) (i:Nat)) (pf xs) (fun i r hi hp ih=>WP.go _ ih fun J hJ=>?_) (fun i hi hp=>WP.fin fun J=>?_) (WP.fin fun J=>?_)
  ·rw [oQ];unfold pf at hp;rw [bJ hi] at hp;simp (disch:=first | omega | assumption) only [aN,bf,bt,bG,bU,aF,aZ,bE,cL,dI,dJ,kI,aL,aq,hp,cY]
   exact hJ
  ·rw [oQ];unfold pf at hp;rw [bJ hi] at hp;simp (disch:=first | omega | assumption) only [aN,bf,bt,bG,bU,aF,aZ,bE,cL,dI,dJ,kI,aL,aq,hp]
  ·rw [oQ];simp (disch:=omega) only [aF,bu,AV];rfl
 ·rw [H9];exact hJ
theorem Qd (a:Int):Cm 236 [.int .i64 a] (.bool (!decide (0<=a/\a<=200)),[.undef]):=by
 refine Cm.fin DQ fun J=>?_;rw [DR];simp only [iB,aL,aq,bG]
theorem CS (a:Int) (t:bD Rz):aO 236 [.int .i64 a] t=feed t [.bool (!decide (0<=a/\a<=200))]:=bc (Qd a) (by kernel_rfl) t
def wC (n:Nat) (p:Nat->Bool):Int:=match (List.range n).find? (fun i=>!p i) with | some i=>(i:Int) | none=>-1
theorem OT (n:Nat) (p:Nat->Bool):decide (0<=wC n p)=!(List.range n).all p:=by
 unfold wC;rw [YA _ _ (fun i=>Int.natCast_nonneg i)];simp
theorem OU (g:Bool) (xs:List Int) (hb:xs.length < 4611686018427387904):Cm 216 [.sl (some g) 1 xs.length (ints xs),.fn 236 []] (.int .i64 (wC xs.length (pf xs)),[.undef,.undef]):=by
 have e:((.int .i64 (wC xs.length (pf xs)),[.undef,.undef]):Rz)=(match (List.range xs.length).find? (fun i=>!pf xs i) with | some i=>((.int .i64 (i:Int),[.undef,.undef]):Rz) | none=>(.int .i64 (-1),[.undef,.undef])):=by
  unfold wC;split<;>rfl
 rw [e];refine Cm.go qT [.undef,.undef] 0 (dW g xs.length (ints xs) xs.length (0:Nat)) ?_ fun J hJ=>?_
 ·refine WP.find (H:=fun i:Nat=>dW g xs.length (ints xs) xs.length (i:Nat)) _ (fun i r hi hp ih=>WP.go _ ih fun J hJ=>?_) (fun i hi hp=>WP.fin fun J=>?_) (WP.fin fun J=>?_)
  ·rw [gg];unfold pf at hp;rw [bJ hi] at hp;simp (disch:=first | omega | assumption) only [aN,bf,bt,bG,bU,aF,aZ,bE,cL,dI,dJ,CS,aL,aq,hp,cY]
   exact hJ
  ·rw [gg];unfold pf at hp;rw [bJ hi] at hp;simp (disch:=first | omega | assumption) only [aN,bf,bt,bG,aF,aZ,bE,cL,dI,dJ,CS,aL,aq,hp]
  ·rw [gg];simp (disch:=omega) only [aF,bu]
 ·rw [qU];exact hJ
theorem Gg (g:Bool) (xs:List Int) (hb:xs.length < 4611686018427387904):Cm 135 [.sl (some g) 1 xs.length (ints xs),.fn 236 []] (.bool (!(List.range xs.length).all (pf xs)),[.undef,.undef]):=by
 refine Cm.fin o9 fun J=>?_;rw [pb];have:=bc (OU g xs hb) (by kernel_rfl)
 simp only [this,aq,y8];rw [<- OT];rfl
theorem Ig (g:Bool) (xs:List Int) (hb:xs.length < 4611686018427387904):Cm 167 [.sl (some g) 1 xs.length (ints xs)] (.bool (mC xs),[.undef]):=by
 refine Cm.fin Ia fun J=>?_;rw [Ib];have:=bc (Gg g xs hb) (by kernel_rfl)
 unfold mC;by_cases h:(xs.length:Int)=8
 ·simp (disch:=first | omega | assumption) only [aF,gb,this,bG]
  rw [decide_eq_true h,ag7];show some (D.bool (!!_),_)=_;rw [Bool.not_not]
 ·simp (disch:=first | omega | assumption) only [aF,eh]
  rw [decide_eq_false h,agO]
section
variable (t:bD Rz)
theorem KY (g:Bool) (xs:List Int) (n:Nat) (hn:n=xs.length) (hb:xs.length < 4611686018427387904):aO 186 [.sl (some g) 1 n (ints xs)] t=feed t [.bool (fN xs)]:=by subst hn; exact bc (zC g xs hb) (by kernel_rfl) t
theorem KZ (g:Bool) (xs:List Int) (n:Nat) (hn:n=xs.length) (hb:xs.length < 4611686018427387904):aO 189 [.sl (some g) 1 n (ints xs)] t=feed t [.bool (fN xs)]:=by subst hn; exact bc (zD g xs hb) (by kernel_rfl) t
theorem ye (g:Bool) (xs:List Int) (n:Nat) (hn:n=xs.length) (hb:xs.length < 4611686018427387904):aO 233 [.sl (some g) 1 n (ints xs)] t=feed t [.bool (eo xs)]:=by subst hn; exact bc (yc g xs hb) (by kernel_rfl) t
theorem Ih (g:Bool) (xs:List Int) (n:Nat) (hn:n=xs.length) (hb:xs.length < 4611686018427387904):aO 239 [.sl (some g) 1 n (ints xs)] t=feed t [.bool (eo xs)]:=by subst hn; exact bc (yd g xs hb) (by kernel_rfl) t
end
set_option maxRecDepth 100000
section
variable (pr:ej) (cv:Cv Rz) (J:Nat->St->Option Rz)
def dC (g0:Bool) (n1:Nat) (c2:List D) (g3:Bool) (n4:Nat) (c5:List D) (i6:Int) (i7:Int):St:=(St.mk [(1,(.sl (some g0) 1 n1 c2)),(2,(.fn 202 [])),(15,(.sl (some g3) 1 n4 c5)),(16,(.int .i64 i6)),(17,(.int .i64 i7))] [] [] 0)
theorem jB:Told cfg Tryz.prog 241 Tryz.f241:=⟨by kernel_rfl,Tryz.func241,by kernel_rfl⟩
theorem jC (g0:Bool) (n0:Nat) (c0:List D) (g1:Bool) (n1:Nat) (c1:List D):aU pr cv J 241 Tryz.f241 [(.sl (some g0) 1 n0 c0),(.sl (some g1) 1 n1 c1),(.fn 202 [])]=
 (br (br (pr.eq (pr.ba n0) (pr.ba n1)) false true) (some ((.bool false),[.undef,.undef,.undef])) (J 0 (dC g1 n1 c1 g0 n0 c0 (pr.ba n0) 0))):=by kernel_rfl
theorem fG (g0:Bool) (n1:Nat) (c2:List D) (g3:Bool) (n4:Nat) (c5:List D) (i6:Int) (i7:Int):cg pr cv J 241 Tryz.f241 [.undef,.undef,.undef] 0 (dC g0 n1 c2 g3 n4 c5 i6 i7)=
 (br (pr.lt i7 i6) (br (pr.bR i7 n4) (br (br (pr.cZ 1 c5 (pr.idx 0 i7 1)) true false) (br (pr.bR i7 n1) (br (br (pr.cZ 1 c2 (pr.idx 0 i7 1)) true false) (cv 202 [(.sl (some (pr.cD c5 (pr.idx 0 i7 1))) 1 (pr.bM c5 (pr.idx 0 i7 1)) (pr.bP c5 (pr.idx 0 i7 1))),(.sl (some (pr.cD c2 (pr.idx 0 i7 1))) 1 (pr.bM c2 (pr.idx 0 i7 1)) (pr.bP c2 (pr.idx 0 i7 1)))] (.bool (fun ct=>(.done (br (br ct false true) (some ((.bool false),[.undef,.undef,.undef])) (J 0 (dC g0 n1 c2 g3 n4 c5 i6 (pr.ar .add .i64 i7 1)))))))) none) none) none) none) (some ((.bool true),[.undef,.undef,.undef]))):=by kernel_rfl
theorem Qe:Told cfg Tryz.prog 317 Tryz.f317:=⟨by kernel_rfl,Tryz.func317,by kernel_rfl⟩
theorem Qf (a0:Int):aU pr cv J 317 Tryz.f317 [(.int .i64 a0)]=
 (br (br (pr.lt 8 0) false true) (br (br (pr.lt 16 0) false true) (br (br (pr.lt 24 0) false true) (some ((.sl none 1 4 [(.int .u8 (pr.wrap .u8 a0)),(.int .u8 (pr.wrap .u8 (pr.ar .shr .i64 a0 8))),(.int .u8 (pr.wrap .u8 (pr.ar .shr .i64 a0 16))),(.int .u8 (pr.wrap .u8 (pr.ar .shr .i64 a0 24)))]),[.undef])) none) none) none):=by kernel_rfl
end
theorem all_eq {α:Type} [DecidableEq α] (d:α):∀ (xs ys:List α),xs.length=ys.length->((List.range xs.length).all fun i=>decide (xs.getD i d=ys.getD i d))=decide (xs=ys):=by
 intro xs ys hl;rw [Bool.eq_iff_iff,ab9,decide_eq_true_eq];constructor
 ·intro h;apply List.ext_getElem hl;intro i hi nC;have:=h i (agq.2 hi)
  rwa [decide_eq_true_eq,bJ hi,bJ nC] at this
 ·intro h;subst h;intro i _;simp
theorem S9 {α:Type} [DecidableEq α] (d:α) (xs ys:List α):(((List.range (min xs.length ys.length)).all fun i=>decide (xs.getD i d=ys.getD i d))&&decide ((xs.length:Int)=(ys.length:Int)))=decide (xs=ys):=by
 by_cases h:xs.length=ys.length
 ·rw [<- h,Nat.min_self,all_eq d xs ys h];simp
 ·have:xs≠ys:=fun e=>h (e▸rfl);have h':¬ (xs.length:Int)=(ys.length:Int):=by omega
  rw [decide_eq_false h',decide_eq_false this,agO]
theorem OV (g h:Bool) (xs ys:List Int) (hx:xs.length < 4611686018427387904) (hy:ys.length < 4611686018427387904):Cm 193 [.sl (some g) 1 xs.length (ints xs),.sl (some h) 1 ys.length (ints ys)] (.bool (decide (xs=ys)),[.undef,.undef]):=by
 rw [<- S9 0,<- A7];refine Cm.go KI [.undef,.undef] 0 (kO g xs.length (ints xs) h ys.length (ints ys) (0:Nat)) ?_ fun J hJ=>?_
 ·refine WP.scan (H:=fun i:Nat=>kO g xs.length (ints xs) h ys.length (ints ys) (i:Nat)) _ (fun i r hi hp ih=>WP.go _ ih fun J hJ=>?_) (fun i hi hp=>WP.fin fun J=>?_) (WP.fin fun J=>?_)
  ·rw [pH];have h1:i < xs.length:=by omega
   have h2:i < ys.length:=by omega
   rw [bJ h1,bJ h2,decide_eq_true_eq] at hp;simp (disch:=first | omega | assumption) only [aN,bf,bt,bG,bU,aF,aZ,bE,cL,dI,dJ,gb,cY]
   exact hJ
  ·rw [pH];have h1:i < xs.length:=by omega
   have h2:i < ys.length:=by omega
   rw [bJ h1,bJ h2,decide_eq_false_iff_not] at hp;simp (disch:=first | omega | assumption) only [aN,bf,bt,bG,bU,aF,aZ,bE,cL,dI,dJ,eh]
  ·rw [pH];by_cases h1:min xs.length ys.length < xs.length
   ·simp (disch:=omega) only [aF,aZ,bu,AV];rfl
   ·simp (disch:=omega) only [aF,bu,AV];rfl
 ·rw [KJ];exact hJ
theorem Rw (g h:Bool) (xs ys:List Int) (hx:xs.length < 4611686018427387904) (hy:ys.length < 4611686018427387904):Cm 202 [.sl (some g) 1 xs.length (ints xs),.sl (some h) 1 ys.length (ints ys)] (.bool (decide (xs=ys)),[.undef,.undef]):=by
 by_cases hl:xs.length=ys.length
 ·rw [<- all_eq 0 xs ys hl,<- yb];refine Cm.go qe [.undef,.undef] 0 (fR g xs.length (ints xs) h ys.length (ints ys) xs.length (0:Nat)) ?_ fun J hJ=>?_
  ·refine WP.scan (H:=fun i:Nat=>fR g xs.length (ints xs) h ys.length (ints ys) xs.length (i:Nat)) _ (fun i r hi hp ih=>WP.go _ ih fun J hJ=>?_) (fun i hi hp=>WP.fin fun J=>?_) (WP.fin fun J=>?_)
   ·rw [j1];have h2:i < ys.length:=by omega
    rw [bJ hi,bJ h2,decide_eq_true_eq] at hp;simp (disch:=first | omega | assumption) only [aN,bf,bt,bG,bU,aF,aZ,bE,cL,dI,dJ,gb,cY]
    exact hJ
   ·rw [j1];have h2:i < ys.length:=by omega
    rw [bJ hi,bJ h2,decide_eq_false_iff_not] at hp;simp (disch:=first | omega | assumption) only [aN,bf,bt,bG,bU,aF,aZ,bE,cL,dI,dJ,eh]
   ·rw [j1];simp (disch:=omega) only [aF,bu]
  ·rw [qf];simp (disch:=omega) only [aF,gb,bG,bU,aN,bf];exact hJ
 ·have cQ:xs≠ys:=fun e=>hl (e▸rfl);refine Cm.fin qe fun J=>?_;rw [qf,decide_eq_false cQ];simp (disch:=omega) only [aF,eh,bG,bU,aN,bf]
section
variable (t:bD Rz)
theorem zf (g h:Bool) (xs ys:List Int) (n k:Nat) (hn:n=xs.length) (hk:k=ys.length) (hx:xs.length < 4611686018427387904) (hy:ys.length < 4611686018427387904):aO 193 [.sl (some g) 1 n (ints xs),.sl (some h) 1 k (ints ys)] t=feed t [.bool (decide (xs=ys))]:=by subst hn hk; exact bc (OV g h xs ys hx hy) (by kernel_rfl) t
theorem Ii (g h:Bool) (xs ys:List Int) (n k:Nat) (hn:n=xs.length) (hk:k=ys.length) (hx:xs.length < 4611686018427387904) (hy:ys.length < 4611686018427387904):aO 202 [.sl (some g) 1 n (ints xs),.sl (some h) 1 k (ints ys)] t=feed t [.bool (decide (xs=ys))]:=by subst hn hk; exact bc (Rw g h xs ys hx hy) (by kernel_rfl) t
end
theorem Qg (g h:Bool) (xs ys:List (List Int)) (hx:rp xs) (hy:rp ys):Cm 241 [sR (some g) xs,sR (some h) ys,.fn 202 []] (.bool (decide (xs=ys)),[.undef,.undef,.undef]):=by
 by_cases hl:xs.length=ys.length
 ·rw [<- all_eq [] xs ys hl,<- yb];refine Cm.go jB [.undef,.undef,.undef] 0 (dC h ys.length (rows (some h) ys) g xs.length (rows (some g) xs) xs.length (0:Nat)) ?_ fun J hJ=>?_
  ·refine WP.scan (H:=fun i:Nat=>dC h ys.length (rows (some h) ys) g xs.length (rows (some g) xs) xs.length (i:Nat)) _ (fun i r hi hp ih=>WP.go _ ih fun J hJ=>?_) (fun i hi hp=>WP.fin fun J=>?_) (WP.fin fun J=>?_)
   ·have b1:=hx.1;have h2:i < ys.length:=by omega
    have b2:=hx.2 _ (acN hi);have b3:=hy.2 _ (acN h2);rw [fG];rw [bJ hi,bJ h2] at hp;simp (disch:=first | omega | assumption) only [aN,bf,bt,bG,bU,aF,aZ,bE,cL,iH,iI,ic,iJ,Ii,aL,aq,hp,cY]
    exact hJ
   ·have b1:=hx.1;have h2:i < ys.length:=by omega
    have b2:=hx.2 _ (acN hi);have b3:=hy.2 _ (acN h2);rw [fG];rw [bJ hi,bJ h2] at hp;simp (disch:=first | omega | assumption) only [aN,bf,bt,bG,bU,aF,aZ,bE,cL,iH,iI,ic,iJ,Ii,aL,aq,hp]
   ·rw [fG];simp (disch:=omega) only [aF,bu]
  ·rw [jC];simp (disch:=omega) only [aF,gb,bG,bU,aN,bf];exact hJ
 ·have cQ:xs≠ys:=fun e=>hl (e▸rfl);refine Cm.fin jB fun J=>?_;rw [jC,decide_eq_false cQ];simp (disch:=omega) only [aF,eh,bG,bU,aN,bf]
def mV (xss:List (List Int)) (i:Nat):Bool:=eo (xss.getD i [])
def hD (xss:List (List Int)):Bool:=(List.range xss.length).all (mV xss)
theorem OW (g:Bool) (xs:List Int) (hb:xs.length < 4611686018427387904):Cm 238 [.sl (some g) 1 xs.length (ints xs)] (.bool (!eo xs),[.undef]):=by
 refine Cm.fin Ce fun J=>?_;rw [Cf];simp (disch:=first | rfl | assumption) only [Ih,aL,aq,bG]
theorem A8 (g:Bool) (xs:List Int) (n:Nat) (hn:n=xs.length) (hb:xs.length < 4611686018427387904) (t:bD Rz):aO 238 [.sl (some g) 1 n (ints xs)] t=feed t [.bool (!eo xs)]:=by subst hn; exact bc (OW g xs hb) (by kernel_rfl) t
theorem OX (g:Bool) (xss:List (List Int)) (hb:rp xss):Cm 280 [sR (some g) xss,.fn 238 []] (.int .i64 (wC xss.length (mV xss)),[.undef,.undef]):=by
 have e:((.int .i64 (wC xss.length (mV xss)),[.undef,.undef]):Rz)=(match (List.range xss.length).find? (fun i=>!mV xss i) with | some i=>((.int .i64 (i:Int),[.undef,.undef]):Rz) | none=>(.int .i64 (-1),[.undef,.undef])):=by
  unfold wC;cases (List.range xss.length).find? (fun i=>!mV xss i)<;>rfl
 rw [e];have b1:=hb.1;refine Cm.go qV [.undef,.undef] 0 (dX g xss.length (rows (some g) xss) xss.length (0:Nat)) ?_ fun J hJ=>?_
 ·refine WP.find (H:=fun i:Nat=>dX g xss.length (rows (some g) xss) xss.length (i:Nat)) _ (fun i r hi hp ih=>WP.go _ ih fun J hJ=>?_) (fun i hi hp=>WP.fin fun J=>?_) (WP.fin fun J=>?_)
  ·have b2:=hb.2 _ (acN hi);rw [gh];unfold mV at hp;rw [bJ hi] at hp;simp (disch:=first | omega | assumption) only [aN,bf,bt,bG,aF,aZ,bE,cL,iH,iI,ic,iJ,A8,aL,aq,hp,cY]
   exact hJ
  ·have b2:=hb.2 _ (acN hi);rw [gh];unfold mV at hp;rw [bJ hi] at hp;simp (disch:=first | omega | assumption) only [aN,bf,bt,bG,aF,aZ,bE,cL,iH,iI,ic,iJ,A8,aL,aq,hp]
  ·rw [gh];simp (disch:=omega) only [aF,bu]
 ·rw [qW];exact hJ
theorem Gh (g:Bool) (xss:List (List Int)) (hb:rp xss):Cm 237 [sR (some g) xss,.fn 238 []] (.bool (!hD xss),[.undef,.undef]):=by
 refine Cm.fin pc fun J=>?_;rw [pd];have:=bc (OX g xss hb) (by kernel_rfl)
 simp only [this,aq,y8];unfold hD;rw [<- OT];rfl
theorem Gi (g:Bool) (xss:List (List Int)) (hb:rp xss):Cm 169 [sR (some g) xss] (.bool (((xss.length:Int)==3)&&hD xss),[.undef]):=by
 refine Cm.fin F7 fun J=>?_;rw [F8];have:=bc (Gh g xss hb) (by kernel_rfl)
 simp only [this,aF,AV];cases (xss.length:Int)==3 with
 | true=>
  show some (D.bool (br (!hD xss) false true),_)=_;rw [bG,Bool.not_not];rfl
 | false=>rfl
def ed (m:aB):Bool:=hD m.bits&&(fN m.av&&(decide (0 < (m.av.length:Int))&&(((m.bits.length:Int)==3)&&(decide (0<=m.last/\m.last<=200)&&!(m.bB&&m.held)))))
theorem tG (g:Bool) (m:aB) (hb:bO m):Cm 161 [.agg (bd (some g) m)] (.bool (ed m),[.undef]):=by
 unfold ed;rw [<- A7];have b0:=hb.av;have b1:=hb.bits.1;refine Cm.go KU [.undef] 0 (kR (0:Nat) g m.av.length (ints m.av) g m.bits.length (rows (some g) m.bits) m.cf m.bB m.held m.last) ?_ fun J hJ=>?_
 ·refine WP.scan (H:=fun i:Nat=>kR (i:Nat) g m.av.length (ints m.av) g m.bits.length (rows (some g) m.bits) m.cf m.bB m.held m.last) (mV m.bits) (fun i r hi hp ih=>WP.go _ ih fun J hJ=>?_) (fun i hi hp=>WP.fin fun J=>?_) (WP.fin fun J=>?_)
  ·have b2:=hb.bits.2 _ (acN hi);rw [pK];unfold mV at hp;rw [bJ hi] at hp;simp (disch:=first | omega | assumption) only [aN,bf,bt,bG,bU,aF,aZ,bE,cL,iH,iI,ic,iJ,ye,aL,aq,hp,cY]
   exact hJ
  ·have b2:=hb.bits.2 _ (acN hi);rw [pK];unfold mV at hp;rw [bJ hi] at hp;simp (disch:=first | omega | assumption) only [aN,bf,bt,bG,bU,aF,aZ,bE,cL,iH,iI,ic,iJ,ye,aL,aq,hp]
  ·rw [pK];simp (disch:=first | omega | assumption) only [aF,bu,KY,aL,aq,kI]
   simp only [SX,AV];generalize fN m.av=a;generalize decide (0 < (m.av.length:Int))=b;generalize ((m.bits.length:Int)==3)=c;generalize decide (0<=m.last/\m.last<=200)=d;generalize m.bB=e;generalize m.held=f;cases a<;>cases b<;>cases c<;>cases d<;>cases e<;>cases f<;>rfl
 ·rw [KV];exact hJ
theorem tH (g:Bool) (m:aB) (hb:bO m):Cm 168 [.agg (bd (some g) m)] (.bool (ed m),[.undef]):=by
 have b0:=hb.av;have hm:=bc (Gi g m.bits hb.bits) (by kernel_rfl)
 refine Cm.fin KW fun J=>?_;rw [KX];simp (disch:=first | omega | assumption) only [aF,KZ,hm,aL,aq,iB,SX]
 unfold ed;generalize fN m.av=a;generalize decide (0 < (m.av.length:Int))=b;generalize ((m.bits.length:Int)==3)=c;generalize decide (0<=m.last/\m.last<=200)=d;generalize m.bB=e;generalize m.held=f;generalize hD m.bits=k;show (br a (br b (br (c&&k) _ _) _) _)=_;cases a<;>cases b<;>cases c<;>cases d<;>cases e<;>cases f<;>cases k<;>rfl
section
variable (t:bD Rz)
theorem zE (g:Bool) (m:aB) (hb:bO m):aO 161 [.agg (bd (some g) m)] t=feed t [.bool (ed m)]:=bc (tG g m hb) (by kernel_rfl) t
theorem zF (g:Bool) (m:aB) (hb:bO m):aO 168 [.agg (bd (some g) m)] t=feed t [.bool (ed m)]:=bc (tH g m hb) (by kernel_rfl) t
end
def lJ (m k:aB):Bool:=decide (m.av=k.av)&&(decide (m.bits=k.bits)&&((m.cf==k.cf)&&((m.bB==k.bB)&&((m.held==k.held)&&(m.last==k.last)))))
theorem Gj (g h:Bool) (m k:aB) (hm:bO m) (hk:bO k):Cm 171 [.agg (bd (some g) m),.agg (bd (some h) k)] (.bool (lJ m k),[.undef,.undef]):=by
 have b0:=hm.av;have b1:=hk.av;have he:=bc (Qg g h m.bits k.bits hm.bits hk.bits) (by kernel_rfl)
 refine Cm.fin Gb fun J=>?_;rw [Gc];simp (disch:=first | omega | assumption) only [Ii,he,aL,aq,ug,AV]
 unfold lJ;generalize decide (m.av=k.av)=a;generalize decide (m.bits=k.bits)=b;generalize (m.cf==k.cf)=c;generalize (m.bB==k.bB)=d;generalize (m.held==k.held)=e;generalize (m.last==k.last)=f;show (br a (br b _ _) _)=_;cases a<;>cases b<;>cases c<;>cases d<;>cases e<;>cases f<;>rfl
theorem Gk (g h:Bool) (m k:aB) (hm:bO m) (hk:bO k):Cm 164 [.agg (bd (some g) m),.agg (bd (some h) k)] (.bool (lJ m k),[.undef,.undef]):=by
 have b0:=hm.av;have b1:=hk.av;have b2:=hm.bits.1;have fin:lJ m k=false->(m.bits.length=k.bits.length->(decide (m.av=k.av)&&((m.cf==k.cf)&&((m.bB==k.bB)&&((m.held==k.held)&&(m.last==k.last)))))=false)->Cm 164 [.agg (bd (some g) m),.agg (bd (some h) k)] (.bool (lJ m k),[.undef,.undef]):=by
  intro hs hq;rw [hs];refine Cm.fin wz fun J=>?_;rw [wA];by_cases hl:m.bits.length=k.bits.length
  ·have hq:=hq hl;simp (disch:=first | omega | assumption) only [zf,aL,aq,ug,aF,gb,bG,bU,aN,bf]
   simp only [AV];revert hq;generalize decide (m.av=k.av)=a;generalize (m.cf==k.cf)=c;generalize (m.bB==k.bB)=d;generalize (m.held==k.held)=e;generalize (m.last==k.last)=f;cases a<;>cases c<;>cases d<;>cases e<;>cases f<;>first | (intro _; rfl) | (intro hq; exact absurd hq (by decide))
  ·simp (disch:=first | omega | assumption) only [aF,eh,bG,bU,aN,bf]
 by_cases hl:m.bits.length=k.bits.length
 ·cases hq:(decide (m.av=k.av)&&((m.cf==k.cf)&&((m.bB==k.bB)&&((m.held==k.held)&&(m.last==k.last))))) with
  | false=>
   refine fin ?_ fun _=>hq;revert hq;unfold lJ;generalize decide (m.av=k.av)=a;generalize decide (m.bits=k.bits)=b;generalize ((m.cf==k.cf)&&((m.bB==k.bB)&&((m.held==k.held)&&(m.last==k.last))))=c;cases a<;>cases b<;>cases c<;>simp
  | true=>
   have hs:lJ m k=decide (m.bits=k.bits):=by
    revert hq;unfold lJ;generalize decide (m.av=k.av)=a;generalize decide (m.bits=k.bits)=b;generalize ((m.cf==k.cf)&&((m.bB==k.bB)&&((m.held==k.held)&&(m.last==k.last))))=c;cases a<;>cases b<;>cases c<;>simp
   simp only [wX] at hq;rw [hs,<- all_eq [] _ _ hl,<- yb];refine Cm.go wz [.undef,.undef] 0 (jk (0:Nat) g m.av.length (ints m.av) g m.bits.length (rows (some g) m.bits) m.cf m.bB m.held m.last h k.av.length (ints k.av) h k.bits.length (rows (some h) k.bits) k.cf k.bB k.held k.last) ?_ fun J hJ=>?_
   ·refine WP.scan (H:=fun i:Nat=>jk (i:Nat) g m.av.length (ints m.av) g m.bits.length (rows (some g) m.bits) m.cf m.bB m.held m.last h k.av.length (ints k.av) h k.bits.length (rows (some h) k.bits) k.cf k.bB k.held k.last) _ (fun i r hi hp ih=>WP.go _ ih fun J hJ=>?_) (fun i hi hp=>WP.fin fun J=>?_) (WP.fin fun J=>?_)
    ·have h2:i < k.bits.length:=by omega
     have b3:=hm.bits.2 _ (acN hi);have b4:=hk.bits.2 _ (acN h2);rw [nO];rw [bJ hi,bJ h2] at hp;simp (disch:=first | omega | assumption) only [aN,bf,bt,bG,bU,aF,aZ,bE,cL,iH,iI,ic,iJ,zf,aL,aq,hp,cY]
     exact hJ
    ·have h2:i < k.bits.length:=by omega
     have b3:=hm.bits.2 _ (acN hi);have b4:=hk.bits.2 _ (acN h2);rw [nO];rw [bJ hi,bJ h2] at hp;simp (disch:=first | omega | assumption) only [aN,bf,bt,bG,bU,aF,aZ,bE,cL,iH,iI,ic,iJ,zf,aL,aq,hp]
    ·rw [nO];simp (disch:=omega) only [aF,bu]
   ·rw [wA];simp (disch:=first | omega | assumption) only [zf,aL,aq,ug,aF,AV,hq.1,hq.2.1,hq.2.2.1,hq.2.2.2.1,hq.2.2.2.2,bG,bU,aN]
    have e1:((m.bits.length:Int)==(k.bits.length:Int))=true:=by simp [hl]
    rw [e1];exact hJ
 ·refine fin ?_ fun h=>absurd h hl;have:m.bits≠k.bits:=fun e=>hl (e▸rfl);unfold lJ;rw [decide_eq_false this,agj,agO]
set_option maxRecDepth 100000
section
variable (pr:ej) (cv:Cv Rz) (J:Nat->St->Option Rz)
def kS (i0:Int) (n1:Nat) (c2:List D):St:=(St.mk [(0,(.int .i64 i0)),(3,(.ref 10003 [] 0 none))] [(10003,[(.sl none 1 n1 c2)])] [] 0)
theorem zG:Told cfg Tryz.prog 314 Tryz.f314:=⟨by kernel_rfl,Tryz.func314,by kernel_rfl⟩
theorem zH (a0:Int):aU pr cv J 314 Tryz.f314 [(.int .i64 a0)]=
 (cv 87 [(.int .i64 a0),(.int .i64 0),(.int .i64 2147483647)] (.bool (fun ct=>(.done (br (br ct false true) (some ((.sl none 1 0 []),[.undef])) (J 0 (kS a0 0 []))))))):=by kernel_rfl
theorem vv (i0:Int) (n1:Nat) (c2:List D):cg pr cv J 314 Tryz.f314 [.undef] 0 (kS i0 n1 c2)=
 let y1:List D:=[(.int .u8 (pr.wrap .u8 (pr.ar .add .i64 (pr.ar .rem .i64 i0 128) 128)))]
 (br (pr.lt 127 i0) (br (br (pr.eq 128 0) false true) (br (br (pr.flat y1) (pr.fits (n1+1) 1) false) (br (br (pr.eq 128 0) false true) (J 0 (kS (pr.ar .quo .i64 i0 128) (n1+1) (List.append c2 y1))) none) none) none) (br (br (pr.flat [(.int .u8 (pr.wrap .u8 i0))]) (pr.fits (n1+1) 1) false) (some ((.sl none 1 (n1+1) (List.append c2 [(.int .u8 (pr.wrap .u8 i0))])),[.undef])) none)):=by kernel_rfl
def kT (i0:Int) (n1:Nat) (c2:List D):St:=(St.mk [(0,(.int .i64 i0)),(3,(.ref 10003 [] 0 none))] [(10003,[(.sl none 1 n1 c2)])] [] 0)
theorem zI:Told cfg Tryz.prog 341 Tryz.f341:=⟨by kernel_rfl,Tryz.func341,by kernel_rfl⟩
theorem zJ (a0:Int):aU pr cv J 341 Tryz.f341 [(.int .i64 a0)]=
 let y1:Option (D × List D):=(some ((.sl none 1 0 []),[.undef]))
 (br (pr.lt a0 0) y1 (br (pr.lt 2147483647 a0) y1 (J 0 (kT a0 0 [])))):=by kernel_rfl
theorem vw (i0:Int) (n1:Nat) (c2:List D):cg pr cv J 341 Tryz.f341 [.undef] 0 (kT i0 n1 c2)=
 let y1:List D:=[(.int .u8 (pr.wrap .u8 (pr.ar .add .i64 (pr.ar .rem .i64 i0 128) 128)))]
 (br (pr.lt 127 i0) (br (br (pr.eq 128 0) false true) (br (br (pr.flat y1) (pr.fits (Nat.succ n1) 1) false) (br (br (pr.eq 128 0) false true) (J 0 (kT (pr.ar .quo .i64 i0 128) (Nat.succ n1) (List.append c2 y1))) none) none) none) (br (br (pr.flat [(.int .u8 (pr.wrap .u8 i0))]) (pr.fits (Nat.succ n1) 1) false) (some ((.sl none 1 (Nat.succ n1) (List.append c2 [(.int .u8 (pr.wrap .u8 i0))])),[.undef])) none)):=by kernel_rfl
def kU (g0:Bool) (n1:Nat) (c2:List D) (i3:Int) (i4:Int) (i5:Int):St:=(St.mk [(0,(.sl (some g0) 1 n1 c2)),(1,(.int .i64 i3)),(7,(.int .i64 i4)),(8,(.int .i64 i5))] [] [] 0)
theorem zK:Told cfg Tryz.prog 329 Tryz.f329:=⟨by kernel_rfl,Tryz.func329,by kernel_rfl⟩
theorem zL (g0:Bool) (n0:Nat) (c0:List D) (a1:Int):aU pr cv J 329 Tryz.f329 [(.sl (some g0) 1 n0 c0),(.int .i64 a1)]=
 (J 0 (kU g0 n0 c0 a1 0 0)):=by kernel_rfl
theorem j3 (g0:Bool) (n1:Nat) (c2:List D) (i3:Int) (i4:Int) (i5:Int):cg pr cv J 329 Tryz.f329 [.undef,.undef] 0 (kU g0 n1 c2 i3 i4 i5)=
 let y1:Option (D × List D):=(some ((.aG [(.int .i64 0),(.int .i64 0),(.bool false)]),[.undef,.undef]))
 let y2:Int:=(pr.wrap .i64 (pr.cd c2 (pr.idx 0 (pr.ar .add .i64 i3 i5) 1)))
 let y3:Int:=(pr.ar .or .i64 i4 (pr.ar .shl .i64 (pr.ar .rem .i64 y2 128) (pr.ar .mul .i64 7 i5)))
 let y4:D:=(.int .i64 y3)
 let y5:Option (D × List D):=(br (pr.lt 2147483647 y3) y1 (some ((.aG [y4,(.int .i64 (pr.ar .add .i64 (pr.ar .add .i64 i3 i5) 1)),(.bool true)]),[.undef,.undef])))
 (br (pr.lt i5 5) (br (pr.lt i3 0) y1 (br (pr.le (pr.ar .sub .i64 (pr.ba n1) i5) i3) y1 (br (pr.bR (pr.ar .add .i64 i3 i5) n1) (br (br (pr.da .u8 c2 (pr.idx 0 (pr.ar .add .i64 i3 i5) 1)) true false) (br (br (pr.eq 128 0) false true) (br (br (pr.lt (pr.ar .mul .i64 7 i5) 0) false true) (br (pr.lt y2 128) (br (pr.lt 0 i5) (br (pr.eq y2 0) y1 y5) y5) (J 0 (kU g0 n1 c2 i3 y3 (pr.ar .add .i64 i5 1)))) none) none) none) none))) y1):=by kernel_rfl
def nc (g0:Bool) (n1:Nat) (c2:List D) (i3:Int) (i4:Int) (i5:Int) (i6:Int):St:=(St.mk [(0,(.sl (some g0) 1 n1 c2)),(1,(.int .i64 i3)),(7,(.int .i64 i4)),(8,(.int .i64 i5)),(9,(.int .i64 i6))] [] [] 0)
theorem zM:Told cfg Tryz.prog 340 Tryz.f340:=⟨by kernel_rfl,Tryz.func340,by kernel_rfl⟩
theorem zN (g0:Bool) (n0:Nat) (c0:List D) (a1:Int):aU pr cv J 340 Tryz.f340 [(.sl (some g0) 1 n0 c0),(.int .i64 a1)]=
 (br (pr.lt a1 0) (some ((.aG [(.int .i64 0),(.int .i64 0),(.bool false)]),[.undef,.undef])) (J 0 (nc g0 n0 c0 a1 0 1 0))):=by kernel_rfl
theorem mD (g0:Bool) (n1:Nat) (c2:List D) (i3:Int) (i4:Int) (i5:Int) (i6:Int):cg pr cv J 340 Tryz.f340 [.undef,.undef] 0 (nc g0 n1 c2 i3 i4 i5 i6)=
 let y1:Int:=(pr.wrap .i64 (pr.cd c2 (pr.idx 0 (pr.ar .add .i64 i3 i6) 1)))
 let y2:Int:=(pr.ar .add .i64 i4 (pr.ar .mul .i64 (pr.ar .rem .i64 y1 128) i5))
 let y3:Option (D × List D):=(some ((.aG [(.int .i64 0),(.int .i64 0),(.bool false)]),[.undef,.undef]))
 let y4:D:=(.int .i64 y2)
 let y5:Option (D × List D):=(some ((.aG [y4,(.int .i64 (pr.ar .add .i64 (pr.ar .add .i64 i3 i6) 1)),(.bool true)]),[.undef,.undef]))
 (br (pr.lt i6 5) (br (pr.lt i3 (pr.ar .sub .i64 (pr.ba n1) i6)) (br (pr.bR (pr.ar .add .i64 i3 i6) n1) (br (br (pr.da .u8 c2 (pr.idx 0 (pr.ar .add .i64 i3 i6) 1)) true false) (br (br (pr.eq 128 0) false true) (br (pr.le 128 y1) (J 0 (nc g0 n1 c2 i3 y2 (pr.ar .mul .i64 i5 128) (pr.ar .add .i64 i6 1))) (br (pr.lt 2147483647 y2) y3 (br (pr.eq y1 0) (br (pr.lt 0 i6) y3 y5) y5))) none) none) none) y3) y3):=by kernel_rfl
theorem OY:Told cfg Tryz.prog 283 Tryz.f283:=⟨by kernel_rfl,Tryz.func283,by kernel_rfl⟩
theorem OZ (a0:Int):aU pr cv J 283 Tryz.f283 [(.int .i64 a0)]=
 (br (br (pr.lt 8 0) false true) (br (br (pr.lt 16 0) false true) (br (br (pr.lt 24 0) false true) (some ((.sl none 1 4 [(.int .u8 (pr.wrap .u8 (pr.ar .and .i64 a0 255))),(.int .u8 (pr.wrap .u8 (pr.ar .and .i64 (pr.ar .shr .i64 a0 8) 255))),(.int .u8 (pr.wrap .u8 (pr.ar .and .i64 (pr.ar .shr .i64 a0 16) 255))),(.int .u8 (pr.wrap .u8 (pr.ar .and .i64 (pr.ar .shr .i64 a0 24) 255)))]),[.undef])) none) none) none):=by kernel_rfl
end
theorem Wh {a b:Nat} (h:a < 9223372036854775808):ad.ar .quo .i64 (a:Int) (b:Int)=((a / b:Nat):Int):=by
 have e:(a:Int).tdiv (b:Int)=((a / b:Nat):Int):=rfl;have:=Nat.div_le_self a b;show IntKind.i64.wrap ((a:Int).tdiv (b:Int))=_;rw [e];generalize a / b=q at this;rw [wrap64 (by omega) (by omega)]
theorem tp {a b:Nat} (h:a+b < 9223372036854775808):ad.ar .add .i64 (a:Int) (b:Int)=((a+b:Nat):Int):=by
 rw [za (by omega) (by omega)]
 omega
theorem O0 {a b:Nat} (h:a*b < 9223372036854775808):ad.ar .mul .i64 (a:Int) (b:Int)=((a*b:Nat):Int):=by
 have e:(a:Int)*(b:Int)=((a*b:Nat):Int):=by simp
 show IntKind.i64.wrap ((a:Int)*(b:Int))=_;rw [e,wrap64 (by omega) (by omega)]
theorem JS {a:Nat} (h:a < 9223372036854775808):ad.wrap .i64 (a:Int)=(a:Int):=wrap64 (by omega) (by omega)
theorem MA {a b:Nat} (ha:a < 4611686018427387904) (hb:b < 4611686018427387904):ad.ar .or .i64 (a:Int) (b:Int)=((a||| b:Nat):Int):=by
 show IntKind.i64.wrap ((BitVec.ofInt 64 (a:Int)||| BitVec.ofInt 64 (b:Int)).toNat:Int)=_;have h:(a||| b) < 2 ^ 62:=Nat.or_lt_two_pow (by omega) (by omega)
 have e:(BitVec.ofInt 64 (a:Int)||| BitVec.ofInt 64 (b:Int)).toNat=a||| b:=by
  rw [BitVec.toNat_or,ag4,ag4,ajF,ajF,agQ (by omega),agQ (by omega)]
 rw [e,wrap64 (by omega) (by omega)]
theorem ad1 {a b:Nat} (ha:a < 4611686018427387904) (hb:b < 4611686018427387904):ad.ar .and .i64 (a:Int) (b:Int)=((a&&& b:Nat):Int):=by
 show IntKind.i64.wrap ((BitVec.ofInt 64 (a:Int)&&& BitVec.ofInt 64 (b:Int)).toNat:Int)=_;have h:(a&&& b)<=b:=Nat.and_le_right;have e:(BitVec.ofInt 64 (a:Int)&&& BitVec.ofInt 64 (b:Int)).toNat=a&&& b:=by
  rw [BitVec.toNat_and,ag4,ag4,ajF,ajF,agQ (by omega),agQ (by omega)]
 rw [e,wrap64 (by omega) (by omega)]
theorem vx {a k:Nat} (hk:k<=64) (h:a*2 ^ k < 9223372036854775808):ad.ar .shl .i64 (a:Int) (k:Int)=((a*2 ^ k:Nat):Int):=by
 show IntKind.i64.wrap ((a:Int)*2 ^ (min ((k:Int).toNat) 64))=_;have e:min ((k:Int).toNat) 64=k:=by omega
 have e2:(a:Int)*2 ^ k=((a*2 ^ k:Nat):Int):=by simp
 rw [e,e2,wrap64 (by omega) (by omega)]
theorem yf (a:Nat) {k:Nat} (hk:k<=64):ad.ar .shr .i64 (a:Int) (k:Int)=((a / 2 ^ k:Nat):Int):=by
 show (a:Int).fdiv (2 ^ (min ((k:Int).toNat) 64))=_;have e:min ((k:Int).toNat) 64=k:=by omega
 have e2:((2:Int) ^ k)=((2 ^ k:Nat):Int):=by simp
 rw [e,e2,<- Int.ofNat_fdiv]
theorem Gl {a x k:Nat} (h:a < 2 ^ k):a||| x*2 ^ k=a+x*2 ^ k:=by
 rw [Nat.or_comm,Nat.mul_comm x,<- Nat.two_pow_add_eq_or_of_lt h,Nat.add_comm]
theorem sd (x:Nat):D.int .u8 (ad.wrap .u8 (x:Int))=dz (UInt8.ofNat x):=by
 show D.int .u8 (IntKind.u8.wrap (x:Int))=_;simp only [dz,IntKind.wrap,IntKind.bits,IntKind.signed];simp
theorem jc {R:Type} {x y:R} (xs:List UInt8):br (ad.flat (bytes xs)) x y=x:=by
 have:ad.flat (bytes xs)=true:=by
  show (bytes xs).all dY=true;rw [ab9];intro d hd;obtain ⟨a,_,rfl⟩:=acv.1 hd;rfl
 rw [this,aN]
theorem Gm (x:UInt8):[dz x]=bytes [x]:=rfl
theorem gy (xs ys:List UInt8):List.append (bytes xs) (bytes ys)=bytes (xs++ys):=by simp [bytes]
def gQ (n:Nat):List UInt8:=if h:n < 128 then [UInt8.ofNat n] else UInt8.ofNat (n % 128+128)::gQ (n / 128)
termination_by n
decreasing_by omega
theorem pg:∀ (k n:Nat),n < 128 ^ (k+1)->(gQ n).length<=k+1
 | 0,n,h=>by
  rw [gQ,dif_pos (by omega)]
  simp
 | k+1,n,h=>by
  rw [gQ];split
  ·simp
  ·have:n / 128 < 128 ^ (k+1):=by
    apply Nat.div_lt_of_lt_mul;rw [ajG] at h;omega
   have:=pg k (n / 128) this;simp only [adj];omega
def db (a:Int):List UInt8:=if 0<=a/\a<=2147483647 then gQ a.toNat else []
theorem fJ (a:Int):(db a).length<=5:=by
 unfold db;split
 ·exact pg 4 _ (by omega)
 ·simp
theorem zO:∀ (k n:Nat) (acc:List UInt8),n < 128 ^ (k+1)->n < 2147483648->acc.length+(gQ n).length < 1000000->WP 314 Tryz.f314 [.undef] 0 (kS (n:Int) acc.length (bytes acc)) (.sl none 1 (acc++gQ n).length (bytes (acc++gQ n)),[.undef])
 | k,n,acc,hk,hn,hl=>by
  by_cases h:n < 128
  ·refine WP.fin fun J=>?_;rw [vv,gQ,dif_pos h];rw [gQ,dif_pos h] at hl;simp only [adB] at hl;simp (disch:=omega) only [bu,sd,Gm,jc,fv,aN,gy,bt,BY];simp
  ·cases k with
   | zero=>omega
   | succ k=>
    have e:acc++gQ n=(acc++[UInt8.ofNat (n % 128+128)])++gQ (n / 128):=by
     conv=>lhs; rw [gQ,dif_neg h]
     simp
    have hlen:(gQ n).length=(gQ (n / 128)).length+1:=by
     conv=>lhs; rw [gQ,dif_neg h]
     simp
    have hd:n / 128 < 128 ^ (k+1):=by
     apply Nat.div_lt_of_lt_mul;rw [ajG] at hk;omega
    have ih:=zO k (n / 128) (acc++[UInt8.ofNat (n % 128+128)]) hd (by omega) (by simp only [aap,adB]; omega)
    rw [e];refine WP.go _ ih fun J hJ=>?_;rw [vv];have r1:ad.ar .rem .i64 (n:Int) 128=((n % 128:Nat):Int):=rfl;have r2:ad.ar .add .i64 ((n % 128:Nat):Int) 128=((n % 128+128:Nat):Int):=tp (b:=128) (by omega)
    have r3:ad.ar .quo .i64 (n:Int) 128=((n / 128:Nat):Int):=Wh (b:=128) (by omega)
    simp (disch:=omega) only [aZ,eh,bG,bU,aN,bf,r1,r2,r3,sd,Gm,jc,fv,gy];have e2:(acc++[UInt8.ofNat (n % 128+128)]).length=acc.length+1:=by simp
    rw [e2] at hJ;exact hJ
theorem K0 (a:Int):Cm 314 [.int .i64 a] (.sl none 1 (db a).length (bytes (db a)),[.undef]):=by
 by_cases h:0<=a/\a<=2147483647
 ·obtain ⟨n,rfl⟩:∃ n:Nat,a=n:=⟨a.toNat,by omega⟩
  have e:db (n:Int)=gQ n:=by unfold db; rw [if_pos h]; rfl
  rw [e];have hl:=pg 4 n (by omega)
  refine Cm.go zG [.undef] 0 (kS (n:Int) 0 []) (zO 4 n [] (by omega) (by omega) (by simp; omega)) fun J hJ=>?_
  rw [zH];simp only [kI,aL,aq,decide_eq_true h,bG,bU,aN,bf];exact hJ
 ·have e:db a=[]:=by unfold db; rw [if_neg h]
  rw [e];refine Cm.fin zG fun J=>?_;rw [zH];simp only [kI,aL,aq,decide_eq_false h,bG,bU,aN,bf];rfl
theorem zP:∀ (k n:Nat) (acc:List UInt8),n < 128 ^ (k+1)->n < 2147483648->acc.length+(gQ n).length < 1000000->WP 341 Tryz.f341 [.undef] 0 (kT (n:Int) acc.length (bytes acc)) (.sl none 1 (acc++gQ n).length (bytes (acc++gQ n)),[.undef])
 | k,n,acc,hk,hn,hl=>by
  by_cases h:n < 128
  ·refine WP.fin fun J=>?_;rw [vw,gQ,dif_pos h];rw [gQ,dif_pos h] at hl;simp only [adB] at hl;simp (disch:=omega) only [bu,sd,Gm,jc,fv,aN,gy,bt,BY];simp
  ·cases k with
   | zero=>omega
   | succ k=>
    have e:acc++gQ n=(acc++[UInt8.ofNat (n % 128+128)])++gQ (n / 128):=by
     conv=>lhs; rw [gQ,dif_neg h]
     simp
    have hlen:(gQ n).length=(gQ (n / 128)).length+1:=by
     conv=>lhs; rw [gQ,dif_neg h]
     simp
    have hd:n / 128 < 128 ^ (k+1):=by
     apply Nat.div_lt_of_lt_mul;rw [ajG] at hk;omega
    have ih:=zP k (n / 128) (acc++[UInt8.ofNat (n % 128+128)]) hd (by omega) (by simp only [aap,adB]; omega)
    rw [e];refine WP.go _ ih fun J hJ=>?_;rw [vw];have r1:ad.ar .rem .i64 (n:Int) 128=((n % 128:Nat):Int):=rfl;have r2:ad.ar .add .i64 ((n % 128:Nat):Int) 128=((n % 128+128:Nat):Int):=tp (b:=128) (by omega)
    have r3:ad.ar .quo .i64 (n:Int) 128=((n / 128:Nat):Int):=Wh (b:=128) (by omega)
    simp (disch:=omega) only [aZ,eh,bG,bU,aN,bf,r1,r2,r3,sd,Gm,jc,fv,gy];have e2:(acc++[UInt8.ofNat (n % 128+128)]).length=acc.length+1:=by simp
    rw [e2] at hJ;exact hJ
theorem K1 (a:Int):Cm 341 [.int .i64 a] (.sl none 1 (db a).length (bytes (db a)),[.undef]):=by
 by_cases h:0<=a/\a<=2147483647
 ·obtain ⟨n,rfl⟩:∃ n:Nat,a=n:=⟨a.toNat,by omega⟩
  have e:db (n:Int)=gQ n:=by unfold db; rw [if_pos h]; rfl
  rw [e];have hl:=pg 4 n (by omega)
  refine Cm.go zI [.undef] 0 (kT (n:Int) 0 []) (zP 4 n [] (by omega) (by omega) (by simp; omega)) fun J hJ=>?_
  rw [zJ];simp (disch:=omega) only [bu];exact hJ
 ·have e:db a=[]:=by unfold db; rw [if_neg h]
  rw [e];refine Cm.fin zI fun J=>?_;rw [zJ];by_cases h0:a < 0
  ·simp (disch:=omega) only [aZ];rfl
  ·simp (disch:=omega) only [bu,aZ];rfl
section
variable (t:bD Rz)
theorem mL (a:Int):aO 314 [.int .i64 a] t=feed t [.sl none 1 (db a).length (bytes (db a))]:=bc (K0 a) (by kernel_rfl) t
theorem K2 (a:Int):aO 341 [.int .i64 a] t=feed t [.sl none 1 (db a).length (bytes (db a))]:=bc (K1 a) (by kernel_rfl) t
end
def qX (a:Nat):List UInt8:=[UInt8.ofNat a,UInt8.ofNat (a / 256),UInt8.ofNat (a / 65536),UInt8.ofNat (a / 16777216)]
theorem ad2 (a:Nat) (h:a < 4611686018427387904):Cm 317 [.int .i64 (a:Int)] (.sl none 1 4 (bytes (qX a)),[.undef]):=by
 refine Cm.fin Qe fun J=>?_;rw [Qf];have r1:ad.ar .shr .i64 (a:Int) 8=((a / 256:Nat):Int):=yf a (k:=8) (by omega)
 have r2:ad.ar .shr .i64 (a:Int) 16=((a / 65536:Nat):Int):=yf a (k:=16) (by omega)
 have r3:ad.ar .shr .i64 (a:Int) 24=((a / 16777216:Nat):Int):=yf a (k:=24) (by omega)
 simp (disch:=omega) only [bu,bG,bU,aN,bf,r1,r2,r3,sd];rfl
theorem abe (x:Nat):UInt8.ofNat (x&&& 255)=UInt8.ofNat x:=by
 apply UInt8.toNat_inj.1;have:x&&& 255=x % 256:=Nat.and_two_pow_sub_one_eq_mod x 8;rw [this];simp
theorem abf (a:Nat) (h:a < 4611686018427387904):Cm 283 [.int .i64 (a:Int)] (.sl none 1 4 (bytes (qX a)),[.undef]):=by
 refine Cm.fin OY fun J=>?_;rw [OZ];have r1:ad.ar .shr .i64 (a:Int) 8=((a / 256:Nat):Int):=yf a (k:=8) (by omega)
 have r2:ad.ar .shr .i64 (a:Int) 16=((a / 65536:Nat):Int):=yf a (k:=16) (by omega)
 have r3:ad.ar .shr .i64 (a:Int) 24=((a / 16777216:Nat):Int):=yf a (k:=24) (by omega)
 have q:∀ x:Nat,x < 4611686018427387904->ad.ar .and .i64 (x:Int) 255=((x&&& 255:Nat):Int):=fun x hx=>ad1 (b:=255) hx (by omega)
 simp (disch:=omega) only [bu,bG,bU,aN,bf,r1,r2,r3,q,sd,abe];rfl
def lK:Int × Int × Bool:=(0,0,false)
def iN (b:List UInt8) (p:Nat):Nat->Nat->Nat->Int × Int × Bool
 | 0,_,_=>lK
 | k+1,i,acc=>
  if h:p+i < b.length then
   if 128<=b[p+i].toNat then iN b p k (i+1) (acc+b[p+i].toNat % 128*128 ^ i)
   else if 2147483647 < acc+b[p+i].toNat % 128*128 ^ i∨(b[p+i].toNat=0/\0 < i) then lK
   else (((acc+b[p+i].toNat % 128*128 ^ i:Nat):Int),((p+i+1:Nat):Int),true)
  else lK
def hL (b:List UInt8) (a:Int):Int × Int × Bool:=if a < 0 then lK else iN b a.toNat 5 0 0
abbrev MB (x:Int × Int × Bool):Rz:=(.aG [.int .i64 x.1,.int .i64 x.2.1,.bool x.2.2],[.undef,.undef])
theorem Gn (i:Nat):128 ^ i=2 ^ (7*i):=by rw [Nat.pow_mul]
theorem zQ (g:Bool) (b:List UInt8) (p:Nat) (hb:b.length < 4611686018427387904):∀ (k i acc:Nat),i+k=5->acc < 128 ^ i->WP 340 Tryz.f340 [.undef,.undef] 0 (nc g b.length (bytes b) (p:Int) (acc:Int) ((128 ^ i:Nat):Int) (i:Int)) (MB (iN b p k i acc))
 | 0,i,acc,hi,ha=>by
  obtain rfl:i=5:=by omega
  refine WP.fin fun J=>?_;rw [mD];simp (disch:=omega) only [bu];rfl
 | k+1,i,acc,hi,ha=>by
  have hpw:128 ^ i<=268435456:=by
   have:128 ^ i<=128 ^ 4:=Nat.pow_le_pow_right (by omega) (by omega)
   omega
  have hs:ad.ar .sub .i64 (ad.ba b.length) (i:Int)=(b.length:Int) - (i:Int):=iA (by simp only [aF]; omega) (by simp only [aF]; omega)
  by_cases h:p+i < b.length
  ·have hd:b[p+i].toNat < 256:=b[p+i].toNat_lt;have hm:b[p+i].toNat % 128 < 128:=Nat.mod_lt _ (by omega)
   have hx:b[p+i].toNat % 128*128 ^ i<=127*128 ^ i:=adl _ (by omega)
   have r0:ad.ar .add .i64 (p:Int) (i:Int)=((p+i:Nat):Int):=tp (by omega)
   have r1:ad.cd (bytes b) (p+i)=(b[p+i].toNat:Int):=xG h;have r2:ad.wrap .i64 (b[p+i].toNat:Int)=(b[p+i].toNat:Int):=JS (by omega)
   have r3:ad.ar .rem .i64 (b[p+i].toNat:Int) 128=((b[p+i].toNat % 128:Nat):Int):=rfl;have r4:ad.ar .mul .i64 ((b[p+i].toNat % 128:Nat):Int) ((128 ^ i:Nat):Int)=((b[p+i].toNat % 128*128 ^ i:Nat):Int):=O0 (by omega)
   have r5:ad.ar .add .i64 (acc:Int) ((b[p+i].toNat % 128*128 ^ i:Nat):Int)=((acc+b[p+i].toNat % 128*128 ^ i:Nat):Int):=tp (by omega)
   by_cases hc:128<=b[p+i].toNat
   ·have e:iN b p (k+1) i acc=iN b p k (i+1) (acc+b[p+i].toNat % 128*128 ^ i):=by
     rw [iN,dif_pos h,if_pos hc]
    rw [e];have ih:=zQ g b p hb k (i+1) (acc+b[p+i].toNat % 128*128 ^ i) (by omega) (by rw [ajG]; omega)
    refine WP.go _ ih fun J hJ=>?_;rw [mD];have r6:ad.ar .mul .i64 ((128 ^ i:Nat):Int) 128=((128 ^ i*128:Nat):Int):=O0 (b:=128) (by omega)
    simp (disch:=first | omega | assumption) only [hs,r0,cL,r1,r2,r3,r4,r5,aZ,bE,mQ,eh,bt,bG,bU,aN,bf,BZ,r6,cY]
    rw [<- ajG];exact hJ
   ·have r7:ad.ar .add .i64 ((p+i:Nat):Int) 1=((p+i+1:Nat):Int):=cY (by omega)
    refine WP.fin fun J=>?_;rw [mD,iN,dif_pos h,if_neg hc];simp (disch:=first | omega | assumption) only [hs,r0,cL,r1,r2,r3,r4,r5,aZ,bE,mQ,eh,bt,bG,bU,aN,bf,o0,r7]
    by_cases h1:2147483647 < acc+b[p+i].toNat % 128*128 ^ i
    ·rw [if_pos (Or.inl h1),aZ (by omega)]
     rfl
    ·rw [bu (by omega)]
     by_cases h2:b[p+i].toNat=0
     ·rw [gb (by omega)]
      by_cases h3:0 < i
      ·rw [if_pos (Or.inr ⟨h2,h3⟩),aZ (by omega)]
       rfl
      ·rw [if_neg (by omega),bu (by omega)]
     ·rw [if_neg (by omega),eh (by omega)]
  ·refine WP.fin fun J=>?_;rw [mD,iN,dif_neg h];simp (disch:=omega) only [hs,aZ,bu];rfl
theorem zR (g:Bool) (b:List UInt8) (p:Nat) (hb:b.length < 4611686018427387904):∀ (k i acc:Nat),i+k=5->acc < 128 ^ i->WP 329 Tryz.f329 [.undef,.undef] 0 (kU g b.length (bytes b) (p:Int) (acc:Int) (i:Int)) (MB (iN b p k i acc))
 | 0,i,acc,hi,ha=>by
  obtain rfl:i=5:=by omega
  refine WP.fin fun J=>?_;rw [j3];simp (disch:=omega) only [bu];rfl
 | k+1,i,acc,hi,ha=>by
  have hpw:128 ^ i<=268435456:=by
   have:128 ^ i<=128 ^ 4:=Nat.pow_le_pow_right (by omega) (by omega)
   omega
  have hs:ad.ar .sub .i64 (ad.ba b.length) (i:Int)=(b.length:Int) - (i:Int):=iA (by simp only [aF]; omega) (by simp only [aF]; omega)
  by_cases h:p+i < b.length
  ·have hd:b[p+i].toNat < 256:=b[p+i].toNat_lt;have hm:b[p+i].toNat % 128 < 128:=Nat.mod_lt _ (by omega)
   have hx:b[p+i].toNat % 128*128 ^ i<=127*128 ^ i:=adl _ (by omega)
   have r0:ad.ar .add .i64 (p:Int) (i:Int)=((p+i:Nat):Int):=tp (by omega)
   have r1:ad.cd (bytes b) (p+i)=(b[p+i].toNat:Int):=xG h;have r2:ad.wrap .i64 (b[p+i].toNat:Int)=(b[p+i].toNat:Int):=JS (by omega)
   have r3:ad.ar .rem .i64 (b[p+i].toNat:Int) 128=((b[p+i].toNat % 128:Nat):Int):=rfl;have r4:ad.ar .mul .i64 7 (i:Int)=((7*i:Nat):Int):=O0 (a:=7) (by omega)
   have r5:ad.ar .shl .i64 ((b[p+i].toNat % 128:Nat):Int) ((7*i:Nat):Int)=((b[p+i].toNat % 128*128 ^ i:Nat):Int):=by
    rw [Gn];exact vx (by omega) (by rw [<- Gn]; omega)
   have r6:ad.ar .or .i64 (acc:Int) ((b[p+i].toNat % 128*128 ^ i:Nat):Int)=((acc+b[p+i].toNat % 128*128 ^ i:Nat):Int):=by
    rw [MA (by omega) (by omega),Gn,Gl (by rw [<- Gn]; exact ha)]
   by_cases hc:128<=b[p+i].toNat
   ·have e:iN b p (k+1) i acc=iN b p k (i+1) (acc+b[p+i].toNat % 128*128 ^ i):=by
     rw [iN,dif_pos h,if_pos hc]
    rw [e];have ih:=zR g b p hb k (i+1) (acc+b[p+i].toNat % 128*128 ^ i) (by omega) (by rw [ajG]; omega)
    refine WP.go _ ih fun J hJ=>?_;rw [j3];simp (disch:=first | omega | assumption) only [hs,r0,cL,r1,r2,r3,r4,r5,r6,aZ,bu,o0,bE,mQ,eh,bt,bG,bU,aN,bf,cY]
    exact hJ
   ·have r7:ad.ar .add .i64 ((p+i:Nat):Int) 1=((p+i+1:Nat):Int):=cY (by omega)
    refine WP.fin fun J=>?_;rw [j3,iN,dif_pos h,if_neg hc];have Jt:(b[p+i].toNat:Int) < 128:=by omega
    by_cases h1:2147483647 < acc+b[p+i].toNat % 128*128 ^ i
    ·have oS:(2147483647:Int) < ((acc+b[p+i].toNat % 128*128 ^ i:Nat):Int):=by omega
     rw [if_pos (Or.inl h1)];simp (disch:=first | omega | assumption) only [hs,r0,cL,r1,r2,r3,r4,r5,r6,aZ Jt,aZ oS,bu,o0,bE,mQ,eh,bt,bG,bU,aN,bf,r7,BY]
     rfl
    ·have oS:((acc+b[p+i].toNat % 128*128 ^ i:Nat):Int)<=2147483647:=by omega
     have h0:(i:Int) < 5:=by omega
     by_cases h2:b[p+i].toNat=0
     ·have UK:(b[p+i].toNat:Int)=0:=by omega
      by_cases h3:0 < i
      ·have Nf:(0:Int) < (i:Int):=by omega
       rw [if_pos (Or.inr ⟨h2,h3⟩)];simp (disch:=first | omega | assumption) only [hs,r0,cL,r1,r2,r3,r4,r5,r6,aZ h0,aZ Jt,aZ Nf,gb UK,bu,o0,bE,mQ,eh,bt,bG,bU,aN,bf,r7]
       rfl
      ·have Nf:(i:Int)<=0:=by omega
       rw [if_neg (by omega)]
       simp (disch:=first | omega | assumption) only [hs,r0,cL,r1,r2,r3,r4,r5,r6,aZ h0,aZ Jt,bu Nf,bu oS,bu,o0,bE,mQ,eh,bt,bG,bU,aN,bf,r7]
     ·have UK:(b[p+i].toNat:Int)≠0:=by omega
      rw [if_neg (by omega)]
      simp (disch:=first | omega | assumption) only [hs,r0,cL,r1,r2,r3,r4,r5,r6,aZ h0,aZ Jt,eh UK,bu oS,bu,o0,bE,mQ,eh,bt,bG,bU,aN,bf,r7,BY]
  ·refine WP.fin fun J=>?_;rw [j3,iN,dif_neg h];simp (disch:=omega) only [hs,aZ,bu,BZ];rfl
theorem K3 (g:Bool) (b:List UInt8) (a:Int) (hb:b.length < 4611686018427387904):Cm 340 [.sl (some g) 1 b.length (bytes b),.int .i64 a] (MB (hL b a)):=by
 unfold hL;by_cases h:a < 0
 ·rw [if_pos h];refine Cm.fin zM fun J=>?_;rw [zN];simp (disch:=omega) only [aZ];rfl
 ·rw [if_neg h];obtain ⟨p,rfl⟩:∃ n:Nat,a=n:=⟨a.toNat,by omega⟩
  refine Cm.go zM [.undef,.undef] 0 _ (zQ g b p hb 5 0 0 rfl (by omega)) fun J hJ=>?_
  rw [zN];simp (disch:=omega) only [bu];exact hJ
theorem K4 (g:Bool) (b:List UInt8) (a:Int) (hb:b.length < 4611686018427387904):Cm 329 [.sl (some g) 1 b.length (bytes b),.int .i64 a] (MB (hL b a)):=by
 unfold hL;by_cases h:a < 0
 ·rw [if_pos h];refine Cm.go zK [.undef,.undef] 0 (kU g b.length (bytes b) a 0 0) (WP.fin fun J=>?_) fun J hJ=>?_
  ·rw [j3];simp (disch:=omega) only [aZ];rfl
  ·rw [zL];exact hJ
 ·rw [if_neg h];obtain ⟨p,rfl⟩:∃ n:Nat,a=n:=⟨a.toNat,by omega⟩
  refine Cm.go zK [.undef,.undef] 0 _ (zR g b p hb 5 0 0 rfl (by omega)) fun J hJ=>?_
  rw [zL];exact hJ
section
variable (t:bD Rz)
theorem K5 (g:Bool) (b:List UInt8) (a:Int) (hb:b.length < 4611686018427387904):aO 340 [.sl (some g) 1 b.length (bytes b),.int .i64 a] t=feed t [.int .i64 (hL b a).1,.int .i64 (hL b a).2.1,.bool (hL b a).2.2]:=bc (K3 g b a hb) (by kernel_rfl) t
theorem K6 (g:Bool) (b:List UInt8) (a:Int) (hb:b.length < 4611686018427387904):aO 329 [.sl (some g) 1 b.length (bytes b),.int .i64 a] t=feed t [.int .i64 (hL b a).1,.int .i64 (hL b a).2.1,.bool (hL b a).2.2]:=bc (K4 g b a hb) (by kernel_rfl) t
end
set_option maxRecDepth 100000
section
variable (pr:ej) (cv:Cv Rz) (J:Nat->St->Option Rz)
theorem O1:Told cfg Tryz.prog 311 Tryz.f311:=⟨by kernel_rfl,Tryz.func311,by kernel_rfl⟩
theorem O2 (n0:Nat) (c0:List D) (a1:Int) (a2:Bool):aU pr cv J 311 Tryz.f311 [(.aW [(.sl (some false) 1 n0 c0),(.int .i64 a1),(.bool a2)])]=
 let y1:Option (D × List D):=(some ((.int .i64 0),[(.aW [(.sl (some false) 1 n0 c0),(.int .i64 a1),(.bool false)])]))
 (cv 329 [(.sl (some false) 1 n0 c0),(.int .i64 a1)] (.int (fun dj=>(.int (fun fk=>(.bool (fun iy=>(.done (br (br iy false true) y1 (br (br a2 false true) y1 (some ((.int .i64 dj),[(.aW [(.sl (some false) 1 n0 c0),(.int .i64 fk),(.bool a2)])])))))))))))):=by kernel_rfl
theorem Cg:Told cfg Tryz.prog 331 Tryz.f331:=⟨by kernel_rfl,Tryz.func331,by kernel_rfl⟩
theorem Ch (n0:Nat) (c0:List D) (a1:Int) (a2:Bool):aU pr cv J 331 Tryz.f331 [(.aW [(.sl (some false) 1 n0 c0),(.int .i64 a1),(.bool a2)])]=
 (br (br a2 false true) (some ((.int .i64 0),[(.aW [(.sl (some false) 1 n0 c0),(.int .i64 a1),(.bool a2)])])) (cv 340 [(.sl (some false) 1 n0 c0),(.int .i64 a1)] (.int (fun dj=>(.int (fun fk=>(.bool (fun iy=>(.done (some ((.int .i64 dj),[(.aW [(.sl (some false) 1 n0 c0),(.int .i64 fk),(.bool iy)])]))))))))))):=by kernel_rfl
def nf (i0:Int) (i1:Int) (n2:Nat) (c3:List D) (i4:Int) (b5:Bool) (n6:Nat) (c7:List D):St:=(St.mk [(0,(.ptr 28 [] 0)),(3,(.ref 10003 [] 0 none)),(4,(.int .i64 i0)),(5,(.int .i64 i1))] [(28,[(.sl (some false) 1 n2 c3),(.int .i64 i4),(.bool b5)]),(10003,[(.sl none 1 n6 c7)])] [] 0)
theorem K7:Told cfg Tryz.prog 310 Tryz.f310:=⟨by kernel_rfl,Tryz.func310,by kernel_rfl⟩
theorem K8 (n0:Nat) (c0:List D) (a1:Int) (a2:Bool):aU pr cv J 310 Tryz.f310 [(.aW [(.sl (some false) 1 n0 c0),(.int .i64 a1),(.bool a2)])]=
 (br (br (br (pr.nl c0) true false) true false) (cv 311 [(.aW [(.sl (some false) 1 n0 c0),(.int .i64 a1),(.bool a2)])] (.int (fun dj=>(.cX (fun hZ=>(fun oA=>(fun iT=>(.int (fun nL=>(.bool (fun vm=>(.done (br (br (br (pr.nl iT) true false) true false) (J 0 (nf dj 0 oA iT nL vm 0 [])) none))))))))))))) none):=by kernel_rfl
theorem pL (i0:Int) (i1:Int) (n2:Nat) (c3:List D) (i4:Int) (b5:Bool) (n6:Nat) (c7:List D):cg pr cv J 310 Tryz.f310 [(.aW [])] 0 (nf i0 i1 n2 c3 i4 b5 n6 c7)=
 let y1:List D:=[(.aW [(.sl (some false) 1 n2 c3),(.int .i64 i4),(.bool b5)])]
 let y2:Option (D × List D):=(some ((.sl none 1 n6 c7),y1))
 (br (pr.lt i1 i0) (br b5 (br (br (br (pr.nl c3) true false) true false) (cv 311 y1 (.int (fun dj=>(.cX (fun hZ=>(fun oA=>(fun iT=>(.int (fun nL=>(.bool (fun vm=>(.done (br (br (br (pr.nl iT) true false) true false) (br (br (pr.flat [(.int .i64 dj)]) (pr.fits (n6+1) 8) false) (J 0 (nf i0 (pr.ar .add .i64 i1 1) oA iT nL vm (n6+1) (List.append c7 [(.int .i64 dj)]))) none) none))))))))))))) none) y2) y2):=by kernel_rfl
def ju (i0:Int) (i1:Int) (n2:Nat) (c3:List D) (i4:Int) (b5:Bool) (n6:Nat) (c7:List D):St:=(St.mk [(0,(.ptr 28 [] 0)),(3,(.ref 10003 [] 0 none)),(4,(.int .i64 i0)),(5,(.int .i64 i1))] [(28,[(.sl (some false) 1 n2 c3),(.int .i64 i4),(.bool b5)]),(10003,[(.sl none 1 n6 c7)])] [] 0)
theorem A9:Told cfg Tryz.prog 330 Tryz.f330:=⟨by kernel_rfl,Tryz.func330,by kernel_rfl⟩
theorem Ba (n0:Nat) (c0:List D) (a1:Int) (a2:Bool):aU pr cv J 330 Tryz.f330 [(.aW [(.sl (some false) 1 n0 c0),(.int .i64 a1),(.bool a2)])]=
 (br (br (br (pr.nl c0) true false) true false) (cv 331 [(.aW [(.sl (some false) 1 n0 c0),(.int .i64 a1),(.bool a2)])] (.int (fun dj=>(.cX (fun hZ=>(fun oA=>(fun iT=>(.int (fun nL=>(.bool (fun vm=>(.done (br (br (br (pr.nl iT) true false) true false) (J 0 (ju dj 0 oA iT nL vm 0 [])) none))))))))))))) none):=by kernel_rfl
theorem lX (i0:Int) (i1:Int) (n2:Nat) (c3:List D) (i4:Int) (b5:Bool) (n6:Nat) (c7:List D):cg pr cv J 330 Tryz.f330 [(.aW [])] 0 (ju i0 i1 n2 c3 i4 b5 n6 c7)=
 let y1:List D:=[(.aW [(.sl (some false) 1 n2 c3),(.int .i64 i4),(.bool b5)])]
 let y2:Option (D × List D):=(some ((.sl none 1 n6 c7),y1))
 (br (pr.lt i1 i0) (br b5 (br (br (br (pr.nl c3) true false) true false) (cv 331 y1 (.int (fun dj=>(.cX (fun hZ=>(fun oA=>(fun iT=>(.int (fun nL=>(.bool (fun vm=>(.done (br (br (br (pr.nl iT) true false) true false) (br (br (pr.flat [(.int .i64 dj)]) (pr.fits (n6+1) 8) false) (J 0 (ju i0 (pr.ar .add .i64 i1 1) oA iT nL vm (n6+1) (List.append c7 [(.int .i64 dj)]))) none) none))))))))))))) none) y2) y2):=by kernel_rfl
end
theorem gR {R:Type} (f:Bool->Nat->List D->bD R) (g:Bool) (s n:Nat) (cs l:List D):feed (.cX f) (.sl (some g) s n cs::l)=feed (f g n cs) l:=rfl
theorem Gp (b:List UInt8) (p:Nat):∀ k i acc,0<=(iN b p k i acc).1/\(iN b p k i acc).1<=2147483647
 | 0,_,_=>by simp [iN,lK]
 | k+1,i,acc=>by
  rw [iN];split
  ·split
   ·exact Gp b p k _ _
   ·split
    ·simp [lK]
    ·simp only;omega
  ·simp [lK]
theorem Gq (b:List UInt8) (a:Int):0<=(hL b a).1/\(hL b a).1<=2147483647:=by
 unfold hL;split
 ·simp [lK]
 ·exact Gp b _ _ _ _
theorem JT (b:List UInt8) (p:Nat):∀ k i acc,(iN b p k i acc).2.2=true->(p:Int) < (iN b p k i acc).2.1/\(iN b p k i acc).2.1<=b.length
 | 0,_,_,h=>by simp [iN,lK] at h
 | k+1,i,acc,h=>by
  rw [iN] at h ⊢;split at h
  ·rename_i h1;rw [dif_pos h1];split at h
   ·rename_i h2;rw [if_pos h2];exact JT b p k _ _ h
   ·rename_i h2;rw [if_neg h2];split at h
    ·simp [lK] at h
    ·rename_i h3;rw [if_neg h3];simp only;omega
  ·simp [lK] at h
theorem JU (b:List UInt8) (a:Int) (h:(hL b a).2.2=true):0<=a/\a < (hL b a).2.1/\(hL b a).2.1<=b.length:=by
 unfold hL at h ⊢;split at h
 ·simp [lK] at h
 ·rename_i h1;rw [if_neg h1];have:=JT b a.toNat _ _ _ h;omega
abbrev wS (b:List UInt8) (c:Int × Bool):D:=.aW [s8 (some false) b,.int .i64 c.1,.bool c.2]
def bF (b:List UInt8) (c:Int × Bool):Int × (Int × Bool):=if (hL b c.1).2.2&&c.2 then ((hL b c.1).1,((hL b c.1).2.1,true)) else (0,(c.1,false))
def bI (b:List UInt8) (c:Int × Bool):Int × (Int × Bool):=if c.2 then ((hL b c.1).1,((hL b c.1).2.1,(hL b c.1).2.2)) else (0,c)
theorem Ta (b:List UInt8) (c:Int × Bool):0<=(bF b c).1/\(bF b c).1<=2147483647:=by
 have:=Gq b c.1;unfold bF;split<;>simp [this]
theorem Tb (b:List UInt8) (c:Int × Bool):0<=(bI b c).1/\(bI b c).1<=2147483647:=by
 have:=Gq b c.1;unfold bI;split<;>simp [this]
theorem Tc (b:List UInt8) (c:Int × Bool) (hb:b.length < 4611686018427387904):Cm 311 [wS b c] (.int .i64 (bF b c).1,[wS b (bF b c).2]):=by
 obtain ⟨p,k⟩:=c;refine Cm.fin O1 fun J=>?_;rw [O2];simp (disch:=assumption) only [K6,bV,aL,aq];unfold bF;cases (hL b p).2.2<;>cases k<;>rfl
theorem Td (b:List UInt8) (c:Int × Bool) (hb:b.length < 4611686018427387904):Cm 331 [wS b c] (.int .i64 (bI b c).1,[wS b (bI b c).2]):=by
 obtain ⟨p,k⟩:=c;refine Cm.fin Cg fun J=>?_;rw [Ch];simp (disch:=assumption) only [K5,bV,aL,aq];unfold bI;cases k<;>rfl
section
variable (t:bD Rz)
theorem zg (b:List UInt8) (p:Int) (k:Bool) (hb:b.length < 4611686018427387904):aO 311 [.aW [.sl (some false) 1 b.length (bytes b),.int .i64 p,.bool k]] t=feed t [.int .i64 (bF b (p,k)).1,.sl (some false) 1 b.length (bytes b),.int .i64 (bF b (p,k)).2.1,.bool (bF b (p,k)).2.2]:=bc (Tc b (p,k) hb) (by kernel_rfl) t
theorem zh (b:List UInt8) (p:Int) (k:Bool) (hb:b.length < 4611686018427387904):aO 331 [.aW [.sl (some false) 1 b.length (bytes b),.int .i64 p,.bool k]] t=feed t [.int .i64 (bI b (p,k)).1,.sl (some false) 1 b.length (bytes b),.int .i64 (bI b (p,k)).2.1,.bool (bI b (p,k)).2.2]:=bc (Td b (p,k) hb) (by kernel_rfl) t
end
def nP (num:List UInt8->Int × Bool->Int × (Int × Bool)) (b:List UInt8):Nat->Int × Bool->List Int->List Int × (Int × Bool)
 | 0,c,out=>(out,c)
 | k+1,c,out=>if c.2 then nP num b k (num b c).2 (out++[(num b c).1]) else (out,c)
def bg (num:List UInt8->Int × Bool->Int × (Int × Bool)) (b:List UInt8) (c:Int × Bool):List Int × (Int × Bool):=nP num b (num b c).1.toNat (num b c).2 []
theorem Wi {R:Type} {x y:R} (a:Int):br (ad.flat [.int .i64 a]) x y=x:=rfl
theorem JV (xs:List Int) (a:Int):List.append (ints xs) [.int .i64 a]=ints (xs++[a]):=by simp [ints]
theorem CT (b:List UInt8) (hb:b.length < 4611686018427387904) (n:Nat) (hn:n<=2147483647):∀ (k i:Nat) (c:Int × Bool) (out:List Int),i+k=n->out.length<=i->WP 310 Tryz.f310 [.aW []] 0 (nf (n:Int) (i:Int) b.length (bytes b) c.1 c.2 out.length (ints out)) (.sl none 1 (nP bF b k c out).1.length (ints (nP bF b k c out).1),[wS b (nP bF b k c out).2])
 | 0,i,c,out,hi,ho=>by
  refine WP.fin fun J=>?_;rw [pL];simp (disch:=omega) only [bu];rfl
 | k+1,i,c,out,hi,ho=>by
  obtain ⟨p,q⟩:=c;cases q with
  | false=>
   refine WP.fin fun J=>?_;rw [pL];simp (disch:=omega) only [aZ,bf];rfl
  | true=>
   have e:nP bF b (k+1) (p,true) out=nP bF b k (bF b (p,true)).2 (out++[(bF b (p,true)).1]):=by rw [nP,if_pos rfl]
   rw [e];have ih:=CT b hb n hn k (i+1) (bF b (p,true)).2 (out++[(bF b (p,true)).1]) (by omega) (by simp only [aap,adB]; omega)
   refine WP.go _ ih fun J hJ=>?_;rw [pL];simp (disch:=first | omega | assumption) only [aZ,aN,eM,bt,zg,bV,gR,aL,aq,Wi,fv,JV,cY]
   have e2:(out++[(bF b (p,true)).1]).length=out.length+1:=by simp
   rw [e2] at hJ;exact hJ
theorem Qh (b:List UInt8) (c:Int × Bool) (hb:b.length < 4611686018427387904):Cm 310 [wS b c] (.sl none 1 (bg bF b c).1.length (ints (bg bF b c).1),[wS b (bg bF b c).2]):=by
 obtain ⟨p,q⟩:=c;have hn:=Ta b (p,q);have en:(((bF b (p,q)).1.toNat:Nat):Int)=(bF b (p,q)).1:=by omega
 refine Cm.go K7 [.aW []] 0 _ (CT b hb (bF b (p,q)).1.toNat (by omega) (bF b (p,q)).1.toNat 0 (bF b (p,q)).2 [] (by omega) (by simp)) fun J hJ=>?_
 rw [K8];simp (disch:=first | omega | assumption) only [aN,eM,bt,zg,bV,gR,aL,aq]
 rw [en] at hJ;exact hJ
theorem sx (b:List UInt8) (p:Int) (k:Bool) (hb:b.length < 4611686018427387904) (t:bD Rz):aO 310 [.aW [.sl (some false) 1 b.length (bytes b),.int .i64 p,.bool k]] t=feed t [.sl none 1 (bg bF b (p,k)).1.length (ints (bg bF b (p,k)).1),.sl (some false) 1 b.length (bytes b),.int .i64 (bg bF b (p,k)).2.1,.bool (bg bF b (p,k)).2.2]:=bc (Qh b (p,k) hb) (by kernel_rfl) t
theorem CU (b:List UInt8) (hb:b.length < 4611686018427387904) (n:Nat) (hn:n<=2147483647):∀ (k i:Nat) (c:Int × Bool) (out:List Int),i+k=n->out.length<=i->WP 330 Tryz.f330 [.aW []] 0 (ju (n:Int) (i:Int) b.length (bytes b) c.1 c.2 out.length (ints out)) (.sl none 1 (nP bI b k c out).1.length (ints (nP bI b k c out).1),[wS b (nP bI b k c out).2])
 | 0,i,c,out,hi,ho=>by
  refine WP.fin fun J=>?_;rw [lX];simp (disch:=omega) only [bu];rfl
 | k+1,i,c,out,hi,ho=>by
  obtain ⟨p,q⟩:=c;cases q with
  | false=>
   refine WP.fin fun J=>?_;rw [lX];simp (disch:=omega) only [aZ,bf];rfl
  | true=>
   have e:nP bI b (k+1) (p,true) out=nP bI b k (bI b (p,true)).2 (out++[(bI b (p,true)).1]):=by rw [nP,if_pos rfl]
   rw [e];have ih:=CU b hb n hn k (i+1) (bI b (p,true)).2 (out++[(bI b (p,true)).1]) (by omega) (by simp only [aap,adB]; omega)
   refine WP.go _ ih fun J hJ=>?_;rw [lX];simp (disch:=first | omega | assumption) only [aZ,aN,eM,bt,zh,bV,gR,aL,aq,Wi,fv,JV,cY]
   have e2:(out++[(bI b (p,true)).1]).length=out.length+1:=by simp
   rw [e2] at hJ;exact hJ
theorem Qi (b:List UInt8) (c:Int × Bool) (hb:b.length < 4611686018427387904):Cm 330 [wS b c] (.sl none 1 (bg bI b c).1.length (ints (bg bI b c).1),[wS b (bg bI b c).2]):=by
 obtain ⟨p,q⟩:=c;have hn:=Tb b (p,q);have en:(((bI b (p,q)).1.toNat:Nat):Int)=(bI b (p,q)).1:=by omega
 refine Cm.go A9 [.aW []] 0 _ (CU b hb (bI b (p,q)).1.toNat (by omega) (bI b (p,q)).1.toNat 0 (bI b (p,q)).2 [] (by omega) (by simp)) fun J hJ=>?_
 rw [Ba];simp (disch:=first | omega | assumption) only [aN,eM,bt,zh,bV,gR,aL,aq]
 rw [en] at hJ;exact hJ
theorem sy (b:List UInt8) (p:Int) (k:Bool) (hb:b.length < 4611686018427387904) (t:bD Rz):aO 330 [.aW [.sl (some false) 1 b.length (bytes b),.int .i64 p,.bool k]] t=feed t [.sl none 1 (bg bI b (p,k)).1.length (ints (bg bI b (p,k)).1),.sl (some false) 1 b.length (bytes b),.int .i64 (bg bI b (p,k)).2.1,.bool (bg bI b (p,k)).2.2]:=bc (Qi b (p,k) hb) (by kernel_rfl) t
set_option maxRecDepth 100000
section
variable (pr:ej) (cv:Cv Rz) (J:Nat->St->Option Rz)
def j4 (g0:Bool) (n1:Nat) (c2:List D) (i3:Int) (i4:Int) (n5:Nat) (c6:List D):St:=(St.mk [(3,(.ref 10003 [] 0 none)),(7,(.sl (some g0) 1 n1 c2)),(8,(.int .i64 i3)),(9,(.int .i64 i4))] [(10003,[(.sl none 1 n5 c6)])] [] 0)
theorem Ij:Told cfg Tryz.prog 333 Tryz.f333:=⟨by kernel_rfl,Tryz.func333,by kernel_rfl⟩
theorem Ik (g0:Bool) (n0:Nat) (c0:List D):aU pr cv J 333 Tryz.f333 [(.sl (some g0) 1 n0 c0)]=
 (J 0 (j4 g0 n0 c0 (pr.ba n0) 0 0 [])):=by kernel_rfl
theorem tU (g0:Bool) (n1:Nat) (c2:List D) (i3:Int) (i4:Int) (n5:Nat) (c6:List D):cg pr cv J 333 Tryz.f333 [.undef] 0 (j4 g0 n1 c2 i3 i4 n5 c6)=
 (br (pr.lt i4 i3) (br (pr.bR i4 n1) (br (br (pr.da .i64 c2 (pr.idx 0 i4 1)) true false) (cv 341 [(.int .i64 (pr.cd c2 (pr.idx 0 i4 1)))] (.sl (fun dU=>(fun dg=>(.done (br (br (br (pr.nl dg) true false) true false) (br (br (pr.flat dg) (pr.fits (n5+dU) 1) false) (J 0 (j4 g0 n1 c2 i3 (pr.ar .add .i64 i4 1) (n5+dU) (List.append c6 dg))) none) none)))))) none) none) (some ((.sl none 1 n5 c6),[.undef]))):=by kernel_rfl
theorem Il:Told cfg Tryz.prog 332 Tryz.f332:=⟨by kernel_rfl,Tryz.func332,by kernel_rfl⟩
theorem Im (g0:Bool) (n0:Nat) (c0:List D):aU pr cv J 332 Tryz.f332 [(.sl (some g0) 1 n0 c0)]=
 (cv 333 [(.sl (some true) 1 1 [(.int .i64 (pr.ba n0))])] (.sl (fun dU=>(fun dg=>(.done (br (br (br (pr.nl dg) true false) true false) (cv 333 [(.sl (some g0) 1 n0 c0)] (.sl (fun oA=>(fun iT=>(.done (br (br (br (pr.nl iT) true false) true false) (br (br (pr.flat iT) (pr.fits (dU+oA) 1) false) (some ((.sl none 1 (dU+oA) (List.append dg iT)),[.undef])) none) none)))))) none)))))):=by kernel_rfl
def kV (i0:Int) (g1:Bool) (n2:Nat) (c3:List D) (g4:Bool) (n5:Nat) (c6:List D) (b7:Bool) (b8:Bool) (b9:Bool) (i10:Int) (eW:Nat) (fw:List D):St:=(St.mk [(1,(.ptr 1 [] 0)),(3,(.ref 10003 [] 0 none)),(4,(.int .i64 i0))] [(1,[(.sl (some g1) 1 n2 c3),(.sl (some g4) 1 n5 c6),(.bool b7),(.bool b8),(.bool b9),(.int .i64 i10)]),(10003,[(.sl none 1 eW fw)])] [] 0)
def kW (i0:Int) (g1:Bool) (n2:Nat) (c3:List D) (g4:Bool) (n5:Nat) (c6:List D) (b7:Bool) (b8:Bool) (b9:Bool) (i10:Int) (eW:Nat) (fw:List D):St:=(St.mk [(1,(.ptr 1 [] 0)),(3,(.ref 10003 [] 0 none)),(5,(.int .i64 i0))] [(1,[(.sl (some g1) 1 n2 c3),(.sl (some g4) 1 n5 c6),(.bool b7),(.bool b8),(.bool b9),(.int .i64 i10)]),(10003,[(.sl none 1 eW fw)])] [] 0)
def kX (i0:Int) (i1:Int) (g2:Bool) (n3:Nat) (c4:List D) (g5:Bool) (n6:Nat) (c7:List D) (b8:Bool) (b9:Bool) (jA:Bool) (i11:Int) (gG:Nat) (ia:List D):St:=(St.mk [(1,(.ptr 1 [] 0)),(3,(.ref 10003 [] 0 none)),(5,(.int .i64 i0)),(6,(.int .i64 i1))] [(1,[(.sl (some g2) 1 n3 c4),(.sl (some g5) 1 n6 c7),(.bool b8),(.bool b9),(.bool jA),(.int .i64 i11)]),(10003,[(.sl none 1 gG ia)])] [] 0)
theorem vy:Told cfg Tryz.prog 282 Tryz.f282:=⟨by kernel_rfl,Tryz.func282,by kernel_rfl⟩
theorem vz (g0:Bool) (n0:Nat) (c0:List D) (g1:Bool) (n1:Nat) (c1:List D) (a2:Bool) (a3:Bool) (a4:Bool) (a5:Int):aU pr cv J 282 Tryz.f282 [(.agg [(.sl (some g0) 1 n0 c0),(.sl (some g1) 1 n1 c1),(.bool a2),(.bool a3),(.bool a4),(.int .i64 a5)])]=
 let y1:List D:=[(.sl (some g0) 1 n0 c0),(.sl (some g1) 1 n1 c1),(.bool a2),(.bool a3),(.bool a4),(.int .i64 a5)]
 (cv 161 [(.agg y1)] (.bool (fun ct=>(.done (br (br ct false true) (some ((.sl none 1 0 []),[.undef])) (cv 314 [(.int .i64 (pr.ba n0))] (.sl (fun rq=>(fun oD=>(.done (br (br (br (pr.nl oD) true false) true false) (J 0 (kV 0 g0 n0 c0 g1 n1 c1 a2 a3 a4 a5 rq oD)) none))))))))))):=by kernel_rfl
theorem rv (i0:Int) (g1:Bool) (n2:Nat) (c3:List D) (g4:Bool) (n5:Nat) (c6:List D) (b7:Bool) (b8:Bool) (b9:Bool) (i10:Int) (eW:Nat) (fw:List D):cg pr cv J 282 Tryz.f282 [.undef] 0 (kV i0 g1 n2 c3 g4 n5 c6 b7 b8 b9 i10 eW fw)=
 (br (pr.lt i0 (pr.ba n2)) (br (pr.bR i0 n2) (br (br (pr.da .i64 c3 (pr.idx 0 i0 1)) true false) (cv 314 [(.int .i64 (pr.cd c3 (pr.idx 0 i0 1)))] (.sl (fun dU=>(fun dg=>(.done (br (br (br (pr.nl dg) true false) true false) (br (br (pr.flat dg) (pr.fits (eW+dU) 1) false) (J 0 (kV (pr.ar .add .i64 i0 1) g1 n2 c3 g4 n5 c6 b7 b8 b9 i10 (eW+dU) (List.append fw dg))) none) none)))))) none) none) (J 2 (kW 0 g1 n2 c3 g4 n5 c6 b7 b8 b9 i10 eW fw))):=by kernel_rfl
theorem ry (i0:Int) (g1:Bool) (n2:Nat) (c3:List D) (g4:Bool) (n5:Nat) (c6:List D) (b7:Bool) (b8:Bool) (b9:Bool) (i10:Int) (eW:Nat) (fw:List D):cg pr cv J 282 Tryz.f282 [.undef] 2 (kW i0 g1 n2 c3 g4 n5 c6 b7 b8 b9 i10 eW fw)=
 (br (pr.lt i0 3) (br (pr.bR i0 n5) (br (br (pr.cZ 1 c6 (pr.idx 0 i0 1)) true false) (cv 314 [(.int .i64 (pr.ba (pr.bM c6 (pr.idx 0 i0 1))))] (.sl (fun dU=>(fun dg=>(.done (br (br (br (pr.nl dg) true false) true false) (br (br (pr.flat dg) (pr.fits (eW+dU) 1) false) (J 4 (kX i0 0 g1 n2 c3 g4 n5 c6 b7 b8 b9 i10 (eW+dU) (List.append fw dg))) none) none)))))) none) none) (cv 192 [(.bool b7)] (.int (fun lU=>(.done (cv 192 [(.bool b8)] (.int (fun rn=>(.done (cv 192 [(.bool b9)] (.int (fun nL=>(.done (cv 314 [(.int .i64 (pr.ar .add .i64 (pr.ar .add .i64 lU (pr.ar .mul .i64 2 rn)) (pr.ar .mul .i64 4 nL)))] (.sl (fun Rx=>(fun O3=>(.done (br (br (br (pr.nl O3) true false) true false) (br (br (pr.flat O3) (pr.fits (eW+Rx) 1) false) (cv 314 [(.int .i64 i10)] (.sl (fun vn7=>(fun Ry=>(.done (br (br (br (pr.nl Ry) true false) true false) (br (br (pr.flat Ry) (pr.fits ((eW+Rx)+vn7) 1) false) (some ((.sl none 1 ((eW+Rx)+vn7) (List.append (List.append fw O3) Ry)),[.undef])) none) none)))))) none) none))))))))))))))))))):=by kernel_rfl
theorem rz (i0:Int) (i1:Int) (g2:Bool) (n3:Nat) (c4:List D) (g5:Bool) (n6:Nat) (c7:List D) (b8:Bool) (b9:Bool) (jA:Bool) (i11:Int) (gG:Nat) (ia:List D):cg pr cv J 282 Tryz.f282 [.undef] 4 (kX i0 i1 g2 n3 c4 g5 n6 c7 b8 b9 jA i11 gG ia)=
 (br (pr.bR i0 n6) (br (br (pr.cZ 1 c7 (pr.idx 0 i0 1)) true false) (br (pr.lt i1 (pr.ba (pr.bM c7 (pr.idx 0 i0 1)))) (br (pr.bR i0 n6) (br (br (pr.cZ 1 c7 (pr.idx 0 i0 1)) true false) (br (pr.bR i1 (pr.bM c7 (pr.idx 0 i0 1))) (br (br (pr.da .i64 (pr.bP c7 (pr.idx 0 i0 1)) (pr.idx 0 i1 1)) true false) (cv 314 [(.int .i64 (pr.cd (pr.bP c7 (pr.idx 0 i0 1)) (pr.idx 0 i1 1)))] (.sl (fun dU=>(fun dg=>(.done (br (br (br (pr.nl dg) true false) true false) (br (br (pr.flat dg) (pr.fits (gG+dU) 1) false) (J 4 (kX i0 (pr.ar .add .i64 i1 1) g2 n3 c4 g5 n6 c7 b8 b9 jA i11 (gG+dU) (List.append ia dg))) none) none)))))) none) none) none) none) (J 2 (kW (pr.ar .add .i64 i0 1) g2 n3 c4 g5 n6 c7 b8 b9 jA i11 gG ia))) none) none):=by kernel_rfl
def iO (g0:Bool) (n1:Nat) (c2:List D) (i3:Int) (i4:Int) (g5:Bool) (n6:Nat) (c7:List D) (b8:Bool) (b9:Bool) (jA:Bool) (i11:Int) (gG:Nat) (ia:List D):St:=(St.mk [(1,(.ptr 1 [] 0)),(3,(.ref 10003 [] 0 none)),(13,(.sl (some g0) 1 n1 c2)),(14,(.int .i64 i3)),(15,(.int .i64 i4))] [(1,[(.sl (some g5) 1 n6 c7),(.sl (some g0) 1 n1 c2),(.bool b8),(.bool b9),(.bool jA),(.int .i64 i11)]),(10003,[(.sl none 1 gG ia)])] [] 0)
theorem vA:Told cfg Tryz.prog 316 Tryz.f316:=⟨by kernel_rfl,Tryz.func316,by kernel_rfl⟩
theorem vB (g0:Bool) (n0:Nat) (c0:List D) (g1:Bool) (n1:Nat) (c1:List D) (a2:Bool) (a3:Bool) (a4:Bool) (a5:Int):aU pr cv J 316 Tryz.f316 [(.agg [(.sl (some g0) 1 n0 c0),(.sl (some g1) 1 n1 c1),(.bool a2),(.bool a3),(.bool a4),(.int .i64 a5)])]=
 let y1:List D:=[(.sl (some g0) 1 n0 c0),(.sl (some g1) 1 n1 c1),(.bool a2),(.bool a3),(.bool a4),(.int .i64 a5)]
 (cv 168 [(.agg y1)] (.bool (fun ct=>(.done (br (br ct false true) (some ((.sl none 1 0 []),[.undef])) (cv 332 [(.sl (some g0) 1 n0 c0)] (.sl (fun rq=>(fun oD=>(.done (br (br (br (pr.nl oD) true false) true false) (J 0 (iO g1 n1 c1 (pr.ba n1) 0 g0 n0 c0 a2 a3 a4 a5 rq oD)) none))))))))))):=by kernel_rfl
theorem rA (g0:Bool) (n1:Nat) (c2:List D) (i3:Int) (i4:Int) (g5:Bool) (n6:Nat) (c7:List D) (b8:Bool) (b9:Bool) (jA:Bool) (i11:Int) (gG:Nat) (ia:List D):cg pr cv J 316 Tryz.f316 [.undef] 0 (iO g0 n1 c2 i3 i4 g5 n6 c7 b8 b9 jA i11 gG ia)=
 (br (pr.lt i4 i3) (br (pr.bR i4 n1) (br (br (pr.cZ 1 c2 (pr.idx 0 i4 1)) true false) (cv 332 [(.sl (some (pr.cD c2 (pr.idx 0 i4 1))) 1 (pr.bM c2 (pr.idx 0 i4 1)) (pr.bP c2 (pr.idx 0 i4 1)))] (.sl (fun dU=>(fun dg=>(.done (br (br (br (pr.nl dg) true false) true false) (br (br (pr.flat dg) (pr.fits (gG+dU) 1) false) (J 0 (iO g0 n1 c2 i3 (pr.ar .add .i64 i4 1) g5 n6 c7 b8 b9 jA i11 (gG+dU) (List.append ia dg))) none) none)))))) none) none) (cv 334 [(.bool b8),(.int .i64 1)] (.int (fun lU=>(.done (cv 334 [(.bool b9),(.int .i64 2)] (.int (fun rn=>(.done (cv 334 [(.bool jA),(.int .i64 4)] (.int (fun nL=>(.done (cv 333 [(.sl (some true) 1 2 [(.int .i64 (pr.ar .add .i64 (pr.ar .add .i64 lU rn) nL)),(.int .i64 i11)])] (.sl (fun Rx=>(fun O3=>(.done (br (br (br (pr.nl O3) true false) true false) (br (br (pr.flat O3) (pr.fits (gG+Rx) 1) false) (some ((.sl none 1 (gG+Rx) (List.append ia O3)),[.undef])) none) none))))))))))))))))))):=by kernel_rfl
end
def eC (xs:List Int):List UInt8:=xs.flatMap db
theorem ko:∀ xs:List Int,(eC xs).length<=5*xs.length
 | []=>by simp [eC]
 | x::xs=>by
  have h1:=ko xs;have h2:=fJ x;simp only [eC,adL,aap,adj] at h1 ⊢;omega
theorem wT {xs:List Int} {i:Nat} (h:i < xs.length):eC (xs.take (i+1))=eC (xs.take i)++db xs[i]:=by
 unfold eC;rw [<- adw h,List.flatMap_append,adL,List.flatMap_nil,acg]
def cP (xs:List Int):List UInt8:=db (xs.length:Int)++eC xs
theorem ng (xs:List Int):(cP xs).length<=5+5*xs.length:=by
 have h1:=ko xs;have h2:=fJ (xs.length:Int);simp only [cP,aap];omega
def fx (xss:List (List Int)):List UInt8:=xss.flatMap cP
theorem nQ:∀ xss:List (List Int),(∀ xs∈xss,xs.length<=1048576)->(fx xss).length<=5242885*xss.length
 | [],_=>by simp [fx]
 | xs::xss,h=>by
  have h1:=nQ xss fun x hx=>h x (ag3 _ hx);have h2:=ng xs;have h3:=h xs agE;simp only [fx,adL,aap,adj] at h1 ⊢;omega
theorem Gr {xss:List (List Int)} {i:Nat} (h:i < xss.length):fx (xss.take (i+1))=fx (xss.take i)++cP xss[i]:=by
 unfold fx;rw [<- adw h,List.flatMap_append,adL,List.flatMap_nil,acg]
def qY (b:Bool) (k:Int):Int:=if b then k else 0
def kY (m:aB):Int:=qY m.cf 1+qY m.bB 2+qY m.held 4
def cy (m:aB):List UInt8:=if ed m then (cP m.av++fx m.bits)++(db (kY m)++db m.last) else []
theorem abg (b:Bool):Cm 192 [.bool b] (.int .i64 (qY b 1),[.undef]):=by
 refine Cm.fin OP fun J=>?_;rw [OQ];cases b<;>rfl
theorem ad3 (b:Bool) (k:Int):Cm 334 [.bool b,.int .i64 k] (.int .i64 (qY b k),[.undef,.undef]):=by
 refine Cm.fin P5 fun J=>?_;rw [P6];cases b<;>rfl
theorem Wj (g:Bool) (xs:List Int) (hb:xs.length<=1048576):Cm 333 [.sl (some g) 1 xs.length (ints xs)] (.sl none 1 (eC xs).length (bytes (eC xs)),[.undef]):=by
 refine Cm.go Ij [.undef] 0 (j4 g xs.length (ints xs) xs.length (0:Nat) 0 []) ?_ fun J hJ=>?_
 ·refine WP.loop (H:=fun i:Nat=>j4 g xs.length (ints xs) xs.length (i:Nat) (eC (xs.take i)).length (bytes (eC (xs.take i)))) (n:=xs.length) (fun _=>True) (fun i hi _ ih=>WP.go _ (ih trivial) fun J hJ=>?_) (fun _=>WP.fin fun J=>?_) 0 (adt _) trivial
  ·have l1:=ko (xs.take i);have l2:=fJ xs[i];have l3:(xs.take i).length<=xs.length:=by simp; omega
   rw [tU];simp (disch:=first | omega | assumption) only [aZ,bE,cL,dI,dJ,K2,dq,aq,eM,aN,bt,jc,fv,gy,cY]
   rw [wT hi,aap] at hJ;exact hJ
  ·rw [tU];simp (disch:=omega) only [bu,ac8]
 ·rw [Ik];exact hJ
section
variable (t:bD Rz)
theorem abh (b:Bool):aO 192 [.bool b] t=feed t [.int .i64 (qY b 1)]:=bc (abg b) (by kernel_rfl) t
theorem ad4 (b:Bool) (k:Int):aO 334 [.bool b,.int .i64 k] t=feed t [.int .i64 (qY b k)]:=bc (ad3 b k) (by kernel_rfl) t
theorem Bb (g:Bool) (xs:List Int) (n:Nat) (hn:n=xs.length) (hb:xs.length<=1048576):aO 333 [.sl (some g) 1 n (ints xs)] t=feed t [.sl none 1 (eC xs).length (bytes (eC xs))]:=by subst hn; exact bc (Wj g xs hb) (by kernel_rfl) t
theorem Te (g:Bool) (a:Int):aO 333 [.sl (some g) 1 1 [.int .i64 a]] t=feed t [.sl none 1 (db a).length (bytes (db a))]:=by
 have e:eC [a]=db a:=by simp [eC]
 rw [<- e];exact Bb t g [a] 1 rfl (by simp)
theorem Tf (g:Bool) (a b:Int):aO 333 [.sl (some g) 1 2 [.int .i64 a,.int .i64 b]] t=feed t [.sl none 1 (db a++db b).length (bytes (db a++db b))]:=by
 have e:eC [a,b]=db a++db b:=by simp [eC]
 rw [<- e];exact Bb t g [a,b] 2 rfl (by simp)
end
theorem Wk (g:Bool) (xs:List Int) (hb:xs.length<=1048576):Cm 332 [.sl (some g) 1 xs.length (ints xs)] (.sl none 1 (cP xs).length (bytes (cP xs)),[.undef]):=by
 refine Cm.fin Il fun J=>?_;rw [Im];have l1:=ko xs;have l2:=fJ (xs.length:Int);simp (disch:=first | omega | assumption | rfl) only [aF,Te,Bb,dq,aq,eM,aN,bt,jc,fv,gy]
 unfold cP;rw [aap]
theorem JW (g:Bool) (xs:List Int) (n:Nat) (hn:n=xs.length) (hb:xs.length<=1048576) (t:bD Rz):aO 332 [.sl (some g) 1 n (ints xs)] t=feed t [.sl none 1 (cP xs).length (bytes (cP xs))]:=by subst hn; exact bc (Wk g xs hb) (by kernel_rfl) t
theorem CV {m:aB} (h:ed m=true):m.bits.length=3:=by
 simp only [ed,wX,beq_iff_eq] at h;omega
abbrev JX (l:List UInt8):Rz:=(.sl none 1 l.length (bytes l),[.undef])
theorem DS (g:Bool) (m:aB) (hm:bO m):Cm 316 [.agg (bd (some g) m)] (JX (cy m)):=by
 unfold cy;have b0:=hm.av;cases cF:ed m with
 | false=>
  refine Cm.fin vA fun J=>?_;rw [vB];simp (disch:=assumption) only [zF,aL,aq,cF,bG,bU,bf];rfl
 | true=>
  rw [if_pos rfl];have hl:=CV cF;have l0:=ng m.av;have l3:=fJ (kY m);have l4:=fJ m.last;refine Cm.go vA [.undef] 0 (iO g m.bits.length (rows (some g) m.bits) m.bits.length (0:Nat) g m.av.length (ints m.av) m.cf m.bB m.held m.last (cP m.av).length (bytes (cP m.av))) ?_ fun J hJ=>?_
  ·have:=WP.loop (f:=316) (fn:=Tryz.f316) (sk:=[.undef]) (j:=0) (r:=JX ((cP m.av++fx m.bits)++(db (kY m)++db m.last))) (H:=fun i:Nat=>iO g m.bits.length (rows (some g) m.bits) m.bits.length (i:Nat) g m.av.length (ints m.av) m.cf m.bB m.held m.last (cP m.av++fx (m.bits.take i)).length (bytes (cP m.av++fx (m.bits.take i)))) (n:=m.bits.length) (fun _=>True) (fun i hi _ ih=>WP.go _ (ih trivial) fun J hJ=>?_) (fun _=>WP.fin fun J=>?_) 0 (adt _) trivial
   ·simpa [fx] using this
   ·have l1:=nQ (m.bits.take i) fun x hx=>hm.bits.2 x (agN hx);have l5:(m.bits.take i).length<=3:=by simp; omega
    have l2:=ng m.bits[i];have b2:=hm.bits.2 _ (acN hi);have l6:(cP m.av++fx (m.bits.take i)).length<=30000000:=by rw [aap]; omega
    rw [rA];simp (disch:=first | omega | assumption) only [aZ,bE,cL,iH,iI,ic,iJ,JW,dq,aq,eM,aN,bt,jc,fv,gy,cY]
    rw [Gr hi,<- acz,aap (bs:=cP m.bits[i])] at hJ;exact hJ
   ·have l1:=nQ m.bits hm.bits.2;have l6:(cP m.av++fx m.bits).length<=30000000:=by rw [aap]; omega
    have l7:(db (kY m)++db m.last).length<=10:=by rw [aap]; omega
    have hf:ad.ar .add .i64 (ad.ar .add .i64 (qY m.cf 1) (qY m.bB 2)) (qY m.held 4)=kY m:=by
     unfold kY;cases m.cf<;>cases m.bB<;>cases m.held<;>rfl
    rw [rA];simp (disch:=first | omega | assumption) only [bu,ac8,ad4,bV,aq,hf,Tf,dq,eM,aN,bt,jc,fv,gy]
    simp only [JX,aap]
  ·rw [vB];simp (disch:=first | omega | assumption | rfl) only [zF,aL,aq,cF,bG,bU,aN,JW,dq,eM,bt,aF]
   exact hJ
theorem DT (g:Bool) (m:aB) (hm:bO m):Cm 282 [.agg (bd (some g) m)] (JX (cy m)):=by
 unfold cy;have b0:=hm.av;cases cF:ed m with
 | false=>
  refine Cm.fin vy fun J=>?_;rw [vz];simp (disch:=assumption) only [zE,aL,aq,cF,bG,bU,bf];rfl
 | true=>
  rw [if_pos rfl];have hl:=CV cF;have l0:=ng m.av;have l3:=fJ (kY m);have l4:=fJ m.last;have w2:∀ k i,i+k=3->WP 282 Tryz.f282 [.undef] 2 (kW (i:Nat) g m.av.length (ints m.av) g m.bits.length (rows (some g) m.bits) m.cf m.bB m.held m.last (cP m.av++fx (m.bits.take i)).length (bytes (cP m.av++fx (m.bits.take i)))) (JX ((cP m.av++fx m.bits)++(db (kY m)++db m.last))):=by
   intro k
   induction k with
   | zero=>
    intro i hi;obtain rfl:i=3:=by omega
    have l1:=nQ m.bits hm.bits.2;have l6:(cP m.av++fx m.bits).length<=30000000:=by rw [aap]; omega
    have ht:m.bits.take 3=m.bits:=by rw [<- hl,ac8]
    have hf:ad.ar .add .i64 (ad.ar .add .i64 (qY m.cf 1) (ad.ar .mul .i64 2 (qY m.bB 1))) (ad.ar .mul .i64 4 (qY m.held 1))=kY m:=by
     unfold kY;cases m.cf<;>cases m.bB<;>cases m.held<;>rfl
    refine WP.fin fun J=>?_;rw [ry,ht];simp (disch:=first | omega | assumption) only [bu,abh,bV,aq,hf,mL,dq,eM,aN,bt,jc,fv,gy]
    simp only [JX,aap,acz,adJ]
   | succ k ih=>
    intro i hi;have Q3:i < m.bits.length:=by omega
    have ih:=ih (i+1) (by omega)
    have l1:=nQ (m.bits.take i) fun x hx=>hm.bits.2 x (agN hx);have l5:(m.bits.take i).length<=3:=by simp; omega
    have b2:=hm.bits.2 _ (acN Q3);have l6:(cP m.av++fx (m.bits.take i)).length<=30000000:=by rw [aap]; omega
    have l8:=fJ (m.bits[i].length:Int);have w4:=WP.loop (f:=282) (fn:=Tryz.f282) (sk:=[.undef]) (j:=4) (r:=JX ((cP m.av++fx m.bits)++(db (kY m)++db m.last))) (H:=fun j:Nat=>kX (i:Nat) (j:Nat) g m.av.length (ints m.av) g m.bits.length (rows (some g) m.bits) m.cf m.bB m.held m.last ((cP m.av++fx (m.bits.take i))++db (m.bits[i].length:Int)++eC (m.bits[i].take j)).length (bytes ((cP m.av++fx (m.bits.take i))++db (m.bits[i].length:Int)++eC (m.bits[i].take j)))) (n:=m.bits[i].length) (fun _=>True) (fun j hj _ ih4=>WP.go _ (ih4 trivial) fun J hJ=>?_) (fun _=>WP.go _ ih fun J hJ=>?_) 0 (adt _) trivial
    ·refine WP.go _ w4 fun J hJ=>?_;rw [ry];simp (disch:=first | omega | assumption) only [aZ,bE,cL,iH,iI,ic,iJ,aF,mL,dq,aq,eM,aN,bt,jc,fv,gy]
     simp only [List.take_zero,eC,List.flatMap_nil,acg] at hJ;rw [aap (bs:=db (m.bits[i].length:Int))] at hJ;exact hJ
    ·have l9:=ko (m.bits[i].take j);have l10:(m.bits[i].take j).length<=m.bits[i].length:=by simp; omega
     have l11:=fJ m.bits[i][j];have l12:((cP m.av++fx (m.bits.take i))++db (m.bits[i].length:Int)++eC (m.bits[i].take j)).length<=60000000:=by rw [aap,aap]; omega
     rw [rz];simp (disch:=first | omega | assumption) only [aZ,bE,cL,iH,dI,dJ,iI,ic,iJ,aF,mL,dq,aq,eM,aN,bt,jc,fv,gy,cY]
     rw [wT hj,<- acz,aap (bs:=db m.bits[i][j])] at hJ;exact hJ
    ·rw [rz];simp (disch:=first | omega | assumption) only [bu,bE,cL,iH,ic,aF,aN,bt,cY,ac8]
     have e:fx (m.bits.take (i+1))=fx (m.bits.take i)++(db (m.bits[i].length:Int)++eC m.bits[i]):=Gr Q3;rw [e,<- acz,<- acz] at hJ;exact hJ
  have w0:=WP.loop (f:=282) (fn:=Tryz.f282) (sk:=[.undef]) (j:=0) (r:=JX ((cP m.av++fx m.bits)++(db (kY m)++db m.last))) (H:=fun i:Nat=>kV (i:Nat) g m.av.length (ints m.av) g m.bits.length (rows (some g) m.bits) m.cf m.bB m.held m.last (db (m.av.length:Int)++eC (m.av.take i)).length (bytes (db (m.av.length:Int)++eC (m.av.take i)))) (n:=m.av.length) (fun _=>True) (fun i hi _ ih=>WP.go _ (ih trivial) fun J hJ=>?_) (fun _=>WP.go _ (w2 3 0 rfl) fun J hJ=>?_) 0 (adt _) trivial
  ·refine Cm.go vy [.undef] 0 _ w0 fun J hJ=>?_;rw [vz];simp (disch:=first | omega | assumption | rfl) only [zE,aL,aq,cF,bG,bU,aN,mL,dq,eM,bt,aF]
   simp only [List.take_zero,eC,List.flatMap_nil,acg] at hJ;exact hJ
  ·have l9:=ko (m.av.take i);have l10:(m.av.take i).length<=m.av.length:=by simp; omega
   have l11:=fJ m.av[i];have l8:=fJ (m.av.length:Int);have l12:(db (m.av.length:Int)++eC (m.av.take i)).length<=30000000:=by rw [aap]; omega
   rw [rv];simp (disch:=first | omega | assumption) only [aZ,bE,cL,dI,dJ,aF,mL,dq,aq,eM,aN,bt,jc,fv,gy,cY]
   rw [wT hi,<- acz,aap (bs:=db m.av[i])] at hJ;exact hJ
  ·rw [rv];simp (disch:=omega) only [aF,bu,ac8];have e:cP m.av++fx (m.bits.take 0)=db (m.av.length:Int)++eC m.av:=by simp [fx,cP]
   rw [e] at hJ;exact hJ
section
variable (t:bD Rz)
theorem vC (g:Bool) (m:aB) (hm:bO m):aO 282 [.agg (bd (some g) m)] t=feed t [.sl none 1 (cy m).length (bytes (cy m))]:=bc (DT g m hm) (by kernel_rfl) t
theorem vD (g:Bool) (m:aB) (hm:bO m):aO 316 [.agg (bd (some g) m)] t=feed t [.sl none 1 (cy m).length (bytes (cy m))]:=bc (DS g m hm) (by kernel_rfl) t
end
end Go.Proofs.YtckkpgcnhdllgaaGreat
