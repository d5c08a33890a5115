/- What the proof of FnExactSource stands on, part 5: an abstract machine on plain data, its soundness, and the contracts of functions. -/
import Derived.Attr
import Derived.Test.YtockoilcnmljiaaMd
set_option linter.all false
set_option linter.unusedSimpArgs false
set_option linter.unusedVariables false
set_option linter.unnecessarySimpa false
set_option linter.unusedSectionVars false
namespace Go.Proofs.Ytockoilcnmljiaa
set_option maxRecDepth 100000
section
variable (pr:cT) (cv:Cv Rz) (J:Nat→St→Option Rz)
def kG (g0:Bool) (n1:Nat) (c2:List D) (i3:Int) (i4:Int):St:=(St.mk [(0,(.sl (some g0) 1 n1 c2)),(1,(.int .i64 i3)),(5,(.int .i64 i4))] [] [] 0)
theorem Kc:Told cfg Try.prog 70 Try.f70:=⟨by kernel_rfl,Try.func70,by kernel_rfl⟩
theorem Kd (g0:Bool) (n0:Nat) (c0:List D) (a1:Int):bc pr cv J 70 Try.f70 [(.sl (some g0) 1 n0 c0),(.int .i64 a1)]=
    (J 0 (kG g0 n0 c0 a1 0)):=by kernel_rfl
theorem oY (g0:Bool) (n1:Nat) (c2:List D) (i3:Int) (i4:Int):cA pr cv J 70 Try.f70 [.undef,.undef] 0 (kG g0 n1 c2 i3 i4)=
    (br (pr.lt i4 (pr.bu n1)) (br (pr.bT i4 n1) (br (br (pr.cL .i64 c2 (pr.idx 0 i4 1)) true false) (br (pr.eq (pr.bG c2 (pr.idx 0 i4 1)) i3) (some ((.bool true),[.undef,.undef])) (J 0 (kG g0 n1 c2 i3 (pr.ar .add .i64 i4 1)))) none) none) (some ((.bool false),[.undef,.undef]))):=by kernel_rfl
def jO (g0:Bool) (n1:Nat) (c2:List D) (g3:Bool) (n4:Nat) (c5:List D) (i6:Int):St:=(St.mk [(0,(.sl (some g0) 1 n1 c2)),(1,(.sl (some g3) 1 n4 c5)),(5,(.int .i64 i6))] [] [] 0)
theorem GP:Told cfg Try.prog 98 Try.f98:=⟨by kernel_rfl,Try.func98,by kernel_rfl⟩
theorem GQ (g0:Bool) (n0:Nat) (c0:List D) (g1:Bool) (n1:Nat) (c1:List D):bc pr cv J 98 Try.f98 [(.sl (some g0) 1 n0 c0),(.sl (some g1) 1 n1 c1)]=
    (J 0 (jO g0 n0 c0 g1 n1 c1 0)):=by kernel_rfl
theorem nI (g0:Bool) (n1:Nat) (c2:List D) (g3:Bool) (n4:Nat) (c5:List D) (i6:Int):cA pr cv J 98 Try.f98 [.undef,.undef] 0 (jO g0 n1 c2 g3 n4 c5 i6)=
    let y1:Option (D × List D):=(some ((.bool (pr.eq (pr.bu n1) (pr.bu n4))),[.undef,.undef]))
    (br (pr.lt i6 (pr.bu n1)) (br (pr.lt i6 (pr.bu n4)) (br (pr.bT i6 n1) (br (br (pr.cL .i64 c2 (pr.idx 0 i6 1)) true false) (br (pr.bT i6 n4) (br (br (pr.cL .i64 c5 (pr.idx 0 i6 1)) true false) (br (br (pr.eq (pr.bG c2 (pr.idx 0 i6 1)) (pr.bG c5 (pr.idx 0 i6 1))) false true) (some ((.bool false),[.undef,.undef])) (J 0 (jO g0 n1 c2 g3 n4 c5 (pr.ar .add .i64 i6 1)))) none) none) none) none) y1) y1):=by kernel_rfl
theorem Ke:Told cfg Try.prog 39 Try.f39:=⟨by kernel_rfl,Try.func39,by kernel_rfl⟩
theorem Kf (a0:Bool):bc pr cv J 39 Try.f39 [(.bool a0)]=
    (br a0 (some ((.int .i64 1),[.undef])) (some ((.int .i64 0),[.undef]))):=by kernel_rfl
theorem GR:Told cfg Try.prog 72 Try.f72:=⟨by kernel_rfl,Try.func72,by kernel_rfl⟩
theorem GS (a0:Int):bc pr cv J 72 Try.f72 [(.int .i64 a0)]=
    (cv 99 [(.int .i64 a0),(.int .i64 0),(.int .i64 2)] (.bool (fun ck=>(.done (some ((.bool ck),[.undef])))))):=by kernel_rfl
theorem GU:Told cfg Try.prog 116 Try.f116:=⟨by kernel_rfl,Try.func116,by kernel_rfl⟩
theorem GV (a0:Int):bc pr cv J 116 Try.f116 [(.int .i64 a0)]=
    (cv 99 [(.int .i64 a0),(.int .i64 0),(.int .i64 7)] (.bool (fun ck=>(.done (some ((.bool ck),[.undef])))))):=by kernel_rfl
theorem Es:Told cfg Try.prog 78 Try.f78:=⟨by kernel_rfl,Try.func78,by kernel_rfl⟩
theorem Et (a0:Int):bc pr cv J 78 Try.f78 [(.int .i64 a0)]=
    (cv 99 [(.int .i64 a0),(.int .i64 1),(.int .i64 200)] (.bool (fun ck=>(.done (some ((.bool ck),[.undef])))))):=by kernel_rfl
theorem K9:Told cfg Try.prog 137 Try.f137:=⟨by kernel_rfl,Try.func137,by kernel_rfl⟩
theorem Lb (a0:Bool) (a1:Int):bc pr cv J 137 Try.f137 [(.bool a0),(.int .i64 a1)]=
    (br a0 (some ((.int .i64 a1),[.undef,.undef])) (some ((.int .i64 0),[.undef,.undef]))):=by kernel_rfl
theorem Lc:Told cfg Try.prog 62 Try.f62:=⟨by kernel_rfl,Try.func62,by kernel_rfl⟩
theorem Ld (a0:Int):bc pr cv J 62 Try.f62 [(.int .i64 a0)]=
    let y1:Option (D × List D):=(some ((.int .i64 (pr.ar .sub .i64 1 a0)),[.undef]))
    (br (pr.eq a0 0) y1 (br (pr.eq a0 1) y1 (some ((.int .i64 (-1)),[.undef])))):=by kernel_rfl
theorem Le:Told cfg Try.prog 60 Try.f60:=⟨by kernel_rfl,Try.func60,by kernel_rfl⟩
theorem Lf (a0:Int):bc pr cv J 60 Try.f60 [(.int .i64 a0)]=
    (cv 64 [(.int .i64 a0),(.int .i64 0),(.int .i64 1)] (.bool (fun ck=>(.done (br ck (some ((.int .i64 (pr.ar .sub .i64 1 a0)),[.undef])) (some ((.int .i64 (-1)),[.undef]))))))):=by kernel_rfl
def jd (g0:Bool) (n1:Nat) (c2:List D) (i3:Int):St:=(St.mk [(0,(.sl (some g0) 1 n1 c2)),(3,(.int .i64 i3))] [] [] 0)
theorem Eu:Told cfg Try.prog 94 Try.f94:=⟨by kernel_rfl,Try.func94,by kernel_rfl⟩
theorem Ew (g0:Bool) (n0:Nat) (c0:List D):bc pr cv J 94 Try.f94 [(.sl (some g0) 1 n0 c0)]=
    (J 0 (jd g0 n0 c0 0)):=by kernel_rfl
theorem mT (g0:Bool) (n1:Nat) (c2:List D) (i3:Int):cA pr cv J 94 Try.f94 [.undef] 0 (jd g0 n1 c2 i3)=
    let y1:Option (D × List D):=(some ((.bool false),[.undef]))
    let y2:Option Rz:=(J 0 (jd g0 n1 c2 (pr.ar .add .i64 i3 1)))
    (br (pr.lt i3 (pr.bu n1)) (br (pr.bT i3 n1) (br (br (pr.cL .i64 c2 (pr.idx 0 i3 1)) true false) (cv 64 [(.int .i64 (pr.bG c2 (pr.idx 0 i3 1))),(.int .i64 0),(.int .i64 7)] (.bool (fun ck=>(.done (br (br ck false true) y1 (br (pr.lt 0 i3) (br (pr.bT (pr.ar .sub .i64 i3 1) n1) (br (br (pr.cL .i64 c2 (pr.idx 0 (pr.ar .sub .i64 i3 1) 1)) true false) (br (pr.bT i3 n1) (br (br (pr.cL .i64 c2 (pr.idx 0 i3 1)) true false) (br (pr.le (pr.bG c2 (pr.idx 0 i3 1)) (pr.bG c2 (pr.idx 0 (pr.ar .sub .i64 i3 1) 1))) y1 y2) none) none) none) none) y2)))))) none) none) (some ((.bool true),[.undef]))):=by kernel_rfl
def je (g0:Bool) (n1:Nat) (c2:List D) (i3:Int) (i4:Int):St:=(St.mk [(0,(.sl (some g0) 1 n1 c2)),(5,(.sl (some g0) 1 n1 c2)),(6,(.int .i64 i3)),(7,(.int .i64 i4))] [] [] 0)
theorem Ex:Told cfg Try.prog 105 Try.f105:=⟨by kernel_rfl,Try.func105,by kernel_rfl⟩
theorem Ey (g0:Bool) (n0:Nat) (c0:List D):bc pr cv J 105 Try.f105 [(.sl (some g0) 1 n0 c0)]=
    (J 0 (je g0 n0 c0 (pr.bu n0) 0)):=by kernel_rfl
theorem mU (g0:Bool) (n1:Nat) (c2:List D) (i3:Int) (i4:Int):cA pr cv J 105 Try.f105 [.undef] 0 (je g0 n1 c2 i3 i4)=
    let y1:Option (D × List D):=(some ((.bool false),[.undef]))
    let y2:Option Rz:=(J 0 (je g0 n1 c2 i3 (pr.ar .add .i64 i4 1)))
    (br (pr.lt i4 i3) (br (pr.bT i4 n1) (br (br (pr.cL .i64 c2 (pr.idx 0 i4 1)) true false) (cv 116 [(.int .i64 (pr.bG c2 (pr.idx 0 i4 1)))] (.bool (fun ck=>(.done (br (br ck false true) y1 (br (pr.lt 0 i4) (br (pr.bT (pr.ar .sub .i64 i4 1) n1) (br (br (pr.cL .i64 c2 (pr.idx 0 (pr.ar .sub .i64 i4 1) 1)) true false) (br (pr.le (pr.bG c2 (pr.idx 0 i4 1)) (pr.bG c2 (pr.idx 0 (pr.ar .sub .i64 i4 1) 1))) y1 y2) none) none) y2)))))) none) none) (some ((.bool true),[.undef]))):=by kernel_rfl
def jP (g0:Bool) (n1:Nat) (c2:List D) (i3:Int):St:=(St.mk [(0,(.sl (some g0) 1 n1 c2)),(3,(.int .i64 i3))] [] [] 0)
theorem GW:Told cfg Try.prog 95 Try.f95:=⟨by kernel_rfl,Try.func95,by kernel_rfl⟩
theorem GX (g0:Bool) (n0:Nat) (c0:List D):bc pr cv J 95 Try.f95 [(.sl (some g0) 1 n0 c0)]=
    (J 0 (jP g0 n0 c0 0)):=by kernel_rfl
theorem nJ (g0:Bool) (n1:Nat) (c2:List D) (i3:Int):cA pr cv J 95 Try.f95 [.undef] 0 (jP g0 n1 c2 i3)=
    let y1:Option (D × List D):=(some ((.bool false),[.undef]))
    (br (pr.lt i3 (pr.bu n1)) (br (pr.bT i3 n1) (br (br (pr.cL .i64 c2 (pr.idx 0 i3 1)) true false) (cv 64 [(.int .i64 (pr.bG c2 (pr.idx 0 i3 1))),(.int .i64 1),(.int .i64 100000)] (.bool (fun ck=>(.done (br (br ck false true) y1 (br (pr.yu 0 i3 n1) (br (pr.bT i3 n1) (br (br (pr.cL .i64 c2 (pr.idx 0 i3 1)) true false) (cv 70 [(.sl (some g0) 1 (pr.ri i3 0) (List.take (Nat.mul (pr.ri i3 0) 1) (List.drop (Nat.mul (pr.jr 0) 1) c2))),(.int .i64 (pr.bG c2 (pr.idx 0 i3 1)))] (.bool (fun gj=>(.done (br gj y1 (J 0 (jP g0 n1 c2 (pr.ar .add .i64 i3 1)))))))) none) none) none)))))) none) none) (some ((.bool (pr.le (pr.bu n1) 12)),[.undef]))):=by kernel_rfl
def jQ (g0:Bool) (n1:Nat) (c2:List D) (i3:Int) (i4:Int):St:=(St.mk [(0,(.sl (some g0) 1 n1 c2)),(5,(.sl (some g0) 1 n1 c2)),(6,(.int .i64 i3)),(7,(.int .i64 i4))] [] [] 0)
theorem GY:Told cfg Try.prog 102 Try.f102:=⟨by kernel_rfl,Try.func102,by kernel_rfl⟩
theorem GZ (g0:Bool) (n0:Nat) (c0:List D):bc pr cv J 102 Try.f102 [(.sl (some g0) 1 n0 c0)]=
    (J 0 (jQ g0 n0 c0 (pr.bu n0) 0)):=by kernel_rfl
theorem nK (g0:Bool) (n1:Nat) (c2:List D) (i3:Int) (i4:Int):cA pr cv J 102 Try.f102 [.undef] 0 (jQ g0 n1 c2 i3 i4)=
    let y1:Option (D × List D):=(some ((.bool false),[.undef]))
    (br (pr.lt i4 i3) (br (pr.bT i4 n1) (br (br (pr.cL .i64 c2 (pr.idx 0 i4 1)) true false) (cv 99 [(.int .i64 (pr.bG c2 (pr.idx 0 i4 1))),(.int .i64 1),(.int .i64 100000)] (.bool (fun ck=>(.done (br (br ck false true) y1 (br (pr.yu 0 i4 n1) (cv 79 [(.sl (some g0) 1 (pr.ri i4 0) (List.take (Nat.mul (pr.ri i4 0) 1) (List.drop (Nat.mul (pr.jr 0) 1) c2))),(.int .i64 (pr.bG c2 (pr.idx 0 i4 1)))] (.bool (fun gj=>(.done (br gj y1 (J 0 (jQ g0 n1 c2 i3 (pr.ar .add .i64 i4 1)))))))) none)))))) none) none) (some ((.bool (pr.le (pr.bu n1) 12)),[.undef]))):=by kernel_rfl
def jf (g0:Bool) (n1:Nat) (c2:List D) (i3:Int):St:=(St.mk [(0,(.sl (some g0) 1 n1 c2)),(3,(.int .i64 i3))] [] [] 0)
theorem Ez:Told cfg Try.prog 65 Try.f65:=⟨by kernel_rfl,Try.func65,by kernel_rfl⟩
theorem EA (g0:Bool) (n0:Nat) (c0:List D):bc pr cv J 65 Try.f65 [(.sl (some g0) 1 n0 c0)]=
    (J 0 (jf g0 n0 c0 0)):=by kernel_rfl
theorem mV (g0:Bool) (n1:Nat) (c2:List D) (i3:Int):cA pr cv J 65 Try.f65 [.undef] 0 (jf g0 n1 c2 i3)=
    (br (pr.lt i3 (pr.bu n1)) (br (pr.bT i3 n1) (br (br (pr.cL .i64 c2 (pr.idx 0 i3 1)) true false) (cv 64 [(.int .i64 (pr.bG c2 (pr.idx 0 i3 1))),(.int .i64 0),(.int .i64 200)] (.bool (fun ck=>(.done (br (br ck false true) (some ((.bool false),[.undef])) (J 0 (jf g0 n1 c2 (pr.ar .add .i64 i3 1)))))))) none) none) (some ((.bool (pr.eq (pr.bu n1) 8)),[.undef]))):=by kernel_rfl
theorem tq:Told cfg Try.prog 79 Try.f79:=⟨by kernel_rfl,Try.func79,by kernel_rfl⟩
theorem tt (g0:Bool) (n0:Nat) (c0:List D) (a1:Int):bc pr cv J 79 Try.f79 [(.sl (some g0) 1 n0 c0),(.int .i64 a1)]=
    (cv 109 [(.sl (some g0) 1 n0 c0),(.int .i64 a1)] (.int (fun ga=>(.done (some ((.bool (pr.le 0 ga)),[.undef,.undef])))))):=by kernel_rfl
def fg (g0:Bool) (n1:Nat) (c2:List D) (i3:Int) (i4:Int) (i5:Int):St:=(St.mk [(0,(.sl (some g0) 1 n1 c2)),(1,(.int .i64 i3)),(7,(.int .i64 i4)),(8,(.int .i64 i5))] [] [] 0)
theorem vt:Told cfg Try.prog 109 Try.f109:=⟨by kernel_rfl,Try.func109,by kernel_rfl⟩
theorem vu (g0:Bool) (n0:Nat) (c0:List D) (a1:Int):bc pr cv J 109 Try.f109 [(.sl (some g0) 1 n0 c0),(.int .i64 a1)]=
    (J 0 (fg g0 n0 c0 a1 (pr.bu n0) 0)):=by kernel_rfl
theorem jg (g0:Bool) (n1:Nat) (c2:List D) (i3:Int) (i4:Int) (i5:Int):cA pr cv J 109 Try.f109 [.undef,.undef] 0 (fg g0 n1 c2 i3 i4 i5)=
    (br (pr.lt i5 i4) (br (pr.bT i5 n1) (br (br (pr.cL .i64 c2 (pr.idx 0 i5 1)) true false) (br (pr.eq i3 (pr.bG c2 (pr.idx 0 i5 1))) (some ((.int .i64 i5),[.undef,.undef])) (J 0 (fg g0 n1 c2 i3 i4 (pr.ar .add .i64 i5 1)))) none) none) (some ((.int .i64 (-1)),[.undef,.undef]))):=by kernel_rfl
def fh (g0:Bool) (n1:Nat) (c2:List D) (g3:Bool) (n4:Nat) (c5:List D) (i6:Int) (i7:Int):St:=(St.mk [(0,(.sl (some g0) 1 n1 c2)),(1,(.sl (some g3) 1 n4 c5)),(12,(.int .i64 i6)),(13,(.int .i64 i7))] [] [] 0)
theorem om:Told cfg Try.prog 107 Try.f107:=⟨by kernel_rfl,Try.func107,by kernel_rfl⟩
theorem oo (g0:Bool) (n0:Nat) (c0:List D) (g1:Bool) (n1:Nat) (c1:List D):bc pr cv J 107 Try.f107 [(.sl (some g0) 1 n0 c0),(.sl (some g1) 1 n1 c1)]=
    (br (br (pr.eq (pr.bu n0) (pr.bu n1)) false true) (some ((.bool false),[.undef,.undef])) (J 0 (fh g0 n0 c0 g1 n1 c1 (pr.bu n0) 0))):=by kernel_rfl
theorem jh (g0:Bool) (n1:Nat) (c2:List D) (g3:Bool) (n4:Nat) (c5:List D) (i6:Int) (i7:Int):cA pr cv J 107 Try.f107 [.undef,.undef] 0 (fh g0 n1 c2 g3 n4 c5 i6 i7)=
    (br (pr.lt i7 i6) (br (pr.bT i7 n1) (br (br (pr.cL .i64 c2 (pr.idx 0 i7 1)) true false) (br (pr.bT i7 n4) (br (br (pr.cL .i64 c5 (pr.idx 0 i7 1)) true false) (br (br (pr.eq (pr.bG c2 (pr.idx 0 i7 1)) (pr.bG c5 (pr.idx 0 i7 1))) false true) (some ((.bool false),[.undef,.undef])) (J 0 (fh g0 n1 c2 g3 n4 c5 i6 (pr.ar .add .i64 i7 1)))) none) none) none) none) (some ((.bool true),[.undef,.undef]))):=by kernel_rfl
theorem G0:Told cfg Try.prog 126 Try.f126:=⟨by kernel_rfl,Try.func126,by kernel_rfl⟩
theorem G1 (g0:Bool) (n0:Nat) (c0:List D) (g1:Bool) (n1:Nat) (c1:List D):bc pr cv J 126 Try.f126 [(.sl (some g0) 1 n0 c0),(.sl (some g1) 1 n1 c1)]=
    (br (pr.pV c0) (br (pr.pV c1) (some ((.bool (pr.seq (pr.yv c0) (pr.yv c1))),[.undef,.undef])) none) none):=by kernel_rfl
theorem Bw:Told cfg Try.prog 101 Try.f101:=⟨by kernel_rfl,Try.func101,by kernel_rfl⟩
theorem Bx (a0:Int):bc pr cv J 101 Try.f101 [(.int .i64 a0)]=
    (cv 99 [(.int .i64 a0),(.int .i64 0),(.int .i64 200)] (.bool (fun ck=>(.done (some ((.bool (br ck false true)),[.undef])))))):=by kernel_rfl
theorem z8:Told cfg Try.prog 104 Try.f104:=⟨by kernel_rfl,Try.func104,by kernel_rfl⟩
theorem Aa (g0:Bool) (n0:Nat) (c0:List D):bc pr cv J 104 Try.f104 [(.sl (some g0) 1 n0 c0)]=
    (cv 105 [(.sl (some g0) 1 n0 c0)] (.bool (fun ck=>(.done (some ((.bool (br ck false true)),[.undef])))))):=by kernel_rfl
theorem C9:Told cfg Try.prog 75 Try.f75:=⟨by kernel_rfl,Try.func75,by kernel_rfl⟩
theorem Da (g0:Bool) (n0:Nat) (c0:List D):bc pr cv J 75 Try.f75 [(.sl (some g0) 1 n0 c0)]=
    (br (pr.eq (pr.bu n0) 3) (cv 103 [(.sl (some g0) 1 n0 c0),(.fn 104 [])] (.bool (fun ck=>(.done (some ((.bool (br ck false true)),[.undef])))))) (some ((.bool false),[.undef]))):=by kernel_rfl
theorem EB:Told cfg Try.prog 73 Try.f73:=⟨by kernel_rfl,Try.func73,by kernel_rfl⟩
theorem EC (g0:Bool) (n0:Nat) (c0:List D):bc pr cv J 73 Try.f73 [(.sl (some g0) 1 n0 c0)]=
    (br (pr.eq (pr.bu n0) 8) (cv 100 [(.sl (some g0) 1 n0 c0),(.fn 101 [])] (.bool (fun ck=>(.done (some ((.bool (br ck false true)),[.undef])))))) (some ((.bool false),[.undef]))):=by kernel_rfl
theorem nn:Told cfg Try.prog 100 Try.f100:=⟨by kernel_rfl,Try.func100,by kernel_rfl⟩
theorem np (g0:Bool) (n0:Nat) (c0:List D):bc pr cv J 100 Try.f100 [(.sl (some g0) 1 n0 c0),(.fn 101 [])]=
    (cv 114 [(.sl (some g0) 1 n0 c0),(.fn 101 [])] (.int (fun ga=>(.done (some ((.bool (pr.le 0 ga)),[.undef,.undef])))))):=by kernel_rfl
def dL (g0:Bool) (n1:Nat) (c2:List D) (i3:Int) (i4:Int):St:=(St.mk [(0,(.sl (some g0) 1 n1 c2)),(1,(.fn 101 [])),(7,(.int .i64 i3)),(8,(.int .i64 i4))] [] [] 0)
theorem oZ:Told cfg Try.prog 114 Try.f114:=⟨by kernel_rfl,Try.func114,by kernel_rfl⟩
theorem o0 (g0:Bool) (n0:Nat) (c0:List D):bc pr cv J 114 Try.f114 [(.sl (some g0) 1 n0 c0),(.fn 101 [])]=
    (J 0 (dL g0 n0 c0 (pr.bu n0) 0)):=by kernel_rfl
theorem fB (g0:Bool) (n1:Nat) (c2:List D) (i3:Int) (i4:Int):cA pr cv J 114 Try.f114 [.undef,.undef] 0 (dL g0 n1 c2 i3 i4)=
    (br (pr.lt i4 i3) (br (pr.bT i4 n1) (br (br (pr.cL .i64 c2 (pr.idx 0 i4 1)) true false) (cv 101 [(.int .i64 (pr.bG c2 (pr.idx 0 i4 1)))] (.bool (fun ck=>(.done (br ck (some ((.int .i64 i4),[.undef,.undef])) (J 0 (dL g0 n1 c2 i3 (pr.ar .add .i64 i4 1)))))))) none) none) (some ((.int .i64 (-1)),[.undef,.undef]))):=by kernel_rfl
theorem nq:Told cfg Try.prog 103 Try.f103:=⟨by kernel_rfl,Try.func103,by kernel_rfl⟩
theorem nr (g0:Bool) (n0:Nat) (c0:List D):bc pr cv J 103 Try.f103 [(.sl (some g0) 1 n0 c0),(.fn 104 [])]=
    (cv 115 [(.sl (some g0) 1 n0 c0),(.fn 104 [])] (.int (fun ga=>(.done (some ((.bool (pr.le 0 ga)),[.undef,.undef])))))):=by kernel_rfl
def dM (g0:Bool) (n1:Nat) (c2:List D) (i3:Int) (i4:Int):St:=(St.mk [(0,(.sl (some g0) 1 n1 c2)),(1,(.fn 104 [])),(7,(.int .i64 i3)),(8,(.int .i64 i4))] [] [] 0)
theorem o3:Told cfg Try.prog 115 Try.f115:=⟨by kernel_rfl,Try.func115,by kernel_rfl⟩
theorem o4 (g0:Bool) (n0:Nat) (c0:List D):bc pr cv J 115 Try.f115 [(.sl (some g0) 1 n0 c0),(.fn 104 [])]=
    (J 0 (dM g0 n0 c0 (pr.bu n0) 0)):=by kernel_rfl
theorem fC (g0:Bool) (n1:Nat) (c2:List D) (i3:Int) (i4:Int):cA pr cv J 115 Try.f115 [.undef,.undef] 0 (dM g0 n1 c2 i3 i4)=
    (br (pr.lt i4 i3) (br (pr.bT i4 n1) (br (br (pr.dq 1 c2 (pr.idx 0 i4 1)) true false) (cv 104 [(.sl (some (pr.cJ c2 (pr.idx 0 i4 1))) 1 (pr.cg c2 (pr.idx 0 i4 1)) (pr.cq c2 (pr.idx 0 i4 1)))] (.bool (fun ck=>(.done (br ck (some ((.int .i64 i4),[.undef,.undef])) (J 0 (dM g0 n1 c2 i3 (pr.ar .add .i64 i4 1)))))))) none) none) (some ((.int .i64 (-1)),[.undef,.undef]))):=by kernel_rfl
end
theorem WP.scan {f:FuncId} {fn:Func} {sk:List D} {j:Nat} {H:Nat→St} {n:Nat} (p:Nat→Bool) {bad wu:Rz} (Cx:∀ i r,i < n→p i=true→WP f fn sk j (H (i+1)) r→WP f fn sk j (H i) r) (S9:∀ i,i < n→p i=false→WP f fn sk j (H i) bad) (Ta:WP f fn sk j (H n) wu):WP f fn sk j (H 0) (if (List.range n).all p then wu else bad):=by
  have key:∀ k i,i+k=n→WP f fn sk j (H i) (if ((List.range n).drop i).all p then wu else bad):=by
    intro k
    induction k with
    | zero=>
      intro i hi
      obtain rfl:i=n:=by omega
      rw [List.drop_of_length_le (by simp)]
      exact Ta
    | succ k ih=>
      intro i hi
      have cR:i < (List.range n).length:=by simp; omega
      have e:((List.range n).drop i).all p=(p i&&((List.range n).drop (i+1)).all p):=by
        rw [← List.getElem_cons_drop cR]
        simp
      rw [e]
      cases hp:p i with
      | true=>
        rw [Bool.true_and]
        exact Cx i _ (by omega) hp (ih (i+1) (by omega))
      | false=>
        rw [Bool.false_and]
        exact S9 i (by omega) hp
  exact key n 0 (by omega)
theorem bC {α:Type} {l:List α} {i:Nat} (h:i < l.length) {d:α}:l.getD i d=l[i]:=by simp [List.getD_eq_getElem?_getD,h]
theorem Tb {α:Type} (p:α→Bool) (d:α) (xs:List α):((List.range xs.length).all fun i=>p (xs.getD i d))=xs.all p:=by
  rw [Bool.eq_iff_iff,List.all_eq_true,List.all_eq_true]
  constructor
  · intro h x hx
    obtain ⟨i,hi,rfl⟩:=List.mem_iff_getElem.1 hx
    have:=h i (List.mem_range.2 hi)
    rwa [bC hi] at this
  · intro h i hi
    rw [bC (List.mem_range.1 hi)]
    exact h _ (List.getElem_mem _)
def Rz.bool (b:Bool) (k:Nat):Rz:=(.bool b,List.replicate k .undef)
theorem Mm (g:Bool) (xs:List Int) (a:Int) (hb:xs.length < 4611686018427387904):Cm 70 [.sl (some g) 1 xs.length (ints xs),.int .i64 a] (.bool (decide (a∈xs)),[.undef,.undef]):=by
  have e0:(Rz.bool (decide (a∈xs)) 2)=(if (List.range xs.length).all fun i=>!(xs.getD i 0==a) then Rz.bool false 2 else Rz.bool true 2):=by
    rw [Tb (fun x=>!(x==a))]
    by_cases h:a∈xs
    · have:(xs.all fun x=>!(x==a))=false:=by
        rw [List.all_eq_false]
        exact ⟨a,h,by simp⟩
      simp [this,h]
    · have:(xs.all fun x=>!(x==a))=true:=by
        rw [List.all_eq_true]
        intro x hx
        have:x≠a:=fun e=>h (e▸hx)
        simp [this]
      simp [this,h]
  show Cm _ _ (Rz.bool (decide (a∈xs)) 2)
  rw [e0]
  refine Cm.go Kc [.undef,.undef] 0 (kG g xs.length (ints xs) a (0:Nat)) ?_ fun J hJ=>?_
  · refine WP.scan (H:=fun i:Nat=>kG g xs.length (ints xs) a (i:Nat)) _ (fun i r hi hp ih=>WP.go _ ih fun J hJ=>?_) (fun i hi hp=>WP.fin fun J=>?_) (WP.fin fun J=>?_)
    · rw [oY]
      rw [bC hi] at hp
      have cK:xs[i]≠a:=by simpa using hp
      simp (disch:=first | omega | assumption) only [aJ,bg,bf,aD,aW,bE,cM,dC,dD,dW,dw]
      exact hJ
    · rw [oY]
      rw [bC hi] at hp
      have he:xs[i]=a:=by simpa using hp
      simp (disch:=first | omega | assumption) only [aJ,bg,bf,aD,aW,bE,cM,dC,dD,fH]
      rfl
    · rw [oY]
      simp (disch:=omega) only [aD,bB]
      rfl
  · rw [Kd]
    exact hJ
def ED (xs:List Int) (a:Int):Int:=if a∈xs then (xs.idxOf a:Int) else -1
theorem Wn (g:Bool) (xs:List Int) (a:Int) (hb:xs.length < 4611686018427387904):Cm 109 [.sl (some g) 1 xs.length (ints xs),.int .i64 a] (.int .i64 (ED xs a),[.undef,.undef]):=by
  refine Cm.go vt [.undef,.undef] 0 (fg g xs.length (ints xs) a xs.length (0:Nat)) ?_ fun J hJ=>?_
  · refine WP.loop (H:=fun i:Nat=>fg g xs.length (ints xs) a xs.length (i:Nat)) (n:=xs.length) (fun i=>a∉xs.take i) (fun i hi hv ih=>?_) (fun hv=>WP.fin fun J=>?_) 0 (Nat.zero_le _) (by simp)
    · by_cases he:a=xs[i]
      · refine WP.fin fun J=>?_
        rw [jg]
        have hm:a∈xs:=he▸List.getElem_mem hi
        have hix:xs.idxOf a=i:=by
          have e1:xs=xs.take i++xs[i]::xs.drop (i+1):=by rw [List.getElem_cons_drop hi,List.take_append_drop]
          rw [e1,List.idxOf_append,if_neg hv,he,List.idxOf_cons_self,List.length_take]
          omega
        unfold ED
        rw [if_pos hm,hix]
        simp (disch:=first | omega | assumption) only [aJ,bg,bf,aW,bE,cM,dC,dD,fH]
      · refine WP.go _ (ih (by
          rw [← List.take_append_getElem hi]
          simp only [List.mem_append,List.mem_singleton,not_or]
          exact ⟨hv,he⟩)) fun J hJ=>?_
        rw [jg]
        simp (disch:=first | omega | assumption) only [aJ,bg,bf,aW,bE,cM,dC,dD,dW,dw]
        exact hJ
    · rw [jg]
      rw [List.take_length] at hv
      unfold ED
      rw [if_neg hv]
      simp (disch:=omega) only [bB]
  · rw [vu]
    exact hJ
theorem Db (g:Bool) (xs:List Int) (a:Int) (hb:xs.length < 4611686018427387904):Cm 79 [.sl (some g) 1 xs.length (ints xs),.int .i64 a] (.bool (decide (a∈xs)),[.undef,.undef]):=by
  refine Cm.fin tq fun J=>?_
  rw [tt]
  have:=bF (Wn g xs a hb) (by kernel_rfl)
  simp only [this,aq,wv]
  have e:decide (0≤ED xs a)=decide (a∈xs):=by
    unfold ED
    by_cases h:a∈xs<;>simp [h]
  show some (D.bool (decide (0≤ED xs a)),_)=_
  rw [e]
section
variable (t:bJ Rz)
theorem Mn (g:Bool) (xs:List Int) (a:Int) (n:Nat) (hn:n=xs.length) (hb:xs.length < 4611686018427387904):aY 70 [.sl (some g) 1 n (ints xs),.int .i64 a] t=feed t [.bool (decide (a∈xs))]:=by subst hn; exact bF (Mm g xs a hb) (by kernel_rfl) t
theorem Dc (g:Bool) (xs:List Int) (a:Int) (n:Nat) (hn:n=xs.length) (hb:xs.length < 4611686018427387904):aY 79 [.sl (some g) 1 n (ints xs),.int .i64 a] t=feed t [.bool (decide (a∈xs))]:=by subst hn; exact bF (Db g xs a hb) (by kernel_rfl) t
end
theorem Tc (a:Int):Cm 72 [.int .i64 a] (.bool (decide (0≤a∧a≤2)),[.undef]):=by
  refine Cm.fin GR fun J=>?_
  rw [GS]
  simp only [gQ,aC,aq]
theorem Kg (a:Int):Cm 116 [.int .i64 a] (.bool (decide (0≤a∧a≤7)),[.undef]):=by
  refine Cm.fin GU fun J=>?_
  rw [GV]
  simp only [gQ,aC,aq]
theorem Qz (a:Int):Cm 78 [.int .i64 a] (.bool (decide (1≤a∧a≤200)),[.undef]):=by
  refine Cm.fin Es fun J=>?_
  rw [Et]
  simp only [gQ,aC,aq]
def kn (a:Int):Int:=if a=0∨a=1 then 1 - a else -1
theorem Lg (a:Int):Cm 62 [.int .i64 a] (.int .i64 (kn a),[.undef]):=by
  refine Cm.fin Lc fun J=>?_
  rw [Ld]
  unfold kn
  by_cases h0:a=0
  · subst h0; rfl
  · by_cases h1:a=1
    · subst h1; rfl
    · rw [if_neg (by omega)]
      simp (disch:=omega) only [dW]
section
variable (t:bJ Rz)
theorem wB (a:Int):aY 116 [.int .i64 a] t=feed t [.bool (decide (0≤a∧a≤7))]:=bF (Kg a) (by kernel_rfl) t
end
theorem Lh (a:Int):Cm 60 [.int .i64 a] (.int .i64 (kn a),[.undef]):=by
  refine Cm.fin Le fun J=>?_
  rw [Lf]
  simp only [jL,aC,aq]
  unfold kn
  by_cases h0:a=0
  · subst h0; rfl
  · by_cases h1:a=1
    · subst h1; rfl
    · rw [if_neg (by omega),decide_eq_false (by omega)]
      rfl
def tu (xs:List Int) (i:Nat):Bool:=decide (0≤xs.getD i 0∧xs.getD i 0≤7)&&(decide (i=0)||decide (xs.getD (i - 1) 0 < xs.getD i 0))
def fq (xs:List Int):Bool:=(List.range xs.length).all (tu xs)
theorem vv {b:Bool} {outs:List D}:(if b=true then ((D.bool true,outs):Rz) else (D.bool false,outs))=(D.bool b,outs):=by cases b<;>rfl
theorem vw (g:Bool) (xs:List Int) (hb:xs.length < 4611686018427387904):Cm 94 [.sl (some g) 1 xs.length (ints xs)] (.bool (fq xs),[.undef]):=by
  rw [← vv]
  refine Cm.go Eu [.undef] 0 (jd g xs.length (ints xs) (0:Nat)) ?_ fun J hJ=>?_
  · refine WP.scan (H:=fun i:Nat=>jd g xs.length (ints xs) (i:Nat)) (tu xs) (fun i r hi hp ih=>WP.go _ ih fun J hJ=>?_) (fun i hi hp=>WP.fin fun J=>?_) (WP.fin fun J=>?_)
    · rw [mT]
      unfold tu at hp
      rw [bC hi] at hp
      simp only [Bool.and_eq_true,decide_eq_true_eq,Bool.or_eq_true] at hp
      by_cases h0:i=0
      · subst h0
        simp (disch:=first | omega | assumption) only [aJ,bg,bf,bt,bM,aD,aW,bB,bE,cM,dC,dD,jL,aC,aq,decide_eq_true hp.1,dw]
        exact hJ
      · obtain ⟨k,rfl⟩:∃ k,i=k+1:=⟨i - 1,by omega⟩
        have hk:k < xs.length:=by omega
        have e1:((k+1:Nat):Int) - 1=(k:Int):=by omega
        have LH:xs[k] < xs[k+1]:=by
          have:=hp.2.resolve_left h0
          rwa [Nat.add_sub_cancel,bC hk] at this
        simp (disch:=first | omega | assumption) only [aJ,bg,bf,bt,bM,aD,aW,bE,cM,dC,dD,jL,aC,aq,decide_eq_true hp.1,kX,e1,nh,dw]
        exact hJ
    · rw [mT]
      unfold tu at hp
      rw [bC hi] at hp
      by_cases hc:0≤xs[i]∧xs[i]≤7
      · rw [decide_eq_true hc,Bool.true_and,Bool.or_eq_false_iff,decide_eq_false_iff_not,decide_eq_false_iff_not] at hp
        obtain ⟨k,rfl⟩:∃ k,i=k+1:=⟨i - 1,by omega⟩
        have hk:k < xs.length:=by omega
        have e1:((k+1:Nat):Int) - 1=(k:Int):=by omega
        have LH:xs[k+1]≤xs[k]:=by
          have:=hp.2
          rw [Nat.add_sub_cancel,bC hk] at this
          omega
        simp (disch:=first | omega | assumption) only [aJ,bg,bf,bt,bM,aD,aW,bE,cM,dC,dD,jL,aC,aq,decide_eq_true hc,kX,e1,zR]
      · simp (disch:=first | omega | assumption) only [aJ,bg,bf,bt,bM,aD,aW,bE,cM,dC,dD,jL,aC,aq,decide_eq_false hc]
    · rw [mT]
      simp (disch:=omega) only [aD,bB]
  · rw [Ew]
    exact hJ
theorem vx (g:Bool) (xs:List Int) (hb:xs.length < 4611686018427387904):Cm 105 [.sl (some g) 1 xs.length (ints xs)] (.bool (fq xs),[.undef]):=by
  rw [← vv]
  refine Cm.go Ex [.undef] 0 (je g xs.length (ints xs) xs.length (0:Nat)) ?_ fun J hJ=>?_
  · refine WP.scan (H:=fun i:Nat=>je g xs.length (ints xs) xs.length (i:Nat)) (tu xs) (fun i r hi hp ih=>WP.go _ ih fun J hJ=>?_) (fun i hi hp=>WP.fin fun J=>?_) (WP.fin fun J=>?_)
    · rw [mU]
      unfold tu at hp
      rw [bC hi] at hp
      simp only [Bool.and_eq_true,decide_eq_true_eq,Bool.or_eq_true] at hp
      by_cases h0:i=0
      · subst h0
        simp (disch:=first | omega | assumption) only [aJ,bg,bf,bt,bM,aD,aW,bB,bE,cM,dC,dD,wB,aC,aq,decide_eq_true hp.1,dw]
        exact hJ
      · obtain ⟨k,rfl⟩:∃ k,i=k+1:=⟨i - 1,by omega⟩
        have hk:k < xs.length:=by omega
        have e1:((k+1:Nat):Int) - 1=(k:Int):=by omega
        have LH:xs[k] < xs[k+1]:=by
          have:=hp.2.resolve_left h0
          rwa [Nat.add_sub_cancel,bC hk] at this
        simp (disch:=first | omega | assumption) only [aJ,bg,bf,bt,bM,aD,aW,bE,cM,dC,dD,wB,aC,aq,decide_eq_true hp.1,kX,e1,nh,dw]
        exact hJ
    · rw [mU]
      unfold tu at hp
      rw [bC hi] at hp
      by_cases hc:0≤xs[i]∧xs[i]≤7
      · rw [decide_eq_true hc,Bool.true_and,Bool.or_eq_false_iff,decide_eq_false_iff_not,decide_eq_false_iff_not] at hp
        obtain ⟨k,rfl⟩:∃ k,i=k+1:=⟨i - 1,by omega⟩
        have hk:k < xs.length:=by omega
        have e1:((k+1:Nat):Int) - 1=(k:Int):=by omega
        have LH:xs[k+1]≤xs[k]:=by
          have:=hp.2
          rw [Nat.add_sub_cancel,bC hk] at this
          omega
        simp (disch:=first | omega | assumption) only [aJ,bg,bf,bt,bM,aD,aW,bE,cM,dC,dD,wB,aC,aq,decide_eq_true hc,kX,e1,zR]
      · simp (disch:=first | omega | assumption) only [aJ,bg,bf,bt,bM,aD,aW,bE,cM,dC,dD,wB,aC,aq,decide_eq_false hc]
    · rw [mU]
      simp (disch:=omega) only [bB]
  · rw [Ey]
    exact hJ
end Go.Proofs.Ytockoilcnmljiaa
namespace Go.Proofs.Ytockoilcnmljiaa
set_option maxRecDepth 100000
section
variable (pr:cT) (cv:Cv Rz) (J:Nat→St→Option Rz)
def jR (i0:Int) (g1:Bool) (n2:Nat) (c3:List D) (g4:Bool) (n5:Nat) (c6:List D) (b7:Bool) (b8:Bool) (b9:Bool) (i10:Int):St:=(St.mk [(1,(.ptr 1 [] 0)),(3,(.int .i64 i0))] [(1,[(.sl (some g1) 1 n2 c3),(.sl (some g4) 1 n5 c6),(.bool b7),(.bool b8),(.bool b9),(.int .i64 i10)])] [] 0)
theorem G2:Told cfg Try.prog 66 Try.f66:=⟨by kernel_rfl,Try.func66,by kernel_rfl⟩
theorem G3 (g0:Bool) (n0:Nat) (c0:List D) (g1:Bool) (n1:Nat) (c1:List D) (a2:Bool) (a3:Bool) (a4:Bool) (a5:Int):bc pr cv J 66 Try.f66 [(.agg [(.sl (some g0) 1 n0 c0),(.sl (some g1) 1 n1 c1),(.bool a2),(.bool a3),(.bool a4),(.int .i64 a5)])]=
    (J 0 (jR 0 g0 n0 c0 g1 n1 c1 a2 a3 a4 a5)):=by kernel_rfl
theorem nL (i0:Int) (g1:Bool) (n2:Nat) (c3:List D) (g4:Bool) (n5:Nat) (c6:List D) (b7:Bool) (b8:Bool) (b9:Bool) (i10:Int):cA pr cv J 66 Try.f66 [.undef] 0 (jR i0 g1 n2 c3 g4 n5 c6 b7 b8 b9 i10)=
    let y1:Option (D × List D):=(some ((.bool false),[.undef]))
    (br (pr.lt i0 (pr.bu n5)) (br (pr.bT i0 n5) (br (br (pr.dq 1 c6 (pr.idx 0 i0 1)) true false) (cv 94 [(.sl (some (pr.cJ c6 (pr.idx 0 i0 1))) 1 (pr.cg c6 (pr.idx 0 i0 1)) (pr.cq c6 (pr.idx 0 i0 1)))] (.bool (fun ck=>(.done (br (br ck false true) y1 (J 0 (jR (pr.ar .add .i64 i0 1) g1 n2 c3 g4 n5 c6 b7 b8 b9 i10))))))) none) none) (cv 95 [(.sl (some g1) 1 n2 c3)] (.bool (fun gj=>(.done (br gj (br (pr.lt 0 (pr.bu n2)) (br (pr.eq (pr.bu n5) 3) (cv 64 [(.int .i64 i10),(.int .i64 0),(.int .i64 200)] (.bool (fun ia=>(.done (br ia (br b8 (some ((.bool (br b9 false true)),[.undef])) (some ((.bool true),[.undef]))) y1))))) y1) y1) y1)))))):=by kernel_rfl
theorem G4:Told cfg Try.prog 74 Try.f74:=⟨by kernel_rfl,Try.func74,by kernel_rfl⟩
theorem G5 (g0:Bool) (n0:Nat) (c0:List D) (g1:Bool) (n1:Nat) (c1:List D) (a2:Bool) (a3:Bool) (a4:Bool) (a5:Int):bc pr cv J 74 Try.f74 [(.agg [(.sl (some g0) 1 n0 c0),(.sl (some g1) 1 n1 c1),(.bool a2),(.bool a3),(.bool a4),(.int .i64 a5)])]=
    let y1:Option (D × List D):=(some ((.bool false),[.undef]))
    (cv 102 [(.sl (some g0) 1 n0 c0)] (.bool (fun ck=>(.done (br ck (br (pr.lt 0 (pr.bu n0)) (cv 75 [(.sl (some g1) 1 n1 c1)] (.bool (fun gj=>(.done (br gj (cv 99 [(.int .i64 a5),(.int .i64 0),(.int .i64 200)] (.bool (fun ia=>(.done (br ia (br a3 (some ((.bool (br a4 false true)),[.undef])) (some ((.bool true),[.undef]))) y1))))) y1))))) y1) y1))))):=by kernel_rfl
def iC (i0:Int) (g1:Bool) (n2:Nat) (c3:List D) (g4:Bool) (n5:Nat) (c6:List D) (b7:Bool) (b8:Bool) (b9:Bool) (i10:Int) (g11:Bool) (gv:Nat) (gV:List D) (g14:Bool) (pk:Nat) (w5:List D) (pn:Bool) (Mo:Bool) (Mp:Bool) (i20:Int):St:=(St.mk [(2,(.ptr 2 [] 0)),(3,(.ptr 3 [] 0)),(5,(.int .i64 i0))] [(2,[(.sl (some g1) 1 n2 c3),(.sl (some g4) 1 n5 c6),(.bool b7),(.bool b8),(.bool b9),(.int .i64 i10)]),(3,[(.sl (some g11) 1 gv gV),(.sl (some g14) 1 pk w5),(.bool pn),(.bool Mo),(.bool Mp),(.int .i64 i20)])] [] 0)
theorem uA:Told cfg Try.prog 69 Try.f69:=⟨by kernel_rfl,Try.func69,by kernel_rfl⟩
theorem uB (g0:Bool) (n0:Nat) (c0:List D) (g1:Bool) (n1:Nat) (c1:List D) (a2:Bool) (a3:Bool) (a4:Bool) (a5:Int) (g6:Bool) (n6:Nat) (c6:List D) (g7:Bool) (n7:Nat) (c7:List D) (a8:Bool) (a9:Bool) (a10:Bool) (a11:Int):bc pr cv J 69 Try.f69 [(.agg [(.sl (some g0) 1 n0 c0),(.sl (some g1) 1 n1 c1),(.bool a2),(.bool a3),(.bool a4),(.int .i64 a5)]),(.agg [(.sl (some g6) 1 n6 c6),(.sl (some g7) 1 n7 c7),(.bool a8),(.bool a9),(.bool a10),(.int .i64 a11)])]=
    let y1:Option (D × List D):=(some ((.bool false),[.undef,.undef]))
    (br (br (pr.eq (pr.bu n1) (pr.bu n7)) false true) y1 (cv 98 [(.sl (some g0) 1 n0 c0),(.sl (some g6) 1 n6 c6)] (.bool (fun ck=>(.done (br (br ck false true) y1 (br (br (pr.beq a2 a8) false true) y1 (br (br (pr.beq a3 a9) false true) y1 (br (br (pr.beq a4 a10) false true) y1 (br (br (pr.eq a5 a11) false true) y1 (J 0 (iC 0 g0 n0 c0 g1 n1 c1 a2 a3 a4 a5 g6 n6 c6 g7 n7 c7 a8 a9 a10 a11)))))))))))):=by kernel_rfl
theorem mr (i0:Int) (g1:Bool) (n2:Nat) (c3:List D) (g4:Bool) (n5:Nat) (c6:List D) (b7:Bool) (b8:Bool) (b9:Bool) (i10:Int) (g11:Bool) (gv:Nat) (gV:List D) (g14:Bool) (pk:Nat) (w5:List D) (pn:Bool) (Mo:Bool) (Mp:Bool) (i20:Int):cA pr cv J 69 Try.f69 [.undef,.undef] 0 (iC i0 g1 n2 c3 g4 n5 c6 b7 b8 b9 i10 g11 gv gV g14 pk w5 pn Mo Mp i20)=
    (br (pr.lt i0 (pr.bu n5)) (br (pr.bT i0 n5) (br (br (pr.dq 1 c6 (pr.idx 0 i0 1)) true false) (br (pr.bT i0 pk) (br (br (pr.dq 1 w5 (pr.idx 0 i0 1)) true false) (cv 98 [(.sl (some (pr.cJ c6 (pr.idx 0 i0 1))) 1 (pr.cg c6 (pr.idx 0 i0 1)) (pr.cq c6 (pr.idx 0 i0 1))),(.sl (some (pr.cJ w5 (pr.idx 0 i0 1))) 1 (pr.cg w5 (pr.idx 0 i0 1)) (pr.cq w5 (pr.idx 0 i0 1)))] (.bool (fun ck=>(.done (br (br ck false true) (some ((.bool false),[.undef,.undef])) (J 0 (iC (pr.ar .add .i64 i0 1) g1 n2 c3 g4 n5 c6 b7 b8 b9 i10 g11 gv gV g14 pk w5 pn Mo Mp i20))))))) none) none) none) none) (some ((.bool true),[.undef,.undef]))):=by kernel_rfl
theorem Dd:Told cfg Try.prog 77 Try.f77:=⟨by kernel_rfl,Try.func77,by kernel_rfl⟩
theorem De (g0:Bool) (n0:Nat) (c0:List D) (g1:Bool) (n1:Nat) (c1:List D) (a2:Bool) (a3:Bool) (a4:Bool) (a5:Int) (g6:Bool) (n6:Nat) (c6:List D) (g7:Bool) (n7:Nat) (c7:List D) (a8:Bool) (a9:Bool) (a10:Bool) (a11:Int):bc pr cv J 77 Try.f77 [(.agg [(.sl (some g0) 1 n0 c0),(.sl (some g1) 1 n1 c1),(.bool a2),(.bool a3),(.bool a4),(.int .i64 a5)]),(.agg [(.sl (some g6) 1 n6 c6),(.sl (some g7) 1 n7 c7),(.bool a8),(.bool a9),(.bool a10),(.int .i64 a11)])]=
    let y1:Option (D × List D):=(some ((.bool false),[.undef,.undef]))
    (cv 107 [(.sl (some g0) 1 n0 c0),(.sl (some g6) 1 n6 c6)] (.bool (fun ck=>(.done (br ck (cv 108 [(.sl (some g1) 1 n1 c1),(.sl (some g7) 1 n7 c7),(.fn 107 [])] (.bool (fun gj=>(.done (br gj (br (pr.beq a2 a8) (br (pr.beq a3 a9) (br (pr.beq a4 a10) (some ((.bool (pr.eq a5 a11)),[.undef,.undef])) y1) y1) y1) y1))))) y1))))):=by kernel_rfl
end
theorem WP.find {f:FuncId} {fn:Func} {sk:List D} {j:Nat} {H:Nat→St} {n:Nat} (p:Nat→Bool) {bad:Nat→Rz} {wu:Rz} (Cx:∀ i r,i < n→p i=false→WP f fn sk j (H (i+1)) r→WP f fn sk j (H i) r) (S9:∀ i,i < n→p i=true→WP f fn sk j (H i) (bad i)) (Ta:WP f fn sk j (H n) wu):WP f fn sk j (H 0) (match (List.range n).find? p with | some i=>bad i | none=>wu):=by
  have key:∀ k i,i+k=n→WP f fn sk j (H i) (match ((List.range n).drop i).find? p with | some i=>bad i | none=>wu):=by
    intro k
    induction k with
    | zero=>
      intro i hi
      obtain rfl:i=n:=by omega
      rw [List.drop_of_length_le (by simp)]
      exact Ta
    | succ k ih=>
      intro i hi
      have cR:i < (List.range n).length:=by simp; omega
      rw [← List.getElem_cons_drop cR,List.getElem_range,List.find?_cons]
      cases hp:p i with
      | false=>exact Cx i _ (by omega) hp (ih (i+1) (by omega))
      | true=>exact S9 i (by omega) hp
  exact key n 0 (by omega)
theorem Td {n:Nat} (p:Nat→Bool) (k:Nat→Int) (hk:∀ i,0≤k i):decide (0≤(match (List.range n).find? p with | some i=>k i | none=>-1))=!((List.range n).all fun i=>!p i):=by
  cases h:(List.range n).find? p with
  | none=>
    rw [List.find?_eq_none] at h
    have:((List.range n).all fun i=>!p i)=true:=by
      rw [List.all_eq_true]
      intro x hx
      simpa using h x hx
    rw [this]
    rfl
  | some i=>
    have h1:=List.mem_of_find?_eq_some h
    have h2:=List.find?_some h
    have:((List.range n).all fun i=>!p i)=false:=by
      rw [List.all_eq_false]
      exact ⟨i,h1,by simp [h2]⟩
    rw [this]
    simp [hk i]
theorem yS {a b:Bool} {outs:List D}:(if a=true then ((D.bool b,outs):Rz) else (D.bool false,outs))=(D.bool (a&&b),outs):=by cases a<;>rfl
theorem zT (n:Nat):U.ri (n:Int) 0=n:=by simp [U]
theorem Df:U.jr 0=0:=rfl
theorem Dg (n:Nat):Nat.mul n 1=n:=Nat.mul_one n
theorem Dh (n:Nat):Nat.mul 0 n=0:=Nat.zero_mul n
theorem qS (xs:List Int) (i:Nat):List.take i (ints xs)=ints (xs.take i):=by simp [ints,List.map_take]
def wC (xs:List Int) (i:Nat):Bool:=decide (1≤xs.getD i 0∧xs.getD i 0≤100000)&&!decide (xs.getD i 0∈xs.take i)
def iO (xs:List Int):Bool:=(List.range xs.length).all (wC xs)&&decide ((xs.length:Int)≤12)
theorem w6 (g:Bool) (xs:List Int) (hb:xs.length < 4611686018427387904):Cm 95 [.sl (some g) 1 xs.length (ints xs)] (.bool (iO xs),[.undef]):=by
  unfold iO
  rw [← yS]
  refine Cm.go GW [.undef] 0 (jP g xs.length (ints xs) (0:Nat)) ?_ fun J hJ=>?_
  · refine WP.scan (H:=fun i:Nat=>jP g xs.length (ints xs) (i:Nat)) (wC xs) (fun i r hi hp ih=>WP.go _ ih fun J hJ=>?_) (fun i hi hp=>WP.fin fun J=>?_) (WP.fin fun J=>?_)
    · rw [nJ]
      unfold wC at hp
      rw [bC hi,Bool.and_eq_true,decide_eq_true_eq,Bool.not_eq_true',decide_eq_false_iff_not] at hp
      simp (disch:=first | omega | assumption | (simp; omega)) only [aJ,bg,bf,bt,bM,aD,aW,CV,bE,cM,dC,dD,jL,aC,aq,decide_eq_true hp.1,zT,Df,Dg,Dh,List.drop_zero,qS,Mn,decide_eq_false hp.2,dw]
      exact hJ
    · rw [nJ]
      unfold wC at hp
      rw [bC hi] at hp
      by_cases hc:1≤xs[i]∧xs[i]≤100000
      · rw [decide_eq_true hc,Bool.true_and,Bool.not_eq_false',decide_eq_true_eq] at hp
        simp (disch:=first | omega | assumption | (simp; omega)) only [aJ,bg,bf,bt,bM,aD,aW,CV,bE,cM,dC,dD,jL,aC,aq,decide_eq_true hc,zT,Df,Dg,Dh,List.drop_zero,qS,Mn,decide_eq_true hp]
      · simp (disch:=first | omega | assumption) only [aJ,bg,bf,bt,bM,aD,aW,bE,cM,dC,dD,jL,aC,aq,decide_eq_false hc]
    · rw [nJ]
      simp (disch:=omega) only [aD,bB,wv]
  · rw [GX]
    exact hJ
theorem w7 (g:Bool) (xs:List Int) (hb:xs.length < 4611686018427387904):Cm 102 [.sl (some g) 1 xs.length (ints xs)] (.bool (iO xs),[.undef]):=by
  unfold iO
  rw [← yS]
  refine Cm.go GY [.undef] 0 (jQ g xs.length (ints xs) xs.length (0:Nat)) ?_ fun J hJ=>?_
  · refine WP.scan (H:=fun i:Nat=>jQ g xs.length (ints xs) xs.length (i:Nat)) (wC xs) (fun i r hi hp ih=>WP.go _ ih fun J hJ=>?_) (fun i hi hp=>WP.fin fun J=>?_) (WP.fin fun J=>?_)
    · rw [nK]
      unfold wC at hp
      rw [bC hi,Bool.and_eq_true,decide_eq_true_eq,Bool.not_eq_true',decide_eq_false_iff_not] at hp
      simp (disch:=first | omega | assumption | (simp; omega)) only [aJ,bg,bf,bt,bM,aD,aW,CV,bE,cM,dC,dD,gQ,aC,aq,decide_eq_true hp.1,zT,Df,Dg,Dh,List.drop_zero,qS,Dc,decide_eq_false hp.2,dw]
      exact hJ
    · rw [nK]
      unfold wC at hp
      rw [bC hi] at hp
      by_cases hc:1≤xs[i]∧xs[i]≤100000
      · rw [decide_eq_true hc,Bool.true_and,Bool.not_eq_false',decide_eq_true_eq] at hp
        simp (disch:=first | omega | assumption | (simp; omega)) only [aJ,bg,bf,bt,bM,aD,aW,CV,bE,cM,dC,dD,gQ,aC,aq,decide_eq_true hc,zT,Df,Dg,Dh,List.drop_zero,qS,Dc,decide_eq_true hp]
      · simp (disch:=first | omega | assumption) only [aJ,bg,bf,bt,bM,aD,aW,bE,cM,dC,dD,gQ,aC,aq,decide_eq_false hc]
    · rw [nK]
      simp (disch:=omega) only [aD,bB,wv]
  · rw [GZ]
    exact hJ
def nt (xs:List Int) (i:Nat):Bool:=decide (0≤xs.getD i 0∧xs.getD i 0≤200)
def ji (xs:List Int):Bool:=(List.range xs.length).all (nt xs)&&decide ((xs.length:Int)=8)
theorem EE (g:Bool) (xs:List Int) (hb:xs.length < 4611686018427387904):Cm 65 [.sl (some g) 1 xs.length (ints xs)] (.bool (ji xs),[.undef]):=by
  unfold ji
  rw [← yS]
  refine Cm.go Ez [.undef] 0 (jf g xs.length (ints xs) (0:Nat)) ?_ fun J hJ=>?_
  · refine WP.scan (H:=fun i:Nat=>jf g xs.length (ints xs) (i:Nat)) (nt xs) (fun i r hi hp ih=>WP.go _ ih fun J hJ=>?_) (fun i hi hp=>WP.fin fun J=>?_) (WP.fin fun J=>?_)
    · rw [mV]
      unfold nt at hp
      rw [bC hi] at hp
      simp (disch:=first | omega | assumption) only [aJ,bg,bf,bt,bM,aD,aW,bE,cM,dC,dD,jL,aC,aq,hp,dw]
      exact hJ
    · rw [mV]
      unfold nt at hp
      rw [bC hi] at hp
      simp (disch:=first | omega | assumption) only [aJ,bg,bf,bt,bM,aD,aW,bE,cM,dC,dD,jL,aC,aq,hp]
    · rw [mV]
      simp (disch:=omega) only [aD,bB,yO]
      rfl
  · rw [EA]
    exact hJ
theorem Li (a:Int):Cm 101 [.int .i64 a] (.bool (!decide (0≤a∧a≤200)),[.undef]):=by
  refine Cm.fin Bw fun J=>?_
  rw [Bx]
  simp only [gQ,aC,aq,bt]
theorem AO (a:Int) (t:bJ Rz):aY 101 [.int .i64 a] t=feed t [.bool (!decide (0≤a∧a≤200))]:=bF (Li a) (by kernel_rfl) t
def uC (n:Nat) (p:Nat→Bool):Int:=match (List.range n).find? (fun i=>!p i) with | some i=>(i:Int) | none=>-1
theorem Kh (n:Nat) (p:Nat→Bool):decide (0≤uC n p)=!(List.range n).all p:=by
  unfold uC
  rw [Td _ _ (fun i=>Int.natCast_nonneg i)]
  simp
theorem Ki (g:Bool) (xs:List Int) (hb:xs.length < 4611686018427387904):Cm 114 [.sl (some g) 1 xs.length (ints xs),.fn 101 []] (.int .i64 (uC xs.length (nt xs)),[.undef,.undef]):=by
  have e:((.int .i64 (uC xs.length (nt xs)),[.undef,.undef]):Rz)=(match (List.range xs.length).find? (fun i=>!nt xs i) with | some i=>((.int .i64 (i:Int),[.undef,.undef]):Rz) | none=>(.int .i64 (-1),[.undef,.undef])):=by
    unfold uC
    split<;>rfl
  rw [e]
  refine Cm.go oZ [.undef,.undef] 0 (dL g xs.length (ints xs) xs.length (0:Nat)) ?_ fun J hJ=>?_
  · refine WP.find (H:=fun i:Nat=>dL g xs.length (ints xs) xs.length (i:Nat)) _ (fun i r hi hp ih=>WP.go _ ih fun J hJ=>?_) (fun i hi hp=>WP.fin fun J=>?_) (WP.fin fun J=>?_)
    · rw [fB]
      unfold nt at hp
      rw [bC hi] at hp
      simp (disch:=first | omega | assumption) only [aJ,bg,bf,bt,bM,aD,aW,bE,cM,dC,dD,AO,aC,aq,hp,dw]
      exact hJ
    · rw [fB]
      unfold nt at hp
      rw [bC hi] at hp
      simp (disch:=first | omega | assumption) only [aJ,bg,bf,bt,aD,aW,bE,cM,dC,dD,AO,aC,aq,hp]
    · rw [fB]
      simp (disch:=omega) only [aD,bB]
  · rw [o0]
    exact hJ
theorem Di (g:Bool) (xs:List Int) (hb:xs.length < 4611686018427387904):Cm 100 [.sl (some g) 1 xs.length (ints xs),.fn 101 []] (.bool (!(List.range xs.length).all (nt xs)),[.undef,.undef]):=by
  refine Cm.fin nn fun J=>?_
  rw [np]
  have:=bF (Ki g xs hb) (by kernel_rfl)
  simp only [this,aq,wv]
  rw [← Kh]
  rfl
theorem EF (g:Bool) (xs:List Int) (hb:xs.length < 4611686018427387904):Cm 73 [.sl (some g) 1 xs.length (ints xs)] (.bool (ji xs),[.undef]):=by
  refine Cm.fin EB fun J=>?_
  rw [EC]
  have:=bF (Di g xs hb) (by kernel_rfl)
  unfold ji
  by_cases h:(xs.length:Int)=8
  · simp (disch:=first | omega | assumption) only [aD,fH,this,bt]
    rw [decide_eq_true h,Bool.and_true]
    show some (D.bool (!!_),_)=_
    rw [Bool.not_not]
  · simp (disch:=first | omega | assumption) only [aD,dW]
    rw [decide_eq_false h,Bool.and_false]
section
variable (t:bJ Rz)
theorem G6 (g:Bool) (xs:List Int) (n:Nat) (hn:n=xs.length) (hb:xs.length < 4611686018427387904):aY 95 [.sl (some g) 1 n (ints xs)] t=feed t [.bool (iO xs)]:=by subst hn; exact bF (w6 g xs hb) (by kernel_rfl) t
theorem G7 (g:Bool) (xs:List Int) (n:Nat) (hn:n=xs.length) (hb:xs.length < 4611686018427387904):aY 102 [.sl (some g) 1 n (ints xs)] t=feed t [.bool (iO xs)]:=by subst hn; exact bF (w7 g xs hb) (by kernel_rfl) t
theorem vy (g:Bool) (xs:List Int) (n:Nat) (hn:n=xs.length) (hb:xs.length < 4611686018427387904):aY 94 [.sl (some g) 1 n (ints xs)] t=feed t [.bool (fq xs)]:=by subst hn; exact bF (vw g xs hb) (by kernel_rfl) t
theorem EG (g:Bool) (xs:List Int) (n:Nat) (hn:n=xs.length) (hb:xs.length < 4611686018427387904):aY 105 [.sl (some g) 1 n (ints xs)] t=feed t [.bool (fq xs)]:=by subst hn; exact bF (vx g xs hb) (by kernel_rfl) t
end
end Go.Proofs.Ytockoilcnmljiaa
namespace Go.Proofs.Ytockoilcnmljiaa
set_option maxRecDepth 100000
section
variable (pr:cT) (cv:Cv Rz) (J:Nat→St→Option Rz)
def dj (g0:Bool) (n1:Nat) (c2:List D) (g3:Bool) (n4:Nat) (c5:List D) (i6:Int) (i7:Int):St:=(St.mk [(1,(.sl (some g0) 1 n1 c2)),(2,(.fn 107 [])),(15,(.sl (some g3) 1 n4 c5)),(16,(.int .i64 i6)),(17,(.int .i64 i7))] [] [] 0)
theorem iL:Told cfg Try.prog 108 Try.f108:=⟨by kernel_rfl,Try.func108,by kernel_rfl⟩
theorem iM (g0:Bool) (n0:Nat) (c0:List D) (g1:Bool) (n1:Nat) (c1:List D):bc pr cv J 108 Try.f108 [(.sl (some g0) 1 n0 c0),(.sl (some g1) 1 n1 c1),(.fn 107 [])]=
    (br (br (pr.eq (pr.bu n0) (pr.bu n1)) false true) (some ((.bool false),[.undef,.undef,.undef])) (J 0 (dj g1 n1 c1 g0 n0 c0 (pr.bu n0) 0))):=by kernel_rfl
theorem eZ (g0:Bool) (n1:Nat) (c2:List D) (g3:Bool) (n4:Nat) (c5:List D) (i6:Int) (i7:Int):cA pr cv J 108 Try.f108 [.undef,.undef,.undef] 0 (dj g0 n1 c2 g3 n4 c5 i6 i7)=
    (br (pr.lt i7 i6) (br (pr.bT i7 n4) (br (br (pr.dq 1 c5 (pr.idx 0 i7 1)) true false) (br (pr.bT i7 n1) (br (br (pr.dq 1 c2 (pr.idx 0 i7 1)) true false) (cv 107 [(.sl (some (pr.cJ c5 (pr.idx 0 i7 1))) 1 (pr.cg c5 (pr.idx 0 i7 1)) (pr.cq c5 (pr.idx 0 i7 1))),(.sl (some (pr.cJ c2 (pr.idx 0 i7 1))) 1 (pr.cg c2 (pr.idx 0 i7 1)) (pr.cq c2 (pr.idx 0 i7 1)))] (.bool (fun ck=>(.done (br (br ck false true) (some ((.bool false),[.undef,.undef,.undef])) (J 0 (dj g0 n1 c2 g3 n4 c5 i6 (pr.ar .add .i64 i7 1)))))))) none) none) none) none) (some ((.bool true),[.undef,.undef,.undef]))):=by kernel_rfl
theorem Lj:Told cfg Try.prog 131 Try.f131:=⟨by kernel_rfl,Try.func131,by kernel_rfl⟩
theorem Ll (a0:Int):bc pr cv J 131 Try.f131 [(.int .i64 a0)]=
    (br (br (pr.lt 8 0) false true) (br (br (pr.lt 16 0) false true) (br (br (pr.lt 24 0) false true) (some ((.sl none 1 4 [(.int .u8 (pr.wrap .u8 a0)),(.int .u8 (pr.wrap .u8 (pr.ar .shr .i64 a0 8))),(.int .u8 (pr.wrap .u8 (pr.ar .shr .i64 a0 16))),(.int .u8 (pr.wrap .u8 (pr.ar .shr .i64 a0 24)))]),[.undef])) none) none) none):=by kernel_rfl
end
theorem all_eq {α:Type} [DecidableEq α] (d:α):∀ (xs ys:List α),xs.length=ys.length→((List.range xs.length).all fun i=>decide (xs.getD i d=ys.getD i d))=decide (xs=ys):=by
  intro xs ys hl
  rw [Bool.eq_iff_iff,List.all_eq_true,decide_eq_true_eq]
  constructor
  · intro h
    apply List.ext_getElem hl
    intro i hi qF
    have:=h i (List.mem_range.2 hi)
    rwa [decide_eq_true_eq,bC hi,bC qF] at this
  · intro h
    subst h
    intro i _
    simp
theorem NQ {α:Type} [DecidableEq α] (d:α) (xs ys:List α):(((List.range (min xs.length ys.length)).all fun i=>decide (xs.getD i d=ys.getD i d))&&decide ((xs.length:Int)=(ys.length:Int)))=decide (xs=ys):=by
  by_cases h:xs.length=ys.length
  · rw [← h,Nat.min_self,all_eq d xs ys h]
    simp
  · have:xs≠ys:=fun e=>h (e▸rfl)
    have h':¬ (xs.length:Int)=(ys.length:Int):=by omega
    rw [decide_eq_false h',decide_eq_false this,Bool.and_false]
theorem Kj (g h:Bool) (xs ys:List Int) (hx:xs.length < 4611686018427387904) (hy:ys.length < 4611686018427387904):Cm 98 [.sl (some g) 1 xs.length (ints xs),.sl (some h) 1 ys.length (ints ys)] (.bool (decide (xs=ys)),[.undef,.undef]):=by
  rw [← NQ 0,← yS]
  refine Cm.go GP [.undef,.undef] 0 (jO g xs.length (ints xs) h ys.length (ints ys) (0:Nat)) ?_ fun J hJ=>?_
  · refine WP.scan (H:=fun i:Nat=>jO g xs.length (ints xs) h ys.length (ints ys) (i:Nat)) _ (fun i r hi hp ih=>WP.go _ ih fun J hJ=>?_) (fun i hi hp=>WP.fin fun J=>?_) (WP.fin fun J=>?_)
    · rw [nI]
      have h1:i < xs.length:=by omega
      have h2:i < ys.length:=by omega
      rw [bC h1,bC h2,decide_eq_true_eq] at hp
      simp (disch:=first | omega | assumption) only [aJ,bg,bf,bt,bM,aD,aW,bE,cM,dC,dD,fH,dw]
      exact hJ
    · rw [nI]
      have h1:i < xs.length:=by omega
      have h2:i < ys.length:=by omega
      rw [bC h1,bC h2,decide_eq_false_iff_not] at hp
      simp (disch:=first | omega | assumption) only [aJ,bg,bf,bt,bM,aD,aW,bE,cM,dC,dD,dW]
    · rw [nI]
      by_cases h1:min xs.length ys.length < xs.length
      · simp (disch:=omega) only [aD,aW,bB,yO]
        rfl
      · simp (disch:=omega) only [aD,bB,yO]
        rfl
  · rw [GQ]
    exact hJ
theorem Mq (g h:Bool) (xs ys:List Int) (hx:xs.length < 4611686018427387904) (hy:ys.length < 4611686018427387904):Cm 107 [.sl (some g) 1 xs.length (ints xs),.sl (some h) 1 ys.length (ints ys)] (.bool (decide (xs=ys)),[.undef,.undef]):=by
  by_cases hl:xs.length=ys.length
  · rw [← all_eq 0 xs ys hl,← vv]
    refine Cm.go om [.undef,.undef] 0 (fh g xs.length (ints xs) h ys.length (ints ys) xs.length (0:Nat)) ?_ fun J hJ=>?_
    · refine WP.scan (H:=fun i:Nat=>fh g xs.length (ints xs) h ys.length (ints ys) xs.length (i:Nat)) _ (fun i r hi hp ih=>WP.go _ ih fun J hJ=>?_) (fun i hi hp=>WP.fin fun J=>?_) (WP.fin fun J=>?_)
      · rw [jh]
        have h2:i < ys.length:=by omega
        rw [bC hi,bC h2,decide_eq_true_eq] at hp
        simp (disch:=first | omega | assumption) only [aJ,bg,bf,bt,bM,aD,aW,bE,cM,dC,dD,fH,dw]
        exact hJ
      · rw [jh]
        have h2:i < ys.length:=by omega
        rw [bC hi,bC h2,decide_eq_false_iff_not] at hp
        simp (disch:=first | omega | assumption) only [aJ,bg,bf,bt,bM,aD,aW,bE,cM,dC,dD,dW]
      · rw [jh]
        simp (disch:=omega) only [aD,bB]
    · rw [oo]
      simp (disch:=omega) only [aD,fH,bt,bM,aJ,bg]
      exact hJ
  · have cK:xs≠ys:=fun e=>hl (e▸rfl)
    refine Cm.fin om fun J=>?_
    rw [oo,decide_eq_false cK]
    simp (disch:=omega) only [aD,dW,bt,bM,aJ,bg]
section
variable (t:bJ Rz)
theorem wD (g h:Bool) (xs ys:List Int) (n k:Nat) (hn:n=xs.length) (hk:k=ys.length) (hx:xs.length < 4611686018427387904) (hy:ys.length < 4611686018427387904):aY 98 [.sl (some g) 1 n (ints xs),.sl (some h) 1 k (ints ys)] t=feed t [.bool (decide (xs=ys))]:=by subst hn hk; exact bF (Kj g h xs ys hx hy) (by kernel_rfl) t
theorem EH (g h:Bool) (xs ys:List Int) (n k:Nat) (hn:n=xs.length) (hk:k=ys.length) (hx:xs.length < 4611686018427387904) (hy:ys.length < 4611686018427387904):aY 107 [.sl (some g) 1 n (ints xs),.sl (some h) 1 k (ints ys)] t=feed t [.bool (decide (xs=ys))]:=by subst hn hk; exact bF (Mq g h xs ys hx hy) (by kernel_rfl) t
end
theorem Lm (g h:Bool) (xs ys:List (List Int)) (hx:tj xs) (hy:tj ys):Cm 108 [sR (some g) xs,sR (some h) ys,.fn 107 []] (.bool (decide (xs=ys)),[.undef,.undef,.undef]):=by
  by_cases hl:xs.length=ys.length
  · rw [← all_eq [] xs ys hl,← vv]
    refine Cm.go iL [.undef,.undef,.undef] 0 (dj h ys.length (rows (some h) ys) g xs.length (rows (some g) xs) xs.length (0:Nat)) ?_ fun J hJ=>?_
    · refine WP.scan (H:=fun i:Nat=>dj h ys.length (rows (some h) ys) g xs.length (rows (some g) xs) xs.length (i:Nat)) _ (fun i r hi hp ih=>WP.go _ ih fun J hJ=>?_) (fun i hi hp=>WP.fin fun J=>?_) (WP.fin fun J=>?_)
      · have b1:=hx.1
        have h2:i < ys.length:=by omega
        have b2:=hx.2 _ (List.getElem_mem hi)
        have b3:=hy.2 _ (List.getElem_mem h2)
        rw [eZ]
        rw [bC hi,bC h2] at hp
        simp (disch:=first | omega | assumption) only [aJ,bg,bf,bt,bM,aD,aW,bE,cM,gW,gX,gY,iA,EH,aC,aq,hp,dw]
        exact hJ
      · have b1:=hx.1
        have h2:i < ys.length:=by omega
        have b2:=hx.2 _ (List.getElem_mem hi)
        have b3:=hy.2 _ (List.getElem_mem h2)
        rw [eZ]
        rw [bC hi,bC h2] at hp
        simp (disch:=first | omega | assumption) only [aJ,bg,bf,bt,bM,aD,aW,bE,cM,gW,gX,gY,iA,EH,aC,aq,hp]
      · rw [eZ]
        simp (disch:=omega) only [aD,bB]
    · rw [iM]
      simp (disch:=omega) only [aD,fH,bt,bM,aJ,bg]
      exact hJ
  · have cK:xs≠ys:=fun e=>hl (e▸rfl)
    refine Cm.fin iL fun J=>?_
    rw [iM,decide_eq_false cK]
    simp (disch:=omega) only [aD,dW,bt,bM,aJ,bg]
def lE (xss:List (List Int)) (i:Nat):Bool:=fq (xss.getD i [])
def gx (xss:List (List Int)):Bool:=(List.range xss.length).all (lE xss)
theorem Kk (g:Bool) (xs:List Int) (hb:xs.length < 4611686018427387904):Cm 104 [.sl (some g) 1 xs.length (ints xs)] (.bool (!fq xs),[.undef]):=by
  refine Cm.fin z8 fun J=>?_
  rw [Aa]
  simp (disch:=first | rfl | assumption) only [EG,aC,aq,bt]
theorem yT (g:Bool) (xs:List Int) (n:Nat) (hn:n=xs.length) (hb:xs.length < 4611686018427387904) (t:bJ Rz):aY 104 [.sl (some g) 1 n (ints xs)] t=feed t [.bool (!fq xs)]:=by subst hn; exact bF (Kk g xs hb) (by kernel_rfl) t
theorem Kl (g:Bool) (xss:List (List Int)) (hb:tj xss):Cm 115 [sR (some g) xss,.fn 104 []] (.int .i64 (uC xss.length (lE xss)),[.undef,.undef]):=by
  have e:((.int .i64 (uC xss.length (lE xss)),[.undef,.undef]):Rz)=(match (List.range xss.length).find? (fun i=>!lE xss i) with | some i=>((.int .i64 (i:Int),[.undef,.undef]):Rz) | none=>(.int .i64 (-1),[.undef,.undef])):=by
    unfold uC
    cases (List.range xss.length).find? (fun i=>!lE xss i)<;>rfl
  rw [e]
  have b1:=hb.1
  refine Cm.go o3 [.undef,.undef] 0 (dM g xss.length (rows (some g) xss) xss.length (0:Nat)) ?_ fun J hJ=>?_
  · refine WP.find (H:=fun i:Nat=>dM g xss.length (rows (some g) xss) xss.length (i:Nat)) _ (fun i r hi hp ih=>WP.go _ ih fun J hJ=>?_) (fun i hi hp=>WP.fin fun J=>?_) (WP.fin fun J=>?_)
    · have b2:=hb.2 _ (List.getElem_mem hi)
      rw [fC]
      unfold lE at hp
      rw [bC hi] at hp
      simp (disch:=first | omega | assumption) only [aJ,bg,bf,bt,aD,aW,bE,cM,gW,gX,gY,iA,yT,aC,aq,hp,dw]
      exact hJ
    · have b2:=hb.2 _ (List.getElem_mem hi)
      rw [fC]
      unfold lE at hp
      rw [bC hi] at hp
      simp (disch:=first | omega | assumption) only [aJ,bg,bf,bt,aD,aW,bE,cM,gW,gX,gY,iA,yT,aC,aq,hp]
    · rw [fC]
      simp (disch:=omega) only [aD,bB]
  · rw [o4]
    exact hJ
theorem Dj (g:Bool) (xss:List (List Int)) (hb:tj xss):Cm 103 [sR (some g) xss,.fn 104 []] (.bool (!gx xss),[.undef,.undef]):=by
  refine Cm.fin nq fun J=>?_
  rw [nr]
  have:=bF (Kl g xss hb) (by kernel_rfl)
  simp only [this,aq,wv]
  unfold gx
  rw [← Kh]
  rfl
theorem Dk (g:Bool) (xss:List (List Int)) (hb:tj xss):Cm 75 [sR (some g) xss] (.bool (((xss.length:Int)==3)&&gx xss),[.undef]):=by
  refine Cm.fin C9 fun J=>?_
  rw [Da]
  have:=bF (Dj g xss hb) (by kernel_rfl)
  simp only [this,aD,yO]
  cases (xss.length:Int)==3 with
  | true=>
    show some (D.bool (br (!gx xss) false true),_)=_
    rw [bt,Bool.not_not]
    rfl
  | false=>rfl
def fx (m:aK):Bool:=gx m.bits&&(iO m.aA&&(decide (0 < (m.aA.length:Int))&&(((m.bits.length:Int)==3)&&(decide (0≤m.last∧m.last≤200)&&!(m.bQ&&m.held)))))
theorem w8 (g:Bool) (m:aK) (hb:cU m):Cm 66 [.agg (cn (some g) m)] (.bool (fx m),[.undef]):=by
  unfold fx
  rw [← yS]
  have b0:=hb.aA
  have b1:=hb.bits.1
  refine Cm.go G2 [.undef] 0 (jR (0:Nat) g m.aA.length (ints m.aA) g m.bits.length (rows (some g) m.bits) m.bY m.bQ m.held m.last) ?_ fun J hJ=>?_
  · refine WP.scan (H:=fun i:Nat=>jR (i:Nat) g m.aA.length (ints m.aA) g m.bits.length (rows (some g) m.bits) m.bY m.bQ m.held m.last) (lE m.bits) (fun i r hi hp ih=>WP.go _ ih fun J hJ=>?_) (fun i hi hp=>WP.fin fun J=>?_) (WP.fin fun J=>?_)
    · have b2:=hb.bits.2 _ (List.getElem_mem hi)
      rw [nL]
      unfold lE at hp
      rw [bC hi] at hp
      simp (disch:=first | omega | assumption) only [aJ,bg,bf,bt,bM,aD,aW,bE,cM,gW,gX,gY,iA,vy,aC,aq,hp,dw]
      exact hJ
    · have b2:=hb.bits.2 _ (List.getElem_mem hi)
      rw [nL]
      unfold lE at hp
      rw [bC hi] at hp
      simp (disch:=first | omega | assumption) only [aJ,bg,bf,bt,bM,aD,aW,bE,cM,gW,gX,gY,iA,vy,aC,aq,hp]
    · rw [nL]
      simp (disch:=first | omega | assumption) only [aD,bB,G6,aC,aq,jL]
      simp only [NG,yO]
      generalize iO m.aA=a
      generalize decide (0 < (m.aA.length:Int))=b
      generalize ((m.bits.length:Int)==3)=c
      generalize decide (0≤m.last∧m.last≤200)=d
      generalize m.bQ=e
      generalize m.held=f
      cases a<;>cases b<;>cases c<;>cases d<;>cases e<;>cases f<;>rfl
  · rw [G3]
    exact hJ
theorem w9 (g:Bool) (m:aK) (hb:cU m):Cm 74 [.agg (cn (some g) m)] (.bool (fx m),[.undef]):=by
  have b0:=hb.aA
  have hm:=bF (Dk g m.bits hb.bits) (by kernel_rfl)
  refine Cm.fin G4 fun J=>?_
  rw [G5]
  simp (disch:=first | omega | assumption) only [aD,G7,hm,aC,aq,gQ,NG]
  unfold fx
  generalize iO m.aA=a
  generalize decide (0 < (m.aA.length:Int))=b
  generalize ((m.bits.length:Int)==3)=c
  generalize decide (0≤m.last∧m.last≤200)=d
  generalize m.bQ=e
  generalize m.held=f
  generalize gx m.bits=k
  show (br a (br b (br (c&&k) _ _) _) _)=_
  cases a<;>cases b<;>cases c<;>cases d<;>cases e<;>cases f<;>cases k<;>rfl
section
variable (t:bJ Rz)
theorem xd (g:Bool) (m:aK) (hb:cU m):aY 66 [.agg (cn (some g) m)] t=feed t [.bool (fx m)]:=bF (w8 g m hb) (by kernel_rfl) t
theorem xe (g:Bool) (m:aK) (hb:cU m):aY 74 [.agg (cn (some g) m)] t=feed t [.bool (fx m)]:=bF (w9 g m hb) (by kernel_rfl) t
end
def ko (m k:aK):Bool:=decide (m.aA=k.aA)&&(decide (m.bits=k.bits)&&((m.bY==k.bY)&&((m.bQ==k.bQ)&&((m.held==k.held)&&(m.last==k.last)))))
theorem Dl (g h:Bool) (m k:aK) (hm:cU m) (hk:cU k):Cm 77 [.agg (cn (some g) m),.agg (cn (some h) k)] (.bool (ko m k),[.undef,.undef]):=by
  have b0:=hm.aA
  have b1:=hk.aA
  have he:=bF (Lm g h m.bits k.bits hm.bits hk.bits) (by kernel_rfl)
  refine Cm.fin Dd fun J=>?_
  rw [De]
  simp (disch:=first | omega | assumption) only [EH,he,aC,aq,rM,yO]
  unfold ko
  generalize decide (m.aA=k.aA)=a
  generalize decide (m.bits=k.bits)=b
  generalize (m.bY==k.bY)=c
  generalize (m.bQ==k.bQ)=d
  generalize (m.held==k.held)=e
  generalize (m.last==k.last)=f
  show (br a (br b _ _) _)=_
  cases a<;>cases b<;>cases c<;>cases d<;>cases e<;>cases f<;>rfl
theorem Dm (g h:Bool) (m k:aK) (hm:cU m) (hk:cU k):Cm 69 [.agg (cn (some g) m),.agg (cn (some h) k)] (.bool (ko m k),[.undef,.undef]):=by
  have b0:=hm.aA
  have b1:=hk.aA
  have b2:=hm.bits.1
  have fin:ko m k=false→(m.bits.length=k.bits.length→(decide (m.aA=k.aA)&&((m.bY==k.bY)&&((m.bQ==k.bQ)&&((m.held==k.held)&&(m.last==k.last)))))=false)→Cm 69 [.agg (cn (some g) m),.agg (cn (some h) k)] (.bool (ko m k),[.undef,.undef]):=by
    intro hs hq
    rw [hs]
    refine Cm.fin uA fun J=>?_
    rw [uB]
    by_cases hl:m.bits.length=k.bits.length
    · have hq:=hq hl
      simp (disch:=first | omega | assumption) only [wD,aC,aq,rM,aD,fH,bt,bM,aJ,bg]
      simp only [yO]
      revert hq
      generalize decide (m.aA=k.aA)=a
      generalize (m.bY==k.bY)=c
      generalize (m.bQ==k.bQ)=d
      generalize (m.held==k.held)=e
      generalize (m.last==k.last)=f
      cases a<;>cases c<;>cases d<;>cases e<;>cases f<;>first | (intro _; rfl) | (intro hq; exact absurd hq (by decide))
    · simp (disch:=first | omega | assumption) only [aD,dW,bt,bM,aJ,bg]
  by_cases hl:m.bits.length=k.bits.length
  · cases hq:(decide (m.aA=k.aA)&&((m.bY==k.bY)&&((m.bQ==k.bQ)&&((m.held==k.held)&&(m.last==k.last))))) with
    | false=>
      refine fin ?_ fun _=>hq
      revert hq
      unfold ko
      generalize decide (m.aA=k.aA)=a
      generalize decide (m.bits=k.bits)=b
      generalize ((m.bY==k.bY)&&((m.bQ==k.bQ)&&((m.held==k.held)&&(m.last==k.last))))=c
      cases a<;>cases b<;>cases c<;>simp
    | true=>
      have hs:ko m k=decide (m.bits=k.bits):=by
        revert hq
        unfold ko
        generalize decide (m.aA=k.aA)=a
        generalize decide (m.bits=k.bits)=b
        generalize ((m.bY==k.bY)&&((m.bQ==k.bQ)&&((m.held==k.held)&&(m.last==k.last))))=c
        cases a<;>cases b<;>cases c<;>simp
      simp only [Bool.and_eq_true] at hq
      rw [hs,← all_eq [] _ _ hl,← vv]
      refine Cm.go uA [.undef,.undef] 0 (iC (0:Nat) g m.aA.length (ints m.aA) g m.bits.length (rows (some g) m.bits) m.bY m.bQ m.held m.last h k.aA.length (ints k.aA) h k.bits.length (rows (some h) k.bits) k.bY k.bQ k.held k.last) ?_ fun J hJ=>?_
      · refine WP.scan (H:=fun i:Nat=>iC (i:Nat) g m.aA.length (ints m.aA) g m.bits.length (rows (some g) m.bits) m.bY m.bQ m.held m.last h k.aA.length (ints k.aA) h k.bits.length (rows (some h) k.bits) k.bY k.bQ k.held k.last) _ (fun i r hi hp ih=>WP.go _ ih fun J hJ=>?_) (fun i hi hp=>WP.fin fun J=>?_) (WP.fin fun J=>?_)
        · have h2:i < k.bits.length:=by omega
          have b3:=hm.bits.2 _ (List.getElem_mem hi)
          have b4:=hk.bits.2 _ (List.getElem_mem h2)
          rw [mr]
          rw [bC hi,bC h2] at hp
          simp (disch:=first | omega | assumption) only [aJ,bg,bf,bt,bM,aD,aW,bE,cM,gW,gX,gY,iA,wD,aC,aq,hp,dw]
          exact hJ
        · have h2:i < k.bits.length:=by omega
          have b3:=hm.bits.2 _ (List.getElem_mem hi)
          have b4:=hk.bits.2 _ (List.getElem_mem h2)
          rw [mr]
          rw [bC hi,bC h2] at hp
          simp (disch:=first | omega | assumption) only [aJ,bg,bf,bt,bM,aD,aW,bE,cM,gW,gX,gY,iA,wD,aC,aq,hp]
        · rw [mr]
          simp (disch:=omega) only [aD,bB]
      · rw [uB]
        simp (disch:=first | omega | assumption) only [wD,aC,aq,rM,aD,yO,hq.1,hq.2.1,hq.2.2.1,hq.2.2.2.1,hq.2.2.2.2,bt,bM,aJ]
        have e1:((m.bits.length:Int)==(k.bits.length:Int))=true:=by simp [hl]
        rw [e1]
        exact hJ
  · refine fin ?_ fun h=>absurd h hl
    have:m.bits≠k.bits:=fun e=>hl (e▸rfl)
    unfold ko
    rw [decide_eq_false this,Bool.false_and,Bool.and_false]
end Go.Proofs.Ytockoilcnmljiaa
namespace Go.Proofs.Ytockoilcnmljiaa
set_option maxRecDepth 100000
section
variable (pr:cT) (cv:Cv Rz) (J:Nat→St→Option Rz)
def jS (i0:Int) (n1:Nat) (c2:List D):St:=(St.mk [(0,(.int .i64 i0)),(3,(.ref 10003 [] 0 none))] [(10003,[(.sl none 1 n1 c2)])] [] 0)
theorem xj:Told cfg Try.prog 127 Try.f127:=⟨by kernel_rfl,Try.func127,by kernel_rfl⟩
theorem xm (a0:Int):bc pr cv J 127 Try.f127 [(.int .i64 a0)]=
    (cv 64 [(.int .i64 a0),(.int .i64 0),(.int .i64 2147483647)] (.bool (fun ck=>(.done (br (br ck false true) (some ((.sl none 1 0 []),[.undef])) (J 0 (jS a0 0 []))))))):=by kernel_rfl
theorem tv (i0:Int) (n1:Nat) (c2:List D):cA pr cv J 127 Try.f127 [.undef] 0 (jS i0 n1 c2)=
    let y1:List D:=[(.int .u8 (pr.wrap .u8 (pr.ar .add .i64 (pr.ar .rem .i64 i0 128) 128)))]
    (br (pr.lt 127 i0) (br (br (pr.eq 128 0) false true) (br (br (pr.flat y1) (pr.fits (n1+1) 1) false) (br (br (pr.eq 128 0) false true) (J 0 (jS (pr.ar .quo .i64 i0 128) (n1+1) (List.append c2 y1))) none) none) none) (br (br (pr.flat [(.int .u8 (pr.wrap .u8 i0))]) (pr.fits (n1+1) 1) false) (some ((.sl none 1 (n1+1) (List.append c2 [(.int .u8 (pr.wrap .u8 i0))])),[.undef])) none)):=by kernel_rfl
def jT (i0:Int) (n1:Nat) (c2:List D):St:=(St.mk [(0,(.int .i64 i0)),(3,(.ref 10003 [] 0 none))] [(10003,[(.sl none 1 n1 c2)])] [] 0)
theorem xq:Told cfg Try.prog 139 Try.f139:=⟨by kernel_rfl,Try.func139,by kernel_rfl⟩
theorem xr (a0:Int):bc pr cv J 139 Try.f139 [(.int .i64 a0)]=
    let y1:Option (D × List D):=(some ((.sl none 1 0 []),[.undef]))
    (br (pr.lt a0 0) y1 (br (pr.lt 2147483647 a0) y1 (J 0 (jT a0 0 [])))):=by kernel_rfl
theorem tw (i0:Int) (n1:Nat) (c2:List D):cA pr cv J 139 Try.f139 [.undef] 0 (jT i0 n1 c2)=
    let y1:List D:=[(.int .u8 (pr.wrap .u8 (pr.ar .add .i64 (pr.ar .rem .i64 i0 128) 128)))]
    (br (pr.lt 127 i0) (br (br (pr.eq 128 0) false true) (br (br (pr.flat y1) (pr.fits (Nat.succ n1) 1) false) (br (br (pr.eq 128 0) false true) (J 0 (jT (pr.ar .quo .i64 i0 128) (Nat.succ n1) (List.append c2 y1))) none) none) none) (br (br (pr.flat [(.int .u8 (pr.wrap .u8 i0))]) (pr.fits (Nat.succ n1) 1) false) (some ((.sl none 1 (Nat.succ n1) (List.append c2 [(.int .u8 (pr.wrap .u8 i0))])),[.undef])) none)):=by kernel_rfl
def jU (g0:Bool) (n1:Nat) (c2:List D) (i3:Int) (i4:Int) (i5:Int):St:=(St.mk [(0,(.sl (some g0) 1 n1 c2)),(1,(.int .i64 i3)),(7,(.int .i64 i4)),(8,(.int .i64 i5))] [] [] 0)
theorem xx:Told cfg Try.prog 132 Try.f132:=⟨by kernel_rfl,Try.func132,by kernel_rfl⟩
theorem xz (g0:Bool) (n0:Nat) (c0:List D) (a1:Int):bc pr cv J 132 Try.f132 [(.sl (some g0) 1 n0 c0),(.int .i64 a1)]=
    (J 0 (jU g0 n0 c0 a1 0 0)):=by kernel_rfl
theorem jj (g0:Bool) (n1:Nat) (c2:List D) (i3:Int) (i4:Int) (i5:Int):cA pr cv J 132 Try.f132 [.undef,.undef] 0 (jU g0 n1 c2 i3 i4 i5)=
    let y1:Option (D × List D):=(some ((.aR [(.int .i64 0),(.int .i64 0),(.bool false)]),[.undef,.undef]))
    let y2:Int:=(pr.wrap .i64 (pr.bG c2 (pr.idx 0 (pr.ar .add .i64 i3 i5) 1)))
    let y3:Int:=(pr.ar .or .i64 i4 (pr.ar .shl .i64 (pr.ar .rem .i64 y2 128) (pr.ar .mul .i64 7 i5)))
    let y4:D:=(.int .i64 y3)
    let y5:Option (D × List D):=(br (pr.lt 2147483647 y3) y1 (some ((.aR [y4,(.int .i64 (pr.ar .add .i64 (pr.ar .add .i64 i3 i5) 1)),(.bool true)]),[.undef,.undef])))
    (br (pr.lt i5 5) (br (pr.lt i3 0) y1 (br (pr.le (pr.ar .sub .i64 (pr.bu n1) i5) i3) y1 (br (pr.bT (pr.ar .add .i64 i3 i5) n1) (br (br (pr.cL .u8 c2 (pr.idx 0 (pr.ar .add .i64 i3 i5) 1)) true false) (br (br (pr.eq 128 0) false true) (br (br (pr.lt (pr.ar .mul .i64 7 i5) 0) false true) (br (pr.lt y2 128) (br (pr.lt 0 i5) (br (pr.eq y2 0) y1 y5) y5) (J 0 (jU g0 n1 c2 i3 y3 (pr.ar .add .i64 i5 1)))) none) none) none) none))) y1):=by kernel_rfl
def lO (g0:Bool) (n1:Nat) (c2:List D) (i3:Int) (i4:Int) (i5:Int) (i6:Int):St:=(St.mk [(0,(.sl (some g0) 1 n1 c2)),(1,(.int .i64 i3)),(7,(.int .i64 i4)),(8,(.int .i64 i5)),(9,(.int .i64 i6))] [] [] 0)
theorem xA:Told cfg Try.prog 138 Try.f138:=⟨by kernel_rfl,Try.func138,by kernel_rfl⟩
theorem xB (g0:Bool) (n0:Nat) (c0:List D) (a1:Int):bc pr cv J 138 Try.f138 [(.sl (some g0) 1 n0 c0),(.int .i64 a1)]=
    (br (pr.lt a1 0) (some ((.aR [(.int .i64 0),(.int .i64 0),(.bool false)]),[.undef,.undef])) (J 0 (lO g0 n0 c0 a1 0 1 0))):=by kernel_rfl
theorem la (g0:Bool) (n1:Nat) (c2:List D) (i3:Int) (i4:Int) (i5:Int) (i6:Int):cA pr cv J 138 Try.f138 [.undef,.undef] 0 (lO g0 n1 c2 i3 i4 i5 i6)=
    let y1:Int:=(pr.wrap .i64 (pr.bG c2 (pr.idx 0 (pr.ar .add .i64 i3 i6) 1)))
    let y2:Int:=(pr.ar .add .i64 i4 (pr.ar .mul .i64 (pr.ar .rem .i64 y1 128) i5))
    let y3:Option (D × List D):=(some ((.aR [(.int .i64 0),(.int .i64 0),(.bool false)]),[.undef,.undef]))
    let y4:D:=(.int .i64 y2)
    let y5:Option (D × List D):=(some ((.aR [y4,(.int .i64 (pr.ar .add .i64 (pr.ar .add .i64 i3 i6) 1)),(.bool true)]),[.undef,.undef]))
    (br (pr.lt i6 5) (br (pr.lt i3 (pr.ar .sub .i64 (pr.bu n1) i6)) (br (pr.bT (pr.ar .add .i64 i3 i6) n1) (br (br (pr.cL .u8 c2 (pr.idx 0 (pr.ar .add .i64 i3 i6) 1)) true false) (br (br (pr.eq 128 0) false true) (br (pr.le 128 y1) (J 0 (lO g0 n1 c2 i3 y2 (pr.ar .mul .i64 i5 128) (pr.ar .add .i64 i6 1))) (br (pr.lt 2147483647 y2) y3 (br (pr.eq y1 0) (br (pr.lt 0 i6) y3 y5) y5))) none) none) none) y3) y3):=by kernel_rfl
theorem Km:Told cfg Try.prog 119 Try.f119:=⟨by kernel_rfl,Try.func119,by kernel_rfl⟩
theorem Kn (a0:Int):bc pr cv J 119 Try.f119 [(.int .i64 a0)]=
    (br (br (pr.lt 8 0) false true) (br (br (pr.lt 16 0) false true) (br (br (pr.lt 24 0) false true) (some ((.sl none 1 4 [(.int .u8 (pr.wrap .u8 (pr.ar .and .i64 a0 255))),(.int .u8 (pr.wrap .u8 (pr.ar .and .i64 (pr.ar .shr .i64 a0 8) 255))),(.int .u8 (pr.wrap .u8 (pr.ar .and .i64 (pr.ar .shr .i64 a0 16) 255))),(.int .u8 (pr.wrap .u8 (pr.ar .and .i64 (pr.ar .shr .i64 a0 24) 255)))]),[.undef])) none) none) none):=by kernel_rfl
end
theorem QA {a b:Nat} (h:a < 9223372036854775808):U.ar .quo .i64 (a:Int) (b:Int)=((a / b:Nat):Int):=by
  have e:(a:Int).tdiv (b:Int)=((a / b:Nat):Int):=rfl
  have:=Nat.div_le_self a b
  show IntKind.i64.wrap ((a:Int).tdiv (b:Int))=_
  rw [e]
  generalize a / b=q at this
  rw [wrap64 (by omega) (by omega)]
theorem qT {a b:Nat} (h:a+b < 9223372036854775808):U.ar .add .i64 (a:Int) (b:Int)=((a+b:Nat):Int):=by
  rw [NH (by omega) (by omega)]
  omega
theorem Ko {a b:Nat} (h:a*b < 9223372036854775808):U.ar .mul .i64 (a:Int) (b:Int)=((a*b:Nat):Int):=by
  have e:(a:Int)*(b:Int)=((a*b:Nat):Int):=by simp
  show IntKind.i64.wrap ((a:Int)*(b:Int))=_
  rw [e,wrap64 (by omega) (by omega)]
theorem F9 {a:Nat} (h:a < 9223372036854775808):U.wrap .i64 (a:Int)=(a:Int):=wrap64 (by omega) (by omega)
theorem H9 {a b:Nat} (ha:a < 4611686018427387904) (hb:b < 4611686018427387904):U.ar .or .i64 (a:Int) (b:Int)=((a||| b:Nat):Int):=by
  show IntKind.i64.wrap ((BitVec.ofInt 64 (a:Int)||| BitVec.ofInt 64 (b:Int)).toNat:Int)=_
  have h:(a||| b) < 2 ^ 62:=Nat.or_lt_two_pow (by omega) (by omega)
  have e:(BitVec.ofInt 64 (a:Int)||| BitVec.ofInt 64 (b:Int)).toNat=a||| b:=by
    rw [BitVec.toNat_or,BitVec.ofInt_natCast,BitVec.ofInt_natCast,BitVec.toNat_ofNat,BitVec.toNat_ofNat,Nat.mod_eq_of_lt (by omega),Nat.mod_eq_of_lt (by omega)]
  rw [e,wrap64 (by omega) (by omega)]
theorem Zb {a b:Nat} (ha:a < 4611686018427387904) (hb:b < 4611686018427387904):U.ar .and .i64 (a:Int) (b:Int)=((a&&& b:Nat):Int):=by
  show IntKind.i64.wrap ((BitVec.ofInt 64 (a:Int)&&& BitVec.ofInt 64 (b:Int)).toNat:Int)=_
  have h:(a&&& b)≤b:=Nat.and_le_right
  have e:(BitVec.ofInt 64 (a:Int)&&& BitVec.ofInt 64 (b:Int)).toNat=a&&& b:=by
    rw [BitVec.toNat_and,BitVec.ofInt_natCast,BitVec.ofInt_natCast,BitVec.toNat_ofNat,BitVec.toNat_ofNat,Nat.mod_eq_of_lt (by omega),Nat.mod_eq_of_lt (by omega)]
  rw [e,wrap64 (by omega) (by omega)]
theorem tA {a k:Nat} (hk:k≤64) (h:a*2 ^ k < 9223372036854775808):U.ar .shl .i64 (a:Int) (k:Int)=((a*2 ^ k:Nat):Int):=by
  show IntKind.i64.wrap ((a:Int)*2 ^ (min ((k:Int).toNat) 64))=_
  have e:min ((k:Int).toNat) 64=k:=by omega
  have e2:(a:Int)*2 ^ k=((a*2 ^ k:Nat):Int):=by simp
  rw [e,e2,wrap64 (by omega) (by omega)]
theorem vz (a:Nat) {k:Nat} (hk:k≤64):U.ar .shr .i64 (a:Int) (k:Int)=((a / 2 ^ k:Nat):Int):=by
  show (a:Int).fdiv (2 ^ (min ((k:Int).toNat) 64))=_
  have e:min ((k:Int).toNat) 64=k:=by omega
  have e2:((2:Int) ^ k)=((2 ^ k:Nat):Int):=by simp
  rw [e,e2,← Int.ofNat_fdiv]
theorem Dn {a x k:Nat} (h:a < 2 ^ k):a||| x*2 ^ k=a+x*2 ^ k:=by
  rw [Nat.or_comm,Nat.mul_comm x,← Nat.two_pow_add_eq_or_of_lt h,Nat.add_comm]
theorem p7 (x:Nat):D.int .u8 (U.wrap .u8 (x:Int))=ef (UInt8.ofNat x):=by
  show D.int .u8 (IntKind.u8.wrap (x:Int))=_
  simp only [ef,IntKind.wrap,IntKind.bits,IntKind.signed]
  simp
theorem iu {R:Type} {x y:R} (xs:List UInt8):br (U.flat (bytes xs)) x y=x:=by
  have:U.flat (bytes xs)=true:=by
    show (bytes xs).all hL=true
    rw [List.all_eq_true]
    intro d hd
    obtain ⟨a,_,rfl⟩:=List.mem_map.1 hd
    rfl
  rw [this,aJ]
theorem Dp (x:UInt8):[ef x]=bytes [x]:=rfl
theorem fU (xs ys:List UInt8):List.append (bytes xs) (bytes ys)=bytes (xs++ys):=by simp [bytes]
def gl (n:Nat):List UInt8:=if h:n < 128 then [UInt8.ofNat n] else UInt8.ofNat (n % 128+128)::gl (n / 128)
termination_by n
decreasing_by omega
theorem ql:∀ (k n:Nat),n < 128 ^ (k+1)→(gl n).length≤k+1
  | 0,n,h=>by
    rw [gl,dif_pos (by omega)]
    simp
  | k+1,n,h=>by
    rw [gl]
    split
    · simp
    · have:n / 128 < 128 ^ (k+1):=by
        apply Nat.div_lt_of_lt_mul
        rw [Nat.pow_succ] at h
        omega
      have:=ql k (n / 128) this
      simp only [List.length_cons]
      omega
def db (a:Int):List UInt8:=if 0≤a∧a≤2147483647 then gl a.toNat else []
theorem fa (a:Int):(db a).length≤5:=by
  unfold db
  split
  · exact ql 4 _ (by omega)
  · simp
theorem xC:∀ (k n:Nat) (acc:List UInt8),n < 128 ^ (k+1)→n < 2147483648→acc.length+(gl n).length < 1000000→WP 127 Try.f127 [.undef] 0 (jS (n:Int) acc.length (bytes acc)) (.sl none 1 (acc++gl n).length (bytes (acc++gl n)),[.undef])
  | k,n,acc,hk,hn,hl=>by
    by_cases h:n < 128
    · refine WP.fin fun J=>?_
      rw [tv,gl,dif_pos h]
      rw [gl,dif_pos h] at hl
      simp only [List.length_singleton] at hl
      simp (disch:=omega) only [bB,p7,Dp,iu,eW,aJ,fU,bf,zQ]
      simp
    · cases k with
      | zero=>omega
      | succ k=>
        have e:acc++gl n=(acc++[UInt8.ofNat (n % 128+128)])++gl (n / 128):=by
          conv=>lhs; rw [gl,dif_neg h]
          simp
        have hlen:(gl n).length=(gl (n / 128)).length+1:=by
          conv=>lhs; rw [gl,dif_neg h]
          simp
        have hd:n / 128 < 128 ^ (k+1):=by
          apply Nat.div_lt_of_lt_mul
          rw [Nat.pow_succ] at hk
          omega
        have ih:=xC k (n / 128) (acc++[UInt8.ofNat (n % 128+128)]) hd (by omega) (by simp only [List.length_append,List.length_singleton]; omega)
        rw [e]
        refine WP.go _ ih fun J hJ=>?_
        rw [tv]
        have r1:U.ar .rem .i64 (n:Int) 128=((n % 128:Nat):Int):=rfl
        have r2:U.ar .add .i64 ((n % 128:Nat):Int) 128=((n % 128+128:Nat):Int):=qT (b:=128) (by omega)
        have r3:U.ar .quo .i64 (n:Int) 128=((n / 128:Nat):Int):=QA (b:=128) (by omega)
        simp (disch:=omega) only [aW,dW,bt,bM,aJ,bg,r1,r2,r3,p7,Dp,iu,eW,fU]
        have e2:(acc++[UInt8.ofNat (n % 128+128)]).length=acc.length+1:=by simp
        rw [e2] at hJ
        exact hJ
theorem G8 (a:Int):Cm 127 [.int .i64 a] (.sl none 1 (db a).length (bytes (db a)),[.undef]):=by
  by_cases h:0≤a∧a≤2147483647
  · obtain ⟨n,rfl⟩:∃ n:Nat,a=n:=⟨a.toNat,by omega⟩
    have e:db (n:Int)=gl n:=by unfold db; rw [if_pos h]; rfl
    rw [e]
    have hl:=ql 4 n (by omega)
    refine Cm.go xj [.undef] 0 (jS (n:Int) 0 []) (xC 4 n [] (by omega) (by omega) (by simp; omega)) fun J hJ=>?_
    rw [xm]
    simp only [jL,aC,aq,decide_eq_true h,bt,bM,aJ,bg]
    exact hJ
  · have e:db a=[]:=by unfold db; rw [if_neg h]
    rw [e]
    refine Cm.fin xj fun J=>?_
    rw [xm]
    simp only [jL,aC,aq,decide_eq_false h,bt,bM,aJ,bg]
    rfl
theorem xD:∀ (k n:Nat) (acc:List UInt8),n < 128 ^ (k+1)→n < 2147483648→acc.length+(gl n).length < 1000000→WP 139 Try.f139 [.undef] 0 (jT (n:Int) acc.length (bytes acc)) (.sl none 1 (acc++gl n).length (bytes (acc++gl n)),[.undef])
  | k,n,acc,hk,hn,hl=>by
    by_cases h:n < 128
    · refine WP.fin fun J=>?_
      rw [tw,gl,dif_pos h]
      rw [gl,dif_pos h] at hl
      simp only [List.length_singleton] at hl
      simp (disch:=omega) only [bB,p7,Dp,iu,eW,aJ,fU,bf,zQ]
      simp
    · cases k with
      | zero=>omega
      | succ k=>
        have e:acc++gl n=(acc++[UInt8.ofNat (n % 128+128)])++gl (n / 128):=by
          conv=>lhs; rw [gl,dif_neg h]
          simp
        have hlen:(gl n).length=(gl (n / 128)).length+1:=by
          conv=>lhs; rw [gl,dif_neg h]
          simp
        have hd:n / 128 < 128 ^ (k+1):=by
          apply Nat.div_lt_of_lt_mul
          rw [Nat.pow_succ] at hk
          omega
        have ih:=xD k (n / 128) (acc++[UInt8.ofNat (n % 128+128)]) hd (by omega) (by simp only [List.length_append,List.length_singleton]; omega)
        rw [e]
        refine WP.go _ ih fun J hJ=>?_
        rw [tw]
        have r1:U.ar .rem .i64 (n:Int) 128=((n % 128:Nat):Int):=rfl
        have r2:U.ar .add .i64 ((n % 128:Nat):Int) 128=((n % 128+128:Nat):Int):=qT (b:=128) (by omega)
        have r3:U.ar .quo .i64 (n:Int) 128=((n / 128:Nat):Int):=QA (b:=128) (by omega)
        simp (disch:=omega) only [aW,dW,bt,bM,aJ,bg,r1,r2,r3,p7,Dp,iu,eW,fU]
        have e2:(acc++[UInt8.ofNat (n % 128+128)]).length=acc.length+1:=by simp
        rw [e2] at hJ
        exact hJ
theorem G9 (a:Int):Cm 139 [.int .i64 a] (.sl none 1 (db a).length (bytes (db a)),[.undef]):=by
  by_cases h:0≤a∧a≤2147483647
  · obtain ⟨n,rfl⟩:∃ n:Nat,a=n:=⟨a.toNat,by omega⟩
    have e:db (n:Int)=gl n:=by unfold db; rw [if_pos h]; rfl
    rw [e]
    have hl:=ql 4 n (by omega)
    refine Cm.go xq [.undef] 0 (jT (n:Int) 0 []) (xD 4 n [] (by omega) (by omega) (by simp; omega)) fun J hJ=>?_
    rw [xr]
    simp (disch:=omega) only [bB]
    exact hJ
  · have e:db a=[]:=by unfold db; rw [if_neg h]
    rw [e]
    refine Cm.fin xq fun J=>?_
    rw [xr]
    by_cases h0:a < 0
    · simp (disch:=omega) only [aW]
      rfl
    · simp (disch:=omega) only [bB,aW]
      rfl
section
variable (t:bJ Rz)
theorem lr (a:Int):aY 127 [.int .i64 a] t=feed t [.sl none 1 (db a).length (bytes (db a))]:=bF (G8 a) (by kernel_rfl) t
theorem Ha (a:Int):aY 139 [.int .i64 a] t=feed t [.sl none 1 (db a).length (bytes (db a))]:=bF (G9 a) (by kernel_rfl) t
end
def o5 (a:Nat):List UInt8:=[UInt8.ofNat a,UInt8.ofNat (a / 256),UInt8.ofNat (a / 65536),UInt8.ofNat (a / 16777216)]
theorem Zc (a:Nat) (h:a < 4611686018427387904):Cm 131 [.int .i64 (a:Int)] (.sl none 1 4 (bytes (o5 a)),[.undef]):=by
  refine Cm.fin Lj fun J=>?_
  rw [Ll]
  have r1:U.ar .shr .i64 (a:Int) 8=((a / 256:Nat):Int):=vz a (k:=8) (by omega)
  have r2:U.ar .shr .i64 (a:Int) 16=((a / 65536:Nat):Int):=vz a (k:=16) (by omega)
  have r3:U.ar .shr .i64 (a:Int) 24=((a / 16777216:Nat):Int):=vz a (k:=24) (by omega)
  simp (disch:=omega) only [bB,bt,bM,aJ,bg,r1,r2,r3,p7]
  rfl
theorem Wo (x:Nat):UInt8.ofNat (x&&& 255)=UInt8.ofNat x:=by
  apply UInt8.toNat_inj.1
  have:x&&& 255=x % 256:=Nat.and_two_pow_sub_one_eq_mod x 8
  rw [this]
  simp
theorem Wp (a:Nat) (h:a < 4611686018427387904):Cm 119 [.int .i64 (a:Int)] (.sl none 1 4 (bytes (o5 a)),[.undef]):=by
  refine Cm.fin Km fun J=>?_
  rw [Kn]
  have r1:U.ar .shr .i64 (a:Int) 8=((a / 256:Nat):Int):=vz a (k:=8) (by omega)
  have r2:U.ar .shr .i64 (a:Int) 16=((a / 65536:Nat):Int):=vz a (k:=16) (by omega)
  have r3:U.ar .shr .i64 (a:Int) 24=((a / 16777216:Nat):Int):=vz a (k:=24) (by omega)
  have q:∀ x:Nat,x < 4611686018427387904→U.ar .and .i64 (x:Int) 255=((x&&& 255:Nat):Int):=fun x hx=>Zb (b:=255) hx (by omega)
  simp (disch:=omega) only [bB,bt,bM,aJ,bg,r1,r2,r3,q,p7,Wo]
  rfl
def kp:Int × Int × Bool:=(0,0,false)
def hC (b:List UInt8) (p:Nat):Nat→Nat→Nat→Int × Int × Bool
  | 0,_,_=>kp
  | k+1,i,acc=>
    if h:p+i < b.length then
      if 128≤b[p+i].toNat then hC b p k (i+1) (acc+b[p+i].toNat % 128*128 ^ i)
      else if 2147483647 < acc+b[p+i].toNat % 128*128 ^ i∨(b[p+i].toNat=0∧0 < i) then kp
      else (((acc+b[p+i].toNat % 128*128 ^ i:Nat):Int),((p+i+1:Nat):Int),true)
    else kp
def gA (b:List UInt8) (a:Int):Int × Int × Bool:=if a < 0 then kp else hC b a.toNat 5 0 0
abbrev Ia (x:Int × Int × Bool):Rz:=(.aR [.int .i64 x.1,.int .i64 x.2.1,.bool x.2.2],[.undef,.undef])
theorem Dq (i:Nat):128 ^ i=2 ^ (7*i):=by rw [Nat.pow_mul]
theorem xE (g:Bool) (b:List UInt8) (p:Nat) (hb:b.length < 4611686018427387904):∀ (k i acc:Nat),i+k=5→acc < 128 ^ i→WP 138 Try.f138 [.undef,.undef] 0 (lO g b.length (bytes b) (p:Int) (acc:Int) ((128 ^ i:Nat):Int) (i:Int)) (Ia (hC b p k i acc))
  | 0,i,acc,hi,ha=>by
    obtain rfl:i=5:=by omega
    refine WP.fin fun J=>?_
    rw [la]
    simp (disch:=omega) only [bB]
    rfl
  | k+1,i,acc,hi,ha=>by
    have hpw:128 ^ i≤268435456:=by
      have:128 ^ i≤128 ^ 4:=Nat.pow_le_pow_right (by omega) (by omega)
      omega
    have hs:U.ar .sub .i64 (U.bu b.length) (i:Int)=(b.length:Int) - (i:Int):=kX (by simp only [aD]; omega) (by simp only [aD]; omega)
    by_cases h:p+i < b.length
    · have hd:b[p+i].toNat < 256:=b[p+i].toNat_lt
      have hm:b[p+i].toNat % 128 < 128:=Nat.mod_lt _ (by omega)
      have hx:b[p+i].toNat % 128*128 ^ i≤127*128 ^ i:=Nat.mul_le_mul_right _ (by omega)
      have r0:U.ar .add .i64 (p:Int) (i:Int)=((p+i:Nat):Int):=qT (by omega)
      have r1:U.bG (bytes b) (p+i)=(b[p+i].toNat:Int):=vd h
      have r2:U.wrap .i64 (b[p+i].toNat:Int)=(b[p+i].toNat:Int):=F9 (by omega)
      have r3:U.ar .rem .i64 (b[p+i].toNat:Int) 128=((b[p+i].toNat % 128:Nat):Int):=rfl
      have r4:U.ar .mul .i64 ((b[p+i].toNat % 128:Nat):Int) ((128 ^ i:Nat):Int)=((b[p+i].toNat % 128*128 ^ i:Nat):Int):=Ko (by omega)
      have r5:U.ar .add .i64 (acc:Int) ((b[p+i].toNat % 128*128 ^ i:Nat):Int)=((acc+b[p+i].toNat % 128*128 ^ i:Nat):Int):=qT (by omega)
      by_cases hc:128≤b[p+i].toNat
      · have e:hC b p (k+1) i acc=hC b p k (i+1) (acc+b[p+i].toNat % 128*128 ^ i):=by
          rw [hC,dif_pos h,if_pos hc]
        rw [e]
        have ih:=xE g b p hb k (i+1) (acc+b[p+i].toNat % 128*128 ^ i) (by omega) (by rw [Nat.pow_succ]; omega)
        refine WP.go _ ih fun J hJ=>?_
        rw [la]
        have r6:U.ar .mul .i64 ((128 ^ i:Nat):Int) 128=((128 ^ i*128:Nat):Int):=Ko (b:=128) (by omega)
        simp (disch:=first | omega | assumption) only [hs,r0,cM,r1,r2,r3,r4,r5,aW,bE,lz,dW,bf,bt,bM,aJ,bg,zR,r6,dw]
        rw [← Nat.pow_succ]
        exact hJ
      · have r7:U.ar .add .i64 ((p+i:Nat):Int) 1=((p+i+1:Nat):Int):=dw (by omega)
        refine WP.fin fun J=>?_
        rw [la,hC,dif_pos h,if_neg hc]
        simp (disch:=first | omega | assumption) only [hs,r0,cM,r1,r2,r3,r4,r5,aW,bE,lz,dW,bf,bt,bM,aJ,bg,nh,r7]
        by_cases h1:2147483647 < acc+b[p+i].toNat % 128*128 ^ i
        · rw [if_pos (Or.inl h1),aW (by omega)]
          rfl
        · rw [bB (by omega)]
          by_cases h2:b[p+i].toNat=0
          · rw [fH (by omega)]
            by_cases h3:0 < i
            · rw [if_pos (Or.inr ⟨h2,h3⟩),aW (by omega)]
              rfl
            · rw [if_neg (by omega),bB (by omega)]
          · rw [if_neg (by omega),dW (by omega)]
    · refine WP.fin fun J=>?_
      rw [la,hC,dif_neg h]
      simp (disch:=omega) only [hs,aW,bB]
      rfl
theorem xF (g:Bool) (b:List UInt8) (p:Nat) (hb:b.length < 4611686018427387904):∀ (k i acc:Nat),i+k=5→acc < 128 ^ i→WP 132 Try.f132 [.undef,.undef] 0 (jU g b.length (bytes b) (p:Int) (acc:Int) (i:Int)) (Ia (hC b p k i acc))
  | 0,i,acc,hi,ha=>by
    obtain rfl:i=5:=by omega
    refine WP.fin fun J=>?_
    rw [jj]
    simp (disch:=omega) only [bB]
    rfl
  | k+1,i,acc,hi,ha=>by
    have hpw:128 ^ i≤268435456:=by
      have:128 ^ i≤128 ^ 4:=Nat.pow_le_pow_right (by omega) (by omega)
      omega
    have hs:U.ar .sub .i64 (U.bu b.length) (i:Int)=(b.length:Int) - (i:Int):=kX (by simp only [aD]; omega) (by simp only [aD]; omega)
    by_cases h:p+i < b.length
    · have hd:b[p+i].toNat < 256:=b[p+i].toNat_lt
      have hm:b[p+i].toNat % 128 < 128:=Nat.mod_lt _ (by omega)
      have hx:b[p+i].toNat % 128*128 ^ i≤127*128 ^ i:=Nat.mul_le_mul_right _ (by omega)
      have r0:U.ar .add .i64 (p:Int) (i:Int)=((p+i:Nat):Int):=qT (by omega)
      have r1:U.bG (bytes b) (p+i)=(b[p+i].toNat:Int):=vd h
      have r2:U.wrap .i64 (b[p+i].toNat:Int)=(b[p+i].toNat:Int):=F9 (by omega)
      have r3:U.ar .rem .i64 (b[p+i].toNat:Int) 128=((b[p+i].toNat % 128:Nat):Int):=rfl
      have r4:U.ar .mul .i64 7 (i:Int)=((7*i:Nat):Int):=Ko (a:=7) (by omega)
      have r5:U.ar .shl .i64 ((b[p+i].toNat % 128:Nat):Int) ((7*i:Nat):Int)=((b[p+i].toNat % 128*128 ^ i:Nat):Int):=by
        rw [Dq]
        exact tA (by omega) (by rw [← Dq]; omega)
      have r6:U.ar .or .i64 (acc:Int) ((b[p+i].toNat % 128*128 ^ i:Nat):Int)=((acc+b[p+i].toNat % 128*128 ^ i:Nat):Int):=by
        rw [H9 (by omega) (by omega),Dq,Dn (by rw [← Dq]; exact ha)]
      by_cases hc:128≤b[p+i].toNat
      · have e:hC b p (k+1) i acc=hC b p k (i+1) (acc+b[p+i].toNat % 128*128 ^ i):=by
          rw [hC,dif_pos h,if_pos hc]
        rw [e]
        have ih:=xF g b p hb k (i+1) (acc+b[p+i].toNat % 128*128 ^ i) (by omega) (by rw [Nat.pow_succ]; omega)
        refine WP.go _ ih fun J hJ=>?_
        rw [jj]
        simp (disch:=first | omega | assumption) only [hs,r0,cM,r1,r2,r3,r4,r5,r6,aW,bB,nh,bE,lz,dW,bf,bt,bM,aJ,bg,dw]
        exact hJ
      · have r7:U.ar .add .i64 ((p+i:Nat):Int) 1=((p+i+1:Nat):Int):=dw (by omega)
        refine WP.fin fun J=>?_
        rw [jj,hC,dif_pos h,if_neg hc]
        have LN:(b[p+i].toNat:Int) < 128:=by omega
        by_cases h1:2147483647 < acc+b[p+i].toNat % 128*128 ^ i
        · have mY:(2147483647:Int) < ((acc+b[p+i].toNat % 128*128 ^ i:Nat):Int):=by omega
          rw [if_pos (Or.inl h1)]
          simp (disch:=first | omega | assumption) only [hs,r0,cM,r1,r2,r3,r4,r5,r6,aW LN,aW mY,bB,nh,bE,lz,dW,bf,bt,bM,aJ,bg,r7,zQ]
          rfl
        · have mY:((acc+b[p+i].toNat % 128*128 ^ i:Nat):Int)≤2147483647:=by omega
          have h0:(i:Int) < 5:=by omega
          by_cases h2:b[p+i].toNat=0
          · have O1:(b[p+i].toNat:Int)=0:=by omega
            by_cases h3:0 < i
            · have IS:(0:Int) < (i:Int):=by omega
              rw [if_pos (Or.inr ⟨h2,h3⟩)]
              simp (disch:=first | omega | assumption) only [hs,r0,cM,r1,r2,r3,r4,r5,r6,aW h0,aW LN,aW IS,fH O1,bB,nh,bE,lz,dW,bf,bt,bM,aJ,bg,r7]
              rfl
            · have IS:(i:Int)≤0:=by omega
              rw [if_neg (by omega)]
              simp (disch:=first | omega | assumption) only [hs,r0,cM,r1,r2,r3,r4,r5,r6,aW h0,aW LN,bB IS,bB mY,bB,nh,bE,lz,dW,bf,bt,bM,aJ,bg,r7]
          · have O1:(b[p+i].toNat:Int)≠0:=by omega
            rw [if_neg (by omega)]
            simp (disch:=first | omega | assumption) only [hs,r0,cM,r1,r2,r3,r4,r5,r6,aW h0,aW LN,dW O1,bB mY,bB,nh,bE,lz,dW,bf,bt,bM,aJ,bg,r7,zQ]
    · refine WP.fin fun J=>?_
      rw [jj,hC,dif_neg h]
      simp (disch:=omega) only [hs,aW,bB,zR]
      rfl
theorem Hb (g:Bool) (b:List UInt8) (a:Int) (hb:b.length < 4611686018427387904):Cm 138 [.sl (some g) 1 b.length (bytes b),.int .i64 a] (Ia (gA b a)):=by
  unfold gA
  by_cases h:a < 0
  · rw [if_pos h]
    refine Cm.fin xA fun J=>?_
    rw [xB]
    simp (disch:=omega) only [aW]
    rfl
  · rw [if_neg h]
    obtain ⟨p,rfl⟩:∃ n:Nat,a=n:=⟨a.toNat,by omega⟩
    refine Cm.go xA [.undef,.undef] 0 _ (xE g b p hb 5 0 0 rfl (by omega)) fun J hJ=>?_
    rw [xB]
    simp (disch:=omega) only [bB]
    exact hJ
theorem Hc (g:Bool) (b:List UInt8) (a:Int) (hb:b.length < 4611686018427387904):Cm 132 [.sl (some g) 1 b.length (bytes b),.int .i64 a] (Ia (gA b a)):=by
  unfold gA
  by_cases h:a < 0
  · rw [if_pos h]
    refine Cm.go xx [.undef,.undef] 0 (jU g b.length (bytes b) a 0 0) (WP.fin fun J=>?_) fun J hJ=>?_
    · rw [jj]
      simp (disch:=omega) only [aW]
      rfl
    · rw [xz]
      exact hJ
  · rw [if_neg h]
    obtain ⟨p,rfl⟩:∃ n:Nat,a=n:=⟨a.toNat,by omega⟩
    refine Cm.go xx [.undef,.undef] 0 _ (xF g b p hb 5 0 0 rfl (by omega)) fun J hJ=>?_
    rw [xz]
    exact hJ
section
variable (t:bJ Rz)
theorem Hd (g:Bool) (b:List UInt8) (a:Int) (hb:b.length < 4611686018427387904):aY 138 [.sl (some g) 1 b.length (bytes b),.int .i64 a] t=feed t [.int .i64 (gA b a).1,.int .i64 (gA b a).2.1,.bool (gA b a).2.2]:=bF (Hb g b a hb) (by kernel_rfl) t
theorem He (g:Bool) (b:List UInt8) (a:Int) (hb:b.length < 4611686018427387904):aY 132 [.sl (some g) 1 b.length (bytes b),.int .i64 a] t=feed t [.int .i64 (gA b a).1,.int .i64 (gA b a).2.1,.bool (gA b a).2.2]:=bF (Hc g b a hb) (by kernel_rfl) t
end
end Go.Proofs.Ytockoilcnmljiaa
namespace Go.Proofs.Ytockoilcnmljiaa
set_option maxRecDepth 100000
section
variable (pr:cT) (cv:Cv Rz) (J:Nat→St→Option Rz)
theorem Kp:Told cfg Try.prog 124 Try.f124:=⟨by kernel_rfl,Try.func124,by kernel_rfl⟩
theorem Kq (n0:Nat) (c0:List D) (a1:Int) (a2:Bool):bc pr cv J 124 Try.f124 [(.aM [(.sl (some false) 1 n0 c0),(.int .i64 a1),(.bool a2)])]=
    let y1:Option (D × List D):=(some ((.int .i64 0),[(.aM [(.sl (some false) 1 n0 c0),(.int .i64 a1),(.bool false)])]))
    (cv 132 [(.sl (some false) 1 n0 c0),(.int .i64 a1)] (.int (fun ga=>(.int (fun mo=>(.bool (fun ia=>(.done (br (br ia false true) y1 (br (br a2 false true) y1 (some ((.int .i64 ga),[(.aM [(.sl (some false) 1 n0 c0),(.int .i64 mo),(.bool a2)])])))))))))))):=by kernel_rfl
theorem Ab:Told cfg Try.prog 134 Try.f134:=⟨by kernel_rfl,Try.func134,by kernel_rfl⟩
theorem Ac (n0:Nat) (c0:List D) (a1:Int) (a2:Bool):bc pr cv J 134 Try.f134 [(.aM [(.sl (some false) 1 n0 c0),(.int .i64 a1),(.bool a2)])]=
    (br (br a2 false true) (some ((.int .i64 0),[(.aM [(.sl (some false) 1 n0 c0),(.int .i64 a1),(.bool a2)])])) (cv 138 [(.sl (some false) 1 n0 c0),(.int .i64 a1)] (.int (fun ga=>(.int (fun mo=>(.bool (fun ia=>(.done (some ((.int .i64 ga),[(.aM [(.sl (some false) 1 n0 c0),(.int .i64 mo),(.bool ia)])]))))))))))):=by kernel_rfl
def lP (i0:Int) (i1:Int) (n2:Nat) (c3:List D) (i4:Int) (b5:Bool) (n6:Nat) (c7:List D):St:=(St.mk [(0,(.ptr 28 [] 0)),(3,(.ref 10003 [] 0 none)),(4,(.int .i64 i0)),(5,(.int .i64 i1))] [(28,[(.sl (some false) 1 n2 c3),(.int .i64 i4),(.bool b5)]),(10003,[(.sl none 1 n6 c7)])] [] 0)
theorem Hf:Told cfg Try.prog 123 Try.f123:=⟨by kernel_rfl,Try.func123,by kernel_rfl⟩
theorem Hg (n0:Nat) (c0:List D) (a1:Int) (a2:Bool):bc pr cv J 123 Try.f123 [(.aM [(.sl (some false) 1 n0 c0),(.int .i64 a1),(.bool a2)])]=
    (br (br (br (pr.nl c0) true false) true false) (cv 124 [(.aM [(.sl (some false) 1 n0 c0),(.int .i64 a1),(.bool a2)])] (.int (fun ga=>(.iT (fun gj=>(fun qO=>(fun kN=>(.int (fun kO=>(.bool (fun tg=>(.done (br (br (br (pr.nl kN) true false) true false) (J 0 (lP ga 0 qO kN kO tg 0 [])) none))))))))))))) none):=by kernel_rfl
theorem nM (i0:Int) (i1:Int) (n2:Nat) (c3:List D) (i4:Int) (b5:Bool) (n6:Nat) (c7:List D):cA pr cv J 123 Try.f123 [(.aM [])] 0 (lP i0 i1 n2 c3 i4 b5 n6 c7)=
    let y1:List D:=[(.aM [(.sl (some false) 1 n2 c3),(.int .i64 i4),(.bool b5)])]
    let y2:Option (D × List D):=(some ((.sl none 1 n6 c7),y1))
    (br (pr.lt i1 i0) (br b5 (br (br (br (pr.nl c3) true false) true false) (cv 124 y1 (.int (fun ga=>(.iT (fun gj=>(fun qO=>(fun kN=>(.int (fun kO=>(.bool (fun tg=>(.done (br (br (br (pr.nl kN) true false) true false) (br (br (pr.flat [(.int .i64 ga)]) (pr.fits (n6+1) 8) false) (J 0 (lP i0 (pr.ar .add .i64 i1 1) qO kN kO tg (n6+1) (List.append c7 [(.int .i64 ga)]))) none) none))))))))))))) none) y2) y2):=by kernel_rfl
def iI (i0:Int) (i1:Int) (n2:Nat) (c3:List D) (i4:Int) (b5:Bool) (n6:Nat) (c7:List D):St:=(St.mk [(0,(.ptr 28 [] 0)),(3,(.ref 10003 [] 0 none)),(4,(.int .i64 i0)),(5,(.int .i64 i1))] [(28,[(.sl (some false) 1 n2 c3),(.int .i64 i4),(.bool b5)]),(10003,[(.sl none 1 n6 c7)])] [] 0)
theorem yU:Told cfg Try.prog 133 Try.f133:=⟨by kernel_rfl,Try.func133,by kernel_rfl⟩
theorem yV (n0:Nat) (c0:List D) (a1:Int) (a2:Bool):bc pr cv J 133 Try.f133 [(.aM [(.sl (some false) 1 n0 c0),(.int .i64 a1),(.bool a2)])]=
    (br (br (br (pr.nl c0) true false) true false) (cv 134 [(.aM [(.sl (some false) 1 n0 c0),(.int .i64 a1),(.bool a2)])] (.int (fun ga=>(.iT (fun gj=>(fun qO=>(fun kN=>(.int (fun kO=>(.bool (fun tg=>(.done (br (br (br (pr.nl kN) true false) true false) (J 0 (iI ga 0 qO kN kO tg 0 [])) none))))))))))))) none):=by kernel_rfl
theorem kH (i0:Int) (i1:Int) (n2:Nat) (c3:List D) (i4:Int) (b5:Bool) (n6:Nat) (c7:List D):cA pr cv J 133 Try.f133 [(.aM [])] 0 (iI i0 i1 n2 c3 i4 b5 n6 c7)=
    let y1:List D:=[(.aM [(.sl (some false) 1 n2 c3),(.int .i64 i4),(.bool b5)])]
    let y2:Option (D × List D):=(some ((.sl none 1 n6 c7),y1))
    (br (pr.lt i1 i0) (br b5 (br (br (br (pr.nl c3) true false) true false) (cv 134 y1 (.int (fun ga=>(.iT (fun gj=>(fun qO=>(fun kN=>(.int (fun kO=>(.bool (fun tg=>(.done (br (br (br (pr.nl kN) true false) true false) (br (br (pr.flat [(.int .i64 ga)]) (pr.fits (n6+1) 8) false) (J 0 (iI i0 (pr.ar .add .i64 i1 1) qO kN kO tg (n6+1) (List.append c7 [(.int .i64 ga)]))) none) none))))))))))))) none) y2) y2):=by kernel_rfl
end
theorem gn {R:Type} (f:Bool→Nat→List D→bJ R) (g:Bool) (s n:Nat) (cs l:List D):feed (.iT f) (.sl (some g) s n cs::l)=feed (f g n cs) l:=rfl
theorem Dr (b:List UInt8) (p:Nat):∀ k i acc,0≤(hC b p k i acc).1∧(hC b p k i acc).1≤2147483647
  | 0,_,_=>by simp [hC,kp]
  | k+1,i,acc=>by
    rw [hC]
    split
    · split
      · exact Dr b p k _ _
      · split
        · simp [kp]
        · simp only
          omega
    · simp [kp]
theorem Dt (b:List UInt8) (a:Int):0≤(gA b a).1∧(gA b a).1≤2147483647:=by
  unfold gA
  split
  · simp [kp]
  · exact Dr b _ _ _ _
theorem Ga (b:List UInt8) (p:Nat):∀ k i acc,(hC b p k i acc).2.2=true→(p:Int) < (hC b p k i acc).2.1∧(hC b p k i acc).2.1≤b.length
  | 0,_,_,h=>by simp [hC,kp] at h
  | k+1,i,acc,h=>by
    rw [hC] at h ⊢
    split at h
    · rename_i h1
      rw [dif_pos h1]
      split at h
      · rename_i h2
        rw [if_pos h2]
        exact Ga b p k _ _ h
      · rename_i h2
        rw [if_neg h2]
        split at h
        · simp [kp] at h
        · rename_i h3
          rw [if_neg h3]
          simp only
          omega
    · simp [kp] at h
theorem Gb (b:List UInt8) (a:Int) (h:(gA b a).2.2=true):0≤a∧a < (gA b a).2.1∧(gA b a).2.1≤b.length:=by
  unfold gA at h ⊢
  split at h
  · simp [kp] at h
  · rename_i h1
    rw [if_neg h1]
    have:=Ga b a.toNat _ _ _ h
    omega
abbrev uO (b:List UInt8) (c:Int × Bool):D:=.aM [s8 (some false) b,.int .i64 c.1,.bool c.2]
def bd (b:List UInt8) (c:Int × Bool):Int × (Int × Bool):=if (gA b c.1).2.2&&c.2 then ((gA b c.1).1,((gA b c.1).2.1,true)) else (0,(c.1,false))
def bh (b:List UInt8) (c:Int × Bool):Int × (Int × Bool):=if c.2 then ((gA b c.1).1,((gA b c.1).2.1,(gA b c.1).2.2)) else (0,c)
theorem NR (b:List UInt8) (c:Int × Bool):0≤(bd b c).1∧(bd b c).1≤2147483647:=by
  have:=Dt b c.1
  unfold bd
  split<;>simp [this]
theorem NS (b:List UInt8) (c:Int × Bool):0≤(bh b c).1∧(bh b c).1≤2147483647:=by
  have:=Dt b c.1
  unfold bh
  split<;>simp [this]
theorem NT (b:List UInt8) (c:Int × Bool) (hb:b.length < 4611686018427387904):Cm 124 [uO b c] (.int .i64 (bd b c).1,[uO b (bd b c).2]):=by
  obtain ⟨p,k⟩:=c
  refine Cm.fin Kp fun J=>?_
  rw [Kq]
  simp (disch:=assumption) only [He,cB,aC,aq]
  unfold bd
  cases (gA b p).2.2<;>cases k<;>rfl
theorem NU (b:List UInt8) (c:Int × Bool) (hb:b.length < 4611686018427387904):Cm 134 [uO b c] (.int .i64 (bh b c).1,[uO b (bh b c).2]):=by
  obtain ⟨p,k⟩:=c
  refine Cm.fin Ab fun J=>?_
  rw [Ac]
  simp (disch:=assumption) only [Hd,cB,aC,aq]
  unfold bh
  cases k<;>rfl
section
variable (t:bJ Rz)
theorem wE (b:List UInt8) (p:Int) (k:Bool) (hb:b.length < 4611686018427387904):aY 124 [.aM [.sl (some false) 1 b.length (bytes b),.int .i64 p,.bool k]] t=feed t [.int .i64 (bd b (p,k)).1,.sl (some false) 1 b.length (bytes b),.int .i64 (bd b (p,k)).2.1,.bool (bd b (p,k)).2.2]:=bF (NT b (p,k) hb) (by kernel_rfl) t
theorem wF (b:List UInt8) (p:Int) (k:Bool) (hb:b.length < 4611686018427387904):aY 134 [.aM [.sl (some false) 1 b.length (bytes b),.int .i64 p,.bool k]] t=feed t [.int .i64 (bh b (p,k)).1,.sl (some false) 1 b.length (bytes b),.int .i64 (bh b (p,k)).2.1,.bool (bh b (p,k)).2.2]:=bF (NU b (p,k) hb) (by kernel_rfl) t
end
def mu (num:List UInt8→Int × Bool→Int × (Int × Bool)) (b:List UInt8):Nat→Int × Bool→List Int→List Int × (Int × Bool)
  | 0,c,out=>(out,c)
  | k+1,c,out=>if c.2 then mu num b k (num b c).2 (out++[(num b c).1]) else (out,c)
def aL (num:List UInt8→Int × Bool→Int × (Int × Bool)) (b:List UInt8) (c:Int × Bool):List Int × (Int × Bool):=mu num b (num b c).1.toNat (num b c).2 []
theorem QB {R:Type} {x y:R} (a:Int):br (U.flat [.int .i64 a]) x y=x:=rfl
theorem Gc (xs:List Int) (a:Int):List.append (ints xs) [.int .i64 a]=ints (xs++[a]):=by simp [ints]
theorem AP (b:List UInt8) (hb:b.length < 4611686018427387904) (n:Nat) (hn:n≤2147483647):∀ (k i:Nat) (c:Int × Bool) (out:List Int),i+k=n→out.length≤i→WP 123 Try.f123 [.aM []] 0 (lP (n:Int) (i:Int) b.length (bytes b) c.1 c.2 out.length (ints out)) (.sl none 1 (mu bd b k c out).1.length (ints (mu bd b k c out).1),[uO b (mu bd b k c out).2])
  | 0,i,c,out,hi,ho=>by
    refine WP.fin fun J=>?_
    rw [nM]
    simp (disch:=omega) only [bB]
    rfl
  | k+1,i,c,out,hi,ho=>by
    obtain ⟨p,q⟩:=c
    cases q with
    | false=>
      refine WP.fin fun J=>?_
      rw [nM]
      simp (disch:=omega) only [aW,bg]
      rfl
    | true=>
      have e:mu bd b (k+1) (p,true) out=mu bd b k (bd b (p,true)).2 (out++[(bd b (p,true)).1]):=by rw [mu,if_pos rfl]
      rw [e]
      have ih:=AP b hb n hn k (i+1) (bd b (p,true)).2 (out++[(bd b (p,true)).1]) (by omega) (by simp only [List.length_append,List.length_singleton]; omega)
      refine WP.go _ ih fun J hJ=>?_
      rw [nM]
      simp (disch:=first | omega | assumption) only [aW,aJ,eV,bf,wE,cB,gn,aC,aq,QB,eW,Gc,dw]
      have e2:(out++[(bd b (p,true)).1]).length=out.length+1:=by simp
      rw [e2] at hJ
      exact hJ
theorem Ln (b:List UInt8) (c:Int × Bool) (hb:b.length < 4611686018427387904):Cm 123 [uO b c] (.sl none 1 (aL bd b c).1.length (ints (aL bd b c).1),[uO b (aL bd b c).2]):=by
  obtain ⟨p,q⟩:=c
  have hn:=NR b (p,q)
  have en:(((bd b (p,q)).1.toNat:Nat):Int)=(bd b (p,q)).1:=by omega
  refine Cm.go Hf [.aM []] 0 _ (AP b hb (bd b (p,q)).1.toNat (by omega) (bd b (p,q)).1.toNat 0 (bd b (p,q)).2 [] (by omega) (by simp)) fun J hJ=>?_
  rw [Hg]
  simp (disch:=first | omega | assumption) only [aJ,eV,bf,wE,cB,gn,aC,aq]
  rw [en] at hJ
  exact hJ
theorem qm (b:List UInt8) (p:Int) (k:Bool) (hb:b.length < 4611686018427387904) (t:bJ Rz):aY 123 [.aM [.sl (some false) 1 b.length (bytes b),.int .i64 p,.bool k]] t=feed t [.sl none 1 (aL bd b (p,k)).1.length (ints (aL bd b (p,k)).1),.sl (some false) 1 b.length (bytes b),.int .i64 (aL bd b (p,k)).2.1,.bool (aL bd b (p,k)).2.2]:=bF (Ln b (p,k) hb) (by kernel_rfl) t
theorem AQ (b:List UInt8) (hb:b.length < 4611686018427387904) (n:Nat) (hn:n≤2147483647):∀ (k i:Nat) (c:Int × Bool) (out:List Int),i+k=n→out.length≤i→WP 133 Try.f133 [.aM []] 0 (iI (n:Int) (i:Int) b.length (bytes b) c.1 c.2 out.length (ints out)) (.sl none 1 (mu bh b k c out).1.length (ints (mu bh b k c out).1),[uO b (mu bh b k c out).2])
  | 0,i,c,out,hi,ho=>by
    refine WP.fin fun J=>?_
    rw [kH]
    simp (disch:=omega) only [bB]
    rfl
  | k+1,i,c,out,hi,ho=>by
    obtain ⟨p,q⟩:=c
    cases q with
    | false=>
      refine WP.fin fun J=>?_
      rw [kH]
      simp (disch:=omega) only [aW,bg]
      rfl
    | true=>
      have e:mu bh b (k+1) (p,true) out=mu bh b k (bh b (p,true)).2 (out++[(bh b (p,true)).1]):=by rw [mu,if_pos rfl]
      rw [e]
      have ih:=AQ b hb n hn k (i+1) (bh b (p,true)).2 (out++[(bh b (p,true)).1]) (by omega) (by simp only [List.length_append,List.length_singleton]; omega)
      refine WP.go _ ih fun J hJ=>?_
      rw [kH]
      simp (disch:=first | omega | assumption) only [aW,aJ,eV,bf,wF,cB,gn,aC,aq,QB,eW,Gc,dw]
      have e2:(out++[(bh b (p,true)).1]).length=out.length+1:=by simp
      rw [e2] at hJ
      exact hJ
theorem Lo (b:List UInt8) (c:Int × Bool) (hb:b.length < 4611686018427387904):Cm 133 [uO b c] (.sl none 1 (aL bh b c).1.length (ints (aL bh b c).1),[uO b (aL bh b c).2]):=by
  obtain ⟨p,q⟩:=c
  have hn:=NS b (p,q)
  have en:(((bh b (p,q)).1.toNat:Nat):Int)=(bh b (p,q)).1:=by omega
  refine Cm.go yU [.aM []] 0 _ (AQ b hb (bh b (p,q)).1.toNat (by omega) (bh b (p,q)).1.toNat 0 (bh b (p,q)).2 [] (by omega) (by simp)) fun J hJ=>?_
  rw [yV]
  simp (disch:=first | omega | assumption) only [aJ,eV,bf,wF,cB,gn,aC,aq]
  rw [en] at hJ
  exact hJ
theorem qn (b:List UInt8) (p:Int) (k:Bool) (hb:b.length < 4611686018427387904) (t:bJ Rz):aY 133 [.aM [.sl (some false) 1 b.length (bytes b),.int .i64 p,.bool k]] t=feed t [.sl none 1 (aL bh b (p,k)).1.length (ints (aL bh b (p,k)).1),.sl (some false) 1 b.length (bytes b),.int .i64 (aL bh b (p,k)).2.1,.bool (aL bh b (p,k)).2.2]:=bF (Lo b (p,k) hb) (by kernel_rfl) t
end Go.Proofs.Ytockoilcnmljiaa
namespace Go.Proofs.Ytockoilcnmljiaa
set_option maxRecDepth 100000
section
variable (pr:cT) (cv:Cv Rz) (J:Nat→St→Option Rz)
def jk (g0:Bool) (n1:Nat) (c2:List D) (i3:Int) (i4:Int) (n5:Nat) (c6:List D):St:=(St.mk [(3,(.ref 10003 [] 0 none)),(7,(.sl (some g0) 1 n1 c2)),(8,(.int .i64 i3)),(9,(.int .i64 i4))] [(10003,[(.sl none 1 n5 c6)])] [] 0)
theorem EI:Told cfg Try.prog 136 Try.f136:=⟨by kernel_rfl,Try.func136,by kernel_rfl⟩
theorem EJ (g0:Bool) (n0:Nat) (c0:List D):bc pr cv J 136 Try.f136 [(.sl (some g0) 1 n0 c0)]=
    (J 0 (jk g0 n0 c0 (pr.bu n0) 0 0 [])):=by kernel_rfl
theorem rB (g0:Bool) (n1:Nat) (c2:List D) (i3:Int) (i4:Int) (n5:Nat) (c6:List D):cA pr cv J 136 Try.f136 [.undef] 0 (jk g0 n1 c2 i3 i4 n5 c6)=
    (br (pr.lt i4 i3) (br (pr.bT i4 n1) (br (br (pr.cL .i64 c2 (pr.idx 0 i4 1)) true false) (cv 139 [(.int .i64 (pr.bG c2 (pr.idx 0 i4 1)))] (.sl (fun eB=>(fun dR=>(.done (br (br (br (pr.nl dR) true false) true false) (br (br (pr.flat dR) (pr.fits (n5+eB) 1) false) (J 0 (jk g0 n1 c2 i3 (pr.ar .add .i64 i4 1) (n5+eB) (List.append c6 dR))) none) none)))))) none) none) (some ((.sl none 1 n5 c6),[.undef]))):=by kernel_rfl
theorem EK:Told cfg Try.prog 135 Try.f135:=⟨by kernel_rfl,Try.func135,by kernel_rfl⟩
theorem EL (g0:Bool) (n0:Nat) (c0:List D):bc pr cv J 135 Try.f135 [(.sl (some g0) 1 n0 c0)]=
    (cv 136 [(.sl (some true) 1 1 [(.int .i64 (pr.bu n0))])] (.sl (fun eB=>(fun dR=>(.done (br (br (br (pr.nl dR) true false) true false) (cv 136 [(.sl (some g0) 1 n0 c0)] (.sl (fun qO=>(fun kN=>(.done (br (br (br (pr.nl kN) true false) true false) (br (br (pr.flat kN) (pr.fits (eB+qO) 1) false) (some ((.sl none 1 (eB+qO) (List.append dR kN)),[.undef])) none) none)))))) none)))))):=by kernel_rfl
def jV (i0:Int) (g1:Bool) (n2:Nat) (c3:List D) (g4:Bool) (n5:Nat) (c6:List D) (b7:Bool) (b8:Bool) (b9:Bool) (i10:Int) (dX:Nat) (eC:List D):St:=(St.mk [(1,(.ptr 1 [] 0)),(3,(.ref 10003 [] 0 none)),(4,(.int .i64 i0))] [(1,[(.sl (some g1) 1 n2 c3),(.sl (some g4) 1 n5 c6),(.bool b7),(.bool b8),(.bool b9),(.int .i64 i10)]),(10003,[(.sl none 1 dX eC)])] [] 0)
def jW (i0:Int) (g1:Bool) (n2:Nat) (c3:List D) (g4:Bool) (n5:Nat) (c6:List D) (b7:Bool) (b8:Bool) (b9:Bool) (i10:Int) (dX:Nat) (eC:List D):St:=(St.mk [(1,(.ptr 1 [] 0)),(3,(.ref 10003 [] 0 none)),(5,(.int .i64 i0))] [(1,[(.sl (some g1) 1 n2 c3),(.sl (some g4) 1 n5 c6),(.bool b7),(.bool b8),(.bool b9),(.int .i64 i10)]),(10003,[(.sl none 1 dX eC)])] [] 0)
def jX (i0:Int) (i1:Int) (g2:Bool) (n3:Nat) (c4:List D) (g5:Bool) (n6:Nat) (c7:List D) (b8:Bool) (b9:Bool) (hZ:Bool) (i11:Int) (gv:Nat) (gV:List D):St:=(St.mk [(1,(.ptr 1 [] 0)),(3,(.ref 10003 [] 0 none)),(5,(.int .i64 i0)),(6,(.int .i64 i1))] [(1,[(.sl (some g2) 1 n3 c4),(.sl (some g5) 1 n6 c7),(.bool b8),(.bool b9),(.bool hZ),(.int .i64 i11)]),(10003,[(.sl none 1 gv gV)])] [] 0)
theorem tB:Told cfg Try.prog 118 Try.f118:=⟨by kernel_rfl,Try.func118,by kernel_rfl⟩
theorem tC (g0:Bool) (n0:Nat) (c0:List D) (g1:Bool) (n1:Nat) (c1:List D) (a2:Bool) (a3:Bool) (a4:Bool) (a5:Int):bc pr cv J 118 Try.f118 [(.agg [(.sl (some g0) 1 n0 c0),(.sl (some g1) 1 n1 c1),(.bool a2),(.bool a3),(.bool a4),(.int .i64 a5)])]=
    let y1:List D:=[(.sl (some g0) 1 n0 c0),(.sl (some g1) 1 n1 c1),(.bool a2),(.bool a3),(.bool a4),(.int .i64 a5)]
    (cv 66 [(.agg y1)] (.bool (fun ck=>(.done (br (br ck false true) (some ((.sl none 1 0 []),[.undef])) (cv 127 [(.int .i64 (pr.bu n0))] (.sl (fun Zd=>(fun QC=>(.done (br (br (br (pr.nl QC) true false) true false) (J 0 (jV 0 g0 n0 c0 g1 n1 c1 a2 a3 a4 a5 Zd QC)) none))))))))))):=by kernel_rfl
theorem po (i0:Int) (g1:Bool) (n2:Nat) (c3:List D) (g4:Bool) (n5:Nat) (c6:List D) (b7:Bool) (b8:Bool) (b9:Bool) (i10:Int) (dX:Nat) (eC:List D):cA pr cv J 118 Try.f118 [.undef] 0 (jV i0 g1 n2 c3 g4 n5 c6 b7 b8 b9 i10 dX eC)=
    (br (pr.lt i0 (pr.bu n2)) (br (pr.bT i0 n2) (br (br (pr.cL .i64 c3 (pr.idx 0 i0 1)) true false) (cv 127 [(.int .i64 (pr.bG c3 (pr.idx 0 i0 1)))] (.sl (fun eB=>(fun dR=>(.done (br (br (br (pr.nl dR) true false) true false) (br (br (pr.flat dR) (pr.fits (dX+eB) 1) false) (J 0 (jV (pr.ar .add .i64 i0 1) g1 n2 c3 g4 n5 c6 b7 b8 b9 i10 (dX+eB) (List.append eC dR))) none) none)))))) none) none) (J 2 (jW 0 g1 n2 c3 g4 n5 c6 b7 b8 b9 i10 dX eC))):=by kernel_rfl
theorem pq (i0:Int) (g1:Bool) (n2:Nat) (c3:List D) (g4:Bool) (n5:Nat) (c6:List D) (b7:Bool) (b8:Bool) (b9:Bool) (i10:Int) (dX:Nat) (eC:List D):cA pr cv J 118 Try.f118 [.undef] 2 (jW i0 g1 n2 c3 g4 n5 c6 b7 b8 b9 i10 dX eC)=
    (br (pr.lt i0 3) (br (pr.bT i0 n5) (br (br (pr.dq 1 c6 (pr.idx 0 i0 1)) true false) (cv 127 [(.int .i64 (pr.bu (pr.cg c6 (pr.idx 0 i0 1))))] (.sl (fun eB=>(fun dR=>(.done (br (br (br (pr.nl dR) true false) true false) (br (br (pr.flat dR) (pr.fits (dX+eB) 1) false) (J 4 (jX i0 0 g1 n2 c3 g4 n5 c6 b7 b8 b9 i10 (dX+eB) (List.append eC dR))) none) none)))))) none) none) (cv 39 [(.bool b7)] (.int (fun th=>(.done (cv 39 [(.bool b8)] (.int (fun F2=>(.done (cv 39 [(.bool b9)] (.int (fun kO=>(.done (cv 127 [(.int .i64 (pr.ar .add .i64 (pr.ar .add .i64 th (pr.ar .mul .i64 2 F2)) (pr.ar .mul .i64 4 kO)))] (.sl (fun Mr=>(fun Kr=>(.done (br (br (br (pr.nl Kr) true false) true false) (br (br (pr.flat Kr) (pr.fits (dX+Mr) 1) false) (cv 127 [(.int .i64 i10)] (.sl (fun vn7=>(fun Ze=>(.done (br (br (br (pr.nl Ze) true false) true false) (br (br (pr.flat Ze) (pr.fits ((dX+Mr)+vn7) 1) false) (some ((.sl none 1 ((dX+Mr)+vn7) (List.append (List.append eC Kr) Ze)),[.undef])) none) none)))))) none) none))))))))))))))))))):=by kernel_rfl
theorem pv (i0:Int) (i1:Int) (g2:Bool) (n3:Nat) (c4:List D) (g5:Bool) (n6:Nat) (c7:List D) (b8:Bool) (b9:Bool) (hZ:Bool) (i11:Int) (gv:Nat) (gV:List D):cA pr cv J 118 Try.f118 [.undef] 4 (jX i0 i1 g2 n3 c4 g5 n6 c7 b8 b9 hZ i11 gv gV)=
    (br (pr.bT i0 n6) (br (br (pr.dq 1 c7 (pr.idx 0 i0 1)) true false) (br (pr.lt i1 (pr.bu (pr.cg c7 (pr.idx 0 i0 1)))) (br (pr.bT i0 n6) (br (br (pr.dq 1 c7 (pr.idx 0 i0 1)) true false) (br (pr.bT i1 (pr.cg c7 (pr.idx 0 i0 1))) (br (br (pr.cL .i64 (pr.cq c7 (pr.idx 0 i0 1)) (pr.idx 0 i1 1)) true false) (cv 127 [(.int .i64 (pr.bG (pr.cq c7 (pr.idx 0 i0 1)) (pr.idx 0 i1 1)))] (.sl (fun eB=>(fun dR=>(.done (br (br (br (pr.nl dR) true false) true false) (br (br (pr.flat dR) (pr.fits (gv+eB) 1) false) (J 4 (jX i0 (pr.ar .add .i64 i1 1) g2 n3 c4 g5 n6 c7 b8 b9 hZ i11 (gv+eB) (List.append gV dR))) none) none)))))) none) none) none) none) (J 2 (jW (pr.ar .add .i64 i0 1) g2 n3 c4 g5 n6 c7 b8 b9 hZ i11 gv gV))) none) none):=by kernel_rfl
def hD (g0:Bool) (n1:Nat) (c2:List D) (i3:Int) (i4:Int) (g5:Bool) (n6:Nat) (c7:List D) (b8:Bool) (b9:Bool) (hZ:Bool) (i11:Int) (gv:Nat) (gV:List D):St:=(St.mk [(1,(.ptr 1 [] 0)),(3,(.ref 10003 [] 0 none)),(13,(.sl (some g0) 1 n1 c2)),(14,(.int .i64 i3)),(15,(.int .i64 i4))] [(1,[(.sl (some g5) 1 n6 c7),(.sl (some g0) 1 n1 c2),(.bool b8),(.bool b9),(.bool hZ),(.int .i64 i11)]),(10003,[(.sl none 1 gv gV)])] [] 0)
theorem tD:Told cfg Try.prog 130 Try.f130:=⟨by kernel_rfl,Try.func130,by kernel_rfl⟩
theorem tE (g0:Bool) (n0:Nat) (c0:List D) (g1:Bool) (n1:Nat) (c1:List D) (a2:Bool) (a3:Bool) (a4:Bool) (a5:Int):bc pr cv J 130 Try.f130 [(.agg [(.sl (some g0) 1 n0 c0),(.sl (some g1) 1 n1 c1),(.bool a2),(.bool a3),(.bool a4),(.int .i64 a5)])]=
    let y1:List D:=[(.sl (some g0) 1 n0 c0),(.sl (some g1) 1 n1 c1),(.bool a2),(.bool a3),(.bool a4),(.int .i64 a5)]
    (cv 74 [(.agg y1)] (.bool (fun ck=>(.done (br (br ck false true) (some ((.sl none 1 0 []),[.undef])) (cv 135 [(.sl (some g0) 1 n0 c0)] (.sl (fun Zd=>(fun QC=>(.done (br (br (br (pr.nl QC) true false) true false) (J 0 (hD g1 n1 c1 (pr.bu n1) 0 g0 n0 c0 a2 a3 a4 a5 Zd QC)) none))))))))))):=by kernel_rfl
theorem pw (g0:Bool) (n1:Nat) (c2:List D) (i3:Int) (i4:Int) (g5:Bool) (n6:Nat) (c7:List D) (b8:Bool) (b9:Bool) (hZ:Bool) (i11:Int) (gv:Nat) (gV:List D):cA pr cv J 130 Try.f130 [.undef] 0 (hD g0 n1 c2 i3 i4 g5 n6 c7 b8 b9 hZ i11 gv gV)=
    (br (pr.lt i4 i3) (br (pr.bT i4 n1) (br (br (pr.dq 1 c2 (pr.idx 0 i4 1)) true false) (cv 135 [(.sl (some (pr.cJ c2 (pr.idx 0 i4 1))) 1 (pr.cg c2 (pr.idx 0 i4 1)) (pr.cq c2 (pr.idx 0 i4 1)))] (.sl (fun eB=>(fun dR=>(.done (br (br (br (pr.nl dR) true false) true false) (br (br (pr.flat dR) (pr.fits (gv+eB) 1) false) (J 0 (hD g0 n1 c2 i3 (pr.ar .add .i64 i4 1) g5 n6 c7 b8 b9 hZ i11 (gv+eB) (List.append gV dR))) none) none)))))) none) none) (cv 137 [(.bool b8),(.int .i64 1)] (.int (fun th=>(.done (cv 137 [(.bool b9),(.int .i64 2)] (.int (fun F2=>(.done (cv 137 [(.bool hZ),(.int .i64 4)] (.int (fun kO=>(.done (cv 136 [(.sl (some true) 1 2 [(.int .i64 (pr.ar .add .i64 (pr.ar .add .i64 th F2) kO)),(.int .i64 i11)])] (.sl (fun Mr=>(fun Kr=>(.done (br (br (br (pr.nl Kr) true false) true false) (br (br (pr.flat Kr) (pr.fits (gv+Mr) 1) false) (some ((.sl none 1 (gv+Mr) (List.append gV Kr)),[.undef])) none) none))))))))))))))))))):=by kernel_rfl
end
def eu (xs:List Int):List UInt8:=xs.flatMap db
theorem jv:∀ xs:List Int,(eu xs).length≤5*xs.length
  | []=>by simp [eu]
  | x::xs=>by
    have h1:=jv xs
    have h2:=fa x
    simp only [eu,List.flatMap_cons,List.length_append,List.length_cons] at h1 ⊢
    omega
theorem uP {xs:List Int} {i:Nat} (h:i < xs.length):eu (xs.take (i+1))=eu (xs.take i)++db xs[i]:=by
  unfold eu
  rw [← List.take_append_getElem h,List.flatMap_append,List.flatMap_cons,List.flatMap_nil,List.append_nil]
def cO (xs:List Int):List UInt8:=db (xs.length:Int)++eu xs
theorem lQ (xs:List Int):(cO xs).length≤5+5*xs.length:=by
  have h1:=jv xs
  have h2:=fa (xs.length:Int)
  simp only [cO,List.length_append]
  omega
def fc (xss:List (List Int)):List UInt8:=xss.flatMap cO
theorem mv:∀ xss:List (List Int),(∀ xs∈xss,xs.length≤1048576)→(fc xss).length≤5242885*xss.length
  | [],_=>by simp [fc]
  | xs::xss,h=>by
    have h1:=mv xss fun x hx=>h x (List.mem_cons_of_mem _ hx)
    have h2:=lQ xs
    have h3:=h xs List.mem_cons_self
    simp only [fc,List.flatMap_cons,List.length_append,List.length_cons] at h1 ⊢
    omega
theorem Du {xss:List (List Int)} {i:Nat} (h:i < xss.length):fc (xss.take (i+1))=fc (xss.take i)++cO xss[i]:=by
  unfold fc
  rw [← List.take_append_getElem h,List.flatMap_append,List.flatMap_cons,List.flatMap_nil,List.append_nil]
def p8 (b:Bool) (k:Int):Int:=if b then k else 0
def lu (m:aK):Int:=p8 m.bY 1+p8 m.bQ 2+p8 m.held 4
def ct (m:aK):List UInt8:=if fx m then (cO m.aA++fc m.bits)++(db (lu m)++db m.last) else []
theorem Wq (b:Bool):Cm 39 [.bool b] (.int .i64 (p8 b 1),[.undef]):=by
  refine Cm.fin Ke fun J=>?_
  rw [Kf]
  cases b<;>rfl
theorem Zf (b:Bool) (k:Int):Cm 137 [.bool b,.int .i64 k] (.int .i64 (p8 b k),[.undef,.undef]):=by
  refine Cm.fin K9 fun J=>?_
  rw [Lb]
  cases b<;>rfl
theorem QD (g:Bool) (xs:List Int) (hb:xs.length≤1048576):Cm 136 [.sl (some g) 1 xs.length (ints xs)] (.sl none 1 (eu xs).length (bytes (eu xs)),[.undef]):=by
  refine Cm.go EI [.undef] 0 (jk g xs.length (ints xs) xs.length (0:Nat) 0 []) ?_ fun J hJ=>?_
  · refine WP.loop (H:=fun i:Nat=>jk g xs.length (ints xs) xs.length (i:Nat) (eu (xs.take i)).length (bytes (eu (xs.take i)))) (n:=xs.length) (fun _=>True) (fun i hi _ ih=>WP.go _ (ih trivial) fun J hJ=>?_) (fun _=>WP.fin fun J=>?_) 0 (Nat.zero_le _) trivial
    · have l1:=jv (xs.take i)
      have l2:=fa xs[i]
      have l3:(xs.take i).length≤xs.length:=by simp; omega
      rw [rB]
      simp (disch:=first | omega | assumption) only [aW,bE,cM,dC,dD,Ha,dZ,aq,eV,aJ,bf,iu,eW,fU,dw]
      rw [uP hi,List.length_append] at hJ
      exact hJ
    · rw [rB]
      simp (disch:=omega) only [bB,List.take_length]
  · rw [EJ]
    exact hJ
section
variable (t:bJ Rz)
theorem EM (b:Bool):aY 39 [.bool b] t=feed t [.int .i64 (p8 b 1)]:=bF (Wq b) (by kernel_rfl) t
theorem Zg (b:Bool) (k:Int):aY 137 [.bool b,.int .i64 k] t=feed t [.int .i64 (p8 b k)]:=bF (Zf b k) (by kernel_rfl) t
theorem yW (g:Bool) (xs:List Int) (n:Nat) (hn:n=xs.length) (hb:xs.length≤1048576):aY 136 [.sl (some g) 1 n (ints xs)] t=feed t [.sl none 1 (eu xs).length (bytes (eu xs))]:=by subst hn; exact bF (QD g xs hb) (by kernel_rfl) t
theorem NV (g:Bool) (a:Int):aY 136 [.sl (some g) 1 1 [.int .i64 a]] t=feed t [.sl none 1 (db a).length (bytes (db a))]:=by
  have e:eu [a]=db a:=by simp [eu]
  rw [← e]
  exact yW t g [a] 1 rfl (by simp)
theorem NW (g:Bool) (a b:Int):aY 136 [.sl (some g) 1 2 [.int .i64 a,.int .i64 b]] t=feed t [.sl none 1 (db a++db b).length (bytes (db a++db b))]:=by
  have e:eu [a,b]=db a++db b:=by simp [eu]
  rw [← e]
  exact yW t g [a,b] 2 rfl (by simp)
end
theorem QE (g:Bool) (xs:List Int) (hb:xs.length≤1048576):Cm 135 [.sl (some g) 1 xs.length (ints xs)] (.sl none 1 (cO xs).length (bytes (cO xs)),[.undef]):=by
  refine Cm.fin EK fun J=>?_
  rw [EL]
  have l1:=jv xs
  have l2:=fa (xs.length:Int)
  simp (disch:=first | omega | assumption | rfl) only [aD,NV,yW,dZ,aq,eV,aJ,bf,iu,eW,fU]
  unfold cO
  rw [List.length_append]
theorem Gd (g:Bool) (xs:List Int) (n:Nat) (hn:n=xs.length) (hb:xs.length≤1048576) (t:bJ Rz):aY 135 [.sl (some g) 1 n (ints xs)] t=feed t [.sl none 1 (cO xs).length (bytes (cO xs))]:=by subst hn; exact bF (QE g xs hb) (by kernel_rfl) t
theorem AR {m:aK} (h:fx m=true):m.bits.length=3:=by
  simp only [fx,Bool.and_eq_true,beq_iff_eq] at h
  omega
abbrev Ge (l:List UInt8):Rz:=(.sl none 1 l.length (bytes l),[.undef])
theorem By (g:Bool) (m:aK) (hm:cU m):Cm 130 [.agg (cn (some g) m)] (Ge (ct m)):=by
  unfold ct
  have b0:=hm.aA
  cases cw:fx m with
  | false=>
    refine Cm.fin tD fun J=>?_
    rw [tE]
    simp (disch:=assumption) only [xe,aC,aq,cw,bt,bM,bg]
    rfl
  | true=>
    rw [if_pos rfl]
    have hl:=AR cw
    have l0:=lQ m.aA
    have l3:=fa (lu m)
    have l4:=fa m.last
    refine Cm.go tD [.undef] 0 (hD g m.bits.length (rows (some g) m.bits) m.bits.length (0:Nat) g m.aA.length (ints m.aA) m.bY m.bQ m.held m.last (cO m.aA).length (bytes (cO m.aA))) ?_ fun J hJ=>?_
    · have:=WP.loop (f:=130) (fn:=Try.f130) (sk:=[.undef]) (j:=0) (r:=Ge ((cO m.aA++fc m.bits)++(db (lu m)++db m.last))) (H:=fun i:Nat=>hD g m.bits.length (rows (some g) m.bits) m.bits.length (i:Nat) g m.aA.length (ints m.aA) m.bY m.bQ m.held m.last (cO m.aA++fc (m.bits.take i)).length (bytes (cO m.aA++fc (m.bits.take i)))) (n:=m.bits.length) (fun _=>True) (fun i hi _ ih=>WP.go _ (ih trivial) fun J hJ=>?_) (fun _=>WP.fin fun J=>?_) 0 (Nat.zero_le _) trivial
      · simpa [fc] using this
      · have l1:=mv (m.bits.take i) fun x hx=>hm.bits.2 x (List.mem_of_mem_take hx)
        have l5:(m.bits.take i).length≤3:=by simp; omega
        have l2:=lQ m.bits[i]
        have b2:=hm.bits.2 _ (List.getElem_mem hi)
        have l6:(cO m.aA++fc (m.bits.take i)).length≤30000000:=by rw [List.length_append]; omega
        rw [pw]
        simp (disch:=first | omega | assumption) only [aW,bE,cM,gW,gX,gY,iA,Gd,dZ,aq,eV,aJ,bf,iu,eW,fU,dw]
        rw [Du hi,← List.append_assoc,List.length_append (bs:=cO m.bits[i])] at hJ
        exact hJ
      · have l1:=mv m.bits hm.bits.2
        have l6:(cO m.aA++fc m.bits).length≤30000000:=by rw [List.length_append]; omega
        have l7:(db (lu m)++db m.last).length≤10:=by rw [List.length_append]; omega
        have hf:U.ar .add .i64 (U.ar .add .i64 (p8 m.bY 1) (p8 m.bQ 2)) (p8 m.held 4)=lu m:=by
          unfold lu
          cases m.bY<;>cases m.bQ<;>cases m.held<;>rfl
        rw [pw]
        simp (disch:=first | omega | assumption) only [bB,List.take_length,Zg,cB,aq,hf,NW,dZ,eV,aJ,bf,iu,eW,fU]
        simp only [Ge,List.length_append]
    · rw [tE]
      simp (disch:=first | omega | assumption | rfl) only [xe,aC,aq,cw,bt,bM,aJ,Gd,dZ,eV,bf,aD]
      exact hJ
theorem Bz (g:Bool) (m:aK) (hm:cU m):Cm 118 [.agg (cn (some g) m)] (Ge (ct m)):=by
  unfold ct
  have b0:=hm.aA
  cases cw:fx m with
  | false=>
    refine Cm.fin tB fun J=>?_
    rw [tC]
    simp (disch:=assumption) only [xd,aC,aq,cw,bt,bM,bg]
    rfl
  | true=>
    rw [if_pos rfl]
    have hl:=AR cw
    have l0:=lQ m.aA
    have l3:=fa (lu m)
    have l4:=fa m.last
    have w2:∀ k i,i+k=3→WP 118 Try.f118 [.undef] 2 (jW (i:Nat) g m.aA.length (ints m.aA) g m.bits.length (rows (some g) m.bits) m.bY m.bQ m.held m.last (cO m.aA++fc (m.bits.take i)).length (bytes (cO m.aA++fc (m.bits.take i)))) (Ge ((cO m.aA++fc m.bits)++(db (lu m)++db m.last))):=by
      intro k
      induction k with
      | zero=>
        intro i hi
        obtain rfl:i=3:=by omega
        have l1:=mv m.bits hm.bits.2
        have l6:(cO m.aA++fc m.bits).length≤30000000:=by rw [List.length_append]; omega
        have ht:m.bits.take 3=m.bits:=by rw [← hl,List.take_length]
        have hf:U.ar .add .i64 (U.ar .add .i64 (p8 m.bY 1) (U.ar .mul .i64 2 (p8 m.bQ 1))) (U.ar .mul .i64 4 (p8 m.held 1))=lu m:=by
          unfold lu
          cases m.bY<;>cases m.bQ<;>cases m.held<;>rfl
        refine WP.fin fun J=>?_
        rw [pq,ht]
        simp (disch:=first | omega | assumption) only [bB,EM,cB,aq,hf,lr,dZ,eV,aJ,bf,iu,eW,fU]
        simp only [Ge,List.length_append,List.append_assoc,Nat.add_assoc]
      | succ k ih=>
        intro i hi
        have LR:i < m.bits.length:=by omega
        have ih:=ih (i+1) (by omega)
        have l1:=mv (m.bits.take i) fun x hx=>hm.bits.2 x (List.mem_of_mem_take hx)
        have l5:(m.bits.take i).length≤3:=by simp; omega
        have b2:=hm.bits.2 _ (List.getElem_mem LR)
        have l6:(cO m.aA++fc (m.bits.take i)).length≤30000000:=by rw [List.length_append]; omega
        have l8:=fa (m.bits[i].length:Int)
        have w4:=WP.loop (f:=118) (fn:=Try.f118) (sk:=[.undef]) (j:=4) (r:=Ge ((cO m.aA++fc m.bits)++(db (lu m)++db m.last))) (H:=fun j:Nat=>jX (i:Nat) (j:Nat) g m.aA.length (ints m.aA) g m.bits.length (rows (some g) m.bits) m.bY m.bQ m.held m.last ((cO m.aA++fc (m.bits.take i))++db (m.bits[i].length:Int)++eu (m.bits[i].take j)).length (bytes ((cO m.aA++fc (m.bits.take i))++db (m.bits[i].length:Int)++eu (m.bits[i].take j)))) (n:=m.bits[i].length) (fun _=>True) (fun j hj _ ih4=>WP.go _ (ih4 trivial) fun J hJ=>?_) (fun _=>WP.go _ ih fun J hJ=>?_) 0 (Nat.zero_le _) trivial
        · refine WP.go _ w4 fun J hJ=>?_
          rw [pq]
          simp (disch:=first | omega | assumption) only [aW,bE,cM,gW,gX,gY,iA,aD,lr,dZ,aq,eV,aJ,bf,iu,eW,fU]
          simp only [List.take_zero,eu,List.flatMap_nil,List.append_nil] at hJ
          rw [List.length_append (bs:=db (m.bits[i].length:Int))] at hJ
          exact hJ
        · have l9:=jv (m.bits[i].take j)
          have l10:(m.bits[i].take j).length≤m.bits[i].length:=by simp; omega
          have l11:=fa m.bits[i][j]
          have l12:((cO m.aA++fc (m.bits.take i))++db (m.bits[i].length:Int)++eu (m.bits[i].take j)).length≤60000000:=by rw [List.length_append,List.length_append]; omega
          rw [pv]
          simp (disch:=first | omega | assumption) only [aW,bE,cM,gW,dC,dD,gX,gY,iA,aD,lr,dZ,aq,eV,aJ,bf,iu,eW,fU,dw]
          rw [uP hj,← List.append_assoc,List.length_append (bs:=db m.bits[i][j])] at hJ
          exact hJ
        · rw [pv]
          simp (disch:=first | omega | assumption) only [bB,bE,cM,gW,gY,aD,aJ,bf,dw,List.take_length]
          have e:fc (m.bits.take (i+1))=fc (m.bits.take i)++(db (m.bits[i].length:Int)++eu m.bits[i]):=Du LR
          rw [e,← List.append_assoc,← List.append_assoc] at hJ
          exact hJ
    have w0:=WP.loop (f:=118) (fn:=Try.f118) (sk:=[.undef]) (j:=0) (r:=Ge ((cO m.aA++fc m.bits)++(db (lu m)++db m.last))) (H:=fun i:Nat=>jV (i:Nat) g m.aA.length (ints m.aA) g m.bits.length (rows (some g) m.bits) m.bY m.bQ m.held m.last (db (m.aA.length:Int)++eu (m.aA.take i)).length (bytes (db (m.aA.length:Int)++eu (m.aA.take i)))) (n:=m.aA.length) (fun _=>True) (fun i hi _ ih=>WP.go _ (ih trivial) fun J hJ=>?_) (fun _=>WP.go _ (w2 3 0 rfl) fun J hJ=>?_) 0 (Nat.zero_le _) trivial
    · refine Cm.go tB [.undef] 0 _ w0 fun J hJ=>?_
      rw [tC]
      simp (disch:=first | omega | assumption | rfl) only [xd,aC,aq,cw,bt,bM,aJ,lr,dZ,eV,bf,aD]
      simp only [List.take_zero,eu,List.flatMap_nil,List.append_nil] at hJ
      exact hJ
    · have l9:=jv (m.aA.take i)
      have l10:(m.aA.take i).length≤m.aA.length:=by simp; omega
      have l11:=fa m.aA[i]
      have l8:=fa (m.aA.length:Int)
      have l12:(db (m.aA.length:Int)++eu (m.aA.take i)).length≤30000000:=by rw [List.length_append]; omega
      rw [po]
      simp (disch:=first | omega | assumption) only [aW,bE,cM,dC,dD,aD,lr,dZ,aq,eV,aJ,bf,iu,eW,fU,dw]
      rw [uP hi,← List.append_assoc,List.length_append (bs:=db m.aA[i])] at hJ
      exact hJ
    · rw [po]
      simp (disch:=omega) only [aD,bB,List.take_length]
      have e:cO m.aA++fc (m.bits.take 0)=db (m.aA.length:Int)++eu m.aA:=by simp [fc,cO]
      rw [e] at hJ
      exact hJ
section
variable (t:bJ Rz)
theorem tF (g:Bool) (m:aK) (hm:cU m):aY 118 [.agg (cn (some g) m)] t=feed t [.sl none 1 (ct m).length (bytes (ct m))]:=bF (Bz g m hm) (by kernel_rfl) t
theorem tG (g:Bool) (m:aK) (hm:cU m):aY 130 [.agg (cn (some g) m)] t=feed t [.sl none 1 (ct m).length (bytes (ct m))]:=bF (By g m hm) (by kernel_rfl) t
end
end Go.Proofs.Ytockoilcnmljiaa
namespace Go.Proofs.Ytockoilcnmljiaa
set_option maxRecDepth 100000
section
variable (pr:cT) (cv:Cv Rz) (J:Nat→St→Option Rz)
def o6 (n0:Nat) (c1:List D) (i2:Int) (b3:Bool) (b4:Bool) (b5:Bool) (i6:Int) (n7:Nat) (c8:List D) (i9:Int) (hZ:Bool) (dX:Nat) (eC:List D) (Dv:Bool) (tH:Bool) (jY:Bool) (i16:Int):St:=(St.mk [(0,(.sl (some true) 1 n0 c1)),(2,(.ptr 2 [] 0)),(4,(.ptr 11 [] 0)),(5,(.ptr 5 [] 0)),(6,(.int .i64 i2))] [(2,[(.nil 1),(.nil 1),(.bool b3),(.bool b4),(.bool b5),(.int .i64 i6)]),(11,[(.sl (some true) 1 n7 c8),(.int .i64 i9),(.bool hZ)]),(5,[(.sl none 1 dX eC),(.nil 1),(.bool Dv),(.bool tH),(.bool jY),(.int .i64 i16)])] [] 0)
def gq (n0:Nat) (c1:List D) (i2:Int) (b3:Bool) (b4:Bool) (b5:Bool) (i6:Int) (n7:Nat) (c8:List D) (i9:Int) (hZ:Bool) (dX:Nat) (eC:List D) (js:Nat) (ke:List D) (jY:Bool) (o7:Bool) (pn:Bool) (i18:Int):St:=(St.mk [(0,(.sl (some true) 1 n0 c1)),(2,(.ptr 2 [] 0)),(4,(.ptr 11 [] 0)),(5,(.ptr 5 [] 0)),(6,(.int .i64 i2))] [(2,[(.nil 1),(.nil 1),(.bool b3),(.bool b4),(.bool b5),(.int .i64 i6)]),(11,[(.sl (some true) 1 n7 c8),(.int .i64 i9),(.bool hZ)]),(5,[(.sl none 1 dX eC),(.sl none 1 js ke),(.bool jY),(.bool o7),(.bool pn),(.int .i64 i18)])] [] 0)
theorem Hh:Told cfg Try.prog 113 Try.f113:=⟨by kernel_rfl,Try.func113,by kernel_rfl⟩
theorem Hi (n0:Nat) (c0:List D):bc pr cv J 113 Try.f113 [(.sl (some true) 1 n0 c0)]=
    (cv 123 [(.aM [(.sl (some false) 1 n0 (dO false c0)),(.int .i64 0),(.bool true)])] (.sl (fun eB=>(fun dR=>(.iT (fun ia=>(fun yX=>(fun qU=>(.int (fun qQ=>(.bool (fun qP=>(.done (br (br (br (pr.nl dR) true false) (br (br (pr.nl qU) true false) true false) false) (J 0 (o6 n0 c0 0 false false false 0 yX (dO true qU) qQ qP eB (dO true dR) false false false 0)) none)))))))))))))):=by kernel_rfl
theorem BA (n0:Nat) (c1:List D) (i2:Int) (b3:Bool) (b4:Bool) (b5:Bool) (i6:Int) (n7:Nat) (c8:List D) (i9:Int) (hZ:Bool) (dX:Nat) (eC:List D) (Dv:Bool) (tH:Bool) (jY:Bool) (i16:Int):cA pr cv J 113 Try.f113 [.undef] 0 (o6 n0 c1 i2 b3 b4 b5 i6 n7 c8 i9 hZ dX eC Dv tH jY i16)=
    let y1:List D:=[(.aM [(.sl (some false) 1 n7 (dO false c8)),(.int .i64 i9),(.bool hZ)])]
    let y2:Option (D × List D):=(some ((.aR [(.agg [(.sl none 1 0 []),(.sl none 1 0 []),(.bool false),(.bool false),(.bool false),(.int .i64 0)]),(.bool false)]),[.undef]))
    (br (pr.lt i2 3) (cv 123 y1 (.sl (fun eB=>(fun dR=>(.iT (fun ia=>(fun yX=>(fun qU=>(.int (fun qQ=>(.bool (fun qP=>(.done (br (br (br (pr.nl dR) true false) (br (br (pr.nl qU) true false) true false) false) (br (pr.fits 1 24) (J 0 (gq n0 c1 (pr.ar .add .i64 i2 1) b3 b4 b5 i6 yX (dO true qU) qQ qP dX eC 1 [(.sl none 1 eB (dO true dR))] Dv tH jY i16)) none) none)))))))))))))) (cv 124 y1 (.int (fun jZ=>(.iT (fun PL=>(fun Kt=>(fun tI=>(.int (fun BB=>(.bool (fun BC=>(.done (br (br (br (pr.nl tI) true false) true false) (cv 124 [(.aM [(.sl (some false) 1 Kt (dO false (dO true tI))),(.int .i64 BB),(.bool BC)])] (.int (fun tJ=>(.iT (fun Te=>(fun Tf=>(fun BD=>(.int (fun Tg=>(.bool (fun BE=>(.done (br (br (br (pr.nl BD) true false) true false) (br (br BE false true) y2 (br (pr.pV c1) (cv 118 [(.agg [(.sl (some true) 1 dX (cW true eC)),(.nil 1),(.bool (br (pr.eq (pr.ar .and .i64 jZ 1) 0) false true)),(.bool (br (pr.eq (pr.ar .and .i64 jZ 2) 0) false true)),(.bool (br (pr.eq (pr.ar .and .i64 jZ 4) 0) false true)),(.int .i64 tJ)])] (.sl (fun BF=>(fun p9=>(.done (br (br (br (pr.nl p9) true false) true false) (br (pr.pV p9) (br (br (pr.seq (pr.yv p9) (pr.yv c1)) false true) y2 (br (pr.eq (pr.bu n0) 0) y2 (some ((.aR [(.agg [(.sl none 1 dX eC),(.sl none 1 0 []),(.bool (br (pr.eq (pr.ar .and .i64 jZ 1) 0) false true)),(.bool (br (pr.eq (pr.ar .and .i64 jZ 2) 0) false true)),(.bool (br (pr.eq (pr.ar .and .i64 jZ 4) 0) false true)),(.int .i64 tJ)]),(.bool true)]),[.undef])))) none) none)))))) none)) none))))))))))))) none)))))))))))))):=by kernel_rfl
theorem mw (n0:Nat) (c1:List D) (i2:Int) (b3:Bool) (b4:Bool) (b5:Bool) (i6:Int) (n7:Nat) (c8:List D) (i9:Int) (hZ:Bool) (dX:Nat) (eC:List D) (js:Nat) (ke:List D) (jY:Bool) (o7:Bool) (pn:Bool) (i18:Int):cA pr cv J 113 Try.f113 [.undef] 0 (gq n0 c1 i2 b3 b4 b5 i6 n7 c8 i9 hZ dX eC js ke jY o7 pn i18)=
    let y1:List D:=[(.aM [(.sl (some false) 1 n7 (dO false c8)),(.int .i64 i9),(.bool hZ)])]
    let y2:Option (D × List D):=(some ((.aR [(.agg [(.sl none 1 0 []),(.sl none 1 0 []),(.bool false),(.bool false),(.bool false),(.int .i64 0)]),(.bool false)]),[.undef]))
    (br (pr.lt i2 3) (cv 123 y1 (.sl (fun eB=>(fun dR=>(.iT (fun ia=>(fun yX=>(fun qU=>(.int (fun qQ=>(.bool (fun qP=>(.done (br (br (br (pr.nl dR) true false) (br (br (pr.nl qU) true false) true false) false) (br (pr.fits (js+1) 24) (J 0 (gq n0 c1 (pr.ar .add .i64 i2 1) b3 b4 b5 i6 yX (dO true qU) qQ qP dX eC (js+1) (List.append ke [(.sl none 1 eB (dO true dR))]) jY o7 pn i18)) none) none)))))))))))))) (cv 124 y1 (.int (fun jZ=>(.iT (fun PL=>(fun Kt=>(fun tI=>(.int (fun BB=>(.bool (fun BC=>(.done (br (br (br (pr.nl tI) true false) true false) (cv 124 [(.aM [(.sl (some false) 1 Kt (dO false (dO true tI))),(.int .i64 BB),(.bool BC)])] (.int (fun tJ=>(.iT (fun Te=>(fun Tf=>(fun BD=>(.int (fun Tg=>(.bool (fun BE=>(.done (br (br (br (pr.nl BD) true false) true false) (br (br BE false true) y2 (br (pr.pV c1) (cv 118 [(.agg [(.sl (some true) 1 dX (cW true eC)),(.sl (some true) 1 js (cW true ke)),(.bool (br (pr.eq (pr.ar .and .i64 jZ 1) 0) false true)),(.bool (br (pr.eq (pr.ar .and .i64 jZ 2) 0) false true)),(.bool (br (pr.eq (pr.ar .and .i64 jZ 4) 0) false true)),(.int .i64 tJ)])] (.sl (fun BF=>(fun p9=>(.done (br (br (br (pr.nl p9) true false) true false) (br (pr.pV p9) (br (br (pr.seq (pr.yv p9) (pr.yv c1)) false true) y2 (br (pr.eq (pr.bu n0) 0) y2 (some ((.aR [(.agg [(.sl none 1 dX eC),(.sl none 1 js ke),(.bool (br (pr.eq (pr.ar .and .i64 jZ 1) 0) false true)),(.bool (br (pr.eq (pr.ar .and .i64 jZ 2) 0) false true)),(.bool (br (pr.eq (pr.ar .and .i64 jZ 4) 0) false true)),(.int .i64 tJ)]),(.bool true)]),[.undef])))) none) none)))))) none)) none))))))))))))) none)))))))))))))):=by kernel_rfl
def o8 (n0:Nat) (c1:List D) (i2:Int) (b3:Bool) (b4:Bool) (b5:Bool) (i6:Int) (n7:Nat) (c8:List D) (i9:Int) (hZ:Bool) (dX:Nat) (eC:List D) (Dv:Bool) (tH:Bool) (jY:Bool) (i16:Int):St:=(St.mk [(0,(.sl (some true) 1 n0 c1)),(2,(.ptr 2 [] 0)),(4,(.ptr 11 [] 0)),(5,(.ptr 5 [] 0)),(16,(.int .i64 i2))] [(2,[(.nil 1),(.nil 1),(.bool b3),(.bool b4),(.bool b5),(.int .i64 i6)]),(11,[(.sl (some true) 1 n7 c8),(.int .i64 i9),(.bool hZ)]),(5,[(.sl none 1 dX eC),(.nil 1),(.bool Dv),(.bool tH),(.bool jY),(.int .i64 i16)])] [] 0)
def gr (n0:Nat) (c1:List D) (i2:Int) (b3:Bool) (b4:Bool) (b5:Bool) (i6:Int) (n7:Nat) (c8:List D) (i9:Int) (hZ:Bool) (dX:Nat) (eC:List D) (js:Nat) (ke:List D) (jY:Bool) (o7:Bool) (pn:Bool) (i18:Int):St:=(St.mk [(0,(.sl (some true) 1 n0 c1)),(2,(.ptr 2 [] 0)),(4,(.ptr 11 [] 0)),(5,(.ptr 5 [] 0)),(16,(.int .i64 i2))] [(2,[(.nil 1),(.nil 1),(.bool b3),(.bool b4),(.bool b5),(.int .i64 i6)]),(11,[(.sl (some true) 1 n7 c8),(.int .i64 i9),(.bool hZ)]),(5,[(.sl none 1 dX eC),(.sl none 1 js ke),(.bool jY),(.bool o7),(.bool pn),(.int .i64 i18)])] [] 0)
theorem Hj:Told cfg Try.prog 125 Try.f125:=⟨by kernel_rfl,Try.func125,by kernel_rfl⟩
theorem Hk (n0:Nat) (c0:List D):bc pr cv J 125 Try.f125 [(.sl (some true) 1 n0 c0)]=
    (cv 133 [(.aM [(.sl (some false) 1 n0 (dO false c0)),(.int .i64 0),(.bool true)])] (.sl (fun eB=>(fun dR=>(.iT (fun ia=>(fun yX=>(fun qU=>(.int (fun qQ=>(.bool (fun qP=>(.done (br (br (br (pr.nl dR) true false) (br (br (pr.nl qU) true false) true false) false) (J 0 (o8 n0 c0 0 false false false 0 yX (dO true qU) qQ qP eB (dO true dR) false false false 0)) none)))))))))))))):=by kernel_rfl
theorem BG (n0:Nat) (c1:List D) (i2:Int) (b3:Bool) (b4:Bool) (b5:Bool) (i6:Int) (n7:Nat) (c8:List D) (i9:Int) (hZ:Bool) (dX:Nat) (eC:List D) (Dv:Bool) (tH:Bool) (jY:Bool) (i16:Int):cA pr cv J 125 Try.f125 [.undef] 0 (o8 n0 c1 i2 b3 b4 b5 i6 n7 c8 i9 hZ dX eC Dv tH jY i16)=
    let y1:List D:=[(.aM [(.sl (some false) 1 n7 (dO false c8)),(.int .i64 i9),(.bool hZ)])]
    let y2:Option (D × List D):=(some ((.aR [(.agg [(.sl none 1 0 []),(.sl none 1 0 []),(.bool false),(.bool false),(.bool false),(.int .i64 0)]),(.bool false)]),[.undef]))
    (br (pr.lt i2 3) (cv 133 y1 (.sl (fun eB=>(fun dR=>(.iT (fun ia=>(fun yX=>(fun qU=>(.int (fun qQ=>(.bool (fun qP=>(.done (br (br (br (pr.nl dR) true false) (br (br (pr.nl qU) true false) true false) false) (br (pr.fits 1 24) (J 0 (gr n0 c1 (pr.ar .add .i64 i2 1) b3 b4 b5 i6 yX (dO true qU) qQ qP dX eC 1 [(.sl none 1 eB (dO true dR))] Dv tH jY i16)) none) none)))))))))))))) (cv 134 y1 (.int (fun jZ=>(.iT (fun PL=>(fun Kt=>(fun tI=>(.int (fun BB=>(.bool (fun BC=>(.done (br (br (br (pr.nl tI) true false) true false) (cv 134 [(.aM [(.sl (some false) 1 Kt (dO false (dO true tI))),(.int .i64 BB),(.bool BC)])] (.int (fun tJ=>(.iT (fun Te=>(fun Tf=>(fun BD=>(.int (fun Tg=>(.bool (fun BE=>(.done (br (br (br (pr.nl BD) true false) true false) (cv 130 [(.agg [(.sl (some true) 1 dX (cW true eC)),(.nil 1),(.bool (br (pr.eq (pr.ar .and .i64 jZ 1) 0) false true)),(.bool (br (pr.eq (pr.ar .and .i64 jZ 2) 0) false true)),(.bool (br (pr.eq (pr.ar .and .i64 jZ 4) 0) false true)),(.int .i64 tJ)])] (.sl (fun BF=>(fun p9=>(.done (br (br (br (pr.nl p9) true false) true false) (br (br BE false true) y2 (br (pr.eq (pr.bu BF) 0) y2 (cv 126 [(.sl (some true) 1 BF (cW true p9)),(.sl (some true) 1 n0 c1)] (.bool (fun Th=>(.done (br (br Th false true) y2 (some ((.aR [(.agg [(.sl none 1 dX eC),(.sl none 1 0 []),(.bool (br (pr.eq (pr.ar .and .i64 jZ 1) 0) false true)),(.bool (br (pr.eq (pr.ar .and .i64 jZ 2) 0) false true)),(.bool (br (pr.eq (pr.ar .and .i64 jZ 4) 0) false true)),(.int .i64 tJ)]),(.bool true)]),[.undef]))))))))) none)))))) none))))))))))))) none)))))))))))))):=by kernel_rfl
theorem my (n0:Nat) (c1:List D) (i2:Int) (b3:Bool) (b4:Bool) (b5:Bool) (i6:Int) (n7:Nat) (c8:List D) (i9:Int) (hZ:Bool) (dX:Nat) (eC:List D) (js:Nat) (ke:List D) (jY:Bool) (o7:Bool) (pn:Bool) (i18:Int):cA pr cv J 125 Try.f125 [.undef] 0 (gr n0 c1 i2 b3 b4 b5 i6 n7 c8 i9 hZ dX eC js ke jY o7 pn i18)=
    let y1:List D:=[(.aM [(.sl (some false) 1 n7 (dO false c8)),(.int .i64 i9),(.bool hZ)])]
    let y2:Option (D × List D):=(some ((.aR [(.agg [(.sl none 1 0 []),(.sl none 1 0 []),(.bool false),(.bool false),(.bool false),(.int .i64 0)]),(.bool false)]),[.undef]))
    (br (pr.lt i2 3) (cv 133 y1 (.sl (fun eB=>(fun dR=>(.iT (fun ia=>(fun yX=>(fun qU=>(.int (fun qQ=>(.bool (fun qP=>(.done (br (br (br (pr.nl dR) true false) (br (br (pr.nl qU) true false) true false) false) (br (pr.fits (js+1) 24) (J 0 (gr n0 c1 (pr.ar .add .i64 i2 1) b3 b4 b5 i6 yX (dO true qU) qQ qP dX eC (js+1) (List.append ke [(.sl none 1 eB (dO true dR))]) jY o7 pn i18)) none) none)))))))))))))) (cv 134 y1 (.int (fun jZ=>(.iT (fun PL=>(fun Kt=>(fun tI=>(.int (fun BB=>(.bool (fun BC=>(.done (br (br (br (pr.nl tI) true false) true false) (cv 134 [(.aM [(.sl (some false) 1 Kt (dO false (dO true tI))),(.int .i64 BB),(.bool BC)])] (.int (fun tJ=>(.iT (fun Te=>(fun Tf=>(fun BD=>(.int (fun Tg=>(.bool (fun BE=>(.done (br (br (br (pr.nl BD) true false) true false) (cv 130 [(.agg [(.sl (some true) 1 dX (cW true eC)),(.sl (some true) 1 js (cW true ke)),(.bool (br (pr.eq (pr.ar .and .i64 jZ 1) 0) false true)),(.bool (br (pr.eq (pr.ar .and .i64 jZ 2) 0) false true)),(.bool (br (pr.eq (pr.ar .and .i64 jZ 4) 0) false true)),(.int .i64 tJ)])] (.sl (fun BF=>(fun p9=>(.done (br (br (br (pr.nl p9) true false) true false) (br (br BE false true) y2 (br (pr.eq (pr.bu BF) 0) y2 (cv 126 [(.sl (some true) 1 BF (cW true p9)),(.sl (some true) 1 n0 c1)] (.bool (fun Th=>(.done (br (br Th false true) y2 (some ((.aR [(.agg [(.sl none 1 dX eC),(.sl none 1 js ke),(.bool (br (pr.eq (pr.ar .and .i64 jZ 1) 0) false true)),(.bool (br (pr.eq (pr.ar .and .i64 jZ 2) 0) false true)),(.bool (br (pr.eq (pr.ar .and .i64 jZ 4) 0) false true)),(.int .i64 tJ)]),(.bool true)]),[.undef]))))))))) none)))))) none))))))))))))) none)))))))))))))):=by kernel_rfl
end
theorem Ku (x:UInt8):byteOf (ef x)=some x:=by
  have:=x.toNat_lt
  simp [ef,byteOf]
theorem wG:∀ xs:List UInt8,j6 byteOf (bytes xs)=some xs
  | []=>rfl
  | x::xs=>by
    have h:=wG xs
    simp only [bytes] at h
    simp only [bytes,List.map_cons,j6,Ku,h]
theorem BH {R:Type} {x y:R} (xs:List UInt8):br (U.pV (bytes xs)) x y=x:=by
  have:U.pV (bytes xs)=true:=by
    show (j6 byteOf (bytes xs)).isSome=true
    rw [wG]
    rfl
  rw [this,aJ]
theorem Kv (xs:List UInt8):U.yv (bytes xs)=bs xs:=by
  show (⟨((j6 byteOf (bytes xs)).getD []).toArray⟩:ByteArray)=bs xs
  rw [wG]
  rfl
theorem Kw (xs ys:List UInt8):U.seq (bs xs) (bs ys)=decide (xs=ys):=by
  show ((bs xs).toList==(bs ys).toList)=_
  rw [ByteArray.toList_eq,ByteArray.toList_eq]
  show (xs==ys)=_
  by_cases h:xs=ys<;>simp [h]
theorem Kx (g h:Bool) (xs ys:List UInt8):Cm 126 [.sl (some g) 1 xs.length (bytes xs),.sl (some h) 1 ys.length (bytes ys)] (.bool (decide (xs=ys)),[.undef,.undef]):=by
  refine Cm.fin G0 fun J=>?_
  rw [G1]
  simp only [BH,Kv,Kw]
theorem yY (g h:Bool) (xs ys:List UInt8) (t:bJ Rz):aY 126 [.sl (some g) 1 xs.length (bytes xs),.sl (some h) 1 ys.length (bytes ys)] t=feed t [.bool (decide (xs=ys))]:=bF (Kx g h xs ys) (by kernel_rfl) t
theorem iN (b:Bool):∀ xs:List Int,dO b (ints xs)=ints xs
  | []=>rfl
  | x::xs=>by
    have h:=iN b xs
    simp only [ints] at h
    simp only [ints,List.map_cons,dO,gI,h]
theorem fI (b:Bool):∀ xs:List UInt8,dO b (bytes xs)=bytes xs
  | []=>rfl
  | x::xs=>by
    have h:=fI b xs
    simp only [bytes] at h
    simp only [bytes,List.map_cons,dO,gI,ef,h]
theorem Gf (b:List UInt8) (p:Nat):∀ k i acc,(hC b p k i acc).2.2=false→hC b p k i acc=kp
  | 0,_,_,_=>rfl
  | k+1,i,acc,h=>by
    rw [hC] at h ⊢
    split at h
    · rename_i h1
      rw [dif_pos h1]
      split at h
      · rename_i h2
        rw [if_pos h2]
        exact Gf b p k _ _ h
      · rename_i h2
        rw [if_neg h2]
        split at h
        · rename_i h3
          rw [if_pos h3]
        · simp at h
    · rename_i h1
      rw [dif_neg h1]
theorem QF (b:List UInt8) (a:Int) (h:(gA b a).2.2=false):gA b a=kp:=by
  unfold gA at h ⊢
  split at h
  · rename_i h1
    rw [if_pos h1]
  · rename_i h1
    rw [if_neg h1]
    exact Gf b _ _ _ _ h
def Dw (c c':Int × Bool):Prop:=c.2=c'.2∧(c.2=true→c.1=c'.1)
theorem zU (b:List UInt8) {c c':Int × Bool} (h:Dw c c'):(bd b c).1=(bh b c').1∧Dw (bd b c).2 (bh b c').2:=by
  obtain ⟨p,q⟩:=c
  obtain ⟨p',q'⟩:=c'
  obtain ⟨h1,h2⟩:=h
  simp only at h1 h2
  subst h1
  cases q with
  | false=>exact ⟨by simp [bd,bh],by simp [bd,bh,Dw]⟩
  | true=>
    have:=h2 rfl
    subst this
    cases hg:(gA b p).2.2 with
    | true=>exact ⟨by simp [bd,bh,hg],by simp [bd,bh,Dw,hg]⟩
    | false=>
      have:=QF b p hg
      exact ⟨by simp [bd,bh,this,kp],by simp [bd,bh,Dw,this,kp]⟩
theorem QG (b:List UInt8):∀ (k:Nat) {c c':Int × Bool} (out:List Int),Dw c c'→(mu bd b k c out).1=(mu bh b k c' out).1∧Dw (mu bd b k c out).2 (mu bh b k c' out).2
  | 0,_,_,_,h=>⟨rfl,h⟩
  | k+1,c,c',out,h=>by
    simp only [mu]
    rw [← h.1]
    cases hc:c.2 with
    | false=>exact ⟨rfl,h⟩
    | true=>
      have hn:=zU b h
      simp only [if_true]
      rw [hn.1]
      exact QG b k _ hn.2
theorem wH (b:List UInt8) {c c':Int × Bool} (h:Dw c c'):(aL bd b c).1=(aL bh b c').1∧Dw (aL bd b c).2 (aL bh b c').2:=by
  have hn:=zU b h
  unfold aL
  rw [hn.1]
  exact QG b _ _ hn.2
def QH (num:List UInt8→Int × Bool→Int × (Int × Bool)):Prop:=∀ b p q,(num b (p,q)).2.2=true→0≤p∧p < (num b (p,q)).2.1∧(num b (p,q)).2.1≤b.length
theorem Vn:QH bd:=by
  intro b p q h
  unfold bd at h ⊢
  split at h
  · rename_i h1
    rw [if_pos h1]
    simp only [Bool.and_eq_true] at h1
    exact Gb b p h1.1
  · simp at h
theorem aaS:QH bh:=by
  intro b p q h
  unfold bh at h ⊢
  cases q with
  | true=>exact Gb b p h
  | false=>simp at h
theorem Gg {num:List UInt8→Int × Bool→Int × (Int × Bool)} (hf:QH num) (b:List UInt8):∀ (k:Nat) (p:Int) (q:Bool) (out:List Int),(mu num b k (p,q) out).1.length≤out.length+(if q then ((b.length:Int) - p).toNat+1 else 0)
  | 0,_,_,_=>by simp [mu]
  | k+1,p,q,out=>by
    cases q with
    | false=>simp [mu]
    | true=>
      simp only [mu,if_true]
      have ih:=Gg hf b k (num b (p,true)).2.1 (num b (p,true)).2.2 (out++[(num b (p,true)).1])
      cases hq:(num b (p,true)).2.2 with
      | false=>
        rw [hq] at ih
        simp only [List.length_append,List.length_singleton] at ih
        have e:(num b (p,true)).2=((num b (p,true)).2.1,false):=Prod.ext rfl hq
        rw [e]
        simp only [Bool.false_eq_true,if_false] at ih
        omega
      | true=>
        have h:=hf b p true hq
        rw [hq] at ih
        simp only [List.length_append,List.length_singleton,if_true] at ih
        have e:(num b (p,true)).2=((num b (p,true)).2.1,true):=Prod.ext rfl hq
        rw [e]
        omega
theorem AS {num:List UInt8→Int × Bool→Int × (Int × Bool)} (hf:QH num) (b:List UInt8) (c:Int × Bool):(aL num b c).1.length≤b.length+1:=by
  have h:=Gg hf b (num b c).1.toNat (num b c).2.1 (num b c).2.2 []
  unfold aL
  obtain ⟨p,q⟩:=c
  cases hq:(num b (p,q)).2.2 with
  | false=>
    rw [hq] at h
    have e:(num b (p,q)).2=((num b (p,q)).2.1,false):=Prod.ext rfl hq
    rw [e]
    simp only [Bool.false_eq_true,if_false,List.length_nil] at h
    omega
  | true=>
    have h1:=hf b p q hq
    rw [hq] at h
    have e:(num b (p,q)).2=((num b (p,q)).2.1,true):=Prod.ext rfl hq
    rw [e]
    simp only [if_true,List.length_nil] at h
    omega
def fj (x k:Int):Bool:=!(U.eq (U.ar .and .i64 x k) 0)
def lv (num:List UInt8→Int × Bool→Int × (Int × Bool)) (b:List UInt8):aK × Bool:=
  let r0:=aL num b (0,true)
  let r1:=aL num b r0.2
  let r2:=aL num b r1.2
  let r3:=aL num b r2.2
  let x:=num b r3.2
  let y:=num b x.2
  (⟨r0.1,[r1.1,r2.1,r3.1],fj x.1 1,fj x.1 2,fj x.1 4,y.1⟩,y.2.2)
def fr:aK:=⟨[],[],false,false,false,0⟩
def dG (b:List UInt8):aK × Bool:=if (lv bd b).2&&(decide (ct (lv bd b).1=b)&&!b.isEmpty) then ((lv bd b).1,true) else (fr,false)
theorem Ti (b:List UInt8):lv bd b=lv bh b:=by
  have h0:=wH b (c:=(0,true)) (c':=(0,true)) ⟨rfl,fun _=>rfl⟩
  have h1:=wH b h0.2
  have h2:=wH b h1.2
  have h3:=wH b h2.2
  have h4:=zU b h3.2
  have h5:=zU b h4.2
  simp only [lv]
  rw [h0.1,h1.1,h2.1,h3.1,h4.1,h5.1,h5.2.1]
theorem BI {num:List UInt8→Int × Bool→Int × (Int × Bool)} (hf:QH num) (b:List UInt8) (hb:b.length≤1000000):cU (lv num b).1:=by
  refine ⟨?_,?_,?_⟩
  · have:=AS hf b (0,true)
    simp only [lv]
    omega
  · simp [lv]
  · intro xs hx
    simp only [lv,List.mem_cons,List.not_mem_nil,or_false] at hx
    rcases hx with rfl | rfl | rfl
    all_goals exact Nat.le_trans (AS hf b _) (by omega)
theorem Ky (x k:Int):(!(U.eq (U.ar .and .i64 x k) 0))=fj x k:=rfl
abbrev Dx (r:aK × Bool):Rz:=(.aR [.agg (cn none r.1),.bool r.2],[.undef])
theorem Hl (b:List UInt8) (hb:b.length≤1000000):Cm 113 [.sl (some true) 1 b.length (bytes b)] (Dx (dG b)):=by
  have w3:∀ (c:Int × Bool) (aA x1 x2 x3:List Int),lv bd b=(⟨aA,[x1,x2,x3],fj (bd b c).1 1,fj (bd b c).1 2,fj (bd b c).1 4,(bd b (bd b c).2).1⟩,(bd b (bd b c).2).2.2)→WP 113 Try.f113 [.undef] 0 (gq b.length (bytes b) 3 false false false 0 b.length (bytes b) c.1 c.2 aA.length (ints aA) 3 (rows none [x1,x2,x3]) false false false 0) (Dx (dG b)):=by
    intro c aA x1 x2 x3 hp
    have cw:=BI Vn b hb
    refine WP.fin fun J=>?_
    rw [mw]
    unfold dG
    rw [hp] at cw ⊢
    have hv:=tF (g:=true) (m:=⟨aA,[x1,x2,x3],fj (bd b c).1 1,fj (bd b c).1 2,fj (bd b c).1 4,(bd b (bd b c).2).1⟩) (hm:=cw)
    have kL:∀ t:bJ Rz,aY 118 [.agg [.sl (some true) 1 aA.length (ints aA),.sl (some true) 1 3 (rows (some true) [x1,x2,x3]),.bool (fj (bd b c).1 1),.bool (fj (bd b c).1 2),.bool (fj (bd b c).1 4),.int .i64 (bd b (bd b c).2).1]] t=_:=hv
    simp (disch:=first | omega | assumption) only [bB,fI,wE,cB,gn,aC,aq,eV,aJ,bf,bt,Ky,gw,gZ,BH,kL,dZ,Kv,Kw]
    generalize (bd b (bd b c).2).2.2=q1
    generalize ct _=l
    cases q1 with
    | false=>rfl
    | true=>
      by_cases h1:l=b
      · subst h1
        cases l with
        | nil=>simp [br,U,fr,rows,ints]
        | cons a l=>
          simp only [bM,aJ,decide_true]
          rw [dW (by simp only [aD,List.length_cons]; omega)]
          simp [fr]
      · simp [br,h1,fr,rows,ints]
  have w2:=WP.go (f:=113) (fn:=Try.f113) (sk:=[.undef]) (j:=0) (h:=gq b.length (bytes b) 2 false false false 0 b.length (bytes b) (aL bd b (aL bd b (aL bd b (0,true)).2).2).2.1 (aL bd b (aL bd b (aL bd b (0,true)).2).2).2.2 (aL bd b (0,true)).1.length (ints (aL bd b (0,true)).1) 2 (rows none [(aL bd b (aL bd b (0,true)).2).1,(aL bd b (aL bd b (aL bd b (0,true)).2).2).1]) false false false 0) _ (w3 (aL bd b (aL bd b (aL bd b (aL bd b (0,true)).2).2).2).2 (aL bd b (0,true)).1 (aL bd b (aL bd b (0,true)).2).1 (aL bd b (aL bd b (aL bd b (0,true)).2).2).1 (aL bd b (aL bd b (aL bd b (aL bd b (0,true)).2).2).2).1 rfl) fun J hJ=>by
    rw [mw]
    simp (disch:=first | omega | assumption) only [aW,fI,iN,qm,dZ,cB,gn,aC,aq,eV,lN,aJ,bf,eW]
    exact hJ
  have w1:=WP.go (f:=113) (fn:=Try.f113) (sk:=[.undef]) (j:=0) (h:=gq b.length (bytes b) 1 false false false 0 b.length (bytes b) (aL bd b (aL bd b (0,true)).2).2.1 (aL bd b (aL bd b (0,true)).2).2.2 (aL bd b (0,true)).1.length (ints (aL bd b (0,true)).1) 1 (rows none [(aL bd b (aL bd b (0,true)).2).1]) false false false 0) _ w2 fun J hJ=>by
    rw [mw]
    simp (disch:=first | omega | assumption) only [aW,fI,iN,qm,dZ,cB,gn,aC,aq,eV,lN,aJ,bf,eW]
    exact hJ
  have w0:=WP.go (f:=113) (fn:=Try.f113) (sk:=[.undef]) (j:=0) (h:=o6 b.length (bytes b) 0 false false false 0 b.length (bytes b) (aL bd b (0,true)).2.1 (aL bd b (0,true)).2.2 (aL bd b (0,true)).1.length (ints (aL bd b (0,true)).1) false false false 0) _ w1 fun J hJ=>by
    rw [BA]
    simp (disch:=first | omega | assumption) only [aW,fI,iN,qm,dZ,cB,gn,aC,aq,eV,lN,aJ,bf,eW]
    exact hJ
  refine Cm.go Hh [.undef] 0 _ w0 fun J hJ=>?_
  rw [Hi]
  simp (disch:=first | omega | assumption) only [fI,iN,qm,dZ,cB,gn,aC,aq,eV,lN,aJ,bf]
  exact hJ
theorem Hm (b:List UInt8) (hb:b.length≤1000000):Cm 125 [.sl (some true) 1 b.length (bytes b)] (Dx (dG b)):=by
  have w3:∀ (c:Int × Bool) (aA x1 x2 x3:List Int),lv bh b=(⟨aA,[x1,x2,x3],fj (bh b c).1 1,fj (bh b c).1 2,fj (bh b c).1 4,(bh b (bh b c).2).1⟩,(bh b (bh b c).2).2.2)→WP 125 Try.f125 [.undef] 0 (gr b.length (bytes b) 3 false false false 0 b.length (bytes b) c.1 c.2 aA.length (ints aA) 3 (rows none [x1,x2,x3]) false false false 0) (Dx (dG b)):=by
    intro c aA x1 x2 x3 hp
    have cw:=BI aaS b hb
    refine WP.fin fun J=>?_
    rw [my]
    unfold dG
    rw [Ti,hp]
    rw [hp] at cw
    have hv:=tG (g:=true) (m:=⟨aA,[x1,x2,x3],fj (bh b c).1 1,fj (bh b c).1 2,fj (bh b c).1 4,(bh b (bh b c).2).1⟩) (hm:=cw)
    have kL:∀ t:bJ Rz,aY 130 [.agg [.sl (some true) 1 aA.length (ints aA),.sl (some true) 1 3 (rows (some true) [x1,x2,x3]),.bool (fj (bh b c).1 1),.bool (fj (bh b c).1 2),.bool (fj (bh b c).1 4),.int .i64 (bh b (bh b c).2).1]] t=_:=hv
    simp (disch:=first | omega | assumption) only [bB,fI,wF,cB,gn,aC,aq,eV,aJ,bf,bt,Ky,gw,gZ,gR,kL,dZ,yY]
    generalize (bh b (bh b c).2).2.2=q1
    generalize ct _=l
    cases q1 with
    | false=>rfl
    | true=>
      by_cases h1:l=b
      · subst h1
        cases l with
        | nil=>simp [br,U,fr,rows,ints]
        | cons a l=>
          simp only [bM,aJ,decide_true]
          rw [dW (by simp only [aD,List.length_cons]; omega)]
          simp [fr]
      · cases U.eq (U.bu l.length) 0<;>simp [br,h1,fr,rows,ints]
  have w2:=WP.go (f:=125) (fn:=Try.f125) (sk:=[.undef]) (j:=0) (h:=gr b.length (bytes b) 2 false false false 0 b.length (bytes b) (aL bh b (aL bh b (aL bh b (0,true)).2).2).2.1 (aL bh b (aL bh b (aL bh b (0,true)).2).2).2.2 (aL bh b (0,true)).1.length (ints (aL bh b (0,true)).1) 2 (rows none [(aL bh b (aL bh b (0,true)).2).1,(aL bh b (aL bh b (aL bh b (0,true)).2).2).1]) false false false 0) _ (w3 (aL bh b (aL bh b (aL bh b (aL bh b (0,true)).2).2).2).2 (aL bh b (0,true)).1 (aL bh b (aL bh b (0,true)).2).1 (aL bh b (aL bh b (aL bh b (0,true)).2).2).1 (aL bh b (aL bh b (aL bh b (aL bh b (0,true)).2).2).2).1 rfl) fun J hJ=>by
    rw [my]
    simp (disch:=first | omega | assumption) only [aW,fI,iN,qn,dZ,cB,gn,aC,aq,eV,lN,aJ,bf,eW]
    exact hJ
  have w1:=WP.go (f:=125) (fn:=Try.f125) (sk:=[.undef]) (j:=0) (h:=gr b.length (bytes b) 1 false false false 0 b.length (bytes b) (aL bh b (aL bh b (0,true)).2).2.1 (aL bh b (aL bh b (0,true)).2).2.2 (aL bh b (0,true)).1.length (ints (aL bh b (0,true)).1) 1 (rows none [(aL bh b (aL bh b (0,true)).2).1]) false false false 0) _ w2 fun J hJ=>by
    rw [my]
    simp (disch:=first | omega | assumption) only [aW,fI,iN,qn,dZ,cB,gn,aC,aq,eV,lN,aJ,bf,eW]
    exact hJ
  have w0:=WP.go (f:=125) (fn:=Try.f125) (sk:=[.undef]) (j:=0) (h:=o8 b.length (bytes b) 0 false false false 0 b.length (bytes b) (aL bh b (0,true)).2.1 (aL bh b (0,true)).2.2 (aL bh b (0,true)).1.length (ints (aL bh b (0,true)).1) false false false 0) _ w1 fun J hJ=>by
    rw [BG]
    simp (disch:=first | omega | assumption) only [aW,fI,iN,qn,dZ,cB,gn,aC,aq,eV,lN,aJ,bf,eW]
    exact hJ
  refine Cm.go Hj [.undef] 0 _ w0 fun J hJ=>?_
  rw [Hk]
  simp (disch:=first | omega | assumption) only [fI,iN,qn,dZ,cB,gn,aC,aq,eV,lN,aJ,bf]
  exact hJ
theorem yZ (b:List UInt8) (hb:b.length≤1000000):cU (dG b).1:=by
  unfold dG
  split
  · exact BI Vn b hb
  · exact ⟨by simp [fr],by simp [fr],by simp [fr]⟩
end Go.Proofs.Ytockoilcnmljiaa
namespace Go.Proofs.Ytockoilcnmljiaa
set_option maxRecDepth 100000
theorem WP.step {f:FuncId} {fn:Func} {sk:List D} {j:Nat} {h:St} {r:Rz} (ht:∀ J:Nat→St→Option Rz,(∀ j' h',WP f fn sk j' h' r→J j' h'=some r)→cA U aY J f fn sk j h=some r):WP f fn sk j h r:=W.step tc ht
theorem Cm.step {f:FuncId} {fn:Func} {r:Rz} (ok:Told cfg Try.prog f fn) (sk:List D) {args:List D} (ht:∀ J:Nat→St→Option Rz,(∀ j' h',WP f fn sk j' h' r→J j' h'=some r)→bc U aY J f fn args=some r) (wQ:args.map oX=sk:=by rfl):Cm f args r:=by subst wQ; exact Comes.step tc ok ht
section
variable {R:Type} {x y:R}
def tick (n:Nat):Nat:=n+1
@[go_sem] theorem afP:tick 0=1:=by unfold tick; omega
@[congr] theorem ac5 {c c':Bool} {z:Nat} (h:c=c') (_:tick 0=z):br c x y=br c' x y:=by rw [h]
@[congr] theorem ac6 {g:FuncId} {ds ds':List D} {t:bJ Rz} {z:Nat} (h:ds=ds') (_:tick 0=z):aY g ds t=aY g ds' t:=by rw [h]
@[congr] theorem aaT {t:bJ R} {l l':List D} {z:Nat} (h:l=l') (_:tick 0=z):feed t l=feed t l':=by rw [h]
attribute [go_sem ↓] aJ bg
@[go_sem ↓] theorem afQ (a b c:Bool) (x y:R):br (br a b c) x y=br a (br b x y) (br c x y):=by cases a<;>rfl
@[go_sem ↓] theorem ail (b:Bool) (x y:R):br (!b) x y=br b y x:=by cases b<;>rfl
@[go_sem] theorem ac7 {p:Prop} [Decidable p] (h:p):br (decide p) x y=x:=by rw [decide_eq_true h]; rfl
@[go_sem] theorem ac8 {p:Prop} [Decidable p] (h:¬p):br (decide p) x y=y:=by rw [decide_eq_false h]; rfl
theorem Mt {b:Bool} {r:R} (h1:b=true→x=r) (h2:b=false→y=r):br b x y=r:=by cases b with | true=>exact h1 rfl | false=>exact h2 rfl
theorem dz {p:Prop} [Decidable p] {r:R} (h1:p→x=r) (h2:¬p→y=r):br (decide p) x y=r:=by
  by_cases h:p
  · rw [ac7 h]; exact h1 h
  · rw [ac8 h]; exact h2 h
theorem mz {b:Bool} {r:R} (h1:b=true→x=r) (h2:¬b=true→y=r):br b x y=r:=by cases b with | true=>exact h1 rfl | false=>exact h2 (by simp)
end
theorem WP.up {f:FuncId} {fn:Func} {sk:List D} {j:Nat} {r:Rz} {H:Nat→St} (n:Nat) (inv:Nat→Prop) (hs:∀ i,i≤n→inv i→∀ J:Nat→St→Option Rz,(∀ j' h',WP f fn sk j' h' r→J j' h'=some r)→(i < n→inv (i+1)→J j (H (i+1))=some r)→cA U aY J f fn sk j (H i)=some r):∀ i,i≤n→inv i→WP f fn sk j (H i) r:=by
  have key:∀ k i,i+k=n→inv i→WP f fn sk j (H i) r:=by
    intro k
    induction k with
    | zero=>intro i hi hv; exact WP.step fun J hJ=>hs i (by omega) hv J hJ (fun h=>absurd h (by omega))
    | succ k ih=>intro i hi hv; exact WP.step fun J hJ=>hs i (by omega) hv J hJ (fun _ h=>hJ _ _ (ih (i+1) (by omega) h))
  exact fun i hi hv=>key (n - i) i (by omega) hv
section
variable {R:Type}
@[go_sem ↓] theorem afR (x:Option R) (l:List D):feed (.done x) l=x:=rfl
@[go_sem ↓] theorem aim (f:Int→bJ R) (k:IntKind) (n:Int) (l:List D):feed (.int f) (.int k n::l)=feed (f n) l:=rfl
@[go_sem ↓] theorem afS (f:Bool→bJ R) (b:Bool) (l:List D):feed (.bool f) (.bool b::l)=feed (f b) l:=rfl
@[go_sem ↓] theorem ain (f:ByteArray→bJ R) (s:ByteArray) (l:List D):feed (.str f) (.str s::l)=feed (f s) l:=rfl
@[go_sem ↓] theorem aj0 (f:Nat→List D→bJ R) (s n:Nat) (cs l:List D):feed (.sl f) (.sl none s n cs::l)=feed (f n cs) l:=rfl
@[go_sem ↓] theorem aio (f:Bool→Nat→List D→bJ R) (g:Bool) (s n:Nat) (cs l:List D):feed (.iT f) (.sl (some g) s n cs::l)=feed (f g n cs) l:=rfl
end
@[go_sem ↓] theorem aj1 (k:gU) (f:k.T→bJ Rz) (x:k.T) (l:List D):feed (.ty k f) (enc k x::l)=feed (f x) l:=L9 k f x l
attribute [go_sem] enc
@[go_sem ↓] theorem aj2 (ys:List D) (t:bJ Rz):aY 999999 [.sl none 0 0 ys] t=feed t [.sl none 0 0 ys]:=PB ys t
@[go_sem] theorem aK.eta (m:aK):(⟨m.aA,m.bits,m.bY,m.bQ,m.held,m.last⟩:aK)=m:=rfl
@[go_sem] theorem aG.eta (s:aG):(⟨s.a,s.b⟩:aG)=s:=rfl
@[go_sem] theorem af.eta (n:af):(⟨n.id,n.up,n.bD,n.image,n.mt,n.cP,n.conn,n.sync,n.bA,n.wait⟩:af)=n:=rfl
@[go_sem] theorem sY.eta (n:sY):(⟨n.kind,n.cell,n.val,n.YG,n.aA⟩:sY)=n:=rfl
@[go_sem] theorem oT.eta (n:oT):(⟨n.kind,n.a,n.b⟩:oT)=n:=rfl
@[go_sem] theorem aN.eta (n:aN):(⟨n.nodes,n.cX,n.log,n.safe,n.gen⟩:aN)=n:=rfl
@[go_sem] theorem aj3:Int.toNat 2=2:=rfl
@[go_sem] theorem aj4:Int.toNat 3=3:=rfl
@[go_sem] theorem aj5:Int.toNat 4=4:=rfl
@[go_sem] theorem aj6:Int.toNat 5=5:=rfl
@[go_sem] theorem aj7:Int.toNat 6=6:=rfl
@[go_sem] theorem aj8:Int.toNat 7=7:=rfl
@[go_sem] theorem aj9:Int.toNat 8=8:=rfl
@[go_sem] theorem aka:Int.toNat 9=9:=rfl
@[go_sem] theorem aip:Int.toNat 10=10:=rfl
@[go_sem] theorem aiq:Int.toNat 11=11:=rfl
@[go_sem] theorem air:Int.toNat 12=12:=rfl
@[go_sem] theorem ais:Int.toNat 13=13:=rfl
@[go_sem] theorem ait:Int.toNat 14=14:=rfl
@[go_sem] theorem aiu:Int.toNat 15=15:=rfl
@[go_sem] theorem aiv:Int.toNat 16=16:=rfl
@[go_sem] theorem aiw:Int.toNat 17=17:=rfl
attribute [go_sem] decide_true decide_false NG wv aD Nat.zero_add Int.toNat_natCast Int.toNat_zero Int.toNat_one if_true
@[go_sem] theorem akb (a b:Int):U.eq a b=decide (a=b):=by
  show (a==b)=_
  rfl
@[go_sem] theorem aix (a b:Bool):U.beq a b=decide (a=b):=by cases a<;>cases b<;>rfl
@[go_sem] theorem aiy (i:Int) (n:Nat):U.bT i n=decide (0≤i∧i < (n:Int)):=by simp [U]
@[go_sem] theorem aiz (l h:Int) (n:Nat):U.yu l h n=decide (0≤l∧l≤h∧h≤(n:Int)):=by simp [U,Bool.and_assoc]
@[go_sem] theorem afT (n b:Nat):U.fits n b=decide (n*b≤140737488355328):=rfl
@[go_sem] theorem afU (l c:Int) (b:Nat):U.uM l c b=decide (0≤l∧l≤c∧c*(b:Int)≤140737488355328):=by simp [U,Bool.and_assoc]
@[go_sem] theorem aiA (a b:Nat):U.neq a b=decide (a=b):=rfl
@[go_sem] theorem aiB (i:Int):U.jr i=i.toNat:=rfl
@[go_sem] theorem afV (a b:Int):U.ri a b=a.toNat - b.toNat:=rfl
@[go_sem] theorem afW (a:Nat) (i:Int):U.idx a i 1=a+i.toNat:=by show (a+i.toNat)*1=_; omega
@[go_sem] theorem afX (n:Nat):Nat.mul n 1=n:=Nat.mul_one n
@[go_sem] theorem afY (n:Nat):Nat.mul 0 n=0:=Nat.zero_mul n
@[go_sem] theorem aiC (a b:Bool):br a b false=(a&&b):=by cases a<;>rfl
@[go_sem] theorem akc (a b:Bool):br a true b=(a||b):=by cases a<;>rfl
@[go_sem] theorem aiD (xs:List Int) (i:Nat):U.cL .i64 (ints xs) i=decide (i < xs.length):=by
  by_cases h:i < xs.length
  · simp [U,ints,h,eN]
  · simp [U,ints,List.getElem?_eq_none (Nat.not_lt.1 h),h]
@[go_sem] theorem afZ (xs:List Int) (i:Nat):U.bG (ints xs) i=xs.getD i 0:=by
  by_cases h:i < xs.length
  · simp [U,ints,h,sT]
  · simp [U,ints,List.getElem?_eq_none (Nat.not_lt.1 h),sT]
@[go_sem] theorem af0 (xs:List UInt8) (i:Nat):U.cL .u8 (bytes xs) i=decide (i < xs.length):=by
  by_cases h:i < xs.length
  · simp [U,bytes,ef,h,eN]
  · simp [U,bytes,List.getElem?_eq_none (Nat.not_lt.1 h),h]
@[go_sem] theorem adS (xs:List UInt8) (i:Nat):U.bG (bytes xs) i=((xs.getD i 0).toNat:Int):=by
  by_cases h:i < xs.length
  · simp [U,bytes,ef,h,sT]
  · simp [U,bytes,List.getElem?_eq_none (Nat.not_lt.1 h),sT]
@[go_sem] theorem aiE (xs:List Bool) (i:Nat):U.eD (aH xs) i=decide (i < xs.length):=by
  by_cases h:i < xs.length
  · simp [U,aH,h]
  · simp [U,aH,List.getElem?_eq_none (Nat.not_lt.1 h),h]
@[go_sem] theorem af1 (xs:List Bool) (i:Nat):U.cZ (aH xs) i=xs.getD i false:=by
  by_cases h:i < xs.length
  · simp [U,aH,h,zG]
  · simp [U,aH,List.getElem?_eq_none (Nat.not_lt.1 h),zG]
@[go_sem] theorem aiF (g:Bool) (xs:List (List Int)) (i:Nat):U.dq 1 (rows (some g) xs) i=decide (i < xs.length):=by
  by_cases h:i < xs.length
  · simp [U,rows,h]
  · simp [U,rows,List.getElem?_eq_none (Nat.not_lt.1 h),h]
@[go_sem] theorem af2 {g:Bool} {xs:List (List Int)} {i:Nat} (h:i < xs.length):U.cJ (rows (some g) xs) i=g:=gX h
@[go_sem] theorem af3 (xs:List (List Int)) (i:Nat):U.rj 1 (rows none xs) i=decide (i < xs.length):=by
  by_cases h:i < xs.length
  · simp [U,rows,h]
  · simp [U,rows,List.getElem?_eq_none (Nat.not_lt.1 h),h]
@[go_sem] theorem aiG (xs:List (List Int)) (i:Nat):U.Yq (rows none xs) i=decide (i < xs.length):=by
  by_cases h:i < xs.length
  · simp [U,rows,h]
  · simp [U,rows,List.getElem?_eq_none (Nat.not_lt.1 h),h]
@[go_sem] theorem af4 (g:Option Bool) (xs:List (List Int)) (i:Nat):U.cg (rows g xs) i=(xs.getD i []).length:=by
  by_cases h:i < xs.length
  · simp [U,rows,h,cN]
  · simp [U,rows,List.getElem?_eq_none (Nat.not_lt.1 h),cN]
@[go_sem] theorem af5 (g:Option Bool) (xs:List (List Int)) (i:Nat):U.cq (rows g xs) i=ints (xs.getD i []):=by
  by_cases h:i < xs.length
  · simp [U,rows,h,cC]
  · simp [U,rows,List.getElem?_eq_none (Nat.not_lt.1 h),cC,ints]
@[go_sem] theorem adT (xs:List Int) (i:Nat):U.slot (ints xs) i=decide (i < xs.length):=by
  by_cases h:i < xs.length
  · simp [U,ints,h,gd]
  · simp [U,ints,List.getElem?_eq_none (Nat.not_lt.1 h),h]
@[go_sem] theorem adU (xs:List UInt8) (i:Nat):U.slot (bytes xs) i=decide (i < xs.length):=by
  by_cases h:i < xs.length
  · simp [U,bytes,ef,h,gd]
  · simp [U,bytes,List.getElem?_eq_none (Nat.not_lt.1 h),h]
@[go_sem] theorem adV (xs:List Bool) (i:Nat):U.slot (aH xs) i=decide (i < xs.length):=by
  by_cases h:i < xs.length
  · simp [U,aH,h,gd]
  · simp [U,aH,List.getElem?_eq_none (Nat.not_lt.1 h),h]
@[go_sem] theorem aiH (xs:List (List Int)):U.nl (rows none xs)=true:=UC (by simp) xs
attribute [go_sem] lN eV NI ints_set FV FW qS fU gR jM gw gZ iN fI p7 Kv
@[go_sem] theorem af6 (xs:List (List Int)) (i n:Nat) (l:List Int) (h:n=l.length):List.set (rows none xs) i (.sl none 1 n (ints l))=rows none (xs.set i l):=by subst h; exact J1
@[go_sem] theorem adW (xs:List Int):U.flat (ints xs)=true:=List.all_eq_true.2 (by intro d hd; obtain ⟨a,_,rfl⟩:=List.mem_map.1 hd; rfl)
@[go_sem] theorem adX (xs:List UInt8):U.flat (bytes xs)=true:=List.all_eq_true.2 (by intro d hd; obtain ⟨a,_,rfl⟩:=List.mem_map.1 hd; rfl)
@[go_sem] theorem adY (xs:List Bool):U.flat (aH xs)=true:=List.all_eq_true.2 (by intro d hd; obtain ⟨a,_,rfl⟩:=List.mem_map.1 hd; rfl)
@[go_sem] theorem af7 (xs:List UInt8):U.pV (bytes xs)=true:=by
  have:=BH (x:=true) (y:=false) xs
  rwa [bf] at this
@[go_sem] theorem aiI (xs ys:List UInt8):U.seq (bs xs) (bs ys)=decide (xs=ys):=Kw xs ys
@[go_sem] theorem Z5 (xs:List Int) (i:Nat):List.drop i (ints xs)=ints (xs.drop i):=by simp [ints,List.map_drop]
@[go_sem] theorem aaU (xs ys:List Int):List.append (ints xs) (ints ys)=ints (xs++ys):=by simp [ints]
@[go_sem] theorem adZ (xs:List Int) (x:Int):List.append (ints xs) [D.int .i64 x]=ints (xs++[x]):=by simp [ints]
@[go_sem] theorem ac9 (xs:List UInt8) (x:UInt8):List.append (bytes xs) [ef x]=bytes (xs++[x]):=by simp [bytes]
@[go_sem] theorem abX (xs:List UInt8):List.append (bytes xs) [D.int .u8 0]=bytes (xs++[0]):=by simp [bytes,ef]
@[go_sem] theorem ada (x:Int):List.append [] [D.int .i64 x]=ints [x]:=rfl
@[go_sem] theorem abY (x:UInt8):List.append [] [ef x]=bytes [x]:=rfl
@[go_sem] theorem ad0 (x:UInt8):U.flat [ef x]=true:=rfl
@[go_sem] theorem ad1 (k:IntKind) (x:Int):U.flat [D.int k x]=true:=rfl
@[go_sem] theorem aiJ:U.nl []=true:=rfl
@[go_sem] theorem ad2 (n:Nat):fm n [.int .u8 0]=bytes (List.replicate n 0):=PD n
@[go_sem] theorem ad3 (n:Nat):fm n [.int .i64 0]=ints (List.replicate n 0):=PC n
@[go_sem] theorem ad4 (n:Nat):fm n [.bool false]=aH (List.replicate n false):=PE n
@[go_sem] theorem ad5 (n:Nat):fm n [.nil 1]=rows none (List.replicate n []):=PM n
@[go_sem] theorem ad6 (xs:List UInt8) (i:Nat):List.drop i (bytes xs)=bytes (xs.drop i):=by simp [bytes,List.map_drop]
@[go_sem] theorem ad7 (xs:List UInt8) (i:Nat):List.take i (bytes xs)=bytes (xs.take i):=by simp [bytes,List.map_take]
@[go_sem] theorem e_I (x:List Int):gS true (sI none x)=sI (some true) x:=by simp [gS,gw]
@[go_sem] theorem e_B (x:List UInt8):gS true (s8 none x)=s8 (some true) x:=by simp [gS,gR]
@[go_sem] theorem e_L (x:List Bool):gS true (sB none x)=sB (some true) x:=by simp [gS,jM]
@[go_sem] theorem e_R (x:List (List Int)):gS true (sR none x)=sR (some true) x:=by simp [gS,gZ]
@[go_sem] theorem af8 (x:aK):cW true (cn none x)=cn (some true) x:=by simp [gS,cW,gw,gZ]
@[go_sem] theorem ad8 (x:aG):cW true (dg none x)=dg (some true) x:=by simp [gS,cW,gR]
@[go_sem] theorem af9 (x:af):cW true (ab none x)=ab (some true) x:=by simp [gS,cW,gw,gZ,gR,jM]
@[go_sem] theorem aiK {a b:Int} (h:-9223372036854775808≤a - b) (h':a - b < 9223372036854775808):U.ar .sub .i64 a b=a - b:=kX h h'
@[go_sem] theorem Vo {a b:Int} (h:-9223372036854775808≤a+b) (h':a+b < 9223372036854775808):U.ar .add .i64 a b=a+b:=NH h h'
@[go_sem] theorem ad9 (x:UInt8):U.wrap .i64 (x.toNat:Int)=x.toNat:=wrap64 (by omega) (by have:=x.toNat_lt; omega)end Go.Proofs.Ytockoilcnmljiaa
namespace Go.Proofs.Ytockoilcnmljiaa
set_option maxRecDepth 100000
set_option profiler true
set_option profiler.threshold 1000
section
variable (pr:cT) (cv:Cv Rz) (J:Nat→St→Option Rz)
theorem BJ:Told cfg Try.prog 122 Try.f122:=⟨by kernel_rfl,Try.func122,by kernel_rfl⟩
theorem BK (x0:aK) (x1:Int):bc pr cv J 122 Try.f122 [(.agg (cn (some true) x0)),(.int .i64 x1)]=
    (cv 130 [(.agg (cn (some true) x0))] (.sl (fun eB=>(fun dR=>(.done (br (br (br (pr.nl dR) true false) true false) (cv 131 [(.int .i64 x1)] (.ty gU.B (fun (px:List UInt8)=>(.done (br (br (pr.flat [(.int .u8 (pr.wrap .u8 (pr.bu eB)))]) (pr.fits (px.length+1) 1) false) (br (br (pr.flat dR) (pr.fits ((px.length+1)+eB) 1) false) (br (br (pr.le 0 (pr.ar .sub .i64 156 (pr.bu ((px.length+1)+eB)))) (pr.fits (((px.length+1)+eB)+(pr.jr (pr.ar .sub .i64 156 (pr.bu ((px.length+1)+eB))))) 1) false) (cv 131 [(.int .i64 x1)] (.ty gU.B (fun (tK:List UInt8)=>(.done (br (br (pr.flat (bytes tK)) (pr.fits ((((px.length+1)+eB)+(pr.jr (pr.ar .sub .i64 156 (pr.bu ((px.length+1)+eB)))))+tK.length) 1) false) (some ((.sl none 1 ((((px.length+1)+eB)+(pr.jr (pr.ar .sub .i64 156 (pr.bu ((px.length+1)+eB)))))+tK.length) (List.append (List.append (List.append (List.append (bytes px) [(.int .u8 (pr.wrap .u8 (pr.bu eB)))]) dR) (fm (pr.jr (pr.ar .sub .i64 156 (pr.bu ((px.length+1)+eB)))) [(.int .u8 0)])) (bytes tK))),[.undef,.undef])) none))))) none) none) none))))) none)))))):=by kernel_rfl
def lR (x1:Int) (n0:Nat) (c1:List D):St:=(St.mk [(1,(.int .i64 x1)),(6,(.ref 10006 [] 0 none))] [(10006,[(.sl none 1 n0 c1)])] [] 0)
theorem Hn:Told cfg Try.prog 111 Try.f111:=⟨by kernel_rfl,Try.func111,by kernel_rfl⟩
theorem Ho (x0:aK) (x1:Int):bc pr cv J 111 Try.f111 [(.agg (cn (some true) x0)),(.int .i64 x1)]=
    (cv 118 [(.agg (cn (some true) x0))] (.sl (fun eB=>(fun dR=>(.done (br (br (br (pr.nl dR) true false) true false) (cv 119 [(.int .i64 x1)] (.ty gU.B (fun (px:List UInt8)=>(.done (br (br (pr.flat [(.int .u8 (pr.wrap .u8 (pr.bu eB)))]) (pr.fits (px.length+1) 1) false) (br (br (pr.flat dR) (pr.fits ((px.length+1)+eB) 1) false) (J 0 (lR x1 ((px.length+1)+eB) (List.append (List.append (bytes px) [(.int .u8 (pr.wrap .u8 (pr.bu eB)))]) dR))) none) none))))) none)))))):=by kernel_rfl
theorem tL (x1:Int) (n0:Nat) (c1:List D):cA pr cv J 111 Try.f111 [.undef,.undef] 0 (lR x1 n0 c1)=
    (br (pr.lt (pr.bu n0) 156) (br (br (pr.flat [(.int .u8 0)]) (pr.fits (n0+1) 1) false) (J 0 (lR x1 (n0+1) (List.append c1 [(.int .u8 0)]))) none) (cv 119 [(.int .i64 x1)] (.ty gU.B (fun (xG:List UInt8)=>(.done (br (br (pr.flat (bytes xG)) (pr.fits (n0+xG.length) 1) false) (some ((.sl none 1 (n0+xG.length) (List.append c1 (bytes xG))),[.undef,.undef])) none)))))):=by kernel_rfl
theorem Hp:Told cfg Try.prog 117 Try.f117:=⟨by kernel_rfl,Try.func117,by kernel_rfl⟩
theorem Hq (x0:List UInt8):bc pr cv J 117 Try.f117 [(s8 (some true) x0)]=
    let y1:Option (D × List D):=(some ((.aR [(.agg [(.sl none 1 0 []),(.sl none 1 0 []),(.bool false),(.bool false),(.bool false),(.int .i64 0)]),(.int .i64 0),(.bool false)]),[.undef]))
    let y2:D:=(.int .i64 (pr.ar .or .i64 (pr.ar .or .i64 (pr.ar .or .i64 (pr.wrap .i64 (pr.bG (bytes x0) (pr.idx 0 0 1))) (pr.ar .shl .i64 (pr.wrap .i64 (pr.bG (bytes x0) (pr.idx 0 1 1))) 8)) (pr.ar .shl .i64 (pr.wrap .i64 (pr.bG (bytes x0) (pr.idx 0 2 1))) 16)) (pr.ar .shl .i64 (pr.wrap .i64 (pr.bG (bytes x0) (pr.idx 0 3 1))) 24)))
    let y3:Int:=(pr.ar .add .i64 5 (pr.wrap .i64 (pr.bG (bytes x0) (pr.idx 0 4 1))))
    let y4:Nat:=(pr.ri y3 5)
    (br (br (pr.eq (pr.bu x0.length) 160) false true) y1 (br (pr.bT 0 x0.length) (br (br (pr.cL .u8 (bytes x0) (pr.idx 0 0 1)) true false) (br (pr.bT 1 x0.length) (br (br (pr.cL .u8 (bytes x0) (pr.idx 0 1 1)) true false) (br (br (pr.lt 8 0) false true) (br (pr.bT 2 x0.length) (br (br (pr.cL .u8 (bytes x0) (pr.idx 0 2 1)) true false) (br (br (pr.lt 16 0) false true) (br (pr.bT 3 x0.length) (br (br (pr.cL .u8 (bytes x0) (pr.idx 0 3 1)) true false) (br (br (pr.lt 24 0) false true) (br (pr.bT 4 x0.length) (br (br (pr.cL .u8 (bytes x0) (pr.idx 0 4 1)) true false) (cv 99 [y2,(.int .i64 1),(.int .i64 1000000)] (.bool (fun ck=>(.done (br (br ck false true) y1 (br (pr.lt 151 (pr.wrap .i64 (pr.bG (bytes x0) (pr.idx 0 4 1)))) y1 (br (pr.yu 5 y3 x0.length) (cv 125 [(.sl (some true) 1 y4 (List.take (Nat.mul y4 1) (List.drop (Nat.mul (pr.jr 5) 1) (bytes x0))))] (.ty gU.mt (fun (za:aK)=>(.bool (fun ia=>(.done (br (br ia false true) y1 (cv 122 [(.agg (cW true (cn none za))),y2] (.ty gU.B (fun (tK:List UInt8)=>(.done (cv 126 [(gS true (s8 none tK)),(s8 (some true) x0)] (.bool (fun J0=>(.done (br (br J0 false true) y1 (some ((.aR [(.agg (cn none za)),y2,(.bool true)]),[.undef])))))))))))))))))) none))))))) none) none) none) none) none) none) none) none) none) none) none) none) none)):=by kernel_rfl
theorem Hr:Told cfg Try.prog 97 Try.f97:=⟨by kernel_rfl,Try.func97,by kernel_rfl⟩
theorem Ht (x0:List UInt8):bc pr cv J 97 Try.f97 [(s8 (some true) x0)]=
    let y1:Option (D × List D):=(some ((.aR [(.agg [(.sl none 1 0 []),(.sl none 1 0 []),(.bool false),(.bool false),(.bool false),(.int .i64 0)]),(.int .i64 0),(.bool false)]),[.undef]))
    let y2:D:=(.int .i64 (pr.ar .add .i64 (pr.ar .add .i64 (pr.ar .add .i64 (pr.wrap .i64 (pr.bG (bytes x0) (pr.idx 0 0 1))) (pr.ar .shl .i64 (pr.wrap .i64 (pr.bG (bytes x0) (pr.idx 0 1 1))) 8)) (pr.ar .shl .i64 (pr.wrap .i64 (pr.bG (bytes x0) (pr.idx 0 2 1))) 16)) (pr.ar .shl .i64 (pr.wrap .i64 (pr.bG (bytes x0) (pr.idx 0 3 1))) 24)))
    let y3:Int:=(pr.ar .add .i64 5 (pr.wrap .i64 (pr.bG (bytes x0) (pr.idx 0 4 1))))
    let y4:Nat:=(pr.ri y3 5)
    (br (br (pr.eq (pr.bu x0.length) 160) false true) y1 (br (pr.bT 0 x0.length) (br (br (pr.cL .u8 (bytes x0) (pr.idx 0 0 1)) true false) (br (pr.bT 1 x0.length) (br (br (pr.cL .u8 (bytes x0) (pr.idx 0 1 1)) true false) (br (br (pr.lt 8 0) false true) (br (pr.bT 2 x0.length) (br (br (pr.cL .u8 (bytes x0) (pr.idx 0 2 1)) true false) (br (br (pr.lt 16 0) false true) (br (pr.bT 3 x0.length) (br (br (pr.cL .u8 (bytes x0) (pr.idx 0 3 1)) true false) (br (br (pr.lt 24 0) false true) (br (pr.bT 4 x0.length) (br (br (pr.cL .u8 (bytes x0) (pr.idx 0 4 1)) true false) (cv 64 [y2,(.int .i64 1),(.int .i64 1000000)] (.bool (fun ck=>(.done (br (br ck false true) y1 (br (pr.lt 151 (pr.wrap .i64 (pr.bG (bytes x0) (pr.idx 0 4 1)))) y1 (br (pr.yu 5 y3 x0.length) (cv 113 [(.sl (some true) 1 y4 (List.take (Nat.mul y4 1) (List.drop (Nat.mul (pr.jr 5) 1) (bytes x0))))] (.ty gU.mt (fun (za:aK)=>(.bool (fun ia=>(.done (br (br ia false true) y1 (br (pr.pV (bytes x0)) (cv 111 [(.agg (cW true (cn none za))),y2] (.ty gU.B (fun (tK:List UInt8)=>(.done (br (pr.pV (bytes tK)) (br (br (pr.seq (pr.yv (bytes tK)) (pr.yv (bytes x0))) false true) y1 (some ((.aR [(.agg (cn none za)),y2,(.bool true)]),[.undef]))) none))))) none)))))))) none))))))) none) none) none) none) none) none) none) none) none) none) none) none) none)):=by kernel_rfl
theorem Hu:Told cfg Try.prog 106 Try.f106:=⟨by kernel_rfl,Try.func106,by kernel_rfl⟩
theorem Hv (x0:aG):bc pr cv J 106 Try.f106 [(.agg (dg (some true) x0))]=
    (cv 117 [(s8 (some true) x0.a)] (.ty gU.mt (fun (xG:aK)=>(.int (fun mo=>(.bool (fun ia=>(.done (cv 117 [(s8 (some true) x0.b)] (.ty gU.mt (fun (tK:aK)=>(.int (fun kO=>(.bool (fun tg=>(.done (br tg (br (br ia false true) (some ((.aR [(.agg (cn none tK)),(.int .i64 kO),(.bool false)]),[.undef])) (br (pr.lt mo kO) (some ((.aR [(.agg (cn none tK)),(.int .i64 kO),(.bool false)]),[.undef])) (some ((.aR [(.agg (cn none xG)),(.int .i64 mo),(.bool ia)]),[.undef])))) (some ((.aR [(.agg (cn none xG)),(.int .i64 mo),(.bool ia)]),[.undef]))))))))))))))))))):=by kernel_rfl
theorem EN:Told cfg Try.prog 96 Try.f96:=⟨by kernel_rfl,Try.func96,by kernel_rfl⟩
theorem EO (x0:aG):bc pr cv J 96 Try.f96 [(.agg (dg (some true) x0))]=
    let y1:Option (D × List D):=(some ((.int .i64 0),[.undef]))
    let y2:Option (D × List D):=(some ((.int .i64 1),[.undef]))
    let y3:Option (D × List D):=(some ((.int .i64 (-1)),[.undef]))
    (cv 97 [(s8 (some true) x0.a)] (.ty gU.mt (fun (xG:aK)=>(.int (fun mo=>(.bool (fun ia=>(.done (cv 97 [(s8 (some true) x0.b)] (.ty gU.mt (fun (tK:aK)=>(.int (fun kO=>(.bool (fun tg=>(.done (br ia (br (br tg false true) y1 (br (pr.le kO mo) y1 (br tg y2 y3))) (br tg y2 y3)))))))))))))))))):=by kernel_rfl
theorem EP:Told cfg Try.prog 76 Try.f76:=⟨by kernel_rfl,Try.func76,by kernel_rfl⟩
theorem ER (x0:aG):bc pr cv J 76 Try.f76 [(.agg (dg (some true) x0))]=
    (cv 106 [(.agg (dg (some true) x0))] (.ty gU.mt (fun (xG:aK)=>(.int (fun mo=>(.bool (fun ia=>(.done (some ((.aR [(.agg (cn none xG)),(.int .i64 mo),(.bool (pr.lt 0 mo))]),[.undef])))))))))):=by kernel_rfl
theorem ES:Told cfg Try.prog 68 Try.f68:=⟨by kernel_rfl,Try.func68,by kernel_rfl⟩
theorem ET (x0:aG):bc pr cv J 68 Try.f68 [(.agg (dg (some true) x0))]=
    let y1:bJ Rz:=(.ty gU.mt (fun (za:aK)=>(.int (fun th=>(.bool (fun yP=>(.done (some ((.aR [(.agg (cn none za)),(.int .i64 th),(.bool yP)]),[.undef])))))))))
    (cv 96 [(.agg (dg (some true) x0))] (.int (fun ga=>(.done (br (pr.eq ga 1) (cv 97 [(s8 (some true) x0.b)] y1) (cv 97 [(s8 (some true) x0.a)] y1)))))):=by kernel_rfl
end
@[go_sem] theorem o9 (a:Nat):(o5 a).length=4:=rfl
attribute [go_sem] yY jL gQ
@[go_sem] theorem WN (b0:Nat) (b:List UInt8) (e0:b0=b.length) (q0:b.length≤1000000) (t:bJ Rz):aY 125 [.sl (some true) 1 b0 (bytes b)] t=feed t [enc .mt ((dG b).1),.bool ((dG b).2)]:=by
  subst e0
  exact bK (r:=.aR [enc .mt ((dG b).1),.bool ((dG b).2)]) (s:=.aR [.ty .mt,.bool]) (ss:=[.undef]) (Hm b q0) (by kernel_rfl) (by simp only [aw,bo,aV,bp,bq,ai,ak,Bool.and_self]) (by simp only [ai,aI,aw,ak,Bool.and_self]) (by first | rfl | simp only [av,aT,aS,bl,bm,aU,bn,Bool.and_self]) (by first | rfl | simp only [List.all_cons,List.all_nil,av,Bool.and_self]) t
@[go_sem] theorem WO (b0:Nat) (b:List UInt8) (e0:b0=b.length) (q0:b.length≤1000000) (t:bJ Rz):aY 113 [.sl (some true) 1 b0 (bytes b)] t=feed t [enc .mt ((dG b).1),.bool ((dG b).2)]:=by
  subst e0
  exact bK (r:=.aR [enc .mt ((dG b).1),.bool ((dG b).2)]) (s:=.aR [.ty .mt,.bool]) (ss:=[.undef]) (Hl b q0) (by kernel_rfl) (by simp only [aw,bo,aV,bp,bq,ai,ak,Bool.and_self]) (by simp only [ai,aI,aw,ak,Bool.and_self]) (by first | rfl | simp only [av,aT,aS,bl,bm,aU,bn,Bool.and_self]) (by first | rfl | simp only [List.all_cons,List.all_nil,av,Bool.and_self]) t
@[go_sem] theorem Z6 (a:Nat) (q0:a < 4611686018427387904) (t:bJ Rz):aY 131 [.int .i64 (a:Int)] t=feed t [enc .B (o5 a)]:=by
  exact bK (r:=enc .B (o5 a)) (s:=.ty .B) (ss:=[.undef]) (Zc a q0) (by kernel_rfl) (by simp only [aw,bo,aV,bp,bq,ai,ak,Bool.and_self]) (by simp only [ai,aI,aw,ak,Bool.and_self]) (by first | rfl | simp only [av,aT,aS,bl,bm,aU,bn,Bool.and_self]) (by first | rfl | simp only [List.all_cons,List.all_nil,av,Bool.and_self]) t
@[go_sem] theorem Zh (a:Nat) (q0:a < 4611686018427387904) (t:bJ Rz):aY 119 [.int .i64 (a:Int)] t=feed t [enc .B (o5 a)]:=by
  exact bK (r:=enc .B (o5 a)) (s:=.ty .B) (ss:=[.undef]) (Wp a q0) (by kernel_rfl) (by simp only [aw,bo,aV,bp,bq,ai,ak,Bool.and_self]) (by simp only [ai,aI,aw,ak,Bool.and_self]) (by first | rfl | simp only [av,aT,aS,bl,bm,aU,bn,Bool.and_self]) (by first | rfl | simp only [List.all_cons,List.all_nil,av,Bool.and_self]) t
def lS (m:aK) (n:Nat):List UInt8:=o5 n++[UInt8.ofNat (ct m).length]++ct m++List.replicate (151 - (ct m).length) 0++o5 n
@[go_sem] theorem Tj (n k:Nat) (a:List Int) (b:List (List Int)) (f o h:Bool) (l:Int) (e1:n=a.length) (e2:k=b.length) (q:cU ⟨a,b,f,o,h,l⟩) (t:bJ Rz):aY 118 [.agg [.sl (some true) 1 n (ints a),.sl (some true) 1 k (rows (some true) b),.bool f,.bool o,.bool h,.int .i64 l]] t=feed t [s8 none (ct ⟨a,b,f,o,h,l⟩)]:=by
  subst e1
  subst e2
  exact tF (g:=true) (m:=⟨a,b,f,o,h,l⟩) (hm:=q) t
@[go_sem] theorem Tk (n k:Nat) (a:List Int) (b:List (List Int)) (f o h:Bool) (l:Int) (e1:n=a.length) (e2:k=b.length) (q:cU ⟨a,b,f,o,h,l⟩) (t:bJ Rz):aY 130 [.agg [.sl (some true) 1 n (ints a),.sl (some true) 1 k (rows (some true) b),.bool f,.bool o,.bool h,.int .i64 l]] t=feed t [s8 none (ct ⟨a,b,f,o,h,l⟩)]:=by
  subst e1
  subst e2
  exact tG (g:=true) (m:=⟨a,b,f,o,h,l⟩) (hm:=q) t
theorem tM (m:aK) (n:Nat) (q0:cU m) (q1:(ct m).length≤151) (q2:n < 4611686018427387904):Cm 122 [.agg (cn (some true) m),.int .i64 (n:Int)] (s8 none (lS m n),[.undef,.undef]):=by
  refine Cm.step BJ _ fun J _=>?_
  rw [BK]
  unfold lS
  simp (disch:=first | assumption | omega) only [go_sem,aD]
  have e:(156 - ((4+1+(ct m).length:Nat):Int)).toNat=151 - (ct m).length:=by omega
  rw [e]
  simp only [s8,List.length_append,o9,List.length_replicate,List.length_singleton]
@[go_sem] theorem Tl (mA:Nat) (fD:List Int) (mB:Nat) (fE:List (List Int)) (gD:Bool) (gE:Bool) (gF:Bool) (gG:Int) (n:Nat) (e0:mA=fD.length) (e1:mB=fE.length) (q0:cU (⟨fD,fE,gD,gE,gF,gG⟩:aK)) (q1:(ct (⟨fD,fE,gD,gE,gF,gG⟩:aK)).length≤151) (q2:n < 4611686018427387904) (t:bJ Rz):aY 122 [.agg [.sl (some true) 1 mA (ints fD),.sl (some true) 1 mB (rows (some true) fE),.bool gD,.bool gE,.bool gF,.int .i64 gG],.int .i64 (n:Int)] t=feed t [enc .B (lS (⟨fD,fE,gD,gE,gF,gG⟩:aK) n)]:=by
  subst e0
  subst e1
  exact bK (r:=enc .B (lS (⟨fD,fE,gD,gE,gF,gG⟩:aK) n)) (s:=.ty .B) (ss:=[.undef,.undef]) (tM (⟨fD,fE,gD,gE,gF,gG⟩:aK) n q0 q1 q2) (by kernel_rfl) (by simp only [aw,bo,aV,bp,bq,ai,ak,Bool.and_self]) (by simp only [ai,aI,aw,ak,Bool.and_self]) (by first | rfl | simp only [av,aT,aS,bl,bm,aU,bn,Bool.and_self]) (by first | rfl | simp only [List.all_cons,List.all_nil,av,Bool.and_self]) t
theorem xH (m:aK) (n:Nat) (q0:cU m) (q1:(ct m).length≤151) (q2:n < 4611686018427387904):Cm 111 [.agg (cn (some true) m),.int .i64 (n:Int)] (s8 none (lS m n),[.undef,.undef]):=by
  have key:∀ k (o:List UInt8),o.length+k=156→WP 111 Try.f111 [.undef,.undef] 0 (lR (n:Int) o.length (bytes o)) (s8 none (o++List.replicate k 0++o5 n),[.undef,.undef]):=by
    intro k
    induction k with
    | zero=>
      intro o ho
      refine WP.step fun J _=>?_
      rw [tL]
      simp (disch:=first | assumption | omega) only [go_sem]
      simp only [s8,List.replicate_zero,List.append_nil,List.length_append,o9]
    | succ k ih=>
      intro o ho
      refine WP.step fun J hJ=>?_
      rw [tL]
      simp (disch:=first | assumption | omega) only [go_sem]
      have h:=ih (o++[0]) (by simp only [List.length_append,List.length_singleton]; omega)
      rw [List.length_append,List.length_singleton,List.append_assoc o,List.singleton_append,← List.replicate_succ] at h
      exact hJ _ _ h
  refine Cm.step Hn [.undef,.undef] fun J hJ=>?_
  rw [Ho]
  simp (disch:=first | assumption | omega) only [go_sem]
  have h:=key (151 - (ct m).length) (o5 n++[UInt8.ofNat (ct m).length]++ct m) (by simp only [List.length_append,o9,List.length_singleton]; omega)
  rw [List.length_append,List.length_append,o9,List.length_singleton] at h
  exact hJ _ _ h
@[go_sem] theorem WQ (mA:Nat) (fD:List Int) (mB:Nat) (fE:List (List Int)) (gD:Bool) (gE:Bool) (gF:Bool) (gG:Int) (n:Nat) (e0:mA=fD.length) (e1:mB=fE.length) (q0:cU (⟨fD,fE,gD,gE,gF,gG⟩:aK)) (q1:(ct (⟨fD,fE,gD,gE,gF,gG⟩:aK)).length≤151) (q2:n < 4611686018427387904) (t:bJ Rz):aY 111 [.agg [.sl (some true) 1 mA (ints fD),.sl (some true) 1 mB (rows (some true) fE),.bool gD,.bool gE,.bool gF,.int .i64 gG],.int .i64 (n:Int)] t=feed t [enc .B (lS (⟨fD,fE,gD,gE,gF,gG⟩:aK) n)]:=by
  subst e0
  subst e1
  exact bK (r:=enc .B (lS (⟨fD,fE,gD,gE,gF,gG⟩:aK) n)) (s:=.ty .B) (ss:=[.undef,.undef]) (xH (⟨fD,fE,gD,gE,gF,gG⟩:aK) n q0 q1 q2) (by kernel_rfl) (by simp only [aw,bo,aV,bp,bq,ai,ak,Bool.and_self]) (by simp only [ai,aI,aw,ak,Bool.and_self]) (by first | rfl | simp only [av,aT,aS,bl,bm,aU,bn,Bool.and_self]) (by first | rfl | simp only [List.all_cons,List.all_nil,av,Bool.and_self]) t
def ld (b:List UInt8):Nat:=(b.getD 0 0).toNat+(b.getD 1 0).toNat*256+(b.getD 2 0).toNat*65536+(b.getD 3 0).toNat*16777216
def kq (b:List UInt8):List UInt8:=(b.drop 5).take (b.getD 4 0).toNat
def fV (b:List UInt8):Bool:=decide ((b.length:Int)=160)&&(decide (1≤(ld b:Int)∧(ld b:Int)≤1000000)&&(!decide (151 < ((b.getD 4 0).toNat:Int))&&((dG (kq b)).2&&decide (lS (dG (kq b)).1 (ld b)=b))))
def bV (b:List UInt8):aK × Int × Bool:=if fV b then ((dG (kq b)).1,(ld b:Int),true) else (fr,0,false)
theorem Dy {b:List UInt8} (h:(dG b).2=true):ct (dG b).1=b:=by
  unfold dG at h ⊢
  split at h
  · rename_i h1
    rw [if_pos h1]
    simp only [Bool.and_eq_true,decide_eq_true_eq] at h1
    exact h1.2.1
  · simp at h
theorem gp {b:List UInt8} (h:fV b=false):bV b=(fr,0,false):=by unfold bV; rw [h]; rfl
theorem uQ {b:List UInt8} (h:fV b=true):bV b=((dG (kq b)).1,(ld b:Int),true):=by unfold bV; rw [h]; rfl
theorem Kz {b:List UInt8} (h:b.length=160) (h4:(b.getD 4 0).toNat≤151):(kq b).length=(b.getD 4 0).toNat:=by simp only [kq,List.length_take,List.length_drop]; omega
theorem Mu (b:List UInt8):ld b < 4294967296:=by
  have:=(b.getD 0 0).toNat_lt; have:=(b.getD 1 0).toNat_lt; have:=(b.getD 2 0).toNat_lt; have:=(b.getD 3 0).toNat_lt
  unfold ld; omega
theorem wI (b:List UInt8):U.ar .add .i64 (U.ar .add .i64 (U.ar .add .i64 ((b.getD 0 0).toNat:Int) (U.ar .shl .i64 ((b.getD 1 0).toNat:Int) 8)) (U.ar .shl .i64 ((b.getD 2 0).toNat:Int) 16)) (U.ar .shl .i64 ((b.getD 3 0).toNat:Int) 24)=((ld b:Nat):Int):=by
  have h0:=(b.getD 0 0).toNat_lt; have h1:=(b.getD 1 0).toNat_lt; have h2:=(b.getD 2 0).toNat_lt; have h3:=(b.getD 3 0).toNat_lt
  have s1:U.ar .shl .i64 ((b.getD 1 0).toNat:Int) 8=_:=tA (k:=8) (by omega) (by omega)
  have s2:U.ar .shl .i64 ((b.getD 2 0).toNat:Int) 16=_:=tA (k:=16) (by omega) (by omega)
  have s3:U.ar .shl .i64 ((b.getD 3 0).toNat:Int) 24=_:=tA (k:=24) (by omega) (by omega)
  rw [s1,s2,s3,qT (by omega),qT (by omega),qT (by omega)]
  rfl
theorem zV (b:List UInt8):U.ar .or .i64 (U.ar .or .i64 (U.ar .or .i64 ((b.getD 0 0).toNat:Int) (U.ar .shl .i64 ((b.getD 1 0).toNat:Int) 8)) (U.ar .shl .i64 ((b.getD 2 0).toNat:Int) 16)) (U.ar .shl .i64 ((b.getD 3 0).toNat:Int) 24)=((ld b:Nat):Int):=by
  have h0:=(b.getD 0 0).toNat_lt; have h1:=(b.getD 1 0).toNat_lt; have h2:=(b.getD 2 0).toNat_lt; have h3:=(b.getD 3 0).toNat_lt
  have s1:U.ar .shl .i64 ((b.getD 1 0).toNat:Int) 8=_:=tA (k:=8) (by omega) (by omega)
  have s2:U.ar .shl .i64 ((b.getD 2 0).toNat:Int) 16=_:=tA (k:=16) (by omega) (by omega)
  have s3:U.ar .shl .i64 ((b.getD 3 0).toNat:Int) 24=_:=tA (k:=24) (by omega) (by omega)
  rw [s1,s2,s3,H9 (by omega) (by omega),Dn (k:=8) h0,H9 (by omega) (by omega),Dn (k:=16) (by omega),H9 (by omega) (by omega),Dn (k:=24) (by omega)]
  rfl
theorem Zi {b:List UInt8} (h:¬((b.length:Int)=160)):fV b=false:=by simp only [fV,h,decide_false,Bool.false_and]
theorem Zj {b:List UInt8} (h:¬(1≤(ld b:Int)∧(ld b:Int)≤1000000)):fV b=false:=by simp only [fV,h,decide_false,Bool.false_and,Bool.and_false]
theorem Zk {b:List UInt8} (h:151 < ((b.getD 4 0).toNat:Int)):fV b=false:=by simp only [fV,h,decide_true,Bool.not_true,Bool.false_and,Bool.and_false]
theorem Zl {b:List UInt8} (h:(dG (kq b)).2=false):fV b=false:=by simp only [fV,h,Bool.false_and,Bool.and_false]
theorem Zm {b:List UInt8} (h:¬(lS (dG (kq b)).1 (ld b)=b)):fV b=false:=by simp only [fV,h,decide_false,Bool.and_false]
theorem Zn {b:List UInt8} (h1:(b.length:Int)=160) (h2:1≤(ld b:Int)∧(ld b:Int)≤1000000) (h3:¬(151 < ((b.getD 4 0).toNat:Int))) (h4:(dG (kq b)).2=true) (h5:lS (dG (kq b)).1 (ld b)=b):fV b=true:=by simp only [fV,h1,h2,h3,h4,h5,and_self,decide_true,decide_false,Bool.not_false,Bool.and_self]
theorem Hw (b:List UInt8) (q0:b.length≤1048576):Cm 97 [s8 (some true) b] (.aR [.agg (cn none ((bV b).1)),.int .i64 ((bV b).2.1),.bool ((bV b).2.2)],[.undef]):=by
  refine Cm.step Hr _ fun J _=>?_
  rw [Ht]
  simp (disch:=first | assumption | omega) only [go_sem]
  refine dz (fun hl=>?_) (fun hl=>by rw [gp (Zi hl)]; rfl)
  have h4:=(b.getD 4 0).toNat_lt
  have hw:=Mu b
  simp (disch:=first | assumption | omega) only [go_sem,wI]
  refine dz (fun hn=>?_) (fun hn=>by rw [gp (Zj hn)]; rfl)
  simp (disch:=first | assumption | omega) only [go_sem]
  refine dz (fun hs=>by rw [gp (Zk hs)]; rfl) (fun hs=>?_)
  have hp:=Kz (b:=b) (by omega) (by omega)
  have ep:List.take (b.getD 4 0).toNat (List.drop 5 b)=kq b:=rfl
  have cw:=yZ (kq b) (by omega)
  have e5:(5+((b.getD 4 0).toNat:Int)).toNat - 5=(b.getD 4 0).toNat:=by omega
  simp (disch:=first | assumption | omega) only [go_sem,e5,ep,wI]
  refine Mt (fun hq=>?_) (fun hq=>by rw [gp (Zl hq)]; rfl)
  have hm:=Dy hq
  simp (disch:=first | assumption | (rw [hm]; omega) | omega) only [go_sem,wI]
  refine dz (fun he=>?_) (fun he=>by rw [gp (Zm he)]; rfl)
  simp (disch:=first | assumption | omega) only [go_sem,wI,uQ (Zn hl hn hs hq he)]
@[go_sem] theorem WR (b0:Nat) (b:List UInt8) (e0:b0=b.length) (q0:b.length≤1048576) (t:bJ Rz):aY 97 [.sl (some true) 1 b0 (bytes b)] t=feed t [enc .mt ((bV b).1),.int .i64 ((bV b).2.1),.bool ((bV b).2.2)]:=by
  subst e0
  exact bK (r:=.aR [enc .mt ((bV b).1),.int .i64 ((bV b).2.1),.bool ((bV b).2.2)]) (s:=.aR [.ty .mt,.int .i64,.bool]) (ss:=[.undef]) (Hw b q0) (by kernel_rfl) (by simp only [aw,bo,aV,bp,bq,ai,ak,Bool.and_self]) (by simp only [ai,aI,aw,ak,Bool.and_self]) (by first | rfl | simp only [av,aT,aS,bl,bm,aU,bn,Bool.and_self]) (by first | rfl | simp only [List.all_cons,List.all_nil,av,Bool.and_self]) t
theorem Hy (b:List UInt8) (q0:b.length≤1048576):Cm 117 [s8 (some true) b] (.aR [.agg (cn none ((bV b).1)),.int .i64 ((bV b).2.1),.bool ((bV b).2.2)],[.undef]):=by
  refine Cm.step Hp _ fun J _=>?_
  rw [Hq]
  simp (disch:=first | assumption | omega) only [go_sem]
  refine dz (fun hl=>?_) (fun hl=>by rw [gp (Zi hl)]; rfl)
  have h4:=(b.getD 4 0).toNat_lt
  have hw:=Mu b
  simp (disch:=first | assumption | omega) only [go_sem,zV]
  refine dz (fun hn=>?_) (fun hn=>by rw [gp (Zj hn)]; rfl)
  simp (disch:=first | assumption | omega) only [go_sem]
  refine dz (fun hs=>by rw [gp (Zk hs)]; rfl) (fun hs=>?_)
  have hp:=Kz (b:=b) (by omega) (by omega)
  have ep:List.take (b.getD 4 0).toNat (List.drop 5 b)=kq b:=rfl
  have cw:=yZ (kq b) (by omega)
  have e5:(5+((b.getD 4 0).toNat:Int)).toNat - 5=(b.getD 4 0).toNat:=by omega
  simp (disch:=first | assumption | omega) only [go_sem,e5,ep,zV]
  refine Mt (fun hq=>?_) (fun hq=>by rw [gp (Zl hq)]; rfl)
  have hm:=Dy hq
  simp (disch:=first | assumption | (rw [hm]; omega) | omega) only [go_sem,zV]
  refine dz (fun he=>?_) (fun he=>by rw [gp (Zm he)]; rfl)
  simp (disch:=first | assumption | omega) only [go_sem,zV,uQ (Zn hl hn hs hq he)]
@[go_sem] theorem WS (b0:Nat) (b:List UInt8) (e0:b0=b.length) (q0:b.length≤1048576) (t:bJ Rz):aY 117 [.sl (some true) 1 b0 (bytes b)] t=feed t [enc .mt ((bV b).1),.int .i64 ((bV b).2.1),.bool ((bV b).2.2)]:=by
  subst e0
  exact bK (r:=.aR [enc .mt ((bV b).1),.int .i64 ((bV b).2.1),.bool ((bV b).2.2)]) (s:=.aR [.ty .mt,.int .i64,.bool]) (ss:=[.undef]) (Hy b q0) (by kernel_rfl) (by simp only [aw,bo,aV,bp,bq,ai,ak,Bool.and_self]) (by simp only [ai,aI,aw,ak,Bool.and_self]) (by first | rfl | simp only [av,aT,aS,bl,bm,aU,bn,Bool.and_self]) (by first | rfl | simp only [List.all_cons,List.all_nil,av,Bool.and_self]) t
theorem Gh (b:List UInt8):cU (bV b).1:=by
  unfold bV
  split
  · exact yZ (kq b) (by have:=(b.getD 4 0).toNat_lt; simp only [kq,List.length_take,List.length_drop]; omega)
  · exact ⟨by simp [fr],by simp [fr],by simp [fr]⟩
theorem Dz (b:List UInt8):if (bV b).2.2 then 1≤(bV b).2.1∧(bV b).2.1≤1000000 else bV b=(fr,0,false):=by
  cases h:fV b with
  | false=>rw [gp h]; rfl
  | true=>
    rw [uQ h]
    simp only [fV,Bool.and_eq_true,decide_eq_true_eq] at h
    exact h.2.1
def DA (s:aG):Bool:=(bV s.b).2.2&&(!(bV s.a).2.2||decide ((bV s.a).2.1 < (bV s.b).2.1))
def aF (s:aG):aK × Int × Bool:=if DA s then bV s.b else bV s.a
def mW (s:aG):Bool:=!DA s&&(bV s.a).2.2
theorem xI (s:aG) (q0:eo s):Cm 106 [.agg (dg (some true) s)] (.aR [.agg (cn none ((((aF s).1,(aF s).2.1,mW s)).1)),.int .i64 ((((aF s).1,(aF s).2.1,mW s)).2.1),.bool ((((aF s).1,(aF s).2.1,mW s)).2.2)],[.undef]):=by
  have qa:=q0.a
  have qb:=q0.b
  have h1:=Dz s.a
  refine Cm.step Hu _ fun J _=>?_
  rw [Hv]
  simp (disch:=first | assumption | omega) only [go_sem]
  unfold aF mW DA
  generalize bV s.a=a at*
  generalize bV s.b=b at*
  obtain ⟨a1,a2,a3⟩:=a
  obtain ⟨b1,b2,b3⟩:=b
  cases a3<;>cases b3<;>by_cases h:a2 < b2<;>simp [br,h,enc,NG]
@[go_sem] theorem WU (tN:Nat) (eL:List UInt8) (tO:Nat) (eM:List UInt8) (e0:tN=eL.length) (e1:tO=eM.length) (q0:eo (⟨eL,eM⟩:aG)) (t:bJ Rz):aY 106 [.agg [.sl (some true) 1 tN (bytes eL),.sl (some true) 1 tO (bytes eM)]] t=feed t [enc .mt ((((aF (⟨eL,eM⟩:aG)).1,(aF (⟨eL,eM⟩:aG)).2.1,mW (⟨eL,eM⟩:aG))).1),.int .i64 ((((aF (⟨eL,eM⟩:aG)).1,(aF (⟨eL,eM⟩:aG)).2.1,mW (⟨eL,eM⟩:aG))).2.1),.bool ((((aF (⟨eL,eM⟩:aG)).1,(aF (⟨eL,eM⟩:aG)).2.1,mW (⟨eL,eM⟩:aG))).2.2)]:=by
  subst e0
  subst e1
  exact bK (r:=.aR [enc .mt ((((aF (⟨eL,eM⟩:aG)).1,(aF (⟨eL,eM⟩:aG)).2.1,mW (⟨eL,eM⟩:aG))).1),.int .i64 ((((aF (⟨eL,eM⟩:aG)).1,(aF (⟨eL,eM⟩:aG)).2.1,mW (⟨eL,eM⟩:aG))).2.1),.bool ((((aF (⟨eL,eM⟩:aG)).1,(aF (⟨eL,eM⟩:aG)).2.1,mW (⟨eL,eM⟩:aG))).2.2)]) (s:=.aR [.ty .mt,.int .i64,.bool]) (ss:=[.undef]) (xI (⟨eL,eM⟩:aG) q0) (by kernel_rfl) (by simp only [aw,bo,aV,bp,bq,ai,ak,Bool.and_self]) (by simp only [ai,aI,aw,ak,Bool.and_self]) (by first | rfl | simp only [av,aT,aS,bl,bm,aU,bn,Bool.and_self]) (by first | rfl | simp only [List.all_cons,List.all_nil,av,Bool.and_self]) t
def qV (s:aG):Int:=if (bV s.a).2.2&&(!(bV s.b).2.2||decide ((bV s.b).2.1≤(bV s.a).2.1)) then 0 else if (bV s.b).2.2 then 1 else -1
theorem vA (s:aG) (q0:eo s):Cm 96 [.agg (dg (some true) s)] (.int .i64 (qV s),[.undef]):=by
  have qa:=q0.a
  have qb:=q0.b
  refine Cm.step EN _ fun J _=>?_
  rw [EO]
  simp (disch:=first | assumption | omega) only [go_sem]
  unfold qV
  generalize bV s.a=a
  generalize bV s.b=b
  obtain ⟨a1,a2,a3⟩:=a
  obtain ⟨b1,b2,b3⟩:=b
  cases a3<;>cases b3<;>by_cases h:b2≤a2<;>simp [br,h,wv]
@[go_sem] theorem Wt (tN:Nat) (eL:List UInt8) (tO:Nat) (eM:List UInt8) (e0:tN=eL.length) (e1:tO=eM.length) (q0:eo (⟨eL,eM⟩:aG)) (t:bJ Rz):aY 96 [.agg [.sl (some true) 1 tN (bytes eL),.sl (some true) 1 tO (bytes eM)]] t=feed t [.int .i64 (qV (⟨eL,eM⟩:aG))]:=by
  subst e0
  subst e1
  exact bK (r:=.int .i64 (qV (⟨eL,eM⟩:aG))) (s:=.int .i64) (ss:=[.undef]) (vA (⟨eL,eM⟩:aG) q0) (by kernel_rfl) (by simp only [aw,bo,aV,bp,bq,ai,ak,Bool.and_self]) (by simp only [ai,aI,aw,ak,Bool.and_self]) (by first | rfl | simp only [av,aT,aS,bl,bm,aU,bn,Bool.and_self]) (by first | rfl | simp only [List.all_cons,List.all_nil,av,Bool.and_self]) t
theorem NX (s:aG):decide (qV s=1)=DA s:=by
  unfold qV DA
  generalize bV s.a=a
  generalize bV s.b=b
  obtain ⟨a1,a2,a3⟩:=a
  obtain ⟨b1,b2,b3⟩:=b
  cases a3<;>cases b3<;>by_cases h:b2≤a2<;>simp [h]<;>omega
theorem Lp (s:aG):decide (0 < (aF s).2.1)=(aF s).2.2:=by
  unfold aF
  have key:∀ b,decide (0 < (bV b).2.1)=(bV b).2.2:=fun b=>by
    have h:=Dz b
    split at h
    · rename_i h1
      rw [h1,decide_eq_true (by omega)]
    · rw [h]; rfl
  split<;>exact key _
theorem DB (s:aG):cU (aF s).1:=by
  unfold aF
  split
  · exact Gh _
  · exact Gh _
theorem vB (s:aG) (q0:eo s):Cm 76 [.agg (dg (some true) s)] (.aR [.agg (cn none ((aF s).1)),.int .i64 ((aF s).2.1),.bool ((aF s).2.2)],[.undef]):=by
  refine Cm.step EP _ fun J _=>?_
  rw [ER]
  simp (disch:=first | assumption | omega) only [go_sem,Lp]
@[go_sem] theorem Wu (tN:Nat) (eL:List UInt8) (tO:Nat) (eM:List UInt8) (e0:tN=eL.length) (e1:tO=eM.length) (q0:eo (⟨eL,eM⟩:aG)) (t:bJ Rz):aY 76 [.agg [.sl (some true) 1 tN (bytes eL),.sl (some true) 1 tO (bytes eM)]] t=feed t [enc .mt ((aF (⟨eL,eM⟩:aG)).1),.int .i64 ((aF (⟨eL,eM⟩:aG)).2.1),.bool ((aF (⟨eL,eM⟩:aG)).2.2)]:=by
  subst e0
  subst e1
  exact bK (r:=.aR [enc .mt ((aF (⟨eL,eM⟩:aG)).1),.int .i64 ((aF (⟨eL,eM⟩:aG)).2.1),.bool ((aF (⟨eL,eM⟩:aG)).2.2)]) (s:=.aR [.ty .mt,.int .i64,.bool]) (ss:=[.undef]) (vB (⟨eL,eM⟩:aG) q0) (by kernel_rfl) (by simp only [aw,bo,aV,bp,bq,ai,ak,Bool.and_self]) (by simp only [ai,aI,aw,ak,Bool.and_self]) (by first | rfl | simp only [av,aT,aS,bl,bm,aU,bn,Bool.and_self]) (by first | rfl | simp only [List.all_cons,List.all_nil,av,Bool.and_self]) t
theorem vC (s:aG) (q0:eo s):Cm 68 [.agg (dg (some true) s)] (.aR [.agg (cn none ((aF s).1)),.int .i64 ((aF s).2.1),.bool ((aF s).2.2)],[.undef]):=by
  have qa:=q0.a
  have qb:=q0.b
  refine Cm.step ES _ fun J _=>?_
  rw [ET]
  simp (disch:=first | assumption | omega) only [go_sem,NX]
  unfold aF
  refine mz (fun h=>?_) (fun h=>?_)
  · simp (disch:=first | assumption | omega) only [go_sem,h]
  · simp (disch:=first | assumption | omega) only [go_sem,if_neg h]
@[go_sem] theorem Wv (tN:Nat) (eL:List UInt8) (tO:Nat) (eM:List UInt8) (e0:tN=eL.length) (e1:tO=eM.length) (q0:eo (⟨eL,eM⟩:aG)) (t:bJ Rz):aY 68 [.agg [.sl (some true) 1 tN (bytes eL),.sl (some true) 1 tO (bytes eM)]] t=feed t [enc .mt ((aF (⟨eL,eM⟩:aG)).1),.int .i64 ((aF (⟨eL,eM⟩:aG)).2.1),.bool ((aF (⟨eL,eM⟩:aG)).2.2)]:=by
  subst e0
  subst e1
  exact bK (r:=.aR [enc .mt ((aF (⟨eL,eM⟩:aG)).1),.int .i64 ((aF (⟨eL,eM⟩:aG)).2.1),.bool ((aF (⟨eL,eM⟩:aG)).2.2)]) (s:=.aR [.ty .mt,.int .i64,.bool]) (ss:=[.undef]) (vC (⟨eL,eM⟩:aG) q0) (by kernel_rfl) (by simp only [aw,bo,aV,bp,bq,ai,ak,Bool.and_self]) (by simp only [ai,aI,aw,ak,Bool.and_self]) (by first | rfl | simp only [av,aT,aS,bl,bm,aU,bn,Bool.and_self]) (by first | rfl | simp only [List.all_cons,List.all_nil,av,Bool.and_self]) t
end Go.Proofs.Ytockoilcnmljiaa
namespace Go.Proofs.Ytockoilcnmljiaa
set_option maxRecDepth 100000
section
variable (pr:cT) (cv:Cv Rz) (J:Nat→St→Option Rz)
def ie (x0:af) (i0:Int):St:=(St.mk [(1,(.ptr 1 [] 0)),(85,(.int .i64 i0))] [(1,(ab (some true) x0))] [] 0)
def ig (x0:af) (i0:Int) (i1:Int):St:=(St.mk [(1,(.ptr 1 [] 0)),(139,(sI (some true) x0.wait)),(140,(.int .i64 i0)),(141,(.int .i64 i1))] [(1,(ab (some true) x0))] [] 0)
theorem Hz:Told cfg Try.prog 42 Try.f42:=⟨by kernel_rfl,Try.func42,by kernel_rfl⟩
theorem HA (x0:af):bc pr cv J 42 Try.f42 [(.agg (ab (some true) x0))]=
    let y1:Option (D × List D):=(some ((.bool false),[.undef]))
    let y2:Option Rz:=(cv 76 [(.agg (dg (some true) x0.cP))] (.ty gU.mt (fun (vm4:aK)=>(.int (fun qQ=>(.bool (fun qP=>(.done (br (br qP false true) y1 (cv 77 [(.agg (cW true (cn none vm4))),(.agg (cn (some true) x0.mt))] (.bool (fun YT=>(.done (br (br YT false true) y1 (J 0 (ie x0 0))))))))))))))))
    let y3:Option (D × List D):=(br (br x0.up false true) (br (pr.lt 0 (pr.bu x0.wait.length)) y1 y2) y2)
    (cv 72 [(.int .i64 x0.id)] (.bool (fun ck=>(.done (br (br ck false true) y1 (cv 73 [(sI (some true) x0.image)] (.bool (fun gj=>(.done (br (br gj false true) y1 (cv 74 [(.agg (cn (some true) x0.mt))] (.bool (fun ia=>(.done (br (br ia false true) y1 (br (br (pr.eq (pr.bu x0.conn.length) 3) false true) y1 (cv 75 [(sR (some true) x0.sync)] (.bool (fun yP=>(.done (br (br yP false true) y1 (br (br (pr.eq (pr.bu x0.bA.length) 3) false true) y1 (br x0.bD (br (br x0.up false true) y1 (br (pr.eq x0.id 2) y1 y3)) y3))))))))))))))))))))))):=by kernel_rfl
theorem BL (x0:af) (i0:Int):cA pr cv J 42 Try.f42 [.undef] 0 (ie x0 i0)=
    let y1:Option (D × List D):=(some ((.bool false),[.undef]))
    let y2:Option Rz:=(J 0 (ie x0 (pr.ar .add .i64 i0 1)))
    let y3:Option (D × List D):=(br (pr.bT i0 x0.sync.length) (br (br (pr.dq 1 (rows (some true) x0.sync) (pr.idx 0 i0 1)) true false) (br (pr.lt 0 (pr.bu (pr.cg (rows (some true) x0.sync) (pr.idx 0 i0 1)))) (br (pr.bT i0 x0.bA.length) (br (br (pr.eD (aH x0.bA) (pr.idx 0 i0 1)) true false) (br (br (pr.cZ (aH x0.bA) (pr.idx 0 i0 1)) false true) y1 y2) none) none) y2) none) none)
    let y4:Option (D × List D):=(br (pr.bT i0 x0.bA.length) (br (br (pr.eD (aH x0.bA) (pr.idx 0 i0 1)) true false) (br (pr.cZ (aH x0.bA) (pr.idx 0 i0 1)) (br (pr.bT i0 x0.conn.length) (br (br (pr.eD (aH x0.conn) (pr.idx 0 i0 1)) true false) (br (br (pr.cZ (aH x0.conn) (pr.idx 0 i0 1)) false true) y1 y3) none) none) y3) none) none)
    (br (pr.lt i0 3) (br x0.up (br (pr.bT i0 x0.conn.length) (br (br (pr.eD (aH x0.conn) (pr.idx 0 i0 1)) true false) (br (pr.cZ (aH x0.conn) (pr.idx 0 i0 1)) (br (br (br (pr.eq i0 x0.id) false true) false true) y1 y4) y4) none) none) (br (pr.bT i0 x0.conn.length) (br (br (pr.eD (aH x0.conn) (pr.idx 0 i0 1)) true false) (br (pr.cZ (aH x0.conn) (pr.idx 0 i0 1)) y1 y4) none) none)) (J 2 (ig x0 (pr.bu x0.wait.length) 0))):=by kernel_rfl
theorem BM (x0:af) (i0:Int) (i1:Int):cA pr cv J 42 Try.f42 [.undef] 2 (ig x0 i0 i1)=
    let y1:Option (D × List D):=(some ((.bool false),[.undef]))
    let y2:Option Rz:=(J 2 (ig x0 i0 (pr.ar .add .i64 i1 1)))
    (br (pr.lt i1 i0) (br (pr.bT i1 x0.wait.length) (br (br (pr.cL .i64 (ints x0.wait) (pr.idx 0 i1 1)) true false) (cv 78 [(.int .i64 (pr.bG (ints x0.wait) (pr.idx 0 i1 1)))] (.bool (fun ck=>(.done (br (br ck false true) y1 (br (pr.lt 0 i1) (br (pr.bT (pr.ar .sub .i64 i1 1) x0.wait.length) (br (br (pr.cL .i64 (ints x0.wait) (pr.idx 0 (pr.ar .sub .i64 i1 1) 1)) true false) (br (pr.le (pr.bG (ints x0.wait) (pr.idx 0 i1 1)) (pr.bG (ints x0.wait) (pr.idx 0 (pr.ar .sub .i64 i1 1) 1))) y1 y2) none) none) y2)))))) none) none) (some ((.bool true),[.undef]))):=by kernel_rfl
def j0 (x0:af) (i0:Int):St:=(St.mk [(1,(.ptr 1 [] 0)),(3,(.int .i64 i0))] [(1,(ab (some true) x0))] [] 0)
theorem HB:Told cfg Try.prog 38 Try.f38:=⟨by kernel_rfl,Try.func38,by kernel_rfl⟩
theorem HC (x0:af):bc pr cv J 38 Try.f38 [(.agg (ab (some true) x0))]=
    let y1:Option (D × List D):=(some ((.bool false),[.undef]))
    let y2:Option Rz:=(J 0 (j0 x0 0))
    let y3:Option (D × List D):=(br (br x0.up false true) (br (pr.lt 0 (pr.bu x0.wait.length)) y1 y2) y2)
    (cv 64 [(.int .i64 x0.id),(.int .i64 0),(.int .i64 2)] (.bool (fun ck=>(.done (br (br ck false true) y1 (cv 65 [(sI (some true) x0.image)] (.bool (fun gj=>(.done (br (br gj false true) y1 (cv 66 [(.agg (cn (some true) x0.mt))] (.bool (fun ia=>(.done (br (br ia false true) y1 (cv 67 [(.agg (ab (some true) x0))] (.bool (fun yP=>(.done (br (br yP false true) y1 (br x0.bD (br (br x0.up false true) y1 (br (pr.eq x0.id 2) y1 y3)) y3))))))))))))))))))))):=by kernel_rfl
theorem BN (x0:af) (i0:Int):cA pr cv J 38 Try.f38 [.undef] 0 (j0 x0 i0)=
    let y1:Bool:=(br (pr.cL .i64 (ints x0.wait) (pr.idx 0 i0 1)) true false)
    let y2:Option (D × List D):=(some ((.bool false),[.undef]))
    let y3:Option Rz:=(J 0 (j0 x0 (pr.ar .add .i64 i0 1)))
    (br (pr.lt i0 (pr.bu x0.wait.length)) (br (pr.bT i0 x0.wait.length) (br y1 (cv 64 [(.int .i64 (pr.bG (ints x0.wait) (pr.idx 0 i0 1))),(.int .i64 1),(.int .i64 200)] (.bool (fun ck=>(.done (br (br ck false true) y2 (br (pr.lt 0 i0) (br (pr.bT (pr.ar .sub .i64 i0 1) x0.wait.length) (br (br (pr.cL .i64 (ints x0.wait) (pr.idx 0 (pr.ar .sub .i64 i0 1) 1)) true false) (br (pr.bT i0 x0.wait.length) (br y1 (br (pr.le (pr.bG (ints x0.wait) (pr.idx 0 i0 1)) (pr.bG (ints x0.wait) (pr.idx 0 (pr.ar .sub .i64 i0 1) 1))) y2 y3) none) none) none) none) y3)))))) none) none) (cv 68 [(.agg (dg (some true) x0.cP))] (.ty gU.mt (fun (za:aK)=>(.int (fun th=>(.bool (fun yP=>(.done (br yP (cv 69 [(.agg (cW true (cn none za))),(.agg (cn (some true) x0.mt))] (.bool (fun J0=>(.done (some ((.bool J0),[.undef])))))) y2)))))))))):=by kernel_rfl
def gP (x0:af) (i0:Int):St:=(St.mk [(1,(.ptr 1 [] 0)),(3,(.int .i64 i0))] [(1,(ab (some true) x0))] [] 0)
theorem EU:Told cfg Try.prog 67 Try.f67:=⟨by kernel_rfl,Try.func67,by kernel_rfl⟩
theorem EV (x0:af):bc pr cv J 67 Try.f67 [(.agg (ab (some true) x0))]=
    let y1:Option (D × List D):=(some ((.bool false),[.undef]))
    (br (br (pr.eq (pr.bu x0.conn.length) 3) false true) y1 (br (br (pr.eq (pr.bu x0.sync.length) 3) false true) y1 (br (br (pr.eq (pr.bu x0.bA.length) 3) false true) y1 (J 0 (gP x0 0))))):=by kernel_rfl
theorem Ad (x0:af) (i0:Int):cA pr cv J 67 Try.f67 [.undef] 0 (gP x0 i0)=
    let y1:Bool:=(br (pr.dq 1 (rows (some true) x0.sync) (pr.idx 0 i0 1)) true false)
    let y2:Option (D × List D):=(some ((.bool false),[.undef]))
    let y3:Option Rz:=(J 0 (gP x0 (pr.ar .add .i64 i0 1)))
    let y4:Option (D × List D):=(br (pr.bT i0 x0.conn.length) (br (br (pr.eD (aH x0.conn) (pr.idx 0 i0 1)) true false) (br (pr.cZ (aH x0.conn) (pr.idx 0 i0 1)) (br (br x0.up false true) y2 (br (pr.eq i0 x0.id) y2 y3)) y3) none) none)
    let y5:Option (D × List D):=(br (pr.bT i0 x0.bA.length) (br (br (pr.eD (aH x0.bA) (pr.idx 0 i0 1)) true false) (br (pr.cZ (aH x0.bA) (pr.idx 0 i0 1)) (br (pr.bT i0 x0.conn.length) (br (br (pr.eD (aH x0.conn) (pr.idx 0 i0 1)) true false) (br (br (pr.cZ (aH x0.conn) (pr.idx 0 i0 1)) false true) y2 y4) none) none) y4) none) none)
    (br (pr.lt i0 3) (br (pr.bT i0 x0.sync.length) (br y1 (cv 94 [(.sl (some (pr.cJ (rows (some true) x0.sync) (pr.idx 0 i0 1))) 1 (pr.cg (rows (some true) x0.sync) (pr.idx 0 i0 1)) (pr.cq (rows (some true) x0.sync) (pr.idx 0 i0 1)))] (.bool (fun ck=>(.done (br (br ck false true) y2 (br (pr.bT i0 x0.sync.length) (br y1 (br (pr.lt 0 (pr.bu (pr.cg (rows (some true) x0.sync) (pr.idx 0 i0 1)))) (br (pr.bT i0 x0.bA.length) (br (br (pr.eD (aH x0.bA) (pr.idx 0 i0 1)) true false) (br (br (pr.cZ (aH x0.bA) (pr.idx 0 i0 1)) false true) y2 y5) none) none) y5) none) none)))))) none) none) (some ((.bool true),[.undef]))):=by kernel_rfl
end
@[go_sem] theorem WV (mA:Nat) (fD:List Int) (mB:Nat) (fE:List (List Int)) (gD:Bool) (gE:Bool) (gF:Bool) (gG:Int) (e0:mA=fD.length) (e1:mB=fE.length) (q0:cU (⟨fD,fE,gD,gE,gF,gG⟩:aK)) (t:bJ Rz):aY 74 [.agg [.sl (some true) 1 mA (ints fD),.sl (some true) 1 mB (rows (some true) fE),.bool gD,.bool gE,.bool gF,.int .i64 gG]] t=feed t [.bool (fx (⟨fD,fE,gD,gE,gF,gG⟩:aK))]:=by
  subst e0
  subst e1
  exact bK (r:=.bool (fx (⟨fD,fE,gD,gE,gF,gG⟩:aK))) (s:=.bool) (ss:=[.undef]) (w9 true (⟨fD,fE,gD,gE,gF,gG⟩:aK) q0) (by kernel_rfl) (by simp only [aw,bo,aV,bp,bq,ai,ak,Bool.and_self]) (by simp only [ai,aI,aw,ak,Bool.and_self]) (by first | rfl | simp only [av,aT,aS,bl,bm,aU,bn,Bool.and_self]) (by first | rfl | simp only [List.all_cons,List.all_nil,av,Bool.and_self]) t
@[go_sem] theorem WW (mA:Nat) (fD:List Int) (mB:Nat) (fE:List (List Int)) (gD:Bool) (gE:Bool) (gF:Bool) (gG:Int) (e0:mA=fD.length) (e1:mB=fE.length) (q0:cU (⟨fD,fE,gD,gE,gF,gG⟩:aK)) (t:bJ Rz):aY 66 [.agg [.sl (some true) 1 mA (ints fD),.sl (some true) 1 mB (rows (some true) fE),.bool gD,.bool gE,.bool gF,.int .i64 gG]] t=feed t [.bool (fx (⟨fD,fE,gD,gE,gF,gG⟩:aK))]:=by
  subst e0
  subst e1
  exact bK (r:=.bool (fx (⟨fD,fE,gD,gE,gF,gG⟩:aK))) (s:=.bool) (ss:=[.undef]) (w8 true (⟨fD,fE,gD,gE,gF,gG⟩:aK) q0) (by kernel_rfl) (by simp only [aw,bo,aV,bp,bq,ai,ak,Bool.and_self]) (by simp only [ai,aI,aw,ak,Bool.and_self]) (by first | rfl | simp only [av,aT,aS,bl,bm,aU,bn,Bool.and_self]) (by first | rfl | simp only [List.all_cons,List.all_nil,av,Bool.and_self]) t
@[go_sem] theorem Vp (mA:Nat) (fD:List Int) (mB:Nat) (fE:List (List Int)) (gD:Bool) (gE:Bool) (gF:Bool) (gG:Int) (KA:Nat) (vD:List Int) (KC:Nat) (vE:List (List Int)) (zb:Bool) (zc:Bool) (zd:Bool) (ze:Int) (e0:mA=fD.length) (e1:mB=fE.length) (e2:KA=vD.length) (e3:KC=vE.length) (q0:cU (⟨fD,fE,gD,gE,gF,gG⟩:aK)) (q1:cU (⟨vD,vE,zb,zc,zd,ze⟩:aK)) (t:bJ Rz):aY 77 [.agg [.sl (some true) 1 mA (ints fD),.sl (some true) 1 mB (rows (some true) fE),.bool gD,.bool gE,.bool gF,.int .i64 gG],.agg [.sl (some true) 1 KA (ints vD),.sl (some true) 1 KC (rows (some true) vE),.bool zb,.bool zc,.bool zd,.int .i64 ze]] t=feed t [.bool (ko (⟨fD,fE,gD,gE,gF,gG⟩:aK) (⟨vD,vE,zb,zc,zd,ze⟩:aK))]:=by
  subst e0
  subst e1
  subst e2
  subst e3
  exact bK (r:=.bool (ko (⟨fD,fE,gD,gE,gF,gG⟩:aK) (⟨vD,vE,zb,zc,zd,ze⟩:aK))) (s:=.bool) (ss:=[.undef,.undef]) (Dl true true (⟨fD,fE,gD,gE,gF,gG⟩:aK) (⟨vD,vE,zb,zc,zd,ze⟩:aK) q0 q1) (by kernel_rfl) (by simp only [aw,bo,aV,bp,bq,ai,ak,Bool.and_self]) (by simp only [ai,aI,aw,ak,Bool.and_self]) (by first | rfl | simp only [av,aT,aS,bl,bm,aU,bn,Bool.and_self]) (by first | rfl | simp only [List.all_cons,List.all_nil,av,Bool.and_self]) t
@[go_sem] theorem Vq (mA:Nat) (fD:List Int) (mB:Nat) (fE:List (List Int)) (gD:Bool) (gE:Bool) (gF:Bool) (gG:Int) (KA:Nat) (vD:List Int) (KC:Nat) (vE:List (List Int)) (zb:Bool) (zc:Bool) (zd:Bool) (ze:Int) (e0:mA=fD.length) (e1:mB=fE.length) (e2:KA=vD.length) (e3:KC=vE.length) (q0:cU (⟨fD,fE,gD,gE,gF,gG⟩:aK)) (q1:cU (⟨vD,vE,zb,zc,zd,ze⟩:aK)) (t:bJ Rz):aY 69 [.agg [.sl (some true) 1 mA (ints fD),.sl (some true) 1 mB (rows (some true) fE),.bool gD,.bool gE,.bool gF,.int .i64 gG],.agg [.sl (some true) 1 KA (ints vD),.sl (some true) 1 KC (rows (some true) vE),.bool zb,.bool zc,.bool zd,.int .i64 ze]] t=feed t [.bool (ko (⟨fD,fE,gD,gE,gF,gG⟩:aK) (⟨vD,vE,zb,zc,zd,ze⟩:aK))]:=by
  subst e0
  subst e1
  subst e2
  subst e3
  exact bK (r:=.bool (ko (⟨fD,fE,gD,gE,gF,gG⟩:aK) (⟨vD,vE,zb,zc,zd,ze⟩:aK))) (s:=.bool) (ss:=[.undef,.undef]) (Dm true true (⟨fD,fE,gD,gE,gF,gG⟩:aK) (⟨vD,vE,zb,zc,zd,ze⟩:aK) q0 q1) (by kernel_rfl) (by simp only [aw,bo,aV,bp,bq,ai,ak,Bool.and_self]) (by simp only [ai,aI,aw,ak,Bool.and_self]) (by first | rfl | simp only [av,aT,aS,bl,bm,aU,bn,Bool.and_self]) (by first | rfl | simp only [List.all_cons,List.all_nil,av,Bool.and_self]) t
@[go_sem] theorem Ww (m0:Nat) (m:List Int) (e0:m0=m.length) (q0:m.length < 4611686018427387904) (t:bJ Rz):aY 73 [.sl (some true) 1 m0 (ints m)] t=feed t [.bool (ji m)]:=by
  subst e0
  exact bK (r:=.bool (ji m)) (s:=.bool) (ss:=[.undef]) (EF true m q0) (by kernel_rfl) (by simp only [aw,bo,aV,bp,bq,ai,ak,Bool.and_self]) (by simp only [ai,aI,aw,ak,Bool.and_self]) (by first | rfl | simp only [av,aT,aS,bl,bm,aU,bn,Bool.and_self]) (by first | rfl | simp only [List.all_cons,List.all_nil,av,Bool.and_self]) t
@[go_sem] theorem Wx (m0:Nat) (m:List Int) (e0:m0=m.length) (q0:m.length < 4611686018427387904) (t:bJ Rz):aY 65 [.sl (some true) 1 m0 (ints m)] t=feed t [.bool (ji m)]:=by
  subst e0
  exact bK (r:=.bool (ji m)) (s:=.bool) (ss:=[.undef]) (EE true m q0) (by kernel_rfl) (by simp only [aw,bo,aV,bp,bq,ai,ak,Bool.and_self]) (by simp only [ai,aI,aw,ak,Bool.and_self]) (by first | rfl | simp only [av,aT,aS,bl,bm,aU,bn,Bool.and_self]) (by first | rfl | simp only [List.all_cons,List.all_nil,av,Bool.and_self]) t
@[go_sem] theorem Wy (m0:Nat) (m:List Int) (e0:m0=m.length) (q0:m.length < 4611686018427387904) (t:bJ Rz):aY 105 [.sl (some true) 1 m0 (ints m)] t=feed t [.bool (fq m)]:=by
  subst e0
  exact bK (r:=.bool (fq m)) (s:=.bool) (ss:=[.undef]) (vx true m q0) (by kernel_rfl) (by simp only [aw,bo,aV,bp,bq,ai,ak,Bool.and_self]) (by simp only [ai,aI,aw,ak,Bool.and_self]) (by first | rfl | simp only [av,aT,aS,bl,bm,aU,bn,Bool.and_self]) (by first | rfl | simp only [List.all_cons,List.all_nil,av,Bool.and_self]) t
@[go_sem] theorem Wz (m0:Nat) (m:List Int) (e0:m0=m.length) (q0:m.length < 4611686018427387904) (t:bJ Rz):aY 94 [.sl (some true) 1 m0 (ints m)] t=feed t [.bool (fq m)]:=by
  subst e0
  exact bK (r:=.bool (fq m)) (s:=.bool) (ss:=[.undef]) (vw true m q0) (by kernel_rfl) (by simp only [aw,bo,aV,bp,bq,ai,ak,Bool.and_self]) (by simp only [ai,aI,aw,ak,Bool.and_self]) (by first | rfl | simp only [av,aT,aS,bl,bm,aU,bn,Bool.and_self]) (by first | rfl | simp only [List.all_cons,List.all_nil,av,Bool.and_self]) t
@[go_sem] theorem WX (m0:Nat) (m:List Int) (e0:m0=m.length) (q0:m.length < 4611686018427387904) (t:bJ Rz):aY 102 [.sl (some true) 1 m0 (ints m)] t=feed t [.bool (iO m)]:=by
  subst e0
  exact bK (r:=.bool (iO m)) (s:=.bool) (ss:=[.undef]) (w7 true m q0) (by kernel_rfl) (by simp only [aw,bo,aV,bp,bq,ai,ak,Bool.and_self]) (by simp only [ai,aI,aw,ak,Bool.and_self]) (by first | rfl | simp only [av,aT,aS,bl,bm,aU,bn,Bool.and_self]) (by first | rfl | simp only [List.all_cons,List.all_nil,av,Bool.and_self]) t
@[go_sem] theorem WY (m0:Nat) (m:List Int) (e0:m0=m.length) (q0:m.length < 4611686018427387904) (t:bJ Rz):aY 95 [.sl (some true) 1 m0 (ints m)] t=feed t [.bool (iO m)]:=by
  subst e0
  exact bK (r:=.bool (iO m)) (s:=.bool) (ss:=[.undef]) (w6 true m q0) (by kernel_rfl) (by simp only [aw,bo,aV,bp,bq,ai,ak,Bool.and_self]) (by simp only [ai,aI,aw,ak,Bool.and_self]) (by first | rfl | simp only [av,aT,aS,bl,bm,aU,bn,Bool.and_self]) (by first | rfl | simp only [List.all_cons,List.all_nil,av,Bool.and_self]) t
@[go_sem] theorem Vr (m0:Nat) (m:List (List Int)) (e0:m0=m.length) (q0:tj m) (t:bJ Rz):aY 75 [.sl (some true) 1 m0 (rows (some true) m)] t=feed t [.bool ((((m.length:Int)==3)&&gx m))]:=by
  subst e0
  exact bK (r:=.bool ((((m.length:Int)==3)&&gx m))) (s:=.bool) (ss:=[.undef]) (Dk true m q0) (by kernel_rfl) (by simp only [aw,bo,aV,bp,bq,ai,ak,Bool.and_self]) (by simp only [ai,aI,aw,ak,Bool.and_self]) (by first | rfl | simp only [av,aT,aS,bl,bm,aU,bn,Bool.and_self]) (by first | rfl | simp only [List.all_cons,List.all_nil,av,Bool.and_self]) t
@[go_sem] theorem WZ (a:Int) (t:bJ Rz):aY 72 [.int .i64 a] t=feed t [.bool (decide (0≤a∧a≤2))]:=by
  exact bK (r:=.bool (decide (0≤a∧a≤2))) (s:=.bool) (ss:=[.undef]) (Tc a) (by kernel_rfl) (by simp only [aw,bo,aV,bp,bq,ai,ak,Bool.and_self]) (by simp only [ai,aI,aw,ak,Bool.and_self]) (by first | rfl | simp only [av,aT,aS,bl,bm,aU,bn,Bool.and_self]) (by first | rfl | simp only [List.all_cons,List.all_nil,av,Bool.and_self]) t
@[go_sem] theorem W0 (a:Int) (t:bJ Rz):aY 116 [.int .i64 a] t=feed t [.bool (decide (0≤a∧a≤7))]:=by
  exact bK (r:=.bool (decide (0≤a∧a≤7))) (s:=.bool) (ss:=[.undef]) (Kg a) (by kernel_rfl) (by simp only [aw,bo,aV,bp,bq,ai,ak,Bool.and_self]) (by simp only [ai,aI,aw,ak,Bool.and_self]) (by first | rfl | simp only [av,aT,aS,bl,bm,aU,bn,Bool.and_self]) (by first | rfl | simp only [List.all_cons,List.all_nil,av,Bool.and_self]) t
@[go_sem] theorem WA (a:Int) (t:bJ Rz):aY 78 [.int .i64 a] t=feed t [.bool (decide (1≤a∧a≤200))]:=by
  exact bK (r:=.bool (decide (1≤a∧a≤200))) (s:=.bool) (ss:=[.undef]) (Qz a) (by kernel_rfl) (by simp only [aw,bo,aV,bp,bq,ai,ak,Bool.and_self]) (by simp only [ai,aI,aw,ak,Bool.and_self]) (by first | rfl | simp only [av,aT,aS,bl,bm,aU,bn,Bool.and_self]) (by first | rfl | simp only [List.all_cons,List.all_nil,av,Bool.and_self]) t
@[go_sem] theorem Z7 (a:Int) (t:bJ Rz):aY 62 [.int .i64 a] t=feed t [.int .i64 (kn a)]:=by
  exact bK (r:=.int .i64 (kn a)) (s:=.int .i64) (ss:=[.undef]) (Lg a) (by kernel_rfl) (by simp only [aw,bo,aV,bp,bq,ai,ak,Bool.and_self]) (by simp only [ai,aI,aw,ak,Bool.and_self]) (by first | rfl | simp only [av,aT,aS,bl,bm,aU,bn,Bool.and_self]) (by first | rfl | simp only [List.all_cons,List.all_nil,av,Bool.and_self]) t
@[go_sem] theorem Z8 (a:Int) (t:bJ Rz):aY 60 [.int .i64 a] t=feed t [.int .i64 (kn a)]:=by
  exact bK (r:=.int .i64 (kn a)) (s:=.int .i64) (ss:=[.undef]) (Lh a) (by kernel_rfl) (by simp only [aw,bo,aV,bp,bq,ai,ak,Bool.and_self]) (by simp only [ai,aI,aw,ak,Bool.and_self]) (by first | rfl | simp only [av,aT,aS,bl,bm,aU,bn,Bool.and_self]) (by first | rfl | simp only [List.all_cons,List.all_nil,av,Bool.and_self]) t
@[go_sem] theorem Zo (m0:Nat) (m:List Int) (a:Int) (e0:m0=m.length) (q0:m.length < 4611686018427387904) (t:bJ Rz):aY 70 [.sl (some true) 1 m0 (ints m),.int .i64 a] t=feed t [.bool (decide (a∈m))]:=by
  subst e0
  exact bK (r:=.bool (decide (a∈m))) (s:=.bool) (ss:=[.undef,.undef]) (Mm true m a q0) (by kernel_rfl) (by simp only [aw,bo,aV,bp,bq,ai,ak,Bool.and_self]) (by simp only [ai,aI,aw,ak,Bool.and_self]) (by first | rfl | simp only [av,aT,aS,bl,bm,aU,bn,Bool.and_self]) (by first | rfl | simp only [List.all_cons,List.all_nil,av,Bool.and_self]) t
@[go_sem] theorem KD (m0:Nat) (m:List Int) (a:Int) (e0:m0=m.length) (q0:m.length < 4611686018427387904) (t:bJ Rz):aY 79 [.sl (some true) 1 m0 (ints m),.int .i64 a] t=feed t [.bool (decide (a∈m))]:=by
  subst e0
  exact bK (r:=.bool (decide (a∈m))) (s:=.bool) (ss:=[.undef,.undef]) (Db true m a q0) (by kernel_rfl) (by simp only [aw,bo,aV,bp,bq,ai,ak,Bool.and_self]) (by simp only [ai,aI,aw,ak,Bool.and_self]) (by first | rfl | simp only [av,aT,aS,bl,bm,aU,bn,Bool.and_self]) (by first | rfl | simp only [List.all_cons,List.all_nil,av,Bool.and_self]) t
@[go_sem] theorem W1 (m0:Nat) (m:List Int) (k0:Nat) (k:List Int) (e0:m0=m.length) (e1:k0=k.length) (q0:m.length < 4611686018427387904) (q1:k.length < 4611686018427387904) (t:bJ Rz):aY 98 [.sl (some true) 1 m0 (ints m),.sl (some true) 1 k0 (ints k)] t=feed t [.bool (decide (m=k))]:=by
  subst e0
  subst e1
  exact bK (r:=.bool (decide (m=k))) (s:=.bool) (ss:=[.undef,.undef]) (Kj true true m k q0 q1) (by kernel_rfl) (by simp only [aw,bo,aV,bp,bq,ai,ak,Bool.and_self]) (by simp only [ai,aI,aw,ak,Bool.and_self]) (by first | rfl | simp only [av,aT,aS,bl,bm,aU,bn,Bool.and_self]) (by first | rfl | simp only [List.all_cons,List.all_nil,av,Bool.and_self]) t
@[go_sem] theorem Mv (m0:Nat) (m:List Int) (k0:Nat) (k:List Int) (e0:m0=m.length) (e1:k0=k.length) (q0:m.length < 4611686018427387904) (q1:k.length < 4611686018427387904) (t:bJ Rz):aY 107 [.sl (some true) 1 m0 (ints m),.sl (some true) 1 k0 (ints k)] t=feed t [.bool (decide (m=k))]:=by
  subst e0
  subst e1
  exact bK (r:=.bool (decide (m=k))) (s:=.bool) (ss:=[.undef,.undef]) (Mq true true m k q0 q1) (by kernel_rfl) (by simp only [aw,bo,aV,bp,bq,ai,ak,Bool.and_self]) (by simp only [ai,aI,aw,ak,Bool.and_self]) (by first | rfl | simp only [av,aT,aS,bl,bm,aU,bn,Bool.and_self]) (by first | rfl | simp only [List.all_cons,List.all_nil,av,Bool.and_self]) t
def pb (n:af) (k:Nat):Prop:=(n.conn.getD k false=true→n.up=true∧¬(k:Int)=n.id)∧(n.bA.getD k false=true→n.conn.getD k false=true)∧(0 < ((n.sync.getD k []).length:Int)→n.bA.getD k false=true)
def NY (w:List Int) (i:Nat):Prop:=(1≤w.getD i 0∧w.getD i 0≤200)∧(0 < (i:Int)→¬w.getD i 0≤w.getD (i - 1) 0)
structure fk (n:af):Prop where
  id:0≤n.id∧n.id≤2
  image:ji n.image=true
  mt:fx n.mt=true
  conn:(n.conn.length:Int)=3
  sync:(n.sync.length:Int)=3
  marks:∀ k,k < n.sync.length→fq (n.sync.getD k [])=true
  bA:(n.bA.length:Int)=3
  bD:n.bD=true→n.up=true∧¬n.id=2
  down:¬n.up=true→¬0 < (n.wait.length:Int)
  slot:(aF n.cP).2.2=true
  same:ko (aF n.cP).1 n.mt=true
  link:∀ k,k < 3→pb n k
  wait:∀ i,i < n.wait.length→NY n.wait i
open Classical in
noncomputable def dr (n:af):Bool:=decide (fk n)
open Classical in
theorem DC {n:af} (h:fk n):dr n=true:=by unfold dr; exact decide_eq_true h
open Classical in
theorem kP {n:af} (h:dr n=true):fk n:=by unfold dr at h; exact of_decide_eq_true h
open Classical in
theorem dE {n:af} (h:¬fk n):(some ((.bool false,[.undef]):Rz))=some (.bool (dr n),[.undef]):=by unfold dr; rw [decide_eq_false h]
theorem Gi {n:af} (h:fk n):(some ((.bool true,[.undef]):Rz))=some (.bool (dr n),[.undef]):=by rw [DC h]
theorem KE {xss:List (List Int)} (h:gx xss=true):∀ k,k < xss.length→fq (xss.getD k [])=true:=fun k hk=>by
  unfold gx at h
  exact List.all_eq_true.1 h k (List.mem_range.2 hk)
theorem Lq {xss:List (List Int)} (h:∀ k,k < xss.length→fq (xss.getD k [])=true):gx xss=true:=by
  unfold gx
  exact List.all_eq_true.2 fun k hk=>h k (List.mem_range.1 hk)
theorem WB {xss:List (List Int)} (h:tj xss) (k:Nat):(xss.getD k []).length≤1048576:=by
  by_cases hk:k < xss.length
  · rw [bC hk]
    exact h.2 _ (List.getElem_mem hk)
  · rw [List.getD_eq_getElem?_getD,List.getElem?_eq_none (Nat.not_lt.1 hk)]
    simp
theorem Zp {R:Type} {p u b2 b3:Bool} {T F r:R} (hT:(p=true→u=true∧b2=false)→(u=false→b3=false)→T=r) (hF:((p=true→u=true∧b2=false)→(u=false→b3=false)→False)→F=r):br p (br (br u false true) F (br b2 F (br (br u false true) (br b3 F T) T))) (br (br u false true) (br b3 F T) T)=r:=by
  cases p<;>cases u<;>cases b2<;>cases b3<;>simp only [br]<;>first | exact hT (by simp) (by simp) | exact hF (by simp)
theorem xJ (n:af) (q0:bz n):Cm 42 [.agg (ab (some true) n)] (.bool (dr n),[.undef]):=by
  have ok:=q0
  have s1:=ok.image
  have s2:=ok.conn
  have s3:=ok.bA
  have s4:=ok.wait
  have s5:=ok.sync.1
  have s6:=ok.mt
  have s7:=ok.sync
  have s8:=q0.cP
  have s9:=DB n.cP
  refine Cm.step Hz [.undef] fun J hJ=>?_
  rw [HA]
  simp (disch:=first | assumption | omega) only [go_sem]
  refine dz (fun h1=>?_) (fun h=>dE fun o=>h o.id)
  simp (disch:=first | assumption | omega) only [go_sem]
  refine mz (fun h2=>?_) (fun h=>dE fun o=>h o.image)
  simp (disch:=first | assumption | omega) only [go_sem]
  refine mz (fun h3=>?_) (fun h=>dE fun o=>h o.mt)
  simp (disch:=first | assumption | omega) only [go_sem]
  refine dz (fun h4=>?_) (fun h=>dE fun o=>h o.conn)
  simp (disch:=first | assumption | omega) only [go_sem]
  refine mz (fun h5=>?_) (fun h=>dE fun o=>h (by simp only [o.sync,Lq o.marks,Bool.and_true]; rfl))
  simp only [Bool.and_eq_true,beq_iff_eq] at h5
  simp (disch:=first | assumption | omega) only [go_sem]
  refine dz (fun h6=>?_) (fun h=>dE fun o=>h o.bA)
  refine Zp (fun h7 h8=>?_) (fun h=>dE fun o=>h (fun hp=>⟨(o.bD hp).1,decide_eq_false (o.bD hp).2⟩) fun hu=>decide_eq_false (o.down (by rw [hu]; simp)))
  have h7:n.bD=true→n.up=true∧¬n.id=2:=fun hp=>⟨(h7 hp).1,of_decide_eq_false (h7 hp).2⟩
  have h8:¬n.up=true→¬0 < (n.wait.length:Int):=fun hu=>of_decide_eq_false (h8 (by simpa using hu))
  simp (disch:=first | assumption | omega) only [go_sem]
  refine mz (fun h9=>?_) (fun h=>dE fun o=>h o.slot)
  simp (disch:=first | assumption | omega) only [go_sem]
  refine mz (fun lh=>?_) (fun h=>dE fun o=>h o.same)
  have aaV:(∀ k,k < 3→pb n k)→WP 42 Try.f42 [.undef] 2 (ig n n.wait.length 0) (.bool (dr n),[.undef]):=by
    intro Iu
    refine WP.up (H:=fun i=>ig n n.wait.length i) n.wait.length (fun i=>∀ k,k < i→NY n.wait k) (fun i hi inv J _ next=>?_) 0 (Nat.zero_le _) (fun k hk=>absurd hk (by omega))
    rw [BM]
    simp (disch:=first | assumption | omega) only [go_sem]
    refine dz (fun cR=>?_) (fun xW=>Gi ⟨h1,h2,h3,h4,h5.1,KE h5.2,h6,h7,h8,h9,lh,Iu,fun k hk=>inv k (by omega)⟩)
    simp (disch:=first | assumption | omega) only [go_sem]
    refine dz (fun ha=>?_) (fun h=>dE fun o=>h (o.wait i (by omega)).1)
    have go:(0 < (i:Int)→¬n.wait.getD i 0≤n.wait.getD (i - 1) 0)→J 2 (ig n n.wait.length ((i:Int)+1))=some (.bool (dr n),[.undef]):=fun hb=>next (by omega) fun k hk=>by
      by_cases e:k=i
      · subst e; exact ⟨ha,hb⟩
      · exact inv k (by omega)
    refine dz (fun oF=>?_) (fun hz=>?_)
    · simp (disch:=first | assumption | omega) only [go_sem]
      have e1:((i:Int) - 1).toNat=i - 1:=by omega
      simp (disch:=first | assumption | omega) only [go_sem,e1]
      exact dz (fun h=>dE fun o=>(o.wait i (by omega)).2 oF h) (fun h=>go fun _=>h)
    · simp (disch:=first | assumption | omega) only [go_sem]
      exact go fun h=>absurd h hz
  refine hJ _ _ ?_
  refine WP.up (H:=fun i=>ie n i) 3 (fun i=>∀ k,k < i→pb n k) (fun i hi inv J hJ next=>?_) 0 (Nat.zero_le _) (fun k hk=>absurd hk (by omega))
  rw [BL]
  dsimp only
  simp (disch:=first | assumption | omega) only [go_sem]
  refine dz (fun cR=>?_) (fun xW=>hJ _ _ (aaV fun k hk=>inv k (by omega)))
  have Vs:i < 3:=by omega
  have go:pb n i→J 0 (ie n ((i:Int)+1))=some (.bool (dr n),[.undef]):=fun hb=>next (by omega) fun k hk=>by
      by_cases e:k=i
      · subst e; exact hb
      · exact inv k (by omega)
  have no:¬pb n i→(some ((.bool false,[.undef]):Rz))=some (.bool (dr n),[.undef]):=fun h=>dE fun o=>h (o.link i Vs)
  have eJ:U.ar .add .i64 (i:Int) 1=(i:Int)+1:=Vo (by omega) (by omega)
  rw [eJ]
  generalize J 0 (ie n ((i:Int)+1))=z at go ⊢
  unfold pb at go no
  cases hc:n.conn.getD i false<;>cases hk:n.bA.getD i false<;>cases hu:n.up<;>by_cases hs:0 < ((n.sync.getD i []).length:Int)<;>by_cases P3:(i:Int)=n.id<;>simp only [hc,hk,hu,hs,P3,not_true_eq_false,not_false_eq_true,false_and,and_false,and_true,true_and,forall_const,Bool.false_eq_true,false_implies,imp_self,true_implies,and_self] at go no<;>simp (disch:=first | assumption | omega) only [go_sem,hc,hk,hu]<;>first | exact no | exact go
@[go_sem] theorem W2 (qW:Int) (qX:Bool) (qY:Bool) (uD:Nat) (kI:List Int) (qZ:Nat) (ij:List Int) (q8:Nat) (ik:List (List Int)) (j1:Bool) (j2:Bool) (j3:Bool) (j4:Int) (q9:Nat) (il:List UInt8) (ra:Nat) (im:List UInt8) (zf:Nat) (oq:List Bool) (zg:Nat) (ot:List (List Int)) (zh:Nat) (ou:List Bool) (zi:Nat) (ov:List Int) (e0:uD=kI.length) (e1:qZ=ij.length) (e2:q8=ik.length) (e3:q9=il.length) (e4:ra=im.length) (e5:zf=oq.length) (e6:zg=ot.length) (e7:zh=ou.length) (e8:zi=ov.length) (q0:bz (⟨qW,qX,qY,kI,(⟨ij,ik,j1,j2,j3,j4⟩:aK),(⟨il,im⟩:aG),oq,ot,ou,ov⟩:af)) (t:bJ Rz):aY 42 [.agg [.int .i64 qW,.bool qX,.bool qY,.sl (some true) 1 uD (ints kI),.sl (some true) 1 qZ (ints ij),.sl (some true) 1 q8 (rows (some true) ik),.bool j1,.bool j2,.bool j3,.int .i64 j4,.sl (some true) 1 q9 (bytes il),.sl (some true) 1 ra (bytes im),.sl (some true) 1 zf (aH oq),.sl (some true) 1 zg (rows (some true) ot),.sl (some true) 1 zh (aH ou),.sl (some true) 1 zi (ints ov)]] t=feed t [.bool (dr (⟨qW,qX,qY,kI,(⟨ij,ik,j1,j2,j3,j4⟩:aK),(⟨il,im⟩:aG),oq,ot,ou,ov⟩:af))]:=by
  subst e0
  subst e1
  subst e2
  subst e3
  subst e4
  subst e5
  subst e6
  subst e7
  subst e8
  exact bK (r:=.bool (dr (⟨qW,qX,qY,kI,(⟨ij,ik,j1,j2,j3,j4⟩:aK),(⟨il,im⟩:aG),oq,ot,ou,ov⟩:af))) (s:=.bool) (ss:=[.undef]) (xJ (⟨qW,qX,qY,kI,(⟨ij,ik,j1,j2,j3,j4⟩:aK),(⟨il,im⟩:aG),oq,ot,ou,ov⟩:af) q0) (by kernel_rfl) (by simp only [aw,bo,aV,bp,bq,ai,ak,Bool.and_self]) (by simp only [ai,aI,aw,ak,Bool.and_self]) (by first | rfl | simp only [av,aT,aS,bl,bm,aU,bn,Bool.and_self]) (by first | rfl | simp only [List.all_cons,List.all_nil,av,Bool.and_self]) t
end Go.Proofs.Ytockoilcnmljiaa
