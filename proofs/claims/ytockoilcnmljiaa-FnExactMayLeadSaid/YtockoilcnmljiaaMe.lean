/- What the proof of FnExactMayLead stands on, part 5: an abstract machine on plain data, its soundness, and the contracts of functions. -/
import Derived.Attr
import Derived.Test.YtockoilcnmljiaaMd
set_option linter.all false
set_option linter.unusedSimpArgs false
set_option linter.unusedVariables false
set_option linter.unnecessarySimpa false
set_option linter.unusedSectionVars false
namespace Go.Proofs.Ytockoilcnmljiaa
set_option maxRecDepth 100000
section
variable (pr:ez) (cv:Cv Rz) (J:Nat→St→Option Rz)
def kq (g0:Bool) (n1:Nat) (c2:List D) (i3:Int) (i4:Int):St:=(St.mk [(0,(.sl (some g0) 1 n1 c2)),(1,(.int .i64 i3)),(5,(.int .i64 i4))] [] [] 0)
theorem IK:Told cfg Try.prog 70 Try.f70:=⟨by kernel_rfl,Try.func70,by kernel_rfl⟩
theorem IL (g0:Bool) (n0:Nat) (c0:List D) (a1:Int):bn pr cv J 70 Try.f70 [(.sl (some g0) 1 n0 c0),(.int .i64 a1)]=
    (J 0 (kq g0 n0 c0 a1 0)):=by kernel_rfl
theorem oI (g0:Bool) (n1:Nat) (c2:List D) (i3:Int) (i4:Int):cB pr cv J 70 Try.f70 [.undef,.undef] 0 (kq g0 n1 c2 i3 i4)=
    (br (pr.lt i4 (pr.bu n1)) (br (pr.cb i4 n1) (br (br (pr.cV .i64 c2 (pr.idx 0 i4 1)) true false) (br (pr.eq (pr.bY c2 (pr.idx 0 i4 1)) i3) (some ((.bool true),[.undef,.undef])) (J 0 (kq g0 n1 c2 i3 (pr.ar .add .i64 i4 1)))) none) none) (some ((.bool false),[.undef,.undef]))):=by kernel_rfl
def jB (g0:Bool) (n1:Nat) (c2:List D) (g3:Bool) (n4:Nat) (c5:List D) (i6:Int):St:=(St.mk [(0,(.sl (some g0) 1 n1 c2)),(1,(.sl (some g3) 1 n4 c5)),(5,(.int .i64 i6))] [] [] 0)
theorem FC:Told cfg Try.prog 98 Try.f98:=⟨by kernel_rfl,Try.func98,by kernel_rfl⟩
theorem FD (g0:Bool) (n0:Nat) (c0:List D) (g1:Bool) (n1:Nat) (c1:List D):bn pr cv J 98 Try.f98 [(.sl (some g0) 1 n0 c0),(.sl (some g1) 1 n1 c1)]=
    (J 0 (jB g0 n0 c0 g1 n1 c1 0)):=by kernel_rfl
theorem nt (g0:Bool) (n1:Nat) (c2:List D) (g3:Bool) (n4:Nat) (c5:List D) (i6:Int):cB pr cv J 98 Try.f98 [.undef,.undef] 0 (jB g0 n1 c2 g3 n4 c5 i6)=
    let y1:Option (D × List D):=(some ((.bool (pr.eq (pr.bu n1) (pr.bu n4))),[.undef,.undef]))
    (br (pr.lt i6 (pr.bu n1)) (br (pr.lt i6 (pr.bu n4)) (br (pr.cb i6 n1) (br (br (pr.cV .i64 c2 (pr.idx 0 i6 1)) true false) (br (pr.cb i6 n4) (br (br (pr.cV .i64 c5 (pr.idx 0 i6 1)) true false) (br (br (pr.eq (pr.bY c2 (pr.idx 0 i6 1)) (pr.bY c5 (pr.idx 0 i6 1))) false true) (some ((.bool false),[.undef,.undef])) (J 0 (jB g0 n1 c2 g3 n4 c5 (pr.ar .add .i64 i6 1)))) none) none) none) none) y1) y1):=by kernel_rfl
theorem IM:Told cfg Try.prog 39 Try.f39:=⟨by kernel_rfl,Try.func39,by kernel_rfl⟩
theorem IN (a0:Bool):bn pr cv J 39 Try.f39 [(.bool a0)]=
    (br a0 (some ((.int .i64 1),[.undef])) (some ((.int .i64 0),[.undef]))):=by kernel_rfl
theorem FE:Told cfg Try.prog 72 Try.f72:=⟨by kernel_rfl,Try.func72,by kernel_rfl⟩
theorem FF (a0:Int):bn pr cv J 72 Try.f72 [(.int .i64 a0)]=
    (cv 99 [(.int .i64 a0),(.int .i64 0),(.int .i64 2)] (.bool (fun cm=>(.done (some ((.bool cm),[.undef])))))):=by kernel_rfl
theorem FH:Told cfg Try.prog 116 Try.f116:=⟨by kernel_rfl,Try.func116,by kernel_rfl⟩
theorem FI (a0:Int):bn pr cv J 116 Try.f116 [(.int .i64 a0)]=
    (cv 99 [(.int .i64 a0),(.int .i64 0),(.int .i64 7)] (.bool (fun cm=>(.done (some ((.bool cm),[.undef])))))):=by kernel_rfl
theorem Di:Told cfg Try.prog 78 Try.f78:=⟨by kernel_rfl,Try.func78,by kernel_rfl⟩
theorem Dj (a0:Int):bn pr cv J 78 Try.f78 [(.int .i64 a0)]=
    (cv 99 [(.int .i64 a0),(.int .i64 1),(.int .i64 200)] (.bool (fun cm=>(.done (some ((.bool cm),[.undef])))))):=by kernel_rfl
theorem Jw:Told cfg Try.prog 137 Try.f137:=⟨by kernel_rfl,Try.func137,by kernel_rfl⟩
theorem Jx (a0:Bool) (a1:Int):bn pr cv J 137 Try.f137 [(.bool a0),(.int .i64 a1)]=
    (br a0 (some ((.int .i64 a1),[.undef,.undef])) (some ((.int .i64 0),[.undef,.undef]))):=by kernel_rfl
theorem Jy:Told cfg Try.prog 62 Try.f62:=⟨by kernel_rfl,Try.func62,by kernel_rfl⟩
theorem Jz (a0:Int):bn pr cv J 62 Try.f62 [(.int .i64 a0)]=
    let y1:Option (D × List D):=(some ((.int .i64 (pr.ar .sub .i64 1 a0)),[.undef]))
    (br (pr.eq a0 0) y1 (br (pr.eq a0 1) y1 (some ((.int .i64 (-1)),[.undef])))):=by kernel_rfl
theorem JA:Told cfg Try.prog 60 Try.f60:=⟨by kernel_rfl,Try.func60,by kernel_rfl⟩
theorem JB (a0:Int):bn pr cv J 60 Try.f60 [(.int .i64 a0)]=
    (cv 64 [(.int .i64 a0),(.int .i64 0),(.int .i64 1)] (.bool (fun cm=>(.done (br cm (some ((.int .i64 (pr.ar .sub .i64 1 a0)),[.undef])) (some ((.int .i64 (-1)),[.undef]))))))):=by kernel_rfl
def iR (g0:Bool) (n1:Nat) (c2:List D) (i3:Int):St:=(St.mk [(0,(.sl (some g0) 1 n1 c2)),(3,(.int .i64 i3))] [] [] 0)
theorem Dk:Told cfg Try.prog 94 Try.f94:=⟨by kernel_rfl,Try.func94,by kernel_rfl⟩
theorem Dl (g0:Bool) (n0:Nat) (c0:List D):bn pr cv J 94 Try.f94 [(.sl (some g0) 1 n0 c0)]=
    (J 0 (iR g0 n0 c0 0)):=by kernel_rfl
theorem mI (g0:Bool) (n1:Nat) (c2:List D) (i3:Int):cB pr cv J 94 Try.f94 [.undef] 0 (iR g0 n1 c2 i3)=
    let y1:Option (D × List D):=(some ((.bool false),[.undef]))
    let y2:Option Rz:=(J 0 (iR g0 n1 c2 (pr.ar .add .i64 i3 1)))
    (br (pr.lt i3 (pr.bu n1)) (br (pr.cb i3 n1) (br (br (pr.cV .i64 c2 (pr.idx 0 i3 1)) true false) (cv 64 [(.int .i64 (pr.bY c2 (pr.idx 0 i3 1))),(.int .i64 0),(.int .i64 7)] (.bool (fun cm=>(.done (br (br cm false true) y1 (br (pr.lt 0 i3) (br (pr.cb (pr.ar .sub .i64 i3 1) n1) (br (br (pr.cV .i64 c2 (pr.idx 0 (pr.ar .sub .i64 i3 1) 1)) true false) (br (pr.cb i3 n1) (br (br (pr.cV .i64 c2 (pr.idx 0 i3 1)) true false) (br (pr.le (pr.bY c2 (pr.idx 0 i3 1)) (pr.bY c2 (pr.idx 0 (pr.ar .sub .i64 i3 1) 1))) y1 y2) none) none) none) none) y2)))))) none) none) (some ((.bool true),[.undef]))):=by kernel_rfl
def iS (g0:Bool) (n1:Nat) (c2:List D) (i3:Int) (i4:Int):St:=(St.mk [(0,(.sl (some g0) 1 n1 c2)),(5,(.sl (some g0) 1 n1 c2)),(6,(.int .i64 i3)),(7,(.int .i64 i4))] [] [] 0)
theorem Dm:Told cfg Try.prog 105 Try.f105:=⟨by kernel_rfl,Try.func105,by kernel_rfl⟩
theorem Dn (g0:Bool) (n0:Nat) (c0:List D):bn pr cv J 105 Try.f105 [(.sl (some g0) 1 n0 c0)]=
    (J 0 (iS g0 n0 c0 (pr.bu n0) 0)):=by kernel_rfl
theorem mJ (g0:Bool) (n1:Nat) (c2:List D) (i3:Int) (i4:Int):cB pr cv J 105 Try.f105 [.undef] 0 (iS g0 n1 c2 i3 i4)=
    let y1:Option (D × List D):=(some ((.bool false),[.undef]))
    let y2:Option Rz:=(J 0 (iS g0 n1 c2 i3 (pr.ar .add .i64 i4 1)))
    (br (pr.lt i4 i3) (br (pr.cb i4 n1) (br (br (pr.cV .i64 c2 (pr.idx 0 i4 1)) true false) (cv 116 [(.int .i64 (pr.bY c2 (pr.idx 0 i4 1)))] (.bool (fun cm=>(.done (br (br cm false true) y1 (br (pr.lt 0 i4) (br (pr.cb (pr.ar .sub .i64 i4 1) n1) (br (br (pr.cV .i64 c2 (pr.idx 0 (pr.ar .sub .i64 i4 1) 1)) true false) (br (pr.le (pr.bY c2 (pr.idx 0 i4 1)) (pr.bY c2 (pr.idx 0 (pr.ar .sub .i64 i4 1) 1))) y1 y2) none) none) y2)))))) none) none) (some ((.bool true),[.undef]))):=by kernel_rfl
def jC (g0:Bool) (n1:Nat) (c2:List D) (i3:Int):St:=(St.mk [(0,(.sl (some g0) 1 n1 c2)),(3,(.int .i64 i3))] [] [] 0)
theorem FJ:Told cfg Try.prog 95 Try.f95:=⟨by kernel_rfl,Try.func95,by kernel_rfl⟩
theorem FK (g0:Bool) (n0:Nat) (c0:List D):bn pr cv J 95 Try.f95 [(.sl (some g0) 1 n0 c0)]=
    (J 0 (jC g0 n0 c0 0)):=by kernel_rfl
theorem nu (g0:Bool) (n1:Nat) (c2:List D) (i3:Int):cB pr cv J 95 Try.f95 [.undef] 0 (jC g0 n1 c2 i3)=
    let y1:Option (D × List D):=(some ((.bool false),[.undef]))
    (br (pr.lt i3 (pr.bu n1)) (br (pr.cb i3 n1) (br (br (pr.cV .i64 c2 (pr.idx 0 i3 1)) true false) (cv 64 [(.int .i64 (pr.bY c2 (pr.idx 0 i3 1))),(.int .i64 1),(.int .i64 100000)] (.bool (fun cm=>(.done (br (br cm false true) y1 (br (pr.zK 0 i3 n1) (br (pr.cb i3 n1) (br (br (pr.cV .i64 c2 (pr.idx 0 i3 1)) true false) (cv 70 [(.sl (some g0) 1 (pr.qK i3 0) (List.take (Nat.mul (pr.qK i3 0) 1) (List.drop (Nat.mul (pr.kz 0) 1) c2))),(.int .i64 (pr.bY c2 (pr.idx 0 i3 1)))] (.bool (fun jw=>(.done (br jw y1 (J 0 (jC g0 n1 c2 (pr.ar .add .i64 i3 1)))))))) none) none) none)))))) none) none) (some ((.bool (pr.le (pr.bu n1) 12)),[.undef]))):=by kernel_rfl
def jD (g0:Bool) (n1:Nat) (c2:List D) (i3:Int) (i4:Int):St:=(St.mk [(0,(.sl (some g0) 1 n1 c2)),(5,(.sl (some g0) 1 n1 c2)),(6,(.int .i64 i3)),(7,(.int .i64 i4))] [] [] 0)
theorem FL:Told cfg Try.prog 102 Try.f102:=⟨by kernel_rfl,Try.func102,by kernel_rfl⟩
theorem FM (g0:Bool) (n0:Nat) (c0:List D):bn pr cv J 102 Try.f102 [(.sl (some g0) 1 n0 c0)]=
    (J 0 (jD g0 n0 c0 (pr.bu n0) 0)):=by kernel_rfl
theorem nv (g0:Bool) (n1:Nat) (c2:List D) (i3:Int) (i4:Int):cB pr cv J 102 Try.f102 [.undef] 0 (jD g0 n1 c2 i3 i4)=
    let y1:Option (D × List D):=(some ((.bool false),[.undef]))
    (br (pr.lt i4 i3) (br (pr.cb i4 n1) (br (br (pr.cV .i64 c2 (pr.idx 0 i4 1)) true false) (cv 99 [(.int .i64 (pr.bY c2 (pr.idx 0 i4 1))),(.int .i64 1),(.int .i64 100000)] (.bool (fun cm=>(.done (br (br cm false true) y1 (br (pr.zK 0 i4 n1) (cv 79 [(.sl (some g0) 1 (pr.qK i4 0) (List.take (Nat.mul (pr.qK i4 0) 1) (List.drop (Nat.mul (pr.kz 0) 1) c2))),(.int .i64 (pr.bY c2 (pr.idx 0 i4 1)))] (.bool (fun jw=>(.done (br jw y1 (J 0 (jD g0 n1 c2 i3 (pr.ar .add .i64 i4 1)))))))) none)))))) none) none) (some ((.bool (pr.le (pr.bu n1) 12)),[.undef]))):=by kernel_rfl
def iT (g0:Bool) (n1:Nat) (c2:List D) (i3:Int):St:=(St.mk [(0,(.sl (some g0) 1 n1 c2)),(3,(.int .i64 i3))] [] [] 0)
theorem Dp:Told cfg Try.prog 65 Try.f65:=⟨by kernel_rfl,Try.func65,by kernel_rfl⟩
theorem Dq (g0:Bool) (n0:Nat) (c0:List D):bn pr cv J 65 Try.f65 [(.sl (some g0) 1 n0 c0)]=
    (J 0 (iT g0 n0 c0 0)):=by kernel_rfl
theorem mK (g0:Bool) (n1:Nat) (c2:List D) (i3:Int):cB pr cv J 65 Try.f65 [.undef] 0 (iT g0 n1 c2 i3)=
    (br (pr.lt i3 (pr.bu n1)) (br (pr.cb i3 n1) (br (br (pr.cV .i64 c2 (pr.idx 0 i3 1)) true false) (cv 64 [(.int .i64 (pr.bY c2 (pr.idx 0 i3 1))),(.int .i64 0),(.int .i64 200)] (.bool (fun cm=>(.done (br (br cm false true) (some ((.bool false),[.undef])) (J 0 (iT g0 n1 c2 (pr.ar .add .i64 i3 1)))))))) none) none) (some ((.bool (pr.eq (pr.bu n1) 8)),[.undef]))):=by kernel_rfl
theorem sE:Told cfg Try.prog 79 Try.f79:=⟨by kernel_rfl,Try.func79,by kernel_rfl⟩
theorem sF (g0:Bool) (n0:Nat) (c0:List D) (a1:Int):bn pr cv J 79 Try.f79 [(.sl (some g0) 1 n0 c0),(.int .i64 a1)]=
    (cv 109 [(.sl (some g0) 1 n0 c0),(.int .i64 a1)] (.int (fun gF=>(.done (some ((.bool (pr.le 0 gF)),[.undef,.undef])))))):=by kernel_rfl
def eY (g0:Bool) (n1:Nat) (c2:List D) (i3:Int) (i4:Int) (i5:Int):St:=(St.mk [(0,(.sl (some g0) 1 n1 c2)),(1,(.int .i64 i3)),(7,(.int .i64 i4)),(8,(.int .i64 i5))] [] [] 0)
theorem uS:Told cfg Try.prog 109 Try.f109:=⟨by kernel_rfl,Try.func109,by kernel_rfl⟩
theorem uT (g0:Bool) (n0:Nat) (c0:List D) (a1:Int):bn pr cv J 109 Try.f109 [(.sl (some g0) 1 n0 c0),(.int .i64 a1)]=
    (J 0 (eY g0 n0 c0 a1 (pr.bu n0) 0)):=by kernel_rfl
theorem iU (g0:Bool) (n1:Nat) (c2:List D) (i3:Int) (i4:Int) (i5:Int):cB pr cv J 109 Try.f109 [.undef,.undef] 0 (eY g0 n1 c2 i3 i4 i5)=
    (br (pr.lt i5 i4) (br (pr.cb i5 n1) (br (br (pr.cV .i64 c2 (pr.idx 0 i5 1)) true false) (br (pr.eq i3 (pr.bY c2 (pr.idx 0 i5 1))) (some ((.int .i64 i5),[.undef,.undef])) (J 0 (eY g0 n1 c2 i3 i4 (pr.ar .add .i64 i5 1)))) none) none) (some ((.int .i64 (-1)),[.undef,.undef]))):=by kernel_rfl
def eZ (g0:Bool) (n1:Nat) (c2:List D) (g3:Bool) (n4:Nat) (c5:List D) (i6:Int) (i7:Int):St:=(St.mk [(0,(.sl (some g0) 1 n1 c2)),(1,(.sl (some g3) 1 n4 c5)),(12,(.int .i64 i6)),(13,(.int .i64 i7))] [] [] 0)
theorem nO:Told cfg Try.prog 107 Try.f107:=⟨by kernel_rfl,Try.func107,by kernel_rfl⟩
theorem nP (g0:Bool) (n0:Nat) (c0:List D) (g1:Bool) (n1:Nat) (c1:List D):bn pr cv J 107 Try.f107 [(.sl (some g0) 1 n0 c0),(.sl (some g1) 1 n1 c1)]=
    (br (br (pr.eq (pr.bu n0) (pr.bu n1)) false true) (some ((.bool false),[.undef,.undef])) (J 0 (eZ g0 n0 c0 g1 n1 c1 (pr.bu n0) 0))):=by kernel_rfl
theorem iV (g0:Bool) (n1:Nat) (c2:List D) (g3:Bool) (n4:Nat) (c5:List D) (i6:Int) (i7:Int):cB pr cv J 107 Try.f107 [.undef,.undef] 0 (eZ g0 n1 c2 g3 n4 c5 i6 i7)=
    (br (pr.lt i7 i6) (br (pr.cb i7 n1) (br (br (pr.cV .i64 c2 (pr.idx 0 i7 1)) true false) (br (pr.cb i7 n4) (br (br (pr.cV .i64 c5 (pr.idx 0 i7 1)) true false) (br (br (pr.eq (pr.bY c2 (pr.idx 0 i7 1)) (pr.bY c5 (pr.idx 0 i7 1))) false true) (some ((.bool false),[.undef,.undef])) (J 0 (eZ g0 n1 c2 g3 n4 c5 i6 (pr.ar .add .i64 i7 1)))) none) none) none) none) (some ((.bool true),[.undef,.undef]))):=by kernel_rfl
theorem FN:Told cfg Try.prog 126 Try.f126:=⟨by kernel_rfl,Try.func126,by kernel_rfl⟩
theorem FO (g0:Bool) (n0:Nat) (c0:List D) (g1:Bool) (n1:Nat) (c1:List D):bn pr cv J 126 Try.f126 [(.sl (some g0) 1 n0 c0),(.sl (some g1) 1 n1 c1)]=
    (br (pr.pB c0) (br (pr.pB c1) (some ((.bool (pr.seq (pr.xI c0) (pr.xI c1))),[.undef,.undef])) none) none):=by kernel_rfl
theorem AB:Told cfg Try.prog 101 Try.f101:=⟨by kernel_rfl,Try.func101,by kernel_rfl⟩
theorem AD (a0:Int):bn pr cv J 101 Try.f101 [(.int .i64 a0)]=
    (cv 99 [(.int .i64 a0),(.int .i64 0),(.int .i64 200)] (.bool (fun cm=>(.done (some ((.bool (br cm false true)),[.undef])))))):=by kernel_rfl
theorem zb:Told cfg Try.prog 104 Try.f104:=⟨by kernel_rfl,Try.func104,by kernel_rfl⟩
theorem zc (g0:Bool) (n0:Nat) (c0:List D):bn pr cv J 104 Try.f104 [(.sl (some g0) 1 n0 c0)]=
    (cv 105 [(.sl (some g0) 1 n0 c0)] (.bool (fun cm=>(.done (some ((.bool (br cm false true)),[.undef])))))):=by kernel_rfl
theorem BW:Told cfg Try.prog 75 Try.f75:=⟨by kernel_rfl,Try.func75,by kernel_rfl⟩
theorem BX (g0:Bool) (n0:Nat) (c0:List D):bn pr cv J 75 Try.f75 [(.sl (some g0) 1 n0 c0)]=
    (br (pr.eq (pr.bu n0) 3) (cv 103 [(.sl (some g0) 1 n0 c0),(.fn 104 [])] (.bool (fun cm=>(.done (some ((.bool (br cm false true)),[.undef])))))) (some ((.bool false),[.undef]))):=by kernel_rfl
theorem Dr:Told cfg Try.prog 73 Try.f73:=⟨by kernel_rfl,Try.func73,by kernel_rfl⟩
theorem Dt (g0:Bool) (n0:Nat) (c0:List D):bn pr cv J 73 Try.f73 [(.sl (some g0) 1 n0 c0)]=
    (br (pr.eq (pr.bu n0) 8) (cv 100 [(.sl (some g0) 1 n0 c0),(.fn 101 [])] (.bool (fun cm=>(.done (some ((.bool (br cm false true)),[.undef])))))) (some ((.bool false),[.undef]))):=by kernel_rfl
theorem mZ:Told cfg Try.prog 100 Try.f100:=⟨by kernel_rfl,Try.func100,by kernel_rfl⟩
theorem m8 (g0:Bool) (n0:Nat) (c0:List D):bn pr cv J 100 Try.f100 [(.sl (some g0) 1 n0 c0),(.fn 101 [])]=
    (cv 114 [(.sl (some g0) 1 n0 c0),(.fn 101 [])] (.int (fun gF=>(.done (some ((.bool (pr.le 0 gF)),[.undef,.undef])))))):=by kernel_rfl
def dv (g0:Bool) (n1:Nat) (c2:List D) (i3:Int) (i4:Int):St:=(St.mk [(0,(.sl (some g0) 1 n1 c2)),(1,(.fn 101 [])),(7,(.int .i64 i3)),(8,(.int .i64 i4))] [] [] 0)
theorem oJ:Told cfg Try.prog 114 Try.f114:=⟨by kernel_rfl,Try.func114,by kernel_rfl⟩
theorem oK (g0:Bool) (n0:Nat) (c0:List D):bn pr cv J 114 Try.f114 [(.sl (some g0) 1 n0 c0),(.fn 101 [])]=
    (J 0 (dv g0 n0 c0 (pr.bu n0) 0)):=by kernel_rfl
theorem fq (g0:Bool) (n1:Nat) (c2:List D) (i3:Int) (i4:Int):cB pr cv J 114 Try.f114 [.undef,.undef] 0 (dv g0 n1 c2 i3 i4)=
    (br (pr.lt i4 i3) (br (pr.cb i4 n1) (br (br (pr.cV .i64 c2 (pr.idx 0 i4 1)) true false) (cv 101 [(.int .i64 (pr.bY c2 (pr.idx 0 i4 1)))] (.bool (fun cm=>(.done (br cm (some ((.int .i64 i4),[.undef,.undef])) (J 0 (dv g0 n1 c2 i3 (pr.ar .add .i64 i4 1)))))))) none) none) (some ((.int .i64 (-1)),[.undef,.undef]))):=by kernel_rfl
theorem m9:Told cfg Try.prog 103 Try.f103:=⟨by kernel_rfl,Try.func103,by kernel_rfl⟩
theorem na (g0:Bool) (n0:Nat) (c0:List D):bn pr cv J 103 Try.f103 [(.sl (some g0) 1 n0 c0),(.fn 104 [])]=
    (cv 115 [(.sl (some g0) 1 n0 c0),(.fn 104 [])] (.int (fun gF=>(.done (some ((.bool (pr.le 0 gF)),[.undef,.undef])))))):=by kernel_rfl
def dw (g0:Bool) (n1:Nat) (c2:List D) (i3:Int) (i4:Int):St:=(St.mk [(0,(.sl (some g0) 1 n1 c2)),(1,(.fn 104 [])),(7,(.int .i64 i3)),(8,(.int .i64 i4))] [] [] 0)
theorem oL:Told cfg Try.prog 115 Try.f115:=⟨by kernel_rfl,Try.func115,by kernel_rfl⟩
theorem oM (g0:Bool) (n0:Nat) (c0:List D):bn pr cv J 115 Try.f115 [(.sl (some g0) 1 n0 c0),(.fn 104 [])]=
    (J 0 (dw g0 n0 c0 (pr.bu n0) 0)):=by kernel_rfl
theorem fr (g0:Bool) (n1:Nat) (c2:List D) (i3:Int) (i4:Int):cB pr cv J 115 Try.f115 [.undef,.undef] 0 (dw g0 n1 c2 i3 i4)=
    (br (pr.lt i4 i3) (br (pr.cb i4 n1) (br (br (pr.eg 1 c2 (pr.idx 0 i4 1)) true false) (cv 104 [(.sl (some (pr.dn c2 (pr.idx 0 i4 1))) 1 (pr.cy c2 (pr.idx 0 i4 1)) (pr.cH c2 (pr.idx 0 i4 1)))] (.bool (fun cm=>(.done (br cm (some ((.int .i64 i4),[.undef,.undef])) (J 0 (dw g0 n1 c2 i3 (pr.ar .add .i64 i4 1)))))))) none) none) (some ((.int .i64 (-1)),[.undef,.undef]))):=by kernel_rfl
end
theorem WP.scan {f:FuncId} {fn:Func} {sk:List D} {j:Nat} {H:Nat→St} {n:Nat} (p:Nat→Bool) {bad vI:Rz} (Br:∀ i r,i < n→p i=true→WP f fn sk j (H (i+1)) r→WP f fn sk j (H i) r) (Qa:∀ i,i < n→p i=false→WP f fn sk j (H i) bad) (Qb:WP f fn sk j (H n) vI):WP f fn sk j (H 0) (if (List.range n).all p then vI else bad):=by
  have key:∀ k i,i+k=n→WP f fn sk j (H i) (if ((List.range n).drop i).all p then vI else bad):=by
    intro k
    induction k with
    | zero=>
      intro i hi
      obtain rfl:i=n:=by omega
      rw [List.drop_of_length_le (by simp)]
      exact Qb
    | succ k ih=>
      intro i hi
      have cJ:i < (List.range n).length:=by simp; omega
      have e:((List.range n).drop i).all p=(p i&&((List.range n).drop (i+1)).all p):=by
        rw [← List.getElem_cons_drop cJ]
        simp
      rw [e]
      cases hp:p i with
      | true=>
        rw [Bool.true_and]
        exact Br i _ (by omega) hp (ih (i+1) (by omega))
      | false=>
        rw [Bool.false_and]
        exact Qa i (by omega) hp
  exact key n 0 (by omega)
theorem bm {α:Type} {l:List α} {i:Nat} (h:i < l.length) {d:α}:l.getD i d=l[i]:=by simp [List.getD_eq_getElem?_getD,h]
theorem Qc {α:Type} (p:α→Bool) (d:α) (xs:List α):((List.range xs.length).all fun i=>p (xs.getD i d))=xs.all p:=by
  rw [Bool.eq_iff_iff,List.all_eq_true,List.all_eq_true]
  constructor
  · intro h x hx
    obtain ⟨i,hi,rfl⟩:=List.mem_iff_getElem.1 hx
    have:=h i (List.mem_range.2 hi)
    rwa [bm hi] at this
  · intro h i hi
    rw [bm (List.mem_range.1 hi)]
    exact h _ (List.getElem_mem _)
def Rz.bool (b:Bool) (k:Nat):Rz:=(.bool b,List.replicate k .undef)
theorem KE (g:Bool) (xs:List Int) (a:Int) (hb:xs.length < 4611686018427387904):Cm 70 [.sl (some g) 1 xs.length (ints xs),.int .i64 a] (.bool (decide (a∈xs)),[.undef,.undef]):=by
  have e0:(Rz.bool (decide (a∈xs)) 2)=(if (List.range xs.length).all fun i=>!(xs.getD i 0==a) then Rz.bool false 2 else Rz.bool true 2):=by
    rw [Qc (fun x=>!(x==a))]
    by_cases h:a∈xs
    · have:(xs.all fun x=>!(x==a))=false:=by
        rw [List.all_eq_false]
        exact ⟨a,h,by simp⟩
      simp [this,h]
    · have:(xs.all fun x=>!(x==a))=true:=by
        rw [List.all_eq_true]
        intro x hx
        have:x≠a:=fun e=>h (e▸hx)
        simp [this]
      simp [this,h]
  show Cm _ _ (Rz.bool (decide (a∈xs)) 2)
  rw [e0]
  refine Cm.go IK [.undef,.undef] 0 (kq g xs.length (ints xs) a (0:Nat)) ?_ fun J hJ=>?_
  · refine WP.scan (H:=fun i:Nat=>kq g xs.length (ints xs) a (i:Nat)) _ (fun i r hi hp ih=>WP.go _ ih fun J hJ=>?_) (fun i hi hp=>WP.fin fun J=>?_) (WP.fin fun J=>?_)
    · rw [oI]
      rw [bm hi] at hp
      have cA:xs[i]≠a:=by simpa using hp
      simp (disch:=first | omega | assumption) only [aF,aX,aW,aB,aP,bo,cD,dg,dj,dK,db]
      exact hJ
    · rw [oI]
      rw [bm hi] at hp
      have he:xs[i]=a:=by simpa using hp
      simp (disch:=first | omega | assumption) only [aF,aX,aW,aB,aP,bo,cD,dg,dj,fx]
      rfl
    · rw [oI]
      simp (disch:=omega) only [aB,bl]
      rfl
  · rw [IL]
    exact hJ
def Du (xs:List Int) (a:Int):Int:=if a∈xs then (xs.idxOf a:Int) else -1
theorem Sm (g:Bool) (xs:List Int) (a:Int) (hb:xs.length < 4611686018427387904):Cm 109 [.sl (some g) 1 xs.length (ints xs),.int .i64 a] (.int .i64 (Du xs a),[.undef,.undef]):=by
  refine Cm.go uS [.undef,.undef] 0 (eY g xs.length (ints xs) a xs.length (0:Nat)) ?_ fun J hJ=>?_
  · refine WP.loop (H:=fun i:Nat=>eY g xs.length (ints xs) a xs.length (i:Nat)) (n:=xs.length) (fun i=>a∉xs.take i) (fun i hi hv ih=>?_) (fun hv=>WP.fin fun J=>?_) 0 (Nat.zero_le _) (by simp)
    · by_cases he:a=xs[i]
      · refine WP.fin fun J=>?_
        rw [iU]
        have hm:a∈xs:=he▸List.getElem_mem hi
        have hix:xs.idxOf a=i:=by
          have e1:xs=xs.take i++xs[i]::xs.drop (i+1):=by rw [List.getElem_cons_drop hi,List.take_append_drop]
          rw [e1,List.idxOf_append,if_neg hv,he,List.idxOf_cons_self,List.length_take]
          omega
        unfold Du
        rw [if_pos hm,hix]
        simp (disch:=first | omega | assumption) only [aF,aX,aW,aP,bo,cD,dg,dj,fx]
      · refine WP.go _ (ih (by
          rw [← List.take_append_getElem hi]
          simp only [List.mem_append,List.mem_singleton,not_or]
          exact ⟨hv,he⟩)) fun J hJ=>?_
        rw [iU]
        simp (disch:=first | omega | assumption) only [aF,aX,aW,aP,bo,cD,dg,dj,dK,db]
        exact hJ
    · rw [iU]
      rw [List.take_length] at hv
      unfold Du
      rw [if_neg hv]
      simp (disch:=omega) only [bl]
  · rw [uT]
    exact hJ
theorem BY (g:Bool) (xs:List Int) (a:Int) (hb:xs.length < 4611686018427387904):Cm 79 [.sl (some g) 1 xs.length (ints xs),.int .i64 a] (.bool (decide (a∈xs)),[.undef,.undef]):=by
  refine Cm.fin sE fun J=>?_
  rw [sF]
  have:=bq (Sm g xs a hb) (by kernel_rfl)
  simp only [this,ak,vJ]
  have e:decide (0≤Du xs a)=decide (a∈xs):=by
    unfold Du
    by_cases h:a∈xs<;>simp [h]
  show some (D.bool (decide (0≤Du xs a)),_)=_
  rw [e]
section
variable (t:bO Rz)
theorem KF (g:Bool) (xs:List Int) (a:Int) (n:Nat) (hn:n=xs.length) (hb:xs.length < 4611686018427387904):bc 70 [.sl (some g) 1 n (ints xs),.int .i64 a] t=feed t [.bool (decide (a∈xs))]:=by subst hn; exact bq (KE g xs a hb) (by kernel_rfl) t
theorem BZ (g:Bool) (xs:List Int) (a:Int) (n:Nat) (hn:n=xs.length) (hb:xs.length < 4611686018427387904):bc 79 [.sl (some g) 1 n (ints xs),.int .i64 a] t=feed t [.bool (decide (a∈xs))]:=by subst hn; exact bq (BY g xs a hb) (by kernel_rfl) t
end
theorem Qd (a:Int):Cm 72 [.int .i64 a] (.bool (decide (0≤a∧a≤2)),[.undef]):=by
  refine Cm.fin FE fun J=>?_
  rw [FF]
  simp only [gG,aA,ak]
theorem IP (a:Int):Cm 116 [.int .i64 a] (.bool (decide (0≤a∧a≤7)),[.undef]):=by
  refine Cm.fin FH fun J=>?_
  rw [FI]
  simp only [gG,aA,ak]
theorem N8 (a:Int):Cm 78 [.int .i64 a] (.bool (decide (1≤a∧a≤200)),[.undef]):=by
  refine Cm.fin Di fun J=>?_
  rw [Dj]
  simp only [gG,aA,ak]
def j3 (a:Int):Int:=if a=0∨a=1 then 1 - a else -1
theorem JC (a:Int):Cm 62 [.int .i64 a] (.int .i64 (j3 a),[.undef]):=by
  refine Cm.fin Jy fun J=>?_
  rw [Jz]
  unfold j3
  by_cases h0:a=0
  · subst h0; rfl
  · by_cases h1:a=1
    · subst h1; rfl
    · rw [if_neg (by omega)]
      simp (disch:=omega) only [dK]
section
variable (t:bO Rz)
theorem vO (a:Int):bc 116 [.int .i64 a] t=feed t [.bool (decide (0≤a∧a≤7))]:=bq (IP a) (by kernel_rfl) t
end
theorem JD (a:Int):Cm 60 [.int .i64 a] (.int .i64 (j3 a),[.undef]):=by
  refine Cm.fin JA fun J=>?_
  rw [JB]
  simp only [jy,aA,ak]
  unfold j3
  by_cases h0:a=0
  · subst h0; rfl
  · by_cases h1:a=1
    · subst h1; rfl
    · rw [if_neg (by omega),decide_eq_false (by omega)]
      rfl
def sG (xs:List Int) (i:Nat):Bool:=decide (0≤xs.getD i 0∧xs.getD i 0≤7)&&(decide (i=0)||decide (xs.getD (i - 1) 0 < xs.getD i 0))
def fe (xs:List Int):Bool:=(List.range xs.length).all (sG xs)
theorem uU {b:Bool} {outs:List D}:(if b=true then ((D.bool true,outs):Rz) else (D.bool false,outs))=(D.bool b,outs):=by cases b<;>rfl
theorem uV (g:Bool) (xs:List Int) (hb:xs.length < 4611686018427387904):Cm 94 [.sl (some g) 1 xs.length (ints xs)] (.bool (fe xs),[.undef]):=by
  rw [← uU]
  refine Cm.go Dk [.undef] 0 (iR g xs.length (ints xs) (0:Nat)) ?_ fun J hJ=>?_
  · refine WP.scan (H:=fun i:Nat=>iR g xs.length (ints xs) (i:Nat)) (sG xs) (fun i r hi hp ih=>WP.go _ ih fun J hJ=>?_) (fun i hi hp=>WP.fin fun J=>?_) (WP.fin fun J=>?_)
    · rw [mI]
      unfold sG at hp
      rw [bm hi] at hp
      simp only [Bool.and_eq_true,decide_eq_true_eq,Bool.or_eq_true] at hp
      by_cases h0:i=0
      · subst h0
        simp (disch:=first | omega | assumption) only [aF,aX,aW,ba,bA,aB,aP,bl,bo,cD,dg,dj,jy,aA,ak,decide_eq_true hp.1,db]
        exact hJ
      · obtain ⟨k,rfl⟩:∃ k,i=k+1:=⟨i - 1,by omega⟩
        have hk:k < xs.length:=by omega
        have e1:((k+1:Nat):Int) - 1=(k:Int):=by omega
        have J0:xs[k] < xs[k+1]:=by
          have:=hp.2.resolve_left h0
          rwa [Nat.add_sub_cancel,bm hk] at this
        simp (disch:=first | omega | assumption) only [aF,aX,aW,ba,bA,aB,aP,bo,cD,dg,dj,jy,aA,ak,decide_eq_true hp.1,kJ,e1,mW,db]
        exact hJ
    · rw [mI]
      unfold sG at hp
      rw [bm hi] at hp
      by_cases hc:0≤xs[i]∧xs[i]≤7
      · rw [decide_eq_true hc,Bool.true_and,Bool.or_eq_false_iff,decide_eq_false_iff_not,decide_eq_false_iff_not] at hp
        obtain ⟨k,rfl⟩:∃ k,i=k+1:=⟨i - 1,by omega⟩
        have hk:k < xs.length:=by omega
        have e1:((k+1:Nat):Int) - 1=(k:Int):=by omega
        have J0:xs[k+1]≤xs[k]:=by
          have:=hp.2
          rw [Nat.add_sub_cancel,bm hk] at this
          omega
        simp (disch:=first | omega | assumption) only [aF,aX,aW,ba,bA,aB,aP,bo,cD,dg,dj,jy,aA,ak,decide_eq_true hc,kJ,e1,yX]
      · simp (disch:=first | omega | assumption) only [aF,aX,aW,ba,bA,aB,aP,bo,cD,dg,dj,jy,aA,ak,decide_eq_false hc]
    · rw [mI]
      simp (disch:=omega) only [aB,bl]
  · rw [Dl]
    exact hJ
theorem uW (g:Bool) (xs:List Int) (hb:xs.length < 4611686018427387904):Cm 105 [.sl (some g) 1 xs.length (ints xs)] (.bool (fe xs),[.undef]):=by
  rw [← uU]
  refine Cm.go Dm [.undef] 0 (iS g xs.length (ints xs) xs.length (0:Nat)) ?_ fun J hJ=>?_
  · refine WP.scan (H:=fun i:Nat=>iS g xs.length (ints xs) xs.length (i:Nat)) (sG xs) (fun i r hi hp ih=>WP.go _ ih fun J hJ=>?_) (fun i hi hp=>WP.fin fun J=>?_) (WP.fin fun J=>?_)
    · rw [mJ]
      unfold sG at hp
      rw [bm hi] at hp
      simp only [Bool.and_eq_true,decide_eq_true_eq,Bool.or_eq_true] at hp
      by_cases h0:i=0
      · subst h0
        simp (disch:=first | omega | assumption) only [aF,aX,aW,ba,bA,aB,aP,bl,bo,cD,dg,dj,vO,aA,ak,decide_eq_true hp.1,db]
        exact hJ
      · obtain ⟨k,rfl⟩:∃ k,i=k+1:=⟨i - 1,by omega⟩
        have hk:k < xs.length:=by omega
        have e1:((k+1:Nat):Int) - 1=(k:Int):=by omega
        have J0:xs[k] < xs[k+1]:=by
          have:=hp.2.resolve_left h0
          rwa [Nat.add_sub_cancel,bm hk] at this
        simp (disch:=first | omega | assumption) only [aF,aX,aW,ba,bA,aB,aP,bo,cD,dg,dj,vO,aA,ak,decide_eq_true hp.1,kJ,e1,mW,db]
        exact hJ
    · rw [mJ]
      unfold sG at hp
      rw [bm hi] at hp
      by_cases hc:0≤xs[i]∧xs[i]≤7
      · rw [decide_eq_true hc,Bool.true_and,Bool.or_eq_false_iff,decide_eq_false_iff_not,decide_eq_false_iff_not] at hp
        obtain ⟨k,rfl⟩:∃ k,i=k+1:=⟨i - 1,by omega⟩
        have hk:k < xs.length:=by omega
        have e1:((k+1:Nat):Int) - 1=(k:Int):=by omega
        have J0:xs[k+1]≤xs[k]:=by
          have:=hp.2
          rw [Nat.add_sub_cancel,bm hk] at this
          omega
        simp (disch:=first | omega | assumption) only [aF,aX,aW,ba,bA,aB,aP,bo,cD,dg,dj,vO,aA,ak,decide_eq_true hc,kJ,e1,yX]
      · simp (disch:=first | omega | assumption) only [aF,aX,aW,ba,bA,aB,aP,bo,cD,dg,dj,vO,aA,ak,decide_eq_false hc]
    · rw [mJ]
      simp (disch:=omega) only [bl]
  · rw [Dn]
    exact hJ
end Go.Proofs.Ytockoilcnmljiaa
namespace Go.Proofs.Ytockoilcnmljiaa
set_option maxRecDepth 100000
section
variable (pr:ez) (cv:Cv Rz) (J:Nat→St→Option Rz)
def jE (i0:Int) (g1:Bool) (n2:Nat) (c3:List D) (g4:Bool) (n5:Nat) (c6:List D) (b7:Bool) (b8:Bool) (b9:Bool) (i10:Int):St:=(St.mk [(1,(.ptr 1 [] 0)),(3,(.int .i64 i0))] [(1,[(.sl (some g1) 1 n2 c3),(.sl (some g4) 1 n5 c6),(.bool b7),(.bool b8),(.bool b9),(.int .i64 i10)])] [] 0)
theorem FP:Told cfg Try.prog 66 Try.f66:=⟨by kernel_rfl,Try.func66,by kernel_rfl⟩
theorem FQ (g0:Bool) (n0:Nat) (c0:List D) (g1:Bool) (n1:Nat) (c1:List D) (a2:Bool) (a3:Bool) (a4:Bool) (a5:Int):bn pr cv J 66 Try.f66 [(.agg [(.sl (some g0) 1 n0 c0),(.sl (some g1) 1 n1 c1),(.bool a2),(.bool a3),(.bool a4),(.int .i64 a5)])]=
    (J 0 (jE 0 g0 n0 c0 g1 n1 c1 a2 a3 a4 a5)):=by kernel_rfl
theorem nw (i0:Int) (g1:Bool) (n2:Nat) (c3:List D) (g4:Bool) (n5:Nat) (c6:List D) (b7:Bool) (b8:Bool) (b9:Bool) (i10:Int):cB pr cv J 66 Try.f66 [.undef] 0 (jE i0 g1 n2 c3 g4 n5 c6 b7 b8 b9 i10)=
    let y1:Option (D × List D):=(some ((.bool false),[.undef]))
    (br (pr.lt i0 (pr.bu n5)) (br (pr.cb i0 n5) (br (br (pr.eg 1 c6 (pr.idx 0 i0 1)) true false) (cv 94 [(.sl (some (pr.dn c6 (pr.idx 0 i0 1))) 1 (pr.cy c6 (pr.idx 0 i0 1)) (pr.cH c6 (pr.idx 0 i0 1)))] (.bool (fun cm=>(.done (br (br cm false true) y1 (J 0 (jE (pr.ar .add .i64 i0 1) g1 n2 c3 g4 n5 c6 b7 b8 b9 i10))))))) none) none) (cv 95 [(.sl (some g1) 1 n2 c3)] (.bool (fun jw=>(.done (br jw (br (pr.lt 0 (pr.bu n2)) (br (pr.eq (pr.bu n5) 3) (cv 64 [(.int .i64 i10),(.int .i64 0),(.int .i64 200)] (.bool (fun ix=>(.done (br ix (br b8 (some ((.bool (br b9 false true)),[.undef])) (some ((.bool true),[.undef]))) y1))))) y1) y1) y1)))))):=by kernel_rfl
theorem FR:Told cfg Try.prog 74 Try.f74:=⟨by kernel_rfl,Try.func74,by kernel_rfl⟩
theorem FT (g0:Bool) (n0:Nat) (c0:List D) (g1:Bool) (n1:Nat) (c1:List D) (a2:Bool) (a3:Bool) (a4:Bool) (a5:Int):bn pr cv J 74 Try.f74 [(.agg [(.sl (some g0) 1 n0 c0),(.sl (some g1) 1 n1 c1),(.bool a2),(.bool a3),(.bool a4),(.int .i64 a5)])]=
    let y1:Option (D × List D):=(some ((.bool false),[.undef]))
    (cv 102 [(.sl (some g0) 1 n0 c0)] (.bool (fun cm=>(.done (br cm (br (pr.lt 0 (pr.bu n0)) (cv 75 [(.sl (some g1) 1 n1 c1)] (.bool (fun jw=>(.done (br jw (cv 99 [(.int .i64 a5),(.int .i64 0),(.int .i64 200)] (.bool (fun ix=>(.done (br ix (br a3 (some ((.bool (br a4 false true)),[.undef])) (some ((.bool true),[.undef]))) y1))))) y1))))) y1) y1))))):=by kernel_rfl
def ij (i0:Int) (g1:Bool) (n2:Nat) (c3:List D) (g4:Bool) (n5:Nat) (c6:List D) (b7:Bool) (b8:Bool) (b9:Bool) (i10:Int) (g11:Bool) (jW:Nat) (kV:List D) (g14:Bool) (tI:Nat) (ES:List D) (tK:Bool) (Rh:Bool) (Ri:Bool) (i20:Int):St:=(St.mk [(2,(.ptr 2 [] 0)),(3,(.ptr 3 [] 0)),(5,(.int .i64 i0))] [(2,[(.sl (some g1) 1 n2 c3),(.sl (some g4) 1 n5 c6),(.bool b7),(.bool b8),(.bool b9),(.int .i64 i10)]),(3,[(.sl (some g11) 1 jW kV),(.sl (some g14) 1 tI ES),(.bool tK),(.bool Rh),(.bool Ri),(.int .i64 i20)])] [] 0)
theorem tL:Told cfg Try.prog 69 Try.f69:=⟨by kernel_rfl,Try.func69,by kernel_rfl⟩
theorem tM (g0:Bool) (n0:Nat) (c0:List D) (g1:Bool) (n1:Nat) (c1:List D) (a2:Bool) (a3:Bool) (a4:Bool) (a5:Int) (g6:Bool) (n6:Nat) (c6:List D) (g7:Bool) (n7:Nat) (c7:List D) (a8:Bool) (a9:Bool) (a10:Bool) (a11:Int):bn pr cv J 69 Try.f69 [(.agg [(.sl (some g0) 1 n0 c0),(.sl (some g1) 1 n1 c1),(.bool a2),(.bool a3),(.bool a4),(.int .i64 a5)]),(.agg [(.sl (some g6) 1 n6 c6),(.sl (some g7) 1 n7 c7),(.bool a8),(.bool a9),(.bool a10),(.int .i64 a11)])]=
    let y1:Option (D × List D):=(some ((.bool false),[.undef,.undef]))
    (br (br (pr.eq (pr.bu n1) (pr.bu n7)) false true) y1 (cv 98 [(.sl (some g0) 1 n0 c0),(.sl (some g6) 1 n6 c6)] (.bool (fun cm=>(.done (br (br cm false true) y1 (br (br (pr.beq a2 a8) false true) y1 (br (br (pr.beq a3 a9) false true) y1 (br (br (pr.beq a4 a10) false true) y1 (br (br (pr.eq a5 a11) false true) y1 (J 0 (ij 0 g0 n0 c0 g1 n1 c1 a2 a3 a4 a5 g6 n6 c6 g7 n7 c7 a8 a9 a10 a11)))))))))))):=by kernel_rfl
theorem lZ (i0:Int) (g1:Bool) (n2:Nat) (c3:List D) (g4:Bool) (n5:Nat) (c6:List D) (b7:Bool) (b8:Bool) (b9:Bool) (i10:Int) (g11:Bool) (jW:Nat) (kV:List D) (g14:Bool) (tI:Nat) (ES:List D) (tK:Bool) (Rh:Bool) (Ri:Bool) (i20:Int):cB pr cv J 69 Try.f69 [.undef,.undef] 0 (ij i0 g1 n2 c3 g4 n5 c6 b7 b8 b9 i10 g11 jW kV g14 tI ES tK Rh Ri i20)=
    (br (pr.lt i0 (pr.bu n5)) (br (pr.cb i0 n5) (br (br (pr.eg 1 c6 (pr.idx 0 i0 1)) true false) (br (pr.cb i0 tI) (br (br (pr.eg 1 ES (pr.idx 0 i0 1)) true false) (cv 98 [(.sl (some (pr.dn c6 (pr.idx 0 i0 1))) 1 (pr.cy c6 (pr.idx 0 i0 1)) (pr.cH c6 (pr.idx 0 i0 1))),(.sl (some (pr.dn ES (pr.idx 0 i0 1))) 1 (pr.cy ES (pr.idx 0 i0 1)) (pr.cH ES (pr.idx 0 i0 1)))] (.bool (fun cm=>(.done (br (br cm false true) (some ((.bool false),[.undef,.undef])) (J 0 (ij (pr.ar .add .i64 i0 1) g1 n2 c3 g4 n5 c6 b7 b8 b9 i10 g11 jW kV g14 tI ES tK Rh Ri i20))))))) none) none) none) none) (some ((.bool true),[.undef,.undef]))):=by kernel_rfl
theorem B3:Told cfg Try.prog 77 Try.f77:=⟨by kernel_rfl,Try.func77,by kernel_rfl⟩
theorem B4 (g0:Bool) (n0:Nat) (c0:List D) (g1:Bool) (n1:Nat) (c1:List D) (a2:Bool) (a3:Bool) (a4:Bool) (a5:Int) (g6:Bool) (n6:Nat) (c6:List D) (g7:Bool) (n7:Nat) (c7:List D) (a8:Bool) (a9:Bool) (a10:Bool) (a11:Int):bn pr cv J 77 Try.f77 [(.agg [(.sl (some g0) 1 n0 c0),(.sl (some g1) 1 n1 c1),(.bool a2),(.bool a3),(.bool a4),(.int .i64 a5)]),(.agg [(.sl (some g6) 1 n6 c6),(.sl (some g7) 1 n7 c7),(.bool a8),(.bool a9),(.bool a10),(.int .i64 a11)])]=
    let y1:Option (D × List D):=(some ((.bool false),[.undef,.undef]))
    (cv 107 [(.sl (some g0) 1 n0 c0),(.sl (some g6) 1 n6 c6)] (.bool (fun cm=>(.done (br cm (cv 108 [(.sl (some g1) 1 n1 c1),(.sl (some g7) 1 n7 c7),(.fn 107 [])] (.bool (fun jw=>(.done (br jw (br (pr.beq a2 a8) (br (pr.beq a3 a9) (br (pr.beq a4 a10) (some ((.bool (pr.eq a5 a11)),[.undef,.undef])) y1) y1) y1) y1))))) y1))))):=by kernel_rfl
end
theorem WP.find {f:FuncId} {fn:Func} {sk:List D} {j:Nat} {H:Nat→St} {n:Nat} (p:Nat→Bool) {bad:Nat→Rz} {vI:Rz} (Br:∀ i r,i < n→p i=false→WP f fn sk j (H (i+1)) r→WP f fn sk j (H i) r) (Qa:∀ i,i < n→p i=true→WP f fn sk j (H i) (bad i)) (Qb:WP f fn sk j (H n) vI):WP f fn sk j (H 0) (match (List.range n).find? p with | some i=>bad i | none=>vI):=by
  have key:∀ k i,i+k=n→WP f fn sk j (H i) (match ((List.range n).drop i).find? p with | some i=>bad i | none=>vI):=by
    intro k
    induction k with
    | zero=>
      intro i hi
      obtain rfl:i=n:=by omega
      rw [List.drop_of_length_le (by simp)]
      exact Qb
    | succ k ih=>
      intro i hi
      have cJ:i < (List.range n).length:=by simp; omega
      rw [← List.getElem_cons_drop cJ,List.getElem_range,List.find?_cons]
      cases hp:p i with
      | false=>exact Br i _ (by omega) hp (ih (i+1) (by omega))
      | true=>exact Qa i (by omega) hp
  exact key n 0 (by omega)
theorem Qe {n:Nat} (p:Nat→Bool) (k:Nat→Int) (hk:∀ i,0≤k i):decide (0≤(match (List.range n).find? p with | some i=>k i | none=>-1))=!((List.range n).all fun i=>!p i):=by
  cases h:(List.range n).find? p with
  | none=>
    rw [List.find?_eq_none] at h
    have:((List.range n).all fun i=>!p i)=true:=by
      rw [List.all_eq_true]
      intro x hx
      simpa using h x hx
    rw [this]
    rfl
  | some i=>
    have h1:=List.mem_of_find?_eq_some h
    have h2:=List.find?_some h
    have:((List.range n).all fun i=>!p i)=false:=by
      rw [List.all_eq_false]
      exact ⟨i,h1,by simp [h2]⟩
    rw [this]
    simp [hk i]
theorem ya {a b:Bool} {outs:List D}:(if a=true then ((D.bool b,outs):Rz) else (D.bool false,outs))=(D.bool (a&&b),outs):=by cases a<;>rfl
theorem yZ (n:Nat):U.qK (n:Int) 0=n:=by simp [U]
theorem B5:U.kz 0=0:=rfl
theorem B6 (n:Nat):Nat.mul n 1=n:=Nat.mul_one n
theorem B7 (n:Nat):Nat.mul 0 n=0:=Nat.zero_mul n
theorem qu (xs:List Int) (i:Nat):List.take i (ints xs)=ints (xs.take i):=by simp [ints,List.map_take]
def vP (xs:List Int) (i:Nat):Bool:=decide (1≤xs.getD i 0∧xs.getD i 0≤100000)&&!decide (xs.getD i 0∈xs.take i)
def iB (xs:List Int):Bool:=(List.range xs.length).all (vP xs)&&decide ((xs.length:Int)≤12)
theorem we (g:Bool) (xs:List Int) (hb:xs.length < 4611686018427387904):Cm 95 [.sl (some g) 1 xs.length (ints xs)] (.bool (iB xs),[.undef]):=by
  unfold iB
  rw [← ya]
  refine Cm.go FJ [.undef] 0 (jC g xs.length (ints xs) (0:Nat)) ?_ fun J hJ=>?_
  · refine WP.scan (H:=fun i:Nat=>jC g xs.length (ints xs) (i:Nat)) (vP xs) (fun i r hi hp ih=>WP.go _ ih fun J hJ=>?_) (fun i hi hp=>WP.fin fun J=>?_) (WP.fin fun J=>?_)
    · rw [nu]
      unfold vP at hp
      rw [bm hi,Bool.and_eq_true,decide_eq_true_eq,Bool.not_eq_true',decide_eq_false_iff_not] at hp
      simp (disch:=first | omega | assumption | (simp; omega)) only [aF,aX,aW,ba,bA,aB,aP,BQ,bo,cD,dg,dj,jy,aA,ak,decide_eq_true hp.1,yZ,B5,B6,B7,List.drop_zero,qu,KF,decide_eq_false hp.2,db]
      exact hJ
    · rw [nu]
      unfold vP at hp
      rw [bm hi] at hp
      by_cases hc:1≤xs[i]∧xs[i]≤100000
      · rw [decide_eq_true hc,Bool.true_and,Bool.not_eq_false',decide_eq_true_eq] at hp
        simp (disch:=first | omega | assumption | (simp; omega)) only [aF,aX,aW,ba,bA,aB,aP,BQ,bo,cD,dg,dj,jy,aA,ak,decide_eq_true hc,yZ,B5,B6,B7,List.drop_zero,qu,KF,decide_eq_true hp]
      · simp (disch:=first | omega | assumption) only [aF,aX,aW,ba,bA,aB,aP,bo,cD,dg,dj,jy,aA,ak,decide_eq_false hc]
    · rw [nu]
      simp (disch:=omega) only [aB,bl,vJ]
  · rw [FK]
    exact hJ
theorem wg (g:Bool) (xs:List Int) (hb:xs.length < 4611686018427387904):Cm 102 [.sl (some g) 1 xs.length (ints xs)] (.bool (iB xs),[.undef]):=by
  unfold iB
  rw [← ya]
  refine Cm.go FL [.undef] 0 (jD g xs.length (ints xs) xs.length (0:Nat)) ?_ fun J hJ=>?_
  · refine WP.scan (H:=fun i:Nat=>jD g xs.length (ints xs) xs.length (i:Nat)) (vP xs) (fun i r hi hp ih=>WP.go _ ih fun J hJ=>?_) (fun i hi hp=>WP.fin fun J=>?_) (WP.fin fun J=>?_)
    · rw [nv]
      unfold vP at hp
      rw [bm hi,Bool.and_eq_true,decide_eq_true_eq,Bool.not_eq_true',decide_eq_false_iff_not] at hp
      simp (disch:=first | omega | assumption | (simp; omega)) only [aF,aX,aW,ba,bA,aB,aP,BQ,bo,cD,dg,dj,gG,aA,ak,decide_eq_true hp.1,yZ,B5,B6,B7,List.drop_zero,qu,BZ,decide_eq_false hp.2,db]
      exact hJ
    · rw [nv]
      unfold vP at hp
      rw [bm hi] at hp
      by_cases hc:1≤xs[i]∧xs[i]≤100000
      · rw [decide_eq_true hc,Bool.true_and,Bool.not_eq_false',decide_eq_true_eq] at hp
        simp (disch:=first | omega | assumption | (simp; omega)) only [aF,aX,aW,ba,bA,aB,aP,BQ,bo,cD,dg,dj,gG,aA,ak,decide_eq_true hc,yZ,B5,B6,B7,List.drop_zero,qu,BZ,decide_eq_true hp]
      · simp (disch:=first | omega | assumption) only [aF,aX,aW,ba,bA,aB,aP,bo,cD,dg,dj,gG,aA,ak,decide_eq_false hc]
    · rw [nv]
      simp (disch:=omega) only [aB,bl,vJ]
  · rw [FM]
    exact hJ
def nb (xs:List Int) (i:Nat):Bool:=decide (0≤xs.getD i 0∧xs.getD i 0≤200)
def kM (xs:List Int):Bool:=(List.range xs.length).all (nb xs)&&decide ((xs.length:Int)=8)
theorem Dv (g:Bool) (xs:List Int) (hb:xs.length < 4611686018427387904):Cm 65 [.sl (some g) 1 xs.length (ints xs)] (.bool (kM xs),[.undef]):=by
  unfold kM
  rw [← ya]
  refine Cm.go Dp [.undef] 0 (iT g xs.length (ints xs) (0:Nat)) ?_ fun J hJ=>?_
  · refine WP.scan (H:=fun i:Nat=>iT g xs.length (ints xs) (i:Nat)) (nb xs) (fun i r hi hp ih=>WP.go _ ih fun J hJ=>?_) (fun i hi hp=>WP.fin fun J=>?_) (WP.fin fun J=>?_)
    · rw [mK]
      unfold nb at hp
      rw [bm hi] at hp
      simp (disch:=first | omega | assumption) only [aF,aX,aW,ba,bA,aB,aP,bo,cD,dg,dj,jy,aA,ak,hp,db]
      exact hJ
    · rw [mK]
      unfold nb at hp
      rw [bm hi] at hp
      simp (disch:=first | omega | assumption) only [aF,aX,aW,ba,bA,aB,aP,bo,cD,dg,dj,jy,aA,ak,hp]
    · rw [mK]
      simp (disch:=omega) only [aB,bl,x6]
      rfl
  · rw [Dq]
    exact hJ
theorem JE (a:Int):Cm 101 [.int .i64 a] (.bool (!decide (0≤a∧a≤200)),[.undef]):=by
  refine Cm.fin AB fun J=>?_
  rw [AD]
  simp only [gG,aA,ak,ba]
theorem zQ (a:Int) (t:bO Rz):bc 101 [.int .i64 a] t=feed t [.bool (!decide (0≤a∧a≤200))]:=bq (JE a) (by kernel_rfl) t
def tN (n:Nat) (p:Nat→Bool):Int:=match (List.range n).find? (fun i=>!p i) with | some i=>(i:Int) | none=>-1
theorem IQ (n:Nat) (p:Nat→Bool):decide (0≤tN n p)=!(List.range n).all p:=by
  unfold tN
  rw [Qe _ _ (fun i=>Int.natCast_nonneg i)]
  simp
theorem IS (g:Bool) (xs:List Int) (hb:xs.length < 4611686018427387904):Cm 114 [.sl (some g) 1 xs.length (ints xs),.fn 101 []] (.int .i64 (tN xs.length (nb xs)),[.undef,.undef]):=by
  have e:((.int .i64 (tN xs.length (nb xs)),[.undef,.undef]):Rz)=(match (List.range xs.length).find? (fun i=>!nb xs i) with | some i=>((.int .i64 (i:Int),[.undef,.undef]):Rz) | none=>(.int .i64 (-1),[.undef,.undef])):=by
    unfold tN
    split<;>rfl
  rw [e]
  refine Cm.go oJ [.undef,.undef] 0 (dv g xs.length (ints xs) xs.length (0:Nat)) ?_ fun J hJ=>?_
  · refine WP.find (H:=fun i:Nat=>dv g xs.length (ints xs) xs.length (i:Nat)) _ (fun i r hi hp ih=>WP.go _ ih fun J hJ=>?_) (fun i hi hp=>WP.fin fun J=>?_) (WP.fin fun J=>?_)
    · rw [fq]
      unfold nb at hp
      rw [bm hi] at hp
      simp (disch:=first | omega | assumption) only [aF,aX,aW,ba,bA,aB,aP,bo,cD,dg,dj,zQ,aA,ak,hp,db]
      exact hJ
    · rw [fq]
      unfold nb at hp
      rw [bm hi] at hp
      simp (disch:=first | omega | assumption) only [aF,aX,aW,ba,aB,aP,bo,cD,dg,dj,zQ,aA,ak,hp]
    · rw [fq]
      simp (disch:=omega) only [aB,bl]
  · rw [oK]
    exact hJ
theorem B8 (g:Bool) (xs:List Int) (hb:xs.length < 4611686018427387904):Cm 100 [.sl (some g) 1 xs.length (ints xs),.fn 101 []] (.bool (!(List.range xs.length).all (nb xs)),[.undef,.undef]):=by
  refine Cm.fin mZ fun J=>?_
  rw [m8]
  have:=bq (IS g xs hb) (by kernel_rfl)
  simp only [this,ak,vJ]
  rw [← IQ]
  rfl
theorem Dw (g:Bool) (xs:List Int) (hb:xs.length < 4611686018427387904):Cm 73 [.sl (some g) 1 xs.length (ints xs)] (.bool (kM xs),[.undef]):=by
  refine Cm.fin Dr fun J=>?_
  rw [Dt]
  have:=bq (B8 g xs hb) (by kernel_rfl)
  unfold kM
  by_cases h:(xs.length:Int)=8
  · simp (disch:=first | omega | assumption) only [aB,fx,this,ba]
    rw [decide_eq_true h,Bool.and_true]
    show some (D.bool (!!_),_)=_
    rw [Bool.not_not]
  · simp (disch:=first | omega | assumption) only [aB,dK]
    rw [decide_eq_false h,Bool.and_false]
section
variable (t:bO Rz)
theorem FU (g:Bool) (xs:List Int) (n:Nat) (hn:n=xs.length) (hb:xs.length < 4611686018427387904):bc 95 [.sl (some g) 1 n (ints xs)] t=feed t [.bool (iB xs)]:=by subst hn; exact bq (we g xs hb) (by kernel_rfl) t
theorem FV (g:Bool) (xs:List Int) (n:Nat) (hn:n=xs.length) (hb:xs.length < 4611686018427387904):bc 102 [.sl (some g) 1 n (ints xs)] t=feed t [.bool (iB xs)]:=by subst hn; exact bq (wg g xs hb) (by kernel_rfl) t
theorem uX (g:Bool) (xs:List Int) (n:Nat) (hn:n=xs.length) (hb:xs.length < 4611686018427387904):bc 94 [.sl (some g) 1 n (ints xs)] t=feed t [.bool (fe xs)]:=by subst hn; exact bq (uV g xs hb) (by kernel_rfl) t
theorem Dx (g:Bool) (xs:List Int) (n:Nat) (hn:n=xs.length) (hb:xs.length < 4611686018427387904):bc 105 [.sl (some g) 1 n (ints xs)] t=feed t [.bool (fe xs)]:=by subst hn; exact bq (uW g xs hb) (by kernel_rfl) t
end
end Go.Proofs.Ytockoilcnmljiaa
namespace Go.Proofs.Ytockoilcnmljiaa
set_option maxRecDepth 100000
section
variable (pr:ez) (cv:Cv Rz) (J:Nat→St→Option Rz)
def cT (g0:Bool) (n1:Nat) (c2:List D) (g3:Bool) (n4:Nat) (c5:List D) (i6:Int) (i7:Int):St:=(St.mk [(1,(.sl (some g0) 1 n1 c2)),(2,(.fn 107 [])),(15,(.sl (some g3) 1 n4 c5)),(16,(.int .i64 i6)),(17,(.int .i64 i7))] [] [] 0)
theorem iy:Told cfg Try.prog 108 Try.f108:=⟨by kernel_rfl,Try.func108,by kernel_rfl⟩
theorem iz (g0:Bool) (n0:Nat) (c0:List D) (g1:Bool) (n1:Nat) (c1:List D):bn pr cv J 108 Try.f108 [(.sl (some g0) 1 n0 c0),(.sl (some g1) 1 n1 c1),(.fn 107 [])]=
    (br (br (pr.eq (pr.bu n0) (pr.bu n1)) false true) (some ((.bool false),[.undef,.undef,.undef])) (J 0 (cT g1 n1 c1 g0 n0 c0 (pr.bu n0) 0))):=by kernel_rfl
theorem eO (g0:Bool) (n1:Nat) (c2:List D) (g3:Bool) (n4:Nat) (c5:List D) (i6:Int) (i7:Int):cB pr cv J 108 Try.f108 [.undef,.undef,.undef] 0 (cT g0 n1 c2 g3 n4 c5 i6 i7)=
    (br (pr.lt i7 i6) (br (pr.cb i7 n4) (br (br (pr.eg 1 c5 (pr.idx 0 i7 1)) true false) (br (pr.cb i7 n1) (br (br (pr.eg 1 c2 (pr.idx 0 i7 1)) true false) (cv 107 [(.sl (some (pr.dn c5 (pr.idx 0 i7 1))) 1 (pr.cy c5 (pr.idx 0 i7 1)) (pr.cH c5 (pr.idx 0 i7 1))),(.sl (some (pr.dn c2 (pr.idx 0 i7 1))) 1 (pr.cy c2 (pr.idx 0 i7 1)) (pr.cH c2 (pr.idx 0 i7 1)))] (.bool (fun cm=>(.done (br (br cm false true) (some ((.bool false),[.undef,.undef,.undef])) (J 0 (cT g0 n1 c2 g3 n4 c5 i6 (pr.ar .add .i64 i7 1)))))))) none) none) none) none) (some ((.bool true),[.undef,.undef,.undef]))):=by kernel_rfl
theorem JF:Told cfg Try.prog 131 Try.f131:=⟨by kernel_rfl,Try.func131,by kernel_rfl⟩
theorem JG (a0:Int):bn pr cv J 131 Try.f131 [(.int .i64 a0)]=
    (br (br (pr.lt 8 0) false true) (br (br (pr.lt 16 0) false true) (br (br (pr.lt 24 0) false true) (some ((.sl none 1 4 [(.int .u8 (pr.wrap .u8 a0)),(.int .u8 (pr.wrap .u8 (pr.ar .shr .i64 a0 8))),(.int .u8 (pr.wrap .u8 (pr.ar .shr .i64 a0 16))),(.int .u8 (pr.wrap .u8 (pr.ar .shr .i64 a0 24)))]),[.undef])) none) none) none):=by kernel_rfl
end
theorem all_eq {α:Type} [DecidableEq α] (d:α):∀ (xs ys:List α),xs.length=ys.length→((List.range xs.length).all fun i=>decide (xs.getD i d=ys.getD i d))=decide (xs=ys):=by
  intro xs ys hl
  rw [Bool.eq_iff_iff,List.all_eq_true,decide_eq_true_eq]
  constructor
  · intro h
    apply List.ext_getElem hl
    intro i hi qh
    have:=h i (List.mem_range.2 hi)
    rwa [decide_eq_true_eq,bm hi,bm qh] at this
  · intro h
    subst h
    intro i _
    simp
theorem LW {α:Type} [DecidableEq α] (d:α) (xs ys:List α):(((List.range (min xs.length ys.length)).all fun i=>decide (xs.getD i d=ys.getD i d))&&decide ((xs.length:Int)=(ys.length:Int)))=decide (xs=ys):=by
  by_cases h:xs.length=ys.length
  · rw [← h,Nat.min_self,all_eq d xs ys h]
    simp
  · have:xs≠ys:=fun e=>h (e▸rfl)
    have h':¬ (xs.length:Int)=(ys.length:Int):=by omega
    rw [decide_eq_false h',decide_eq_false this,Bool.and_false]
theorem IT (g h:Bool) (xs ys:List Int) (hx:xs.length < 4611686018427387904) (hy:ys.length < 4611686018427387904):Cm 98 [.sl (some g) 1 xs.length (ints xs),.sl (some h) 1 ys.length (ints ys)] (.bool (decide (xs=ys)),[.undef,.undef]):=by
  rw [← LW 0,← ya]
  refine Cm.go FC [.undef,.undef] 0 (jB g xs.length (ints xs) h ys.length (ints ys) (0:Nat)) ?_ fun J hJ=>?_
  · refine WP.scan (H:=fun i:Nat=>jB g xs.length (ints xs) h ys.length (ints ys) (i:Nat)) _ (fun i r hi hp ih=>WP.go _ ih fun J hJ=>?_) (fun i hi hp=>WP.fin fun J=>?_) (WP.fin fun J=>?_)
    · rw [nt]
      have h1:i < xs.length:=by omega
      have h2:i < ys.length:=by omega
      rw [bm h1,bm h2,decide_eq_true_eq] at hp
      simp (disch:=first | omega | assumption) only [aF,aX,aW,ba,bA,aB,aP,bo,cD,dg,dj,fx,db]
      exact hJ
    · rw [nt]
      have h1:i < xs.length:=by omega
      have h2:i < ys.length:=by omega
      rw [bm h1,bm h2,decide_eq_false_iff_not] at hp
      simp (disch:=first | omega | assumption) only [aF,aX,aW,ba,bA,aB,aP,bo,cD,dg,dj,dK]
    · rw [nt]
      by_cases h1:min xs.length ys.length < xs.length
      · simp (disch:=omega) only [aB,aP,bl,x6]
        rfl
      · simp (disch:=omega) only [aB,bl,x6]
        rfl
  · rw [FD]
    exact hJ
theorem KG (g h:Bool) (xs ys:List Int) (hx:xs.length < 4611686018427387904) (hy:ys.length < 4611686018427387904):Cm 107 [.sl (some g) 1 xs.length (ints xs),.sl (some h) 1 ys.length (ints ys)] (.bool (decide (xs=ys)),[.undef,.undef]):=by
  by_cases hl:xs.length=ys.length
  · rw [← all_eq 0 xs ys hl,← uU]
    refine Cm.go nO [.undef,.undef] 0 (eZ g xs.length (ints xs) h ys.length (ints ys) xs.length (0:Nat)) ?_ fun J hJ=>?_
    · refine WP.scan (H:=fun i:Nat=>eZ g xs.length (ints xs) h ys.length (ints ys) xs.length (i:Nat)) _ (fun i r hi hp ih=>WP.go _ ih fun J hJ=>?_) (fun i hi hp=>WP.fin fun J=>?_) (WP.fin fun J=>?_)
      · rw [iV]
        have h2:i < ys.length:=by omega
        rw [bm hi,bm h2,decide_eq_true_eq] at hp
        simp (disch:=first | omega | assumption) only [aF,aX,aW,ba,bA,aB,aP,bo,cD,dg,dj,fx,db]
        exact hJ
      · rw [iV]
        have h2:i < ys.length:=by omega
        rw [bm hi,bm h2,decide_eq_false_iff_not] at hp
        simp (disch:=first | omega | assumption) only [aF,aX,aW,ba,bA,aB,aP,bo,cD,dg,dj,dK]
      · rw [iV]
        simp (disch:=omega) only [aB,bl]
    · rw [nP]
      simp (disch:=omega) only [aB,fx,ba,bA,aF,aX]
      exact hJ
  · have cA:xs≠ys:=fun e=>hl (e▸rfl)
    refine Cm.fin nO fun J=>?_
    rw [nP,decide_eq_false cA]
    simp (disch:=omega) only [aB,dK,ba,bA,aF,aX]
section
variable (t:bO Rz)
theorem vQ (g h:Bool) (xs ys:List Int) (n k:Nat) (hn:n=xs.length) (hk:k=ys.length) (hx:xs.length < 4611686018427387904) (hy:ys.length < 4611686018427387904):bc 98 [.sl (some g) 1 n (ints xs),.sl (some h) 1 k (ints ys)] t=feed t [.bool (decide (xs=ys))]:=by subst hn hk; exact bq (IT g h xs ys hx hy) (by kernel_rfl) t
theorem Dy (g h:Bool) (xs ys:List Int) (n k:Nat) (hn:n=xs.length) (hk:k=ys.length) (hx:xs.length < 4611686018427387904) (hy:ys.length < 4611686018427387904):bc 107 [.sl (some g) 1 n (ints xs),.sl (some h) 1 k (ints ys)] t=feed t [.bool (decide (xs=ys))]:=by subst hn hk; exact bq (KG g h xs ys hx hy) (by kernel_rfl) t
end
theorem JH (g h:Bool) (xs ys:List (List Int)) (hx:sv xs) (hy:sv ys):Cm 108 [sR (some g) xs,sR (some h) ys,.fn 107 []] (.bool (decide (xs=ys)),[.undef,.undef,.undef]):=by
  by_cases hl:xs.length=ys.length
  · rw [← all_eq [] xs ys hl,← uU]
    refine Cm.go iy [.undef,.undef,.undef] 0 (cT h ys.length (rows (some h) ys) g xs.length (rows (some g) xs) xs.length (0:Nat)) ?_ fun J hJ=>?_
    · refine WP.scan (H:=fun i:Nat=>cT h ys.length (rows (some h) ys) g xs.length (rows (some g) xs) xs.length (i:Nat)) _ (fun i r hi hp ih=>WP.go _ ih fun J hJ=>?_) (fun i hi hp=>WP.fin fun J=>?_) (WP.fin fun J=>?_)
      · have b1:=hx.1
        have h2:i < ys.length:=by omega
        have b2:=hx.2 _ (List.getElem_mem hi)
        have b3:=hy.2 _ (List.getElem_mem h2)
        rw [eO]
        rw [bm hi,bm h2] at hp
        simp (disch:=first | omega | assumption) only [aF,aX,aW,ba,bA,aB,aP,bo,cD,gK,gL,gM,ie,Dy,aA,ak,hp,db]
        exact hJ
      · have b1:=hx.1
        have h2:i < ys.length:=by omega
        have b2:=hx.2 _ (List.getElem_mem hi)
        have b3:=hy.2 _ (List.getElem_mem h2)
        rw [eO]
        rw [bm hi,bm h2] at hp
        simp (disch:=first | omega | assumption) only [aF,aX,aW,ba,bA,aB,aP,bo,cD,gK,gL,gM,ie,Dy,aA,ak,hp]
      · rw [eO]
        simp (disch:=omega) only [aB,bl]
    · rw [iz]
      simp (disch:=omega) only [aB,fx,ba,bA,aF,aX]
      exact hJ
  · have cA:xs≠ys:=fun e=>hl (e▸rfl)
    refine Cm.fin iy fun J=>?_
    rw [iz,decide_eq_false cA]
    simp (disch:=omega) only [aB,dK,ba,bA,aF,aX]
def ll (xss:List (List Int)) (i:Nat):Bool:=fe (xss.getD i [])
def gi (xss:List (List Int)):Bool:=(List.range xss.length).all (ll xss)
theorem IU (g:Bool) (xs:List Int) (hb:xs.length < 4611686018427387904):Cm 104 [.sl (some g) 1 xs.length (ints xs)] (.bool (!fe xs),[.undef]):=by
  refine Cm.fin zb fun J=>?_
  rw [zc]
  simp (disch:=first | rfl | assumption) only [Dx,aA,ak,ba]
theorem yb (g:Bool) (xs:List Int) (n:Nat) (hn:n=xs.length) (hb:xs.length < 4611686018427387904) (t:bO Rz):bc 104 [.sl (some g) 1 n (ints xs)] t=feed t [.bool (!fe xs)]:=by subst hn; exact bq (IU g xs hb) (by kernel_rfl) t
theorem IV (g:Bool) (xss:List (List Int)) (hb:sv xss):Cm 115 [sR (some g) xss,.fn 104 []] (.int .i64 (tN xss.length (ll xss)),[.undef,.undef]):=by
  have e:((.int .i64 (tN xss.length (ll xss)),[.undef,.undef]):Rz)=(match (List.range xss.length).find? (fun i=>!ll xss i) with | some i=>((.int .i64 (i:Int),[.undef,.undef]):Rz) | none=>(.int .i64 (-1),[.undef,.undef])):=by
    unfold tN
    cases (List.range xss.length).find? (fun i=>!ll xss i)<;>rfl
  rw [e]
  have b1:=hb.1
  refine Cm.go oL [.undef,.undef] 0 (dw g xss.length (rows (some g) xss) xss.length (0:Nat)) ?_ fun J hJ=>?_
  · refine WP.find (H:=fun i:Nat=>dw g xss.length (rows (some g) xss) xss.length (i:Nat)) _ (fun i r hi hp ih=>WP.go _ ih fun J hJ=>?_) (fun i hi hp=>WP.fin fun J=>?_) (WP.fin fun J=>?_)
    · have b2:=hb.2 _ (List.getElem_mem hi)
      rw [fr]
      unfold ll at hp
      rw [bm hi] at hp
      simp (disch:=first | omega | assumption) only [aF,aX,aW,ba,aB,aP,bo,cD,gK,gL,gM,ie,yb,aA,ak,hp,db]
      exact hJ
    · have b2:=hb.2 _ (List.getElem_mem hi)
      rw [fr]
      unfold ll at hp
      rw [bm hi] at hp
      simp (disch:=first | omega | assumption) only [aF,aX,aW,ba,aB,aP,bo,cD,gK,gL,gM,ie,yb,aA,ak,hp]
    · rw [fr]
      simp (disch:=omega) only [aB,bl]
  · rw [oM]
    exact hJ
theorem B9 (g:Bool) (xss:List (List Int)) (hb:sv xss):Cm 103 [sR (some g) xss,.fn 104 []] (.bool (!gi xss),[.undef,.undef]):=by
  refine Cm.fin m9 fun J=>?_
  rw [na]
  have:=bq (IV g xss hb) (by kernel_rfl)
  simp only [this,ak,vJ]
  unfold gi
  rw [← IQ]
  rfl
theorem Ca (g:Bool) (xss:List (List Int)) (hb:sv xss):Cm 75 [sR (some g) xss] (.bool (((xss.length:Int)==3)&&gi xss),[.undef]):=by
  refine Cm.fin BW fun J=>?_
  rw [BX]
  have:=bq (B9 g xss hb) (by kernel_rfl)
  simp only [this,aB,x6]
  cases (xss.length:Int)==3 with
  | true=>
    show some (D.bool (br (!gi xss) false true),_)=_
    rw [ba,Bool.not_not]
    rfl
  | false=>rfl
def gb (m:aH):Bool:=gi m.bits&&(iB m.aM&&(decide (0 < (m.aM.length:Int))&&(((m.bits.length:Int)==3)&&(decide (0≤m.last∧m.last≤200)&&!(m.bQ&&m.held)))))
theorem wh (g:Bool) (m:aH) (hb:cO m):Cm 66 [.agg (cd (some g) m)] (.bool (gb m),[.undef]):=by
  unfold gb
  rw [← ya]
  have b0:=hb.aM
  have b1:=hb.bits.1
  refine Cm.go FP [.undef] 0 (jE (0:Nat) g m.aM.length (ints m.aM) g m.bits.length (rows (some g) m.bits) m.dQ m.bQ m.held m.last) ?_ fun J hJ=>?_
  · refine WP.scan (H:=fun i:Nat=>jE (i:Nat) g m.aM.length (ints m.aM) g m.bits.length (rows (some g) m.bits) m.dQ m.bQ m.held m.last) (ll m.bits) (fun i r hi hp ih=>WP.go _ ih fun J hJ=>?_) (fun i hi hp=>WP.fin fun J=>?_) (WP.fin fun J=>?_)
    · have b2:=hb.bits.2 _ (List.getElem_mem hi)
      rw [nw]
      unfold ll at hp
      rw [bm hi] at hp
      simp (disch:=first | omega | assumption) only [aF,aX,aW,ba,bA,aB,aP,bo,cD,gK,gL,gM,ie,uX,aA,ak,hp,db]
      exact hJ
    · have b2:=hb.bits.2 _ (List.getElem_mem hi)
      rw [nw]
      unfold ll at hp
      rw [bm hi] at hp
      simp (disch:=first | omega | assumption) only [aF,aX,aW,ba,bA,aB,aP,bo,cD,gK,gL,gM,ie,uX,aA,ak,hp]
    · rw [nw]
      simp (disch:=first | omega | assumption) only [aB,bl,FU,aA,ak,jy]
      simp only [LP,x6]
      generalize iB m.aM=a
      generalize decide (0 < (m.aM.length:Int))=b
      generalize ((m.bits.length:Int)==3)=c
      generalize decide (0≤m.last∧m.last≤200)=d
      generalize m.bQ=e
      generalize m.held=f
      cases a<;>cases b<;>cases c<;>cases d<;>cases e<;>cases f<;>rfl
  · rw [FQ]
    exact hJ
theorem wi (g:Bool) (m:aH) (hb:cO m):Cm 74 [.agg (cd (some g) m)] (.bool (gb m),[.undef]):=by
  have b0:=hb.aM
  have hm:=bq (Ca g m.bits hb.bits) (by kernel_rfl)
  refine Cm.fin FR fun J=>?_
  rw [FT]
  simp (disch:=first | omega | assumption) only [aB,FV,hm,aA,ak,gG,LP]
  unfold gb
  generalize iB m.aM=a
  generalize decide (0 < (m.aM.length:Int))=b
  generalize ((m.bits.length:Int)==3)=c
  generalize decide (0≤m.last∧m.last≤200)=d
  generalize m.bQ=e
  generalize m.held=f
  generalize gi m.bits=k
  show (br a (br b (br (c&&k) _ _) _) _)=_
  cases a<;>cases b<;>cases c<;>cases d<;>cases e<;>cases f<;>cases k<;>rfl
section
variable (t:bO Rz)
theorem wj (g:Bool) (m:aH) (hb:cO m):bc 66 [.agg (cd (some g) m)] t=feed t [.bool (gb m)]:=bq (wh g m hb) (by kernel_rfl) t
theorem wk (g:Bool) (m:aH) (hb:cO m):bc 74 [.agg (cd (some g) m)] t=feed t [.bool (gb m)]:=bq (wi g m hb) (by kernel_rfl) t
end
def j4 (m k:aH):Bool:=decide (m.aM=k.aM)&&(decide (m.bits=k.bits)&&((m.dQ==k.dQ)&&((m.bQ==k.bQ)&&((m.held==k.held)&&(m.last==k.last)))))
theorem Cb (g h:Bool) (m k:aH) (hm:cO m) (hk:cO k):Cm 77 [.agg (cd (some g) m),.agg (cd (some h) k)] (.bool (j4 m k),[.undef,.undef]):=by
  have b0:=hm.aM
  have b1:=hk.aM
  have he:=bq (JH g h m.bits k.bits hm.bits hk.bits) (by kernel_rfl)
  refine Cm.fin B3 fun J=>?_
  rw [B4]
  simp (disch:=first | omega | assumption) only [Dy,he,aA,ak,re,x6]
  unfold j4
  generalize decide (m.aM=k.aM)=a
  generalize decide (m.bits=k.bits)=b
  generalize (m.dQ==k.dQ)=c
  generalize (m.bQ==k.bQ)=d
  generalize (m.held==k.held)=e
  generalize (m.last==k.last)=f
  show (br a (br b _ _) _)=_
  cases a<;>cases b<;>cases c<;>cases d<;>cases e<;>cases f<;>rfl
theorem Cc (g h:Bool) (m k:aH) (hm:cO m) (hk:cO k):Cm 69 [.agg (cd (some g) m),.agg (cd (some h) k)] (.bool (j4 m k),[.undef,.undef]):=by
  have b0:=hm.aM
  have b1:=hk.aM
  have b2:=hm.bits.1
  have fin:j4 m k=false→(m.bits.length=k.bits.length→(decide (m.aM=k.aM)&&((m.dQ==k.dQ)&&((m.bQ==k.bQ)&&((m.held==k.held)&&(m.last==k.last)))))=false)→Cm 69 [.agg (cd (some g) m),.agg (cd (some h) k)] (.bool (j4 m k),[.undef,.undef]):=by
    intro hs hq
    rw [hs]
    refine Cm.fin tL fun J=>?_
    rw [tM]
    by_cases hl:m.bits.length=k.bits.length
    · have hq:=hq hl
      simp (disch:=first | omega | assumption) only [vQ,aA,ak,re,aB,fx,ba,bA,aF,aX]
      simp only [x6]
      revert hq
      generalize decide (m.aM=k.aM)=a
      generalize (m.dQ==k.dQ)=c
      generalize (m.bQ==k.bQ)=d
      generalize (m.held==k.held)=e
      generalize (m.last==k.last)=f
      cases a<;>cases c<;>cases d<;>cases e<;>cases f<;>first | (intro _; rfl) | (intro hq; exact absurd hq (by decide))
    · simp (disch:=first | omega | assumption) only [aB,dK,ba,bA,aF,aX]
  by_cases hl:m.bits.length=k.bits.length
  · cases hq:(decide (m.aM=k.aM)&&((m.dQ==k.dQ)&&((m.bQ==k.bQ)&&((m.held==k.held)&&(m.last==k.last))))) with
    | false=>
      refine fin ?_ fun _=>hq
      revert hq
      unfold j4
      generalize decide (m.aM=k.aM)=a
      generalize decide (m.bits=k.bits)=b
      generalize ((m.dQ==k.dQ)&&((m.bQ==k.bQ)&&((m.held==k.held)&&(m.last==k.last))))=c
      cases a<;>cases b<;>cases c<;>simp
    | true=>
      have hs:j4 m k=decide (m.bits=k.bits):=by
        revert hq
        unfold j4
        generalize decide (m.aM=k.aM)=a
        generalize decide (m.bits=k.bits)=b
        generalize ((m.dQ==k.dQ)&&((m.bQ==k.bQ)&&((m.held==k.held)&&(m.last==k.last))))=c
        cases a<;>cases b<;>cases c<;>simp
      simp only [Bool.and_eq_true] at hq
      rw [hs,← all_eq [] _ _ hl,← uU]
      refine Cm.go tL [.undef,.undef] 0 (ij (0:Nat) g m.aM.length (ints m.aM) g m.bits.length (rows (some g) m.bits) m.dQ m.bQ m.held m.last h k.aM.length (ints k.aM) h k.bits.length (rows (some h) k.bits) k.dQ k.bQ k.held k.last) ?_ fun J hJ=>?_
      · refine WP.scan (H:=fun i:Nat=>ij (i:Nat) g m.aM.length (ints m.aM) g m.bits.length (rows (some g) m.bits) m.dQ m.bQ m.held m.last h k.aM.length (ints k.aM) h k.bits.length (rows (some h) k.bits) k.dQ k.bQ k.held k.last) _ (fun i r hi hp ih=>WP.go _ ih fun J hJ=>?_) (fun i hi hp=>WP.fin fun J=>?_) (WP.fin fun J=>?_)
        · have h2:i < k.bits.length:=by omega
          have b3:=hm.bits.2 _ (List.getElem_mem hi)
          have b4:=hk.bits.2 _ (List.getElem_mem h2)
          rw [lZ]
          rw [bm hi,bm h2] at hp
          simp (disch:=first | omega | assumption) only [aF,aX,aW,ba,bA,aB,aP,bo,cD,gK,gL,gM,ie,vQ,aA,ak,hp,db]
          exact hJ
        · have h2:i < k.bits.length:=by omega
          have b3:=hm.bits.2 _ (List.getElem_mem hi)
          have b4:=hk.bits.2 _ (List.getElem_mem h2)
          rw [lZ]
          rw [bm hi,bm h2] at hp
          simp (disch:=first | omega | assumption) only [aF,aX,aW,ba,bA,aB,aP,bo,cD,gK,gL,gM,ie,vQ,aA,ak,hp]
        · rw [lZ]
          simp (disch:=omega) only [aB,bl]
      · rw [tM]
        simp (disch:=first | omega | assumption) only [vQ,aA,ak,re,aB,x6,hq.1,hq.2.1,hq.2.2.1,hq.2.2.2.1,hq.2.2.2.2,ba,bA,aF]
        have e1:((m.bits.length:Int)==(k.bits.length:Int))=true:=by simp [hl]
        rw [e1]
        exact hJ
  · refine fin ?_ fun h=>absurd h hl
    have:m.bits≠k.bits:=fun e=>hl (e▸rfl)
    unfold j4
    rw [decide_eq_false this,Bool.false_and,Bool.and_false]
end Go.Proofs.Ytockoilcnmljiaa
namespace Go.Proofs.Ytockoilcnmljiaa
set_option maxRecDepth 100000
section
variable (pr:ez) (cv:Cv Rz) (J:Nat→St→Option Rz)
def jF (i0:Int) (n1:Nat) (c2:List D):St:=(St.mk [(0,(.int .i64 i0)),(3,(.ref 10003 [] 0 none))] [(10003,[(.sl none 1 n1 c2)])] [] 0)
theorem wm:Told cfg Try.prog 127 Try.f127:=⟨by kernel_rfl,Try.func127,by kernel_rfl⟩
theorem wo (a0:Int):bn pr cv J 127 Try.f127 [(.int .i64 a0)]=
    (cv 64 [(.int .i64 a0),(.int .i64 0),(.int .i64 2147483647)] (.bool (fun cm=>(.done (br (br cm false true) (some ((.sl none 1 0 []),[.undef])) (J 0 (jF a0 0 []))))))):=by kernel_rfl
theorem sH (i0:Int) (n1:Nat) (c2:List D):cB pr cv J 127 Try.f127 [.undef] 0 (jF i0 n1 c2)=
    let y1:List D:=[(.int .u8 (pr.wrap .u8 (pr.ar .add .i64 (pr.ar .rem .i64 i0 128) 128)))]
    (br (pr.lt 127 i0) (br (br (pr.eq 128 0) false true) (br (br (pr.flat y1) (pr.fits (n1+1) 1) false) (br (br (pr.eq 128 0) false true) (J 0 (jF (pr.ar .quo .i64 i0 128) (n1+1) (List.append c2 y1))) none) none) none) (br (br (pr.flat [(.int .u8 (pr.wrap .u8 i0))]) (pr.fits (n1+1) 1) false) (some ((.sl none 1 (n1+1) (List.append c2 [(.int .u8 (pr.wrap .u8 i0))])),[.undef])) none)):=by kernel_rfl
def jG (i0:Int) (n1:Nat) (c2:List D):St:=(St.mk [(0,(.int .i64 i0)),(3,(.ref 10003 [] 0 none))] [(10003,[(.sl none 1 n1 c2)])] [] 0)
theorem wq:Told cfg Try.prog 139 Try.f139:=⟨by kernel_rfl,Try.func139,by kernel_rfl⟩
theorem wu (a0:Int):bn pr cv J 139 Try.f139 [(.int .i64 a0)]=
    let y1:Option (D × List D):=(some ((.sl none 1 0 []),[.undef]))
    (br (pr.lt a0 0) y1 (br (pr.lt 2147483647 a0) y1 (J 0 (jG a0 0 [])))):=by kernel_rfl
theorem sJ (i0:Int) (n1:Nat) (c2:List D):cB pr cv J 139 Try.f139 [.undef] 0 (jG i0 n1 c2)=
    let y1:List D:=[(.int .u8 (pr.wrap .u8 (pr.ar .add .i64 (pr.ar .rem .i64 i0 128) 128)))]
    (br (pr.lt 127 i0) (br (br (pr.eq 128 0) false true) (br (br (pr.flat y1) (pr.fits (Nat.succ n1) 1) false) (br (br (pr.eq 128 0) false true) (J 0 (jG (pr.ar .quo .i64 i0 128) (Nat.succ n1) (List.append c2 y1))) none) none) none) (br (br (pr.flat [(.int .u8 (pr.wrap .u8 i0))]) (pr.fits (Nat.succ n1) 1) false) (some ((.sl none 1 (Nat.succ n1) (List.append c2 [(.int .u8 (pr.wrap .u8 i0))])),[.undef])) none)):=by kernel_rfl
def jH (g0:Bool) (n1:Nat) (c2:List D) (i3:Int) (i4:Int) (i5:Int):St:=(St.mk [(0,(.sl (some g0) 1 n1 c2)),(1,(.int .i64 i3)),(7,(.int .i64 i4)),(8,(.int .i64 i5))] [] [] 0)
theorem wv:Told cfg Try.prog 132 Try.f132:=⟨by kernel_rfl,Try.func132,by kernel_rfl⟩
theorem wx (g0:Bool) (n0:Nat) (c0:List D) (a1:Int):bn pr cv J 132 Try.f132 [(.sl (some g0) 1 n0 c0),(.int .i64 a1)]=
    (J 0 (jH g0 n0 c0 a1 0 0)):=by kernel_rfl
theorem iW (g0:Bool) (n1:Nat) (c2:List D) (i3:Int) (i4:Int) (i5:Int):cB pr cv J 132 Try.f132 [.undef,.undef] 0 (jH g0 n1 c2 i3 i4 i5)=
    let y1:Option (D × List D):=(some ((.aQ [(.int .i64 0),(.int .i64 0),(.bool false)]),[.undef,.undef]))
    let y2:Int:=(pr.wrap .i64 (pr.bY c2 (pr.idx 0 (pr.ar .add .i64 i3 i5) 1)))
    let y3:Int:=(pr.ar .or .i64 i4 (pr.ar .shl .i64 (pr.ar .rem .i64 y2 128) (pr.ar .mul .i64 7 i5)))
    let y4:D:=(.int .i64 y3)
    let y5:Option (D × List D):=(br (pr.lt 2147483647 y3) y1 (some ((.aQ [y4,(.int .i64 (pr.ar .add .i64 (pr.ar .add .i64 i3 i5) 1)),(.bool true)]),[.undef,.undef])))
    (br (pr.lt i5 5) (br (pr.lt i3 0) y1 (br (pr.le (pr.ar .sub .i64 (pr.bu n1) i5) i3) y1 (br (pr.cb (pr.ar .add .i64 i3 i5) n1) (br (br (pr.cV .u8 c2 (pr.idx 0 (pr.ar .add .i64 i3 i5) 1)) true false) (br (br (pr.eq 128 0) false true) (br (br (pr.lt (pr.ar .mul .i64 7 i5) 0) false true) (br (pr.lt y2 128) (br (pr.lt 0 i5) (br (pr.eq y2 0) y1 y5) y5) (J 0 (jH g0 n1 c2 i3 y3 (pr.ar .add .i64 i5 1)))) none) none) none) none))) y1):=by kernel_rfl
def lB (g0:Bool) (n1:Nat) (c2:List D) (i3:Int) (i4:Int) (i5:Int) (i6:Int):St:=(St.mk [(0,(.sl (some g0) 1 n1 c2)),(1,(.int .i64 i3)),(7,(.int .i64 i4)),(8,(.int .i64 i5)),(9,(.int .i64 i6))] [] [] 0)
theorem wy:Told cfg Try.prog 138 Try.f138:=⟨by kernel_rfl,Try.func138,by kernel_rfl⟩
theorem wz (g0:Bool) (n0:Nat) (c0:List D) (a1:Int):bn pr cv J 138 Try.f138 [(.sl (some g0) 1 n0 c0),(.int .i64 a1)]=
    (br (pr.lt a1 0) (some ((.aQ [(.int .i64 0),(.int .i64 0),(.bool false)]),[.undef,.undef])) (J 0 (lB g0 n0 c0 a1 0 1 0))):=by kernel_rfl
theorem kN (g0:Bool) (n1:Nat) (c2:List D) (i3:Int) (i4:Int) (i5:Int) (i6:Int):cB pr cv J 138 Try.f138 [.undef,.undef] 0 (lB g0 n1 c2 i3 i4 i5 i6)=
    let y1:Int:=(pr.wrap .i64 (pr.bY c2 (pr.idx 0 (pr.ar .add .i64 i3 i6) 1)))
    let y2:Int:=(pr.ar .add .i64 i4 (pr.ar .mul .i64 (pr.ar .rem .i64 y1 128) i5))
    let y3:Option (D × List D):=(some ((.aQ [(.int .i64 0),(.int .i64 0),(.bool false)]),[.undef,.undef]))
    let y4:D:=(.int .i64 y2)
    let y5:Option (D × List D):=(some ((.aQ [y4,(.int .i64 (pr.ar .add .i64 (pr.ar .add .i64 i3 i6) 1)),(.bool true)]),[.undef,.undef]))
    (br (pr.lt i6 5) (br (pr.lt i3 (pr.ar .sub .i64 (pr.bu n1) i6)) (br (pr.cb (pr.ar .add .i64 i3 i6) n1) (br (br (pr.cV .u8 c2 (pr.idx 0 (pr.ar .add .i64 i3 i6) 1)) true false) (br (br (pr.eq 128 0) false true) (br (pr.le 128 y1) (J 0 (lB g0 n1 c2 i3 y2 (pr.ar .mul .i64 i5 128) (pr.ar .add .i64 i6 1))) (br (pr.lt 2147483647 y2) y3 (br (pr.eq y1 0) (br (pr.lt 0 i6) y3 y5) y5))) none) none) none) y3) y3):=by kernel_rfl
theorem IW:Told cfg Try.prog 119 Try.f119:=⟨by kernel_rfl,Try.func119,by kernel_rfl⟩
theorem IX (a0:Int):bn pr cv J 119 Try.f119 [(.int .i64 a0)]=
    (br (br (pr.lt 8 0) false true) (br (br (pr.lt 16 0) false true) (br (br (pr.lt 24 0) false true) (some ((.sl none 1 4 [(.int .u8 (pr.wrap .u8 (pr.ar .and .i64 a0 255))),(.int .u8 (pr.wrap .u8 (pr.ar .and .i64 (pr.ar .shr .i64 a0 8) 255))),(.int .u8 (pr.wrap .u8 (pr.ar .and .i64 (pr.ar .shr .i64 a0 16) 255))),(.int .u8 (pr.wrap .u8 (pr.ar .and .i64 (pr.ar .shr .i64 a0 24) 255)))]),[.undef])) none) none) none):=by kernel_rfl
end
theorem N9 {a b:Nat} (h:a < 9223372036854775808):U.ar .quo .i64 (a:Int) (b:Int)=((a / b:Nat):Int):=by
  have e:(a:Int).tdiv (b:Int)=((a / b:Nat):Int):=rfl
  have:=Nat.div_le_self a b
  show IntKind.i64.wrap ((a:Int).tdiv (b:Int))=_
  rw [e]
  generalize a / b=q at this
  rw [wrap64 (by omega) (by omega)]
theorem qv {a b:Nat} (h:a+b < 9223372036854775808):U.ar .add .i64 (a:Int) (b:Int)=((a+b:Nat):Int):=by
  rw [LQ (by omega) (by omega)]
  omega
theorem IY {a b:Nat} (h:a*b < 9223372036854775808):U.ar .mul .i64 (a:Int) (b:Int)=((a*b:Nat):Int):=by
  have e:(a:Int)*(b:Int)=((a*b:Nat):Int):=by simp
  show IntKind.i64.wrap ((a:Int)*(b:Int))=_
  rw [e,wrap64 (by omega) (by omega)]
theorem ET {a:Nat} (h:a < 9223372036854775808):U.wrap .i64 (a:Int)=(a:Int):=wrap64 (by omega) (by omega)
theorem GI {a b:Nat} (ha:a < 4611686018427387904) (hb:b < 4611686018427387904):U.ar .or .i64 (a:Int) (b:Int)=((a||| b:Nat):Int):=by
  show IntKind.i64.wrap ((BitVec.ofInt 64 (a:Int)||| BitVec.ofInt 64 (b:Int)).toNat:Int)=_
  have h:(a||| b) < 2 ^ 62:=Nat.or_lt_two_pow (by omega) (by omega)
  have e:(BitVec.ofInt 64 (a:Int)||| BitVec.ofInt 64 (b:Int)).toNat=a||| b:=by
    rw [BitVec.toNat_or,BitVec.ofInt_natCast,BitVec.ofInt_natCast,BitVec.toNat_ofNat,BitVec.toNat_ofNat,Nat.mod_eq_of_lt (by omega),Nat.mod_eq_of_lt (by omega)]
  rw [e,wrap64 (by omega) (by omega)]
theorem Vu {a b:Nat} (ha:a < 4611686018427387904) (hb:b < 4611686018427387904):U.ar .and .i64 (a:Int) (b:Int)=((a&&& b:Nat):Int):=by
  show IntKind.i64.wrap ((BitVec.ofInt 64 (a:Int)&&& BitVec.ofInt 64 (b:Int)).toNat:Int)=_
  have h:(a&&& b)≤b:=Nat.and_le_right
  have e:(BitVec.ofInt 64 (a:Int)&&& BitVec.ofInt 64 (b:Int)).toNat=a&&& b:=by
    rw [BitVec.toNat_and,BitVec.ofInt_natCast,BitVec.ofInt_natCast,BitVec.toNat_ofNat,BitVec.toNat_ofNat,Nat.mod_eq_of_lt (by omega),Nat.mod_eq_of_lt (by omega)]
  rw [e,wrap64 (by omega) (by omega)]
theorem sL {a k:Nat} (hk:k≤64) (h:a*2 ^ k < 9223372036854775808):U.ar .shl .i64 (a:Int) (k:Int)=((a*2 ^ k:Nat):Int):=by
  show IntKind.i64.wrap ((a:Int)*2 ^ (min ((k:Int).toNat) 64))=_
  have e:min ((k:Int).toNat) 64=k:=by omega
  have e2:(a:Int)*2 ^ k=((a*2 ^ k:Nat):Int):=by simp
  rw [e,e2,wrap64 (by omega) (by omega)]
theorem uY (a:Nat) {k:Nat} (hk:k≤64):U.ar .shr .i64 (a:Int) (k:Int)=((a / 2 ^ k:Nat):Int):=by
  show (a:Int).fdiv (2 ^ (min ((k:Int).toNat) 64))=_
  have e:min ((k:Int).toNat) 64=k:=by omega
  have e2:((2:Int) ^ k)=((2 ^ k:Nat):Int):=by simp
  rw [e,e2,← Int.ofNat_fdiv]
theorem Cd {a x k:Nat} (h:a < 2 ^ k):a||| x*2 ^ k=a+x*2 ^ k:=by
  rw [Nat.or_comm,Nat.mul_comm x,← Nat.two_pow_add_eq_or_of_lt h,Nat.add_comm]
theorem pF (x:Nat):D.int .u8 (U.wrap .u8 (x:Int))=ec (UInt8.ofNat x):=by
  show D.int .u8 (IntKind.u8.wrap (x:Int))=_
  simp only [ec,IntKind.wrap,IntKind.bits,IntKind.signed]
  simp
theorem hD {R:Type} {x y:R} (xs:List UInt8):br (U.flat (bytes xs)) x y=x:=by
  have:U.flat (bytes xs)=true:=by
    show (bytes xs).all jh=true
    rw [List.all_eq_true]
    intro d hd
    obtain ⟨a,_,rfl⟩:=List.mem_map.1 hd
    rfl
  rw [this,aF]
theorem Ce (x:UInt8):[ec x]=bytes [x]:=rfl
theorem fJ (xs ys:List UInt8):List.append (bytes xs) (bytes ys)=bytes (xs++ys):=by simp [bytes]
def fY (n:Nat):List UInt8:=if h:n < 128 then [UInt8.ofNat n] else UInt8.ofNat (n % 128+128)::fY (n / 128)
termination_by n
decreasing_by omega
theorem pQ:∀ (k n:Nat),n < 128 ^ (k+1)→(fY n).length≤k+1
  | 0,n,h=>by
    rw [fY,dif_pos (by omega)]
    simp
  | k+1,n,h=>by
    rw [fY]
    split
    · simp
    · have:n / 128 < 128 ^ (k+1):=by
        apply Nat.div_lt_of_lt_mul
        rw [Nat.pow_succ] at h
        omega
      have:=pQ k (n / 128) this
      simp only [List.length_cons]
      omega
def cQ (a:Int):List UInt8:=if 0≤a∧a≤2147483647 then fY a.toNat else []
theorem eP (a:Int):(cQ a).length≤5:=by
  unfold cQ
  split
  · exact pQ 4 _ (by omega)
  · simp
theorem wA:∀ (k n:Nat) (acc:List UInt8),n < 128 ^ (k+1)→n < 2147483648→acc.length+(fY n).length < 1000000→WP 127 Try.f127 [.undef] 0 (jF (n:Int) acc.length (bytes acc)) (.sl none 1 (acc++fY n).length (bytes (acc++fY n)),[.undef])
  | k,n,acc,hk,hn,hl=>by
    by_cases h:n < 128
    · refine WP.fin fun J=>?_
      rw [sH,fY,dif_pos h]
      rw [fY,dif_pos h] at hl
      simp only [List.length_singleton] at hl
      simp (disch:=omega) only [bl,pF,Ce,hD,eK,aF,fJ,aW,yW]
      simp
    · cases k with
      | zero=>omega
      | succ k=>
        have e:acc++fY n=(acc++[UInt8.ofNat (n % 128+128)])++fY (n / 128):=by
          conv=>lhs; rw [fY,dif_neg h]
          simp
        have hlen:(fY n).length=(fY (n / 128)).length+1:=by
          conv=>lhs; rw [fY,dif_neg h]
          simp
        have hd:n / 128 < 128 ^ (k+1):=by
          apply Nat.div_lt_of_lt_mul
          rw [Nat.pow_succ] at hk
          omega
        have ih:=wA k (n / 128) (acc++[UInt8.ofNat (n % 128+128)]) hd (by omega) (by simp only [List.length_append,List.length_singleton]; omega)
        rw [e]
        refine WP.go _ ih fun J hJ=>?_
        rw [sH]
        have r1:U.ar .rem .i64 (n:Int) 128=((n % 128:Nat):Int):=rfl
        have r2:U.ar .add .i64 ((n % 128:Nat):Int) 128=((n % 128+128:Nat):Int):=qv (b:=128) (by omega)
        have r3:U.ar .quo .i64 (n:Int) 128=((n / 128:Nat):Int):=N9 (b:=128) (by omega)
        simp (disch:=omega) only [aP,dK,ba,bA,aF,aX,r1,r2,r3,pF,Ce,hD,eK,fJ]
        have e2:(acc++[UInt8.ofNat (n % 128+128)]).length=acc.length+1:=by simp
        rw [e2] at hJ
        exact hJ
theorem FW (a:Int):Cm 127 [.int .i64 a] (.sl none 1 (cQ a).length (bytes (cQ a)),[.undef]):=by
  by_cases h:0≤a∧a≤2147483647
  · obtain ⟨n,rfl⟩:∃ n:Nat,a=n:=⟨a.toNat,by omega⟩
    have e:cQ (n:Int)=fY n:=by unfold cQ; rw [if_pos h]; rfl
    rw [e]
    have hl:=pQ 4 n (by omega)
    refine Cm.go wm [.undef] 0 (jF (n:Int) 0 []) (wA 4 n [] (by omega) (by omega) (by simp; omega)) fun J hJ=>?_
    rw [wo]
    simp only [jy,aA,ak,decide_eq_true h,ba,bA,aF,aX]
    exact hJ
  · have e:cQ a=[]:=by unfold cQ; rw [if_neg h]
    rw [e]
    refine Cm.fin wm fun J=>?_
    rw [wo]
    simp only [jy,aA,ak,decide_eq_false h,ba,bA,aF,aX]
    rfl
theorem wB:∀ (k n:Nat) (acc:List UInt8),n < 128 ^ (k+1)→n < 2147483648→acc.length+(fY n).length < 1000000→WP 139 Try.f139 [.undef] 0 (jG (n:Int) acc.length (bytes acc)) (.sl none 1 (acc++fY n).length (bytes (acc++fY n)),[.undef])
  | k,n,acc,hk,hn,hl=>by
    by_cases h:n < 128
    · refine WP.fin fun J=>?_
      rw [sJ,fY,dif_pos h]
      rw [fY,dif_pos h] at hl
      simp only [List.length_singleton] at hl
      simp (disch:=omega) only [bl,pF,Ce,hD,eK,aF,fJ,aW,yW]
      simp
    · cases k with
      | zero=>omega
      | succ k=>
        have e:acc++fY n=(acc++[UInt8.ofNat (n % 128+128)])++fY (n / 128):=by
          conv=>lhs; rw [fY,dif_neg h]
          simp
        have hlen:(fY n).length=(fY (n / 128)).length+1:=by
          conv=>lhs; rw [fY,dif_neg h]
          simp
        have hd:n / 128 < 128 ^ (k+1):=by
          apply Nat.div_lt_of_lt_mul
          rw [Nat.pow_succ] at hk
          omega
        have ih:=wB k (n / 128) (acc++[UInt8.ofNat (n % 128+128)]) hd (by omega) (by simp only [List.length_append,List.length_singleton]; omega)
        rw [e]
        refine WP.go _ ih fun J hJ=>?_
        rw [sJ]
        have r1:U.ar .rem .i64 (n:Int) 128=((n % 128:Nat):Int):=rfl
        have r2:U.ar .add .i64 ((n % 128:Nat):Int) 128=((n % 128+128:Nat):Int):=qv (b:=128) (by omega)
        have r3:U.ar .quo .i64 (n:Int) 128=((n / 128:Nat):Int):=N9 (b:=128) (by omega)
        simp (disch:=omega) only [aP,dK,ba,bA,aF,aX,r1,r2,r3,pF,Ce,hD,eK,fJ]
        have e2:(acc++[UInt8.ofNat (n % 128+128)]).length=acc.length+1:=by simp
        rw [e2] at hJ
        exact hJ
theorem FX (a:Int):Cm 139 [.int .i64 a] (.sl none 1 (cQ a).length (bytes (cQ a)),[.undef]):=by
  by_cases h:0≤a∧a≤2147483647
  · obtain ⟨n,rfl⟩:∃ n:Nat,a=n:=⟨a.toNat,by omega⟩
    have e:cQ (n:Int)=fY n:=by unfold cQ; rw [if_pos h]; rfl
    rw [e]
    have hl:=pQ 4 n (by omega)
    refine Cm.go wq [.undef] 0 (jG (n:Int) 0 []) (wB 4 n [] (by omega) (by omega) (by simp; omega)) fun J hJ=>?_
    rw [wu]
    simp (disch:=omega) only [bl]
    exact hJ
  · have e:cQ a=[]:=by unfold cQ; rw [if_neg h]
    rw [e]
    refine Cm.fin wq fun J=>?_
    rw [wu]
    by_cases h0:a < 0
    · simp (disch:=omega) only [aP]
      rfl
    · simp (disch:=omega) only [bl,aP]
      rfl
section
variable (t:bO Rz)
theorem kW (a:Int):bc 127 [.int .i64 a] t=feed t [.sl none 1 (cQ a).length (bytes (cQ a))]:=bq (FW a) (by kernel_rfl) t
theorem FY (a:Int):bc 139 [.int .i64 a] t=feed t [.sl none 1 (cQ a).length (bytes (cQ a))]:=bq (FX a) (by kernel_rfl) t
end
def oN (a:Nat):List UInt8:=[UInt8.ofNat a,UInt8.ofNat (a / 256),UInt8.ofNat (a / 65536),UInt8.ofNat (a / 16777216)]
theorem Vv (a:Nat) (h:a < 4611686018427387904):Cm 131 [.int .i64 (a:Int)] (.sl none 1 4 (bytes (oN a)),[.undef]):=by
  refine Cm.fin JF fun J=>?_
  rw [JG]
  have r1:U.ar .shr .i64 (a:Int) 8=((a / 256:Nat):Int):=uY a (k:=8) (by omega)
  have r2:U.ar .shr .i64 (a:Int) 16=((a / 65536:Nat):Int):=uY a (k:=16) (by omega)
  have r3:U.ar .shr .i64 (a:Int) 24=((a / 16777216:Nat):Int):=uY a (k:=24) (by omega)
  simp (disch:=omega) only [bl,ba,bA,aF,aX,r1,r2,r3,pF]
  rfl
theorem Sn (x:Nat):UInt8.ofNat (x&&& 255)=UInt8.ofNat x:=by
  apply UInt8.toNat_inj.1
  have:x&&& 255=x % 256:=Nat.and_two_pow_sub_one_eq_mod x 8
  rw [this]
  simp
theorem So (a:Nat) (h:a < 4611686018427387904):Cm 119 [.int .i64 (a:Int)] (.sl none 1 4 (bytes (oN a)),[.undef]):=by
  refine Cm.fin IW fun J=>?_
  rw [IX]
  have r1:U.ar .shr .i64 (a:Int) 8=((a / 256:Nat):Int):=uY a (k:=8) (by omega)
  have r2:U.ar .shr .i64 (a:Int) 16=((a / 65536:Nat):Int):=uY a (k:=16) (by omega)
  have r3:U.ar .shr .i64 (a:Int) 24=((a / 16777216:Nat):Int):=uY a (k:=24) (by omega)
  have q:∀ x:Nat,x < 4611686018427387904→U.ar .and .i64 (x:Int) 255=((x&&& 255:Nat):Int):=fun x hx=>Vu (b:=255) hx (by omega)
  simp (disch:=omega) only [bl,ba,bA,aF,aX,r1,r2,r3,q,pF,Sn]
  rfl
def j5:Int × Int × Bool:=(0,0,false)
def gO (b:List UInt8) (p:Nat):Nat→Nat→Nat→Int × Int × Bool
  | 0,_,_=>j5
  | k+1,i,acc=>
    if h:p+i < b.length then
      if 128≤b[p+i].toNat then gO b p k (i+1) (acc+b[p+i].toNat % 128*128 ^ i)
      else if 2147483647 < acc+b[p+i].toNat % 128*128 ^ i∨(b[p+i].toNat=0∧0 < i) then j5
      else (((acc+b[p+i].toNat % 128*128 ^ i:Nat):Int),((p+i+1:Nat):Int),true)
    else j5
def gk (b:List UInt8) (a:Int):Int × Int × Bool:=if a < 0 then j5 else gO b a.toNat 5 0 0
abbrev GJ (x:Int × Int × Bool):Rz:=(.aQ [.int .i64 x.1,.int .i64 x.2.1,.bool x.2.2],[.undef,.undef])
theorem Cf (i:Nat):128 ^ i=2 ^ (7*i):=by rw [Nat.pow_mul]
theorem wC (g:Bool) (b:List UInt8) (p:Nat) (hb:b.length < 4611686018427387904):∀ (k i acc:Nat),i+k=5→acc < 128 ^ i→WP 138 Try.f138 [.undef,.undef] 0 (lB g b.length (bytes b) (p:Int) (acc:Int) ((128 ^ i:Nat):Int) (i:Int)) (GJ (gO b p k i acc))
  | 0,i,acc,hi,ha=>by
    obtain rfl:i=5:=by omega
    refine WP.fin fun J=>?_
    rw [kN]
    simp (disch:=omega) only [bl]
    rfl
  | k+1,i,acc,hi,ha=>by
    have hpw:128 ^ i≤268435456:=by
      have:128 ^ i≤128 ^ 4:=Nat.pow_le_pow_right (by omega) (by omega)
      omega
    have hs:U.ar .sub .i64 (U.bu b.length) (i:Int)=(b.length:Int) - (i:Int):=kJ (by simp only [aB]; omega) (by simp only [aB]; omega)
    by_cases h:p+i < b.length
    · have hd:b[p+i].toNat < 256:=b[p+i].toNat_lt
      have hm:b[p+i].toNat % 128 < 128:=Nat.mod_lt _ (by omega)
      have hx:b[p+i].toNat % 128*128 ^ i≤127*128 ^ i:=Nat.mul_le_mul_right _ (by omega)
      have r0:U.ar .add .i64 (p:Int) (i:Int)=((p+i:Nat):Int):=qv (by omega)
      have r1:U.bY (bytes b) (p+i)=(b[p+i].toNat:Int):=uD h
      have r2:U.wrap .i64 (b[p+i].toNat:Int)=(b[p+i].toNat:Int):=ET (by omega)
      have r3:U.ar .rem .i64 (b[p+i].toNat:Int) 128=((b[p+i].toNat % 128:Nat):Int):=rfl
      have r4:U.ar .mul .i64 ((b[p+i].toNat % 128:Nat):Int) ((128 ^ i:Nat):Int)=((b[p+i].toNat % 128*128 ^ i:Nat):Int):=IY (by omega)
      have r5:U.ar .add .i64 (acc:Int) ((b[p+i].toNat % 128*128 ^ i:Nat):Int)=((acc+b[p+i].toNat % 128*128 ^ i:Nat):Int):=qv (by omega)
      by_cases hc:128≤b[p+i].toNat
      · have e:gO b p (k+1) i acc=gO b p k (i+1) (acc+b[p+i].toNat % 128*128 ^ i):=by
          rw [gO,dif_pos h,if_pos hc]
        rw [e]
        have ih:=wC g b p hb k (i+1) (acc+b[p+i].toNat % 128*128 ^ i) (by omega) (by rw [Nat.pow_succ]; omega)
        refine WP.go _ ih fun J hJ=>?_
        rw [kN]
        have r6:U.ar .mul .i64 ((128 ^ i:Nat):Int) 128=((128 ^ i*128:Nat):Int):=IY (b:=128) (by omega)
        simp (disch:=first | omega | assumption) only [hs,r0,cD,r1,r2,r3,r4,r5,aP,bo,ld,dK,aW,ba,bA,aF,aX,yX,r6,db]
        rw [← Nat.pow_succ]
        exact hJ
      · have r7:U.ar .add .i64 ((p+i:Nat):Int) 1=((p+i+1:Nat):Int):=db (by omega)
        refine WP.fin fun J=>?_
        rw [kN,gO,dif_pos h,if_neg hc]
        simp (disch:=first | omega | assumption) only [hs,r0,cD,r1,r2,r3,r4,r5,aP,bo,ld,dK,aW,ba,bA,aF,aX,mW,r7]
        by_cases h1:2147483647 < acc+b[p+i].toNat % 128*128 ^ i
        · rw [if_pos (Or.inl h1),aP (by omega)]
          rfl
        · rw [bl (by omega)]
          by_cases h2:b[p+i].toNat=0
          · rw [fx (by omega)]
            by_cases h3:0 < i
            · rw [if_pos (Or.inr ⟨h2,h3⟩),aP (by omega)]
              rfl
            · rw [if_neg (by omega),bl (by omega)]
          · rw [if_neg (by omega),dK (by omega)]
    · refine WP.fin fun J=>?_
      rw [kN,gO,dif_neg h]
      simp (disch:=omega) only [hs,aP,bl]
      rfl
theorem wD (g:Bool) (b:List UInt8) (p:Nat) (hb:b.length < 4611686018427387904):∀ (k i acc:Nat),i+k=5→acc < 128 ^ i→WP 132 Try.f132 [.undef,.undef] 0 (jH g b.length (bytes b) (p:Int) (acc:Int) (i:Int)) (GJ (gO b p k i acc))
  | 0,i,acc,hi,ha=>by
    obtain rfl:i=5:=by omega
    refine WP.fin fun J=>?_
    rw [iW]
    simp (disch:=omega) only [bl]
    rfl
  | k+1,i,acc,hi,ha=>by
    have hpw:128 ^ i≤268435456:=by
      have:128 ^ i≤128 ^ 4:=Nat.pow_le_pow_right (by omega) (by omega)
      omega
    have hs:U.ar .sub .i64 (U.bu b.length) (i:Int)=(b.length:Int) - (i:Int):=kJ (by simp only [aB]; omega) (by simp only [aB]; omega)
    by_cases h:p+i < b.length
    · have hd:b[p+i].toNat < 256:=b[p+i].toNat_lt
      have hm:b[p+i].toNat % 128 < 128:=Nat.mod_lt _ (by omega)
      have hx:b[p+i].toNat % 128*128 ^ i≤127*128 ^ i:=Nat.mul_le_mul_right _ (by omega)
      have r0:U.ar .add .i64 (p:Int) (i:Int)=((p+i:Nat):Int):=qv (by omega)
      have r1:U.bY (bytes b) (p+i)=(b[p+i].toNat:Int):=uD h
      have r2:U.wrap .i64 (b[p+i].toNat:Int)=(b[p+i].toNat:Int):=ET (by omega)
      have r3:U.ar .rem .i64 (b[p+i].toNat:Int) 128=((b[p+i].toNat % 128:Nat):Int):=rfl
      have r4:U.ar .mul .i64 7 (i:Int)=((7*i:Nat):Int):=IY (a:=7) (by omega)
      have r5:U.ar .shl .i64 ((b[p+i].toNat % 128:Nat):Int) ((7*i:Nat):Int)=((b[p+i].toNat % 128*128 ^ i:Nat):Int):=by
        rw [Cf]
        exact sL (by omega) (by rw [← Cf]; omega)
      have r6:U.ar .or .i64 (acc:Int) ((b[p+i].toNat % 128*128 ^ i:Nat):Int)=((acc+b[p+i].toNat % 128*128 ^ i:Nat):Int):=by
        rw [GI (by omega) (by omega),Cf,Cd (by rw [← Cf]; exact ha)]
      by_cases hc:128≤b[p+i].toNat
      · have e:gO b p (k+1) i acc=gO b p k (i+1) (acc+b[p+i].toNat % 128*128 ^ i):=by
          rw [gO,dif_pos h,if_pos hc]
        rw [e]
        have ih:=wD g b p hb k (i+1) (acc+b[p+i].toNat % 128*128 ^ i) (by omega) (by rw [Nat.pow_succ]; omega)
        refine WP.go _ ih fun J hJ=>?_
        rw [iW]
        simp (disch:=first | omega | assumption) only [hs,r0,cD,r1,r2,r3,r4,r5,r6,aP,bl,mW,bo,ld,dK,aW,ba,bA,aF,aX,db]
        exact hJ
      · have r7:U.ar .add .i64 ((p+i:Nat):Int) 1=((p+i+1:Nat):Int):=db (by omega)
        refine WP.fin fun J=>?_
        rw [iW,gO,dif_pos h,if_neg hc]
        have J6:(b[p+i].toNat:Int) < 128:=by omega
        by_cases h1:2147483647 < acc+b[p+i].toNat % 128*128 ^ i
        · have mN:(2147483647:Int) < ((acc+b[p+i].toNat % 128*128 ^ i:Nat):Int):=by omega
          rw [if_pos (Or.inl h1)]
          simp (disch:=first | omega | assumption) only [hs,r0,cD,r1,r2,r3,r4,r5,r6,aP J6,aP mN,bl,mW,bo,ld,dK,aW,ba,bA,aF,aX,r7,yW]
          rfl
        · have mN:((acc+b[p+i].toNat % 128*128 ^ i:Nat):Int)≤2147483647:=by omega
          have h0:(i:Int) < 5:=by omega
          by_cases h2:b[p+i].toNat=0
          · have MW:(b[p+i].toNat:Int)=0:=by omega
            by_cases h3:0 < i
            · have Hm:(0:Int) < (i:Int):=by omega
              rw [if_pos (Or.inr ⟨h2,h3⟩)]
              simp (disch:=first | omega | assumption) only [hs,r0,cD,r1,r2,r3,r4,r5,r6,aP h0,aP J6,aP Hm,fx MW,bl,mW,bo,ld,dK,aW,ba,bA,aF,aX,r7]
              rfl
            · have Hm:(i:Int)≤0:=by omega
              rw [if_neg (by omega)]
              simp (disch:=first | omega | assumption) only [hs,r0,cD,r1,r2,r3,r4,r5,r6,aP h0,aP J6,bl Hm,bl mN,bl,mW,bo,ld,dK,aW,ba,bA,aF,aX,r7]
          · have MW:(b[p+i].toNat:Int)≠0:=by omega
            rw [if_neg (by omega)]
            simp (disch:=first | omega | assumption) only [hs,r0,cD,r1,r2,r3,r4,r5,r6,aP h0,aP J6,dK MW,bl mN,bl,mW,bo,ld,dK,aW,ba,bA,aF,aX,r7,yW]
    · refine WP.fin fun J=>?_
      rw [iW,gO,dif_neg h]
      simp (disch:=omega) only [hs,aP,bl,yX]
      rfl
theorem FZ (g:Bool) (b:List UInt8) (a:Int) (hb:b.length < 4611686018427387904):Cm 138 [.sl (some g) 1 b.length (bytes b),.int .i64 a] (GJ (gk b a)):=by
  unfold gk
  by_cases h:a < 0
  · rw [if_pos h]
    refine Cm.fin wy fun J=>?_
    rw [wz]
    simp (disch:=omega) only [aP]
    rfl
  · rw [if_neg h]
    obtain ⟨p,rfl⟩:∃ n:Nat,a=n:=⟨a.toNat,by omega⟩
    refine Cm.go wy [.undef,.undef] 0 _ (wC g b p hb 5 0 0 rfl (by omega)) fun J hJ=>?_
    rw [wz]
    simp (disch:=omega) only [bl]
    exact hJ
theorem F0 (g:Bool) (b:List UInt8) (a:Int) (hb:b.length < 4611686018427387904):Cm 132 [.sl (some g) 1 b.length (bytes b),.int .i64 a] (GJ (gk b a)):=by
  unfold gk
  by_cases h:a < 0
  · rw [if_pos h]
    refine Cm.go wv [.undef,.undef] 0 (jH g b.length (bytes b) a 0 0) (WP.fin fun J=>?_) fun J hJ=>?_
    · rw [iW]
      simp (disch:=omega) only [aP]
      rfl
    · rw [wx]
      exact hJ
  · rw [if_neg h]
    obtain ⟨p,rfl⟩:∃ n:Nat,a=n:=⟨a.toNat,by omega⟩
    refine Cm.go wv [.undef,.undef] 0 _ (wD g b p hb 5 0 0 rfl (by omega)) fun J hJ=>?_
    rw [wx]
    exact hJ
section
variable (t:bO Rz)
theorem F1 (g:Bool) (b:List UInt8) (a:Int) (hb:b.length < 4611686018427387904):bc 138 [.sl (some g) 1 b.length (bytes b),.int .i64 a] t=feed t [.int .i64 (gk b a).1,.int .i64 (gk b a).2.1,.bool (gk b a).2.2]:=bq (FZ g b a hb) (by kernel_rfl) t
theorem F2 (g:Bool) (b:List UInt8) (a:Int) (hb:b.length < 4611686018427387904):bc 132 [.sl (some g) 1 b.length (bytes b),.int .i64 a] t=feed t [.int .i64 (gk b a).1,.int .i64 (gk b a).2.1,.bool (gk b a).2.2]:=bq (F0 g b a hb) (by kernel_rfl) t
end
end Go.Proofs.Ytockoilcnmljiaa
namespace Go.Proofs.Ytockoilcnmljiaa
set_option maxRecDepth 100000
section
variable (pr:ez) (cv:Cv Rz) (J:Nat→St→Option Rz)
theorem IZ:Told cfg Try.prog 124 Try.f124:=⟨by kernel_rfl,Try.func124,by kernel_rfl⟩
theorem I0 (n0:Nat) (c0:List D) (a1:Int) (a2:Bool):bn pr cv J 124 Try.f124 [(.aJ [(.sl (some false) 1 n0 c0),(.int .i64 a1),(.bool a2)])]=
    let y1:Option (D × List D):=(some ((.int .i64 0),[(.aJ [(.sl (some false) 1 n0 c0),(.int .i64 a1),(.bool false)])]))
    (cv 132 [(.sl (some false) 1 n0 c0),(.int .i64 a1)] (.int (fun gF=>(.int (fun lX=>(.bool (fun ix=>(.done (br (br ix false true) y1 (br (br a2 false true) y1 (some ((.int .i64 gF),[(.aJ [(.sl (some false) 1 n0 c0),(.int .i64 lX),(.bool a2)])])))))))))))):=by kernel_rfl
theorem zd:Told cfg Try.prog 134 Try.f134:=⟨by kernel_rfl,Try.func134,by kernel_rfl⟩
theorem ze (n0:Nat) (c0:List D) (a1:Int) (a2:Bool):bn pr cv J 134 Try.f134 [(.aJ [(.sl (some false) 1 n0 c0),(.int .i64 a1),(.bool a2)])]=
    (br (br a2 false true) (some ((.int .i64 0),[(.aJ [(.sl (some false) 1 n0 c0),(.int .i64 a1),(.bool a2)])])) (cv 138 [(.sl (some false) 1 n0 c0),(.int .i64 a1)] (.int (fun gF=>(.int (fun lX=>(.bool (fun ix=>(.done (some ((.int .i64 gF),[(.aJ [(.sl (some false) 1 n0 c0),(.int .i64 lX),(.bool ix)])]))))))))))):=by kernel_rfl
def lC (i0:Int) (i1:Int) (n2:Nat) (c3:List D) (i4:Int) (b5:Bool) (n6:Nat) (c7:List D):St:=(St.mk [(0,(.ptr 28 [] 0)),(3,(.ref 10003 [] 0 none)),(4,(.int .i64 i0)),(5,(.int .i64 i1))] [(28,[(.sl (some false) 1 n2 c3),(.int .i64 i4),(.bool b5)]),(10003,[(.sl none 1 n6 c7)])] [] 0)
theorem F3:Told cfg Try.prog 123 Try.f123:=⟨by kernel_rfl,Try.func123,by kernel_rfl⟩
theorem F4 (n0:Nat) (c0:List D) (a1:Int) (a2:Bool):bn pr cv J 123 Try.f123 [(.aJ [(.sl (some false) 1 n0 c0),(.int .i64 a1),(.bool a2)])]=
    (br (br (br (pr.nl c0) true false) true false) (cv 124 [(.aJ [(.sl (some false) 1 n0 c0),(.int .i64 a1),(.bool a2)])] (.int (fun gF=>(.iH (fun jw=>(fun qq=>(fun kB=>(.int (fun nN=>(.bool (fun sr=>(.done (br (br (br (pr.nl kB) true false) true false) (J 0 (lC gF 0 qq kB nN sr 0 [])) none))))))))))))) none):=by kernel_rfl
theorem nx (i0:Int) (i1:Int) (n2:Nat) (c3:List D) (i4:Int) (b5:Bool) (n6:Nat) (c7:List D):cB pr cv J 123 Try.f123 [(.aJ [])] 0 (lC i0 i1 n2 c3 i4 b5 n6 c7)=
    let y1:List D:=[(.aJ [(.sl (some false) 1 n2 c3),(.int .i64 i4),(.bool b5)])]
    let y2:Option (D × List D):=(some ((.sl none 1 n6 c7),y1))
    (br (pr.lt i1 i0) (br b5 (br (br (br (pr.nl c3) true false) true false) (cv 124 y1 (.int (fun gF=>(.iH (fun jw=>(fun qq=>(fun kB=>(.int (fun nN=>(.bool (fun sr=>(.done (br (br (br (pr.nl kB) true false) true false) (br (br (pr.flat [(.int .i64 gF)]) (pr.fits (n6+1) 8) false) (J 0 (lC i0 (pr.ar .add .i64 i1 1) qq kB nN sr (n6+1) (List.append c7 [(.int .i64 gF)]))) none) none))))))))))))) none) y2) y2):=by kernel_rfl
def iu (i0:Int) (i1:Int) (n2:Nat) (c3:List D) (i4:Int) (b5:Bool) (n6:Nat) (c7:List D):St:=(St.mk [(0,(.ptr 28 [] 0)),(3,(.ref 10003 [] 0 none)),(4,(.int .i64 i0)),(5,(.int .i64 i1))] [(28,[(.sl (some false) 1 n2 c3),(.int .i64 i4),(.bool b5)]),(10003,[(.sl none 1 n6 c7)])] [] 0)
theorem yc:Told cfg Try.prog 133 Try.f133:=⟨by kernel_rfl,Try.func133,by kernel_rfl⟩
theorem yd (n0:Nat) (c0:List D) (a1:Int) (a2:Bool):bn pr cv J 133 Try.f133 [(.aJ [(.sl (some false) 1 n0 c0),(.int .i64 a1),(.bool a2)])]=
    (br (br (br (pr.nl c0) true false) true false) (cv 134 [(.aJ [(.sl (some false) 1 n0 c0),(.int .i64 a1),(.bool a2)])] (.int (fun gF=>(.iH (fun jw=>(fun qq=>(fun kB=>(.int (fun nN=>(.bool (fun sr=>(.done (br (br (br (pr.nl kB) true false) true false) (J 0 (iu gF 0 qq kB nN sr 0 [])) none))))))))))))) none):=by kernel_rfl
theorem kr (i0:Int) (i1:Int) (n2:Nat) (c3:List D) (i4:Int) (b5:Bool) (n6:Nat) (c7:List D):cB pr cv J 133 Try.f133 [(.aJ [])] 0 (iu i0 i1 n2 c3 i4 b5 n6 c7)=
    let y1:List D:=[(.aJ [(.sl (some false) 1 n2 c3),(.int .i64 i4),(.bool b5)])]
    let y2:Option (D × List D):=(some ((.sl none 1 n6 c7),y1))
    (br (pr.lt i1 i0) (br b5 (br (br (br (pr.nl c3) true false) true false) (cv 134 y1 (.int (fun gF=>(.iH (fun jw=>(fun qq=>(fun kB=>(.int (fun nN=>(.bool (fun sr=>(.done (br (br (br (pr.nl kB) true false) true false) (br (br (pr.flat [(.int .i64 gF)]) (pr.fits (n6+1) 8) false) (J 0 (iu i0 (pr.ar .add .i64 i1 1) qq kB nN sr (n6+1) (List.append c7 [(.int .i64 gF)]))) none) none))))))))))))) none) y2) y2):=by kernel_rfl
end
theorem fZ {R:Type} (f:Bool→Nat→List D→bO R) (g:Bool) (s n:Nat) (cs l:List D):feed (.iH f) (.sl (some g) s n cs::l)=feed (f g n cs) l:=rfl
theorem Cg (b:List UInt8) (p:Nat):∀ k i acc,0≤(gO b p k i acc).1∧(gO b p k i acc).1≤2147483647
  | 0,_,_=>by simp [gO,j5]
  | k+1,i,acc=>by
    rw [gO]
    split
    · split
      · exact Cg b p k _ _
      · split
        · simp [j5]
        · simp only
          omega
    · simp [j5]
theorem Ch (b:List UInt8) (a:Int):0≤(gk b a).1∧(gk b a).1≤2147483647:=by
  unfold gk
  split
  · simp [j5]
  · exact Cg b _ _ _ _
theorem EU (b:List UInt8) (p:Nat):∀ k i acc,(gO b p k i acc).2.2=true→(p:Int) < (gO b p k i acc).2.1∧(gO b p k i acc).2.1≤b.length
  | 0,_,_,h=>by simp [gO,j5] at h
  | k+1,i,acc,h=>by
    rw [gO] at h ⊢
    split at h
    · rename_i h1
      rw [dif_pos h1]
      split at h
      · rename_i h2
        rw [if_pos h2]
        exact EU b p k _ _ h
      · rename_i h2
        rw [if_neg h2]
        split at h
        · simp [j5] at h
        · rename_i h3
          rw [if_neg h3]
          simp only
          omega
    · simp [j5] at h
theorem EV (b:List UInt8) (a:Int) (h:(gk b a).2.2=true):0≤a∧a < (gk b a).2.1∧(gk b a).2.1≤b.length:=by
  unfold gk at h ⊢
  split at h
  · simp [j5] at h
  · rename_i h1
    rw [if_neg h1]
    have:=EU b a.toNat _ _ _ h
    omega
abbrev tY (b:List UInt8) (c:Int × Bool):D:=.aJ [s8 (some false) b,.int .i64 c.1,.bool c.2]
def aV (b:List UInt8) (c:Int × Bool):Int × (Int × Bool):=if (gk b c.1).2.2&&c.2 then ((gk b c.1).1,((gk b c.1).2.1,true)) else (0,(c.1,false))
def aY (b:List UInt8) (c:Int × Bool):Int × (Int × Bool):=if c.2 then ((gk b c.1).1,((gk b c.1).2.1,(gk b c.1).2.2)) else (0,c)
theorem LX (b:List UInt8) (c:Int × Bool):0≤(aV b c).1∧(aV b c).1≤2147483647:=by
  have:=Ch b c.1
  unfold aV
  split<;>simp [this]
theorem LY (b:List UInt8) (c:Int × Bool):0≤(aY b c).1∧(aY b c).1≤2147483647:=by
  have:=Ch b c.1
  unfold aY
  split<;>simp [this]
theorem LZ (b:List UInt8) (c:Int × Bool) (hb:b.length < 4611686018427387904):Cm 124 [tY b c] (.int .i64 (aV b c).1,[tY b (aV b c).2]):=by
  obtain ⟨p,k⟩:=c
  refine Cm.fin IZ fun J=>?_
  rw [I0]
  simp (disch:=assumption) only [F2,ct,aA,ak]
  unfold aV
  cases (gk b p).2.2<;>cases k<;>rfl
theorem L0 (b:List UInt8) (c:Int × Bool) (hb:b.length < 4611686018427387904):Cm 134 [tY b c] (.int .i64 (aY b c).1,[tY b (aY b c).2]):=by
  obtain ⟨p,k⟩:=c
  refine Cm.fin zd fun J=>?_
  rw [ze]
  simp (disch:=assumption) only [F1,ct,aA,ak]
  unfold aY
  cases k<;>rfl
section
variable (t:bO Rz)
theorem vR (b:List UInt8) (p:Int) (k:Bool) (hb:b.length < 4611686018427387904):bc 124 [.aJ [.sl (some false) 1 b.length (bytes b),.int .i64 p,.bool k]] t=feed t [.int .i64 (aV b (p,k)).1,.sl (some false) 1 b.length (bytes b),.int .i64 (aV b (p,k)).2.1,.bool (aV b (p,k)).2.2]:=bq (LZ b (p,k) hb) (by kernel_rfl) t
theorem vS (b:List UInt8) (p:Int) (k:Bool) (hb:b.length < 4611686018427387904):bc 134 [.aJ [.sl (some false) 1 b.length (bytes b),.int .i64 p,.bool k]] t=feed t [.int .i64 (aY b (p,k)).1,.sl (some false) 1 b.length (bytes b),.int .i64 (aY b (p,k)).2.1,.bool (aY b (p,k)).2.2]:=bq (L0 b (p,k) hb) (by kernel_rfl) t
end
def ma (num:List UInt8→Int × Bool→Int × (Int × Bool)) (b:List UInt8):Nat→Int × Bool→List Int→List Int × (Int × Bool)
  | 0,c,out=>(out,c)
  | k+1,c,out=>if c.2 then ma num b k (num b c).2 (out++[(num b c).1]) else (out,c)
def aI (num:List UInt8→Int × Bool→Int × (Int × Bool)) (b:List UInt8) (c:Int × Bool):List Int × (Int × Bool):=ma num b (num b c).1.toNat (num b c).2 []
theorem Oa {R:Type} {x y:R} (a:Int):br (U.flat [.int .i64 a]) x y=x:=rfl
theorem EW (xs:List Int) (a:Int):List.append (ints xs) [.int .i64 a]=ints (xs++[a]):=by simp [ints]
theorem zR (b:List UInt8) (hb:b.length < 4611686018427387904) (n:Nat) (hn:n≤2147483647):∀ (k i:Nat) (c:Int × Bool) (out:List Int),i+k=n→out.length≤i→WP 123 Try.f123 [.aJ []] 0 (lC (n:Int) (i:Int) b.length (bytes b) c.1 c.2 out.length (ints out)) (.sl none 1 (ma aV b k c out).1.length (ints (ma aV b k c out).1),[tY b (ma aV b k c out).2])
  | 0,i,c,out,hi,ho=>by
    refine WP.fin fun J=>?_
    rw [nx]
    simp (disch:=omega) only [bl]
    rfl
  | k+1,i,c,out,hi,ho=>by
    obtain ⟨p,q⟩:=c
    cases q with
    | false=>
      refine WP.fin fun J=>?_
      rw [nx]
      simp (disch:=omega) only [aP,aX]
      rfl
    | true=>
      have e:ma aV b (k+1) (p,true) out=ma aV b k (aV b (p,true)).2 (out++[(aV b (p,true)).1]):=by rw [ma,if_pos rfl]
      rw [e]
      have ih:=zR b hb n hn k (i+1) (aV b (p,true)).2 (out++[(aV b (p,true)).1]) (by omega) (by simp only [List.length_append,List.length_singleton]; omega)
      refine WP.go _ ih fun J hJ=>?_
      rw [nx]
      simp (disch:=first | omega | assumption) only [aP,aF,eI,aW,vR,ct,fZ,aA,ak,Oa,eK,EW,db]
      have e2:(out++[(aV b (p,true)).1]).length=out.length+1:=by simp
      rw [e2] at hJ
      exact hJ
theorem JI (b:List UInt8) (c:Int × Bool) (hb:b.length < 4611686018427387904):Cm 123 [tY b c] (.sl none 1 (aI aV b c).1.length (ints (aI aV b c).1),[tY b (aI aV b c).2]):=by
  obtain ⟨p,q⟩:=c
  have hn:=LX b (p,q)
  have en:(((aV b (p,q)).1.toNat:Nat):Int)=(aV b (p,q)).1:=by omega
  refine Cm.go F3 [.aJ []] 0 _ (zR b hb (aV b (p,q)).1.toNat (by omega) (aV b (p,q)).1.toNat 0 (aV b (p,q)).2 [] (by omega) (by simp)) fun J hJ=>?_
  rw [F4]
  simp (disch:=first | omega | assumption) only [aF,eI,aW,vR,ct,fZ,aA,ak]
  rw [en] at hJ
  exact hJ
theorem pR (b:List UInt8) (p:Int) (k:Bool) (hb:b.length < 4611686018427387904) (t:bO Rz):bc 123 [.aJ [.sl (some false) 1 b.length (bytes b),.int .i64 p,.bool k]] t=feed t [.sl none 1 (aI aV b (p,k)).1.length (ints (aI aV b (p,k)).1),.sl (some false) 1 b.length (bytes b),.int .i64 (aI aV b (p,k)).2.1,.bool (aI aV b (p,k)).2.2]:=bq (JI b (p,k) hb) (by kernel_rfl) t
theorem zS (b:List UInt8) (hb:b.length < 4611686018427387904) (n:Nat) (hn:n≤2147483647):∀ (k i:Nat) (c:Int × Bool) (out:List Int),i+k=n→out.length≤i→WP 133 Try.f133 [.aJ []] 0 (iu (n:Int) (i:Int) b.length (bytes b) c.1 c.2 out.length (ints out)) (.sl none 1 (ma aY b k c out).1.length (ints (ma aY b k c out).1),[tY b (ma aY b k c out).2])
  | 0,i,c,out,hi,ho=>by
    refine WP.fin fun J=>?_
    rw [kr]
    simp (disch:=omega) only [bl]
    rfl
  | k+1,i,c,out,hi,ho=>by
    obtain ⟨p,q⟩:=c
    cases q with
    | false=>
      refine WP.fin fun J=>?_
      rw [kr]
      simp (disch:=omega) only [aP,aX]
      rfl
    | true=>
      have e:ma aY b (k+1) (p,true) out=ma aY b k (aY b (p,true)).2 (out++[(aY b (p,true)).1]):=by rw [ma,if_pos rfl]
      rw [e]
      have ih:=zS b hb n hn k (i+1) (aY b (p,true)).2 (out++[(aY b (p,true)).1]) (by omega) (by simp only [List.length_append,List.length_singleton]; omega)
      refine WP.go _ ih fun J hJ=>?_
      rw [kr]
      simp (disch:=first | omega | assumption) only [aP,aF,eI,aW,vS,ct,fZ,aA,ak,Oa,eK,EW,db]
      have e2:(out++[(aY b (p,true)).1]).length=out.length+1:=by simp
      rw [e2] at hJ
      exact hJ
theorem JJ (b:List UInt8) (c:Int × Bool) (hb:b.length < 4611686018427387904):Cm 133 [tY b c] (.sl none 1 (aI aY b c).1.length (ints (aI aY b c).1),[tY b (aI aY b c).2]):=by
  obtain ⟨p,q⟩:=c
  have hn:=LY b (p,q)
  have en:(((aY b (p,q)).1.toNat:Nat):Int)=(aY b (p,q)).1:=by omega
  refine Cm.go yc [.aJ []] 0 _ (zS b hb (aY b (p,q)).1.toNat (by omega) (aY b (p,q)).1.toNat 0 (aY b (p,q)).2 [] (by omega) (by simp)) fun J hJ=>?_
  rw [yd]
  simp (disch:=first | omega | assumption) only [aF,eI,aW,vS,ct,fZ,aA,ak]
  rw [en] at hJ
  exact hJ
theorem pS (b:List UInt8) (p:Int) (k:Bool) (hb:b.length < 4611686018427387904) (t:bO Rz):bc 133 [.aJ [.sl (some false) 1 b.length (bytes b),.int .i64 p,.bool k]] t=feed t [.sl none 1 (aI aY b (p,k)).1.length (ints (aI aY b (p,k)).1),.sl (some false) 1 b.length (bytes b),.int .i64 (aI aY b (p,k)).2.1,.bool (aI aY b (p,k)).2.2]:=bq (JJ b (p,k) hb) (by kernel_rfl) t
end Go.Proofs.Ytockoilcnmljiaa
namespace Go.Proofs.Ytockoilcnmljiaa
set_option maxRecDepth 100000
section
variable (pr:ez) (cv:Cv Rz) (J:Nat→St→Option Rz)
def iX (g0:Bool) (n1:Nat) (c2:List D) (i3:Int) (i4:Int) (n5:Nat) (c6:List D):St:=(St.mk [(3,(.ref 10003 [] 0 none)),(7,(.sl (some g0) 1 n1 c2)),(8,(.int .i64 i3)),(9,(.int .i64 i4))] [(10003,[(.sl none 1 n5 c6)])] [] 0)
theorem Dz:Told cfg Try.prog 136 Try.f136:=⟨by kernel_rfl,Try.func136,by kernel_rfl⟩
theorem DA (g0:Bool) (n0:Nat) (c0:List D):bn pr cv J 136 Try.f136 [(.sl (some g0) 1 n0 c0)]=
    (J 0 (iX g0 n0 c0 (pr.bu n0) 0 0 [])):=by kernel_rfl
theorem qT (g0:Bool) (n1:Nat) (c2:List D) (i3:Int) (i4:Int) (n5:Nat) (c6:List D):cB pr cv J 136 Try.f136 [.undef] 0 (iX g0 n1 c2 i3 i4 n5 c6)=
    (br (pr.lt i4 i3) (br (pr.cb i4 n1) (br (br (pr.cV .i64 c2 (pr.idx 0 i4 1)) true false) (cv 139 [(.int .i64 (pr.bY c2 (pr.idx 0 i4 1)))] (.sl (fun eb=>(fun dD=>(.done (br (br (br (pr.nl dD) true false) true false) (br (br (pr.flat dD) (pr.fits (n5+eb) 1) false) (J 0 (iX g0 n1 c2 i3 (pr.ar .add .i64 i4 1) (n5+eb) (List.append c6 dD))) none) none)))))) none) none) (some ((.sl none 1 n5 c6),[.undef]))):=by kernel_rfl
theorem DB:Told cfg Try.prog 135 Try.f135:=⟨by kernel_rfl,Try.func135,by kernel_rfl⟩
theorem DC (g0:Bool) (n0:Nat) (c0:List D):bn pr cv J 135 Try.f135 [(.sl (some g0) 1 n0 c0)]=
    (cv 136 [(.sl (some true) 1 1 [(.int .i64 (pr.bu n0))])] (.sl (fun eb=>(fun dD=>(.done (br (br (br (pr.nl dD) true false) true false) (cv 136 [(.sl (some g0) 1 n0 c0)] (.sl (fun qq=>(fun kB=>(.done (br (br (br (pr.nl kB) true false) true false) (br (br (pr.flat kB) (pr.fits (eb+qq) 1) false) (some ((.sl none 1 (eb+qq) (List.append dD kB)),[.undef])) none) none)))))) none)))))):=by kernel_rfl
def jI (i0:Int) (g1:Bool) (n2:Nat) (c3:List D) (g4:Bool) (n5:Nat) (c6:List D) (b7:Bool) (b8:Bool) (b9:Bool) (i10:Int) (eh:Nat) (eL:List D):St:=(St.mk [(1,(.ptr 1 [] 0)),(3,(.ref 10003 [] 0 none)),(4,(.int .i64 i0))] [(1,[(.sl (some g1) 1 n2 c3),(.sl (some g4) 1 n5 c6),(.bool b7),(.bool b8),(.bool b9),(.int .i64 i10)]),(10003,[(.sl none 1 eh eL)])] [] 0)
def jJ (i0:Int) (g1:Bool) (n2:Nat) (c3:List D) (g4:Bool) (n5:Nat) (c6:List D) (b7:Bool) (b8:Bool) (b9:Bool) (i10:Int) (eh:Nat) (eL:List D):St:=(St.mk [(1,(.ptr 1 [] 0)),(3,(.ref 10003 [] 0 none)),(5,(.int .i64 i0))] [(1,[(.sl (some g1) 1 n2 c3),(.sl (some g4) 1 n5 c6),(.bool b7),(.bool b8),(.bool b9),(.int .i64 i10)]),(10003,[(.sl none 1 eh eL)])] [] 0)
def jK (i0:Int) (i1:Int) (g2:Bool) (n3:Nat) (c4:List D) (g5:Bool) (n6:Nat) (c7:List D) (b8:Bool) (b9:Bool) (iw:Bool) (i11:Int) (jW:Nat) (kV:List D):St:=(St.mk [(1,(.ptr 1 [] 0)),(3,(.ref 10003 [] 0 none)),(5,(.int .i64 i0)),(6,(.int .i64 i1))] [(1,[(.sl (some g2) 1 n3 c4),(.sl (some g5) 1 n6 c7),(.bool b8),(.bool b9),(.bool iw),(.int .i64 i11)]),(10003,[(.sl none 1 jW kV)])] [] 0)
theorem sO:Told cfg Try.prog 118 Try.f118:=⟨by kernel_rfl,Try.func118,by kernel_rfl⟩
theorem sQ (g0:Bool) (n0:Nat) (c0:List D) (g1:Bool) (n1:Nat) (c1:List D) (a2:Bool) (a3:Bool) (a4:Bool) (a5:Int):bn pr cv J 118 Try.f118 [(.agg [(.sl (some g0) 1 n0 c0),(.sl (some g1) 1 n1 c1),(.bool a2),(.bool a3),(.bool a4),(.int .i64 a5)])]=
    let y1:List D:=[(.sl (some g0) 1 n0 c0),(.sl (some g1) 1 n1 c1),(.bool a2),(.bool a3),(.bool a4),(.int .i64 a5)]
    (cv 66 [(.agg y1)] (.bool (fun cm=>(.done (br (br cm false true) (some ((.sl none 1 0 []),[.undef])) (cv 127 [(.int .i64 (pr.bu n0))] (.sl (fun Vw=>(fun Ob=>(.done (br (br (br (pr.nl Ob) true false) true false) (J 0 (jI 0 g0 n0 c0 g1 n1 c1 a2 a3 a4 a5 Vw Ob)) none))))))))))):=by kernel_rfl
theorem oY (i0:Int) (g1:Bool) (n2:Nat) (c3:List D) (g4:Bool) (n5:Nat) (c6:List D) (b7:Bool) (b8:Bool) (b9:Bool) (i10:Int) (eh:Nat) (eL:List D):cB pr cv J 118 Try.f118 [.undef] 0 (jI i0 g1 n2 c3 g4 n5 c6 b7 b8 b9 i10 eh eL)=
    (br (pr.lt i0 (pr.bu n2)) (br (pr.cb i0 n2) (br (br (pr.cV .i64 c3 (pr.idx 0 i0 1)) true false) (cv 127 [(.int .i64 (pr.bY c3 (pr.idx 0 i0 1)))] (.sl (fun eb=>(fun dD=>(.done (br (br (br (pr.nl dD) true false) true false) (br (br (pr.flat dD) (pr.fits (eh+eb) 1) false) (J 0 (jI (pr.ar .add .i64 i0 1) g1 n2 c3 g4 n5 c6 b7 b8 b9 i10 (eh+eb) (List.append eL dD))) none) none)))))) none) none) (J 2 (jJ 0 g1 n2 c3 g4 n5 c6 b7 b8 b9 i10 eh eL))):=by kernel_rfl
theorem oZ (i0:Int) (g1:Bool) (n2:Nat) (c3:List D) (g4:Bool) (n5:Nat) (c6:List D) (b7:Bool) (b8:Bool) (b9:Bool) (i10:Int) (eh:Nat) (eL:List D):cB pr cv J 118 Try.f118 [.undef] 2 (jJ i0 g1 n2 c3 g4 n5 c6 b7 b8 b9 i10 eh eL)=
    (br (pr.lt i0 3) (br (pr.cb i0 n5) (br (br (pr.eg 1 c6 (pr.idx 0 i0 1)) true false) (cv 127 [(.int .i64 (pr.bu (pr.cy c6 (pr.idx 0 i0 1))))] (.sl (fun eb=>(fun dD=>(.done (br (br (br (pr.nl dD) true false) true false) (br (br (pr.flat dD) (pr.fits (eh+eb) 1) false) (J 4 (jK i0 0 g1 n2 c3 g4 n5 c6 b7 b8 b9 i10 (eh+eb) (List.append eL dD))) none) none)))))) none) none) (cv 39 [(.bool b7)] (.int (fun uM=>(.done (cv 39 [(.bool b8)] (.int (fun Kz=>(.done (cv 39 [(.bool b9)] (.int (fun nN=>(.done (cv 127 [(.int .i64 (pr.ar .add .i64 (pr.ar .add .i64 uM (pr.ar .mul .i64 2 Kz)) (pr.ar .mul .i64 4 nN)))] (.sl (fun KH=>(fun I1=>(.done (br (br (br (pr.nl I1) true false) true false) (br (br (pr.flat I1) (pr.fits (eh+KH) 1) false) (cv 127 [(.int .i64 i10)] (.sl (fun YM=>(fun Vx=>(.done (br (br (br (pr.nl Vx) true false) true false) (br (br (pr.flat Vx) (pr.fits ((eh+KH)+YM) 1) false) (some ((.sl none 1 ((eh+KH)+YM) (List.append (List.append eL I1) Vx)),[.undef])) none) none)))))) none) none))))))))))))))))))):=by kernel_rfl
theorem o0 (i0:Int) (i1:Int) (g2:Bool) (n3:Nat) (c4:List D) (g5:Bool) (n6:Nat) (c7:List D) (b8:Bool) (b9:Bool) (iw:Bool) (i11:Int) (jW:Nat) (kV:List D):cB pr cv J 118 Try.f118 [.undef] 4 (jK i0 i1 g2 n3 c4 g5 n6 c7 b8 b9 iw i11 jW kV)=
    (br (pr.cb i0 n6) (br (br (pr.eg 1 c7 (pr.idx 0 i0 1)) true false) (br (pr.lt i1 (pr.bu (pr.cy c7 (pr.idx 0 i0 1)))) (br (pr.cb i0 n6) (br (br (pr.eg 1 c7 (pr.idx 0 i0 1)) true false) (br (pr.cb i1 (pr.cy c7 (pr.idx 0 i0 1))) (br (br (pr.cV .i64 (pr.cH c7 (pr.idx 0 i0 1)) (pr.idx 0 i1 1)) true false) (cv 127 [(.int .i64 (pr.bY (pr.cH c7 (pr.idx 0 i0 1)) (pr.idx 0 i1 1)))] (.sl (fun eb=>(fun dD=>(.done (br (br (br (pr.nl dD) true false) true false) (br (br (pr.flat dD) (pr.fits (jW+eb) 1) false) (J 4 (jK i0 (pr.ar .add .i64 i1 1) g2 n3 c4 g5 n6 c7 b8 b9 iw i11 (jW+eb) (List.append kV dD))) none) none)))))) none) none) none) none) (J 2 (jJ (pr.ar .add .i64 i0 1) g2 n3 c4 g5 n6 c7 b8 b9 iw i11 jW kV))) none) none):=by kernel_rfl
def gP (g0:Bool) (n1:Nat) (c2:List D) (i3:Int) (i4:Int) (g5:Bool) (n6:Nat) (c7:List D) (b8:Bool) (b9:Bool) (iw:Bool) (i11:Int) (jW:Nat) (kV:List D):St:=(St.mk [(1,(.ptr 1 [] 0)),(3,(.ref 10003 [] 0 none)),(13,(.sl (some g0) 1 n1 c2)),(14,(.int .i64 i3)),(15,(.int .i64 i4))] [(1,[(.sl (some g5) 1 n6 c7),(.sl (some g0) 1 n1 c2),(.bool b8),(.bool b9),(.bool iw),(.int .i64 i11)]),(10003,[(.sl none 1 jW kV)])] [] 0)
theorem sS:Told cfg Try.prog 130 Try.f130:=⟨by kernel_rfl,Try.func130,by kernel_rfl⟩
theorem sT (g0:Bool) (n0:Nat) (c0:List D) (g1:Bool) (n1:Nat) (c1:List D) (a2:Bool) (a3:Bool) (a4:Bool) (a5:Int):bn pr cv J 130 Try.f130 [(.agg [(.sl (some g0) 1 n0 c0),(.sl (some g1) 1 n1 c1),(.bool a2),(.bool a3),(.bool a4),(.int .i64 a5)])]=
    let y1:List D:=[(.sl (some g0) 1 n0 c0),(.sl (some g1) 1 n1 c1),(.bool a2),(.bool a3),(.bool a4),(.int .i64 a5)]
    (cv 74 [(.agg y1)] (.bool (fun cm=>(.done (br (br cm false true) (some ((.sl none 1 0 []),[.undef])) (cv 135 [(.sl (some g0) 1 n0 c0)] (.sl (fun Vw=>(fun Ob=>(.done (br (br (br (pr.nl Ob) true false) true false) (J 0 (gP g1 n1 c1 (pr.bu n1) 0 g0 n0 c0 a2 a3 a4 a5 Vw Ob)) none))))))))))):=by kernel_rfl
theorem o3 (g0:Bool) (n1:Nat) (c2:List D) (i3:Int) (i4:Int) (g5:Bool) (n6:Nat) (c7:List D) (b8:Bool) (b9:Bool) (iw:Bool) (i11:Int) (jW:Nat) (kV:List D):cB pr cv J 130 Try.f130 [.undef] 0 (gP g0 n1 c2 i3 i4 g5 n6 c7 b8 b9 iw i11 jW kV)=
    (br (pr.lt i4 i3) (br (pr.cb i4 n1) (br (br (pr.eg 1 c2 (pr.idx 0 i4 1)) true false) (cv 135 [(.sl (some (pr.dn c2 (pr.idx 0 i4 1))) 1 (pr.cy c2 (pr.idx 0 i4 1)) (pr.cH c2 (pr.idx 0 i4 1)))] (.sl (fun eb=>(fun dD=>(.done (br (br (br (pr.nl dD) true false) true false) (br (br (pr.flat dD) (pr.fits (jW+eb) 1) false) (J 0 (gP g0 n1 c2 i3 (pr.ar .add .i64 i4 1) g5 n6 c7 b8 b9 iw i11 (jW+eb) (List.append kV dD))) none) none)))))) none) none) (cv 137 [(.bool b8),(.int .i64 1)] (.int (fun uM=>(.done (cv 137 [(.bool b9),(.int .i64 2)] (.int (fun Kz=>(.done (cv 137 [(.bool iw),(.int .i64 4)] (.int (fun nN=>(.done (cv 136 [(.sl (some true) 1 2 [(.int .i64 (pr.ar .add .i64 (pr.ar .add .i64 uM Kz) nN)),(.int .i64 i11)])] (.sl (fun KH=>(fun I1=>(.done (br (br (br (pr.nl I1) true false) true false) (br (br (pr.flat I1) (pr.fits (jW+KH) 1) false) (some ((.sl none 1 (jW+KH) (List.append kV I1)),[.undef])) none) none))))))))))))))))))):=by kernel_rfl
end
def dX (xs:List Int):List UInt8:=xs.flatMap cQ
theorem jf:∀ xs:List Int,(dX xs).length≤5*xs.length
  | []=>by simp [dX]
  | x::xs=>by
    have h1:=jf xs
    have h2:=eP x
    simp only [dX,List.flatMap_cons,List.length_append,List.length_cons] at h1 ⊢
    omega
theorem tZ {xs:List Int} {i:Nat} (h:i < xs.length):dX (xs.take (i+1))=dX (xs.take i)++cQ xs[i]:=by
  unfold dX
  rw [← List.take_append_getElem h,List.flatMap_append,List.flatMap_cons,List.flatMap_nil,List.append_nil]
def cE (xs:List Int):List UInt8:=cQ (xs.length:Int)++dX xs
theorem lD (xs:List Int):(cE xs).length≤5+5*xs.length:=by
  have h1:=jf xs
  have h2:=eP (xs.length:Int)
  simp only [cE,List.length_append]
  omega
def eU (xss:List (List Int)):List UInt8:=xss.flatMap cE
theorem mb:∀ xss:List (List Int),(∀ xs∈xss,xs.length≤1048576)→(eU xss).length≤5242885*xss.length
  | [],_=>by simp [eU]
  | xs::xss,h=>by
    have h1:=mb xss fun x hx=>h x (List.mem_cons_of_mem _ hx)
    have h2:=lD xs
    have h3:=h xs List.mem_cons_self
    simp only [eU,List.flatMap_cons,List.length_append,List.length_cons] at h1 ⊢
    omega
theorem Ci {xss:List (List Int)} {i:Nat} (h:i < xss.length):eU (xss.take (i+1))=eU (xss.take i)++cE xss[i]:=by
  unfold eU
  rw [← List.take_append_getElem h,List.flatMap_append,List.flatMap_cons,List.flatMap_nil,List.append_nil]
def pG (b:Bool) (k:Int):Int:=if b then k else 0
def kX (m:aH):Int:=pG m.dQ 1+pG m.bQ 2+pG m.held 4
def cg (m:aH):List UInt8:=if gb m then (cE m.aM++eU m.bits)++(cQ (kX m)++cQ m.last) else []
theorem Sp (b:Bool):Cm 39 [.bool b] (.int .i64 (pG b 1),[.undef]):=by
  refine Cm.fin IM fun J=>?_
  rw [IN]
  cases b<;>rfl
theorem Vy (b:Bool) (k:Int):Cm 137 [.bool b,.int .i64 k] (.int .i64 (pG b k),[.undef,.undef]):=by
  refine Cm.fin Jw fun J=>?_
  rw [Jx]
  cases b<;>rfl
theorem Oc (g:Bool) (xs:List Int) (hb:xs.length≤1048576):Cm 136 [.sl (some g) 1 xs.length (ints xs)] (.sl none 1 (dX xs).length (bytes (dX xs)),[.undef]):=by
  refine Cm.go Dz [.undef] 0 (iX g xs.length (ints xs) xs.length (0:Nat) 0 []) ?_ fun J hJ=>?_
  · refine WP.loop (H:=fun i:Nat=>iX g xs.length (ints xs) xs.length (i:Nat) (dX (xs.take i)).length (bytes (dX (xs.take i)))) (n:=xs.length) (fun _=>True) (fun i hi _ ih=>WP.go _ (ih trivial) fun J hJ=>?_) (fun _=>WP.fin fun J=>?_) 0 (Nat.zero_le _) trivial
    · have l1:=jf (xs.take i)
      have l2:=eP xs[i]
      have l3:(xs.take i).length≤xs.length:=by simp; omega
      rw [qT]
      simp (disch:=first | omega | assumption) only [aP,bo,cD,dg,dj,FY,dM,ak,eI,aF,aW,hD,eK,fJ,db]
      rw [tZ hi,List.length_append] at hJ
      exact hJ
    · rw [qT]
      simp (disch:=omega) only [bl,List.take_length]
  · rw [DA]
    exact hJ
section
variable (t:bO Rz)
theorem Sq (b:Bool):bc 39 [.bool b] t=feed t [.int .i64 (pG b 1)]:=bq (Sp b) (by kernel_rfl) t
theorem Vz (b:Bool) (k:Int):bc 137 [.bool b,.int .i64 k] t=feed t [.int .i64 (pG b k)]:=bq (Vy b k) (by kernel_rfl) t
theorem ye (g:Bool) (xs:List Int) (n:Nat) (hn:n=xs.length) (hb:xs.length≤1048576):bc 136 [.sl (some g) 1 n (ints xs)] t=feed t [.sl none 1 (dX xs).length (bytes (dX xs))]:=by subst hn; exact bq (Oc g xs hb) (by kernel_rfl) t
theorem L1 (g:Bool) (a:Int):bc 136 [.sl (some g) 1 1 [.int .i64 a]] t=feed t [.sl none 1 (cQ a).length (bytes (cQ a))]:=by
  have e:dX [a]=cQ a:=by simp [dX]
  rw [← e]
  exact ye t g [a] 1 rfl (by simp)
theorem L2 (g:Bool) (a b:Int):bc 136 [.sl (some g) 1 2 [.int .i64 a,.int .i64 b]] t=feed t [.sl none 1 (cQ a++cQ b).length (bytes (cQ a++cQ b))]:=by
  have e:dX [a,b]=cQ a++cQ b:=by simp [dX]
  rw [← e]
  exact ye t g [a,b] 2 rfl (by simp)
end
theorem Od (g:Bool) (xs:List Int) (hb:xs.length≤1048576):Cm 135 [.sl (some g) 1 xs.length (ints xs)] (.sl none 1 (cE xs).length (bytes (cE xs)),[.undef]):=by
  refine Cm.fin DB fun J=>?_
  rw [DC]
  have l1:=jf xs
  have l2:=eP (xs.length:Int)
  simp (disch:=first | omega | assumption | rfl) only [aB,L1,ye,dM,ak,eI,aF,aW,hD,eK,fJ]
  unfold cE
  rw [List.length_append]
theorem EX (g:Bool) (xs:List Int) (n:Nat) (hn:n=xs.length) (hb:xs.length≤1048576) (t:bO Rz):bc 135 [.sl (some g) 1 n (ints xs)] t=feed t [.sl none 1 (cE xs).length (bytes (cE xs))]:=by subst hn; exact bq (Od g xs hb) (by kernel_rfl) t
theorem zT {m:aH} (h:gb m=true):m.bits.length=3:=by
  simp only [gb,Bool.and_eq_true,beq_iff_eq] at h
  omega
abbrev EY (l:List UInt8):Rz:=(.sl none 1 l.length (bytes l),[.undef])
theorem AE (g:Bool) (m:aH) (hm:cO m):Cm 130 [.agg (cd (some g) m)] (EY (cg m)):=by
  unfold cg
  have b0:=hm.aM
  cases ck:gb m with
  | false=>
    refine Cm.fin sS fun J=>?_
    rw [sT]
    simp (disch:=assumption) only [wk,aA,ak,ck,ba,bA,aX]
    rfl
  | true=>
    rw [if_pos rfl]
    have hl:=zT ck
    have l0:=lD m.aM
    have l3:=eP (kX m)
    have l4:=eP m.last
    refine Cm.go sS [.undef] 0 (gP g m.bits.length (rows (some g) m.bits) m.bits.length (0:Nat) g m.aM.length (ints m.aM) m.dQ m.bQ m.held m.last (cE m.aM).length (bytes (cE m.aM))) ?_ fun J hJ=>?_
    · have:=WP.loop (f:=130) (fn:=Try.f130) (sk:=[.undef]) (j:=0) (r:=EY ((cE m.aM++eU m.bits)++(cQ (kX m)++cQ m.last))) (H:=fun i:Nat=>gP g m.bits.length (rows (some g) m.bits) m.bits.length (i:Nat) g m.aM.length (ints m.aM) m.dQ m.bQ m.held m.last (cE m.aM++eU (m.bits.take i)).length (bytes (cE m.aM++eU (m.bits.take i)))) (n:=m.bits.length) (fun _=>True) (fun i hi _ ih=>WP.go _ (ih trivial) fun J hJ=>?_) (fun _=>WP.fin fun J=>?_) 0 (Nat.zero_le _) trivial
      · simpa [eU] using this
      · have l1:=mb (m.bits.take i) fun x hx=>hm.bits.2 x (List.mem_of_mem_take hx)
        have l5:(m.bits.take i).length≤3:=by simp; omega
        have l2:=lD m.bits[i]
        have b2:=hm.bits.2 _ (List.getElem_mem hi)
        have l6:(cE m.aM++eU (m.bits.take i)).length≤30000000:=by rw [List.length_append]; omega
        rw [o3]
        simp (disch:=first | omega | assumption) only [aP,bo,cD,gK,gL,gM,ie,EX,dM,ak,eI,aF,aW,hD,eK,fJ,db]
        rw [Ci hi,← List.append_assoc,List.length_append (bs:=cE m.bits[i])] at hJ
        exact hJ
      · have l1:=mb m.bits hm.bits.2
        have l6:(cE m.aM++eU m.bits).length≤30000000:=by rw [List.length_append]; omega
        have l7:(cQ (kX m)++cQ m.last).length≤10:=by rw [List.length_append]; omega
        have hf:U.ar .add .i64 (U.ar .add .i64 (pG m.dQ 1) (pG m.bQ 2)) (pG m.held 4)=kX m:=by
          unfold kX
          cases m.dQ<;>cases m.bQ<;>cases m.held<;>rfl
        rw [o3]
        simp (disch:=first | omega | assumption) only [bl,List.take_length,Vz,ct,ak,hf,L2,dM,eI,aF,aW,hD,eK,fJ]
        simp only [EY,List.length_append]
    · rw [sT]
      simp (disch:=first | omega | assumption | rfl) only [wk,aA,ak,ck,ba,bA,aF,EX,dM,eI,aW,aB]
      exact hJ
theorem AF (g:Bool) (m:aH) (hm:cO m):Cm 118 [.agg (cd (some g) m)] (EY (cg m)):=by
  unfold cg
  have b0:=hm.aM
  cases ck:gb m with
  | false=>
    refine Cm.fin sO fun J=>?_
    rw [sQ]
    simp (disch:=assumption) only [wj,aA,ak,ck,ba,bA,aX]
    rfl
  | true=>
    rw [if_pos rfl]
    have hl:=zT ck
    have l0:=lD m.aM
    have l3:=eP (kX m)
    have l4:=eP m.last
    have w2:∀ k i,i+k=3→WP 118 Try.f118 [.undef] 2 (jJ (i:Nat) g m.aM.length (ints m.aM) g m.bits.length (rows (some g) m.bits) m.dQ m.bQ m.held m.last (cE m.aM++eU (m.bits.take i)).length (bytes (cE m.aM++eU (m.bits.take i)))) (EY ((cE m.aM++eU m.bits)++(cQ (kX m)++cQ m.last))):=by
      intro k
      induction k with
      | zero=>
        intro i hi
        obtain rfl:i=3:=by omega
        have l1:=mb m.bits hm.bits.2
        have l6:(cE m.aM++eU m.bits).length≤30000000:=by rw [List.length_append]; omega
        have ht:m.bits.take 3=m.bits:=by rw [← hl,List.take_length]
        have hf:U.ar .add .i64 (U.ar .add .i64 (pG m.dQ 1) (U.ar .mul .i64 2 (pG m.bQ 1))) (U.ar .mul .i64 4 (pG m.held 1))=kX m:=by
          unfold kX
          cases m.dQ<;>cases m.bQ<;>cases m.held<;>rfl
        refine WP.fin fun J=>?_
        rw [oZ,ht]
        simp (disch:=first | omega | assumption) only [bl,Sq,ct,ak,hf,kW,dM,eI,aF,aW,hD,eK,fJ]
        simp only [EY,List.length_append,List.append_assoc,Nat.add_assoc]
      | succ k ih=>
        intro i hi
        have Ka:i < m.bits.length:=by omega
        have ih:=ih (i+1) (by omega)
        have l1:=mb (m.bits.take i) fun x hx=>hm.bits.2 x (List.mem_of_mem_take hx)
        have l5:(m.bits.take i).length≤3:=by simp; omega
        have b2:=hm.bits.2 _ (List.getElem_mem Ka)
        have l6:(cE m.aM++eU (m.bits.take i)).length≤30000000:=by rw [List.length_append]; omega
        have l8:=eP (m.bits[i].length:Int)
        have w4:=WP.loop (f:=118) (fn:=Try.f118) (sk:=[.undef]) (j:=4) (r:=EY ((cE m.aM++eU m.bits)++(cQ (kX m)++cQ m.last))) (H:=fun j:Nat=>jK (i:Nat) (j:Nat) g m.aM.length (ints m.aM) g m.bits.length (rows (some g) m.bits) m.dQ m.bQ m.held m.last ((cE m.aM++eU (m.bits.take i))++cQ (m.bits[i].length:Int)++dX (m.bits[i].take j)).length (bytes ((cE m.aM++eU (m.bits.take i))++cQ (m.bits[i].length:Int)++dX (m.bits[i].take j)))) (n:=m.bits[i].length) (fun _=>True) (fun j hj _ ih4=>WP.go _ (ih4 trivial) fun J hJ=>?_) (fun _=>WP.go _ ih fun J hJ=>?_) 0 (Nat.zero_le _) trivial
        · refine WP.go _ w4 fun J hJ=>?_
          rw [oZ]
          simp (disch:=first | omega | assumption) only [aP,bo,cD,gK,gL,gM,ie,aB,kW,dM,ak,eI,aF,aW,hD,eK,fJ]
          simp only [List.take_zero,dX,List.flatMap_nil,List.append_nil] at hJ
          rw [List.length_append (bs:=cQ (m.bits[i].length:Int))] at hJ
          exact hJ
        · have l9:=jf (m.bits[i].take j)
          have l10:(m.bits[i].take j).length≤m.bits[i].length:=by simp; omega
          have l11:=eP m.bits[i][j]
          have l12:((cE m.aM++eU (m.bits.take i))++cQ (m.bits[i].length:Int)++dX (m.bits[i].take j)).length≤60000000:=by rw [List.length_append,List.length_append]; omega
          rw [o0]
          simp (disch:=first | omega | assumption) only [aP,bo,cD,gK,dg,dj,gL,gM,ie,aB,kW,dM,ak,eI,aF,aW,hD,eK,fJ,db]
          rw [tZ hj,← List.append_assoc,List.length_append (bs:=cQ m.bits[i][j])] at hJ
          exact hJ
        · rw [o0]
          simp (disch:=first | omega | assumption) only [bl,bo,cD,gK,gM,aB,aF,aW,db,List.take_length]
          have e:eU (m.bits.take (i+1))=eU (m.bits.take i)++(cQ (m.bits[i].length:Int)++dX m.bits[i]):=Ci Ka
          rw [e,← List.append_assoc,← List.append_assoc] at hJ
          exact hJ
    have w0:=WP.loop (f:=118) (fn:=Try.f118) (sk:=[.undef]) (j:=0) (r:=EY ((cE m.aM++eU m.bits)++(cQ (kX m)++cQ m.last))) (H:=fun i:Nat=>jI (i:Nat) g m.aM.length (ints m.aM) g m.bits.length (rows (some g) m.bits) m.dQ m.bQ m.held m.last (cQ (m.aM.length:Int)++dX (m.aM.take i)).length (bytes (cQ (m.aM.length:Int)++dX (m.aM.take i)))) (n:=m.aM.length) (fun _=>True) (fun i hi _ ih=>WP.go _ (ih trivial) fun J hJ=>?_) (fun _=>WP.go _ (w2 3 0 rfl) fun J hJ=>?_) 0 (Nat.zero_le _) trivial
    · refine Cm.go sO [.undef] 0 _ w0 fun J hJ=>?_
      rw [sQ]
      simp (disch:=first | omega | assumption | rfl) only [wj,aA,ak,ck,ba,bA,aF,kW,dM,eI,aW,aB]
      simp only [List.take_zero,dX,List.flatMap_nil,List.append_nil] at hJ
      exact hJ
    · have l9:=jf (m.aM.take i)
      have l10:(m.aM.take i).length≤m.aM.length:=by simp; omega
      have l11:=eP m.aM[i]
      have l8:=eP (m.aM.length:Int)
      have l12:(cQ (m.aM.length:Int)++dX (m.aM.take i)).length≤30000000:=by rw [List.length_append]; omega
      rw [oY]
      simp (disch:=first | omega | assumption) only [aP,bo,cD,dg,dj,aB,kW,dM,ak,eI,aF,aW,hD,eK,fJ,db]
      rw [tZ hi,← List.append_assoc,List.length_append (bs:=cQ m.aM[i])] at hJ
      exact hJ
    · rw [oY]
      simp (disch:=omega) only [aB,bl,List.take_length]
      have e:cE m.aM++eU (m.bits.take 0)=cQ (m.aM.length:Int)++dX m.aM:=by simp [eU,cE]
      rw [e] at hJ
      exact hJ
section
variable (t:bO Rz)
theorem sU (g:Bool) (m:aH) (hm:cO m):bc 118 [.agg (cd (some g) m)] t=feed t [.sl none 1 (cg m).length (bytes (cg m))]:=bq (AF g m hm) (by kernel_rfl) t
theorem sV (g:Bool) (m:aH) (hm:cO m):bc 130 [.agg (cd (some g) m)] t=feed t [.sl none 1 (cg m).length (bytes (cg m))]:=bq (AE g m hm) (by kernel_rfl) t
end
end Go.Proofs.Ytockoilcnmljiaa
namespace Go.Proofs.Ytockoilcnmljiaa
set_option maxRecDepth 100000
section
variable (pr:ez) (cv:Cv Rz) (J:Nat→St→Option Rz)
def oO (n0:Nat) (c1:List D) (i2:Int) (b3:Bool) (b4:Bool) (b5:Bool) (i6:Int) (n7:Nat) (c8:List D) (i9:Int) (iw:Bool) (eh:Nat) (eL:List D) (Cj:Bool) (Ck:Bool) (oP:Bool) (i16:Int):St:=(St.mk [(0,(.sl (some true) 1 n0 c1)),(2,(.ptr 2 [] 0)),(4,(.ptr 11 [] 0)),(5,(.ptr 5 [] 0)),(6,(.int .i64 i2))] [(2,[(.nil 1),(.nil 1),(.bool b3),(.bool b4),(.bool b5),(.int .i64 i6)]),(11,[(.sl (some true) 1 n7 c8),(.int .i64 i9),(.bool iw)]),(5,[(.sl none 1 eh eL),(.nil 1),(.bool Cj),(.bool Ck),(.bool oP),(.int .i64 i16)])] [] 0)
def gd (n0:Nat) (c1:List D) (i2:Int) (b3:Bool) (b4:Bool) (b5:Bool) (i6:Int) (n7:Nat) (c8:List D) (i9:Int) (iw:Bool) (eh:Nat) (eL:List D) (lA:Nat) (mA:List D) (oP:Bool) (Cl:Bool) (tK:Bool) (i18:Int):St:=(St.mk [(0,(.sl (some true) 1 n0 c1)),(2,(.ptr 2 [] 0)),(4,(.ptr 11 [] 0)),(5,(.ptr 5 [] 0)),(6,(.int .i64 i2))] [(2,[(.nil 1),(.nil 1),(.bool b3),(.bool b4),(.bool b5),(.int .i64 i6)]),(11,[(.sl (some true) 1 n7 c8),(.int .i64 i9),(.bool iw)]),(5,[(.sl none 1 eh eL),(.sl none 1 lA mA),(.bool oP),(.bool Cl),(.bool tK),(.int .i64 i18)])] [] 0)
theorem F5:Told cfg Try.prog 113 Try.f113:=⟨by kernel_rfl,Try.func113,by kernel_rfl⟩
theorem F6 (n0:Nat) (c0:List D):bn pr cv J 113 Try.f113 [(.sl (some true) 1 n0 c0)]=
    (cv 123 [(.aJ [(.sl (some false) 1 n0 (dA false c0)),(.int .i64 0),(.bool true)])] (.sl (fun eb=>(fun dD=>(.iH (fun ix=>(fun yf=>(fun qw=>(.int (fun su=>(.bool (fun qt=>(.done (br (br (br (pr.nl dD) true false) (br (br (pr.nl qw) true false) true false) false) (J 0 (oO n0 c0 0 false false false 0 yf (dA true qw) su qt eb (dA true dD) false false false 0)) none)))))))))))))):=by kernel_rfl
theorem AG (n0:Nat) (c1:List D) (i2:Int) (b3:Bool) (b4:Bool) (b5:Bool) (i6:Int) (n7:Nat) (c8:List D) (i9:Int) (iw:Bool) (eh:Nat) (eL:List D) (Cj:Bool) (Ck:Bool) (oP:Bool) (i16:Int):cB pr cv J 113 Try.f113 [.undef] 0 (oO n0 c1 i2 b3 b4 b5 i6 n7 c8 i9 iw eh eL Cj Ck oP i16)=
    let y1:List D:=[(.aJ [(.sl (some false) 1 n7 (dA false c8)),(.int .i64 i9),(.bool iw)])]
    let y2:Option (D × List D):=(some ((.aQ [(.agg [(.sl none 1 0 []),(.sl none 1 0 []),(.bool false),(.bool false),(.bool false),(.int .i64 0)]),(.bool false)]),[.undef]))
    (br (pr.lt i2 3) (cv 123 y1 (.sl (fun eb=>(fun dD=>(.iH (fun ix=>(fun yf=>(fun qw=>(.int (fun su=>(.bool (fun qt=>(.done (br (br (br (pr.nl dD) true false) (br (br (pr.nl qw) true false) true false) false) (br (pr.fits 1 24) (J 0 (gd n0 c1 (pr.ar .add .i64 i2 1) b3 b4 b5 i6 yf (dA true qw) su qt eh eL 1 [(.sl none 1 eb (dA true dD))] Cj Ck oP i16)) none) none)))))))))))))) (cv 124 y1 (.int (fun ks=>(.iH (fun NL=>(fun I2=>(fun sX=>(.int (fun AH=>(.bool (fun AI=>(.done (br (br (br (pr.nl sX) true false) true false) (cv 124 [(.aJ [(.sl (some false) 1 I2 (dA false (dA true sX))),(.int .i64 AH),(.bool AI)])] (.int (fun sY=>(.iH (fun Qf=>(fun Qg=>(fun AJ=>(.int (fun Qh=>(.bool (fun AK=>(.done (br (br (br (pr.nl AJ) true false) true false) (br (br AK false true) y2 (br (pr.pB c1) (cv 118 [(.agg [(.sl (some true) 1 eh (cM true eL)),(.nil 1),(.bool (br (pr.eq (pr.ar .and .i64 ks 1) 0) false true)),(.bool (br (pr.eq (pr.ar .and .i64 ks 2) 0) false true)),(.bool (br (pr.eq (pr.ar .and .i64 ks 4) 0) false true)),(.int .i64 sY)])] (.sl (fun AL=>(fun pH=>(.done (br (br (br (pr.nl pH) true false) true false) (br (pr.pB pH) (br (br (pr.seq (pr.xI pH) (pr.xI c1)) false true) y2 (br (pr.eq (pr.bu n0) 0) y2 (some ((.aQ [(.agg [(.sl none 1 eh eL),(.sl none 1 0 []),(.bool (br (pr.eq (pr.ar .and .i64 ks 1) 0) false true)),(.bool (br (pr.eq (pr.ar .and .i64 ks 2) 0) false true)),(.bool (br (pr.eq (pr.ar .and .i64 ks 4) 0) false true)),(.int .i64 sY)]),(.bool true)]),[.undef])))) none) none)))))) none)) none))))))))))))) none)))))))))))))):=by kernel_rfl
theorem mc (n0:Nat) (c1:List D) (i2:Int) (b3:Bool) (b4:Bool) (b5:Bool) (i6:Int) (n7:Nat) (c8:List D) (i9:Int) (iw:Bool) (eh:Nat) (eL:List D) (lA:Nat) (mA:List D) (oP:Bool) (Cl:Bool) (tK:Bool) (i18:Int):cB pr cv J 113 Try.f113 [.undef] 0 (gd n0 c1 i2 b3 b4 b5 i6 n7 c8 i9 iw eh eL lA mA oP Cl tK i18)=
    let y1:List D:=[(.aJ [(.sl (some false) 1 n7 (dA false c8)),(.int .i64 i9),(.bool iw)])]
    let y2:Option (D × List D):=(some ((.aQ [(.agg [(.sl none 1 0 []),(.sl none 1 0 []),(.bool false),(.bool false),(.bool false),(.int .i64 0)]),(.bool false)]),[.undef]))
    (br (pr.lt i2 3) (cv 123 y1 (.sl (fun eb=>(fun dD=>(.iH (fun ix=>(fun yf=>(fun qw=>(.int (fun su=>(.bool (fun qt=>(.done (br (br (br (pr.nl dD) true false) (br (br (pr.nl qw) true false) true false) false) (br (pr.fits (lA+1) 24) (J 0 (gd n0 c1 (pr.ar .add .i64 i2 1) b3 b4 b5 i6 yf (dA true qw) su qt eh eL (lA+1) (List.append mA [(.sl none 1 eb (dA true dD))]) oP Cl tK i18)) none) none)))))))))))))) (cv 124 y1 (.int (fun ks=>(.iH (fun NL=>(fun I2=>(fun sX=>(.int (fun AH=>(.bool (fun AI=>(.done (br (br (br (pr.nl sX) true false) true false) (cv 124 [(.aJ [(.sl (some false) 1 I2 (dA false (dA true sX))),(.int .i64 AH),(.bool AI)])] (.int (fun sY=>(.iH (fun Qf=>(fun Qg=>(fun AJ=>(.int (fun Qh=>(.bool (fun AK=>(.done (br (br (br (pr.nl AJ) true false) true false) (br (br AK false true) y2 (br (pr.pB c1) (cv 118 [(.agg [(.sl (some true) 1 eh (cM true eL)),(.sl (some true) 1 lA (cM true mA)),(.bool (br (pr.eq (pr.ar .and .i64 ks 1) 0) false true)),(.bool (br (pr.eq (pr.ar .and .i64 ks 2) 0) false true)),(.bool (br (pr.eq (pr.ar .and .i64 ks 4) 0) false true)),(.int .i64 sY)])] (.sl (fun AL=>(fun pH=>(.done (br (br (br (pr.nl pH) true false) true false) (br (pr.pB pH) (br (br (pr.seq (pr.xI pH) (pr.xI c1)) false true) y2 (br (pr.eq (pr.bu n0) 0) y2 (some ((.aQ [(.agg [(.sl none 1 eh eL),(.sl none 1 lA mA),(.bool (br (pr.eq (pr.ar .and .i64 ks 1) 0) false true)),(.bool (br (pr.eq (pr.ar .and .i64 ks 2) 0) false true)),(.bool (br (pr.eq (pr.ar .and .i64 ks 4) 0) false true)),(.int .i64 sY)]),(.bool true)]),[.undef])))) none) none)))))) none)) none))))))))))))) none)))))))))))))):=by kernel_rfl
def oQ (n0:Nat) (c1:List D) (i2:Int) (b3:Bool) (b4:Bool) (b5:Bool) (i6:Int) (n7:Nat) (c8:List D) (i9:Int) (iw:Bool) (eh:Nat) (eL:List D) (Cj:Bool) (Ck:Bool) (oP:Bool) (i16:Int):St:=(St.mk [(0,(.sl (some true) 1 n0 c1)),(2,(.ptr 2 [] 0)),(4,(.ptr 11 [] 0)),(5,(.ptr 5 [] 0)),(16,(.int .i64 i2))] [(2,[(.nil 1),(.nil 1),(.bool b3),(.bool b4),(.bool b5),(.int .i64 i6)]),(11,[(.sl (some true) 1 n7 c8),(.int .i64 i9),(.bool iw)]),(5,[(.sl none 1 eh eL),(.nil 1),(.bool Cj),(.bool Ck),(.bool oP),(.int .i64 i16)])] [] 0)
def gf (n0:Nat) (c1:List D) (i2:Int) (b3:Bool) (b4:Bool) (b5:Bool) (i6:Int) (n7:Nat) (c8:List D) (i9:Int) (iw:Bool) (eh:Nat) (eL:List D) (lA:Nat) (mA:List D) (oP:Bool) (Cl:Bool) (tK:Bool) (i18:Int):St:=(St.mk [(0,(.sl (some true) 1 n0 c1)),(2,(.ptr 2 [] 0)),(4,(.ptr 11 [] 0)),(5,(.ptr 5 [] 0)),(16,(.int .i64 i2))] [(2,[(.nil 1),(.nil 1),(.bool b3),(.bool b4),(.bool b5),(.int .i64 i6)]),(11,[(.sl (some true) 1 n7 c8),(.int .i64 i9),(.bool iw)]),(5,[(.sl none 1 eh eL),(.sl none 1 lA mA),(.bool oP),(.bool Cl),(.bool tK),(.int .i64 i18)])] [] 0)
theorem F7:Told cfg Try.prog 125 Try.f125:=⟨by kernel_rfl,Try.func125,by kernel_rfl⟩
theorem F8 (n0:Nat) (c0:List D):bn pr cv J 125 Try.f125 [(.sl (some true) 1 n0 c0)]=
    (cv 133 [(.aJ [(.sl (some false) 1 n0 (dA false c0)),(.int .i64 0),(.bool true)])] (.sl (fun eb=>(fun dD=>(.iH (fun ix=>(fun yf=>(fun qw=>(.int (fun su=>(.bool (fun qt=>(.done (br (br (br (pr.nl dD) true false) (br (br (pr.nl qw) true false) true false) false) (J 0 (oQ n0 c0 0 false false false 0 yf (dA true qw) su qt eb (dA true dD) false false false 0)) none)))))))))))))):=by kernel_rfl
theorem AM (n0:Nat) (c1:List D) (i2:Int) (b3:Bool) (b4:Bool) (b5:Bool) (i6:Int) (n7:Nat) (c8:List D) (i9:Int) (iw:Bool) (eh:Nat) (eL:List D) (Cj:Bool) (Ck:Bool) (oP:Bool) (i16:Int):cB pr cv J 125 Try.f125 [.undef] 0 (oQ n0 c1 i2 b3 b4 b5 i6 n7 c8 i9 iw eh eL Cj Ck oP i16)=
    let y1:List D:=[(.aJ [(.sl (some false) 1 n7 (dA false c8)),(.int .i64 i9),(.bool iw)])]
    let y2:Option (D × List D):=(some ((.aQ [(.agg [(.sl none 1 0 []),(.sl none 1 0 []),(.bool false),(.bool false),(.bool false),(.int .i64 0)]),(.bool false)]),[.undef]))
    (br (pr.lt i2 3) (cv 133 y1 (.sl (fun eb=>(fun dD=>(.iH (fun ix=>(fun yf=>(fun qw=>(.int (fun su=>(.bool (fun qt=>(.done (br (br (br (pr.nl dD) true false) (br (br (pr.nl qw) true false) true false) false) (br (pr.fits 1 24) (J 0 (gf n0 c1 (pr.ar .add .i64 i2 1) b3 b4 b5 i6 yf (dA true qw) su qt eh eL 1 [(.sl none 1 eb (dA true dD))] Cj Ck oP i16)) none) none)))))))))))))) (cv 134 y1 (.int (fun ks=>(.iH (fun NL=>(fun I2=>(fun sX=>(.int (fun AH=>(.bool (fun AI=>(.done (br (br (br (pr.nl sX) true false) true false) (cv 134 [(.aJ [(.sl (some false) 1 I2 (dA false (dA true sX))),(.int .i64 AH),(.bool AI)])] (.int (fun sY=>(.iH (fun Qf=>(fun Qg=>(fun AJ=>(.int (fun Qh=>(.bool (fun AK=>(.done (br (br (br (pr.nl AJ) true false) true false) (cv 130 [(.agg [(.sl (some true) 1 eh (cM true eL)),(.nil 1),(.bool (br (pr.eq (pr.ar .and .i64 ks 1) 0) false true)),(.bool (br (pr.eq (pr.ar .and .i64 ks 2) 0) false true)),(.bool (br (pr.eq (pr.ar .and .i64 ks 4) 0) false true)),(.int .i64 sY)])] (.sl (fun AL=>(fun pH=>(.done (br (br (br (pr.nl pH) true false) true false) (br (br AK false true) y2 (br (pr.eq (pr.bu AL) 0) y2 (cv 126 [(.sl (some true) 1 AL (cM true pH)),(.sl (some true) 1 n0 c1)] (.bool (fun Qi=>(.done (br (br Qi false true) y2 (some ((.aQ [(.agg [(.sl none 1 eh eL),(.sl none 1 0 []),(.bool (br (pr.eq (pr.ar .and .i64 ks 1) 0) false true)),(.bool (br (pr.eq (pr.ar .and .i64 ks 2) 0) false true)),(.bool (br (pr.eq (pr.ar .and .i64 ks 4) 0) false true)),(.int .i64 sY)]),(.bool true)]),[.undef]))))))))) none)))))) none))))))))))))) none)))))))))))))):=by kernel_rfl
theorem me (n0:Nat) (c1:List D) (i2:Int) (b3:Bool) (b4:Bool) (b5:Bool) (i6:Int) (n7:Nat) (c8:List D) (i9:Int) (iw:Bool) (eh:Nat) (eL:List D) (lA:Nat) (mA:List D) (oP:Bool) (Cl:Bool) (tK:Bool) (i18:Int):cB pr cv J 125 Try.f125 [.undef] 0 (gf n0 c1 i2 b3 b4 b5 i6 n7 c8 i9 iw eh eL lA mA oP Cl tK i18)=
    let y1:List D:=[(.aJ [(.sl (some false) 1 n7 (dA false c8)),(.int .i64 i9),(.bool iw)])]
    let y2:Option (D × List D):=(some ((.aQ [(.agg [(.sl none 1 0 []),(.sl none 1 0 []),(.bool false),(.bool false),(.bool false),(.int .i64 0)]),(.bool false)]),[.undef]))
    (br (pr.lt i2 3) (cv 133 y1 (.sl (fun eb=>(fun dD=>(.iH (fun ix=>(fun yf=>(fun qw=>(.int (fun su=>(.bool (fun qt=>(.done (br (br (br (pr.nl dD) true false) (br (br (pr.nl qw) true false) true false) false) (br (pr.fits (lA+1) 24) (J 0 (gf n0 c1 (pr.ar .add .i64 i2 1) b3 b4 b5 i6 yf (dA true qw) su qt eh eL (lA+1) (List.append mA [(.sl none 1 eb (dA true dD))]) oP Cl tK i18)) none) none)))))))))))))) (cv 134 y1 (.int (fun ks=>(.iH (fun NL=>(fun I2=>(fun sX=>(.int (fun AH=>(.bool (fun AI=>(.done (br (br (br (pr.nl sX) true false) true false) (cv 134 [(.aJ [(.sl (some false) 1 I2 (dA false (dA true sX))),(.int .i64 AH),(.bool AI)])] (.int (fun sY=>(.iH (fun Qf=>(fun Qg=>(fun AJ=>(.int (fun Qh=>(.bool (fun AK=>(.done (br (br (br (pr.nl AJ) true false) true false) (cv 130 [(.agg [(.sl (some true) 1 eh (cM true eL)),(.sl (some true) 1 lA (cM true mA)),(.bool (br (pr.eq (pr.ar .and .i64 ks 1) 0) false true)),(.bool (br (pr.eq (pr.ar .and .i64 ks 2) 0) false true)),(.bool (br (pr.eq (pr.ar .and .i64 ks 4) 0) false true)),(.int .i64 sY)])] (.sl (fun AL=>(fun pH=>(.done (br (br (br (pr.nl pH) true false) true false) (br (br AK false true) y2 (br (pr.eq (pr.bu AL) 0) y2 (cv 126 [(.sl (some true) 1 AL (cM true pH)),(.sl (some true) 1 n0 c1)] (.bool (fun Qi=>(.done (br (br Qi false true) y2 (some ((.aQ [(.agg [(.sl none 1 eh eL),(.sl none 1 lA mA),(.bool (br (pr.eq (pr.ar .and .i64 ks 1) 0) false true)),(.bool (br (pr.eq (pr.ar .and .i64 ks 2) 0) false true)),(.bool (br (pr.eq (pr.ar .and .i64 ks 4) 0) false true)),(.int .i64 sY)]),(.bool true)]),[.undef]))))))))) none)))))) none))))))))))))) none)))))))))))))):=by kernel_rfl
end
theorem I3 (x:UInt8):byteOf (ec x)=some x:=by
  have:=x.toNat_lt
  simp [ec,byteOf]
theorem vT:∀ xs:List UInt8,jQ byteOf (bytes xs)=some xs
  | []=>rfl
  | x::xs=>by
    have h:=vT xs
    simp only [bytes] at h
    simp only [bytes,List.map_cons,jQ,I3,h]
theorem AN {R:Type} {x y:R} (xs:List UInt8):br (U.pB (bytes xs)) x y=x:=by
  have:U.pB (bytes xs)=true:=by
    show (jQ byteOf (bytes xs)).isSome=true
    rw [vT]
    rfl
  rw [this,aF]
theorem I4 (xs:List UInt8):U.xI (bytes xs)=bs xs:=by
  show (⟨((jQ byteOf (bytes xs)).getD []).toArray⟩:ByteArray)=bs xs
  rw [vT]
  rfl
theorem I5 (xs ys:List UInt8):U.seq (bs xs) (bs ys)=decide (xs=ys):=by
  show ((bs xs).toList==(bs ys).toList)=_
  rw [ByteArray.toList_eq,ByteArray.toList_eq]
  show (xs==ys)=_
  by_cases h:xs=ys<;>simp [h]
theorem I6 (g h:Bool) (xs ys:List UInt8):Cm 126 [.sl (some g) 1 xs.length (bytes xs),.sl (some h) 1 ys.length (bytes ys)] (.bool (decide (xs=ys)),[.undef,.undef]):=by
  refine Cm.fin FN fun J=>?_
  rw [FO]
  simp only [AN,I4,I5]
theorem yg (g h:Bool) (xs ys:List UInt8) (t:bO Rz):bc 126 [.sl (some g) 1 xs.length (bytes xs),.sl (some h) 1 ys.length (bytes ys)] t=feed t [.bool (decide (xs=ys))]:=bq (I6 g h xs ys) (by kernel_rfl) t
theorem iA (b:Bool):∀ xs:List Int,dA b (ints xs)=ints xs
  | []=>rfl
  | x::xs=>by
    have h:=iA b xs
    simp only [ints] at h
    simp only [ints,List.map_cons,dA,gx,h]
theorem fy (b:Bool):∀ xs:List UInt8,dA b (bytes xs)=bytes xs
  | []=>rfl
  | x::xs=>by
    have h:=fy b xs
    simp only [bytes] at h
    simp only [bytes,List.map_cons,dA,gx,ec,h]
theorem EZ (b:List UInt8) (p:Nat):∀ k i acc,(gO b p k i acc).2.2=false→gO b p k i acc=j5
  | 0,_,_,_=>rfl
  | k+1,i,acc,h=>by
    rw [gO] at h ⊢
    split at h
    · rename_i h1
      rw [dif_pos h1]
      split at h
      · rename_i h2
        rw [if_pos h2]
        exact EZ b p k _ _ h
      · rename_i h2
        rw [if_neg h2]
        split at h
        · rename_i h3
          rw [if_pos h3]
        · simp at h
    · rename_i h1
      rw [dif_neg h1]
theorem Oe (b:List UInt8) (a:Int) (h:(gk b a).2.2=false):gk b a=j5:=by
  unfold gk at h ⊢
  split at h
  · rename_i h1
    rw [if_pos h1]
  · rename_i h1
    rw [if_neg h1]
    exact EZ b _ _ _ _ h
def Cn (c c':Int × Bool):Prop:=c.2=c'.2∧(c.2=true→c.1=c'.1)
theorem y6 (b:List UInt8) {c c':Int × Bool} (h:Cn c c'):(aV b c).1=(aY b c').1∧Cn (aV b c).2 (aY b c').2:=by
  obtain ⟨p,q⟩:=c
  obtain ⟨p',q'⟩:=c'
  obtain ⟨h1,h2⟩:=h
  simp only at h1 h2
  subst h1
  cases q with
  | false=>exact ⟨by simp [aV,aY],by simp [aV,aY,Cn]⟩
  | true=>
    have:=h2 rfl
    subst this
    cases hg:(gk b p).2.2 with
    | true=>exact ⟨by simp [aV,aY,hg],by simp [aV,aY,Cn,hg]⟩
    | false=>
      have:=Oe b p hg
      exact ⟨by simp [aV,aY,this,j5],by simp [aV,aY,Cn,this,j5]⟩
theorem Of (b:List UInt8):∀ (k:Nat) {c c':Int × Bool} (out:List Int),Cn c c'→(ma aV b k c out).1=(ma aY b k c' out).1∧Cn (ma aV b k c out).2 (ma aY b k c' out).2
  | 0,_,_,_,h=>⟨rfl,h⟩
  | k+1,c,c',out,h=>by
    simp only [ma]
    rw [← h.1]
    cases hc:c.2 with
    | false=>exact ⟨rfl,h⟩
    | true=>
      have hn:=y6 b h
      simp only [if_true]
      rw [hn.1]
      exact Of b k _ hn.2
theorem vU (b:List UInt8) {c c':Int × Bool} (h:Cn c c'):(aI aV b c).1=(aI aY b c').1∧Cn (aI aV b c).2 (aI aY b c').2:=by
  have hn:=y6 b h
  unfold aI
  rw [hn.1]
  exact Of b _ _ hn.2
def Og (num:List UInt8→Int × Bool→Int × (Int × Bool)):Prop:=∀ b p q,(num b (p,q)).2.2=true→0≤p∧p < (num b (p,q)).2.1∧(num b (p,q)).2.1≤b.length
theorem Rj:Og aV:=by
  intro b p q h
  unfold aV at h ⊢
  split at h
  · rename_i h1
    rw [if_pos h1]
    simp only [Bool.and_eq_true] at h1
    exact EV b p h1.1
  · simp at h
theorem Xw:Og aY:=by
  intro b p q h
  unfold aY at h ⊢
  cases q with
  | true=>exact EV b p h
  | false=>simp at h
theorem E0 {num:List UInt8→Int × Bool→Int × (Int × Bool)} (hf:Og num) (b:List UInt8):∀ (k:Nat) (p:Int) (q:Bool) (out:List Int),(ma num b k (p,q) out).1.length≤out.length+(if q then ((b.length:Int) - p).toNat+1 else 0)
  | 0,_,_,_=>by simp [ma]
  | k+1,p,q,out=>by
    cases q with
    | false=>simp [ma]
    | true=>
      simp only [ma,if_true]
      have ih:=E0 hf b k (num b (p,true)).2.1 (num b (p,true)).2.2 (out++[(num b (p,true)).1])
      cases hq:(num b (p,true)).2.2 with
      | false=>
        rw [hq] at ih
        simp only [List.length_append,List.length_singleton] at ih
        have e:(num b (p,true)).2=((num b (p,true)).2.1,false):=Prod.ext rfl hq
        rw [e]
        simp only [Bool.false_eq_true,if_false] at ih
        omega
      | true=>
        have h:=hf b p true hq
        rw [hq] at ih
        simp only [List.length_append,List.length_singleton,if_true] at ih
        have e:(num b (p,true)).2=((num b (p,true)).2.1,true):=Prod.ext rfl hq
        rw [e]
        omega
theorem zU {num:List UInt8→Int × Bool→Int × (Int × Bool)} (hf:Og num) (b:List UInt8) (c:Int × Bool):(aI num b c).1.length≤b.length+1:=by
  have h:=E0 hf b (num b c).1.toNat (num b c).2.1 (num b c).2.2 []
  unfold aI
  obtain ⟨p,q⟩:=c
  cases hq:(num b (p,q)).2.2 with
  | false=>
    rw [hq] at h
    have e:(num b (p,q)).2=((num b (p,q)).2.1,false):=Prod.ext rfl hq
    rw [e]
    simp only [Bool.false_eq_true,if_false,List.length_nil] at h
    omega
  | true=>
    have h1:=hf b p q hq
    rw [hq] at h
    have e:(num b (p,q)).2=((num b (p,q)).2.1,true):=Prod.ext rfl hq
    rw [e]
    simp only [if_true,List.length_nil] at h
    omega
def fa (x k:Int):Bool:=!(U.eq (U.ar .and .i64 x k) 0)
def kY (num:List UInt8→Int × Bool→Int × (Int × Bool)) (b:List UInt8):aH × Bool:=
  let r0:=aI num b (0,true)
  let r1:=aI num b r0.2
  let r2:=aI num b r1.2
  let r3:=aI num b r2.2
  let x:=num b r3.2
  let y:=num b x.2
  (⟨r0.1,[r1.1,r2.1,r3.1],fa x.1 1,fa x.1 2,fa x.1 4,y.1⟩,y.2.2)
def ff:aH:=⟨[],[],false,false,false,0⟩
def dp (b:List UInt8):aH × Bool:=if (kY aV b).2&&(decide (cg (kY aV b).1=b)&&!b.isEmpty) then ((kY aV b).1,true) else (ff,false)
theorem Qj (b:List UInt8):kY aV b=kY aY b:=by
  have h0:=vU b (c:=(0,true)) (c':=(0,true)) ⟨rfl,fun _=>rfl⟩
  have h1:=vU b h0.2
  have h2:=vU b h1.2
  have h3:=vU b h2.2
  have h4:=y6 b h3.2
  have h5:=y6 b h4.2
  simp only [kY]
  rw [h0.1,h1.1,h2.1,h3.1,h4.1,h5.1,h5.2.1]
theorem AO {num:List UInt8→Int × Bool→Int × (Int × Bool)} (hf:Og num) (b:List UInt8) (hb:b.length≤1000000):cO (kY num b).1:=by
  refine ⟨?_,?_,?_⟩
  · have:=zU hf b (0,true)
    simp only [kY]
    omega
  · simp [kY]
  · intro xs hx
    simp only [kY,List.mem_cons,List.not_mem_nil,or_false] at hx
    rcases hx with rfl | rfl | rfl
    all_goals exact Nat.le_trans (zU hf b _) (by omega)
theorem I7 (x k:Int):(!(U.eq (U.ar .and .i64 x k) 0))=fa x k:=rfl
abbrev Co (r:aH × Bool):Rz:=(.aQ [.agg (cd none r.1),.bool r.2],[.undef])
theorem F9 (b:List UInt8) (hb:b.length≤1000000):Cm 113 [.sl (some true) 1 b.length (bytes b)] (Co (dp b)):=by
  have w3:∀ (c:Int × Bool) (aM x1 x2 x3:List Int),kY aV b=(⟨aM,[x1,x2,x3],fa (aV b c).1 1,fa (aV b c).1 2,fa (aV b c).1 4,(aV b (aV b c).2).1⟩,(aV b (aV b c).2).2.2)→WP 113 Try.f113 [.undef] 0 (gd b.length (bytes b) 3 false false false 0 b.length (bytes b) c.1 c.2 aM.length (ints aM) 3 (rows none [x1,x2,x3]) false false false 0) (Co (dp b)):=by
    intro c aM x1 x2 x3 hp
    have ck:=AO Rj b hb
    refine WP.fin fun J=>?_
    rw [mc]
    unfold dp
    rw [hp] at ck ⊢
    have hv:=sU (g:=true) (m:=⟨aM,[x1,x2,x3],fa (aV b c).1 1,fa (aV b c).1 2,fa (aV b c).1 4,(aV b (aV b c).2).1⟩) (hm:=ck)
    have ky:∀ t:bO Rz,bc 118 [.agg [.sl (some true) 1 aM.length (ints aM),.sl (some true) 1 3 (rows (some true) [x1,x2,x3]),.bool (fa (aV b c).1 1),.bool (fa (aV b c).1 2),.bool (fa (aV b c).1 4),.int .i64 (aV b (aV b c).2).1]] t=_:=hv
    simp (disch:=first | omega | assumption) only [bl,fy,vR,ct,fZ,aA,ak,eI,aF,aW,ba,I7,gh,gN,AN,ky,dM,I4,I5]
    generalize (aV b (aV b c).2).2.2=q1
    generalize cg _=l
    cases q1 with
    | false=>rfl
    | true=>
      by_cases h1:l=b
      · subst h1
        cases l with
        | nil=>simp [br,U,ff,rows,ints]
        | cons a l=>
          simp only [bA,aF,decide_true]
          rw [dK (by simp only [aB,List.length_cons]; omega)]
          simp [ff]
      · simp [br,h1,ff,rows,ints]
  have w2:=WP.go (f:=113) (fn:=Try.f113) (sk:=[.undef]) (j:=0) (h:=gd b.length (bytes b) 2 false false false 0 b.length (bytes b) (aI aV b (aI aV b (aI aV b (0,true)).2).2).2.1 (aI aV b (aI aV b (aI aV b (0,true)).2).2).2.2 (aI aV b (0,true)).1.length (ints (aI aV b (0,true)).1) 2 (rows none [(aI aV b (aI aV b (0,true)).2).1,(aI aV b (aI aV b (aI aV b (0,true)).2).2).1]) false false false 0) _ (w3 (aI aV b (aI aV b (aI aV b (aI aV b (0,true)).2).2).2).2 (aI aV b (0,true)).1 (aI aV b (aI aV b (0,true)).2).1 (aI aV b (aI aV b (aI aV b (0,true)).2).2).1 (aI aV b (aI aV b (aI aV b (aI aV b (0,true)).2).2).2).1 rfl) fun J hJ=>by
    rw [mc]
    simp (disch:=first | omega | assumption) only [aP,fy,iA,pR,dM,ct,fZ,aA,ak,eI,lz,aF,aW,eK]
    exact hJ
  have w1:=WP.go (f:=113) (fn:=Try.f113) (sk:=[.undef]) (j:=0) (h:=gd b.length (bytes b) 1 false false false 0 b.length (bytes b) (aI aV b (aI aV b (0,true)).2).2.1 (aI aV b (aI aV b (0,true)).2).2.2 (aI aV b (0,true)).1.length (ints (aI aV b (0,true)).1) 1 (rows none [(aI aV b (aI aV b (0,true)).2).1]) false false false 0) _ w2 fun J hJ=>by
    rw [mc]
    simp (disch:=first | omega | assumption) only [aP,fy,iA,pR,dM,ct,fZ,aA,ak,eI,lz,aF,aW,eK]
    exact hJ
  have w0:=WP.go (f:=113) (fn:=Try.f113) (sk:=[.undef]) (j:=0) (h:=oO b.length (bytes b) 0 false false false 0 b.length (bytes b) (aI aV b (0,true)).2.1 (aI aV b (0,true)).2.2 (aI aV b (0,true)).1.length (ints (aI aV b (0,true)).1) false false false 0) _ w1 fun J hJ=>by
    rw [AG]
    simp (disch:=first | omega | assumption) only [aP,fy,iA,pR,dM,ct,fZ,aA,ak,eI,lz,aF,aW,eK]
    exact hJ
  refine Cm.go F5 [.undef] 0 _ w0 fun J hJ=>?_
  rw [F6]
  simp (disch:=first | omega | assumption) only [fy,iA,pR,dM,ct,fZ,aA,ak,eI,lz,aF,aW]
  exact hJ
theorem Ga (b:List UInt8) (hb:b.length≤1000000):Cm 125 [.sl (some true) 1 b.length (bytes b)] (Co (dp b)):=by
  have w3:∀ (c:Int × Bool) (aM x1 x2 x3:List Int),kY aY b=(⟨aM,[x1,x2,x3],fa (aY b c).1 1,fa (aY b c).1 2,fa (aY b c).1 4,(aY b (aY b c).2).1⟩,(aY b (aY b c).2).2.2)→WP 125 Try.f125 [.undef] 0 (gf b.length (bytes b) 3 false false false 0 b.length (bytes b) c.1 c.2 aM.length (ints aM) 3 (rows none [x1,x2,x3]) false false false 0) (Co (dp b)):=by
    intro c aM x1 x2 x3 hp
    have ck:=AO Xw b hb
    refine WP.fin fun J=>?_
    rw [me]
    unfold dp
    rw [Qj,hp]
    rw [hp] at ck
    have hv:=sV (g:=true) (m:=⟨aM,[x1,x2,x3],fa (aY b c).1 1,fa (aY b c).1 2,fa (aY b c).1 4,(aY b (aY b c).2).1⟩) (hm:=ck)
    have ky:∀ t:bO Rz,bc 130 [.agg [.sl (some true) 1 aM.length (ints aM),.sl (some true) 1 3 (rows (some true) [x1,x2,x3]),.bool (fa (aY b c).1 1),.bool (fa (aY b c).1 2),.bool (fa (aY b c).1 4),.int .i64 (aY b (aY b c).2).1]] t=_:=hv
    simp (disch:=first | omega | assumption) only [bl,fy,vS,ct,fZ,aA,ak,eI,aF,aW,ba,I7,gh,gN,gH,ky,dM,yg]
    generalize (aY b (aY b c).2).2.2=q1
    generalize cg _=l
    cases q1 with
    | false=>rfl
    | true=>
      by_cases h1:l=b
      · subst h1
        cases l with
        | nil=>simp [br,U,ff,rows,ints]
        | cons a l=>
          simp only [bA,aF,decide_true]
          rw [dK (by simp only [aB,List.length_cons]; omega)]
          simp [ff]
      · cases U.eq (U.bu l.length) 0<;>simp [br,h1,ff,rows,ints]
  have w2:=WP.go (f:=125) (fn:=Try.f125) (sk:=[.undef]) (j:=0) (h:=gf b.length (bytes b) 2 false false false 0 b.length (bytes b) (aI aY b (aI aY b (aI aY b (0,true)).2).2).2.1 (aI aY b (aI aY b (aI aY b (0,true)).2).2).2.2 (aI aY b (0,true)).1.length (ints (aI aY b (0,true)).1) 2 (rows none [(aI aY b (aI aY b (0,true)).2).1,(aI aY b (aI aY b (aI aY b (0,true)).2).2).1]) false false false 0) _ (w3 (aI aY b (aI aY b (aI aY b (aI aY b (0,true)).2).2).2).2 (aI aY b (0,true)).1 (aI aY b (aI aY b (0,true)).2).1 (aI aY b (aI aY b (aI aY b (0,true)).2).2).1 (aI aY b (aI aY b (aI aY b (aI aY b (0,true)).2).2).2).1 rfl) fun J hJ=>by
    rw [me]
    simp (disch:=first | omega | assumption) only [aP,fy,iA,pS,dM,ct,fZ,aA,ak,eI,lz,aF,aW,eK]
    exact hJ
  have w1:=WP.go (f:=125) (fn:=Try.f125) (sk:=[.undef]) (j:=0) (h:=gf b.length (bytes b) 1 false false false 0 b.length (bytes b) (aI aY b (aI aY b (0,true)).2).2.1 (aI aY b (aI aY b (0,true)).2).2.2 (aI aY b (0,true)).1.length (ints (aI aY b (0,true)).1) 1 (rows none [(aI aY b (aI aY b (0,true)).2).1]) false false false 0) _ w2 fun J hJ=>by
    rw [me]
    simp (disch:=first | omega | assumption) only [aP,fy,iA,pS,dM,ct,fZ,aA,ak,eI,lz,aF,aW,eK]
    exact hJ
  have w0:=WP.go (f:=125) (fn:=Try.f125) (sk:=[.undef]) (j:=0) (h:=oQ b.length (bytes b) 0 false false false 0 b.length (bytes b) (aI aY b (0,true)).2.1 (aI aY b (0,true)).2.2 (aI aY b (0,true)).1.length (ints (aI aY b (0,true)).1) false false false 0) _ w1 fun J hJ=>by
    rw [AM]
    simp (disch:=first | omega | assumption) only [aP,fy,iA,pS,dM,ct,fZ,aA,ak,eI,lz,aF,aW,eK]
    exact hJ
  refine Cm.go F7 [.undef] 0 _ w0 fun J hJ=>?_
  rw [F8]
  simp (disch:=first | omega | assumption) only [fy,iA,pS,dM,ct,fZ,aA,ak,eI,lz,aF,aW]
  exact hJ
theorem yi (b:List UInt8) (hb:b.length≤1000000):cO (dp b).1:=by
  unfold dp
  split
  · exact AO Rj b hb
  · exact ⟨by simp [ff],by simp [ff],by simp [ff]⟩
end Go.Proofs.Ytockoilcnmljiaa
namespace Go.Proofs.Ytockoilcnmljiaa
set_option maxRecDepth 100000
theorem WP.step {f:FuncId} {fn:Func} {sk:List D} {j:Nat} {h:St} {r:Rz} (ht:∀ J:Nat→St→Option Rz,(∀ j' h',WP f fn sk j' h' r→J j' h'=some r)→cB U bc J f fn sk j h=some r):WP f fn sk j h r:=W.step sj ht
theorem Cm.step {f:FuncId} {fn:Func} {r:Rz} (ok:Told cfg Try.prog f fn) (sk:List D) {args:List D} (ht:∀ J:Nat→St→Option Rz,(∀ j' h',WP f fn sk j' h' r→J j' h'=some r)→bn U bc J f fn args=some r) (vY:args.map oG=sk:=by rfl):Cm f args r:=by subst vY; exact Comes.step sj ok ht
section
variable {R:Type} {x y:R}
def tick (n:Nat):Nat:=n+1
@[go_sem] theorem ab5:tick 0=1:=by unfold tick; omega
@[congr] theorem ZK {c c':Bool} {z:Nat} (h:c=c') (_:tick 0=z):br c x y=br c' x y:=by rw [h]
@[congr] theorem ZL {g:FuncId} {ds ds':List D} {t:bO Rz} {z:Nat} (h:ds=ds') (_:tick 0=z):bc g ds t=bc g ds' t:=by rw [h]
@[congr] theorem Xx {t:bO R} {l l':List D} {z:Nat} (h:l=l') (_:tick 0=z):feed t l=feed t l':=by rw [h]
attribute [go_sem ↓] aF aX
@[go_sem ↓] theorem ab6 (a b c:Bool) (x y:R):br (br a b c) x y=br a (br b x y) (br c x y):=by cases a<;>rfl
@[go_sem ↓] theorem acW (b:Bool) (x y:R):br (!b) x y=br b y x:=by cases b<;>rfl
@[go_sem] theorem ZM {p:Prop} [Decidable p] (h:p):br (decide p) x y=x:=by rw [decide_eq_true h]; rfl
@[go_sem] theorem ZN {p:Prop} [Decidable p] (h:¬p):br (decide p) x y=y:=by rw [decide_eq_false h]; rfl
theorem KI {b:Bool} {r:R} (h1:b=true→x=r) (h2:b=false→y=r):br b x y=r:=by cases b with | true=>exact h1 rfl | false=>exact h2 rfl
theorem eV {p:Prop} [Decidable p] {r:R} (h1:p→x=r) (h2:¬p→y=r):br (decide p) x y=r:=by
  by_cases h:p
  · rw [ZM h]; exact h1 h
  · rw [ZN h]; exact h2 h
theorem yj {b:Bool} {r:R} (h1:b=true→x=r) (h2:¬b=true→y=r):br b x y=r:=by cases b with | true=>exact h1 rfl | false=>exact h2 (by simp)
end
theorem WP.up {f:FuncId} {fn:Func} {sk:List D} {j:Nat} {r:Rz} {H:Nat→St} (n:Nat) (inv:Nat→Prop) (hs:∀ i,i≤n→inv i→∀ J:Nat→St→Option Rz,(∀ j' h',WP f fn sk j' h' r→J j' h'=some r)→(i < n→inv (i+1)→J j (H (i+1))=some r)→cB U bc J f fn sk j (H i)=some r):∀ i,i≤n→inv i→WP f fn sk j (H i) r:=by
  have key:∀ k i,i+k=n→inv i→WP f fn sk j (H i) r:=by
    intro k
    induction k with
    | zero=>intro i hi hv; exact WP.step fun J hJ=>hs i (by omega) hv J hJ (fun h=>absurd h (by omega))
    | succ k ih=>intro i hi hv; exact WP.step fun J hJ=>hs i (by omega) hv J hJ (fun _ h=>hJ _ _ (ih (i+1) (by omega) h))
  exact fun i hi hv=>key (n - i) i (by omega) hv
section
variable {R:Type}
@[go_sem ↓] theorem ab7 (x:Option R) (l:List D):feed (.done x) l=x:=rfl
@[go_sem ↓] theorem acX (f:Int→bO R) (k:IntKind) (n:Int) (l:List D):feed (.int f) (.int k n::l)=feed (f n) l:=rfl
@[go_sem ↓] theorem ab8 (f:Bool→bO R) (b:Bool) (l:List D):feed (.bool f) (.bool b::l)=feed (f b) l:=rfl
@[go_sem ↓] theorem acY (f:ByteArray→bO R) (s:ByteArray) (l:List D):feed (.str f) (.str s::l)=feed (f s) l:=rfl
@[go_sem ↓] theorem adA (f:Nat→List D→bO R) (s n:Nat) (cs l:List D):feed (.sl f) (.sl none s n cs::l)=feed (f n cs) l:=rfl
@[go_sem ↓] theorem acZ (f:Bool→Nat→List D→bO R) (g:Bool) (s n:Nat) (cs l:List D):feed (.iH f) (.sl (some g) s n cs::l)=feed (f g n cs) l:=rfl
end
@[go_sem ↓] theorem adB (k:ic) (f:k.T→bO Rz) (x:k.T) (l:List D):feed (.ty k f) (enc k x::l)=feed (f x) l:=Kt k f x l
attribute [go_sem] enc
@[go_sem ↓] theorem adC (ys:List D) (t:bO Rz):bc 999999 [.sl none 0 0 ys] t=feed t [.sl none 0 0 ys]:=Nz ys t
@[go_sem] theorem aH.eta (m:aH):(⟨m.aM,m.bits,m.dQ,m.bQ,m.held,m.last⟩:aH)=m:=rfl
@[go_sem] theorem aG.eta (s:aG):(⟨s.a,s.b⟩:aG)=s:=rfl
@[go_sem] theorem ai.eta (n:ai):(⟨n.id,n.up,n.eS,n.image,n.mt,n.dr,n.conn,n.sync,n.bp,n.wait⟩:ai)=n:=rfl
@[go_sem] theorem sc.eta (n:sc):(⟨n.kind,n.cell,n.val,n.UD,n.aM⟩:sc)=n:=rfl
@[go_sem] theorem oC.eta (n:oC):(⟨n.kind,n.a,n.b⟩:oC)=n:=rfl
@[go_sem] theorem kp.eta (n:kp):(⟨n.nodes,n.xR,n.log,n.safe,n.gen⟩:kp)=n:=rfl
@[go_sem] theorem adD:Int.toNat 2=2:=rfl
@[go_sem] theorem adE:Int.toNat 3=3:=rfl
@[go_sem] theorem adF:Int.toNat 4=4:=rfl
@[go_sem] theorem adG:Int.toNat 5=5:=rfl
@[go_sem] theorem adH:Int.toNat 6=6:=rfl
@[go_sem] theorem adI:Int.toNat 7=7:=rfl
@[go_sem] theorem adJ:Int.toNat 8=8:=rfl
@[go_sem] theorem adK:Int.toNat 9=9:=rfl
@[go_sem] theorem ac0:Int.toNat 10=10:=rfl
@[go_sem] theorem ac1:Int.toNat 11=11:=rfl
@[go_sem] theorem ac2:Int.toNat 12=12:=rfl
@[go_sem] theorem ac3:Int.toNat 13=13:=rfl
@[go_sem] theorem ac4:Int.toNat 14=14:=rfl
@[go_sem] theorem ac5:Int.toNat 15=15:=rfl
@[go_sem] theorem ac6:Int.toNat 16=16:=rfl
@[go_sem] theorem ac7:Int.toNat 17=17:=rfl
attribute [go_sem] decide_true decide_false LP vJ aB Nat.zero_add Int.toNat_natCast Int.toNat_zero Int.toNat_one if_true
@[go_sem] theorem adL (a b:Int):U.eq a b=decide (a=b):=by
  show (a==b)=_
  rfl
@[go_sem] theorem ac8 (a b:Bool):U.beq a b=decide (a=b):=by cases a<;>cases b<;>rfl
@[go_sem] theorem ac9 (i:Int) (n:Nat):U.cb i n=decide (0≤i∧i < (n:Int)):=by simp [U]
@[go_sem] theorem ada (l h:Int) (n:Nat):U.zK l h n=decide (0≤l∧l≤h∧h≤(n:Int)):=by simp [U,Bool.and_assoc]
@[go_sem] theorem ab9 (n b:Nat):U.fits n b=decide (n*b≤140737488355328):=rfl
@[go_sem] theorem aca (l c:Int) (b:Nat):U.xJ l c b=decide (0≤l∧l≤c∧c*(b:Int)≤140737488355328):=by simp [U,Bool.and_assoc]
@[go_sem] theorem adb (a b:Nat):U.neq a b=decide (a=b):=rfl
@[go_sem] theorem ade (i:Int):U.kz i=i.toNat:=rfl
@[go_sem] theorem acb (a b:Int):U.qK a b=a.toNat - b.toNat:=rfl
@[go_sem] theorem acd (a:Nat) (i:Int):U.idx a i 1=a+i.toNat:=by show (a+i.toNat)*1=_; omega
@[go_sem] theorem ace (n:Nat):Nat.mul n 1=n:=Nat.mul_one n
@[go_sem] theorem acf (n:Nat):Nat.mul 0 n=0:=Nat.zero_mul n
@[go_sem] theorem adf (a b:Bool):br a b false=(a&&b):=by cases a<;>rfl
@[go_sem] theorem adM (a b:Bool):br a true b=(a||b):=by cases a<;>rfl
@[go_sem] theorem adg (xs:List Int) (i:Nat):U.cV .i64 (ints xs) i=decide (i < xs.length):=by
  by_cases h:i < xs.length
  · simp [U,ints,h,eA]
  · simp [U,ints,List.getElem?_eq_none (Nat.not_lt.1 h),h]
@[go_sem] theorem acg (xs:List Int) (i:Nat):U.bY (ints xs) i=xs.getD i 0:=by
  by_cases h:i < xs.length
  · simp [U,ints,h,r8]
  · simp [U,ints,List.getElem?_eq_none (Nat.not_lt.1 h),r8]
@[go_sem] theorem ach (xs:List UInt8) (i:Nat):U.cV .u8 (bytes xs) i=decide (i < xs.length):=by
  by_cases h:i < xs.length
  · simp [U,bytes,ec,h,eA]
  · simp [U,bytes,List.getElem?_eq_none (Nat.not_lt.1 h),h]
@[go_sem] theorem aaj (xs:List UInt8) (i:Nat):U.bY (bytes xs) i=((xs.getD i 0).toNat:Int):=by
  by_cases h:i < xs.length
  · simp [U,bytes,ec,h,r8]
  · simp [U,bytes,List.getElem?_eq_none (Nat.not_lt.1 h),r8]
@[go_sem] theorem adh (xs:List Bool) (i:Nat):U.fj (aO xs) i=decide (i < xs.length):=by
  by_cases h:i < xs.length
  · simp [U,aO,h]
  · simp [U,aO,List.getElem?_eq_none (Nat.not_lt.1 h),h]
@[go_sem] theorem aci (xs:List Bool) (i:Nat):U.dI (aO xs) i=xs.getD i false:=by
  by_cases h:i < xs.length
  · simp [U,aO,h,yN]
  · simp [U,aO,List.getElem?_eq_none (Nat.not_lt.1 h),yN]
@[go_sem] theorem adi (g:Bool) (xs:List (List Int)) (i:Nat):U.eg 1 (rows (some g) xs) i=decide (i < xs.length):=by
  by_cases h:i < xs.length
  · simp [U,rows,h]
  · simp [U,rows,List.getElem?_eq_none (Nat.not_lt.1 h),h]
@[go_sem] theorem acj {g:Bool} {xs:List (List Int)} {i:Nat} (h:i < xs.length):U.dn (rows (some g) xs) i=g:=gL h
@[go_sem] theorem ack (xs:List (List Int)) (i:Nat):U.qL 1 (rows none xs) i=decide (i < xs.length):=by
  by_cases h:i < xs.length
  · simp [U,rows,h]
  · simp [U,rows,List.getElem?_eq_none (Nat.not_lt.1 h),h]
@[go_sem] theorem adj (xs:List (List Int)) (i:Nat):U.Uo (rows none xs) i=decide (i < xs.length):=by
  by_cases h:i < xs.length
  · simp [U,rows,h]
  · simp [U,rows,List.getElem?_eq_none (Nat.not_lt.1 h),h]
@[go_sem] theorem acm (g:Option Bool) (xs:List (List Int)) (i:Nat):U.cy (rows g xs) i=(xs.getD i []).length:=by
  by_cases h:i < xs.length
  · simp [U,rows,h,cN]
  · simp [U,rows,List.getElem?_eq_none (Nat.not_lt.1 h),cN]
@[go_sem] theorem acn (g:Option Bool) (xs:List (List Int)) (i:Nat):U.cH (rows g xs) i=ints (xs.getD i []):=by
  by_cases h:i < xs.length
  · simp [U,rows,h,cC]
  · simp [U,rows,List.getElem?_eq_none (Nat.not_lt.1 h),cC,ints]
@[go_sem] theorem aak (xs:List Int) (i:Nat):U.slot (ints xs) i=decide (i < xs.length):=by
  by_cases h:i < xs.length
  · simp [U,ints,h,fR]
  · simp [U,ints,List.getElem?_eq_none (Nat.not_lt.1 h),h]
@[go_sem] theorem aal (xs:List UInt8) (i:Nat):U.slot (bytes xs) i=decide (i < xs.length):=by
  by_cases h:i < xs.length
  · simp [U,bytes,ec,h,fR]
  · simp [U,bytes,List.getElem?_eq_none (Nat.not_lt.1 h),h]
@[go_sem] theorem aam (xs:List Bool) (i:Nat):U.slot (aO xs) i=decide (i < xs.length):=by
  by_cases h:i < xs.length
  · simp [U,aO,h,fR]
  · simp [U,aO,List.getElem?_eq_none (Nat.not_lt.1 h),h]
@[go_sem] theorem adk (xs:List (List Int)):U.nl (rows none xs)=true:=Rf (by simp) xs
attribute [go_sem] lz eI LR ints_set EE EF qu fJ gH jz gh gN iA fy pF I4
@[go_sem] theorem aco (xs:List (List Int)) (i n:Nat) (l:List Int) (h:n=l.length):List.set (rows none xs) i (.sl none 1 n (ints l))=rows none (xs.set i l):=by subst h; exact IB
@[go_sem] theorem aan (xs:List Int):U.flat (ints xs)=true:=List.all_eq_true.2 (by intro d hd; obtain ⟨a,_,rfl⟩:=List.mem_map.1 hd; rfl)
@[go_sem] theorem aao (xs:List UInt8):U.flat (bytes xs)=true:=List.all_eq_true.2 (by intro d hd; obtain ⟨a,_,rfl⟩:=List.mem_map.1 hd; rfl)
@[go_sem] theorem aap (xs:List Bool):U.flat (aO xs)=true:=List.all_eq_true.2 (by intro d hd; obtain ⟨a,_,rfl⟩:=List.mem_map.1 hd; rfl)
@[go_sem] theorem acp (xs:List UInt8):U.pB (bytes xs)=true:=by
  have:=AN (x:=true) (y:=false) xs
  rwa [aW] at this
@[go_sem] theorem adl (xs ys:List UInt8):U.seq (bs xs) (bs ys)=decide (xs=ys):=I5 xs ys
@[go_sem] theorem V4 (xs:List Int) (i:Nat):List.drop i (ints xs)=ints (xs.drop i):=by simp [ints,List.map_drop]
@[go_sem] theorem Xy (xs ys:List Int):List.append (ints xs) (ints ys)=ints (xs++ys):=by simp [ints]
@[go_sem] theorem aaq (xs:List Int) (x:Int):List.append (ints xs) [D.int .i64 x]=ints (xs++[x]):=by simp [ints]
@[go_sem] theorem ZO (xs:List UInt8) (x:UInt8):List.append (bytes xs) [ec x]=bytes (xs++[x]):=by simp [bytes]
@[go_sem] theorem YN (xs:List UInt8):List.append (bytes xs) [D.int .u8 0]=bytes (xs++[0]):=by simp [bytes,ec]
@[go_sem] theorem ZP (x:Int):List.append [] [D.int .i64 x]=ints [x]:=rfl
@[go_sem] theorem YO (x:UInt8):List.append [] [ec x]=bytes [x]:=rfl
@[go_sem] theorem aar (x:UInt8):U.flat [ec x]=true:=rfl
@[go_sem] theorem aas (k:IntKind) (x:Int):U.flat [D.int k x]=true:=rfl
@[go_sem] theorem adm:U.nl []=true:=rfl
@[go_sem] theorem aat (n:Nat):fD n [.int .u8 0]=bytes (List.replicate n 0):=NB n
@[go_sem] theorem aau (n:Nat):fD n [.int .i64 0]=ints (List.replicate n 0):=NA n
@[go_sem] theorem aav (n:Nat):fD n [.bool false]=aO (List.replicate n false):=NC n
@[go_sem] theorem aaw (n:Nat):fD n [.nil 1]=rows none (List.replicate n []):=NM n
@[go_sem] theorem aax (xs:List UInt8) (i:Nat):List.drop i (bytes xs)=bytes (xs.drop i):=by simp [bytes,List.map_drop]
@[go_sem] theorem aay (xs:List UInt8) (i:Nat):List.take i (bytes xs)=bytes (xs.take i):=by simp [bytes,List.map_take]
@[go_sem] theorem e_I (x:List Int):gI true (sI none x)=sI (some true) x:=by simp [gI,gh]
@[go_sem] theorem e_B (x:List UInt8):gI true (s8 none x)=s8 (some true) x:=by simp [gI,gH]
@[go_sem] theorem e_L (x:List Bool):gI true (sB none x)=sB (some true) x:=by simp [gI,jz]
@[go_sem] theorem e_R (x:List (List Int)):gI true (sR none x)=sR (some true) x:=by simp [gI,gN]
@[go_sem] theorem acq (x:aH):cM true (cd none x)=cd (some true) x:=by simp [gI,cM,gh,gN]
@[go_sem] theorem aaz (x:aG):cM true (dO none x)=dO (some true) x:=by simp [gI,cM,gH]
@[go_sem] theorem acr (x:ai):cM true (af none x)=af (some true) x:=by simp [gI,cM,gh,gN,gH,jz]
@[go_sem] theorem adn {a b:Int} (h:-9223372036854775808≤a - b) (h':a - b < 9223372036854775808):U.ar .sub .i64 a b=a - b:=kJ h h'
@[go_sem] theorem Rk {a b:Int} (h:-9223372036854775808≤a+b) (h':a+b < 9223372036854775808):U.ar .add .i64 a b=a+b:=LQ h h'
@[go_sem] theorem aaA (x:UInt8):U.wrap .i64 (x.toNat:Int)=x.toNat:=wrap64 (by omega) (by have:=x.toNat_lt; omega)end Go.Proofs.Ytockoilcnmljiaa
namespace Go.Proofs.Ytockoilcnmljiaa
set_option maxRecDepth 100000
set_option profiler true
set_option profiler.threshold 1000
section
variable (pr:ez) (cv:Cv Rz) (J:Nat→St→Option Rz)
theorem AP:Told cfg Try.prog 122 Try.f122:=⟨by kernel_rfl,Try.func122,by kernel_rfl⟩
theorem AQ (x0:aH) (x1:Int):bn pr cv J 122 Try.f122 [(.agg (cd (some true) x0)),(.int .i64 x1)]=
    (cv 130 [(.agg (cd (some true) x0))] (.sl (fun eb=>(fun dD=>(.done (br (br (br (pr.nl dD) true false) true false) (cv 131 [(.int .i64 x1)] (.ty ic.B (fun (o4:List UInt8)=>(.done (br (br (pr.flat [(.int .u8 (pr.wrap .u8 (pr.bu eb)))]) (pr.fits (o4.length+1) 1) false) (br (br (pr.flat dD) (pr.fits ((o4.length+1)+eb) 1) false) (br (br (pr.le 0 (pr.ar .sub .i64 156 (pr.bu ((o4.length+1)+eb)))) (pr.fits (((o4.length+1)+eb)+(pr.kz (pr.ar .sub .i64 156 (pr.bu ((o4.length+1)+eb))))) 1) false) (cv 131 [(.int .i64 x1)] (.ty ic.B (fun (sZ:List UInt8)=>(.done (br (br (pr.flat (bytes sZ)) (pr.fits ((((o4.length+1)+eb)+(pr.kz (pr.ar .sub .i64 156 (pr.bu ((o4.length+1)+eb)))))+sZ.length) 1) false) (some ((.sl none 1 ((((o4.length+1)+eb)+(pr.kz (pr.ar .sub .i64 156 (pr.bu ((o4.length+1)+eb)))))+sZ.length) (List.append (List.append (List.append (List.append (bytes o4) [(.int .u8 (pr.wrap .u8 (pr.bu eb)))]) dD) (fD (pr.kz (pr.ar .sub .i64 156 (pr.bu ((o4.length+1)+eb)))) [(.int .u8 0)])) (bytes sZ))),[.undef,.undef])) none))))) none) none) none))))) none)))))):=by kernel_rfl
def lE (x1:Int) (n0:Nat) (c1:List D):St:=(St.mk [(1,(.int .i64 x1)),(6,(.ref 10006 [] 0 none))] [(10006,[(.sl none 1 n0 c1)])] [] 0)
theorem Gb:Told cfg Try.prog 111 Try.f111:=⟨by kernel_rfl,Try.func111,by kernel_rfl⟩
theorem Gc (x0:aH) (x1:Int):bn pr cv J 111 Try.f111 [(.agg (cd (some true) x0)),(.int .i64 x1)]=
    (cv 118 [(.agg (cd (some true) x0))] (.sl (fun eb=>(fun dD=>(.done (br (br (br (pr.nl dD) true false) true false) (cv 119 [(.int .i64 x1)] (.ty ic.B (fun (o4:List UInt8)=>(.done (br (br (pr.flat [(.int .u8 (pr.wrap .u8 (pr.bu eb)))]) (pr.fits (o4.length+1) 1) false) (br (br (pr.flat dD) (pr.fits ((o4.length+1)+eb) 1) false) (J 0 (lE x1 ((o4.length+1)+eb) (List.append (List.append (bytes o4) [(.int .u8 (pr.wrap .u8 (pr.bu eb)))]) dD))) none) none))))) none)))))):=by kernel_rfl
theorem ta (x1:Int) (n0:Nat) (c1:List D):cB pr cv J 111 Try.f111 [.undef,.undef] 0 (lE x1 n0 c1)=
    (br (pr.lt (pr.bu n0) 156) (br (br (pr.flat [(.int .u8 0)]) (pr.fits (n0+1) 1) false) (J 0 (lE x1 (n0+1) (List.append c1 [(.int .u8 0)]))) none) (cv 119 [(.int .i64 x1)] (.ty ic.B (fun (zV:List UInt8)=>(.done (br (br (pr.flat (bytes zV)) (pr.fits (n0+zV.length) 1) false) (some ((.sl none 1 (n0+zV.length) (List.append c1 (bytes zV))),[.undef,.undef])) none)))))):=by kernel_rfl
theorem Gd:Told cfg Try.prog 117 Try.f117:=⟨by kernel_rfl,Try.func117,by kernel_rfl⟩
theorem Ge (x0:List UInt8):bn pr cv J 117 Try.f117 [(s8 (some true) x0)]=
    let y1:Option (D × List D):=(some ((.aQ [(.agg [(.sl none 1 0 []),(.sl none 1 0 []),(.bool false),(.bool false),(.bool false),(.int .i64 0)]),(.int .i64 0),(.bool false)]),[.undef]))
    let y2:D:=(.int .i64 (pr.ar .or .i64 (pr.ar .or .i64 (pr.ar .or .i64 (pr.wrap .i64 (pr.bY (bytes x0) (pr.idx 0 0 1))) (pr.ar .shl .i64 (pr.wrap .i64 (pr.bY (bytes x0) (pr.idx 0 1 1))) 8)) (pr.ar .shl .i64 (pr.wrap .i64 (pr.bY (bytes x0) (pr.idx 0 2 1))) 16)) (pr.ar .shl .i64 (pr.wrap .i64 (pr.bY (bytes x0) (pr.idx 0 3 1))) 24)))
    let y3:Int:=(pr.ar .add .i64 5 (pr.wrap .i64 (pr.bY (bytes x0) (pr.idx 0 4 1))))
    let y4:Nat:=(pr.qK y3 5)
    (br (br (pr.eq (pr.bu x0.length) 160) false true) y1 (br (pr.cb 0 x0.length) (br (br (pr.cV .u8 (bytes x0) (pr.idx 0 0 1)) true false) (br (pr.cb 1 x0.length) (br (br (pr.cV .u8 (bytes x0) (pr.idx 0 1 1)) true false) (br (br (pr.lt 8 0) false true) (br (pr.cb 2 x0.length) (br (br (pr.cV .u8 (bytes x0) (pr.idx 0 2 1)) true false) (br (br (pr.lt 16 0) false true) (br (pr.cb 3 x0.length) (br (br (pr.cV .u8 (bytes x0) (pr.idx 0 3 1)) true false) (br (br (pr.lt 24 0) false true) (br (pr.cb 4 x0.length) (br (br (pr.cV .u8 (bytes x0) (pr.idx 0 4 1)) true false) (cv 99 [y2,(.int .i64 1),(.int .i64 1000000)] (.bool (fun cm=>(.done (br (br cm false true) y1 (br (pr.lt 151 (pr.wrap .i64 (pr.bY (bytes x0) (pr.idx 0 4 1)))) y1 (br (pr.zK 5 y3 x0.length) (cv 125 [(.sl (some true) 1 y4 (List.take (Nat.mul y4 1) (List.drop (Nat.mul (pr.kz 5) 1) (bytes x0))))] (.ty ic.mt (fun (Cp:aH)=>(.bool (fun ix=>(.done (br (br ix false true) y1 (cv 122 [(.agg (cM true (cd none Cp))),y2] (.ty ic.B (fun (sZ:List UInt8)=>(.done (cv 126 [(gI true (s8 none sZ)),(s8 (some true) x0)] (.bool (fun IA=>(.done (br (br IA false true) y1 (some ((.aQ [(.agg (cd none Cp)),y2,(.bool true)]),[.undef])))))))))))))))))) none))))))) none) none) none) none) none) none) none) none) none) none) none) none) none)):=by kernel_rfl
theorem Gf:Told cfg Try.prog 97 Try.f97:=⟨by kernel_rfl,Try.func97,by kernel_rfl⟩
theorem Gg (x0:List UInt8):bn pr cv J 97 Try.f97 [(s8 (some true) x0)]=
    let y1:Option (D × List D):=(some ((.aQ [(.agg [(.sl none 1 0 []),(.sl none 1 0 []),(.bool false),(.bool false),(.bool false),(.int .i64 0)]),(.int .i64 0),(.bool false)]),[.undef]))
    let y2:D:=(.int .i64 (pr.ar .add .i64 (pr.ar .add .i64 (pr.ar .add .i64 (pr.wrap .i64 (pr.bY (bytes x0) (pr.idx 0 0 1))) (pr.ar .shl .i64 (pr.wrap .i64 (pr.bY (bytes x0) (pr.idx 0 1 1))) 8)) (pr.ar .shl .i64 (pr.wrap .i64 (pr.bY (bytes x0) (pr.idx 0 2 1))) 16)) (pr.ar .shl .i64 (pr.wrap .i64 (pr.bY (bytes x0) (pr.idx 0 3 1))) 24)))
    let y3:Int:=(pr.ar .add .i64 5 (pr.wrap .i64 (pr.bY (bytes x0) (pr.idx 0 4 1))))
    let y4:Nat:=(pr.qK y3 5)
    (br (br (pr.eq (pr.bu x0.length) 160) false true) y1 (br (pr.cb 0 x0.length) (br (br (pr.cV .u8 (bytes x0) (pr.idx 0 0 1)) true false) (br (pr.cb 1 x0.length) (br (br (pr.cV .u8 (bytes x0) (pr.idx 0 1 1)) true false) (br (br (pr.lt 8 0) false true) (br (pr.cb 2 x0.length) (br (br (pr.cV .u8 (bytes x0) (pr.idx 0 2 1)) true false) (br (br (pr.lt 16 0) false true) (br (pr.cb 3 x0.length) (br (br (pr.cV .u8 (bytes x0) (pr.idx 0 3 1)) true false) (br (br (pr.lt 24 0) false true) (br (pr.cb 4 x0.length) (br (br (pr.cV .u8 (bytes x0) (pr.idx 0 4 1)) true false) (cv 64 [y2,(.int .i64 1),(.int .i64 1000000)] (.bool (fun cm=>(.done (br (br cm false true) y1 (br (pr.lt 151 (pr.wrap .i64 (pr.bY (bytes x0) (pr.idx 0 4 1)))) y1 (br (pr.zK 5 y3 x0.length) (cv 113 [(.sl (some true) 1 y4 (List.take (Nat.mul y4 1) (List.drop (Nat.mul (pr.kz 5) 1) (bytes x0))))] (.ty ic.mt (fun (Cp:aH)=>(.bool (fun ix=>(.done (br (br ix false true) y1 (br (pr.pB (bytes x0)) (cv 111 [(.agg (cM true (cd none Cp))),y2] (.ty ic.B (fun (sZ:List UInt8)=>(.done (br (pr.pB (bytes sZ)) (br (br (pr.seq (pr.xI (bytes sZ)) (pr.xI (bytes x0))) false true) y1 (some ((.aQ [(.agg (cd none Cp)),y2,(.bool true)]),[.undef]))) none))))) none)))))))) none))))))) none) none) none) none) none) none) none) none) none) none) none) none) none)):=by kernel_rfl
theorem Gh:Told cfg Try.prog 106 Try.f106:=⟨by kernel_rfl,Try.func106,by kernel_rfl⟩
theorem Gi (x0:aG):bn pr cv J 106 Try.f106 [(.agg (dO (some true) x0))]=
    (cv 117 [(s8 (some true) x0.a)] (.ty ic.mt (fun (zV:aH)=>(.int (fun lX=>(.bool (fun ix=>(.done (cv 117 [(s8 (some true) x0.b)] (.ty ic.mt (fun (sZ:aH)=>(.int (fun nN=>(.bool (fun sr=>(.done (br sr (br (br ix false true) (some ((.aQ [(.agg (cd none sZ)),(.int .i64 nN),(.bool false)]),[.undef])) (br (pr.lt lX nN) (some ((.aQ [(.agg (cd none sZ)),(.int .i64 nN),(.bool false)]),[.undef])) (some ((.aQ [(.agg (cd none zV)),(.int .i64 lX),(.bool ix)]),[.undef])))) (some ((.aQ [(.agg (cd none zV)),(.int .i64 lX),(.bool ix)]),[.undef]))))))))))))))))))):=by kernel_rfl
theorem DD:Told cfg Try.prog 96 Try.f96:=⟨by kernel_rfl,Try.func96,by kernel_rfl⟩
theorem DE (x0:aG):bn pr cv J 96 Try.f96 [(.agg (dO (some true) x0))]=
    let y1:Option (D × List D):=(some ((.int .i64 0),[.undef]))
    let y2:Option (D × List D):=(some ((.int .i64 1),[.undef]))
    let y3:Option (D × List D):=(some ((.int .i64 (-1)),[.undef]))
    (cv 97 [(s8 (some true) x0.a)] (.ty ic.mt (fun (zV:aH)=>(.int (fun lX=>(.bool (fun ix=>(.done (cv 97 [(s8 (some true) x0.b)] (.ty ic.mt (fun (sZ:aH)=>(.int (fun nN=>(.bool (fun sr=>(.done (br ix (br (br sr false true) y1 (br (pr.le nN lX) y1 (br sr y2 y3))) (br sr y2 y3)))))))))))))))))):=by kernel_rfl
theorem DF:Told cfg Try.prog 76 Try.f76:=⟨by kernel_rfl,Try.func76,by kernel_rfl⟩
theorem DG (x0:aG):bn pr cv J 76 Try.f76 [(.agg (dO (some true) x0))]=
    (cv 106 [(.agg (dO (some true) x0))] (.ty ic.mt (fun (zV:aH)=>(.int (fun lX=>(.bool (fun ix=>(.done (some ((.aQ [(.agg (cd none zV)),(.int .i64 lX),(.bool (pr.lt 0 lX))]),[.undef])))))))))):=by kernel_rfl
theorem DH:Told cfg Try.prog 68 Try.f68:=⟨by kernel_rfl,Try.func68,by kernel_rfl⟩
theorem DI (x0:aG):bn pr cv J 68 Try.f68 [(.agg (dO (some true) x0))]=
    let y1:bO Rz:=(.ty ic.mt (fun (Cp:aH)=>(.int (fun uM=>(.bool (fun x7=>(.done (some ((.aQ [(.agg (cd none Cp)),(.int .i64 uM),(.bool x7)]),[.undef])))))))))
    (cv 96 [(.agg (dO (some true) x0))] (.int (fun gF=>(.done (br (pr.eq gF 1) (cv 97 [(s8 (some true) x0.b)] y1) (cv 97 [(s8 (some true) x0.a)] y1)))))):=by kernel_rfl
end
@[go_sem] theorem oR (a:Nat):(oN a).length=4:=rfl
attribute [go_sem] yg jy gG
@[go_sem] theorem SL (b0:Nat) (b:List UInt8) (e0:b0=b.length) (q0:b.length≤1000000) (t:bO Rz):bc 125 [.sl (some true) 1 b0 (bytes b)] t=feed t [enc .mt ((dp b).1),.bool ((dp b).2)]:=by
  subst e0
  exact bZ (r:=.aQ [enc .mt ((dp b).1),.bool ((dp b).2)]) (s:=.aQ [.ty .mt,.bool]) (ss:=[.undef]) (Ga b q0) (by kernel_rfl) (by simp only [ax,bH,bj,bI,bJ,aj,aq,Bool.and_self]) (by simp only [aj,aR,ax,aq,Bool.and_self]) (by first | rfl | simp only [aw,bg,bf,bE,bF,bh,bG,Bool.and_self]) (by first | rfl | simp only [List.all_cons,List.all_nil,aw,Bool.and_self]) t
@[go_sem] theorem SM (b0:Nat) (b:List UInt8) (e0:b0=b.length) (q0:b.length≤1000000) (t:bO Rz):bc 113 [.sl (some true) 1 b0 (bytes b)] t=feed t [enc .mt ((dp b).1),.bool ((dp b).2)]:=by
  subst e0
  exact bZ (r:=.aQ [enc .mt ((dp b).1),.bool ((dp b).2)]) (s:=.aQ [.ty .mt,.bool]) (ss:=[.undef]) (F9 b q0) (by kernel_rfl) (by simp only [ax,bH,bj,bI,bJ,aj,aq,Bool.and_self]) (by simp only [aj,aR,ax,aq,Bool.and_self]) (by first | rfl | simp only [aw,bg,bf,bE,bF,bh,bG,Bool.and_self]) (by first | rfl | simp only [List.all_cons,List.all_nil,aw,Bool.and_self]) t
@[go_sem] theorem V5 (a:Nat) (q0:a < 4611686018427387904) (t:bO Rz):bc 131 [.int .i64 (a:Int)] t=feed t [enc .B (oN a)]:=by
  exact bZ (r:=enc .B (oN a)) (s:=.ty .B) (ss:=[.undef]) (Vv a q0) (by kernel_rfl) (by simp only [ax,bH,bj,bI,bJ,aj,aq,Bool.and_self]) (by simp only [aj,aR,ax,aq,Bool.and_self]) (by first | rfl | simp only [aw,bg,bf,bE,bF,bh,bG,Bool.and_self]) (by first | rfl | simp only [List.all_cons,List.all_nil,aw,Bool.and_self]) t
@[go_sem] theorem VA (a:Nat) (q0:a < 4611686018427387904) (t:bO Rz):bc 119 [.int .i64 (a:Int)] t=feed t [enc .B (oN a)]:=by
  exact bZ (r:=enc .B (oN a)) (s:=.ty .B) (ss:=[.undef]) (So a q0) (by kernel_rfl) (by simp only [ax,bH,bj,bI,bJ,aj,aq,Bool.and_self]) (by simp only [aj,aR,ax,aq,Bool.and_self]) (by first | rfl | simp only [aw,bg,bf,bE,bF,bh,bG,Bool.and_self]) (by first | rfl | simp only [List.all_cons,List.all_nil,aw,Bool.and_self]) t
def lF (m:aH) (n:Nat):List UInt8:=oN n++[UInt8.ofNat (cg m).length]++cg m++List.replicate (151 - (cg m).length) 0++oN n
@[go_sem] theorem Qk (n k:Nat) (a:List Int) (b:List (List Int)) (f o h:Bool) (l:Int) (e1:n=a.length) (e2:k=b.length) (q:cO ⟨a,b,f,o,h,l⟩) (t:bO Rz):bc 118 [.agg [.sl (some true) 1 n (ints a),.sl (some true) 1 k (rows (some true) b),.bool f,.bool o,.bool h,.int .i64 l]] t=feed t [s8 none (cg ⟨a,b,f,o,h,l⟩)]:=by
  subst e1
  subst e2
  exact sU (g:=true) (m:=⟨a,b,f,o,h,l⟩) (hm:=q) t
@[go_sem] theorem Ql (n k:Nat) (a:List Int) (b:List (List Int)) (f o h:Bool) (l:Int) (e1:n=a.length) (e2:k=b.length) (q:cO ⟨a,b,f,o,h,l⟩) (t:bO Rz):bc 130 [.agg [.sl (some true) 1 n (ints a),.sl (some true) 1 k (rows (some true) b),.bool f,.bool o,.bool h,.int .i64 l]] t=feed t [s8 none (cg ⟨a,b,f,o,h,l⟩)]:=by
  subst e1
  subst e2
  exact sV (g:=true) (m:=⟨a,b,f,o,h,l⟩) (hm:=q) t
theorem tb (m:aH) (n:Nat) (q0:cO m) (q1:(cg m).length≤151) (q2:n < 4611686018427387904):Cm 122 [.agg (cd (some true) m),.int .i64 (n:Int)] (s8 none (lF m n),[.undef,.undef]):=by
  refine Cm.step AP _ fun J _=>?_
  rw [AQ]
  unfold lF
  simp (disch:=first | assumption | omega) only [go_sem,aB]
  have e:(156 - ((4+1+(cg m).length:Nat):Int)).toNat=151 - (cg m).length:=by omega
  rw [e]
  simp only [s8,List.length_append,oR,List.length_replicate,List.length_singleton]
@[go_sem] theorem Qm (mf:Nat) (fu:List Int) (mg:Nat) (fv:List (List Int)) (gq:Bool) (gr:Bool) (gu:Bool) (gv:Int) (n:Nat) (e0:mf=fu.length) (e1:mg=fv.length) (q0:cO (⟨fu,fv,gq,gr,gu,gv⟩:aH)) (q1:(cg (⟨fu,fv,gq,gr,gu,gv⟩:aH)).length≤151) (q2:n < 4611686018427387904) (t:bO Rz):bc 122 [.agg [.sl (some true) 1 mf (ints fu),.sl (some true) 1 mg (rows (some true) fv),.bool gq,.bool gr,.bool gu,.int .i64 gv],.int .i64 (n:Int)] t=feed t [enc .B (lF (⟨fu,fv,gq,gr,gu,gv⟩:aH) n)]:=by
  subst e0
  subst e1
  exact bZ (r:=enc .B (lF (⟨fu,fv,gq,gr,gu,gv⟩:aH) n)) (s:=.ty .B) (ss:=[.undef,.undef]) (tb (⟨fu,fv,gq,gr,gu,gv⟩:aH) n q0 q1 q2) (by kernel_rfl) (by simp only [ax,bH,bj,bI,bJ,aj,aq,Bool.and_self]) (by simp only [aj,aR,ax,aq,Bool.and_self]) (by first | rfl | simp only [aw,bg,bf,bE,bF,bh,bG,Bool.and_self]) (by first | rfl | simp only [List.all_cons,List.all_nil,aw,Bool.and_self]) t
theorem wE (m:aH) (n:Nat) (q0:cO m) (q1:(cg m).length≤151) (q2:n < 4611686018427387904):Cm 111 [.agg (cd (some true) m),.int .i64 (n:Int)] (s8 none (lF m n),[.undef,.undef]):=by
  have key:∀ k (o:List UInt8),o.length+k=156→WP 111 Try.f111 [.undef,.undef] 0 (lE (n:Int) o.length (bytes o)) (s8 none (o++List.replicate k 0++oN n),[.undef,.undef]):=by
    intro k
    induction k with
    | zero=>
      intro o ho
      refine WP.step fun J _=>?_
      rw [ta]
      simp (disch:=first | assumption | omega) only [go_sem]
      simp only [s8,List.replicate_zero,List.append_nil,List.length_append,oR]
    | succ k ih=>
      intro o ho
      refine WP.step fun J hJ=>?_
      rw [ta]
      simp (disch:=first | assumption | omega) only [go_sem]
      have h:=ih (o++[0]) (by simp only [List.length_append,List.length_singleton]; omega)
      rw [List.length_append,List.length_singleton,List.append_assoc o,List.singleton_append,← List.replicate_succ] at h
      exact hJ _ _ h
  refine Cm.step Gb [.undef,.undef] fun J hJ=>?_
  rw [Gc]
  simp (disch:=first | assumption | omega) only [go_sem]
  have h:=key (151 - (cg m).length) (oN n++[UInt8.ofNat (cg m).length]++cg m) (by simp only [List.length_append,oR,List.length_singleton]; omega)
  rw [List.length_append,List.length_append,oR,List.length_singleton] at h
  exact hJ _ _ h
@[go_sem] theorem SN (mf:Nat) (fu:List Int) (mg:Nat) (fv:List (List Int)) (gq:Bool) (gr:Bool) (gu:Bool) (gv:Int) (n:Nat) (e0:mf=fu.length) (e1:mg=fv.length) (q0:cO (⟨fu,fv,gq,gr,gu,gv⟩:aH)) (q1:(cg (⟨fu,fv,gq,gr,gu,gv⟩:aH)).length≤151) (q2:n < 4611686018427387904) (t:bO Rz):bc 111 [.agg [.sl (some true) 1 mf (ints fu),.sl (some true) 1 mg (rows (some true) fv),.bool gq,.bool gr,.bool gu,.int .i64 gv],.int .i64 (n:Int)] t=feed t [enc .B (lF (⟨fu,fv,gq,gr,gu,gv⟩:aH) n)]:=by
  subst e0
  subst e1
  exact bZ (r:=enc .B (lF (⟨fu,fv,gq,gr,gu,gv⟩:aH) n)) (s:=.ty .B) (ss:=[.undef,.undef]) (wE (⟨fu,fv,gq,gr,gu,gv⟩:aH) n q0 q1 q2) (by kernel_rfl) (by simp only [ax,bH,bj,bI,bJ,aj,aq,Bool.and_self]) (by simp only [aj,aR,ax,aq,Bool.and_self]) (by first | rfl | simp only [aw,bg,bf,bE,bF,bh,bG,Bool.and_self]) (by first | rfl | simp only [List.all_cons,List.all_nil,aw,Bool.and_self]) t
def kO (b:List UInt8):Nat:=(b.getD 0 0).toNat+(b.getD 1 0).toNat*256+(b.getD 2 0).toNat*65536+(b.getD 3 0).toNat*16777216
def j6 (b:List UInt8):List UInt8:=(b.drop 5).take (b.getD 4 0).toNat
def fK (b:List UInt8):Bool:=decide ((b.length:Int)=160)&&(decide (1≤(kO b:Int)∧(kO b:Int)≤1000000)&&(!decide (151 < ((b.getD 4 0).toNat:Int))&&((dp (j6 b)).2&&decide (lF (dp (j6 b)).1 (kO b)=b))))
def bM (b:List UInt8):aH × Int × Bool:=if fK b then ((dp (j6 b)).1,(kO b:Int),true) else (ff,0,false)
theorem Cq {b:List UInt8} (h:(dp b).2=true):cg (dp b).1=b:=by
  unfold dp at h ⊢
  split at h
  · rename_i h1
    rw [if_pos h1]
    simp only [Bool.and_eq_true,decide_eq_true_eq] at h1
    exact h1.2.1
  · simp at h
theorem ga {b:List UInt8} (h:fK b=false):bM b=(ff,0,false):=by unfold bM; rw [h]; rfl
theorem ub {b:List UInt8} (h:fK b=true):bM b=((dp (j6 b)).1,(kO b:Int),true):=by unfold bM; rw [h]; rfl
theorem I8 {b:List UInt8} (h:b.length=160) (h4:(b.getD 4 0).toNat≤151):(j6 b).length=(b.getD 4 0).toNat:=by simp only [j6,List.length_take,List.length_drop]; omega
theorem KJ (b:List UInt8):kO b < 4294967296:=by
  have:=(b.getD 0 0).toNat_lt; have:=(b.getD 1 0).toNat_lt; have:=(b.getD 2 0).toNat_lt; have:=(b.getD 3 0).toNat_lt
  unfold kO; omega
theorem vV (b:List UInt8):U.ar .add .i64 (U.ar .add .i64 (U.ar .add .i64 ((b.getD 0 0).toNat:Int) (U.ar .shl .i64 ((b.getD 1 0).toNat:Int) 8)) (U.ar .shl .i64 ((b.getD 2 0).toNat:Int) 16)) (U.ar .shl .i64 ((b.getD 3 0).toNat:Int) 24)=((kO b:Nat):Int):=by
  have h0:=(b.getD 0 0).toNat_lt; have h1:=(b.getD 1 0).toNat_lt; have h2:=(b.getD 2 0).toNat_lt; have h3:=(b.getD 3 0).toNat_lt
  have s1:U.ar .shl .i64 ((b.getD 1 0).toNat:Int) 8=_:=sL (k:=8) (by omega) (by omega)
  have s2:U.ar .shl .i64 ((b.getD 2 0).toNat:Int) 16=_:=sL (k:=16) (by omega) (by omega)
  have s3:U.ar .shl .i64 ((b.getD 3 0).toNat:Int) 24=_:=sL (k:=24) (by omega) (by omega)
  rw [s1,s2,s3,qv (by omega),qv (by omega),qv (by omega)]
  rfl
theorem y7 (b:List UInt8):U.ar .or .i64 (U.ar .or .i64 (U.ar .or .i64 ((b.getD 0 0).toNat:Int) (U.ar .shl .i64 ((b.getD 1 0).toNat:Int) 8)) (U.ar .shl .i64 ((b.getD 2 0).toNat:Int) 16)) (U.ar .shl .i64 ((b.getD 3 0).toNat:Int) 24)=((kO b:Nat):Int):=by
  have h0:=(b.getD 0 0).toNat_lt; have h1:=(b.getD 1 0).toNat_lt; have h2:=(b.getD 2 0).toNat_lt; have h3:=(b.getD 3 0).toNat_lt
  have s1:U.ar .shl .i64 ((b.getD 1 0).toNat:Int) 8=_:=sL (k:=8) (by omega) (by omega)
  have s2:U.ar .shl .i64 ((b.getD 2 0).toNat:Int) 16=_:=sL (k:=16) (by omega) (by omega)
  have s3:U.ar .shl .i64 ((b.getD 3 0).toNat:Int) 24=_:=sL (k:=24) (by omega) (by omega)
  rw [s1,s2,s3,GI (by omega) (by omega),Cd (k:=8) h0,GI (by omega) (by omega),Cd (k:=16) (by omega),GI (by omega) (by omega),Cd (k:=24) (by omega)]
  rfl
theorem VB {b:List UInt8} (h:¬((b.length:Int)=160)):fK b=false:=by simp only [fK,h,decide_false,Bool.false_and]
theorem VC {b:List UInt8} (h:¬(1≤(kO b:Int)∧(kO b:Int)≤1000000)):fK b=false:=by simp only [fK,h,decide_false,Bool.false_and,Bool.and_false]
theorem VD {b:List UInt8} (h:151 < ((b.getD 4 0).toNat:Int)):fK b=false:=by simp only [fK,h,decide_true,Bool.not_true,Bool.false_and,Bool.and_false]
theorem VE {b:List UInt8} (h:(dp (j6 b)).2=false):fK b=false:=by simp only [fK,h,Bool.false_and,Bool.and_false]
theorem VF {b:List UInt8} (h:¬(lF (dp (j6 b)).1 (kO b)=b)):fK b=false:=by simp only [fK,h,decide_false,Bool.and_false]
theorem VG {b:List UInt8} (h1:(b.length:Int)=160) (h2:1≤(kO b:Int)∧(kO b:Int)≤1000000) (h3:¬(151 < ((b.getD 4 0).toNat:Int))) (h4:(dp (j6 b)).2=true) (h5:lF (dp (j6 b)).1 (kO b)=b):fK b=true:=by simp only [fK,h1,h2,h3,h4,h5,and_self,decide_true,decide_false,Bool.not_false,Bool.and_self]
theorem Gj (b:List UInt8) (q0:b.length≤1048576):Cm 97 [s8 (some true) b] (.aQ [.agg (cd none ((bM b).1)),.int .i64 ((bM b).2.1),.bool ((bM b).2.2)],[.undef]):=by
  refine Cm.step Gf _ fun J _=>?_
  rw [Gg]
  simp (disch:=first | assumption | omega) only [go_sem]
  refine eV (fun hl=>?_) (fun hl=>by rw [ga (VB hl)]; rfl)
  have h4:=(b.getD 4 0).toNat_lt
  have hw:=KJ b
  simp (disch:=first | assumption | omega) only [go_sem,vV]
  refine eV (fun hn=>?_) (fun hn=>by rw [ga (VC hn)]; rfl)
  simp (disch:=first | assumption | omega) only [go_sem]
  refine eV (fun hs=>by rw [ga (VD hs)]; rfl) (fun hs=>?_)
  have hp:=I8 (b:=b) (by omega) (by omega)
  have ep:List.take (b.getD 4 0).toNat (List.drop 5 b)=j6 b:=rfl
  have ck:=yi (j6 b) (by omega)
  have e5:(5+((b.getD 4 0).toNat:Int)).toNat - 5=(b.getD 4 0).toNat:=by omega
  simp (disch:=first | assumption | omega) only [go_sem,e5,ep,vV]
  refine KI (fun hq=>?_) (fun hq=>by rw [ga (VE hq)]; rfl)
  have hm:=Cq hq
  simp (disch:=first | assumption | (rw [hm]; omega) | omega) only [go_sem,vV]
  refine eV (fun he=>?_) (fun he=>by rw [ga (VF he)]; rfl)
  simp (disch:=first | assumption | omega) only [go_sem,vV,ub (VG hl hn hs hq he)]
@[go_sem] theorem SO (b0:Nat) (b:List UInt8) (e0:b0=b.length) (q0:b.length≤1048576) (t:bO Rz):bc 97 [.sl (some true) 1 b0 (bytes b)] t=feed t [enc .mt ((bM b).1),.int .i64 ((bM b).2.1),.bool ((bM b).2.2)]:=by
  subst e0
  exact bZ (r:=.aQ [enc .mt ((bM b).1),.int .i64 ((bM b).2.1),.bool ((bM b).2.2)]) (s:=.aQ [.ty .mt,.int .i64,.bool]) (ss:=[.undef]) (Gj b q0) (by kernel_rfl) (by simp only [ax,bH,bj,bI,bJ,aj,aq,Bool.and_self]) (by simp only [aj,aR,ax,aq,Bool.and_self]) (by first | rfl | simp only [aw,bg,bf,bE,bF,bh,bG,Bool.and_self]) (by first | rfl | simp only [List.all_cons,List.all_nil,aw,Bool.and_self]) t
theorem Gk (b:List UInt8) (q0:b.length≤1048576):Cm 117 [s8 (some true) b] (.aQ [.agg (cd none ((bM b).1)),.int .i64 ((bM b).2.1),.bool ((bM b).2.2)],[.undef]):=by
  refine Cm.step Gd _ fun J _=>?_
  rw [Ge]
  simp (disch:=first | assumption | omega) only [go_sem]
  refine eV (fun hl=>?_) (fun hl=>by rw [ga (VB hl)]; rfl)
  have h4:=(b.getD 4 0).toNat_lt
  have hw:=KJ b
  simp (disch:=first | assumption | omega) only [go_sem,y7]
  refine eV (fun hn=>?_) (fun hn=>by rw [ga (VC hn)]; rfl)
  simp (disch:=first | assumption | omega) only [go_sem]
  refine eV (fun hs=>by rw [ga (VD hs)]; rfl) (fun hs=>?_)
  have hp:=I8 (b:=b) (by omega) (by omega)
  have ep:List.take (b.getD 4 0).toNat (List.drop 5 b)=j6 b:=rfl
  have ck:=yi (j6 b) (by omega)
  have e5:(5+((b.getD 4 0).toNat:Int)).toNat - 5=(b.getD 4 0).toNat:=by omega
  simp (disch:=first | assumption | omega) only [go_sem,e5,ep,y7]
  refine KI (fun hq=>?_) (fun hq=>by rw [ga (VE hq)]; rfl)
  have hm:=Cq hq
  simp (disch:=first | assumption | (rw [hm]; omega) | omega) only [go_sem,y7]
  refine eV (fun he=>?_) (fun he=>by rw [ga (VF he)]; rfl)
  simp (disch:=first | assumption | omega) only [go_sem,y7,ub (VG hl hn hs hq he)]
@[go_sem] theorem SP (b0:Nat) (b:List UInt8) (e0:b0=b.length) (q0:b.length≤1048576) (t:bO Rz):bc 117 [.sl (some true) 1 b0 (bytes b)] t=feed t [enc .mt ((bM b).1),.int .i64 ((bM b).2.1),.bool ((bM b).2.2)]:=by
  subst e0
  exact bZ (r:=.aQ [enc .mt ((bM b).1),.int .i64 ((bM b).2.1),.bool ((bM b).2.2)]) (s:=.aQ [.ty .mt,.int .i64,.bool]) (ss:=[.undef]) (Gk b q0) (by kernel_rfl) (by simp only [ax,bH,bj,bI,bJ,aj,aq,Bool.and_self]) (by simp only [aj,aR,ax,aq,Bool.and_self]) (by first | rfl | simp only [aw,bg,bf,bE,bF,bh,bG,Bool.and_self]) (by first | rfl | simp only [List.all_cons,List.all_nil,aw,Bool.and_self]) t
theorem E3 (b:List UInt8):cO (bM b).1:=by
  unfold bM
  split
  · exact yi (j6 b) (by have:=(b.getD 4 0).toNat_lt; simp only [j6,List.length_take,List.length_drop]; omega)
  · exact ⟨by simp [ff],by simp [ff],by simp [ff]⟩
theorem Cr (b:List UInt8):if (bM b).2.2 then 1≤(bM b).2.1∧(bM b).2.1≤1000000 else bM b=(ff,0,false):=by
  cases h:fK b with
  | false=>rw [ga h]; rfl
  | true=>
    rw [ub h]
    simp only [fK,Bool.and_eq_true,decide_eq_true_eq] at h
    exact h.2.1
def Cs (s:aG):Bool:=(bM s.b).2.2&&(!(bM s.a).2.2||decide ((bM s.a).2.1 < (bM s.b).2.1))
def aD (s:aG):aH × Int × Bool:=if Cs s then bM s.b else bM s.a
def mL (s:aG):Bool:=!Cs s&&(bM s.a).2.2
theorem wF (s:aG) (q0:eT s):Cm 106 [.agg (dO (some true) s)] (.aQ [.agg (cd none ((((aD s).1,(aD s).2.1,mL s)).1)),.int .i64 ((((aD s).1,(aD s).2.1,mL s)).2.1),.bool ((((aD s).1,(aD s).2.1,mL s)).2.2)],[.undef]):=by
  have qa:=q0.a
  have qb:=q0.b
  have h1:=Cr s.a
  refine Cm.step Gh _ fun J _=>?_
  rw [Gi]
  simp (disch:=first | assumption | omega) only [go_sem]
  unfold aD mL Cs
  generalize bM s.a=a at*
  generalize bM s.b=b at*
  obtain ⟨a1,a2,a3⟩:=a
  obtain ⟨b1,b2,b3⟩:=b
  cases a3<;>cases b3<;>by_cases h:a2 < b2<;>simp [br,h,enc,LP]
@[go_sem] theorem SQ (tc:Nat) (ew:List UInt8) (td:Nat) (ey:List UInt8) (e0:tc=ew.length) (e1:td=ey.length) (q0:eT (⟨ew,ey⟩:aG)) (t:bO Rz):bc 106 [.agg [.sl (some true) 1 tc (bytes ew),.sl (some true) 1 td (bytes ey)]] t=feed t [enc .mt ((((aD (⟨ew,ey⟩:aG)).1,(aD (⟨ew,ey⟩:aG)).2.1,mL (⟨ew,ey⟩:aG))).1),.int .i64 ((((aD (⟨ew,ey⟩:aG)).1,(aD (⟨ew,ey⟩:aG)).2.1,mL (⟨ew,ey⟩:aG))).2.1),.bool ((((aD (⟨ew,ey⟩:aG)).1,(aD (⟨ew,ey⟩:aG)).2.1,mL (⟨ew,ey⟩:aG))).2.2)]:=by
  subst e0
  subst e1
  exact bZ (r:=.aQ [enc .mt ((((aD (⟨ew,ey⟩:aG)).1,(aD (⟨ew,ey⟩:aG)).2.1,mL (⟨ew,ey⟩:aG))).1),.int .i64 ((((aD (⟨ew,ey⟩:aG)).1,(aD (⟨ew,ey⟩:aG)).2.1,mL (⟨ew,ey⟩:aG))).2.1),.bool ((((aD (⟨ew,ey⟩:aG)).1,(aD (⟨ew,ey⟩:aG)).2.1,mL (⟨ew,ey⟩:aG))).2.2)]) (s:=.aQ [.ty .mt,.int .i64,.bool]) (ss:=[.undef]) (wF (⟨ew,ey⟩:aG) q0) (by kernel_rfl) (by simp only [ax,bH,bj,bI,bJ,aj,aq,Bool.and_self]) (by simp only [aj,aR,ax,aq,Bool.and_self]) (by first | rfl | simp only [aw,bg,bf,bE,bF,bh,bG,Bool.and_self]) (by first | rfl | simp only [List.all_cons,List.all_nil,aw,Bool.and_self]) t
def qx (s:aG):Int:=if (bM s.a).2.2&&(!(bM s.b).2.2||decide ((bM s.b).2.1≤(bM s.a).2.1)) then 0 else if (bM s.b).2.2 then 1 else -1
theorem uZ (s:aG) (q0:eT s):Cm 96 [.agg (dO (some true) s)] (.int .i64 (qx s),[.undef]):=by
  have qa:=q0.a
  have qb:=q0.b
  refine Cm.step DD _ fun J _=>?_
  rw [DE]
  simp (disch:=first | assumption | omega) only [go_sem]
  unfold qx
  generalize bM s.a=a
  generalize bM s.b=b
  obtain ⟨a1,a2,a3⟩:=a
  obtain ⟨b1,b2,b3⟩:=b
  cases a3<;>cases b3<;>by_cases h:b2≤a2<;>simp [br,h,vJ]
@[go_sem] theorem Sr (tc:Nat) (ew:List UInt8) (td:Nat) (ey:List UInt8) (e0:tc=ew.length) (e1:td=ey.length) (q0:eT (⟨ew,ey⟩:aG)) (t:bO Rz):bc 96 [.agg [.sl (some true) 1 tc (bytes ew),.sl (some true) 1 td (bytes ey)]] t=feed t [.int .i64 (qx (⟨ew,ey⟩:aG))]:=by
  subst e0
  subst e1
  exact bZ (r:=.int .i64 (qx (⟨ew,ey⟩:aG))) (s:=.int .i64) (ss:=[.undef]) (uZ (⟨ew,ey⟩:aG) q0) (by kernel_rfl) (by simp only [ax,bH,bj,bI,bJ,aj,aq,Bool.and_self]) (by simp only [aj,aR,ax,aq,Bool.and_self]) (by first | rfl | simp only [aw,bg,bf,bE,bF,bh,bG,Bool.and_self]) (by first | rfl | simp only [List.all_cons,List.all_nil,aw,Bool.and_self]) t
theorem L3 (s:aG):decide (qx s=1)=Cs s:=by
  unfold qx Cs
  generalize bM s.a=a
  generalize bM s.b=b
  obtain ⟨a1,a2,a3⟩:=a
  obtain ⟨b1,b2,b3⟩:=b
  cases a3<;>cases b3<;>by_cases h:b2≤a2<;>simp [h]<;>omega
theorem JK (s:aG):decide (0 < (aD s).2.1)=(aD s).2.2:=by
  unfold aD
  have key:∀ b,decide (0 < (bM b).2.1)=(bM b).2.2:=fun b=>by
    have h:=Cr b
    split at h
    · rename_i h1
      rw [h1,decide_eq_true (by omega)]
    · rw [h]; rfl
  split<;>exact key _
theorem Ct (s:aG):cO (aD s).1:=by
  unfold aD
  split
  · exact E3 _
  · exact E3 _
theorem u3 (s:aG) (q0:eT s):Cm 76 [.agg (dO (some true) s)] (.aQ [.agg (cd none ((aD s).1)),.int .i64 ((aD s).2.1),.bool ((aD s).2.2)],[.undef]):=by
  refine Cm.step DF _ fun J _=>?_
  rw [DG]
  simp (disch:=first | assumption | omega) only [go_sem,JK]
@[go_sem] theorem Ss (tc:Nat) (ew:List UInt8) (td:Nat) (ey:List UInt8) (e0:tc=ew.length) (e1:td=ey.length) (q0:eT (⟨ew,ey⟩:aG)) (t:bO Rz):bc 76 [.agg [.sl (some true) 1 tc (bytes ew),.sl (some true) 1 td (bytes ey)]] t=feed t [enc .mt ((aD (⟨ew,ey⟩:aG)).1),.int .i64 ((aD (⟨ew,ey⟩:aG)).2.1),.bool ((aD (⟨ew,ey⟩:aG)).2.2)]:=by
  subst e0
  subst e1
  exact bZ (r:=.aQ [enc .mt ((aD (⟨ew,ey⟩:aG)).1),.int .i64 ((aD (⟨ew,ey⟩:aG)).2.1),.bool ((aD (⟨ew,ey⟩:aG)).2.2)]) (s:=.aQ [.ty .mt,.int .i64,.bool]) (ss:=[.undef]) (u3 (⟨ew,ey⟩:aG) q0) (by kernel_rfl) (by simp only [ax,bH,bj,bI,bJ,aj,aq,Bool.and_self]) (by simp only [aj,aR,ax,aq,Bool.and_self]) (by first | rfl | simp only [aw,bg,bf,bE,bF,bh,bG,Bool.and_self]) (by first | rfl | simp only [List.all_cons,List.all_nil,aw,Bool.and_self]) t
theorem u4 (s:aG) (q0:eT s):Cm 68 [.agg (dO (some true) s)] (.aQ [.agg (cd none ((aD s).1)),.int .i64 ((aD s).2.1),.bool ((aD s).2.2)],[.undef]):=by
  have qa:=q0.a
  have qb:=q0.b
  refine Cm.step DH _ fun J _=>?_
  rw [DI]
  simp (disch:=first | assumption | omega) only [go_sem,L3]
  unfold aD
  refine yj (fun h=>?_) (fun h=>?_)
  · simp (disch:=first | assumption | omega) only [go_sem,h]
  · simp (disch:=first | assumption | omega) only [go_sem,if_neg h]
@[go_sem] theorem Su (tc:Nat) (ew:List UInt8) (td:Nat) (ey:List UInt8) (e0:tc=ew.length) (e1:td=ey.length) (q0:eT (⟨ew,ey⟩:aG)) (t:bO Rz):bc 68 [.agg [.sl (some true) 1 tc (bytes ew),.sl (some true) 1 td (bytes ey)]] t=feed t [enc .mt ((aD (⟨ew,ey⟩:aG)).1),.int .i64 ((aD (⟨ew,ey⟩:aG)).2.1),.bool ((aD (⟨ew,ey⟩:aG)).2.2)]:=by
  subst e0
  subst e1
  exact bZ (r:=.aQ [enc .mt ((aD (⟨ew,ey⟩:aG)).1),.int .i64 ((aD (⟨ew,ey⟩:aG)).2.1),.bool ((aD (⟨ew,ey⟩:aG)).2.2)]) (s:=.aQ [.ty .mt,.int .i64,.bool]) (ss:=[.undef]) (u4 (⟨ew,ey⟩:aG) q0) (by kernel_rfl) (by simp only [ax,bH,bj,bI,bJ,aj,aq,Bool.and_self]) (by simp only [aj,aR,ax,aq,Bool.and_self]) (by first | rfl | simp only [aw,bg,bf,bE,bF,bh,bG,Bool.and_self]) (by first | rfl | simp only [List.all_cons,List.all_nil,aw,Bool.and_self]) t
end Go.Proofs.Ytockoilcnmljiaa
namespace Go.Proofs.Ytockoilcnmljiaa
set_option maxRecDepth 100000
section
variable (pr:ez) (cv:Cv Rz) (J:Nat→St→Option Rz)
def gT (x0:ai) (i0:Int):St:=(St.mk [(1,(.ptr 1 [] 0)),(85,(.int .i64 i0))] [(1,(af (some true) x0))] [] 0)
def gU (x0:ai) (i0:Int) (i1:Int):St:=(St.mk [(1,(.ptr 1 [] 0)),(139,(sI (some true) x0.wait)),(140,(.int .i64 i0)),(141,(.int .i64 i1))] [(1,(af (some true) x0))] [] 0)
theorem Gl:Told cfg Try.prog 42 Try.f42:=⟨by kernel_rfl,Try.func42,by kernel_rfl⟩
theorem Gm (x0:ai):bn pr cv J 42 Try.f42 [(.agg (af (some true) x0))]=
    let y1:Option (D × List D):=(some ((.bool false),[.undef]))
    let y2:Option Rz:=(cv 76 [(.agg (dO (some true) x0.dr))] (.ty ic.mt (fun (vm4:aH)=>(.int (fun su=>(.bool (fun qt=>(.done (br (br qt false true) y1 (cv 77 [(.agg (cM true (cd none vm4))),(.agg (cd (some true) x0.mt))] (.bool (fun NK=>(.done (br (br NK false true) y1 (J 0 (gT x0 0))))))))))))))))
    let y3:Option (D × List D):=(br (br x0.up false true) (br (pr.lt 0 (pr.bu x0.wait.length)) y1 y2) y2)
    (cv 72 [(.int .i64 x0.id)] (.bool (fun cm=>(.done (br (br cm false true) y1 (cv 73 [(sI (some true) x0.image)] (.bool (fun jw=>(.done (br (br jw false true) y1 (cv 74 [(.agg (cd (some true) x0.mt))] (.bool (fun ix=>(.done (br (br ix false true) y1 (br (br (pr.eq (pr.bu x0.conn.length) 3) false true) y1 (cv 75 [(sR (some true) x0.sync)] (.bool (fun x7=>(.done (br (br x7 false true) y1 (br (br (pr.eq (pr.bu x0.bp.length) 3) false true) y1 (br x0.eS (br (br x0.up false true) y1 (br (pr.eq x0.id 2) y1 y3)) y3))))))))))))))))))))))):=by kernel_rfl
theorem AR (x0:ai) (i0:Int):cB pr cv J 42 Try.f42 [.undef] 0 (gT x0 i0)=
    let y1:Option (D × List D):=(some ((.bool false),[.undef]))
    let y2:Option Rz:=(J 0 (gT x0 (pr.ar .add .i64 i0 1)))
    let y3:Option (D × List D):=(br (pr.cb i0 x0.sync.length) (br (br (pr.eg 1 (rows (some true) x0.sync) (pr.idx 0 i0 1)) true false) (br (pr.lt 0 (pr.bu (pr.cy (rows (some true) x0.sync) (pr.idx 0 i0 1)))) (br (pr.cb i0 x0.bp.length) (br (br (pr.fj (aO x0.bp) (pr.idx 0 i0 1)) true false) (br (br (pr.dI (aO x0.bp) (pr.idx 0 i0 1)) false true) y1 y2) none) none) y2) none) none)
    let y4:Option (D × List D):=(br (pr.cb i0 x0.bp.length) (br (br (pr.fj (aO x0.bp) (pr.idx 0 i0 1)) true false) (br (pr.dI (aO x0.bp) (pr.idx 0 i0 1)) (br (pr.cb i0 x0.conn.length) (br (br (pr.fj (aO x0.conn) (pr.idx 0 i0 1)) true false) (br (br (pr.dI (aO x0.conn) (pr.idx 0 i0 1)) false true) y1 y3) none) none) y3) none) none)
    (br (pr.lt i0 3) (br x0.up (br (pr.cb i0 x0.conn.length) (br (br (pr.fj (aO x0.conn) (pr.idx 0 i0 1)) true false) (br (pr.dI (aO x0.conn) (pr.idx 0 i0 1)) (br (br (br (pr.eq i0 x0.id) false true) false true) y1 y4) y4) none) none) (br (pr.cb i0 x0.conn.length) (br (br (pr.fj (aO x0.conn) (pr.idx 0 i0 1)) true false) (br (pr.dI (aO x0.conn) (pr.idx 0 i0 1)) y1 y4) none) none)) (J 2 (gU x0 (pr.bu x0.wait.length) 0))):=by kernel_rfl
theorem AS (x0:ai) (i0:Int) (i1:Int):cB pr cv J 42 Try.f42 [.undef] 2 (gU x0 i0 i1)=
    let y1:Option (D × List D):=(some ((.bool false),[.undef]))
    let y2:Option Rz:=(J 2 (gU x0 i0 (pr.ar .add .i64 i1 1)))
    (br (pr.lt i1 i0) (br (pr.cb i1 x0.wait.length) (br (br (pr.cV .i64 (ints x0.wait) (pr.idx 0 i1 1)) true false) (cv 78 [(.int .i64 (pr.bY (ints x0.wait) (pr.idx 0 i1 1)))] (.bool (fun cm=>(.done (br (br cm false true) y1 (br (pr.lt 0 i1) (br (pr.cb (pr.ar .sub .i64 i1 1) x0.wait.length) (br (br (pr.cV .i64 (ints x0.wait) (pr.idx 0 (pr.ar .sub .i64 i1 1) 1)) true false) (br (pr.le (pr.bY (ints x0.wait) (pr.idx 0 i1 1)) (pr.bY (ints x0.wait) (pr.idx 0 (pr.ar .sub .i64 i1 1) 1))) y1 y2) none) none) y2)))))) none) none) (some ((.bool true),[.undef]))):=by kernel_rfl
def jL (x0:ai) (i0:Int):St:=(St.mk [(1,(.ptr 1 [] 0)),(3,(.int .i64 i0))] [(1,(af (some true) x0))] [] 0)
theorem Gn:Told cfg Try.prog 38 Try.f38:=⟨by kernel_rfl,Try.func38,by kernel_rfl⟩
theorem Gp (x0:ai):bn pr cv J 38 Try.f38 [(.agg (af (some true) x0))]=
    let y1:Option (D × List D):=(some ((.bool false),[.undef]))
    let y2:Option Rz:=(J 0 (jL x0 0))
    let y3:Option (D × List D):=(br (br x0.up false true) (br (pr.lt 0 (pr.bu x0.wait.length)) y1 y2) y2)
    (cv 64 [(.int .i64 x0.id),(.int .i64 0),(.int .i64 2)] (.bool (fun cm=>(.done (br (br cm false true) y1 (cv 65 [(sI (some true) x0.image)] (.bool (fun jw=>(.done (br (br jw false true) y1 (cv 66 [(.agg (cd (some true) x0.mt))] (.bool (fun ix=>(.done (br (br ix false true) y1 (cv 67 [(.agg (af (some true) x0))] (.bool (fun x7=>(.done (br (br x7 false true) y1 (br x0.eS (br (br x0.up false true) y1 (br (pr.eq x0.id 2) y1 y3)) y3))))))))))))))))))))):=by kernel_rfl
theorem AT (x0:ai) (i0:Int):cB pr cv J 38 Try.f38 [.undef] 0 (jL x0 i0)=
    let y1:Bool:=(br (pr.cV .i64 (ints x0.wait) (pr.idx 0 i0 1)) true false)
    let y2:Option (D × List D):=(some ((.bool false),[.undef]))
    let y3:Option Rz:=(J 0 (jL x0 (pr.ar .add .i64 i0 1)))
    (br (pr.lt i0 (pr.bu x0.wait.length)) (br (pr.cb i0 x0.wait.length) (br y1 (cv 64 [(.int .i64 (pr.bY (ints x0.wait) (pr.idx 0 i0 1))),(.int .i64 1),(.int .i64 200)] (.bool (fun cm=>(.done (br (br cm false true) y2 (br (pr.lt 0 i0) (br (pr.cb (pr.ar .sub .i64 i0 1) x0.wait.length) (br (br (pr.cV .i64 (ints x0.wait) (pr.idx 0 (pr.ar .sub .i64 i0 1) 1)) true false) (br (pr.cb i0 x0.wait.length) (br y1 (br (pr.le (pr.bY (ints x0.wait) (pr.idx 0 i0 1)) (pr.bY (ints x0.wait) (pr.idx 0 (pr.ar .sub .i64 i0 1) 1))) y2 y3) none) none) none) none) y3)))))) none) none) (cv 68 [(.agg (dO (some true) x0.dr))] (.ty ic.mt (fun (Cp:aH)=>(.int (fun uM=>(.bool (fun x7=>(.done (br x7 (cv 69 [(.agg (cM true (cd none Cp))),(.agg (cd (some true) x0.mt))] (.bool (fun IA=>(.done (some ((.bool IA),[.undef])))))) y2)))))))))):=by kernel_rfl
def gE (x0:ai) (i0:Int):St:=(St.mk [(1,(.ptr 1 [] 0)),(3,(.int .i64 i0))] [(1,(af (some true) x0))] [] 0)
theorem DJ:Told cfg Try.prog 67 Try.f67:=⟨by kernel_rfl,Try.func67,by kernel_rfl⟩
theorem DK (x0:ai):bn pr cv J 67 Try.f67 [(.agg (af (some true) x0))]=
    let y1:Option (D × List D):=(some ((.bool false),[.undef]))
    (br (br (pr.eq (pr.bu x0.conn.length) 3) false true) y1 (br (br (pr.eq (pr.bu x0.sync.length) 3) false true) y1 (br (br (pr.eq (pr.bu x0.bp.length) 3) false true) y1 (J 0 (gE x0 0))))):=by kernel_rfl
theorem zf (x0:ai) (i0:Int):cB pr cv J 67 Try.f67 [.undef] 0 (gE x0 i0)=
    let y1:Bool:=(br (pr.eg 1 (rows (some true) x0.sync) (pr.idx 0 i0 1)) true false)
    let y2:Option (D × List D):=(some ((.bool false),[.undef]))
    let y3:Option Rz:=(J 0 (gE x0 (pr.ar .add .i64 i0 1)))
    let y4:Option (D × List D):=(br (pr.cb i0 x0.conn.length) (br (br (pr.fj (aO x0.conn) (pr.idx 0 i0 1)) true false) (br (pr.dI (aO x0.conn) (pr.idx 0 i0 1)) (br (br x0.up false true) y2 (br (pr.eq i0 x0.id) y2 y3)) y3) none) none)
    let y5:Option (D × List D):=(br (pr.cb i0 x0.bp.length) (br (br (pr.fj (aO x0.bp) (pr.idx 0 i0 1)) true false) (br (pr.dI (aO x0.bp) (pr.idx 0 i0 1)) (br (pr.cb i0 x0.conn.length) (br (br (pr.fj (aO x0.conn) (pr.idx 0 i0 1)) true false) (br (br (pr.dI (aO x0.conn) (pr.idx 0 i0 1)) false true) y2 y4) none) none) y4) none) none)
    (br (pr.lt i0 3) (br (pr.cb i0 x0.sync.length) (br y1 (cv 94 [(.sl (some (pr.dn (rows (some true) x0.sync) (pr.idx 0 i0 1))) 1 (pr.cy (rows (some true) x0.sync) (pr.idx 0 i0 1)) (pr.cH (rows (some true) x0.sync) (pr.idx 0 i0 1)))] (.bool (fun cm=>(.done (br (br cm false true) y2 (br (pr.cb i0 x0.sync.length) (br y1 (br (pr.lt 0 (pr.bu (pr.cy (rows (some true) x0.sync) (pr.idx 0 i0 1)))) (br (pr.cb i0 x0.bp.length) (br (br (pr.fj (aO x0.bp) (pr.idx 0 i0 1)) true false) (br (br (pr.dI (aO x0.bp) (pr.idx 0 i0 1)) false true) y2 y5) none) none) y5) none) none)))))) none) none) (some ((.bool true),[.undef]))):=by kernel_rfl
end
@[go_sem] theorem SS (mf:Nat) (fu:List Int) (mg:Nat) (fv:List (List Int)) (gq:Bool) (gr:Bool) (gu:Bool) (gv:Int) (e0:mf=fu.length) (e1:mg=fv.length) (q0:cO (⟨fu,fv,gq,gr,gu,gv⟩:aH)) (t:bO Rz):bc 74 [.agg [.sl (some true) 1 mf (ints fu),.sl (some true) 1 mg (rows (some true) fv),.bool gq,.bool gr,.bool gu,.int .i64 gv]] t=feed t [.bool (gb (⟨fu,fv,gq,gr,gu,gv⟩:aH))]:=by
  subst e0
  subst e1
  exact bZ (r:=.bool (gb (⟨fu,fv,gq,gr,gu,gv⟩:aH))) (s:=.bool) (ss:=[.undef]) (wi true (⟨fu,fv,gq,gr,gu,gv⟩:aH) q0) (by kernel_rfl) (by simp only [ax,bH,bj,bI,bJ,aj,aq,Bool.and_self]) (by simp only [aj,aR,ax,aq,Bool.and_self]) (by first | rfl | simp only [aw,bg,bf,bE,bF,bh,bG,Bool.and_self]) (by first | rfl | simp only [List.all_cons,List.all_nil,aw,Bool.and_self]) t
@[go_sem] theorem SU (mf:Nat) (fu:List Int) (mg:Nat) (fv:List (List Int)) (gq:Bool) (gr:Bool) (gu:Bool) (gv:Int) (e0:mf=fu.length) (e1:mg=fv.length) (q0:cO (⟨fu,fv,gq,gr,gu,gv⟩:aH)) (t:bO Rz):bc 66 [.agg [.sl (some true) 1 mf (ints fu),.sl (some true) 1 mg (rows (some true) fv),.bool gq,.bool gr,.bool gu,.int .i64 gv]] t=feed t [.bool (gb (⟨fu,fv,gq,gr,gu,gv⟩:aH))]:=by
  subst e0
  subst e1
  exact bZ (r:=.bool (gb (⟨fu,fv,gq,gr,gu,gv⟩:aH))) (s:=.bool) (ss:=[.undef]) (wh true (⟨fu,fv,gq,gr,gu,gv⟩:aH) q0) (by kernel_rfl) (by simp only [ax,bH,bj,bI,bJ,aj,aq,Bool.and_self]) (by simp only [aj,aR,ax,aq,Bool.and_self]) (by first | rfl | simp only [aw,bg,bf,bE,bF,bh,bG,Bool.and_self]) (by first | rfl | simp only [List.all_cons,List.all_nil,aw,Bool.and_self]) t
@[go_sem] theorem Rl (mf:Nat) (fu:List Int) (mg:Nat) (fv:List (List Int)) (gq:Bool) (gr:Bool) (gu:Bool) (gv:Int) (I9:Nat) (u5:List Int) (Ja:Nat) (u6:List (List Int)) (yk:Bool) (ym:Bool) (yn:Bool) (yo:Int) (e0:mf=fu.length) (e1:mg=fv.length) (e2:I9=u5.length) (e3:Ja=u6.length) (q0:cO (⟨fu,fv,gq,gr,gu,gv⟩:aH)) (q1:cO (⟨u5,u6,yk,ym,yn,yo⟩:aH)) (t:bO Rz):bc 77 [.agg [.sl (some true) 1 mf (ints fu),.sl (some true) 1 mg (rows (some true) fv),.bool gq,.bool gr,.bool gu,.int .i64 gv],.agg [.sl (some true) 1 I9 (ints u5),.sl (some true) 1 Ja (rows (some true) u6),.bool yk,.bool ym,.bool yn,.int .i64 yo]] t=feed t [.bool (j4 (⟨fu,fv,gq,gr,gu,gv⟩:aH) (⟨u5,u6,yk,ym,yn,yo⟩:aH))]:=by
  subst e0
  subst e1
  subst e2
  subst e3
  exact bZ (r:=.bool (j4 (⟨fu,fv,gq,gr,gu,gv⟩:aH) (⟨u5,u6,yk,ym,yn,yo⟩:aH))) (s:=.bool) (ss:=[.undef,.undef]) (Cb true true (⟨fu,fv,gq,gr,gu,gv⟩:aH) (⟨u5,u6,yk,ym,yn,yo⟩:aH) q0 q1) (by kernel_rfl) (by simp only [ax,bH,bj,bI,bJ,aj,aq,Bool.and_self]) (by simp only [aj,aR,ax,aq,Bool.and_self]) (by first | rfl | simp only [aw,bg,bf,bE,bF,bh,bG,Bool.and_self]) (by first | rfl | simp only [List.all_cons,List.all_nil,aw,Bool.and_self]) t
@[go_sem] theorem Rm (mf:Nat) (fu:List Int) (mg:Nat) (fv:List (List Int)) (gq:Bool) (gr:Bool) (gu:Bool) (gv:Int) (I9:Nat) (u5:List Int) (Ja:Nat) (u6:List (List Int)) (yk:Bool) (ym:Bool) (yn:Bool) (yo:Int) (e0:mf=fu.length) (e1:mg=fv.length) (e2:I9=u5.length) (e3:Ja=u6.length) (q0:cO (⟨fu,fv,gq,gr,gu,gv⟩:aH)) (q1:cO (⟨u5,u6,yk,ym,yn,yo⟩:aH)) (t:bO Rz):bc 69 [.agg [.sl (some true) 1 mf (ints fu),.sl (some true) 1 mg (rows (some true) fv),.bool gq,.bool gr,.bool gu,.int .i64 gv],.agg [.sl (some true) 1 I9 (ints u5),.sl (some true) 1 Ja (rows (some true) u6),.bool yk,.bool ym,.bool yn,.int .i64 yo]] t=feed t [.bool (j4 (⟨fu,fv,gq,gr,gu,gv⟩:aH) (⟨u5,u6,yk,ym,yn,yo⟩:aH))]:=by
  subst e0
  subst e1
  subst e2
  subst e3
  exact bZ (r:=.bool (j4 (⟨fu,fv,gq,gr,gu,gv⟩:aH) (⟨u5,u6,yk,ym,yn,yo⟩:aH))) (s:=.bool) (ss:=[.undef,.undef]) (Cc true true (⟨fu,fv,gq,gr,gu,gv⟩:aH) (⟨u5,u6,yk,ym,yn,yo⟩:aH) q0 q1) (by kernel_rfl) (by simp only [ax,bH,bj,bI,bJ,aj,aq,Bool.and_self]) (by simp only [aj,aR,ax,aq,Bool.and_self]) (by first | rfl | simp only [aw,bg,bf,bE,bF,bh,bG,Bool.and_self]) (by first | rfl | simp only [List.all_cons,List.all_nil,aw,Bool.and_self]) t
@[go_sem] theorem Sv (m0:Nat) (m:List Int) (e0:m0=m.length) (q0:m.length < 4611686018427387904) (t:bO Rz):bc 73 [.sl (some true) 1 m0 (ints m)] t=feed t [.bool (kM m)]:=by
  subst e0
  exact bZ (r:=.bool (kM m)) (s:=.bool) (ss:=[.undef]) (Dw true m q0) (by kernel_rfl) (by simp only [ax,bH,bj,bI,bJ,aj,aq,Bool.and_self]) (by simp only [aj,aR,ax,aq,Bool.and_self]) (by first | rfl | simp only [aw,bg,bf,bE,bF,bh,bG,Bool.and_self]) (by first | rfl | simp only [List.all_cons,List.all_nil,aw,Bool.and_self]) t
@[go_sem] theorem Sw (m0:Nat) (m:List Int) (e0:m0=m.length) (q0:m.length < 4611686018427387904) (t:bO Rz):bc 65 [.sl (some true) 1 m0 (ints m)] t=feed t [.bool (kM m)]:=by
  subst e0
  exact bZ (r:=.bool (kM m)) (s:=.bool) (ss:=[.undef]) (Dv true m q0) (by kernel_rfl) (by simp only [ax,bH,bj,bI,bJ,aj,aq,Bool.and_self]) (by simp only [aj,aR,ax,aq,Bool.and_self]) (by first | rfl | simp only [aw,bg,bf,bE,bF,bh,bG,Bool.and_self]) (by first | rfl | simp only [List.all_cons,List.all_nil,aw,Bool.and_self]) t
@[go_sem] theorem Sx (m0:Nat) (m:List Int) (e0:m0=m.length) (q0:m.length < 4611686018427387904) (t:bO Rz):bc 105 [.sl (some true) 1 m0 (ints m)] t=feed t [.bool (fe m)]:=by
  subst e0
  exact bZ (r:=.bool (fe m)) (s:=.bool) (ss:=[.undef]) (uW true m q0) (by kernel_rfl) (by simp only [ax,bH,bj,bI,bJ,aj,aq,Bool.and_self]) (by simp only [aj,aR,ax,aq,Bool.and_self]) (by first | rfl | simp only [aw,bg,bf,bE,bF,bh,bG,Bool.and_self]) (by first | rfl | simp only [List.all_cons,List.all_nil,aw,Bool.and_self]) t
@[go_sem] theorem Sy (m0:Nat) (m:List Int) (e0:m0=m.length) (q0:m.length < 4611686018427387904) (t:bO Rz):bc 94 [.sl (some true) 1 m0 (ints m)] t=feed t [.bool (fe m)]:=by
  subst e0
  exact bZ (r:=.bool (fe m)) (s:=.bool) (ss:=[.undef]) (uV true m q0) (by kernel_rfl) (by simp only [ax,bH,bj,bI,bJ,aj,aq,Bool.and_self]) (by simp only [aj,aR,ax,aq,Bool.and_self]) (by first | rfl | simp only [aw,bg,bf,bE,bF,bh,bG,Bool.and_self]) (by first | rfl | simp only [List.all_cons,List.all_nil,aw,Bool.and_self]) t
@[go_sem] theorem SV (m0:Nat) (m:List Int) (e0:m0=m.length) (q0:m.length < 4611686018427387904) (t:bO Rz):bc 102 [.sl (some true) 1 m0 (ints m)] t=feed t [.bool (iB m)]:=by
  subst e0
  exact bZ (r:=.bool (iB m)) (s:=.bool) (ss:=[.undef]) (wg true m q0) (by kernel_rfl) (by simp only [ax,bH,bj,bI,bJ,aj,aq,Bool.and_self]) (by simp only [aj,aR,ax,aq,Bool.and_self]) (by first | rfl | simp only [aw,bg,bf,bE,bF,bh,bG,Bool.and_self]) (by first | rfl | simp only [List.all_cons,List.all_nil,aw,Bool.and_self]) t
@[go_sem] theorem SW (m0:Nat) (m:List Int) (e0:m0=m.length) (q0:m.length < 4611686018427387904) (t:bO Rz):bc 95 [.sl (some true) 1 m0 (ints m)] t=feed t [.bool (iB m)]:=by
  subst e0
  exact bZ (r:=.bool (iB m)) (s:=.bool) (ss:=[.undef]) (we true m q0) (by kernel_rfl) (by simp only [ax,bH,bj,bI,bJ,aj,aq,Bool.and_self]) (by simp only [aj,aR,ax,aq,Bool.and_self]) (by first | rfl | simp only [aw,bg,bf,bE,bF,bh,bG,Bool.and_self]) (by first | rfl | simp only [List.all_cons,List.all_nil,aw,Bool.and_self]) t
@[go_sem] theorem Rn (m0:Nat) (m:List (List Int)) (e0:m0=m.length) (q0:sv m) (t:bO Rz):bc 75 [.sl (some true) 1 m0 (rows (some true) m)] t=feed t [.bool ((((m.length:Int)==3)&&gi m))]:=by
  subst e0
  exact bZ (r:=.bool ((((m.length:Int)==3)&&gi m))) (s:=.bool) (ss:=[.undef]) (Ca true m q0) (by kernel_rfl) (by simp only [ax,bH,bj,bI,bJ,aj,aq,Bool.and_self]) (by simp only [aj,aR,ax,aq,Bool.and_self]) (by first | rfl | simp only [aw,bg,bf,bE,bF,bh,bG,Bool.and_self]) (by first | rfl | simp only [List.all_cons,List.all_nil,aw,Bool.and_self]) t
@[go_sem] theorem SX (a:Int) (t:bO Rz):bc 72 [.int .i64 a] t=feed t [.bool (decide (0≤a∧a≤2))]:=by
  exact bZ (r:=.bool (decide (0≤a∧a≤2))) (s:=.bool) (ss:=[.undef]) (Qd a) (by kernel_rfl) (by simp only [ax,bH,bj,bI,bJ,aj,aq,Bool.and_self]) (by simp only [aj,aR,ax,aq,Bool.and_self]) (by first | rfl | simp only [aw,bg,bf,bE,bF,bh,bG,Bool.and_self]) (by first | rfl | simp only [List.all_cons,List.all_nil,aw,Bool.and_self]) t
@[go_sem] theorem SY (a:Int) (t:bO Rz):bc 116 [.int .i64 a] t=feed t [.bool (decide (0≤a∧a≤7))]:=by
  exact bZ (r:=.bool (decide (0≤a∧a≤7))) (s:=.bool) (ss:=[.undef]) (IP a) (by kernel_rfl) (by simp only [ax,bH,bj,bI,bJ,aj,aq,Bool.and_self]) (by simp only [aj,aR,ax,aq,Bool.and_self]) (by first | rfl | simp only [aw,bg,bf,bE,bF,bh,bG,Bool.and_self]) (by first | rfl | simp only [List.all_cons,List.all_nil,aw,Bool.and_self]) t
@[go_sem] theorem Sz (a:Int) (t:bO Rz):bc 78 [.int .i64 a] t=feed t [.bool (decide (1≤a∧a≤200))]:=by
  exact bZ (r:=.bool (decide (1≤a∧a≤200))) (s:=.bool) (ss:=[.undef]) (N8 a) (by kernel_rfl) (by simp only [ax,bH,bj,bI,bJ,aj,aq,Bool.and_self]) (by simp only [aj,aR,ax,aq,Bool.and_self]) (by first | rfl | simp only [aw,bg,bf,bE,bF,bh,bG,Bool.and_self]) (by first | rfl | simp only [List.all_cons,List.all_nil,aw,Bool.and_self]) t
@[go_sem] theorem V6 (a:Int) (t:bO Rz):bc 62 [.int .i64 a] t=feed t [.int .i64 (j3 a)]:=by
  exact bZ (r:=.int .i64 (j3 a)) (s:=.int .i64) (ss:=[.undef]) (JC a) (by kernel_rfl) (by simp only [ax,bH,bj,bI,bJ,aj,aq,Bool.and_self]) (by simp only [aj,aR,ax,aq,Bool.and_self]) (by first | rfl | simp only [aw,bg,bf,bE,bF,bh,bG,Bool.and_self]) (by first | rfl | simp only [List.all_cons,List.all_nil,aw,Bool.and_self]) t
@[go_sem] theorem V7 (a:Int) (t:bO Rz):bc 60 [.int .i64 a] t=feed t [.int .i64 (j3 a)]:=by
  exact bZ (r:=.int .i64 (j3 a)) (s:=.int .i64) (ss:=[.undef]) (JD a) (by kernel_rfl) (by simp only [ax,bH,bj,bI,bJ,aj,aq,Bool.and_self]) (by simp only [aj,aR,ax,aq,Bool.and_self]) (by first | rfl | simp only [aw,bg,bf,bE,bF,bh,bG,Bool.and_self]) (by first | rfl | simp only [List.all_cons,List.all_nil,aw,Bool.and_self]) t
@[go_sem] theorem VH (m0:Nat) (m:List Int) (a:Int) (e0:m0=m.length) (q0:m.length < 4611686018427387904) (t:bO Rz):bc 70 [.sl (some true) 1 m0 (ints m),.int .i64 a] t=feed t [.bool (decide (a∈m))]:=by
  subst e0
  exact bZ (r:=.bool (decide (a∈m))) (s:=.bool) (ss:=[.undef,.undef]) (KE true m a q0) (by kernel_rfl) (by simp only [ax,bH,bj,bI,bJ,aj,aq,Bool.and_self]) (by simp only [aj,aR,ax,aq,Bool.and_self]) (by first | rfl | simp only [aw,bg,bf,bE,bF,bh,bG,Bool.and_self]) (by first | rfl | simp only [List.all_cons,List.all_nil,aw,Bool.and_self]) t
@[go_sem] theorem Jb (m0:Nat) (m:List Int) (a:Int) (e0:m0=m.length) (q0:m.length < 4611686018427387904) (t:bO Rz):bc 79 [.sl (some true) 1 m0 (ints m),.int .i64 a] t=feed t [.bool (decide (a∈m))]:=by
  subst e0
  exact bZ (r:=.bool (decide (a∈m))) (s:=.bool) (ss:=[.undef,.undef]) (BY true m a q0) (by kernel_rfl) (by simp only [ax,bH,bj,bI,bJ,aj,aq,Bool.and_self]) (by simp only [aj,aR,ax,aq,Bool.and_self]) (by first | rfl | simp only [aw,bg,bf,bE,bF,bh,bG,Bool.and_self]) (by first | rfl | simp only [List.all_cons,List.all_nil,aw,Bool.and_self]) t
@[go_sem] theorem SZ (m0:Nat) (m:List Int) (k0:Nat) (k:List Int) (e0:m0=m.length) (e1:k0=k.length) (q0:m.length < 4611686018427387904) (q1:k.length < 4611686018427387904) (t:bO Rz):bc 98 [.sl (some true) 1 m0 (ints m),.sl (some true) 1 k0 (ints k)] t=feed t [.bool (decide (m=k))]:=by
  subst e0
  subst e1
  exact bZ (r:=.bool (decide (m=k))) (s:=.bool) (ss:=[.undef,.undef]) (IT true true m k q0 q1) (by kernel_rfl) (by simp only [ax,bH,bj,bI,bJ,aj,aq,Bool.and_self]) (by simp only [aj,aR,ax,aq,Bool.and_self]) (by first | rfl | simp only [aw,bg,bf,bE,bF,bh,bG,Bool.and_self]) (by first | rfl | simp only [List.all_cons,List.all_nil,aw,Bool.and_self]) t
@[go_sem] theorem KK (m0:Nat) (m:List Int) (k0:Nat) (k:List Int) (e0:m0=m.length) (e1:k0=k.length) (q0:m.length < 4611686018427387904) (q1:k.length < 4611686018427387904) (t:bO Rz):bc 107 [.sl (some true) 1 m0 (ints m),.sl (some true) 1 k0 (ints k)] t=feed t [.bool (decide (m=k))]:=by
  subst e0
  subst e1
  exact bZ (r:=.bool (decide (m=k))) (s:=.bool) (ss:=[.undef,.undef]) (KG true true m k q0 q1) (by kernel_rfl) (by simp only [ax,bH,bj,bI,bJ,aj,aq,Bool.and_self]) (by simp only [aj,aR,ax,aq,Bool.and_self]) (by first | rfl | simp only [aw,bg,bf,bE,bF,bh,bG,Bool.and_self]) (by first | rfl | simp only [List.all_cons,List.all_nil,aw,Bool.and_self]) t
def oS (n:ai) (k:Nat):Prop:=(n.conn.getD k false=true→n.up=true∧¬(k:Int)=n.id)∧(n.bp.getD k false=true→n.conn.getD k false=true)∧(0 < ((n.sync.getD k []).length:Int)→n.bp.getD k false=true)
def L4 (w:List Int) (i:Nat):Prop:=(1≤w.getD i 0∧w.getD i 0≤200)∧(0 < (i:Int)→¬w.getD i 0≤w.getD (i - 1) 0)
structure oT (n:ai):Prop where
  id:0≤n.id∧n.id≤2
  image:kM n.image=true
  mt:gb n.mt=true
  conn:(n.conn.length:Int)=3
  sync:(n.sync.length:Int)=3
  marks:∀ k,k < n.sync.length→fe (n.sync.getD k [])=true
  bp:(n.bp.length:Int)=3
  eS:n.eS=true→n.up=true∧¬n.id=2
  down:¬n.up=true→¬0 < (n.wait.length:Int)
  slot:(aD n.dr).2.2=true
  same:j4 (aD n.dr).1 n.mt=true
  link:∀ k,k < 3→oS n k
  wait:∀ i,i < n.wait.length→L4 n.wait i
open Classical in
noncomputable def dE (n:ai):Bool:=decide (oT n)
open Classical in
theorem L5 {n:ai} (h:oT n):dE n=true:=by unfold dE; exact decide_eq_true h
open Classical in
theorem tO {n:ai} (h:dE n=true):oT n:=by unfold dE at h; exact of_decide_eq_true h
open Classical in
theorem dk {n:ai} (h:¬oT n):(some ((.bool false,[.undef]):Rz))=some (.bool (dE n),[.undef]):=by unfold dE; rw [decide_eq_false h]
theorem E4 {n:ai} (h:oT n):(some ((.bool true,[.undef]):Rz))=some (.bool (dE n),[.undef]):=by rw [L5 h]
theorem Jc {xss:List (List Int)} (h:gi xss=true):∀ k,k < xss.length→fe (xss.getD k [])=true:=fun k hk=>by
  unfold gi at h
  exact List.all_eq_true.1 h k (List.mem_range.2 hk)
theorem JL {xss:List (List Int)} (h:∀ k,k < xss.length→fe (xss.getD k [])=true):gi xss=true:=by
  unfold gi
  exact List.all_eq_true.2 fun k hk=>h k (List.mem_range.1 hk)
theorem SA {xss:List (List Int)} (h:sv xss) (k:Nat):(xss.getD k []).length≤1048576:=by
  by_cases hk:k < xss.length
  · rw [bm hk]
    exact h.2 _ (List.getElem_mem hk)
  · rw [List.getD_eq_getElem?_getD,List.getElem?_eq_none (Nat.not_lt.1 hk)]
    simp
theorem VI {R:Type} {p u b2 b3:Bool} {T F r:R} (hT:(p=true→u=true∧b2=false)→(u=false→b3=false)→T=r) (hF:((p=true→u=true∧b2=false)→(u=false→b3=false)→False)→F=r):br p (br (br u false true) F (br b2 F (br (br u false true) (br b3 F T) T))) (br (br u false true) (br b3 F T) T)=r:=by
  cases p<;>cases u<;>cases b2<;>cases b3<;>simp only [br]<;>first | exact hT (by simp) (by simp) | exact hF (by simp)
theorem wG (n:ai) (q0:ch n):Cm 42 [.agg (af (some true) n)] (.bool (dE n),[.undef]):=by
  have ok:=q0
  have s1:=ok.image
  have s2:=ok.conn
  have s3:=ok.bp
  have s4:=ok.wait
  have s5:=ok.sync.1
  have s6:=ok.mt
  have s7:=ok.sync
  have s8:=q0.dr
  have s9:=Ct n.dr
  refine Cm.step Gl [.undef] fun J hJ=>?_
  rw [Gm]
  simp (disch:=first | assumption | omega) only [go_sem]
  refine eV (fun h1=>?_) (fun h=>dk fun o=>h o.id)
  simp (disch:=first | assumption | omega) only [go_sem]
  refine yj (fun h2=>?_) (fun h=>dk fun o=>h o.image)
  simp (disch:=first | assumption | omega) only [go_sem]
  refine yj (fun h3=>?_) (fun h=>dk fun o=>h o.mt)
  simp (disch:=first | assumption | omega) only [go_sem]
  refine eV (fun h4=>?_) (fun h=>dk fun o=>h o.conn)
  simp (disch:=first | assumption | omega) only [go_sem]
  refine yj (fun h5=>?_) (fun h=>dk fun o=>h (by simp only [o.sync,JL o.marks,Bool.and_true]; rfl))
  simp only [Bool.and_eq_true,beq_iff_eq] at h5
  simp (disch:=first | assumption | omega) only [go_sem]
  refine eV (fun h6=>?_) (fun h=>dk fun o=>h o.bp)
  refine VI (fun h7 h8=>?_) (fun h=>dk fun o=>h (fun hp=>⟨(o.eS hp).1,decide_eq_false (o.eS hp).2⟩) fun hu=>decide_eq_false (o.down (by rw [hu]; simp)))
  have h7:n.eS=true→n.up=true∧¬n.id=2:=fun hp=>⟨(h7 hp).1,of_decide_eq_false (h7 hp).2⟩
  have h8:¬n.up=true→¬0 < (n.wait.length:Int):=fun hu=>of_decide_eq_false (h8 (by simpa using hu))
  simp (disch:=first | assumption | omega) only [go_sem]
  refine yj (fun h9=>?_) (fun h=>dk fun o=>h o.slot)
  simp (disch:=first | assumption | omega) only [go_sem]
  refine yj (fun kQ=>?_) (fun h=>dk fun o=>h o.same)
  have Xz:(∀ k,k < 3→oS n k)→WP 42 Try.f42 [.undef] 2 (gU n n.wait.length 0) (.bool (dE n),[.undef]):=by
    intro G0
    refine WP.up (H:=fun i=>gU n n.wait.length i) n.wait.length (fun i=>∀ k,k < i→L4 n.wait k) (fun i hi inv J _ next=>?_) 0 (Nat.zero_le _) (fun k hk=>absurd hk (by omega))
    rw [AS]
    simp (disch:=first | assumption | omega) only [go_sem]
    refine eV (fun cJ=>?_) (fun wT=>E4 ⟨h1,h2,h3,h4,h5.1,Jc h5.2,h6,h7,h8,h9,kQ,G0,fun k hk=>inv k (by omega)⟩)
    simp (disch:=first | assumption | omega) only [go_sem]
    refine eV (fun ha=>?_) (fun h=>dk fun o=>h (o.wait i (by omega)).1)
    have go:(0 < (i:Int)→¬n.wait.getD i 0≤n.wait.getD (i - 1) 0)→J 2 (gU n n.wait.length ((i:Int)+1))=some (.bool (dE n),[.undef]):=fun hb=>next (by omega) fun k hk=>by
      by_cases e:k=i
      · subst e; exact ⟨ha,hb⟩
      · exact inv k (by omega)
    refine eV (fun oa=>?_) (fun hz=>?_)
    · simp (disch:=first | assumption | omega) only [go_sem]
      have e1:((i:Int) - 1).toNat=i - 1:=by omega
      simp (disch:=first | assumption | omega) only [go_sem,e1]
      exact eV (fun h=>dk fun o=>(o.wait i (by omega)).2 oa h) (fun h=>go fun _=>h)
    · simp (disch:=first | assumption | omega) only [go_sem]
      exact go fun h=>absurd h hz
  refine hJ _ _ ?_
  refine WP.up (H:=fun i=>gT n i) 3 (fun i=>∀ k,k < i→oS n k) (fun i hi inv J hJ next=>?_) 0 (Nat.zero_le _) (fun k hk=>absurd hk (by omega))
  rw [AR]
  dsimp only
  simp (disch:=first | assumption | omega) only [go_sem]
  refine eV (fun cJ=>?_) (fun wT=>hJ _ _ (Xz fun k hk=>inv k (by omega)))
  have Ro:i < 3:=by omega
  have go:oS n i→J 0 (gT n ((i:Int)+1))=some (.bool (dE n),[.undef]):=fun hb=>next (by omega) fun k hk=>by
      by_cases e:k=i
      · subst e; exact hb
      · exact inv k (by omega)
  have no:¬oS n i→(some ((.bool false,[.undef]):Rz))=some (.bool (dE n),[.undef]):=fun h=>dk fun o=>h (o.link i Ro)
  have eJ:U.ar .add .i64 (i:Int) 1=(i:Int)+1:=Rk (by omega) (by omega)
  rw [eJ]
  generalize J 0 (gT n ((i:Int)+1))=z at go ⊢
  unfold oS at go no
  cases hc:n.conn.getD i false<;>cases hk:n.bp.getD i false<;>cases hu:n.up<;>by_cases hs:0 < ((n.sync.getD i []).length:Int)<;>by_cases N0:(i:Int)=n.id<;>simp only [hc,hk,hu,hs,N0,not_true_eq_false,not_false_eq_true,false_and,and_false,and_true,true_and,forall_const,Bool.false_eq_true,false_implies,imp_self,true_implies,and_self] at go no<;>simp (disch:=first | assumption | omega) only [go_sem,hc,hk,hu]<;>first | exact no | exact go
@[go_sem] theorem S5 (qy:Int) (qz:Bool) (qA:Bool) (tP:Nat) (kt:List Int) (qB:Nat) (gV:List Int) (qC:Nat) (gW:List (List Int)) (jM:Bool) (jN:Bool) (jO:Bool) (jP:Int) (qD:Nat) (gX:List UInt8) (qE:Nat) (gY:List UInt8) (yp:Nat) (nQ:List Bool) (yq:Nat) (nR:List (List Int)) (yr:Nat) (nT:List Bool) (yt:Nat) (nU:List Int) (e0:tP=kt.length) (e1:qB=gV.length) (e2:qC=gW.length) (e3:qD=gX.length) (e4:qE=gY.length) (e5:yp=nQ.length) (e6:yq=nR.length) (e7:yr=nT.length) (e8:yt=nU.length) (q0:ch (⟨qy,qz,qA,kt,(⟨gV,gW,jM,jN,jO,jP⟩:aH),(⟨gX,gY⟩:aG),nQ,nR,nT,nU⟩:ai)) (t:bO Rz):bc 42 [.agg [.int .i64 qy,.bool qz,.bool qA,.sl (some true) 1 tP (ints kt),.sl (some true) 1 qB (ints gV),.sl (some true) 1 qC (rows (some true) gW),.bool jM,.bool jN,.bool jO,.int .i64 jP,.sl (some true) 1 qD (bytes gX),.sl (some true) 1 qE (bytes gY),.sl (some true) 1 yp (aO nQ),.sl (some true) 1 yq (rows (some true) nR),.sl (some true) 1 yr (aO nT),.sl (some true) 1 yt (ints nU)]] t=feed t [.bool (dE (⟨qy,qz,qA,kt,(⟨gV,gW,jM,jN,jO,jP⟩:aH),(⟨gX,gY⟩:aG),nQ,nR,nT,nU⟩:ai))]:=by
  subst e0
  subst e1
  subst e2
  subst e3
  subst e4
  subst e5
  subst e6
  subst e7
  subst e8
  exact bZ (r:=.bool (dE (⟨qy,qz,qA,kt,(⟨gV,gW,jM,jN,jO,jP⟩:aH),(⟨gX,gY⟩:aG),nQ,nR,nT,nU⟩:ai))) (s:=.bool) (ss:=[.undef]) (wG (⟨qy,qz,qA,kt,(⟨gV,gW,jM,jN,jO,jP⟩:aH),(⟨gX,gY⟩:aG),nQ,nR,nT,nU⟩:ai) q0) (by kernel_rfl) (by simp only [ax,bH,bj,bI,bJ,aj,aq,Bool.and_self]) (by simp only [aj,aR,ax,aq,Bool.and_self]) (by first | rfl | simp only [aw,bg,bf,bE,bF,bh,bG,Bool.and_self]) (by first | rfl | simp only [List.all_cons,List.all_nil,aw,Bool.and_self]) t
end Go.Proofs.Ytockoilcnmljiaa
