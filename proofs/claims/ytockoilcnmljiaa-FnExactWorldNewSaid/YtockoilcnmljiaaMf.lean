/- FnExactWorldNew: the program's WorldNew returns what the reference's returns, for all arguments (none). No condition. -/
import Derived.Test.YtockoilcnmljiaaRows
import Derived.WalkKit
import Derived.ProofKit
import Derived.OpenShut
import Derived.ShutString
import Derived.ChangeOld
import Derived.ChangeSame
import Derived.Below
import Derived.Carry
import Derived.SizedLaws
import Derived.Test.YtockoilcnmljiaaMe
set_option linter.all false
set_option linter.unusedSimpArgs false
set_option linter.unusedVariables false
set_option linter.unnecessarySimpa false
set_option linter.unusedSectionVars false
namespace Go.Proofs.Ytockoilcnmljiaa
set_option maxRecDepth 100000
section
variable (pr:dA) (cv:Cv Rz) (J:Nat->St->Option Rz)
def iN (x0:ak) (i0:Int):St:=(St.mk [(1,(.ptr 1 [] 0)),(85,(.int .i64 i0))] [(1,(ab (some true) x0))] [] 0)
def iO (x0:ak) (i0:Int) (i1:Int):St:=(St.mk [(1,(.ptr 1 [] 0)),(139,(sI (some true) x0.wait)),(140,(.int .i64 i0)),(141,(.int .i64 i1))] [(1,(ab (some true) x0))] [] 0)
theorem Kn:Told cfg Try.prog 42 Try.f42:=⟨by kernel_rfl,Try.func42,by kernel_rfl⟩
theorem Ko (x0:ak):aR pr cv J 42 Try.f42 [(.agg (ab (some true) x0))]=
 let y1:Option (D × List D):=(some ((.bool false),[.undef]))
 let y2:Option Rz:=(cv 76 [(.agg (cb (some true) x0.bJ))] (.ty eP.mt (fun (M9:aE)=>(.int (fun pD=>(.bool (fun sm=>(.done (br (br sm false true) y1 (cv 77 [(.agg (bP true (bK none M9))),(.agg (bK (some true) x0.mt))] (.bool (fun vb7=>(.done (br (br vb7 false true) y1 (J 0 (iN x0 0))))))))))))))))
 let y3:Option (D × List D):=(br (br x0.up false true) (br (pr.lt 0 (pr.bc x0.wait.length)) y1 y2) y2)
 (cv 72 [(.int .i64 x0.id)] (.bool (fun cx=>(.done (br (br cx false true) y1 (cv 73 [(sI (some true) x0.image)] (.bool (fun ku=>(.done (br (br ku false true) y1 (cv 74 [(.agg (bK (some true) x0.mt))] (.bool (fun iy=>(.done (br (br iy false true) y1 (br (br (pr.eq (pr.bc x0.conn.length) 3) false true) y1 (cv 75 [(sR (some true) x0.sync)] (.bool (fun vH=>(.done (br (br vH false true) y1 (br (br (pr.eq (pr.bc x0.bC.length) 3) false true) y1 (br x0.fm (br (br x0.up false true) y1 (br (pr.eq x0.id 2) y1 y3)) y3))))))))))))))))))))))):=by kernel_rfl
theorem DN (x0:ak) (i0:Int):bR pr cv J 42 Try.f42 [.undef] 0 (iN x0 i0)=
 let y1:Option (D × List D):=(some ((.bool false),[.undef]))
 let y2:Option Rz:=(J 0 (iN x0 (pr.ar .add .i64 i0 1)))
 let y3:Option (D × List D):=(br (pr.bh i0 x0.sync.length) (br (br (pr.dc 1 (rows (some true) x0.sync) (pr.idx 0 i0 1)) true false) (br (pr.lt 0 (pr.bc (pr.bf (rows (some true) x0.sync) (pr.idx 0 i0 1)))) (br (pr.bh i0 x0.bC.length) (br (br (pr.eK (aJ x0.bC) (pr.idx 0 i0 1)) true false) (br (br (pr.dm (aJ x0.bC) (pr.idx 0 i0 1)) false true) y1 y2) none) none) y2) none) none)
 let y4:Option (D × List D):=(br (pr.bh i0 x0.bC.length) (br (br (pr.eK (aJ x0.bC) (pr.idx 0 i0 1)) true false) (br (pr.dm (aJ x0.bC) (pr.idx 0 i0 1)) (br (pr.bh i0 x0.conn.length) (br (br (pr.eK (aJ x0.conn) (pr.idx 0 i0 1)) true false) (br (br (pr.dm (aJ x0.conn) (pr.idx 0 i0 1)) false true) y1 y3) none) none) y3) none) none)
 (br (pr.lt i0 3) (br x0.up (br (pr.bh i0 x0.conn.length) (br (br (pr.eK (aJ x0.conn) (pr.idx 0 i0 1)) true false) (br (pr.dm (aJ x0.conn) (pr.idx 0 i0 1)) (br (br (br (pr.eq i0 x0.id) false true) false true) y1 y4) y4) none) none) (br (pr.bh i0 x0.conn.length) (br (br (pr.eK (aJ x0.conn) (pr.idx 0 i0 1)) true false) (br (pr.dm (aJ x0.conn) (pr.idx 0 i0 1)) y1 y4) none) none)) (J 2 (iO x0 (pr.bc x0.wait.length) 0))):=by kernel_rfl
theorem DO (x0:ak) (i0:Int) (i1:Int):bR pr cv J 42 Try.f42 [.undef] 2 (iO x0 i0 i1)=
 let y1:Option (D × List D):=(some ((.bool false),[.undef]))
 let y2:Option Rz:=(J 2 (iO x0 i0 (pr.ar .add .i64 i1 1)))
 (br (pr.lt i1 i0) (br (pr.bh i1 x0.wait.length) (br (br (pr.cW .i64 (ints x0.wait) (pr.idx 0 i1 1)) true false) (cv 78 [(.int .i64 (pr.bT (ints x0.wait) (pr.idx 0 i1 1)))] (.bool (fun cx=>(.done (br (br cx false true) y1 (br (pr.lt 0 i1) (br (pr.bh (pr.ar .sub .i64 i1 1) x0.wait.length) (br (br (pr.cW .i64 (ints x0.wait) (pr.idx 0 (pr.ar .sub .i64 i1 1) 1)) true false) (br (pr.le (pr.bT (ints x0.wait) (pr.idx 0 i1 1)) (pr.bT (ints x0.wait) (pr.idx 0 (pr.ar .sub .i64 i1 1) 1))) y1 y2) none) none) y2)))))) none) none) (some ((.bool true),[.undef]))):=by kernel_rfl
def kN (x0:ak) (i0:Int):St:=(St.mk [(1,(.ptr 1 [] 0)),(3,(.int .i64 i0))] [(1,(ab (some true) x0))] [] 0)
theorem Kp:Told cfg Try.prog 38 Try.f38:=⟨by kernel_rfl,Try.func38,by kernel_rfl⟩
theorem Kq (x0:ak):aR pr cv J 38 Try.f38 [(.agg (ab (some true) x0))]=
 let y1:Option (D × List D):=(some ((.bool false),[.undef]))
 let y2:Option Rz:=(J 0 (kN x0 0))
 let y3:Option (D × List D):=(br (br x0.up false true) (br (pr.lt 0 (pr.bc x0.wait.length)) y1 y2) y2)
 (cv 64 [(.int .i64 x0.id),(.int .i64 0),(.int .i64 2)] (.bool (fun cx=>(.done (br (br cx false true) y1 (cv 65 [(sI (some true) x0.image)] (.bool (fun ku=>(.done (br (br ku false true) y1 (cv 66 [(.agg (bK (some true) x0.mt))] (.bool (fun iy=>(.done (br (br iy false true) y1 (cv 67 [(.agg (ab (some true) x0))] (.bool (fun vH=>(.done (br (br vH false true) y1 (br x0.fm (br (br x0.up false true) y1 (br (pr.eq x0.id 2) y1 y3)) y3))))))))))))))))))))):=by kernel_rfl
theorem DP (x0:ak) (i0:Int):bR pr cv J 38 Try.f38 [.undef] 0 (kN x0 i0)=
 let y1:Bool:=(br (pr.cW .i64 (ints x0.wait) (pr.idx 0 i0 1)) true false)
 let y2:Option (D × List D):=(some ((.bool false),[.undef]))
 let y3:Option Rz:=(J 0 (kN x0 (pr.ar .add .i64 i0 1)))
 (br (pr.lt i0 (pr.bc x0.wait.length)) (br (pr.bh i0 x0.wait.length) (br y1 (cv 64 [(.int .i64 (pr.bT (ints x0.wait) (pr.idx 0 i0 1))),(.int .i64 1),(.int .i64 200)] (.bool (fun cx=>(.done (br (br cx false true) y2 (br (pr.lt 0 i0) (br (pr.bh (pr.ar .sub .i64 i0 1) x0.wait.length) (br (br (pr.cW .i64 (ints x0.wait) (pr.idx 0 (pr.ar .sub .i64 i0 1) 1)) true false) (br (pr.bh i0 x0.wait.length) (br y1 (br (pr.le (pr.bT (ints x0.wait) (pr.idx 0 i0 1)) (pr.bT (ints x0.wait) (pr.idx 0 (pr.ar .sub .i64 i0 1) 1))) y2 y3) none) none) none) none) y3)))))) none) none) (cv 68 [(.agg (cb (some true) x0.bJ))] (.ty eP.mt (fun (eG:aE)=>(.int (fun jM=>(.bool (fun vH=>(.done (br vH (cv 69 [(.agg (bP true (bK none eG))),(.agg (bK (some true) x0.mt))] (.bool (fun Ao=>(.done (some ((.bool Ao),[.undef])))))) y2)))))))))):=by kernel_rfl
def iv (x0:ak) (i0:Int):St:=(St.mk [(1,(.ptr 1 [] 0)),(3,(.int .i64 i0))] [(1,(ab (some true) x0))] [] 0)
theorem Hu:Told cfg Try.prog 67 Try.f67:=⟨by kernel_rfl,Try.func67,by kernel_rfl⟩
theorem Hv (x0:ak):aR pr cv J 67 Try.f67 [(.agg (ab (some true) x0))]=
 let y1:Option (D × List D):=(some ((.bool false),[.undef]))
 (br (br (pr.eq (pr.bc x0.conn.length) 3) false true) y1 (br (br (pr.eq (pr.bc x0.sync.length) 3) false true) y1 (br (br (pr.eq (pr.bc x0.bC.length) 3) false true) y1 (J 0 (iv x0 0))))):=by kernel_rfl
theorem BO (x0:ak) (i0:Int):bR pr cv J 67 Try.f67 [.undef] 0 (iv x0 i0)=
 let y1:Bool:=(br (pr.dc 1 (rows (some true) x0.sync) (pr.idx 0 i0 1)) true false)
 let y2:Option (D × List D):=(some ((.bool false),[.undef]))
 let y3:Option Rz:=(J 0 (iv x0 (pr.ar .add .i64 i0 1)))
 let y4:Option (D × List D):=(br (pr.bh i0 x0.conn.length) (br (br (pr.eK (aJ x0.conn) (pr.idx 0 i0 1)) true false) (br (pr.dm (aJ x0.conn) (pr.idx 0 i0 1)) (br (br x0.up false true) y2 (br (pr.eq i0 x0.id) y2 y3)) y3) none) none)
 let y5:Option (D × List D):=(br (pr.bh i0 x0.bC.length) (br (br (pr.eK (aJ x0.bC) (pr.idx 0 i0 1)) true false) (br (pr.dm (aJ x0.bC) (pr.idx 0 i0 1)) (br (pr.bh i0 x0.conn.length) (br (br (pr.eK (aJ x0.conn) (pr.idx 0 i0 1)) true false) (br (br (pr.dm (aJ x0.conn) (pr.idx 0 i0 1)) false true) y2 y4) none) none) y4) none) none)
 (br (pr.lt i0 3) (br (pr.bh i0 x0.sync.length) (br y1 (cv 94 [(.sl (some (pr.cF (rows (some true) x0.sync) (pr.idx 0 i0 1))) 1 (pr.bf (rows (some true) x0.sync) (pr.idx 0 i0 1)) (pr.bn (rows (some true) x0.sync) (pr.idx 0 i0 1)))] (.bool (fun cx=>(.done (br (br cx false true) y2 (br (pr.bh i0 x0.sync.length) (br y1 (br (pr.lt 0 (pr.bc (pr.bf (rows (some true) x0.sync) (pr.idx 0 i0 1)))) (br (pr.bh i0 x0.bC.length) (br (br (pr.eK (aJ x0.bC) (pr.idx 0 i0 1)) true false) (br (br (pr.dm (aJ x0.bC) (pr.idx 0 i0 1)) false true) y2 y5) none) none) y5) none) none)))))) none) none) (some ((.bool true),[.undef]))):=by kernel_rfl
end
@[go_sem] theorem Zx (nI:Nat) (ga:List Int) (nJ:Nat) (gb:List (List Int)) (hZ:Bool) (ia:Bool) (ic:Bool) (ie:Int) (e0:nI=ga.length) (e1:nJ=gb.length) (q0:cz (⟨ga,gb,hZ,ia,ic,ie⟩:aE)) (t:bE Rz):aL 74 [.agg [.sl (some true) 1 nI (ints ga),.sl (some true) 1 nJ (rows (some true) gb),.bool hZ,.bool ia,.bool ic,.int .i64 ie]] t=feed t [.bool (dZ (⟨ga,gb,hZ,ia,ic,ie⟩:aE))]:=by
 subst e0;subst e1;exact bI (r:=.bool (dZ (⟨ga,gb,hZ,ia,ic,ie⟩:aE))) (s:=.bool) (ss:=[.undef]) (sS true (⟨ga,gb,hZ,ia,ic,ie⟩:aE) q0) (by kernel_rfl) (by simp only [av,bu,aW,bw,bz,ah,aj,vg]) (by simp only [ah,aI,av,aj,vg]) (by first | rfl | simp only [au,aU,aT,bp,bq,aV,bt,vg]) (by first | rfl | simp only [aaf,aah,au,vg]) t
@[go_sem] theorem Zy (nI:Nat) (ga:List Int) (nJ:Nat) (gb:List (List Int)) (hZ:Bool) (ia:Bool) (ic:Bool) (ie:Int) (e0:nI=ga.length) (e1:nJ=gb.length) (q0:cz (⟨ga,gb,hZ,ia,ic,ie⟩:aE)) (t:bE Rz):aL 66 [.agg [.sl (some true) 1 nI (ints ga),.sl (some true) 1 nJ (rows (some true) gb),.bool hZ,.bool ia,.bool ic,.int .i64 ie]] t=feed t [.bool (dZ (⟨ga,gb,hZ,ia,ic,ie⟩:aE))]:=by
 subst e0;subst e1;exact bI (r:=.bool (dZ (⟨ga,gb,hZ,ia,ic,ie⟩:aE))) (s:=.bool) (ss:=[.undef]) (sQ true (⟨ga,gb,hZ,ia,ic,ie⟩:aE) q0) (by kernel_rfl) (by simp only [av,bu,aW,bw,bz,ah,aj,vg]) (by simp only [ah,aI,av,aj,vg]) (by first | rfl | simp only [au,aU,aT,bp,bq,aV,bt,vg]) (by first | rfl | simp only [aaf,aah,au,vg]) t
@[go_sem] theorem XU (nI:Nat) (ga:List Int) (nJ:Nat) (gb:List (List Int)) (hZ:Bool) (ia:Bool) (ic:Bool) (ie:Int) (Na:Nat) (xd:List Int) (Nb:Nat) (xe:List (List Int)) (AI:Bool) (AJ:Bool) (AK:Bool) (AL:Int) (e0:nI=ga.length) (e1:nJ=gb.length) (e2:Na=xd.length) (e3:Nb=xe.length) (q0:cz (⟨ga,gb,hZ,ia,ic,ie⟩:aE)) (q1:cz (⟨xd,xe,AI,AJ,AK,AL⟩:aE)) (t:bE Rz):aL 77 [.agg [.sl (some true) 1 nI (ints ga),.sl (some true) 1 nJ (rows (some true) gb),.bool hZ,.bool ia,.bool ic,.int .i64 ie],.agg [.sl (some true) 1 Na (ints xd),.sl (some true) 1 Nb (rows (some true) xe),.bool AI,.bool AJ,.bool AK,.int .i64 AL]] t=feed t [.bool (lq (⟨ga,gb,hZ,ia,ic,ie⟩:aE) (⟨xd,xe,AI,AJ,AK,AL⟩:aE))]:=by
 subst e0;subst e1;subst e2;subst e3;exact bI (r:=.bool (lq (⟨ga,gb,hZ,ia,ic,ie⟩:aE) (⟨xd,xe,AI,AJ,AK,AL⟩:aE))) (s:=.bool) (ss:=[.undef,.undef]) (FM true true (⟨ga,gb,hZ,ia,ic,ie⟩:aE) (⟨xd,xe,AI,AJ,AK,AL⟩:aE) q0 q1) (by kernel_rfl) (by simp only [av,bu,aW,bw,bz,ah,aj,vg]) (by simp only [ah,aI,av,aj,vg]) (by first | rfl | simp only [au,aU,aT,bp,bq,aV,bt,vg]) (by first | rfl | simp only [aaf,aah,au,vg]) t
@[go_sem] theorem XV (nI:Nat) (ga:List Int) (nJ:Nat) (gb:List (List Int)) (hZ:Bool) (ia:Bool) (ic:Bool) (ie:Int) (Na:Nat) (xd:List Int) (Nb:Nat) (xe:List (List Int)) (AI:Bool) (AJ:Bool) (AK:Bool) (AL:Int) (e0:nI=ga.length) (e1:nJ=gb.length) (e2:Na=xd.length) (e3:Nb=xe.length) (q0:cz (⟨ga,gb,hZ,ia,ic,ie⟩:aE)) (q1:cz (⟨xd,xe,AI,AJ,AK,AL⟩:aE)) (t:bE Rz):aL 69 [.agg [.sl (some true) 1 nI (ints ga),.sl (some true) 1 nJ (rows (some true) gb),.bool hZ,.bool ia,.bool ic,.int .i64 ie],.agg [.sl (some true) 1 Na (ints xd),.sl (some true) 1 Nb (rows (some true) xe),.bool AI,.bool AJ,.bool AK,.int .i64 AL]] t=feed t [.bool (lq (⟨ga,gb,hZ,ia,ic,ie⟩:aE) (⟨xd,xe,AI,AJ,AK,AL⟩:aE))]:=by
 subst e0;subst e1;subst e2;subst e3;exact bI (r:=.bool (lq (⟨ga,gb,hZ,ia,ic,ie⟩:aE) (⟨xd,xe,AI,AJ,AK,AL⟩:aE))) (s:=.bool) (ss:=[.undef,.undef]) (FN true true (⟨ga,gb,hZ,ia,ic,ie⟩:aE) (⟨xd,xe,AI,AJ,AK,AL⟩:aE) q0 q1) (by kernel_rfl) (by simp only [av,bu,aW,bw,bz,ah,aj,vg]) (by simp only [ah,aI,av,aj,vg]) (by first | rfl | simp only [au,aU,aT,bp,bq,aV,bt,vg]) (by first | rfl | simp only [aaf,aah,au,vg]) t
@[go_sem] theorem Y1 (m0:Nat) (m:List Int) (e0:m0=m.length) (q0:m.length < 4611686018427387904) (t:bE Rz):aL 73 [.sl (some true) 1 m0 (ints m)] t=feed t [.bool (jU m)]:=by
 subst e0;exact bI (r:=.bool (jU m)) (s:=.bool) (ss:=[.undef]) (Hg true m q0) (by kernel_rfl) (by simp only [av,bu,aW,bw,bz,ah,aj,vg]) (by simp only [ah,aI,av,aj,vg]) (by first | rfl | simp only [au,aU,aT,bp,bq,aV,bt,vg]) (by first | rfl | simp only [aaf,aah,au,vg]) t
@[go_sem] theorem Y2 (m0:Nat) (m:List Int) (e0:m0=m.length) (q0:m.length < 4611686018427387904) (t:bE Rz):aL 65 [.sl (some true) 1 m0 (ints m)] t=feed t [.bool (jU m)]:=by
 subst e0;exact bI (r:=.bool (jU m)) (s:=.bool) (ss:=[.undef]) (Hf true m q0) (by kernel_rfl) (by simp only [av,bu,aW,bw,bz,ah,aj,vg]) (by simp only [ah,aI,av,aj,vg]) (by first | rfl | simp only [au,aU,aT,bp,bq,aV,bt,vg]) (by first | rfl | simp only [aaf,aah,au,vg]) t
@[go_sem] theorem Y3 (m0:Nat) (m:List Int) (e0:m0=m.length) (q0:m.length < 4611686018427387904) (t:bE Rz):aL 105 [.sl (some true) 1 m0 (ints m)] t=feed t [.bool (ej m)]:=by
 subst e0;exact bI (r:=.bool (ej m)) (s:=.bool) (ss:=[.undef]) (wZ true m q0) (by kernel_rfl) (by simp only [av,bu,aW,bw,bz,ah,aj,vg]) (by simp only [ah,aI,av,aj,vg]) (by first | rfl | simp only [au,aU,aT,bp,bq,aV,bt,vg]) (by first | rfl | simp only [aaf,aah,au,vg]) t
@[go_sem] theorem Y4 (m0:Nat) (m:List Int) (e0:m0=m.length) (q0:m.length < 4611686018427387904) (t:bE Rz):aL 94 [.sl (some true) 1 m0 (ints m)] t=feed t [.bool (ej m)]:=by
 subst e0;exact bI (r:=.bool (ej m)) (s:=.bool) (ss:=[.undef]) (wY true m q0) (by kernel_rfl) (by simp only [av,bu,aW,bw,bz,ah,aj,vg]) (by simp only [ah,aI,av,aj,vg]) (by first | rfl | simp only [au,aU,aT,bp,bq,aV,bt,vg]) (by first | rfl | simp only [aaf,aah,au,vg]) t
@[go_sem] theorem Zz (m0:Nat) (m:List Int) (e0:m0=m.length) (q0:m.length < 4611686018427387904) (t:bE Rz):aL 102 [.sl (some true) 1 m0 (ints m)] t=feed t [.bool (fV m)]:=by
 subst e0;exact bI (r:=.bool (fV m)) (s:=.bool) (ss:=[.undef]) (yS true m q0) (by kernel_rfl) (by simp only [av,bu,aW,bw,bz,ah,aj,vg]) (by simp only [ah,aI,av,aj,vg]) (by first | rfl | simp only [au,aU,aT,bp,bq,aV,bt,vg]) (by first | rfl | simp only [aaf,aah,au,vg]) t
@[go_sem] theorem ZA (m0:Nat) (m:List Int) (e0:m0=m.length) (q0:m.length < 4611686018427387904) (t:bE Rz):aL 95 [.sl (some true) 1 m0 (ints m)] t=feed t [.bool (fV m)]:=by
 subst e0;exact bI (r:=.bool (fV m)) (s:=.bool) (ss:=[.undef]) (yR true m q0) (by kernel_rfl) (by simp only [av,bu,aW,bw,bz,ah,aj,vg]) (by simp only [ah,aI,av,aj,vg]) (by first | rfl | simp only [au,aU,aT,bp,bq,aV,bt,vg]) (by first | rfl | simp only [aaf,aah,au,vg]) t
@[go_sem] theorem XW (m0:Nat) (m:List (List Int)) (e0:m0=m.length) (q0:sq m) (t:bE Rz):aL 75 [.sl (some true) 1 m0 (rows (some true) m)] t=feed t [.bool ((((m.length:Int)==3)&&hC m))]:=by
 subst e0;exact bI (r:=.bool ((((m.length:Int)==3)&&hC m))) (s:=.bool) (ss:=[.undef]) (FL true m q0) (by kernel_rfl) (by simp only [av,bu,aW,bw,bz,ah,aj,vg]) (by simp only [ah,aI,av,aj,vg]) (by first | rfl | simp only [au,aU,aT,bp,bq,aV,bt,vg]) (by first | rfl | simp only [aaf,aah,au,vg]) t
@[go_sem] theorem ZB (a:Int) (t:bE Rz):aL 72 [.int .i64 a] t=feed t [.bool (decide (0<=a/\a<=2))]:=by
 exact bI (r:=.bool (decide (0<=a/\a<=2))) (s:=.bool) (ss:=[.undef]) (VF a) (by kernel_rfl) (by simp only [av,bu,aW,bw,bz,ah,aj,vg]) (by simp only [ah,aI,av,aj,vg]) (by first | rfl | simp only [au,aU,aT,bp,bq,aV,bt,vg]) (by first | rfl | simp only [aaf,aah,au,vg]) t
@[go_sem] theorem ZC (a:Int) (t:bE Rz):aL 116 [.int .i64 a] t=feed t [.bool (decide (0<=a/\a<=7))]:=by
 exact bI (r:=.bool (decide (0<=a/\a<=7))) (s:=.bool) (ss:=[.undef]) (MR a) (by kernel_rfl) (by simp only [av,bu,aW,bw,bz,ah,aj,vg]) (by simp only [ah,aI,av,aj,vg]) (by first | rfl | simp only [au,aU,aT,bp,bq,aV,bt,vg]) (by first | rfl | simp only [aaf,aah,au,vg]) t
@[go_sem] theorem Y5 (a:Int) (t:bE Rz):aL 78 [.int .i64 a] t=feed t [.bool (decide (1<=a/\a<=200))]:=by
 exact bI (r:=.bool (decide (1<=a/\a<=200))) (s:=.bool) (ss:=[.undef]) (Tu a) (by kernel_rfl) (by simp only [av,bu,aW,bw,bz,ah,aj,vg]) (by simp only [ah,aI,av,aj,vg]) (by first | rfl | simp only [au,aU,aT,bp,bq,aV,bt,vg]) (by first | rfl | simp only [aaf,aah,au,vg]) t
@[go_sem] theorem acH (a:Int) (t:bE Rz):aL 62 [.int .i64 a] t=feed t [.int .i64 (lp a)]:=by
 exact bI (r:=.int .i64 (lp a)) (s:=.int .i64) (ss:=[.undef]) (NR a) (by kernel_rfl) (by simp only [av,bu,aW,bw,bz,ah,aj,vg]) (by simp only [ah,aI,av,aj,vg]) (by first | rfl | simp only [au,aU,aT,bp,bq,aV,bt,vg]) (by first | rfl | simp only [aaf,aah,au,vg]) t
@[go_sem] theorem acI (a:Int) (t:bE Rz):aL 60 [.int .i64 a] t=feed t [.int .i64 (lp a)]:=by
 exact bI (r:=.int .i64 (lp a)) (s:=.int .i64) (ss:=[.undef]) (NS a) (by kernel_rfl) (by simp only [av,bu,aW,bw,bz,ah,aj,vg]) (by simp only [ah,aI,av,aj,vg]) (by first | rfl | simp only [au,aU,aT,bp,bq,aV,bt,vg]) (by first | rfl | simp only [aaf,aah,au,vg]) t
@[go_sem] theorem ab4 (m0:Nat) (m:List Int) (a:Int) (e0:m0=m.length) (q0:m.length < 4611686018427387904) (t:bE Rz):aL 70 [.sl (some true) 1 m0 (ints m),.int .i64 a] t=feed t [.bool (decide (a∈m))]:=by
 subst e0;exact bI (r:=.bool (decide (a∈m))) (s:=.bool) (ss:=[.undef,.undef]) (Pe true m a q0) (by kernel_rfl) (by simp only [av,bu,aW,bw,bz,ah,aj,vg]) (by simp only [ah,aI,av,aj,vg]) (by first | rfl | simp only [au,aU,aT,bp,bq,aV,bt,vg]) (by first | rfl | simp only [aaf,aah,au,vg]) t
@[go_sem] theorem Nc (m0:Nat) (m:List Int) (a:Int) (e0:m0=m.length) (q0:m.length < 4611686018427387904) (t:bE Rz):aL 79 [.sl (some true) 1 m0 (ints m),.int .i64 a] t=feed t [.bool (decide (a∈m))]:=by
 subst e0;exact bI (r:=.bool (decide (a∈m))) (s:=.bool) (ss:=[.undef,.undef]) (FB true m a q0) (by kernel_rfl) (by simp only [av,bu,aW,bw,bz,ah,aj,vg]) (by simp only [ah,aI,av,aj,vg]) (by first | rfl | simp only [au,aU,aT,bp,bq,aV,bt,vg]) (by first | rfl | simp only [aaf,aah,au,vg]) t
@[go_sem] theorem ZD (m0:Nat) (m:List Int) (k0:Nat) (k:List Int) (e0:m0=m.length) (e1:k0=k.length) (q0:m.length < 4611686018427387904) (q1:k.length < 4611686018427387904) (t:bE Rz):aL 98 [.sl (some true) 1 m0 (ints m),.sl (some true) 1 k0 (ints k)] t=feed t [.bool (decide (m=k))]:=by
 subst e0;subst e1;exact bI (r:=.bool (decide (m=k))) (s:=.bool) (ss:=[.undef,.undef]) (MU true true m k q0 q1) (by kernel_rfl) (by simp only [av,bu,aW,bw,bz,ah,aj,vg]) (by simp only [ah,aI,av,aj,vg]) (by first | rfl | simp only [au,aU,aT,bp,bq,aV,bt,vg]) (by first | rfl | simp only [aaf,aah,au,vg]) t
@[go_sem] theorem Pk (m0:Nat) (m:List Int) (k0:Nat) (k:List Int) (e0:m0=m.length) (e1:k0=k.length) (q0:m.length < 4611686018427387904) (q1:k.length < 4611686018427387904) (t:bE Rz):aL 107 [.sl (some true) 1 m0 (ints m),.sl (some true) 1 k0 (ints k)] t=feed t [.bool (decide (m=k))]:=by
 subst e0;subst e1;exact bI (r:=.bool (decide (m=k))) (s:=.bool) (ss:=[.undef,.undef]) (Pg true true m k q0 q1) (by kernel_rfl) (by simp only [av,bu,aW,bw,bz,ah,aj,vg]) (by simp only [ah,aI,av,aj,vg]) (by first | rfl | simp only [au,aU,aT,bp,bq,aV,bt,vg]) (by first | rfl | simp only [aaf,aah,au,vg]) t
def qx (n:ak) (k:Nat):Prop:=(n.conn.getD k false=true->n.up=true/\¬(k:Int)=n.id)/\(n.bC.getD k false=true->n.conn.getD k false=true)/\(0 < ((n.sync.getD k []).length:Int)->n.bC.getD k false=true)
def QL (w:List Int) (i:Nat):Prop:=(1<=w.getD i 0/\w.getD i 0<=200)/\(0 < (i:Int)->¬w.getD i 0<=w.getD (i - 1) 0)
structure qy (n:ak):Prop where
 id:0<=n.id/\n.id<=2
 image:jU n.image=true
 mt:dZ n.mt=true
 conn:(n.conn.length:Int)=3
 sync:(n.sync.length:Int)=3
 marks:∀ k,k < n.sync.length->ej (n.sync.getD k [])=true
 bC:(n.bC.length:Int)=3
 fm:n.fm=true->n.up=true/\¬n.id=2
 down:¬n.up=true->¬0 < (n.wait.length:Int)
 slot:(aD n.bJ).2.2=true
 same:lq (aD n.bJ).1 n.mt=true
 link:∀ k,k < 3->qx n k
 wait:∀ i,i < n.wait.length->QL n.wait i
open Classical in
noncomputable def ea (n:ak):Bool:=decide (qy n)
open Classical in
theorem QM {n:ak} (h:qy n):ea n=true:=by unfold ea; exact decide_eq_true h
open Classical in
theorem vO {n:ak} (h:ea n=true):qy n:=by unfold ea at h; exact of_decide_eq_true h
open Classical in
theorem dP {n:ak} (h:¬qy n):(some ((.bool false,[.undef]):Rz))=some (.bool (ea n),[.undef]):=by unfold ea; rw [decide_eq_false h]
theorem I9 {n:ak} (h:qy n):(some ((.bool true,[.undef]):Rz))=some (.bool (ea n),[.undef]):=by rw [QM h]
theorem AM {xss:List (List Int)} (h:hC xss=true):∀ k,k < xss.length->ej (xss.getD k [])=true:=fun k hk=>by
 unfold hC at h;exact aag.1 h k (adS.2 hk)
theorem CC {xss:List (List Int)} (h:∀ k,k < xss.length->ej (xss.getD k [])=true):hC xss=true:=by
 unfold hC;exact aag.2 fun k hk=>h k (adS.1 hk)
theorem Y6 {xss:List (List Int)} (h:sq xss) (k:Nat):(xss.getD k []).length<=1048576:=by
 by_cases hk:k < xss.length
 ·rw [bF hk];exact h.2 _ (aaT hk)
 ·rw [acv,aaO (adO.1 hk)];simp
theorem ab5 {R:Type} {p u b2 b3:Bool} {T F r:R} (hT:(p=true->u=true/\b2=false)->(u=false->b3=false)->T=r) (hF:((p=true->u=true/\b2=false)->(u=false->b3=false)->False)->F=r):br p (br (br u false true) F (br b2 F (br (br u false true) (br b3 F T) T))) (br (br u false true) (br b3 F T) T)=r:=by
 cases p<;>cases u<;>cases b2<;>cases b3<;>simp only [br]<;>first | exact hT (by simp) (by simp) | exact hF (by simp)
theorem zf (n:ak) (q0:cd n):Cm 42 [.agg (ab (some true) n)] (.bool (ea n),[.undef]):=by
 have ok:=q0;have s1:=ok.image;have s2:=ok.conn;have s3:=ok.bC;have s4:=ok.wait;have s5:=ok.sync.1;have s6:=ok.mt;have s7:=ok.sync;have s8:=q0.bJ;have s9:=FZ n.bJ;refine Cm.step Kn [.undef] fun J hJ=>?_;rw [Ko];simp (disch:=first | assumption | omega) only [go_sem]
 refine ed (fun h1=>?_) (fun h=>dP fun o=>h o.id);simp (disch:=first | assumption | omega) only [go_sem]
 refine qw (fun h2=>?_) (fun h=>dP fun o=>h o.image);simp (disch:=first | assumption | omega) only [go_sem]
 refine qw (fun h3=>?_) (fun h=>dP fun o=>h o.mt);simp (disch:=first | assumption | omega) only [go_sem]
 refine ed (fun h4=>?_) (fun h=>dP fun o=>h o.conn);simp (disch:=first | assumption | omega) only [go_sem]
 refine qw (fun h5=>?_) (fun h=>dP fun o=>h (by simp only [o.sync,CC o.marks,aeB]; rfl))
 simp only [D8,beq_iff_eq] at h5;simp (disch:=first | assumption | omega) only [go_sem]
 refine ed (fun h6=>?_) (fun h=>dP fun o=>h o.bC);refine ab5 (fun h7 h8=>?_) (fun h=>dP fun o=>h (fun hp=>⟨(o.fm hp).1,decide_eq_false (o.fm hp).2⟩) fun hu=>decide_eq_false (o.down (by rw [hu]; simp)))
 have h7:n.fm=true->n.up=true/\¬n.id=2:=fun hp=>⟨(h7 hp).1,of_decide_eq_false (h7 hp).2⟩;have h8:¬n.up=true->¬0 < (n.wait.length:Int):=fun hu=>of_decide_eq_false (h8 (by simpa using hu))
 simp (disch:=first | assumption | omega) only [go_sem]
 refine qw (fun h9=>?_) (fun h=>dP fun o=>h o.slot);simp (disch:=first | assumption | omega) only [go_sem]
 refine qw (fun lR=>?_) (fun h=>dP fun o=>h o.same);have adw:(∀ k,k < 3->qx n k)->WP 42 Try.f42 [.undef] 2 (iO n n.wait.length 0) (.bool (ea n),[.undef]):=by
  intro Q1;refine WP.up (H:=fun i=>iO n n.wait.length i) n.wait.length (fun i=>∀ k,k < i->QL n.wait k) (fun i hi inv J _ next=>?_) 0 (abh _) (fun k hk=>absurd hk (by omega))
  rw [DO];simp (disch:=first | assumption | omega) only [go_sem]
  refine ed (fun cU=>?_) (fun rN=>I9 ⟨h1,h2,h3,h4,h5.1,AM h5.2,h6,h7,h8,h9,lR,Q1,fun k hk=>inv k (by omega)⟩)
  simp (disch:=first | assumption | omega) only [go_sem]
  refine ed (fun ha=>?_) (fun h=>dP fun o=>h (o.wait i (by omega)).1)
  have go:(0 < (i:Int)->¬n.wait.getD i 0<=n.wait.getD (i - 1) 0)->J 2 (iO n n.wait.length ((i:Int)+1))=some (.bool (ea n),[.undef]):=fun hb=>next (by omega) fun k hk=>by
   by_cases e:k=i
   ·subst e; exact ⟨ha,hb⟩
   ·exact inv k (by omega)
  refine ed (fun oa=>?_) (fun hz=>?_)
  ·simp (disch:=first | assumption | omega) only [go_sem]
   have e1:((i:Int) - 1).toNat=i - 1:=by omega
   simp (disch:=first | assumption | omega) only [go_sem,e1]
   exact ed (fun h=>dP fun o=>(o.wait i (by omega)).2 oa h) (fun h=>go fun _=>h)
  ·simp (disch:=first | assumption | omega) only [go_sem]
   exact go fun h=>absurd h hz
 refine hJ _ _ ?_;refine WP.up (H:=fun i=>iN n i) 3 (fun i=>∀ k,k < i->qx n k) (fun i hi inv J hJ next=>?_) 0 (abh _) (fun k hk=>absurd hk (by omega))
 rw [DN];dsimp only;simp (disch:=first | assumption | omega) only [go_sem]
 refine ed (fun cU=>?_) (fun rN=>hJ _ _ (adw fun k hk=>inv k (by omega)))
 have Is:i < 3:=by omega
 have go:qx n i->J 0 (iN n ((i:Int)+1))=some (.bool (ea n),[.undef]):=fun hb=>next (by omega) fun k hk=>by
   by_cases e:k=i
   ·subst e; exact hb
   ·exact inv k (by omega)
 have no:¬qx n i->(some ((.bool false,[.undef]):Rz))=some (.bool (ea n),[.undef]):=fun h=>dP fun o=>h (o.link i Is);have eJ:U.ar .add .i64 (i:Int) 1=(i:Int)+1:=XT (by omega) (by omega)
 rw [eJ];generalize J 0 (iN n ((i:Int)+1))=z at go ⊢;unfold qx at go no;cases hc:n.conn.getD i false<;>cases hk:n.bC.getD i false<;>cases hu:n.up<;>by_cases hs:0 < ((n.sync.getD i []).length:Int)<;>by_cases hid:(i:Int)=n.id<;>simp only [hc,hk,hu,hs,hid,not_true_eq_false,not_false_eq_true,false_and,and_false,and_true,true_and,forall_const,aal,false_implies,imp_self,true_implies,and_self] at go no<;>simp (disch:=first | assumption | omega) only [go_sem,hc,hk,hu]<;>first | exact no | exact go
@[go_sem] theorem ZE (sx:Int) (sA:Bool) (sC:Bool) (vP:Nat) (lO:List Int) (sE:Nat) (iP:List Int) (sF:Nat) (iQ:List (List Int)) (kO:Bool) (kP:Bool) (kQ:Bool) (kR:Int) (sG:Nat) (iR:List UInt8) (sH:Nat) (iS:List UInt8) (AN:Nat) (pG:List Bool) (AO:Nat) (pH:List (List Int)) (AP:Nat) (pI:List Bool) (AQ:Nat) (pJ:List Int) (e0:vP=lO.length) (e1:sE=iP.length) (e2:sF=iQ.length) (e3:sG=iR.length) (e4:sH=iS.length) (e5:AN=pG.length) (e6:AO=pH.length) (e7:AP=pI.length) (e8:AQ=pJ.length) (q0:cd (⟨sx,sA,sC,lO,(⟨iP,iQ,kO,kP,kQ,kR⟩:aE),(⟨iR,iS⟩:aA),pG,pH,pI,pJ⟩:ak)) (t:bE Rz):aL 42 [.agg [.int .i64 sx,.bool sA,.bool sC,.sl (some true) 1 vP (ints lO),.sl (some true) 1 sE (ints iP),.sl (some true) 1 sF (rows (some true) iQ),.bool kO,.bool kP,.bool kQ,.int .i64 kR,.sl (some true) 1 sG (bytes iR),.sl (some true) 1 sH (bytes iS),.sl (some true) 1 AN (aJ pG),.sl (some true) 1 AO (rows (some true) pH),.sl (some true) 1 AP (aJ pI),.sl (some true) 1 AQ (ints pJ)]] t=feed t [.bool (ea (⟨sx,sA,sC,lO,(⟨iP,iQ,kO,kP,kQ,kR⟩:aE),(⟨iR,iS⟩:aA),pG,pH,pI,pJ⟩:ak))]:=by
 subst e0;subst e1;subst e2;subst e3;subst e4;subst e5;subst e6;subst e7;subst e8;exact bI (r:=.bool (ea (⟨sx,sA,sC,lO,(⟨iP,iQ,kO,kP,kQ,kR⟩:aE),(⟨iR,iS⟩:aA),pG,pH,pI,pJ⟩:ak))) (s:=.bool) (ss:=[.undef]) (zf (⟨sx,sA,sC,lO,(⟨iP,iQ,kO,kP,kQ,kR⟩:aE),(⟨iR,iS⟩:aA),pG,pH,pI,pJ⟩:ak) q0) (by kernel_rfl) (by simp only [av,bu,aW,bw,bz,ah,aj,vg]) (by simp only [ah,aI,av,aj,vg]) (by first | rfl | simp only [au,aU,aT,bp,bq,aV,bt,vg]) (by first | rfl | simp only [aaf,aah,au,vg]) t
set_option maxRecDepth 100000
section
variable (pr:dA) (cv:Cv Rz) (J:Nat->St->Option Rz)
end
structure BE (n:ak):Prop where
 conn:(n.conn.length:Int)=3
 sync:(n.sync.length:Int)=3
 bC:(n.bC.length:Int)=3
 link:∀ k,k < 3->ej (n.sync.getD k [])=true/\qx n k
open Classical in
noncomputable def nK (n:ak):Bool:=decide (BE n)
open Classical in
theorem VP {n:ak} (h:nK n=true):BE n:=by unfold nK at h; exact of_decide_eq_true h
open Classical in
theorem Ja {n:ak} (h:BE n):nK n=true:=by unfold nK; exact decide_eq_true h
open Classical in
theorem vc {n:ak} (h:¬BE n):(some ((.bool false,[.undef]):Rz))=some (.bool (nK n),[.undef]):=by unfold nK; rw [decide_eq_false h]
theorem Hw (n:ak) (q0:cd n):Cm 67 [.agg (ab (some true) n)] (.bool (nK n),[.undef]):=by
 have ok:=q0;have s5:=ok.sync.1;have s7:=ok.sync;refine Cm.step Hu [.undef] fun J hJ=>?_;rw [Hv];simp (disch:=first | assumption | omega) only [go_sem]
 refine ed (fun h1=>?_) (fun h=>vc fun o=>h o.conn);simp (disch:=first | assumption | omega) only [go_sem]
 refine ed (fun h2=>?_) (fun h=>vc fun o=>h o.sync);simp (disch:=first | assumption | omega) only [go_sem]
 refine ed (fun h3=>?_) (fun h=>vc fun o=>h o.bC);refine hJ _ _ ?_;refine WP.up (H:=fun i=>iv n i) 3 (fun i=>∀ k,k < i->ej (n.sync.getD k [])=true/\qx n k) (fun i hi inv J hJ next=>?_) 0 (abh _) (fun k hk=>absurd hk (by omega))
 rw [BO];dsimp only;simp (disch:=first | assumption | omega) only [go_sem]
 refine ed (fun cU=>?_) (fun rN=>by rw [Ja ⟨h1,h2,h3,fun k hk=>inv k (by omega)⟩])
 have Is:i < 3:=by omega
 have s8:=Y6 s7 i;simp (disch:=first | assumption | omega) only [go_sem]
 refine qw (fun hm=>?_) (fun h=>vc fun o=>h (o.link i Is).1);have go:qx n i->J 0 (iv n ((i:Int)+1))=some (.bool (nK n),[.undef]):=fun hb=>next (by omega) fun k hk=>by
  by_cases e:k=i
  ·subst e; exact ⟨hm,hb⟩
  ·exact inv k (by omega)
 have no:¬qx n i->(some ((.bool false,[.undef]):Rz))=some (.bool (nK n),[.undef]):=fun h=>vc fun o=>h (o.link i Is).2;have eJ:U.ar .add .i64 (i:Int) 1=(i:Int)+1:=XT (by omega) (by omega)
 rw [eJ];generalize J 0 (iv n ((i:Int)+1))=z at go ⊢;unfold qx at go no;cases hc:n.conn.getD i false<;>cases hk:n.bC.getD i false<;>cases hu:n.up<;>by_cases hs:0 < ((n.sync.getD i []).length:Int)<;>by_cases hid:(i:Int)=n.id<;>simp only [hc,hk,hu,hs,hid,not_true_eq_false,not_false_eq_true,false_and,and_false,and_true,true_and,forall_const,aal,false_implies,imp_self,true_implies,and_self] at go no<;>simp (disch:=first | assumption | omega) only [go_sem,hc,hk,hu]<;>first | exact no | exact go
@[go_sem] theorem Y7 (sx:Int) (sA:Bool) (sC:Bool) (vP:Nat) (lO:List Int) (sE:Nat) (iP:List Int) (sF:Nat) (iQ:List (List Int)) (kO:Bool) (kP:Bool) (kQ:Bool) (kR:Int) (sG:Nat) (iR:List UInt8) (sH:Nat) (iS:List UInt8) (AN:Nat) (pG:List Bool) (AO:Nat) (pH:List (List Int)) (AP:Nat) (pI:List Bool) (AQ:Nat) (pJ:List Int) (e0:vP=lO.length) (e1:sE=iP.length) (e2:sF=iQ.length) (e3:sG=iR.length) (e4:sH=iS.length) (e5:AN=pG.length) (e6:AO=pH.length) (e7:AP=pI.length) (e8:AQ=pJ.length) (q0:cd (⟨sx,sA,sC,lO,(⟨iP,iQ,kO,kP,kQ,kR⟩:aE),(⟨iR,iS⟩:aA),pG,pH,pI,pJ⟩:ak)) (t:bE Rz):aL 67 [.agg [.int .i64 sx,.bool sA,.bool sC,.sl (some true) 1 vP (ints lO),.sl (some true) 1 sE (ints iP),.sl (some true) 1 sF (rows (some true) iQ),.bool kO,.bool kP,.bool kQ,.int .i64 kR,.sl (some true) 1 sG (bytes iR),.sl (some true) 1 sH (bytes iS),.sl (some true) 1 AN (aJ pG),.sl (some true) 1 AO (rows (some true) pH),.sl (some true) 1 AP (aJ pI),.sl (some true) 1 AQ (ints pJ)]] t=feed t [.bool (nK (⟨sx,sA,sC,lO,(⟨iP,iQ,kO,kP,kQ,kR⟩:aE),(⟨iR,iS⟩:aA),pG,pH,pI,pJ⟩:ak))]:=by
 subst e0;subst e1;subst e2;subst e3;subst e4;subst e5;subst e6;subst e7;subst e8;exact bI (r:=.bool (nK (⟨sx,sA,sC,lO,(⟨iP,iQ,kO,kP,kQ,kR⟩:aE),(⟨iR,iS⟩:aA),pG,pH,pI,pJ⟩:ak))) (s:=.bool) (ss:=[.undef]) (Hw (⟨sx,sA,sC,lO,(⟨iP,iQ,kO,kP,kQ,kR⟩:aE),(⟨iR,iS⟩:aA),pG,pH,pI,pJ⟩:ak) q0) (by kernel_rfl) (by simp only [av,bu,aW,bw,bz,ah,aj,vg]) (by simp only [ah,aI,av,aj,vg]) (by first | rfl | simp only [au,aU,aT,bp,bq,aV,bt,vg]) (by first | rfl | simp only [aaf,aah,au,vg]) t
theorem zg (n:ak) (q0:cd n):Cm 38 [.agg (ab (some true) n)] (.bool (ea n),[.undef]):=by
 have ok:=q0;have s1:=ok.image;have s2:=ok.conn;have s3:=ok.bC;have s4:=ok.wait;have s5:=ok.sync.1;have s6:=ok.mt;have s7:=ok.sync;have s8:=q0.bJ;have s9:=FZ n.bJ;refine Cm.step Kp [.undef] fun J hJ=>?_;rw [Kq];simp (disch:=first | assumption | omega) only [go_sem]
 refine ed (fun h1=>?_) (fun h=>dP fun o=>h o.id);simp (disch:=first | assumption | omega) only [go_sem]
 refine qw (fun h2=>?_) (fun h=>dP fun o=>h o.image);simp (disch:=first | assumption | omega) only [go_sem]
 refine qw (fun h3=>?_) (fun h=>dP fun o=>h o.mt);simp (disch:=first | assumption | omega) only [go_sem]
 refine qw (fun h4=>?_) (fun h=>dP fun o=>h (Ja ⟨o.conn,o.sync,o.bC,fun k hk=>⟨o.marks k (by have:=o.sync; omega),o.link k hk⟩⟩))
 have h4:=VP h4;have h5:=h4.sync;refine ab5 (fun h7 h8=>?_) (fun h=>dP fun o=>h (fun hp=>⟨(o.fm hp).1,decide_eq_false (o.fm hp).2⟩) fun hu=>decide_eq_false (o.down (by rw [hu]; simp)))
 have h7:n.fm=true->n.up=true/\¬n.id=2:=fun hp=>⟨(h7 hp).1,of_decide_eq_false (h7 hp).2⟩;have h8:¬n.up=true->¬0 < (n.wait.length:Int):=fun hu=>of_decide_eq_false (h8 (by simpa using hu))
 refine hJ _ _ ?_;refine WP.up (H:=fun i=>kN n i) n.wait.length (fun i=>∀ k,k < i->QL n.wait k) (fun i hi inv J _ next=>?_) 0 (abh _) (fun k hk=>absurd hk (by omega))
 rw [DP];simp (disch:=first | assumption | omega) only [go_sem]
 refine ed (fun cU=>?_) (fun rN=>?_)
 ·simp (disch:=first | assumption | omega) only [go_sem]
  refine ed (fun ha=>?_) (fun h=>dP fun o=>h (o.wait i (by omega)).1)
  simp (disch:=first | assumption | omega) only [go_sem]
  have go:(0 < (i:Int)->¬n.wait.getD i 0<=n.wait.getD (i - 1) 0)->J 0 (kN n ((i:Int)+1))=some (.bool (ea n),[.undef]):=fun hb=>next (by omega) fun k hk=>by
   by_cases e:k=i
   ·subst e; exact ⟨ha,hb⟩
   ·exact inv k (by omega)
  refine ed (fun oa=>?_) (fun hz=>?_)
  ·have e1:((i:Int) - 1).toNat=i - 1:=by omega
   simp (disch:=first | assumption | omega) only [go_sem,e1]
   exact ed (fun h=>dP fun o=>(o.wait i (by omega)).2 oa h) (fun h=>go fun _=>h)
  ·exact go fun h=>absurd h hz
 ·have yes:(aD n.bJ).2.2=true->lq (aD n.bJ).1 n.mt=true->qy n:=fun a b=>⟨h1,h2,h3,h4.conn,h4.sync,fun k hk=>(h4.link k (by omega)).1,h4.bC,h7,h8,a,b,fun k hk=>(h4.link k hk).2,fun k hk=>inv k (by omega)⟩
  simp (disch:=first | assumption | omega) only [go_sem]
  refine qw (fun h9=>?_) (fun h=>dP fun o=>h o.slot);simp (disch:=first | assumption | omega) only [go_sem]
  cases lR:lq (aD n.bJ).1 n.mt with
  | true=>exact I9 (yes h9 lR)
  | false=>exact dP fun o=>by have:=o.same; rw [lR] at this; simp at this
@[go_sem] theorem ZF (sx:Int) (sA:Bool) (sC:Bool) (vP:Nat) (lO:List Int) (sE:Nat) (iP:List Int) (sF:Nat) (iQ:List (List Int)) (kO:Bool) (kP:Bool) (kQ:Bool) (kR:Int) (sG:Nat) (iR:List UInt8) (sH:Nat) (iS:List UInt8) (AN:Nat) (pG:List Bool) (AO:Nat) (pH:List (List Int)) (AP:Nat) (pI:List Bool) (AQ:Nat) (pJ:List Int) (e0:vP=lO.length) (e1:sE=iP.length) (e2:sF=iQ.length) (e3:sG=iR.length) (e4:sH=iS.length) (e5:AN=pG.length) (e6:AO=pH.length) (e7:AP=pI.length) (e8:AQ=pJ.length) (q0:cd (⟨sx,sA,sC,lO,(⟨iP,iQ,kO,kP,kQ,kR⟩:aE),(⟨iR,iS⟩:aA),pG,pH,pI,pJ⟩:ak)) (t:bE Rz):aL 38 [.agg [.int .i64 sx,.bool sA,.bool sC,.sl (some true) 1 vP (ints lO),.sl (some true) 1 sE (ints iP),.sl (some true) 1 sF (rows (some true) iQ),.bool kO,.bool kP,.bool kQ,.int .i64 kR,.sl (some true) 1 sG (bytes iR),.sl (some true) 1 sH (bytes iS),.sl (some true) 1 AN (aJ pG),.sl (some true) 1 AO (rows (some true) pH),.sl (some true) 1 AP (aJ pI),.sl (some true) 1 AQ (ints pJ)]] t=feed t [.bool (ea (⟨sx,sA,sC,lO,(⟨iP,iQ,kO,kP,kQ,kR⟩:aE),(⟨iR,iS⟩:aA),pG,pH,pI,pJ⟩:ak))]:=by
 subst e0;subst e1;subst e2;subst e3;subst e4;subst e5;subst e6;subst e7;subst e8;exact bI (r:=.bool (ea (⟨sx,sA,sC,lO,(⟨iP,iQ,kO,kP,kQ,kR⟩:aE),(⟨iR,iS⟩:aA),pG,pH,pI,pJ⟩:ak))) (s:=.bool) (ss:=[.undef]) (zg (⟨sx,sA,sC,lO,(⟨iP,iQ,kO,kP,kQ,kR⟩:aE),(⟨iR,iS⟩:aA),pG,pH,pI,pJ⟩:ak) q0) (by kernel_rfl) (by simp only [av,bu,aW,bw,bz,ah,aj,vg]) (by simp only [ah,aI,av,aj,vg]) (by first | rfl | simp only [au,aU,aT,bp,bq,aV,bt,vg]) (by first | rfl | simp only [aaf,aah,au,vg]) t
theorem agp {n:ak} (h:qy n) (hp:n.fm=true):0<=lp n.id/\lp n.id<=1:=by
 have h1:=h.id;have h2:=(h.fm hp).2;unfold lp;split<;>omega
noncomputable def aeC (n:ak):Bool:=ea n&&(n.fm&&(n.conn.getD (lp n.id).toNat false||n.mt.held))
set_option maxRecDepth 100000
section
variable {a b:Bool} {o:List D} {X:Option Rz}
theorem j5 (h:a=true->X=some (.bool b,o)):br a X (some (.bool false,o))=some (.bool (a&&b),o):=by cases a with | true=>exact h rfl | false=>rfl
theorem nL (h:a=false->X=some (.bool b,o)):br a (some (.bool false,o)) X=some (.bool (!a&&b),o):=by cases a with | true=>rfl | false=>exact h rfl
theorem ab7 (h:a=false->X=some (.bool b,o)):br a (some (.bool true,o)) X=some (.bool (a||b),o):=by cases a with | true=>rfl | false=>exact h rfl
end
def qz (g:Option Bool) (x:aE):List D:=bK g x
@[go_sem] theorem agq (g:Option Bool) (TD:Nat) (xa:List Int) (Jb:Nat) (xb:List (List Int)) (xf:Bool) (xo:Bool) (xh:Bool) (xl:Int) (xa1:TD=xa.length) (TE:Jb=xb.length):D.agg [.sl g 1 TD (ints xa),.sl g 1 Jb (rows g xb),.bool xf,.bool xo,.bool xh,.int .i64 xl]=.agg (qz g ⟨xa,xb,xf,xo,xh,xl⟩):=by
 subst xa1;subst TE;rfl
@[go_sem] theorem agr (x:aE):bP true (qz none x)=qz (some true) x:=by
 unfold qz
 first | rfl | simp only [go_sem,gi,bP,gu,gZ,gg,jk]
def kS (g:Option Bool) (x:aA):List D:=cb g x
@[go_sem] theorem afH (g:Option Bool) (TD:Nat) (xa:List UInt8) (Jb:Nat) (xb:List UInt8) (xa1:TD=xa.length) (TE:Jb=xb.length):D.agg [.sl g 1 TD (bytes xa),.sl g 1 Jb (bytes xb)]=.agg (kS g ⟨xa,xb⟩):=by
 subst xa1;subst TE;rfl
@[go_sem] theorem afI (x:aA):bP true (kS none x)=kS (some true) x:=by
 unfold kS
 first | rfl | simp only [go_sem,gi,bP,gu,gZ,gg,jk]
def hL (g:Option Bool) (x:ak):List D:=ab g x
@[go_sem] theorem ags (g:Option Bool) (xi:Int) (xu:Bool) (xp:Bool) (ab9:Nat) (xim:List Int) (acb:Nat) (xma:List Int) (ace:Nat) (xmb:List (List Int)) (xmf:Bool) (xmo:Bool) (xmh:Bool) (xml:Int) (acg:Nat) (xsa:List UInt8) (aci:Nat) (xsb:List UInt8) (xc0:Nat) (xc:List Bool) (xy0:Nat) (xy:List (List Int)) (xk0:Nat) (xk:List Bool) (Jc:Nat) (xw:List Int) (afJ:ab9=xim.length) (afK:acb=xma.length) (afL:ace=xmb.length) (afM:acg=xsa.length) (afN:aci=xsb.length) (xc1:xc0=xc.length) (xy1:xy0=xy.length) (xk1:xk0=xk.length) (TF:Jc=xw.length):D.agg [.int .i64 xi,.bool xu,.bool xp,.sl g 1 ab9 (ints xim),.sl g 1 acb (ints xma),.sl g 1 ace (rows g xmb),.bool xmf,.bool xmo,.bool xmh,.int .i64 xml,.sl g 1 acg (bytes xsa),.sl g 1 aci (bytes xsb),.sl g 1 xc0 (aJ xc),.sl g 1 xy0 (rows g xy),.sl g 1 xk0 (aJ xk),.sl g 1 Jc (ints xw)]=.agg (hL g ⟨xi,xu,xp,xim,⟨xma,xmb,xmf,xmo,xmh,xml⟩,⟨xsa,xsb⟩,xc,xy,xk,xw⟩):=by
 subst afJ;subst afK;subst afL;subst afM;subst afN;subst xc1;subst xy1;subst xk1;subst TF;rfl
@[go_sem] theorem agt (x:ak):bP true (hL none x)=hL (some true) x:=by
 unfold hL
 first | rfl | simp only [go_sem,gi,bP,gu,gZ,gg,jk]
def adx (g:Option Bool) (x:cD):List D:=bj g x
@[go_sem] theorem agu (g:Option Bool) (xf:Int) (xt:Int) (Jb:Nat) (xb:List UInt8) (TE:Jb=xb.length):D.agg [.int .i64 xf,.int .i64 xt,.sl g 1 Jb (bytes xb)]=.agg (adx g ⟨xf,xt,xb⟩):=by
 subst TE;rfl
def xj (g:Option Bool) (x:ck):List D:=lI g x
@[go_sem] theorem afO (g:Option Bool) (TG:Nat) (xn:List ak) (Jc:Nat) (xw:List cD) (TH:Nat) (xl:List ff) (TJ:Nat) (xs:List Int) (xg:Int) (xn1:TG=xn.length) (TF:Jc=xw.length) (xl1:TH=xl.length) (xs1:TJ=xs.length):D.agg [.sl g 16 TG (ad (ab g) xn),.sl g 3 Jc (ad (bj g) xw),.sl g 2 TH (ad (cJ g) xl),.sl g 1 TJ (ints xs),.int .i64 xg]=.agg (xj g ⟨xn,xw,xl,xs,xg⟩):=by
 subst xn1;subst TF;subst xl1;subst xs1;rfl
@[go_sem] theorem afP (g:Option Bool) (TG:Nat) (xn:List ak) (Jc:Nat) (xw:List cD) (TH:Nat) (xl:List ff) (TJ:Nat) (xs:List Int) (xg:Int) (xn1:TG=xn.length) (TF:Jc=xw.length) (xl1:TH=xl.length) (xs1:TJ=xs.length):D.aN [.sl g 16 TG (ad (ab g) xn),.sl g 3 Jc (ad (bj g) xw),.sl g 2 TH (ad (cJ g) xl),.sl g 1 TJ (ints xs),.int .i64 xg]=.aN (xj g ⟨xn,xw,xl,xs,xg⟩):=by
 subst xn1;subst TF;subst xl1;subst xs1;rfl
def afQ (g:Option Bool) (x:uI):List D:=GA g x
@[go_sem] theorem ain (g:Option Bool) (xk:Int) (xc:Int) (xv:Int) (xw:Int) (xg0:Nat) (xg:List Int) (xg1:xg0=xg.length):D.agg [.int .i64 xk,.int .i64 xc,.int .i64 xv,.int .i64 xw,.sl g 1 xg0 (ints xg)]=.agg (afQ g ⟨xk,xc,xv,xw,xg⟩):=by
 subst xg1;rfl
def ady (g:Option Bool) (x:ya):List D:=Br g x
@[go_sem] theorem agv (g:Option Bool) (xf:Int) (xt:Int) (xmk:Int) (xmc:Int) (xmv:Int) (xmw:Int) (aco:Nat) (xmg:List Int) (afR:aco=xmg.length):D.agg [.int .i64 xf,.int .i64 xt,.int .i64 xmk,.int .i64 xmc,.int .i64 xmv,.int .i64 xmw,.sl g 1 aco (ints xmg)]=.agg (ady g ⟨xf,xt,⟨xmk,xmc,xmv,xmw,xmg⟩⟩):=by
 subst afR;rfl
def KQ (g:Option Bool) (x:qd):List D:=Bs g x
@[go_sem] theorem agw (g:Option Bool) (xk:Int) (xa:Int) (xb:Int):D.agg [.int .i64 xk,.int .i64 xa,.int .i64 xb]=.agg (KQ g ⟨xk,xa,xb⟩):=by
 rfl
@[go_sem] theorem agx (x:qd):bP true (KQ none x)=KQ (some true) x:=by
 unfold KQ
 first | rfl | simp only [go_sem,gi,bP,gu,gZ,gg,jk]
section
variable (t:bE Rz)
@[go_sem] theorem afS (g:Bool) (n:ak) (h:cd n):aL 9 [.agg (hL (some g) n)] t=feed t [enc .node n]:=Vq t g n h
@[go_sem] theorem afT (g h:Bool) (n:ak) (ok:cd n):aL 11 [.agg (hL (some g) n),.agg (hL (some h) n)] t=feed t [.bool true]:=MH t g h n ok
@[go_sem] theorem afU (g:Bool) (n:ak) (left:Int) (h0:0<=left) (h1:left<=1048576) (ln:Ff n):aL 7 [.agg (hL (some g) n),.int .i64 left] t=feed t [.int .i64 (gr n left)]:=Vr t g n left h0 h1 ln
@[go_sem] theorem aeP (g h:Bool) (w:ck) (ok:nW w):aL 18 [.agg (xj (some g) w),.agg (xj (some h) w)] t=feed t [.bool true]:=Ts t g h w ok
end
set_option maxRecDepth 100000
section
variable (pr:dA) (cv:Cv Rz) (J:Nat->St->Option Rz)
theorem Kr:Told cfg Try.prog 32 Try.f32:=⟨by kernel_rfl,Try.func32,by kernel_rfl⟩
theorem Kt (x0:ak) (x1:ak):aR pr cv J 32 Try.f32 [(.agg (ab (some true) x0)),(.agg (ab (some true) x1))]=
 let y1:Option (D × List D):=(some ((.bool false),[.undef,.undef]))
 (cv 42 [(.agg (ab (some true) x0))] (.bool (fun cx=>(.done (br cx (cv 42 [(.agg (ab (some true) x1))] (.bool (fun ku=>(.done (br ku (br (br (pr.eq x0.id 2) false true) (cv 62 [(.int .i64 x0.id)] (.int (fun jM=>(.done (some ((.bool (pr.eq x1.id jM)),[.undef,.undef])))))) y1) y1))))) y1))))):=by kernel_rfl
theorem Hy:Told cfg Try.prog 26 Try.f26:=⟨by kernel_rfl,Try.func26,by kernel_rfl⟩
theorem Hz (x0:ak) (x1:ak):aR pr cv J 26 Try.f26 [(.agg (ab (some true) x0)),(.agg (ab (some true) x1))]=
 let y1:Option (D × List D):=(some ((.bool false),[.undef,.undef]))
 (cv 38 [(.agg (ab (some true) x0))] (.bool (fun cx=>(.done (br cx (cv 38 [(.agg (ab (some true) x1))] (.bool (fun ku=>(.done (br ku (cv 60 [(.int .i64 x0.id)] (.int (fun jM=>(.done (some ((.bool (pr.eq jM x1.id)),[.undef,.undef])))))) y1))))) y1))))):=by kernel_rfl
theorem HA:Told cfg Try.prog 10 Try.f10:=⟨by kernel_rfl,Try.func10,by kernel_rfl⟩
theorem HB (x0:ak) (x1:ak):aR pr cv J 10 Try.f10 [(.agg (ab (some true) x0)),(.agg (ab (some true) x1))]=
 let y1:Option (D × List D):=(some ((.bool false),[.undef,.undef]))
 (cv 32 [(.agg (ab (some true) x0)),(.agg (ab (some true) x1))] (.bool (fun cx=>(.done (br cx (br x0.up (br x0.mt.eb (br (br x0.mt.bW false true) (br (br x0.mt.held false true) (br (pr.bh x1.id x0.conn.length) (br (br (pr.eK (aJ x0.conn) (pr.idx 0 x1.id 1)) true false) (br (br (pr.dm (aJ x0.conn) (pr.idx 0 x1.id 1)) false true) (some ((.bool (br x1.fm false true)),[.undef,.undef])) y1) none) none) y1) y1) y1) y1) y1))))):=by kernel_rfl
theorem HC:Told cfg Try.prog 8 Try.f8:=⟨by kernel_rfl,Try.func8,by kernel_rfl⟩
theorem HD (x0:ak) (x1:ak):aR pr cv J 8 Try.f8 [(.agg (ab (some true) x0)),(.agg (ab (some true) x1))]=
 let y1:Option (D × List D):=(some ((.bool false),[.undef,.undef]))
 (cv 26 [(.agg (ab (some true) x0)),(.agg (ab (some true) x1))] (.bool (fun cx=>(.done (br cx (br x0.up (br x0.mt.eb (br (br x0.mt.bW false true) (br (br x0.mt.held false true) (br (pr.bh x1.id x0.conn.length) (br (br (pr.eK (aJ x0.conn) (pr.idx 0 x1.id 1)) true false) (br (br (pr.dm (aJ x0.conn) (pr.idx 0 x1.id 1)) false true) (some ((.bool (br x1.fm false true)),[.undef,.undef])) y1) none) none) y1) y1) y1) y1) y1))))):=by kernel_rfl
theorem HE:Told cfg Try.prog 13 Try.f13:=⟨by kernel_rfl,Try.func13,by kernel_rfl⟩
theorem HF (x0:ak) (x1:ak) (x2:Bool):aR pr cv J 13 Try.f13 [(.agg (ab (some true) x0)),(.agg (ab (some true) x1)),(.bool x2)]=
 let y1:Option (D × List D):=(some ((.bool false),[.undef,.undef,.undef]))
 (cv 32 [(.agg (ab (some true) x0)),(.agg (ab (some true) x1))] (.bool (fun cx=>(.done (br (br cx false true) y1 (br (br x0.up false true) y1 (br (br x0.mt.eb false true) y1 (br x0.mt.bW y1 (br x0.fm y1 (br x0.mt.held (some ((.bool true),[.undef,.undef,.undef])) (br (pr.bh x1.id x0.conn.length) (br (br (pr.eK (aJ x0.conn) (pr.idx 0 x1.id 1)) true false) (br (pr.dm (aJ x0.conn) (pr.idx 0 x1.id 1)) (br (pr.bh x0.id x1.conn.length) (br (br (pr.eK (aJ x1.conn) (pr.idx 0 x0.id 1)) true false) (br (pr.dm (aJ x1.conn) (pr.idx 0 x0.id 1)) (br (pr.bh x1.id x0.bC.length) (br (br (pr.eK (aJ x0.bC) (pr.idx 0 x1.id 1)) true false) (br (br (pr.dm (aJ x0.bC) (pr.idx 0 x1.id 1)) false true) (br (pr.bh x0.id x1.bC.length) (br (br (pr.eK (aJ x1.bC) (pr.idx 0 x0.id 1)) true false) (br (br (pr.dm (aJ x1.bC) (pr.idx 0 x0.id 1)) false true) (br (br x1.fm false true) (br (pr.eq x0.mt.last x1.mt.last) (some ((.bool x2),[.undef,.undef,.undef])) y1) y1) y1) none) none) y1) none) none) y1) none) none) y1) none) none))))))))))):=by kernel_rfl
theorem HG:Told cfg Try.prog 12 Try.f12:=⟨by kernel_rfl,Try.func12,by kernel_rfl⟩
theorem HH (x0:ak) (x1:ak) (x2:Bool):aR pr cv J 12 Try.f12 [(.agg (ab (some true) x0)),(.agg (ab (some true) x1)),(.bool x2)]=
 let y1:Option (D × List D):=(some ((.bool false),[.undef,.undef,.undef]))
 (cv 26 [(.agg (ab (some true) x0)),(.agg (ab (some true) x1))] (.bool (fun cx=>(.done (br (br cx false true) y1 (br (br x0.up false true) y1 (br (br x0.mt.eb false true) y1 (br x0.mt.bW y1 (br x0.fm y1 (br x0.mt.held (some ((.bool true),[.undef,.undef,.undef])) (br (pr.bh x1.id x0.conn.length) (br (br (pr.eK (aJ x0.conn) (pr.idx 0 x1.id 1)) true false) (br (pr.dm (aJ x0.conn) (pr.idx 0 x1.id 1)) (br (pr.bh x0.id x1.conn.length) (br (br (pr.eK (aJ x1.conn) (pr.idx 0 x0.id 1)) true false) (br (pr.dm (aJ x1.conn) (pr.idx 0 x0.id 1)) (br (pr.bh x1.id x0.bC.length) (br (br (pr.eK (aJ x0.bC) (pr.idx 0 x1.id 1)) true false) (br (br (pr.dm (aJ x0.bC) (pr.idx 0 x1.id 1)) false true) (br (pr.bh x0.id x1.bC.length) (br (br (pr.eK (aJ x1.bC) (pr.idx 0 x0.id 1)) true false) (br (br (pr.dm (aJ x1.bC) (pr.idx 0 x0.id 1)) false true) (br (br x1.fm false true) (br (pr.eq x0.mt.last x1.mt.last) (some ((.bool x2),[.undef,.undef,.undef])) y1) y1) y1) none) none) y1) none) none) y1) none) none) y1) none) none))))))))))):=by kernel_rfl
end
@[go_sem] theorem ZG (n:ak) (q0:cd n) (t:bE Rz):aL 42 [.agg (hL (some true) n)] t=feed t [.bool (ea n)]:=by
 exact bI (r:=.bool (ea n)) (s:=.bool) (ss:=[.undef]) (zf n q0) (by kernel_rfl) (by simp only [av,bu,aW,bw,bz,ah,aj,vg]) (by simp only [ah,aI,av,aj,vg]) (by first | rfl | simp only [au,aU,aT,bp,bq,aV,bt,vg]) (by first | rfl | simp only [aaf,aah,au,vg]) t
@[go_sem] theorem ZH (n:ak) (q0:cd n) (t:bE Rz):aL 38 [.agg (hL (some true) n)] t=feed t [.bool (ea n)]:=by
 exact bI (r:=.bool (ea n)) (s:=.bool) (ss:=[.undef]) (zg n q0) (by kernel_rfl) (by simp only [av,bu,aW,bw,bz,ah,aj,vg]) (by simp only [ah,aI,av,aj,vg]) (by first | rfl | simp only [au,aU,aT,bp,bq,aV,bt,vg]) (by first | rfl | simp only [aaf,aah,au,vg]) t
@[go_sem] theorem Y8 (s:aA) (q0:cY s) (t:bE Rz):aL 76 [.agg (kS (some true) s)] t=feed t [enc .mt ((aD s).1),.int .i64 ((aD s).2.1),.bool ((aD s).2.2)]:=by
 exact bI (r:=.aZ [enc .mt ((aD s).1),.int .i64 ((aD s).2.1),.bool ((aD s).2.2)]) (s:=.aZ [.ty .mt,.int .i64,.bool]) (ss:=[.undef]) (w8 s q0) (by kernel_rfl) (by simp only [av,bu,aW,bw,bz,ah,aj,vg]) (by simp only [ah,aI,av,aj,vg]) (by first | rfl | simp only [au,aU,aT,bp,bq,aV,bt,vg]) (by first | rfl | simp only [aaf,aah,au,vg]) t
@[go_sem] theorem Y9 (s:aA) (q0:cY s) (t:bE Rz):aL 68 [.agg (kS (some true) s)] t=feed t [enc .mt ((aD s).1),.int .i64 ((aD s).2.1),.bool ((aD s).2.2)]:=by
 exact bI (r:=.aZ [enc .mt ((aD s).1),.int .i64 ((aD s).2.1),.bool ((aD s).2.2)]) (s:=.aZ [.ty .mt,.int .i64,.bool]) (ss:=[.undef]) (w9 s q0) (by kernel_rfl) (by simp only [av,bu,aW,bw,bz,ah,aj,vg]) (by simp only [ah,aI,av,aj,vg]) (by first | rfl | simp only [au,aU,aT,bp,bq,aV,bt,vg]) (by first | rfl | simp only [aaf,aah,au,vg]) t
@[go_sem] theorem ZI (s:aA) (q0:cY s) (t:bE Rz):aL 106 [.agg (kS (some true) s)] t=feed t [enc .mt ((((aD s).1,(aD s).2.1,kY s)).1),.int .i64 ((((aD s).1,(aD s).2.1,kY s)).2.1),.bool ((((aD s).1,(aD s).2.1,kY s)).2.2)]:=by
 exact bI (r:=.aZ [enc .mt ((((aD s).1,(aD s).2.1,kY s)).1),.int .i64 ((((aD s).1,(aD s).2.1,kY s)).2.1),.bool ((((aD s).1,(aD s).2.1,kY s)).2.2)]) (s:=.aZ [.ty .mt,.int .i64,.bool]) (ss:=[.undef]) (ze s q0) (by kernel_rfl) (by simp only [av,bu,aW,bw,bz,ah,aj,vg]) (by simp only [ah,aI,av,aj,vg]) (by first | rfl | simp only [au,aU,aT,bp,bq,aV,bt,vg]) (by first | rfl | simp only [aaf,aah,au,vg]) t
@[go_sem] theorem Za (s:aA) (q0:cY s) (t:bE Rz):aL 96 [.agg (kS (some true) s)] t=feed t [.int .i64 (oS s)]:=by
 exact bI (r:=.int .i64 (oS s)) (s:=.int .i64) (ss:=[.undef]) (w7 s q0) (by kernel_rfl) (by simp only [av,bu,aW,bw,bz,ah,aj,vg]) (by simp only [ah,aI,av,aj,vg]) (by first | rfl | simp only [au,aU,aT,bp,bq,aV,bt,vg]) (by first | rfl | simp only [aaf,aah,au,vg]) t
@[go_sem] theorem VQ (m:aE) (n:Nat) (q0:cz m) (q1:(cw m).length<=151) (q2:n < 4611686018427387904) (t:bE Rz):aL 122 [.agg (qz (some true) m),.int .i64 (n:Int)] t=feed t [enc .B (j0 m n)]:=by
 exact bI (r:=enc .B (j0 m n)) (s:=.ty .B) (ss:=[.undef,.undef]) (u9 m n q0 q1 q2) (by kernel_rfl) (by simp only [av,bu,aW,bw,bz,ah,aj,vg]) (by simp only [ah,aI,av,aj,vg]) (by first | rfl | simp only [au,aU,aT,bp,bq,aV,bt,vg]) (by first | rfl | simp only [aaf,aah,au,vg]) t
@[go_sem] theorem ZJ (m:aE) (n:Nat) (q0:cz m) (q1:(cw m).length<=151) (q2:n < 4611686018427387904) (t:bE Rz):aL 111 [.agg (qz (some true) m),.int .i64 (n:Int)] t=feed t [enc .B (j0 m n)]:=by
 exact bI (r:=enc .B (j0 m n)) (s:=.ty .B) (ss:=[.undef,.undef]) (zd m n q0 q1 q2) (by kernel_rfl) (by simp only [av,bu,aW,bw,bz,ah,aj,vg]) (by simp only [ah,aI,av,aj,vg]) (by first | rfl | simp only [au,aU,aT,bp,bq,aV,bt,vg]) (by first | rfl | simp only [aaf,aah,au,vg]) t
noncomputable def oY (x y:ak):Bool:=ea x&&(ea y&&(!decide (x.id=2)&&decide (y.id=lp x.id)))
structure afV (x y:ak):Prop where
 ox:qy x
 oy:qy y
 xl:0<=x.id
 xh:x.id<=1
 yl:0<=y.id
 yh:y.id<=1
 akX:y.id=lp x.id
theorem BF {x y:ak} (h:oY x y=true):afV x y:=by
 unfold oY at h;simp only [D8,abf,decide_eq_true_eq,decide_eq_false_iff_not] at h;obtain ⟨h1,h2,h3,h4⟩:=h;have k1:=vO h1;have k2:=vO h2;have i1:=k1.id;have i2:=k2.id;have h5:=h4;unfold lp at h5;exact ⟨k1,k2,i1.1,by omega,i2.1,by split at h5<;>omega,h4⟩
theorem Ku (x:ak) (y:ak) (q0:cd x) (q1:cd y):Cm 32 [.agg (ab (some true) x),.agg (ab (some true) y)] (.bool (oY x y),[.undef,.undef]):=by
 refine Cm.step Kr _ fun J _=>?_;rw [Kt];unfold oY;simp (disch:=first | assumption | omega) only [go_sem]
 refine j5 fun h1=>?_;simp (disch:=first | assumption | omega) only [go_sem]
 refine j5 fun h2=>?_;simp (disch:=first | assumption | omega) only [go_sem]
 refine nL fun h3=>?_;simp (disch:=first | assumption | omega) only [go_sem]
@[go_sem] theorem ZK (x:ak) (y:ak) (q0:cd x) (q1:cd y) (t:bE Rz):aL 32 [.agg (hL (some true) x),.agg (hL (some true) y)] t=feed t [.bool (oY x y)]:=by
 exact bI (r:=.bool (oY x y)) (s:=.bool) (ss:=[.undef,.undef]) (Ku x y q0 q1) (by kernel_rfl) (by simp only [av,bu,aW,bw,bz,ah,aj,vg]) (by simp only [ah,aI,av,aj,vg]) (by first | rfl | simp only [au,aU,aT,bp,bq,aV,bt,vg]) (by first | rfl | simp only [aaf,aah,au,vg]) t
theorem HI (x:ak) (y:ak) (q0:cd x) (q1:cd y):Cm 26 [.agg (ab (some true) x),.agg (ab (some true) y)] (.bool (oY x y),[.undef,.undef]):=by
 refine Cm.step Hy _ fun J _=>?_;rw [Hz];unfold oY;simp (disch:=first | assumption | omega) only [go_sem]
 refine j5 fun h1=>?_;simp (disch:=first | assumption | omega) only [go_sem]
 refine j5 fun h2=>?_;simp (disch:=first | assumption | omega) only [go_sem]
 have i1:=(vO h1).id;have i2:=(vO h2).id;unfold lp;by_cases h:x.id=2
 ·rw [h]; simp; omega
 ·simp [h,eq_comm]
@[go_sem] theorem Zb (x:ak) (y:ak) (q0:cd x) (q1:cd y) (t:bE Rz):aL 26 [.agg (hL (some true) x),.agg (hL (some true) y)] t=feed t [.bool (oY x y)]:=by
 exact bI (r:=.bool (oY x y)) (s:=.bool) (ss:=[.undef,.undef]) (HI x y q0 q1) (by kernel_rfl) (by simp only [av,bu,aW,bw,bz,ah,aj,vg]) (by simp only [ah,aI,av,aj,vg]) (by first | rfl | simp only [au,aU,aT,bp,bq,aV,bt,vg]) (by first | rfl | simp only [aaf,aah,au,vg]) t
noncomputable def nM (x y:ak):Bool:=oY x y&&(x.up&&(x.mt.eb&&(!x.mt.bW&&(!x.mt.held&&(!x.conn.getD y.id.toNat false&&!y.fm)))))
theorem HJ (x:ak) (y:ak) (q0:cd x) (q1:cd y):Cm 10 [.agg (ab (some true) x),.agg (ab (some true) y)] (.bool (nM x y),[.undef,.undef]):=by
 refine Cm.step HA _ fun J _=>?_;rw [HB];unfold nM;simp (disch:=first | assumption | omega) only [go_sem]
 refine j5 fun h1=>?_
 try simp (disch:=first | assumption | omega) only [go_sem]
 have p:=BF h1;have:=p.xl; have:=p.xh; have:=p.yl; have:=p.yh; have:=p.ox.conn;simp (disch:=first | assumption | omega) only [go_sem]
 refine j5 fun _=>?_
 try simp (disch:=first | assumption | omega) only [go_sem]
 refine j5 fun _=>?_
 try simp (disch:=first | assumption | omega) only [go_sem]
 refine nL fun _=>?_
 try simp (disch:=first | assumption | omega) only [go_sem]
 refine nL fun _=>?_
 try simp (disch:=first | assumption | omega) only [go_sem]
 exact nL fun _=>rfl
@[go_sem] theorem Zc (x:ak) (y:ak) (q0:cd x) (q1:cd y) (t:bE Rz):aL 10 [.agg (hL (some true) x),.agg (hL (some true) y)] t=feed t [.bool (nM x y)]:=by
 exact bI (r:=.bool (nM x y)) (s:=.bool) (ss:=[.undef,.undef]) (HJ x y q0 q1) (by kernel_rfl) (by simp only [av,bu,aW,bw,bz,ah,aj,vg]) (by simp only [ah,aI,av,aj,vg]) (by first | rfl | simp only [au,aU,aT,bp,bq,aV,bt,vg]) (by first | rfl | simp only [aaf,aah,au,vg]) t
theorem HK (x:ak) (y:ak) (q0:cd x) (q1:cd y):Cm 8 [.agg (ab (some true) x),.agg (ab (some true) y)] (.bool (nM x y),[.undef,.undef]):=by
 refine Cm.step HC _ fun J _=>?_;rw [HD];unfold nM;simp (disch:=first | assumption | omega) only [go_sem]
 refine j5 fun h1=>?_
 try simp (disch:=first | assumption | omega) only [go_sem]
 have p:=BF h1;have:=p.xl; have:=p.xh; have:=p.yl; have:=p.yh; have:=p.ox.conn;simp (disch:=first | assumption | omega) only [go_sem]
 refine j5 fun _=>?_
 try simp (disch:=first | assumption | omega) only [go_sem]
 refine j5 fun _=>?_
 try simp (disch:=first | assumption | omega) only [go_sem]
 refine nL fun _=>?_
 try simp (disch:=first | assumption | omega) only [go_sem]
 refine nL fun _=>?_
 try simp (disch:=first | assumption | omega) only [go_sem]
 exact nL fun _=>rfl
@[go_sem] theorem Zd (x:ak) (y:ak) (q0:cd x) (q1:cd y) (t:bE Rz):aL 8 [.agg (hL (some true) x),.agg (hL (some true) y)] t=feed t [.bool (nM x y)]:=by
 exact bI (r:=.bool (nM x y)) (s:=.bool) (ss:=[.undef,.undef]) (HK x y q0 q1) (by kernel_rfl) (by simp only [av,bu,aW,bw,bz,ah,aj,vg]) (by simp only [ah,aI,av,aj,vg]) (by first | rfl | simp only [au,aU,aT,bp,bq,aV,bt,vg]) (by first | rfl | simp only [aaf,aah,au,vg]) t
noncomputable def nN (x y:ak) (q:Bool):Bool:=oY x y&&(x.up&&(x.mt.eb&&(!x.mt.bW&&(!x.fm&&(x.mt.held||(x.conn.getD y.id.toNat false&&(y.conn.getD x.id.toNat false&&(!x.bC.getD y.id.toNat false&&(!y.bC.getD x.id.toNat false&&(!y.fm&&(decide (x.mt.last=y.mt.last)&&q)))))))))))
theorem HL (x:ak) (y:ak) (q:Bool) (q0:cd x) (q1:cd y):Cm 13 [.agg (ab (some true) x),.agg (ab (some true) y),.bool q] (.bool (nN x y q),[.undef,.undef,.undef]):=by
 refine Cm.step HE _ fun J _=>?_;rw [HF];unfold nN;simp (disch:=first | assumption | omega) only [go_sem]
 refine j5 fun h1=>?_
 try simp (disch:=first | assumption | omega) only [go_sem]
 have p:=BF h1;have:=p.xl; have:=p.xh; have:=p.yl; have:=p.yh; have:=p.ox.conn; have:=p.oy.conn; have:=p.ox.bC; have:=p.oy.bC;simp (disch:=first | assumption | omega) only [go_sem]
 refine j5 fun _=>?_
 try simp (disch:=first | assumption | omega) only [go_sem]
 refine j5 fun _=>?_
 try simp (disch:=first | assumption | omega) only [go_sem]
 refine nL fun _=>?_
 try simp (disch:=first | assumption | omega) only [go_sem]
 refine nL fun _=>?_
 try simp (disch:=first | assumption | omega) only [go_sem]
 refine ab7 fun _=>?_
 try simp (disch:=first | assumption | omega) only [go_sem]
 refine j5 fun _=>?_
 try simp (disch:=first | assumption | omega) only [go_sem]
 refine j5 fun _=>?_
 try simp (disch:=first | assumption | omega) only [go_sem]
 refine nL fun _=>?_
 try simp (disch:=first | assumption | omega) only [go_sem]
 refine nL fun _=>?_
 try simp (disch:=first | assumption | omega) only [go_sem]
 refine nL fun _=>?_
 try simp (disch:=first | assumption | omega) only [go_sem]
 exact j5 fun _=>rfl
@[go_sem] theorem Ze (x:ak) (y:ak) (q:Bool) (q0:cd x) (q1:cd y) (t:bE Rz):aL 13 [.agg (hL (some true) x),.agg (hL (some true) y),.bool q] t=feed t [.bool (nN x y q)]:=by
 exact bI (r:=.bool (nN x y q)) (s:=.bool) (ss:=[.undef,.undef,.undef]) (HL x y q q0 q1) (by kernel_rfl) (by simp only [av,bu,aW,bw,bz,ah,aj,vg]) (by simp only [ah,aI,av,aj,vg]) (by first | rfl | simp only [au,aU,aT,bp,bq,aV,bt,vg]) (by first | rfl | simp only [aaf,aah,au,vg]) t
theorem HM (x:ak) (y:ak) (q:Bool) (q0:cd x) (q1:cd y):Cm 12 [.agg (ab (some true) x),.agg (ab (some true) y),.bool q] (.bool (nN x y q),[.undef,.undef,.undef]):=by
 refine Cm.step HG _ fun J _=>?_;rw [HH];unfold nN;simp (disch:=first | assumption | omega) only [go_sem]
 refine j5 fun h1=>?_
 try simp (disch:=first | assumption | omega) only [go_sem]
 have p:=BF h1;have:=p.xl; have:=p.xh; have:=p.yl; have:=p.yh; have:=p.ox.conn; have:=p.oy.conn; have:=p.ox.bC; have:=p.oy.bC;simp (disch:=first | assumption | omega) only [go_sem]
 refine j5 fun _=>?_
 try simp (disch:=first | assumption | omega) only [go_sem]
 refine j5 fun _=>?_
 try simp (disch:=first | assumption | omega) only [go_sem]
 refine nL fun _=>?_
 try simp (disch:=first | assumption | omega) only [go_sem]
 refine nL fun _=>?_
 try simp (disch:=first | assumption | omega) only [go_sem]
 refine ab7 fun _=>?_
 try simp (disch:=first | assumption | omega) only [go_sem]
 refine j5 fun _=>?_
 try simp (disch:=first | assumption | omega) only [go_sem]
 refine j5 fun _=>?_
 try simp (disch:=first | assumption | omega) only [go_sem]
 refine nL fun _=>?_
 try simp (disch:=first | assumption | omega) only [go_sem]
 refine nL fun _=>?_
 try simp (disch:=first | assumption | omega) only [go_sem]
 refine nL fun _=>?_
 try simp (disch:=first | assumption | omega) only [go_sem]
 exact j5 fun _=>rfl
@[go_sem] theorem Zf (x:ak) (y:ak) (q:Bool) (q0:cd x) (q1:cd y) (t:bE Rz):aL 12 [.agg (hL (some true) x),.agg (hL (some true) y),.bool q] t=feed t [.bool (nN x y q)]:=by
 exact bI (r:=.bool (nN x y q)) (s:=.bool) (ss:=[.undef,.undef,.undef]) (HM x y q q0 q1) (by kernel_rfl) (by simp only [av,bu,aW,bw,bz,ah,aj,vg]) (by simp only [ah,aI,av,aj,vg]) (by first | rfl | simp only [au,aU,aT,bp,bq,aV,bt,vg]) (by first | rfl | simp only [aaf,aah,au,vg]) t
set_option maxRecDepth 100000
section
variable (pr:dA) (cv:Cv Rz) (J:Nat->St->Option Rz)
def TK (x0:List (List Int)) (i0:Int) (i1:Int) (n2:Nat) (c3:List D):St:=(St.mk [(3,(.ref 10003 [] 0 none)),(7,(sR (some true) x0)),(8,(.int .i64 i0)),(9,(.int .i64 i1))] [(10003,[(.sl none 1 n2 c3)])] [] 0)
theorem DQ:Told cfg Try.prog 120 Try.f120:=⟨by kernel_rfl,Try.func120,by kernel_rfl⟩
theorem DR (x0:aA):aR pr cv J 120 Try.f120 [(.agg (cb (some true) x0))]=
 (cv 128 [(s8 (some true) x0.a)] (.ty eP.B (fun (dt:List UInt8)=>(.done (cv 128 [(s8 (some true) x0.b)] (.ty eP.B (fun (eG:List UInt8)=>(.done (some ((.agg [(s8 none dt),(s8 none eG)]),[.undef])))))))))):=by kernel_rfl
def XX (x0:aE) (i0:Int) (b1:Bool) (b2:Bool) (b3:Bool) (i4:Int) (n5:Nat) (c6:List D):St:=(St.mk [(1,(.ptr 1 [] 0)),(2,(.ptr 2 [] 0)),(3,(.ptr 3 [] 0)),(4,(.int .i64 i0))] [(1,(bK (some true) x0)),(2,[(.nil 1),(.nil 1),(.bool b1),(.bool b2),(.bool b3),(.int .i64 i4)]),(3,[(.sl none 1 n5 c6),(.nil 1),(.bool x0.eb),(.bool x0.bW),(.bool x0.held),(.int .i64 x0.last)])] [] 0)
def TT (x0:aE) (i0:Int) (b1:Bool) (b2:Bool) (b3:Bool) (i4:Int) (n5:Nat) (c6:List D) (n7:Nat) (c8:List D):St:=(St.mk [(1,(.ptr 1 [] 0)),(2,(.ptr 2 [] 0)),(3,(.ptr 3 [] 0)),(4,(.int .i64 i0))] [(1,(bK (some true) x0)),(2,[(.nil 1),(.nil 1),(.bool b1),(.bool b2),(.bool b3),(.int .i64 i4)]),(3,[(.sl none 1 n5 c6),(.sl none 1 n7 c8),(.bool x0.eb),(.bool x0.bW),(.bool x0.held),(.int .i64 x0.last)])] [] 0)
theorem Kv:Told cfg Try.prog 110 Try.f110:=⟨by kernel_rfl,Try.func110,by kernel_rfl⟩
theorem Kw (x0:aA):aR pr cv J 110 Try.f110 [(.agg (cb (some true) x0))]=
 (br (br (pr.cell (bytes x0.a)) (pr.fits (0+x0.a.length) 1) false) (br (br (pr.cell (bytes x0.b)) (pr.fits (0+x0.b.length) 1) false) (some ((.agg [(.sl none 1 (0+x0.a.length) (List.append [] (bytes x0.a))),(.sl none 1 (0+x0.b.length) (List.append [] (bytes x0.b)))]),[.undef])) none) none):=by kernel_rfl
def XY (x0:ak) (i0:Int) (i1:Int) (b2:Bool) (b3:Bool) (b4:Bool) (b5:Bool) (b6:Bool) (i7:Int) (n8:Nat) (c9:List D) (vE:Nat) (vF:List D) (iL:Nat) (jL:List D) (u6:Bool) (lN:Bool) (sw:Bool) (i17:Int) (n18:Nat) (OY:List D) (IM:Nat) (IN:List D) (TL:Nat) (TM:List D) (n24:Nat) (c25:List D) (IP:Nat) (IQ:List D):St:=(St.mk [(1,(.ptr 1 [] 0)),(2,(.ptr 2 [] 0)),(3,(.ptr 3 [] 0)),(4,(.int .i64 i0))] [(1,(ab (some true) x0)),(2,[(.int .i64 i1),(.bool b2),(.bool b3),(.nil 1),(.nil 1),(.nil 1),(.bool b4),(.bool b5),(.bool b6),(.int .i64 i7),(.nil 1),(.nil 1),(.nil 1),(.nil 1),(.nil 1),(.nil 1)]),(3,[(.int .i64 x0.id),(.bool x0.up),(.bool x0.fm),(.sl none 1 n8 c9),(.sl none 1 vE vF),(.sl none 1 iL jL),(.bool u6),(.bool lN),(.bool sw),(.int .i64 i17),(.sl none 1 n18 OY),(.sl none 1 IM IN),(.sl none 1 TL TM),(.nil 1),(.sl none 1 n24 c25),(.sl none 1 IP IQ)])] [] 0)
def TU (x0:ak) (i0:Int) (i1:Int) (b2:Bool) (b3:Bool) (b4:Bool) (b5:Bool) (b6:Bool) (i7:Int) (n8:Nat) (c9:List D) (vE:Nat) (vF:List D) (iL:Nat) (jL:List D) (u6:Bool) (lN:Bool) (sw:Bool) (i17:Int) (n18:Nat) (OY:List D) (IM:Nat) (IN:List D) (TL:Nat) (TM:List D) (n24:Nat) (c25:List D) (IP:Nat) (IQ:List D) (OZ:Nat) (O0:List D):St:=(St.mk [(1,(.ptr 1 [] 0)),(2,(.ptr 2 [] 0)),(3,(.ptr 3 [] 0)),(4,(.int .i64 i0))] [(1,(ab (some true) x0)),(2,[(.int .i64 i1),(.bool b2),(.bool b3),(.nil 1),(.nil 1),(.nil 1),(.bool b4),(.bool b5),(.bool b6),(.int .i64 i7),(.nil 1),(.nil 1),(.nil 1),(.nil 1),(.nil 1),(.nil 1)]),(3,[(.int .i64 x0.id),(.bool x0.up),(.bool x0.fm),(.sl none 1 n8 c9),(.sl none 1 vE vF),(.sl none 1 iL jL),(.bool u6),(.bool lN),(.bool sw),(.int .i64 i17),(.sl none 1 n18 OY),(.sl none 1 IM IN),(.sl none 1 TL TM),(.sl none 1 n24 c25),(.sl none 1 IP IQ),(.sl none 1 OZ O0)])] [] 0)
end
@[go_sem] theorem akY (xs:List Int):List.append [] (ints xs)=ints xs:=rfl
@[go_sem] theorem akZ (xs:List UInt8):List.append [] (bytes xs)=bytes xs:=rfl
@[go_sem] theorem ak0 (xs:List Bool):List.append [] (aJ xs)=aJ xs:=rfl
@[go_sem] theorem ak1 (xs:List (List Int)):List.append [] (rows none xs)=rows none xs:=rfl
@[go_sem] theorem ajC (xs:List Int):[D.sl none 1 xs.length (ints xs)]=rows none [xs]:=rfl
@[go_sem] theorem aip (xs ys:List (List Int)):List.append (rows none xs) (rows none ys)=rows none (xs++ys):=by simp [rows]
@[go_sem] theorem aiq (xs ys:List Bool):List.append (aJ xs) (aJ ys)=aJ (xs++ys):=by simp [aJ]
@[go_sem] theorem air (xs ys:List UInt8):List.append (bytes xs) (bytes ys)=bytes (xs++ys):=by simp [bytes]
@[go_sem] theorem agy (xs:List Int):U.cell (ints xs)=true:=by simp [U,ints,cL]
@[go_sem] theorem agz (xs:List UInt8):U.cell (bytes xs)=true:=by simp [U,bytes,eM,cL]
@[go_sem] theorem agA (xs:List Bool):U.cell (aJ xs)=true:=by simp [U,aJ,cL]
theorem aeQ {α:Type} (xs:List α) (i:Nat) (d:α) (h:i < xs.length):xs.take i++[xs.getD i d]=xs.take (i+1):=by
 rw [List.take_succ_eq_append_getElem h,acv,aaj h];rfl
theorem VR (g:Bool) (xs:List UInt8) (hb:xs.length<=17592186044416):Cm 128 [.sl (some g) 1 xs.length (bytes xs)] (.sl none 1 xs.length (bytes xs),[.undef]):=by
 refine Mk (e:=wC 1 1) (by kernel_rfl) ?_
 have h:(bytes xs).all fQ=true:=by simp [bytes,eM,fQ]
 simp only [wC,h];rw [if_pos (by refine ⟨?_,?_,?_,?_⟩<;>first | trivial | rfl | omega)]
@[go_sem] theorem afW (g:Bool) (n:Nat) (xs:List UInt8) (e:n=xs.length) (hb:xs.length<=17592186044416) (t:bE Rz):aL 128 [.sl (some g) 1 n (bytes xs)] t=feed t [enc .B xs]:=by
 subst e;exact bI (r:=enc .B xs) (s:=.ty .B) (ss:=[.undef]) (VR g xs hb) (by kernel_rfl) (av _ _) (by simp only [ah,aI,aj,vg]) (au _ _) rfl t
theorem DS (m:aA) (q0:cY m):Cm 120 [.agg (cb (some true) m)] (.agg (cb none (m)),[.undef]):=by
 have h1:=q0.a;have h2:=q0.b;refine Cm.step DQ [.undef] fun J hJ=>?_;rw [DR];simp (disch:=first | assumption | omega) only [go_sem]
@[go_sem] theorem VS (m:aA) (q0:cY m) (t:bE Rz):aL 120 [.agg (kS (some true) m)] t=feed t [enc .bJ (m)]:=by
 exact bI (r:=enc .bJ (m)) (s:=.ty .bJ) (ss:=[.undef]) (DS m q0) (by kernel_rfl) (by simp only [av,bu,aW,bw,bz,ah,aj,vg]) (by simp only [ah,aI,av,aj,vg]) (by first | rfl | simp only [au,aU,aT,bp,bq,aV,bt,vg]) (by first | rfl | simp only [aaf,aah,au,vg]) t
theorem Kx (m:aA) (q0:cY m):Cm 110 [.agg (cb (some true) m)] (.agg (cb none (m)),[.undef]):=by
 have h1:=q0.a;have h2:=q0.b;refine Cm.step Kv [.undef] fun J hJ=>?_;rw [Kw];simp (disch:=first | assumption | omega) only [go_sem]
@[go_sem] theorem ZL (m:aA) (q0:cY m) (t:bE Rz):aL 110 [.agg (kS (some true) m)] t=feed t [enc .bJ (m)]:=by
 exact bI (r:=enc .bJ (m)) (s:=.ty .bJ) (ss:=[.undef]) (Kx m q0) (by kernel_rfl) (by simp only [av,bu,aW,bw,bz,ah,aj,vg]) (by simp only [ah,aI,av,aj,vg]) (by first | rfl | simp only [au,aU,aT,bp,bq,aV,bt,vg]) (by first | rfl | simp only [aaf,aah,au,vg]) t
set_option maxRecDepth 100000
section
variable (pr:dA) (cv:Cv Rz) (J:Nat->St->Option Rz)
def AR (g0:Bool) (x0:List UInt8) (x1:Int) (i0:Int):St:=(St.mk [(0,(s8 (some g0) x0)),(1,(.int .i64 x1)),(5,(.int .i64 i0))] [] [] 0)
def jm (g0:Bool) (x0:List UInt8) (i0:Int) (i1:Int):St:=(St.mk [(0,(s8 (some g0) x0)),(1,(.int .i64 i0)),(5,(.int .i64 i1))] [] [] 0)
theorem DT:Told cfg Try.prog 92 Try.f92:=⟨by kernel_rfl,Try.func92,by kernel_rfl⟩
theorem DU (g0:Bool) (x0:List UInt8) (x1:Int):aR pr cv J 92 Try.f92 [(s8 (some g0) x0),(.int .i64 x1)]=
 (J 0 (AR g0 x0 x1 0)):=by kernel_rfl
theorem xm (g0:Bool) (x0:List UInt8) (i0:Int) (i1:Int):bR pr cv J 92 Try.f92 [.undef,.undef] 0 (jm g0 x0 i0 i1)=
 (br (pr.lt i1 (pr.bc x0.length)) (br (pr.bh i1 x0.length) (br (br (pr.cW .u8 (bytes x0) (pr.idx 0 i1 1)) true false) (br (br (pr.eq (pr.bT (bytes x0) (pr.idx 0 i1 1)) (pr.wrap .u8 i0)) false true) (some ((.int .i64 (-1)),[.undef,.undef])) (J 0 (jm g0 x0 (pr.ar .add .i64 i0 1) (pr.ar .add .i64 i1 1)))) none) none) (some ((.int .i64 i0),[.undef,.undef]))):=by kernel_rfl
def AS (g0:Bool) (x0:List Bool) (x1:Int) (i0:Int):St:=(St.mk [(0,(sB (some g0) x0)),(1,(.int .i64 x1)),(5,(.int .i64 i0))] [] [] 0)
def jn (g0:Bool) (x0:List Bool) (i0:Int) (i1:Int):St:=(St.mk [(0,(sB (some g0) x0)),(1,(.int .i64 i0)),(5,(.int .i64 i1))] [] [] 0)
theorem DV:Told cfg Try.prog 93 Try.f93:=⟨by kernel_rfl,Try.func93,by kernel_rfl⟩
theorem DW (g0:Bool) (x0:List Bool) (x1:Int):aR pr cv J 93 Try.f93 [(sB (some g0) x0),(.int .i64 x1)]=
 (J 0 (AS g0 x0 x1 0)):=by kernel_rfl
theorem xq (g0:Bool) (x0:List Bool) (i0:Int) (i1:Int):bR pr cv J 93 Try.f93 [.undef,.undef] 0 (jn g0 x0 i0 i1)=
 (br (pr.lt i1 (pr.bc x0.length)) (br (pr.bh i1 x0.length) (br (br (pr.eK (aJ x0) (pr.idx 0 i1 1)) true false) (br (br (pr.eq 3 0) false true) (br (br (pr.beq (pr.dm (aJ x0) (pr.idx 0 i1 1)) (pr.eq (pr.ar .rem .i64 i0 3) 0)) false true) (some ((.int .i64 (-1)),[.undef,.undef])) (J 0 (jn g0 x0 (pr.ar .add .i64 i0 1) (pr.ar .add .i64 i1 1)))) none) none) none) (some ((.int .i64 i0),[.undef,.undef]))):=by kernel_rfl
def AT (g0:Bool) (x0:List (List Int)) (x1:Int) (i0:Int):St:=(St.mk [(0,(sR (some g0) x0)),(1,(.int .i64 x1)),(5,(.int .i64 i0))] [] [] 0)
def jo (g0:Bool) (x0:List (List Int)) (i0:Int) (i1:Int):St:=(St.mk [(0,(sR (some g0) x0)),(1,(.int .i64 i0)),(5,(.int .i64 i1))] [] [] 0)
theorem DX:Told cfg Try.prog 91 Try.f91:=⟨by kernel_rfl,Try.func91,by kernel_rfl⟩
theorem DY (g0:Bool) (x0:List (List Int)) (x1:Int):aR pr cv J 91 Try.f91 [(sR (some g0) x0),(.int .i64 x1)]=
 (J 0 (AT g0 x0 x1 0)):=by kernel_rfl
theorem xr (g0:Bool) (x0:List (List Int)) (i0:Int) (i1:Int):bR pr cv J 91 Try.f91 [.undef,.undef] 0 (jo g0 x0 i0 i1)=
 (br (pr.lt i1 (pr.bc x0.length)) (br (pr.bh i1 x0.length) (br (br (pr.dc 1 (rows (some g0) x0) (pr.idx 0 i1 1)) true false) (cv 58 [(.sl (some (pr.cF (rows (some g0) x0) (pr.idx 0 i1 1))) 1 (pr.bf (rows (some g0) x0) (pr.idx 0 i1 1)) (pr.bn (rows (some g0) x0) (pr.idx 0 i1 1))),(.int .i64 i0)] (.int (fun fh=>(.done (br (pr.lt fh 0) (some ((.int .i64 (-1)),[.undef,.undef])) (J 0 (jo g0 x0 fh (pr.ar .add .i64 i1 1)))))))) none) none) (some ((.int .i64 i0),[.undef,.undef]))):=by kernel_rfl
end
section
variable (t:bE Rz)
@[go_sem] theorem adz (n:Nat) (xs:List Int) (k:Int) (hn:n=xs.length) (h0:0<=k) (h1:k+xs.length < 9223372036854775807):aL 54 [.sl none 1 n (ints xs),.int .i64 k] t=feed t [.int .i64 (k+xs.length),.sl none 1 xs.length (ints (ix k xs.length))]:=tw t n xs k hn h0 h1
@[go_sem] theorem acJ (n:Nat) (xs:List UInt8) (k:Int) (hn:n=xs.length) (h0:0<=k) (h1:k+xs.length < 9223372036854775807):aL 89 [.sl none 1 n (bytes xs),.int .i64 k] t=feed t [.int .i64 (k+xs.length),.sl none 1 xs.length (bytes (js k xs.length))]:=v7 t n xs k hn h0 h1
@[go_sem] theorem acK (n:Nat) (xs:List Bool) (k:Int) (hn:n=xs.length) (h0:0<=k) (h1:k+xs.length < 9223372036854775807):aL 90 [.sl none 1 n (aJ xs),.int .i64 k] t=feed t [.int .i64 (k+xs.length),.sl none 1 xs.length (aJ (ny k xs.length))]:=Cr t n xs k hn h0 h1
@[go_sem] theorem acL (n:Nat) (xss:List (List Int)) (k:Int) (hn:n=xss.length) (h0:0<=k) (h1:k+dR xss < 9223372036854775807) (hs:xss.length < 9223372036854775807):aL 88 [.sl none 1 n (rows none xss),.int .i64 k] t=feed t [.int .i64 (k+dR xss),.sl none 1 xss.length (rows none (lJ k xss))]:=Ct t n xss k hn h0 h1 hs
end
theorem tM (k:Int) (n:Nat):(ix k n).length=n:=cS k n
theorem tN (k:Int) (n:Nat):(js k n).length=n:=dj k n
theorem tO (k:Int) (n:Nat):(ny k n).length=n:=dp k n
theorem tP (k:Int) (x:List (List Int)):(lJ k x).length=x.length:=dM k x
@[go_sem] theorem ajD (k:Int) (n:Nat):decide (n=(ix k n).length)=true:=by simp [cS]
@[go_sem] theorem ajE (k:Int) (n:Nat):decide (n=(js k n).length)=true:=by simp [dj]
@[go_sem] theorem ajF (k:Int) (n:Nat):decide (n=(ny k n).length)=true:=by simp [dp]
@[go_sem] theorem ajG (k:Int) (x:List (List Int)):decide (x.length=(lJ k x).length)=true:=by simp [dM]
@[go_sem] theorem adA (g:Bool) (n0:Nat) (k:Int) (n:Nat) (e:n0=n) (h0:0<=k) (h1:k+n < 9223372036854775807) (t:bE Rz):aL 58 [.sl (some g) 1 n0 (ints (ix k n)),.int .i64 k] t=feed t [.int .i64 (k+n)]:=by
 subst e;exact aX (Qs g k n0 h0 h1) (by kernel_rfl) t
theorem N0 (g:Bool) (k:Int) (n:Nat) (h0:0<=k) (h1:k+n < 4611686018427387904):Cm 92 [.sl (some g) 1 n (bytes (js k n)),.int .i64 k] (.int .i64 (k+n),[.undef,.undef]):=by
 have hl:=dj k n;have hg:∀ i,i < n->(js k n).getD i 0=UInt8.ofNat ((k+(i:Int)) % 256).toNat:=fun i hi=>by
  rw [acv];simp [js,hi]
 have key:∀ i,i<=n->True->WP 92 Try.f92 [.undef,.undef] 0 (jm g (js k n) (k+(i:Nat)) (i:Nat)) (.int .i64 (k+n),[.undef,.undef]):=by
  refine WP.up (H:=fun i=>jm g (js k n) (k+(i:Nat)) (i:Nat)) n (fun _=>True) (fun i hi _ J hJ next=>?_)
  rw [xm];simp (disch:=first | assumption | omega | (simp only [cS,dj,dp,dM]; done)) only [go_sem,tM,tN,tO,tP]
  refine ed (fun cU=>?_) (fun rN=>?_)
  ·rw [show U.wrap .u8 (k+(i:Int))=_ from WZ (k+(i:Int))];simp (disch:=first | assumption | omega | (simp only [cS,dj,dp,dM]; done)) only [go_sem,tM,tN,tO,tP,hg i (by omega)]
   have:=next (by omega) trivial
   rw [show k+((i+1:Nat):Int)=k+i+1 by omega] at this
   exact this
  ·rw [show (i:Int)=n by omega]
 refine Cm.step DT [.undef,.undef] fun J hJ=>?_;have:=DU U aL J g (js k n) k;rw [s8,hl] at this;rw [this];refine hJ _ _ ?_;have h9:=key 0 (by omega) trivial
 rw [show k+((0:Nat):Int)=k by omega] at h9
 exact h9
@[go_sem] theorem acM (g:Bool) (n0:Nat) (k:Int) (n:Nat) (e:n0=n) (h0:0<=k) (h1:k+n < 4611686018427387904) (t:bE Rz):aL 92 [.sl (some g) 1 n0 (bytes (js k n)),.int .i64 k] t=feed t [.int .i64 (k+n)]:=by
 subst e;exact aX (N0 g k n0 h0 h1) (by kernel_rfl) t
theorem Zg (k:Int) (n i:Nat) (h:i < (ny k n).length):(ny k n)[i]=yp (k+(i:Int)):=by simp [ny,yp]
theorem N1 (g:Bool) (k:Int) (n:Nat) (h0:0<=k) (h1:k+n < 4611686018427387904):Cm 93 [.sl (some g) 1 n (aJ (ny k n)),.int .i64 k] (.int .i64 (k+n),[.undef,.undef]):=by
 have hl:=dp k n;have hg:∀ i,i < n->(ny k n).getD i false=yp (k+(i:Int)):=fun i hi=>by
  rw [acv,aaj (by omega)]
  exact Zg k n i (by omega)
 have key:∀ i,i<=n->True->WP 93 Try.f93 [.undef,.undef] 0 (jn g (ny k n) (k+(i:Nat)) (i:Nat)) (.int .i64 (k+n),[.undef,.undef]):=by
  refine WP.up (H:=fun i=>jn g (ny k n) (k+(i:Nat)) (i:Nat)) n (fun _=>True) (fun i hi _ J hJ next=>?_)
  rw [xq];simp (disch:=first | assumption | omega | (simp only [cS,dj,dp,dM]; done)) only [go_sem,tM,tN,tO,tP]
  refine ed (fun cU=>?_) (fun rN=>?_)
  ·simp (disch:=first | assumption | omega | (simp only [cS,dj,dp,dM]; done)) only [go_sem,tM,tN,tO,tP,VB,hg i (by omega)]
   have:=next (by omega) trivial
   rw [show k+((i+1:Nat):Int)=k+i+1 by omega] at this
   exact this
  ·rw [show (i:Int)=n by omega]
 refine Cm.step DV [.undef,.undef] fun J hJ=>?_;have:=DW U aL J g (ny k n) k;rw [sB,hl] at this;rw [this];refine hJ _ _ ?_;have h9:=key 0 (by omega) trivial
 rw [show k+((0:Nat):Int)=k by omega] at h9
 exact h9
@[go_sem] theorem acN (g:Bool) (n0:Nat) (k:Int) (n:Nat) (e:n0=n) (h0:0<=k) (h1:k+n < 4611686018427387904) (t:bE Rz):aL 93 [.sl (some g) 1 n0 (aJ (ny k n)),.int .i64 k] t=feed t [.int .i64 (k+n)]:=by
 subst e;exact aX (N1 g k n0 h0 h1) (by kernel_rfl) t
theorem Pl:∀ (xss:List (List Int)) (k:Int) (i:Nat) (h:i < (lJ k xss).length) (h2:i < xss.length),(lJ k xss)[i]=ix (k+dR (xss.take i)) (xss[i]).length
 | [],_,_,h,_=>by simp [lJ] at h
 | xs::r,k,0,_,_=>by simp [lJ,dR]
 | xs::r,k,i+1,h,h2=>by
  simp only [lJ,abc,Nat.add_lt_add_iff_right] at h h2;have:=Pl r (k+xs.length) i h h2;simp only [lJ,List.getElem_cons_succ,List.take_succ_cons];rw [this]
  congr 1
  simp only [dR,aa0,List.sum_cons];omega
theorem TN {xss:List (List Int)} {i:Nat} (h:i < xss.length):dR (xss.take (i+1))=dR (xss.take i)+(xss[i]).length:=by
 rw [List.take_succ_eq_append_getElem h];unfold dR;rw [adT,List.sum_append];simp only [aa0,ad9,List.sum_cons,List.sum_nil,aea]
theorem AU (xss:List (List Int)) (i:Nat):dR (xss.take i)<=dR xss:=by
 have:dR xss=dR (xss.take i)+dR (xss.drop i):=by
  conv=>lhs; rw [<- aeb i xss]
  unfold dR;rw [adT,List.sum_append]
 omega
theorem N2 (g:Bool) (k:Int) (xss:List (List Int)) (h0:0<=k) (h1:k+dR xss < 4611686018427387904) (hs:xss.length < 4611686018427387904):Cm 91 [.sl (some g) 1 xss.length (rows (some g) (lJ k xss)),.int .i64 k] (.int .i64 (k+dR xss),[.undef,.undef]):=by
 have hl:=dM k xss;have key:∀ i,i<=xss.length->True->WP 91 Try.f91 [.undef,.undef] 0 (jo g (lJ k xss) (k+dR (xss.take i)) (i:Nat)) (.int .i64 (k+dR xss),[.undef,.undef]):=by
  refine WP.up (H:=fun i=>jo g (lJ k xss) (k+dR (xss.take i)) (i:Nat)) xss.length (fun _=>True) (fun i hi _ J hJ next=>?_)
  rw [xr];have a1:=AU xss i;have a2:=AU xss (i+1);simp (disch:=first | assumption | omega | (simp only [cS,dj,dp,dM]; done)) only [go_sem,tM,tN,tO,tP]
  refine ed (fun cU=>?_) (fun rN=>?_)
  ·have pX:i < xss.length:=by omega
   have a3:=TN pX;have e1:(lJ k xss).getD i []=ix (k+dR (xss.take i)) (xss[i]).length:=by
    rw [acv,aaj (by omega)]
    exact Pl xss k i (by omega) pX
   simp (disch:=first | assumption | omega | (simp only [cS,dj,dp,dM]; done)) only [go_sem,tM,tN,tO,tP,e1]
   have:=next (by omega) trivial
   rw [a3,show k+((dR (xss.take i)+(xss[i]).length:Nat):Int)=k+dR (xss.take i)+(xss[i]).length by omega] at this
   exact this
  ·rw [show i=xss.length by omega,aa9]
 refine Cm.step DX [.undef,.undef] fun J hJ=>?_;have:=DY U aL J g (lJ k xss) k;rw [sR,hl] at this;rw [this];refine hJ _ _ ?_;have h9:=key 0 (by omega) trivial
 rw [aeU,show k+((dR []:Nat):Int)=k by simp [dR]] at h9
 exact h9
@[go_sem] theorem acO (g:Bool) (n0:Nat) (k:Int) (xss:List (List Int)) (e:n0=xss.length) (h0:0<=k) (h1:k+dR xss < 4611686018427387904) (hs:xss.length < 4611686018427387904) (t:bE Rz):aL 91 [.sl (some g) 1 n0 (rows (some g) (lJ k xss)),.int .i64 k] t=feed t [.int .i64 (k+dR xss)]:=by
 subst e;exact aX (N2 g k xss h0 h1 hs) (by kernel_rfl) t
set_option maxRecDepth 100000
attribute [go_sem] abC abD abE
def n0:ak:=⟨0,false,false,[],⟨[],[],false,false,false,0⟩,⟨[],[]⟩,[],[],[],[]⟩
def w0:cD:=⟨0,0,[]⟩
def r0:ff:=⟨0,0⟩
@[go_sem] theorem agB (i:Int):U.idx 0 i 16=i.toNat*16:=by show (0+i.toNat)*16=_; omega
@[go_sem] theorem ais (i:Int):U.idx 0 i 3=i.toNat*3:=by show (0+i.toNat)*3=_; omega
@[go_sem] theorem ait (i:Int):U.idx 0 i 2=i.toNat*2:=by show (0+i.toNat)*2=_; omega
theorem dY {α:Type} {xs:List α} {i:Nat} {d:α} (h:i < xs.length):xs.getD i d=xs[i]:=by rw [acv,aaj h]; rfl
section
variable {g:Bool} {xs:List ak} {i:Nat} (h:i < xs.length)
include h
@[go_sem] theorem ajH:U.cW .i64 (ad (ab (some g)) xs) (i*16)=true:=Xa h
@[go_sem] theorem ajI:U.bT (ad (ab (some g)) xs) (i*16)=(xs.getD i n0).id:=(Xb (g:=g) h).trans (by rw [dY h])
@[go_sem] theorem ajJ:U.eK (ad (ab (some g)) xs) (i*16+1)=true:=Xc h
@[go_sem] theorem ajK:U.dm (ad (ab (some g)) xs) (i*16+1)=(xs.getD i n0).up:=(Xd (g:=g) h).trans (by rw [dY h])
@[go_sem] theorem ajL:U.eK (ad (ab (some g)) xs) (i*16+2)=true:=Xe h
@[go_sem] theorem ajM:U.dm (ad (ab (some g)) xs) (i*16+2)=(xs.getD i n0).fm:=(Xf (g:=g) h).trans (by rw [dY h])
@[go_sem] theorem ajN:U.dc 1 (ad (ab (some g)) xs) (i*16+3)=true:=Xg h
@[go_sem] theorem ajO:U.cF (ad (ab (some g)) xs) (i*16+3)=g:=Xh h
@[go_sem] theorem ajP:U.bf (ad (ab (some g)) xs) (i*16+3)=(xs.getD i n0).image.length:=(Xi (g:=g) h).trans (by rw [dY h])
@[go_sem] theorem ajQ:U.bn (ad (ab (some g)) xs) (i*16+3)=ints (xs.getD i n0).image:=(Xj (g:=g) h).trans (by rw [dY h])
@[go_sem] theorem ajR:U.dc 1 (ad (ab (some g)) xs) (i*16+4)=true:=Xk h
@[go_sem] theorem ajS:U.cF (ad (ab (some g)) xs) (i*16+4)=g:=Xl h
@[go_sem] theorem ajT:U.bf (ad (ab (some g)) xs) (i*16+4)=(xs.getD i n0).mt.aK.length:=(Xm (g:=g) h).trans (by rw [dY h])
@[go_sem] theorem ajU:U.bn (ad (ab (some g)) xs) (i*16+4)=ints (xs.getD i n0).mt.aK:=(Xn (g:=g) h).trans (by rw [dY h])
@[go_sem] theorem ajV:U.dc 1 (ad (ab (some g)) xs) (i*16+5)=true:=Xp h
@[go_sem] theorem ajW:U.cF (ad (ab (some g)) xs) (i*16+5)=g:=Xq h
@[go_sem] theorem ajX:U.bf (ad (ab (some g)) xs) (i*16+5)=(xs.getD i n0).mt.bits.length:=(Xr (g:=g) h).trans (by rw [dY h])
@[go_sem] theorem ajY:U.bn (ad (ab (some g)) xs) (i*16+5)=rows (some g) (xs.getD i n0).mt.bits:=(Xs (g:=g) h).trans (by rw [dY h])
@[go_sem] theorem ajZ:U.eK (ad (ab (some g)) xs) (i*16+6)=true:=Xt h
@[go_sem] theorem aj0:U.dm (ad (ab (some g)) xs) (i*16+6)=(xs.getD i n0).mt.eb:=(Xu (g:=g) h).trans (by rw [dY h])
@[go_sem] theorem aj1:U.eK (ad (ab (some g)) xs) (i*16+7)=true:=Xv h
@[go_sem] theorem aj2:U.dm (ad (ab (some g)) xs) (i*16+7)=(xs.getD i n0).mt.bW:=(Xw (g:=g) h).trans (by rw [dY h])
@[go_sem] theorem aj3:U.eK (ad (ab (some g)) xs) (i*16+8)=true:=Xx h
@[go_sem] theorem aj4:U.dm (ad (ab (some g)) xs) (i*16+8)=(xs.getD i n0).mt.held:=(Xy (g:=g) h).trans (by rw [dY h])
@[go_sem] theorem aj5:U.cW .i64 (ad (ab (some g)) xs) (i*16+9)=true:=Xz h
@[go_sem] theorem aj6:U.bT (ad (ab (some g)) xs) (i*16+9)=(xs.getD i n0).mt.last:=(XA (g:=g) h).trans (by rw [dY h])
@[go_sem] theorem aiu:U.dc 1 (ad (ab (some g)) xs) (i*16+10)=true:=SQ h
@[go_sem] theorem aiv:U.cF (ad (ab (some g)) xs) (i*16+10)=g:=SS h
@[go_sem] theorem aiw:U.bf (ad (ab (some g)) xs) (i*16+10)=(xs.getD i n0).bJ.a.length:=(SU (g:=g) h).trans (by rw [dY h])
@[go_sem] theorem aix:U.bn (ad (ab (some g)) xs) (i*16+10)=bytes (xs.getD i n0).bJ.a:=(SV (g:=g) h).trans (by rw [dY h])
@[go_sem] theorem aiy:U.dc 1 (ad (ab (some g)) xs) (i*16+11)=true:=SW h
@[go_sem] theorem aiz:U.cF (ad (ab (some g)) xs) (i*16+11)=g:=SX h
@[go_sem] theorem aiA:U.bf (ad (ab (some g)) xs) (i*16+11)=(xs.getD i n0).bJ.b.length:=(SY (g:=g) h).trans (by rw [dY h])
@[go_sem] theorem aiB:U.bn (ad (ab (some g)) xs) (i*16+11)=bytes (xs.getD i n0).bJ.b:=(SZ (g:=g) h).trans (by rw [dY h])
@[go_sem] theorem aiC:U.dc 1 (ad (ab (some g)) xs) (i*16+12)=true:=S5 h
@[go_sem] theorem aiD:U.cF (ad (ab (some g)) xs) (i*16+12)=g:=S6 h
@[go_sem] theorem aiE:U.bf (ad (ab (some g)) xs) (i*16+12)=(xs.getD i n0).conn.length:=(S7 (g:=g) h).trans (by rw [dY h])
@[go_sem] theorem aiF:U.bn (ad (ab (some g)) xs) (i*16+12)=aJ (xs.getD i n0).conn:=(S8 (g:=g) h).trans (by rw [dY h])
@[go_sem] theorem aiG:U.dc 1 (ad (ab (some g)) xs) (i*16+13)=true:=S9 h
@[go_sem] theorem aiH:U.cF (ad (ab (some g)) xs) (i*16+13)=g:=Ta h
@[go_sem] theorem aiI:U.bf (ad (ab (some g)) xs) (i*16+13)=(xs.getD i n0).sync.length:=(Tb (g:=g) h).trans (by rw [dY h])
@[go_sem] theorem aiJ:U.bn (ad (ab (some g)) xs) (i*16+13)=rows (some g) (xs.getD i n0).sync:=(Tc (g:=g) h).trans (by rw [dY h])
@[go_sem] theorem aiK:U.dc 1 (ad (ab (some g)) xs) (i*16+14)=true:=Td h
@[go_sem] theorem aiL:U.cF (ad (ab (some g)) xs) (i*16+14)=g:=Te h
@[go_sem] theorem aiM:U.bf (ad (ab (some g)) xs) (i*16+14)=(xs.getD i n0).bC.length:=(Tf (g:=g) h).trans (by rw [dY h])
@[go_sem] theorem aiN:U.bn (ad (ab (some g)) xs) (i*16+14)=aJ (xs.getD i n0).bC:=(Tg (g:=g) h).trans (by rw [dY h])
@[go_sem] theorem aiO:U.dc 1 (ad (ab (some g)) xs) (i*16+15)=true:=Th h
@[go_sem] theorem aiP:U.cF (ad (ab (some g)) xs) (i*16+15)=g:=Ti h
@[go_sem] theorem aiQ:U.bf (ad (ab (some g)) xs) (i*16+15)=(xs.getD i n0).wait.length:=(Tj (g:=g) h).trans (by rw [dY h])
@[go_sem] theorem aiR:U.bn (ad (ab (some g)) xs) (i*16+15)=ints (xs.getD i n0).wait:=(Tk (g:=g) h).trans (by rw [dY h])
end
section
variable {g:Bool} {xs:List cD} {i:Nat} (h:i < xs.length)
include h
@[go_sem] theorem aj7:U.cW .i64 (ad (bj (some g)) xs) (i*3)=true:=XB h
@[go_sem] theorem aj8:U.bT (ad (bj (some g)) xs) (i*3)=(xs.getD i w0).src:=(XC (g:=g) h).trans (by rw [dY h])
@[go_sem] theorem aj9:U.cW .i64 (ad (bj (some g)) xs) (i*3+1)=true:=XD h
@[go_sem] theorem aka:U.bT (ad (bj (some g)) xs) (i*3+1)=(xs.getD i w0).dst:=(XE (g:=g) h).trans (by rw [dY h])
@[go_sem] theorem akb:U.dc 1 (ad (bj (some g)) xs) (i*3+2)=true:=XF h
@[go_sem] theorem akc:U.cF (ad (bj (some g)) xs) (i*3+2)=g:=XG h
@[go_sem] theorem akd:U.bf (ad (bj (some g)) xs) (i*3+2)=(xs.getD i w0).bytes.length:=(XH (g:=g) h).trans (by rw [dY h])
@[go_sem] theorem ake:U.bn (ad (bj (some g)) xs) (i*3+2)=bytes (xs.getD i w0).bytes:=(XI (g:=g) h).trans (by rw [dY h])
end
section
variable {g:Bool} {xs:List ff} {i:Nat} (h:i < xs.length)
include h
@[go_sem] theorem akf:U.cW .i64 (ad (cJ (some g)) xs) (i*2)=true:=XJ h
@[go_sem] theorem akg:U.bT (ad (cJ (some g)) xs) (i*2)=(xs.getD i r0).cell:=(XK (g:=g) h).trans (by rw [dY h])
@[go_sem] theorem akh:U.cW .i64 (ad (cJ (some g)) xs) (i*2+1)=true:=XL h
@[go_sem] theorem aki:U.bT (ad (cJ (some g)) xs) (i*2+1)=(xs.getD i r0).up:=(XM (g:=g) h).trans (by rw [dY h])
end
set_option maxRecDepth 100000
section
variable {α:Type} {p:α->Bool} {xs:List α} {d:α}
def DZ (p:α->Bool) (xs:List α):Int:=match xs.findIdx? p with | some i=>(i:Int) | none=>-1
theorem agC:decide (0<=DZ p xs)=xs.any p:=by
 unfold DZ;cases h:xs.findIdx? p with
 | none=>
  have:=List.findIdx?_eq_none_iff.1 h;symm
  simpa using this
 | some i=>
  obtain ⟨hi,h2,_⟩:=List.findIdx?_eq_some_iff_getElem.1 h;have h3:xs.any p=true:=List.any_eq_true.2 ⟨xs[i],aaT hi,h2⟩;rw [h3];simp
theorem VT {i:Nat} (hi:i < xs.length) (inv:∀ j,j < i->p (xs.getD j d)=false) (h:p (xs.getD i d)=true):DZ p xs=i:=by
 unfold DZ;have:xs.findIdx? p=some i:=List.findIdx?_eq_some_iff_getElem.2 ⟨hi,by rw [<- dY (d:=d) hi]; exact h,fun j hj=>by
  have:=inv j hj;rw [dY (d:=d) (by omega)] at this
  simp [this]⟩
 rw [this]
theorem TO (inv:∀ j,j < xs.length->p (xs.getD j d)=false):DZ p xs=-1:=by
 unfold DZ;have:xs.findIdx? p=none:=List.findIdx?_eq_none_iff.2 fun x hx=>by
  obtain ⟨i,hi,rfl⟩:=aeo hx;have:=inv i hi
  rwa [dY (d:=d) hi] at this
 rw [this]
end
theorem afX {α:Type} {p:α->Bool} {xs:List α} {d:α} {f:FuncId} {fn:Func} {sk:List D} {j:Nat} {H:Nat->St}
  (h1:∀ i,i < xs.length->∀ J:Nat->St->Option Rz,bR U aL J f fn sk j (H i)=br (p (xs.getD i d)) (some (.int .i64 (i:Int),sk)) (J j (H (i+1))))
  (h2:∀ J:Nat->St->Option Rz,bR U aL J f fn sk j (H xs.length)=some (.int .i64 (-1),sk)):WP f fn sk j (H 0) (.int .i64 (DZ p xs),sk):=by
 refine WP.up (H:=H) xs.length (fun i=>∀ j,j < i->p (xs.getD j d)=false) (fun i hi inv J _ next=>?_) 0 (abh _) (fun j hj=>absurd hj (by omega))
 by_cases hl:i < xs.length
 ·rw [h1 i hl J];cases hp:p (xs.getD i d) with
  | true=>rw [VT hl inv hp]; rfl
  | false=>
   refine next hl fun k hk=>?_
   by_cases e:k=i
   ·rw [e]; exact hp
   ·exact inv k (by omega)
 ·rw [show i=xs.length by omega,h2 J,TO fun j hj=>inv j (by omega)]
theorem WP.upw {f:FuncId} {fn:Func} {sk:List D} {j:Nat} {r:Rz} {H:Nat->St} (n:Nat) (inv:Nat->Prop) (hs:∀ i,i<=n->inv i->(i < n->inv (i+1)->WP f fn sk j (H (i+1)) r)->WP f fn sk j (H i) r):∀ i,i<=n->inv i->WP f fn sk j (H i) r:=by
 have key:∀ k i,i+k=n->inv i->WP f fn sk j (H i) r:=by
  intro k
  induction k with
  | zero=>intro i hi hv; exact hs i (by omega) hv (fun h=>absurd h (by omega))
  | succ k ih=>intro i hi hv; exact hs i (by omega) hv (fun _ h=>ih (i+1) (by omega) h)
 exact fun i hi hv=>key (n - i) i (by omega) hv
theorem BG {α:Type} {xs:List α} {i:Nat} {d:α} (h:i < xs.length):xs.getD i d∈xs:=by rw [dY h]; exact aaT h
theorem okN {w:ck} (ok:nW w) {i:Nat} (h:i < w.nodes.length):cd (w.nodes.getD i n0):=ok.node _ (BG h)
section
variable (pr:dA) (cv:Cv Rz) (J:Nat->St->Option Rz)
theorem Gc:Told cfg Try.prog 114 Try.f114:=⟨by kernel_rfl,Try.func114,by kernel_rfl⟩
theorem D0:Told cfg Try.prog 100 Try.f100:=⟨by kernel_rfl,Try.func100,by kernel_rfl⟩
end
section
variable (pr:dA) (cv:Cv Rz) (J:Nat->St->Option Rz)
def VU (x0:ck) (i0:Int) (i1:Int):St:=(St.mk [(1,(.ptr 1 [] 0)),(13,(.sl (some true) 16 x0.nodes.length (ad (ab (some true)) x0.nodes))),(14,(.int .i64 i0)),(15,(.int .i64 i1))] [(1,[(.sl (some true) 16 x0.nodes.length (ad (ab (some true)) x0.nodes)),(.sl (some true) 3 x0.cX.length (ad (bj (some true)) x0.cX)),(.sl (some true) 2 x0.log.length (ad (cJ (some true)) x0.log)),(sI (some true) x0.safe),(.int .i64 x0.gen)])] [] 0)
def VV (x0:ck) (i0:Int) (i1:Int):St:=(St.mk [(1,(.ptr 1 [] 0)),(46,(.sl (some true) 16 x0.nodes.length (ad (ab (some true)) x0.nodes))),(47,(.int .i64 i0)),(48,(.int .i64 i1))] [(1,[(.sl (some true) 16 x0.nodes.length (ad (ab (some true)) x0.nodes)),(.sl (some true) 3 x0.cX.length (ad (bj (some true)) x0.cX)),(.sl (some true) 2 x0.log.length (ad (cJ (some true)) x0.log)),(sI (some true) x0.safe),(.int .i64 x0.gen)])] [] 0)
def VW (x0:ck) (i0:Int) (i1:Int) (i2:Int) (i3:Int) (b4:Bool) (b5:Bool) (g6:Bool) (n7:Nat) (c8:List D) (g9:Bool) (vE:Nat) (vF:List D) (g12:Bool) (lV:Nat) (mV:List D) (lN:Bool) (sw:Bool) (tb:Bool) (i18:Int) (g19:Bool) (IM:Nat) (IN:List D) (g22:Bool) (n23:Nat) (c24:List D) (g25:Bool) (IP:Nat) (IQ:List D) (W4:Bool) (n29:Nat) (W6:List D) (W7:Bool) (n32:Nat) (c33:List D) (g34:Bool) (n35:Nat) (c36:List D):St:=(St.mk [(1,(.ptr 1 [] 0)),(5,(.int .i64 i0)),(6,(.ptr 6 [] 0)),(46,(.sl (some true) 16 x0.nodes.length (ad (ab (some true)) x0.nodes))),(47,(.int .i64 i1)),(48,(.int .i64 i0)),(53,(.int .i64 i2))] [(1,[(.sl (some true) 16 x0.nodes.length (ad (ab (some true)) x0.nodes)),(.sl (some true) 3 x0.cX.length (ad (bj (some true)) x0.cX)),(.sl (some true) 2 x0.log.length (ad (cJ (some true)) x0.log)),(sI (some true) x0.safe),(.int .i64 x0.gen)]),(6,[(.int .i64 i3),(.bool b4),(.bool b5),(.sl (some g6) 1 n7 c8),(.sl (some g9) 1 vE vF),(.sl (some g12) 1 lV mV),(.bool lN),(.bool sw),(.bool tb),(.int .i64 i18),(.sl (some g19) 1 IM IN),(.sl (some g22) 1 n23 c24),(.sl (some g25) 1 IP IQ),(.sl (some W4) 1 n29 W6),(.sl (some W7) 1 n32 c33),(.sl (some g34) 1 n35 c36)])] [] 0)
end
structure afY (w:ck) (i:Nat):Prop where
 ok:ea (w.nodes.getD i n0)=true
 id:(w.nodes.getD i n0).id=i
 last:(w.nodes.getD i n0).mt.last<=w.log.length
 cells:∀ x∈(w.nodes.getD i n0).image,x<=(w.log.length:Int)
def QN (w:ck) (i k:Nat):Prop:=(w.nodes.getD i n0).conn.getD k false=true->(w.nodes.getD k n0).conn.getD i false=true
structure HN (w:ck):Prop where
 len:w.nodes.length=3
 nd:∀ i,i < 3->afY w i
 sy:∀ i k,i < 3->k < 3->QN w i k
open Classical in
noncomputable def vQ (w:ck):Bool:=decide (HN w)
open Classical in
theorem akj {w:ck} (h:vQ w=true):HN w:=by unfold vQ at h; exact of_decide_eq_true h
open Classical in
theorem akk {w:ck} (h:¬HN w):(some ((.bool false,[.undef]):Rz))=some (.bool (vQ w),[.undef]):=by unfold vQ; rw [decide_eq_false h]
open Classical in
theorem aiY {w:ck} (h:HN w):(some ((.bool true,[.undef]):Rz))=some (.bool (vQ w),[.undef]):=by unfold vQ; rw [decide_eq_true h]
theorem agD {l:Int} {xs:List Int}:(xs.any fun a=>decide (l < a))=true↔¬∀ x∈xs,x<=l:=by
 simp
set_option maxRecDepth 100000
section
variable (pr:dA) (cv:Cv Rz) (J:Nat->St->Option Rz)
def VX (x0:ck) (i0:Int) (i1:Int):St:=(St.mk [(1,(.ptr 1 [] 0)),(31,(.sl (some true) 3 x0.cX.length (ad (bj (some true)) x0.cX))),(32,(.int .i64 i0)),(33,(.int .i64 i1))] [(1,[(.sl (some true) 16 x0.nodes.length (ad (ab (some true)) x0.nodes)),(.sl (some true) 3 x0.cX.length (ad (bj (some true)) x0.cX)),(.sl (some true) 2 x0.log.length (ad (cJ (some true)) x0.log)),(sI (some true) x0.safe),(.int .i64 x0.gen)])] [] 0)
def VY (x0:ck) (i0:Int) (i1:Int):St:=(St.mk [(1,(.ptr 1 [] 0)),(76,(.sl (some true) 2 x0.log.length (ad (cJ (some true)) x0.log))),(77,(.int .i64 i0)),(78,(.int .i64 i1))] [(1,[(.sl (some true) 16 x0.nodes.length (ad (ab (some true)) x0.nodes)),(.sl (some true) 3 x0.cX.length (ad (bj (some true)) x0.cX)),(.sl (some true) 2 x0.log.length (ad (cJ (some true)) x0.log)),(sI (some true) x0.safe),(.int .i64 x0.gen)])] [] 0)
def VZ (x0:ck) (i0:Int) (i1:Int):St:=(St.mk [(1,(.ptr 1 [] 0)),(96,(sI (some true) x0.safe)),(97,(.int .i64 i0)),(98,(.int .i64 i1))] [(1,[(.sl (some true) 16 x0.nodes.length (ad (ab (some true)) x0.nodes)),(.sl (some true) 3 x0.cX.length (ad (bj (some true)) x0.cX)),(.sl (some true) 2 x0.log.length (ad (cJ (some true)) x0.log)),(sI (some true) x0.safe),(.int .i64 x0.gen)])] [] 0)
def TV (x0:ck) (i0:Int):St:=(St.mk [(1,(.ptr 1 [] 0)),(3,(.int .i64 i0))] [(1,[(.sl (some true) 16 x0.nodes.length (ad (ab (some true)) x0.nodes)),(.sl (some true) 3 x0.cX.length (ad (bj (some true)) x0.cX)),(.sl (some true) 2 x0.log.length (ad (cJ (some true)) x0.log)),(sI (some true) x0.safe),(.int .i64 x0.gen)])] [] 0)
def TW (x0:ck) (i0:Int) (i1:Int):St:=(St.mk [(1,(.ptr 1 [] 0)),(3,(.int .i64 i0)),(4,(.int .i64 i1))] [(1,[(.sl (some true) 16 x0.nodes.length (ad (ab (some true)) x0.nodes)),(.sl (some true) 3 x0.cX.length (ad (bj (some true)) x0.cX)),(.sl (some true) 2 x0.log.length (ad (cJ (some true)) x0.log)),(sI (some true) x0.safe),(.int .i64 x0.gen)])] [] 0)
def TX (x0:ck) (i0:Int):St:=(St.mk [(1,(.ptr 1 [] 0)),(5,(.int .i64 i0))] [(1,[(.sl (some true) 16 x0.nodes.length (ad (ab (some true)) x0.nodes)),(.sl (some true) 3 x0.cX.length (ad (bj (some true)) x0.cX)),(.sl (some true) 2 x0.log.length (ad (cJ (some true)) x0.log)),(sI (some true) x0.safe),(.int .i64 x0.gen)])] [] 0)
def V0 (x0:ck) (i0:Int):St:=(St.mk [(1,(.ptr 1 [] 0)),(3,(.int .i64 i0))] [(1,[(.sl (some true) 16 x0.nodes.length (ad (ab (some true)) x0.nodes)),(.sl (some true) 3 x0.cX.length (ad (bj (some true)) x0.cX)),(.sl (some true) 2 x0.log.length (ad (cJ (some true)) x0.log)),(sI (some true) x0.safe),(.int .i64 x0.gen)])] [] 0)
def V1 (x0:ck) (i0:Int) (i1:Int) (i2:Int) (b3:Bool) (b4:Bool) (g5:Bool) (n6:Nat) (c7:List D) (g8:Bool) (n9:Nat) (Cn:List D) (g11:Bool) (iL:Nat) (jL:List D) (u6:Bool) (lN:Bool) (sw:Bool) (i17:Int) (g18:Bool) (W0:Nat) (W1:List D) (g21:Bool) (TL:Nat) (TM:List D) (g24:Bool) (n25:Nat) (W2:List D) (W3:Bool) (OZ:Nat) (O0:List D) (W5:Bool) (n31:Nat) (c32:List D) (g33:Bool) (n34:Nat) (c35:List D):St:=(St.mk [(1,(.ptr 1 [] 0)),(3,(.int .i64 i0)),(4,(.ptr 4 [] 0)),(5,(.int .i64 i1))] [(1,[(.sl (some true) 16 x0.nodes.length (ad (ab (some true)) x0.nodes)),(.sl (some true) 3 x0.cX.length (ad (bj (some true)) x0.cX)),(.sl (some true) 2 x0.log.length (ad (cJ (some true)) x0.log)),(sI (some true) x0.safe),(.int .i64 x0.gen)]),(4,[(.int .i64 i2),(.bool b3),(.bool b4),(.sl (some g5) 1 n6 c7),(.sl (some g8) 1 n9 Cn),(.sl (some g11) 1 iL jL),(.bool u6),(.bool lN),(.bool sw),(.int .i64 i17),(.sl (some g18) 1 W0 W1),(.sl (some g21) 1 TL TM),(.sl (some g24) 1 n25 W2),(.sl (some W3) 1 OZ O0),(.sl (some W5) 1 n31 c32),(.sl (some g33) 1 n34 c35)])] [] 0)
def V2 (x0:ck) (i0:Int):St:=(St.mk [(1,(.ptr 1 [] 0)),(6,(.int .i64 i0))] [(1,[(.sl (some true) 16 x0.nodes.length (ad (ab (some true)) x0.nodes)),(.sl (some true) 3 x0.cX.length (ad (bj (some true)) x0.cX)),(.sl (some true) 2 x0.log.length (ad (cJ (some true)) x0.log)),(sI (some true) x0.safe),(.int .i64 x0.gen)])] [] 0)
def V3 (x0:ck) (i0:Int):St:=(St.mk [(1,(.ptr 1 [] 0)),(7,(.int .i64 i0))] [(1,[(.sl (some true) 16 x0.nodes.length (ad (ab (some true)) x0.nodes)),(.sl (some true) 3 x0.cX.length (ad (bj (some true)) x0.cX)),(.sl (some true) 2 x0.log.length (ad (cJ (some true)) x0.log)),(sI (some true) x0.safe),(.int .i64 x0.gen)])] [] 0)
end
structure acu (w:ck) (x:cD):Prop where
 src:0<=x.src/\x.src<=2
 dst:0<=x.dst/\x.dst<=2
 ne:¬x.src=x.dst
 conn:(w.nodes.getD x.src.toNat n0).conn.getD x.dst.toNat false=true
 len:x.bytes.length<=400
structure afZ (x:ff) (i:Nat):Prop where
 cell:0<=x.cell/\x.cell<=7
 up:0<=x.up/\x.up<=i
structure af0 (w:ck) (i:Nat):Prop where
 rZ:1<=w.safe.getD i 0/\w.safe.getD i 0<=w.log.length
 up:0 < (i:Int)->¬w.safe.getD i 0<=w.safe.getD (i - 1) 0
structure af1 (w:ck):Prop where
 sy:∀ i k,i < 3->k < 3->QN w i k
 wr:∀ i,i < w.cX.length->acu w (w.cX.getD i w0)
 cX:(w.cX.length:Int)<=40
structure WOk (w:ck):Prop where
 ns:HN w
 cX:(w.cX.length:Int)<=40
 log:(w.log.length:Int)<=200
 gen:2<=w.gen/\w.gen<=100000
 wr:∀ i,i < w.cX.length->acu w (w.cX.getD i w0)
 rc:∀ i,i < w.log.length->afZ (w.log.getD i r0) i
 sf:∀ i,i < w.safe.length->af0 w i
open Classical in
noncomputable def CD (p:Prop):Bool:=decide p
open Classical in
theorem adB {p:Prop} (h:p):CD p=true:=by unfold CD; exact decide_eq_true h
open Classical in
theorem adC {p:Prop} (h:¬p):CD p=false:=by unfold CD; exact decide_eq_false h
theorem ai4 {p q:Prop} (h:p↔q):CD p=CD q:=by rw [propext h]
theorem ak2 {p:Prop} {l:List D} (h:¬p):(some ((.bool false,l):Rz))=some (.bool (CD p),l):=by rw [adC h]
theorem akl {p:Prop} {l:List D} (h:p):(some ((.bool true,l):Rz))=some (.bool (CD p),l):=by rw [adB h]
noncomputable def af2 (w:ck):Bool:=CD (WOk w)
noncomputable def ai5 (w:ck):Bool:=CD (af1 w)
open Classical in
theorem akm {w:ck} (h:HN w):vQ w=true:=by unfold vQ; exact decide_eq_true h
theorem okW {w:ck} (ok:nW w) {i:Nat} (h:i < w.cX.length):gv (w.cX.getD i w0):=ok.qe _ (BG h)
theorem aeR {p:Nat->Prop} {i:Nat} (h:∀ a,a < i->p a) (hi:p i):∀ a,a < i+1->p a:=by
 intro a ha;by_cases e:a=i
 ·rw [e]; exact hi
 ·exact h a (by omega)
theorem ai6 {w:ck} {i k:Nat} (hi:i < 3) (hk:k < 3) (o:∀ i k,i < 3->k < 3->QN w i k):(w.nodes.getD i n0).conn.getD k false=(w.nodes.getD k n0).conn.getD i false:=by
 have h1:=o i k hi hk;have h2:=o k i hk hi;unfold QN at h1 h2;cases h:(w.nodes.getD i n0).conn.getD k false<;>cases h':(w.nodes.getD k n0).conn.getD i false<;>simp_all
theorem ai7 {l:Int} {xs:List Int} {n:Nat} (e:xs.length=n) (h:∀ k,k < n->xs.getD k 0<=l):∀ x∈xs,x<=l:=by
 intro x hx;obtain ⟨k,hk,rfl⟩:=aeo hx;rw [<- dY (d:=0) hk];exact h k (by omega)
theorem ai8 {xs:List Int} (h:jU xs=true):xs.length=8:=by
 unfold jU at h;simp only [D8,decide_eq_true_eq] at h;omega
set_option maxRecDepth 100000
section
variable (pr:dA) (cv:Cv Rz) (J:Nat->St->Option Rz)
theorem HO:Told cfg Try.prog 83 Try.f83:=⟨by kernel_rfl,Try.func83,by kernel_rfl⟩
theorem HP (x0:Int):aR pr cv J 83 Try.f83 [(.int .i64 x0)]=
 (br (pr.mM 3 3 24) (cv 74 [(.agg [(.sl (some true) 1 1 [(.int .i64 x0)]),(.sl (some true) 1 (pr.eE 3) (bP true (eg (pr.eE 3) [(.nil 1)]))),(.bool true),(.bool false),(.bool false),(.int .i64 0)])] (.bool (fun cx=>(.done (br (br cx false true) (some ((.agg [(.sl none 1 0 []),(.sl none 1 0 []),(.bool false),(.bool false),(.bool false),(.int .i64 0)]),[.undef])) (some ((.agg [(.sl none 1 1 [(.int .i64 x0)]),(.sl none 1 (pr.eE 3) (eg (pr.eE 3) [(.nil 1)])),(.bool true),(.bool false),(.bool false),(.int .i64 0)]),[.undef]))))))) none):=by kernel_rfl
theorem HQ:Told cfg Try.prog 80 Try.f80:=⟨by kernel_rfl,Try.func80,by kernel_rfl⟩
theorem HR (x0:Int):aR pr cv J 80 Try.f80 [(.int .i64 x0)]=
 (br (pr.mM 3 3 24) (cv 66 [(.agg [(.sl (some true) 1 1 [(.int .i64 x0)]),(.sl (some true) 1 (pr.eE 3) (bP true (eg (pr.eE 3) [(.nil 1)]))),(.bool true),(.bool false),(.bool false),(.int .i64 0)])] (.bool (fun cx=>(.done (br (br cx false true) (some ((.agg [(.sl none 1 0 []),(.sl none 1 0 []),(.bool false),(.bool false),(.bool false),(.int .i64 0)]),[.undef])) (some ((.agg [(.sl none 1 1 [(.int .i64 x0)]),(.sl none 1 (pr.eE 3) (eg (pr.eE 3) [(.nil 1)])),(.bool true),(.bool false),(.bool false),(.int .i64 0)]),[.undef]))))))) none):=by kernel_rfl
def iY (x0:List UInt8) (x1:List UInt8) (i0:Int) (i1:Int) (i2:Int):St:=(St.mk [(0,(.sl (some true) 1 2 [(s8 (some true) x0),(s8 (some true) x1)])),(3,(.int .i64 i0)),(9,(.sl (some true) 1 2 [(s8 (some true) x0),(s8 (some true) x1)])),(10,(.int .i64 i1)),(11,(.int .i64 i2))] [] [] 0)
def iZ (x0:List UInt8) (x1:List UInt8) (i0:Int) (i1:Int) (n2:Nat) (c3:List D):St:=(St.mk [(6,(.ref 10006 [] 0 none)),(25,(.sl (some true) 1 2 [(s8 (some true) x0),(s8 (some true) x1)])),(26,(.int .i64 i0)),(27,(.int .i64 i1))] [(10006,[(.sl none 1 n2 c3)])] [] 0)
theorem vd:Told cfg Try.prog 121 Try.f121:=⟨by kernel_rfl,Try.func121,by kernel_rfl⟩
theorem ve (x0:List UInt8) (x1:List UInt8):aR pr cv J 121 Try.f121 [(.sl (some true) 1 2 [(s8 (some true) x0),(s8 (some true) x1)])]=
 (J 0 (iY x0 x1 0 (pr.bc 2) 0)):=by kernel_rfl
theorem iH (x0:List UInt8) (x1:List UInt8) (i0:Int) (i1:Int) (i2:Int):bR pr cv J 121 Try.f121 [.undef] 0 (iY x0 x1 i0 i1 i2)=
 let y1:Int:=(pr.ar .add .i64 i0 (pr.bc (pr.bf [(s8 (some true) x0),(s8 (some true) x1)] (pr.idx 0 i2 1))))
 (br (pr.lt i2 i1) (br (pr.bh i2 2) (br (br (pr.dc 1 [(s8 (some true) x0),(s8 (some true) x1)] (pr.idx 0 i2 1)) true false) (br (pr.lt y1 0) none (J 0 (iY x0 x1 y1 i1 (pr.ar .add .i64 i2 1)))) none) none) (cv 129 [(.nil 1),(.int .i64 i0)] (.ty eP.B (fun (dt:List UInt8)=>(.done (J 2 (iZ x0 x1 (pr.bc 2) 0 dt.length (bytes dt)))))))):=by kernel_rfl
theorem iI (x0:List UInt8) (x1:List UInt8) (i0:Int) (i1:Int) (n2:Nat) (c3:List D):bR pr cv J 121 Try.f121 [.undef] 2 (iZ x0 x1 i0 i1 n2 c3)=
 let y1:List D:=(pr.bn [(s8 (some true) x0),(s8 (some true) x1)] (pr.idx 0 i1 1))
 let y2:Nat:=(n2+(pr.bf [(s8 (some true) x0),(s8 (some true) x1)] (pr.idx 0 i1 1)))
 (br (pr.lt i1 i0) (br (pr.bh i1 2) (br (br (pr.dc 1 [(s8 (some true) x0),(s8 (some true) x1)] (pr.idx 0 i1 1)) true false) (br (br (pr.cell y1) (pr.fits y2 1) false) (J 2 (iZ x0 x1 i0 (pr.ar .add .i64 i1 1) y2 (List.append c3 y1))) none) none) none) (some ((.sl none 1 n2 c3),[.undef]))):=by kernel_rfl
theorem N3:Told cfg Try.prog 112 Try.f112:=⟨by kernel_rfl,Try.func112,by kernel_rfl⟩
theorem N4 (x0:aA) (x1:aE) (x2:Int):aR pr cv J 112 Try.f112 [(.agg (cb (some true) x0)),(.agg (bK (some true) x1)),(.int .i64 x2)]=
 let y1:Nat:=(Nat.mul (pr.jB (pr.mx 0 (pr.mn x2 160)) 0) 1)
 (cv 120 [(.agg (cb (some true) x0))] (.ty eP.bJ (fun (dt:aA)=>(.done (cv 106 [(.agg (bP true (cb none dt)))] (.ty eP.mt (fun (eG:aE)=>(.int (fun jM=>(.bool (fun vH=>(.done (cv 74 [(.agg (bK (some true) x1))] (.bool (fun Ao=>(.done (br (br Ao false true) (some ((.agg (cb none dt)),[.undef,.undef,.undef])) (br (pr.eq jM 1000000) (some ((.agg (cb none dt)),[.undef,.undef,.undef])) (br vH (br (pr.rZ (pr.mn (pr.mx 0 (pr.mn x2 160)) (pr.bc dt.b.length)) (pr.bc dt.b.length) dt.b.length) (cv 122 [(.agg (bK (some true) x1)),(.int .i64 (pr.ar .add .i64 jM 1))] (.ty eP.B (fun (vm5:List UInt8)=>(.done (br (pr.rZ 0 (pr.mx 0 (pr.mn x2 160)) vm5.length) (cv 121 [(.sl (some true) 1 2 [(.sl (some true) 1 (pr.jB (pr.mx 0 (pr.mn x2 160)) 0) (bP true (List.take y1 (List.drop (Nat.mul (0+(pr.eE 0)) 1) (bytes vm5))))),(.sl (some true) 1 (pr.jB (pr.bc dt.b.length) (pr.mn (pr.mx 0 (pr.mn x2 160)) (pr.bc dt.b.length))) (bP true (List.take (Nat.mul (pr.jB (pr.bc dt.b.length) (pr.mn (pr.mx 0 (pr.mn x2 160)) (pr.bc dt.b.length))) 1) (List.drop (Nat.mul (0+(pr.eE (pr.mn (pr.mx 0 (pr.mn x2 160)) (pr.bc dt.b.length)))) 1) (bytes dt.b)))))])] (.ty eP.B (fun (vm6:List UInt8)=>(.done (some ((.agg [(s8 none dt.a),(s8 none vm6)]),[.undef,.undef,.undef])))))) none))))) none) (br (pr.rZ (pr.mn (pr.mx 0 (pr.mn x2 160)) (pr.bc dt.a.length)) (pr.bc dt.a.length) dt.a.length) (cv 122 [(.agg (bK (some true) x1)),(.int .i64 (pr.ar .add .i64 jM 1))] (.ty eP.B (fun (XZ:List UInt8)=>(.done (br (pr.rZ 0 (pr.mx 0 (pr.mn x2 160)) XZ.length) (cv 121 [(.sl (some true) 1 2 [(.sl (some true) 1 (pr.jB (pr.mx 0 (pr.mn x2 160)) 0) (bP true (List.take y1 (List.drop (Nat.mul (0+(pr.eE 0)) 1) (bytes XZ))))),(.sl (some true) 1 (pr.jB (pr.bc dt.a.length) (pr.mn (pr.mx 0 (pr.mn x2 160)) (pr.bc dt.a.length))) (bP true (List.take (Nat.mul (pr.jB (pr.bc dt.a.length) (pr.mn (pr.mx 0 (pr.mn x2 160)) (pr.bc dt.a.length))) 1) (List.drop (Nat.mul (0+(pr.eE (pr.mn (pr.mx 0 (pr.mn x2 160)) (pr.bc dt.a.length)))) 1) (bytes dt.a)))))])] (.ty eP.B (fun (vm8:List UInt8)=>(.done (some ((.agg [(s8 none vm8),(s8 none dt.b)]),[.undef,.undef,.undef])))))) none))))) none)))))))))))))))))))):=by kernel_rfl
theorem HS:Told cfg Try.prog 85 Try.f85:=⟨by kernel_rfl,Try.func85,by kernel_rfl⟩
theorem HT (x0:aA) (x1:aE):aR pr cv J 85 Try.f85 [(.agg (cb (some true) x0)),(.agg (bK (some true) x1))]=
 (cv 106 [(.agg (cb (some true) x0))] (.ty eP.mt (fun (dt:aE)=>(.int (fun kv=>(.bool (fun iy=>(.done (cv 112 [(.agg (cb (some true) x0)),(.agg (bK (some true) x1)),(.int .i64 160)] (.ty eP.bJ (fun (nZ:aA)=>(.done (cv 74 [(.agg (bK (some true) x1))] (.bool (fun Ao=>(.done (br (br Ao false true) (some ((.agg (cb none nZ)),[.undef,.undef])) (br (pr.eq kv 1000000) (some ((.agg (cb none nZ)),[.undef,.undef])) (br iy (br (pr.rZ 0 160 nZ.b.length) (some ((.agg [(s8 none nZ.a),(.sl none 1 (pr.jB 160 0) (List.take (Nat.mul (pr.jB 160 0) 1) (List.drop (Nat.mul (0+(pr.eE 0)) 1) (bytes nZ.b))))]),[.undef,.undef])) none) (br (pr.rZ 0 160 nZ.a.length) (some ((.agg [(.sl none 1 (pr.jB 160 0) (List.take (Nat.mul (pr.jB 160 0) 1) (List.drop (Nat.mul (0+(pr.eE 0)) 1) (bytes nZ.a)))),(s8 none nZ.b)]),[.undef,.undef])) none)))))))))))))))))))):=by kernel_rfl
theorem HU:Told cfg Try.prog 82 Try.f82:=⟨by kernel_rfl,Try.func82,by kernel_rfl⟩
theorem HV (x0:aA) (x1:aE):aR pr cv J 82 Try.f82 [(.agg (cb (some true) x0)),(.agg (bK (some true) x1))]=
 (cv 110 [(.agg (cb (some true) x0))] (.ty eP.bJ (fun (dt:aA)=>(.done (cv 68 [(.agg (cb (some true) x0))] (.ty eP.mt (fun (eG:aE)=>(.int (fun jM=>(.bool (fun vH=>(.done (cv 66 [(.agg (bK (some true) x1))] (.bool (fun Ao=>(.done (br (br Ao false true) (some ((.agg (cb none dt)),[.undef,.undef])) (br (pr.le 1000000 jM) (some ((.agg (cb none dt)),[.undef,.undef])) (cv 96 [(.agg (cb (some true) x0))] (.int (fun pD=>(.done (br (pr.eq pD 0) (cv 111 [(.agg (bK (some true) x1)),(.int .i64 (pr.ar .add .i64 jM 1))] (.ty eP.B (fun (vm6:List UInt8)=>(.done (some ((.agg [(s8 none dt.a),(s8 none vm6)]),[.undef,.undef])))))) (cv 111 [(.agg (bK (some true) x1)),(.int .i64 (pr.ar .add .i64 jM 1))] (.ty eP.B (fun (XZ:List UInt8)=>(.done (some ((.agg [(s8 none XZ),(s8 none dt.b)]),[.undef,.undef]))))))))))))))))))))))))))))):=by kernel_rfl
end
@[go_sem] theorem akn (g:Option Bool) (a:Int):D.sl g 1 1 [D.int .i64 a]=.sl g 1 [a].length (ints [a]):=rfl
theorem BH {α β:Type} {f:α->List β} {c:Nat}:∀ {xs:List α},(∀ x∈xs,(f x).length<=c)->(xs.flatMap f).length<=c*xs.length
 | [],_=>by simp
 | x::xs,h=>by
  have h1:=BH (f:=f) (c:=c) (xs:=xs) fun y hy=>h y (List.mem_cons_of_mem _ hy);have h2:=h x List.mem_cons_self;rw [ab8,aab,abc,Nat.mul_succ];omega
theorem Nd {xs:List Int} (h:ej xs=true) {i:Nat} (hi:i < xs.length):oP xs i=true:=by
 unfold ej at h;exact aag.1 h i (adS.2 hi)
theorem D1 {xs:List Int} (h:ej xs=true):∀ i,i < xs.length->(i:Int)<=xs.getD i 0/\xs.getD i 0<=7
 | 0,hi=>by
  have:=Nd h hi;simp only [oP,D8,decide_eq_true_eq] at this;exact this.1
 | i+1,hi=>by
  have h1:=D1 h i (by omega)
  have:=Nd h hi;simp only [oP,D8,decide_eq_true_eq,acr,aer] at this;omega
theorem TP {xs:List Int} (h:ej xs=true):xs.length<=8:=by
 by_cases hz:xs.length=0
 ·omega
 ·have:=D1 h (xs.length - 1) (by omega)
  omega
theorem V4 {xs:List Int} (h:ej xs=true) {x:Int} (hx:x∈xs):0<=x/\x<=7:=by
 obtain ⟨i,hi,rfl⟩:=aeo hx;have:=D1 h i hi;rw [bF hi] at this;omega
theorem Zh {xs:List Int} (h:fV xs=true) {x:Int} (hx:x∈xs):1<=x/\x<=100000:=by
 obtain ⟨i,hi,rfl⟩:=aeo hx;unfold fV at h;rw [D8] at h;have:=aag.1 h.1 i (adS.2 hi);simp only [vM,D8,decide_eq_true_eq] at this;rw [bF hi] at this;exact this.1
theorem V5 {xs:List Int} (h:fV xs=true):xs.length<=12:=by
 unfold fV at h;rw [D8,decide_eq_true_eq] at h;omega
theorem xx {a:Int} {k:Nat} (h:a < 128 ^ (k+1)):(da a).length<=k+1:=by
 unfold da;split
 ·refine oR k _ ?_;have:((128 ^ (k+1):Nat):Int)=128 ^ (k+1):=by norm_cast
  omega
 ·simp
structure acw (m:aE):Prop where
 marks:∀ k,k < m.bits.length->ej (m.bits.getD k [])=true
 aK:fV m.aK=true
 pos:0 < m.aK.length
 bits:m.bits.length=3
 last:0<=m.last/\m.last<=200
 ako:¬(m.bW=true/\m.held=true)
theorem QO {m:aE}:dZ m=true↔acw m:=by
 simp only [dZ,D8,beq_iff_eq,decide_eq_true_eq,abf,Bool.and_eq_false_iff];constructor
 ·rintro ⟨h1,h2,h3,h4,h5,h6⟩;exact ⟨AM h1,h2,by omega,by omega,h5,by rintro ⟨a,b⟩; simp [a,b] at h6⟩
 ·rintro ⟨h1,h2,h3,h4,h5,h6⟩;refine ⟨CC h1,h2,by omega,by omega,h5,?_⟩
  cases ho:m.bW<;>cases hh:m.held<;>simp [ho,hh] at h6 ⊢
theorem vf (m:aE):(cw m).length<=151:=by
 unfold cw;split
 ·rename_i h;have h:=QO.1 h;have g1:(ez m.aK).length<=3*m.aK.length:=BH fun x hx=>xx (k:=2) (by have:=Zh h.aK hx; omega)
  have g2:=V5 h.aK;have g3:(da (m.aK.length:Int)).length<=1:=xx (k:=0) (by omega)
  have b1:(fo m.bits).length<=9*m.bits.length:=BH fun xs hx=>by
   obtain ⟨k,hk,rfl⟩:=aeo hx;have hm:=h.marks k hk;rw [bF hk] at hm;have l1:=TP hm;have l2:(ez m.bits[k]).length<=1*m.bits[k].length:=BH fun x hx=>xx (k:=0) (by have:=V4 hm hx; omega)
   have l3:(da (m.bits[k].length:Int)).length<=1:=xx (k:=0) (by omega)
   simp only [cP,aab];omega
  have f1:(da (kM m)).length<=1:=xx (k:=0) (by
   unfold kM qq;cases m.eb<;>cases m.bW<;>cases m.held<;>decide)
  have l1:(da m.last).length<=2:=xx (k:=1) (by have:=h.last; omega)
  have:=h.bits;simp only [cP,aab];omega
 ·simp
@[go_sem] theorem ZM (m:aE) (q0:cz m) (t:bE Rz):aL 74 [.agg (qz (some true) m)] t=feed t [.bool (dZ m)]:=by
 exact bI (r:=.bool (dZ m)) (s:=.bool) (ss:=[.undef]) (sS true m q0) (by kernel_rfl) (by simp only [av,bu,aW,bw,bz,ah,aj,vg]) (by simp only [ah,aI,av,aj,vg]) (by first | rfl | simp only [au,aU,aT,bp,bq,aV,bt,vg]) (by first | rfl | simp only [aaf,aah,au,vg]) t
@[go_sem] theorem ZN (m:aE) (q0:cz m) (t:bE Rz):aL 66 [.agg (qz (some true) m)] t=feed t [.bool (dZ m)]:=by
 exact bI (r:=.bool (dZ m)) (s:=.bool) (ss:=[.undef]) (sQ true m q0) (by kernel_rfl) (by simp only [av,bu,aW,bw,bz,ah,aj,vg]) (by simp only [ah,aI,av,aj,vg]) (by first | rfl | simp only [au,aU,aT,bp,bq,aV,bt,vg]) (by first | rfl | simp only [aaf,aah,au,vg]) t
def fP (gen:Int):aE:=if dZ ⟨[gen],[[],[],[]],true,false,false,0⟩ then ⟨[gen],[[],[],[]],true,false,false,0⟩ else ek
theorem HW (a:Int):Cm 83 [.int .i64 a] (.agg (bK none (fP a)),[.undef]):=by
 refine Cm.step HO [.undef] fun J hJ=>?_;rw [HP];have l3:3=(List.replicate 3 ([]:List Int)).length:=rfl;have o:cz ⟨[a],List.replicate 3 [],true,false,false,0⟩:=⟨by simp,by simp,by simp⟩
 simp (disch:=first | assumption | omega) only [go_sem]
 refine qw (fun h=>?_) (fun h=>?_)
 ·rw [show fP a=⟨[a],[[],[],[]],true,false,false,0⟩ from if_pos h];simp (disch:=first | assumption | omega) only [go_sem]
  rfl
 ·rw [show fP a=ek from if_neg h];simp (disch:=first | assumption | omega) only [go_sem]
  rfl
@[go_sem] theorem Zi (a:Int) (t:bE Rz):aL 83 [.int .i64 a] t=feed t [enc .mt (fP a)]:=by
 exact bI (r:=enc .mt (fP a)) (s:=.ty .mt) (ss:=[.undef]) (HW a) (by kernel_rfl) (by simp only [av,bu,aW,bw,bz,ah,aj,vg]) (by simp only [ah,aI,av,aj,vg]) (by first | rfl | simp only [au,aU,aT,bp,bq,aV,bt,vg]) (by first | rfl | simp only [aaf,aah,au,vg]) t
theorem HX (a:Int):Cm 80 [.int .i64 a] (.agg (bK none (fP a)),[.undef]):=by
 refine Cm.step HQ [.undef] fun J hJ=>?_;rw [HR];have l3:3=(List.replicate 3 ([]:List Int)).length:=rfl;have o:cz ⟨[a],List.replicate 3 [],true,false,false,0⟩:=⟨by simp,by simp,by simp⟩
 simp (disch:=first | assumption | omega) only [go_sem]
 refine qw (fun h=>?_) (fun h=>?_)
 ·rw [show fP a=⟨[a],[[],[],[]],true,false,false,0⟩ from if_pos h];simp (disch:=first | assumption | omega) only [go_sem]
  rfl
 ·rw [show fP a=ek from if_neg h];simp (disch:=first | assumption | omega) only [go_sem]
  rfl
@[go_sem] theorem Zj (a:Int) (t:bE Rz):aL 80 [.int .i64 a] t=feed t [enc .mt (fP a)]:=by
 exact bI (r:=enc .mt (fP a)) (s:=.ty .mt) (ss:=[.undef]) (HX a) (by kernel_rfl) (by simp only [av,bu,aW,bw,bz,ah,aj,vg]) (by simp only [ah,aI,av,aj,vg]) (by first | rfl | simp only [au,aU,aT,bp,bq,aV,bt,vg]) (by first | rfl | simp only [aaf,aah,au,vg]) t
@[go_sem] theorem ak3 (a b:Int):U.mn a b=min a b:=by show (if b < a then b else a)=_; omega
@[go_sem] theorem ak4 (a b:Int):U.mx a b=max a b:=by show (if b>a then b else a)=_; omega
section
variable (g h:Bool) (n m:Nat) (a b:List D)
@[go_sem] theorem ak5:U.dc 1 [.sl (some g) 1 n a,.sl (some h) 1 m b] 0=true:=rfl
@[go_sem] theorem ak6:U.bf [.sl (some g) 1 n a,.sl (some h) 1 m b] 0=n:=rfl
@[go_sem] theorem ak7:U.bn [.sl (some g) 1 n a,.sl (some h) 1 m b] 0=a:=rfl
@[go_sem] theorem ak8:U.dc 1 [.sl (some g) 1 n a,.sl (some h) 1 m b] 1=true:=rfl
@[go_sem] theorem ak9:U.bf [.sl (some g) 1 n a,.sl (some h) 1 m b] 1=m:=rfl
@[go_sem] theorem ala:U.bn [.sl (some g) 1 n a,.sl (some h) 1 m b] 1=b:=rfl
end
theorem Zk (k:Int) (h0:0<=k) (h1:k<=140737488355328):Cm 129 [.nil 1,.int .i64 k] (.sl none 1 0 [],[.undef,.undef]):=by
 refine Mk (e:=Bp 1 1) (by kernel_rfl) ?_
 simp only [Bp];rw [if_pos (by refine ⟨?_,?_,?_,?_⟩<;>first | trivial | rfl | omega)]
@[go_sem] theorem agE (k:Int) (h0:0<=k) (h1:k<=140737488355328) (t:bE Rz):aL 129 [.nil 1,.int .i64 k] t=feed t [enc .B []]:=by
 exact bI (r:=enc .B []) (s:=.ty .B) (ss:=[.undef,.undef]) (Zk k h0 h1) (by kernel_rfl) (av _ _) (by simp only [ah,aI,aj,vg]) (au _ _) rfl t
theorem TQ (a b:List UInt8) (ha:a.length<=1099511627776) (hb:b.length<=1099511627776):Cm 121 [.sl (some true) 1 2 [s8 (some true) a,s8 (some true) b]] (s8 none (a++b),[.undef]):=by
 refine Cm.step vd [.undef] fun J hJ=>?_;rw [ve];refine hJ _ _ (WP.step fun J hJ=>?_);rw [iH];simp (disch:=first | assumption | omega) only [go_sem,adG,Int.reduceAdd,(rfl:((2:Nat):Int)=2),acd,aan,aab]
 refine hJ _ _ (WP.step fun J hJ=>?_);rw [iH];simp (disch:=first | assumption | omega) only [go_sem,adG,Int.reduceAdd,(rfl:((2:Nat):Int)=2),acd,aan,aab]
 refine hJ _ _ (WP.step fun J hJ=>?_);rw [iH];simp (disch:=first | assumption | omega) only [go_sem,adG,Int.reduceAdd,(rfl:((2:Nat):Int)=2),acd,aan,aab]
 refine hJ _ _ (WP.step fun J hJ=>?_);rw [iI];simp (disch:=first | assumption | omega) only [go_sem,adG,Int.reduceAdd,(rfl:((2:Nat):Int)=2),acd,aan,aab]
 refine hJ _ _ (WP.step fun J hJ=>?_);rw [iI];simp (disch:=first | assumption | omega) only [go_sem,adG,Int.reduceAdd,(rfl:((2:Nat):Int)=2),acd,aan,aab]
 refine hJ _ _ (WP.step fun J hJ=>?_);rw [iI];simp (disch:=first | assumption | omega) only [go_sem,adG,Int.reduceAdd,(rfl:((2:Nat):Int)=2),acd,aan,aab]
 simp only [s8,aab]
@[go_sem] theorem aeT (n m:Nat) (a b:List UInt8) (e1:n=a.length) (e2:m=b.length) (ha:a.length<=1099511627776) (hb:b.length<=1099511627776) (t:bE Rz):aL 121 [.sl (some true) 1 2 [.sl (some true) 1 n (bytes a),.sl (some true) 1 m (bytes b)]] t=feed t [enc .B (a++b)]:=by
 subst e1;subst e2;exact bI (r:=enc .B (a++b)) (s:=.ty .B) (ss:=[.undef]) (TQ a b ha hb) (by kernel_rfl) (av _ _) (by simp only [ah,aI,aj,vg]) (au _ _) rfl t
theorem CE (s:aA):0<=(aD s).2.1/\(aD s).2.1<=1000000:=by
 have key:∀ b,0<=(bN b).2.1/\(bN b).2.1<=1000000:=fun b=>by
  have h:=yy b;split at h
  ·omega
  ·rw [h]; decide
 unfold aD;split<;>exact key _
def iT (s:aA) (m:aE):List UInt8:=j0 m ((aD s).2.1.toNat+1)
def BI (s:aA) (m:aE) (k:Int):aA:=if dZ m=true/\¬(aD s).2.1=1000000 then
  (if kY s then ⟨s.a,(iT s m).take (max 0 (min k 160)).toNat++s.b.drop (min (max 0 (min k 160)).toNat s.b.length)⟩
   else ⟨(iT s m).take (max 0 (min k 160)).toNat++s.a.drop (min (max 0 (min k 160)).toNat s.a.length),s.b⟩)
 else s
theorem qA (m:aE) (n:Nat):(j0 m n).length=160:=by
 have:=vf m;simp only [j0,aab,nG,aec,abp];omega
theorem Jd {α:Type} {l:List α} {n k:Nat} (h:l.length - k<=n):(l.drop k).take n=l.drop k:=adV (by rw [adH]; exact h)
theorem N5 (s:aA) (m:aE) (k:Int) (q0:cY s) (q1:cz m):Cm 112 [.agg (cb (some true) s),.agg (bK (some true) m),.int .i64 k] (.agg (cb none (BI s m k)),[.undef,.undef,.undef]):=by
 have n2:=CE s;have ml:=vf m;have sa:=q0.a;have sb:=q0.b;obtain ⟨q,hq⟩:∃ q:Nat,(aD s).2.1=q:=⟨(aD s).2.1.toNat,by omega⟩
 have e1:(q:Int)+1=((q+1:Nat):Int):=by omega
 have sl:=qA m (q+1);refine Cm.step N3 [.undef,.undef,.undef] fun J hJ=>?_;rw [N4];obtain ⟨j,hj,hj2⟩:∃ j:Nat,max 0 (min k 160)=(j:Int)/\j<=160:=⟨(max 0 (min k 160)).toNat,by omega,by omega⟩
 have l1:j=(List.take j (j0 m (q+1))).length:=by rw [acA]; omega
 have l2:s.b.length - min j s.b.length=(List.drop (min j s.b.length) s.b).length:=by rw [adH]
 have l3:s.a.length - min j s.a.length=(List.drop (min j s.a.length) s.a).length:=by rw [adH]
 have m2:min (j:Int) s.b.length=((min j s.b.length:Nat):Int):=by omega
 have m3:min (j:Int) s.a.length=((min j s.a.length:Nat):Int):=by omega
 unfold BI iT;simp (disch:=first | assumption | omega) only [go_sem,hq,e1,hj]
 refine qw (fun hm=>?_) (fun hm=>?_)
 ·simp (disch:=first | assumption | omega) only [go_sem,hq,e1,hj]
  refine ed (fun h9=>by rw [if_neg fun h=>h.2 h9]; rfl) (fun h9=>?_)
  rw [if_pos ⟨hm,h9⟩];refine qw (fun ha=>?_) (fun ha=>?_)
  ·simp (disch:=first | assumption | omega) only [go_sem,hq,e1,hj,m2,aeN,Jd,ad5]
   rw [if_pos ha]
  ·simp (disch:=first | assumption | omega) only [go_sem,hq,e1,hj,m3,aeN,Jd,ad5]
   rw [if_neg ha]
 ·rw [if_neg fun h=>hm h.1];simp (disch:=first | assumption | omega) only [go_sem]
@[go_sem] theorem acP (s:aA) (m:aE) (k:Int) (q0:cY s) (q1:cz m) (t:bE Rz):aL 112 [.agg (kS (some true) s),.agg (qz (some true) m),.int .i64 k] t=feed t [enc .bJ (BI s m k)]:=by
 exact bI (r:=enc .bJ (BI s m k)) (s:=.ty .bJ) (ss:=[.undef,.undef,.undef]) (N5 s m k q0 q1) (by kernel_rfl) (by simp only [av,bu,aW,bw,bz,ah,aj,vg]) (by simp only [ah,aI,av,aj,vg]) (by first | rfl | simp only [au,aU,aT,bp,bq,aV,bt,vg]) (by first | rfl | simp only [aaf,aah,au,vg]) t
def ja (s:aA) (m:aE):aA:=if dZ m=true/\¬(aD s).2.1=1000000 then (if kY s then ⟨s.a,iT s m⟩ else ⟨iT s m,s.b⟩) else s
theorem TR:Int.toNat 160=160:=rfl
theorem TS (s:aA) (m:aE):BI s m 160=if dZ m=true/\¬(aD s).2.1=1000000 then (if kY s then ⟨s.a,iT s m++s.b.drop (min 160 s.b.length)⟩ else ⟨iT s m++s.a.drop (min 160 s.a.length),s.b⟩) else s:=by
 unfold BI;rw [show (max 0 (min 160 160):Int).toNat=160 from rfl,adV (by rw [iT,qA]; omega)]
theorem HY (s:aA) (m:aE) (q0:cY s) (q1:cz m):Cm 85 [.agg (cb (some true) s),.agg (bK (some true) m)] (.agg (cb none (ja s m)),[.undef,.undef]):=by
 have sl:(iT s m).length=160:=qA m _;refine Cm.step HS [.undef,.undef] fun J hJ=>?_;rw [HT];unfold ja;simp (disch:=first | assumption | omega) only [go_sem]
 rw [TS];generalize iT s m=l at sl ⊢;refine qw (fun hm=>?_) (fun hm=>?_)
 ·refine ed (fun h9=>by rw [if_neg fun h=>h.2 h9,if_neg fun h=>h.2 h9]; rfl) (fun h9=>?_)
  rw [if_pos ⟨hm,h9⟩];refine qw (fun ha=>?_) (fun ha=>?_)
  ·rw [if_pos ha];simp (disch:=first | assumption | omega) only [go_sem,TR,ad5,aab,aeN,List.take_left' sl]
   rw [if_pos ⟨hm,h9⟩,if_pos ha]
  ·rw [if_neg ha];simp (disch:=first | assumption | omega) only [go_sem,TR,ad5,aab,aeN,List.take_left' sl]
   rw [if_pos ⟨hm,h9⟩,if_neg ha]
 ·rw [if_neg fun h=>hm h.1,if_neg fun h=>hm h.1];simp (disch:=first | assumption | omega) only [go_sem]
@[go_sem] theorem Zl (s:aA) (m:aE) (q0:cY s) (q1:cz m) (t:bE Rz):aL 85 [.agg (kS (some true) s),.agg (qz (some true) m)] t=feed t [enc .bJ (ja s m)]:=by
 exact bI (r:=enc .bJ (ja s m)) (s:=.ty .bJ) (ss:=[.undef,.undef]) (HY s m q0 q1) (by kernel_rfl) (by simp only [av,bu,aW,bw,bz,ah,aj,vg]) (by simp only [ah,aI,av,aj,vg]) (by first | rfl | simp only [au,aU,aT,bp,bq,aV,bt,vg]) (by first | rfl | simp only [aaf,aah,au,vg]) t
theorem Zm (s:aA):decide (oS s=0)=kY s:=by
 unfold oS kY BD;generalize bN s.a=a;generalize bN s.b=b;obtain ⟨a1,a2,a3⟩:=a;obtain ⟨b1,b2,b3⟩:=b;cases a3<;>cases b3<;>by_cases h:b2<=a2<;>simp [h]<;>omega
theorem HZ (s:aA) (m:aE) (q0:cY s) (q1:cz m):Cm 82 [.agg (cb (some true) s),.agg (bK (some true) m)] (.agg (cb none (ja s m)),[.undef,.undef]):=by
 have n2:=CE s;have ml:=vf m;obtain ⟨q,hq⟩:∃ q:Nat,(aD s).2.1=q:=⟨(aD s).2.1.toNat,by omega⟩
 have e1:(q:Int)+1=((q+1:Nat):Int):=by omega
 refine Cm.step HU [.undef,.undef] fun J hJ=>?_;rw [HV];unfold ja iT;simp (disch:=first | assumption | omega) only [go_sem,hq,e1]
 refine qw (fun hm=>?_) (fun hm=>?_)
 ·simp (disch:=first | assumption | omega) only [go_sem,hq,e1]
  refine ed (fun h9=>by rw [if_neg fun h=>h.2 (by omega)]) (fun h9=>?_)
  rw [if_pos ⟨hm,by omega⟩]
  simp (disch:=first | assumption | omega) only [go_sem,hq,e1,Zm]
  refine qw (fun ha=>?_) (fun ha=>?_)
  ·simp (disch:=first | assumption | omega) only [go_sem,hq,e1]
   rw [if_pos ha]
  ·simp (disch:=first | assumption | omega) only [go_sem,hq,e1]
   rw [if_neg ha]
 ·rw [if_neg fun h=>hm h.1];simp (disch:=first | assumption | omega) only [go_sem]
@[go_sem] theorem Zn (s:aA) (m:aE) (q0:cY s) (q1:cz m) (t:bE Rz):aL 82 [.agg (kS (some true) s),.agg (qz (some true) m)] t=feed t [enc .bJ (ja s m)]:=by
 exact bI (r:=enc .bJ (ja s m)) (s:=.ty .bJ) (ss:=[.undef,.undef]) (HZ s m q0 q1) (by kernel_rfl) (by simp only [av,bu,aW,bw,bz,ah,aj,vg]) (by simp only [ah,aI,av,aj,vg]) (by first | rfl | simp only [au,aU,aT,bp,bq,aV,bt,vg]) (by first | rfl | simp only [aaf,aah,au,vg]) t
set_option maxRecDepth 100000
section
variable (pr:dA) (cv:Cv Rz) (J:Nat->St->Option Rz)
theorem H0:Told cfg Try.prog 47 Try.f47:=⟨by kernel_rfl,Try.func47,by kernel_rfl⟩
theorem H3 (x0:Int):aR pr cv J 47 Try.f47 [(.int .i64 x0)]=
 (cv 72 [(.int .i64 x0)] (.bool (fun cx=>(.done (br (br cx false true) (some ((.agg [(.int .i64 0),(.bool false),(.bool false),(.sl none 1 0 []),(.sl none 1 0 []),(.sl none 1 0 []),(.bool false),(.bool false),(.bool false),(.int .i64 0),(.sl none 1 0 []),(.sl none 1 0 []),(.sl none 1 0 []),(.sl none 1 0 []),(.sl none 1 0 []),(.sl none 1 0 [])]),[.undef])) (cv 83 [(.int .i64 1)] (.ty eP.mt (fun (eG:aE)=>(.done (cv 84 [] (.sl (fun mU=>(fun fx=>(.done (br (br (br (pr.nl fx) true false) true false) (cv 85 [(.agg [(.sl (some true) 1 0 []),(.sl (some true) 1 0 [])]),(.agg (bP true (bK none eG)))] (.ty eP.bJ (fun (M9:aA)=>(.done (br (pr.mM 3 3 1) (br (pr.mM 3 3 24) (br (pr.mM 3 3 1) (some ((.agg [(.int .i64 x0),(.bool true),(.bool false),(.sl none 1 mU fx),(sI none eG.aK),(sR none eG.bits),(.bool eG.eb),(.bool eG.bW),(.bool eG.held),(.int .i64 eG.last),(s8 none M9.a),(s8 none M9.b),(.sl none 1 (pr.eE 3) (eg (pr.eE 3) [(.bool false)])),(.sl none 1 (pr.eE 3) (eg (pr.eE 3) [(.nil 1)])),(.sl none 1 (pr.eE 3) (eg (pr.eE 3) [(.bool false)])),(.sl none 1 0 [])]),[.undef])) none) none) none))))) none))))))))))))))):=by kernel_rfl
theorem H4:Told cfg Try.prog 46 Try.f46:=⟨by kernel_rfl,Try.func46,by kernel_rfl⟩
theorem H5 (x0:Int):aR pr cv J 46 Try.f46 [(.int .i64 x0)]=
 (cv 64 [(.int .i64 x0),(.int .i64 0),(.int .i64 2)] (.bool (fun cx=>(.done (br (br cx false true) (some ((.agg [(.int .i64 0),(.bool false),(.bool false),(.sl none 1 0 []),(.sl none 1 0 []),(.sl none 1 0 []),(.bool false),(.bool false),(.bool false),(.int .i64 0),(.sl none 1 0 []),(.sl none 1 0 []),(.sl none 1 0 []),(.sl none 1 0 []),(.sl none 1 0 []),(.sl none 1 0 [])]),[.undef])) (cv 80 [(.int .i64 1)] (.ty eP.mt (fun (eG:aE)=>(.done (cv 81 [] (.sl (fun mU=>(fun fx=>(.done (br (br (br (pr.nl fx) true false) true false) (cv 82 [(.agg [(.sl (some true) 1 0 []),(.sl (some true) 1 0 [])]),(.agg (bP true (bK none eG)))] (.ty eP.bJ (fun (M9:aA)=>(.done (br (pr.mM 3 3 1) (br (pr.mM 3 3 24) (br (pr.mM 3 3 1) (some ((.agg [(.int .i64 x0),(.bool true),(.bool false),(.sl none 1 mU fx),(sI none eG.aK),(sR none eG.bits),(.bool eG.eb),(.bool eG.bW),(.bool eG.held),(.int .i64 eG.last),(s8 none M9.a),(s8 none M9.b),(.sl none 1 (pr.eE 3) (eg (pr.eE 3) [(.bool false)])),(.sl none 1 (pr.eE 3) (eg (pr.eE 3) [(.nil 1)])),(.sl none 1 (pr.eE 3) (eg (pr.eE 3) [(.bool false)])),(.sl none 1 0 [])]),[.undef])) none) none) none))))) none))))))))))))))):=by kernel_rfl
def te (i0:Int) (i1:Int) (i2:Int):St:=(St.mk [(0,(.ptr 0 [] 0)),(1,(.ptr 1 [] 0)),(4,(.int .i64 i0))] [(0,[(.nil 16),(.nil 3),(.nil 2),(.nil 1),(.int .i64 i1)]),(1,[(.nil 16),(.nil 3),(.nil 2),(.nil 1),(.int .i64 i2)])] [] 0)
def mO (i0:Int) (i1:Int) (n2:Nat) (c3:List D) (i4:Int):St:=(St.mk [(0,(.ptr 0 [] 0)),(1,(.ptr 1 [] 0)),(4,(.int .i64 i0))] [(0,[(.nil 16),(.nil 3),(.nil 2),(.nil 1),(.int .i64 i1)]),(1,[(.sl none 16 n2 c3),(.nil 3),(.nil 2),(.nil 1),(.int .i64 i4)])] [] 0)
theorem F0:Told cfg Try.prog 17 Try.f17:=⟨by kernel_rfl,Try.func17,by kernel_rfl⟩
theorem F1 :aR pr cv J 17 Try.f17 []=
 (J 0 (te 0 0 2)):=by kernel_rfl
theorem AV (i0:Int) (i1:Int) (i2:Int):bR pr cv J 17 Try.f17 [] 0 (te i0 i1 i2)=
 (br (pr.lt i0 3) (cv 47 [(.int .i64 i0)] (.ty eP.node (fun (dt:ak)=>(.done (br (pr.fits 1 248) (J 0 (mO (pr.ar .add .i64 i0 1) i1 1 (ab none dt) i2)) none))))) (some ((.agg [(.sl none 16 0 []),(.sl none 3 0 []),(.sl none 2 0 []),(.sl none 1 0 []),(.int .i64 i2)]),[]))):=by kernel_rfl
theorem mj (i0:Int) (i1:Int) (n2:Nat) (c3:List D) (i4:Int):bR pr cv J 17 Try.f17 [] 0 (mO i0 i1 n2 c3 i4)=
 (br (pr.lt i0 3) (cv 47 [(.int .i64 i0)] (.ty eP.node (fun (dt:ak)=>(.done (br (pr.fits (n2+1) 248) (J 0 (mO (pr.ar .add .i64 i0 1) i1 (n2+1) (List.append c3 (ab none dt)) i4)) none))))) (some ((.agg [(.sl none 16 n2 c3),(.sl none 3 0 []),(.sl none 2 0 []),(.sl none 1 0 []),(.int .i64 i4)]),[]))):=by kernel_rfl
def tf (i0:Int) (i1:Int) (i2:Int):St:=(St.mk [(0,(.ptr 0 [] 0)),(1,(.ptr 1 [] 0)),(2,(.int .i64 i0))] [(0,[(.nil 16),(.nil 3),(.nil 2),(.nil 1),(.int .i64 i1)]),(1,[(.nil 16),(.nil 3),(.nil 2),(.nil 1),(.int .i64 i2)])] [] 0)
def mP (i0:Int) (i1:Int) (n2:Nat) (c3:List D) (i4:Int):St:=(St.mk [(0,(.ptr 0 [] 0)),(1,(.ptr 1 [] 0)),(2,(.int .i64 i0))] [(0,[(.nil 16),(.nil 3),(.nil 2),(.nil 1),(.int .i64 i1)]),(1,[(.sl none 16 n2 c3),(.nil 3),(.nil 2),(.nil 1),(.int .i64 i4)])] [] 0)
theorem F2:Told cfg Try.prog 16 Try.f16:=⟨by kernel_rfl,Try.func16,by kernel_rfl⟩
theorem F3 :aR pr cv J 16 Try.f16 []=
 (J 0 (tf 0 0 2)):=by kernel_rfl
theorem AW (i0:Int) (i1:Int) (i2:Int):bR pr cv J 16 Try.f16 [] 0 (tf i0 i1 i2)=
 (br (pr.lt i0 3) (cv 46 [(.int .i64 i0)] (.ty eP.node (fun (dt:ak)=>(.done (br (pr.fits 1 248) (J 0 (mP (pr.ar .add .i64 i0 1) i1 1 (ab none dt) i2)) none))))) (some ((.agg [(.sl none 16 0 []),(.sl none 3 0 []),(.sl none 2 0 []),(.sl none 1 0 []),(.int .i64 i2)]),[]))):=by kernel_rfl
theorem mm (i0:Int) (i1:Int) (n2:Nat) (c3:List D) (i4:Int):bR pr cv J 16 Try.f16 [] 0 (mP i0 i1 n2 c3 i4)=
 (br (pr.lt i0 3) (cv 46 [(.int .i64 i0)] (.ty eP.node (fun (dt:ak)=>(.done (br (pr.fits (n2+1) 248) (J 0 (mP (pr.ar .add .i64 i0 1) i1 (n2+1) (List.append c3 (ab none dt)) i4)) none))))) (some ((.agg [(.sl none 16 n2 c3),(.sl none 3 0 []),(.sl none 2 0 []),(.sl none 1 0 []),(.int .i64 i4)]),[]))):=by kernel_rfl
end
def BJ (k:Nat):List Int:=List.replicate k 0
theorem F4:Cm 84 [] (sI none (BJ 8),[]):=Fw
theorem F5:Cm 81 [] (sI none (BJ 8),[]):=Fx
@[go_sem] theorem X0 (t:bE Rz):aL 84 [] t=feed t [sI none (BJ 8)]:=aX F4 (by kernel_rfl) t
@[go_sem] theorem X3 (t:bE Rz):aL 81 [] t=feed t [sI none (BJ 8)]:=aX F5 (by kernel_rfl) t
@[go_sem] theorem akp:D.agg [.sl (some true) 1 0 [],.sl (some true) 1 0 []]=.agg (kS (some true) ⟨[],[]⟩):=rfl
def iw (a:Int):ak:=if 0<=a/\a<=2 then ⟨a,true,false,BJ 8,fP 1,ja ⟨[],[]⟩ (fP 1),List.replicate 3 false,List.replicate 3 [],List.replicate 3 false,[]⟩ else n0
theorem yz (a:Int):cz (fP a):=by
 unfold fP;split<;>exact ⟨by simp [ek],by simp [ek],by simp [ek]⟩
theorem H6 (a:Int):Cm 47 [.int .i64 a] (.agg (ab none (iw a)),[.undef]):=by
 have o1:=yz 1;have o2:cY ⟨[],[]⟩:=⟨by simp,by simp⟩
 refine Cm.step H0 [.undef] fun J hJ=>?_;rw [H3];unfold iw;simp (disch:=first | assumption | omega) only [go_sem]
 refine ed (fun h=>?_) (fun h=>?_)
 ·rw [if_pos h];simp (disch:=first | assumption | omega) only [go_sem]
  rfl
 ·rw [if_neg h];simp (disch:=first | assumption | omega) only [go_sem]
  rfl
@[go_sem] theorem Zo (a:Int) (t:bE Rz):aL 47 [.int .i64 a] t=feed t [enc .node (iw a)]:=by
 exact bI (r:=enc .node (iw a)) (s:=.ty .node) (ss:=[.undef]) (H6 a) (by kernel_rfl) (by simp only [av,bu,aW,bw,bz,ah,aj,vg]) (by simp only [ah,aI,av,aj,vg]) (by first | rfl | simp only [au,aU,aT,bp,bq,aV,bt,vg]) (by first | rfl | simp only [aaf,aah,au,vg]) t
theorem H7 (a:Int):Cm 46 [.int .i64 a] (.agg (ab none (iw a)),[.undef]):=by
 have o1:=yz 1;have o2:cY ⟨[],[]⟩:=⟨by simp,by simp⟩
 refine Cm.step H4 [.undef] fun J hJ=>?_;rw [H5];unfold iw;simp (disch:=first | assumption | omega) only [go_sem]
 refine ed (fun h=>?_) (fun h=>?_)
 ·rw [if_pos h];simp (disch:=first | assumption | omega) only [go_sem]
  rfl
 ·rw [if_neg h];simp (disch:=first | assumption | omega) only [go_sem]
  rfl
@[go_sem] theorem Zp (a:Int) (t:bE Rz):aL 46 [.int .i64 a] t=feed t [enc .node (iw a)]:=by
 exact bI (r:=enc .node (iw a)) (s:=.ty .node) (ss:=[.undef]) (H7 a) (by kernel_rfl) (by simp only [av,bu,aW,bw,bz,ah,aj,vg]) (by simp only [ah,aI,av,aj,vg]) (by first | rfl | simp only [au,aU,aT,bp,bq,aV,bt,vg]) (by first | rfl | simp only [aaf,aah,au,vg]) t
theorem QP {s:aA} (o:cY s) (m:aE):cY (ja s m):=by
 have l:(iT s m).length=160:=qA m _;unfold ja;split
 ·split
  ·exact ⟨o.a,by show (iT s m).length<=_; omega⟩
  ·exact ⟨by show (iT s m).length<=_; omega,o.b⟩
 ·exact o
theorem Zq (n:Nat) (h:n<=1048576):sq (List.replicate n []):=⟨by rw [aec]; exact h,fun x hx=>by rw [(List.mem_replicate.1 hx).2]; simp⟩
theorem adD:cd n0:=⟨by simp [n0],⟨by simp [n0],⟨by simp [n0],by simp [n0]⟩⟩,⟨by simp [n0],by simp [n0]⟩,by simp [n0],⟨by simp [n0],by simp [n0]⟩,by simp [n0],by simp [n0]⟩
theorem QQ (a:Int):cd (iw a):=by
 unfold iw;split
 ·exact ⟨by simp [BJ],yz 1,(QP (s:=⟨[],[]⟩) ⟨by simp,by simp⟩ (fP 1):cY (ja ⟨[],[]⟩ (fP 1))),by simp,Zq 3 (by omega),by simp,by simp⟩
 ·exact adD
def dk:ck:=⟨[iw 0,iw 1,iw 2],[],[],[],2⟩
theorem N6:nW dk:=⟨by simp [dk],by
 intro n hn;simp only [dk,aaZ,List.not_mem_nil,or_false] at hn;rcases hn with rfl | rfl | rfl<;>exact QQ _,by simp [dk],by simp [dk],by simp [dk],by simp [dk]⟩
theorem F6 :Cm 17 [] (.agg (lI none (dk)),[]):=by
 refine Cm.step F0 [] fun J hJ=>?_;rw [F1];refine hJ _ _ (WP.step fun J hJ=>?_);rw [AV];simp (disch:=first | assumption | omega) only [go_sem,adG,Int.reduceAdd]
 refine hJ _ _ (WP.step fun J hJ=>?_);rw [mj];simp (disch:=first | assumption | omega) only [go_sem,adG,Int.reduceAdd]
 refine hJ _ _ (WP.step fun J hJ=>?_);rw [mj];simp (disch:=first | assumption | omega) only [go_sem,adG,Int.reduceAdd]
 refine hJ _ _ (WP.step fun J hJ=>?_);rw [mj];simp (disch:=first | assumption | omega) only [go_sem,adG,Int.reduceAdd]
 rfl
@[go_sem] theorem X4  (t:bE Rz):aL 17 [] t=feed t [enc .world (dk)]:=by
 exact bI (r:=enc .world (dk)) (s:=.ty .world) (ss:=[]) (F6) (by kernel_rfl) (by simp only [av,bu,aW,bw,bz,ah,aj,vg]) (by simp only [ah,aI,av,aj,vg]) (by first | rfl | simp only [au,aU,aT,bp,bq,aV,bt,vg]) (by first | rfl | simp only [aaf,aah,au,vg]) t
theorem F7 :Cm 16 [] (.agg (lI none (dk)),[]):=by
 refine Cm.step F2 [] fun J hJ=>?_;rw [F3];refine hJ _ _ (WP.step fun J hJ=>?_);rw [AW];simp (disch:=first | assumption | omega) only [go_sem,adG,Int.reduceAdd]
 refine hJ _ _ (WP.step fun J hJ=>?_);rw [mm];simp (disch:=first | assumption | omega) only [go_sem,adG,Int.reduceAdd]
 refine hJ _ _ (WP.step fun J hJ=>?_);rw [mm];simp (disch:=first | assumption | omega) only [go_sem,adG,Int.reduceAdd]
 refine hJ _ _ (WP.step fun J hJ=>?_);rw [mm];simp (disch:=first | assumption | omega) only [go_sem,adG,Int.reduceAdd]
 rfl
@[go_sem] theorem X5  (t:bE Rz):aL 16 [] t=feed t [enc .world (dk)]:=by
 exact bI (r:=enc .world (dk)) (s:=.ty .world) (ss:=[]) (F7) (by kernel_rfl) (by simp only [av,bu,aW,bw,bz,ah,aj,vg]) (by simp only [ah,aI,av,aj,vg]) (by first | rfl | simp only [au,aU,aT,bp,bq,aV,bt,vg]) (by first | rfl | simp only [aaf,aah,au,vg]) t
set_option maxRecDepth 100000
section
variable (pr:dA) (cv:Cv Rz) (J:Nat->St->Option Rz)
def AX (g0:Bool) (x0:List ak) (x1:Int) (i0:Int):St:=(St.mk [(0,(.sl (some g0) 16 x0.length (ad (ab (some g0)) x0))),(1,(.int .i64 x1)),(5,(.int .i64 i0))] [] [] 0)
def gS (g0:Bool) (x0:List ak) (i0:Int) (i1:Int):St:=(St.mk [(0,(.sl (some g0) 16 x0.length (ad (ab (some g0)) x0))),(1,(.int .i64 i0)),(5,(.int .i64 i1))] [] [] 0)
theorem D2:Told cfg Try.prog 55 Try.f55:=⟨by kernel_rfl,Try.func55,by kernel_rfl⟩
theorem D3 (g0:Bool) (x0:List ak) (x1:Int):aR pr cv J 55 Try.f55 [(sN (some g0) x0),(.int .i64 x1)]=
 (J 0 (AX g0 x0 x1 0)):=by kernel_rfl
theorem xz (g0:Bool) (x0:List ak) (i0:Int) (i1:Int):bR pr cv J 55 Try.f55 [.undef,.undef] 0 (gS g0 x0 i0 i1)=
 let y1:Option (D × List D):=(some ((.int .i64 (-1)),[.undef,.undef]))
 (br (pr.lt i1 (pr.bc x0.length)) (br (pr.bh i1 x0.length) (br (br (pr.cW .i64 (ad (ab (some g0)) x0) (pr.idx 0 i1 16)) true false) (br (br (pr.eq (pr.bT (ad (ab (some g0)) x0) (pr.idx 0 i1 16)) i0) false true) y1 (br (pr.bh i1 x0.length) (br (br (pr.eK (ad (ab (some g0)) x0) ((pr.idx 0 i1 16)+1)) true false) (br (br (pr.eq 3 0) false true) (br (br (pr.beq (pr.dm (ad (ab (some g0)) x0) ((pr.idx 0 i1 16)+1)) (pr.eq (pr.ar .rem .i64 (pr.ar .add .i64 i0 1) 3) 0)) false true) y1 (br (pr.bh i1 x0.length) (br (br (pr.eK (ad (ab (some g0)) x0) ((pr.idx 0 i1 16)+2)) true false) (br (br (pr.eq 3 0) false true) (br (br (pr.beq (pr.dm (ad (ab (some g0)) x0) ((pr.idx 0 i1 16)+2)) (pr.eq (pr.ar .rem .i64 (pr.ar .add .i64 (pr.ar .add .i64 i0 1) 1) 3) 0)) false true) y1 (br (pr.bh i1 x0.length) (br (br (pr.dc 1 (ad (ab (some g0)) x0) ((pr.idx 0 i1 16)+3)) true false) (cv 58 [(.sl (some (pr.cF (ad (ab (some g0)) x0) ((pr.idx 0 i1 16)+3))) 1 (pr.bf (ad (ab (some g0)) x0) ((pr.idx 0 i1 16)+3)) (pr.bn (ad (ab (some g0)) x0) ((pr.idx 0 i1 16)+3))),(.int .i64 (pr.ar .add .i64 (pr.ar .add .i64 (pr.ar .add .i64 i0 1) 1) 1))] (.int (fun fh=>(.done (br (pr.lt fh 0) y1 (br (pr.bh i1 x0.length) (br (br (pr.dc 1 (ad (ab (some g0)) x0) ((pr.idx 0 i1 16)+4)) true false) (cv 58 [(.sl (some (pr.cF (ad (ab (some g0)) x0) ((pr.idx 0 i1 16)+4))) 1 (pr.bf (ad (ab (some g0)) x0) ((pr.idx 0 i1 16)+4)) (pr.bn (ad (ab (some g0)) x0) ((pr.idx 0 i1 16)+4))),(.int .i64 fh)] (.int (fun kv=>(.done (br (pr.lt kv 0) y1 (br (pr.bh i1 x0.length) (br (br (pr.dc 1 (ad (ab (some g0)) x0) ((pr.idx 0 i1 16)+5)) true false) (cv 91 [(.sl (some (pr.cF (ad (ab (some g0)) x0) ((pr.idx 0 i1 16)+5))) 1 (pr.bf (ad (ab (some g0)) x0) ((pr.idx 0 i1 16)+5)) (pr.bn (ad (ab (some g0)) x0) ((pr.idx 0 i1 16)+5))),(.int .i64 kv)] (.int (fun jM=>(.done (br (pr.lt jM 0) y1 (br (pr.bh i1 x0.length) (br (br (pr.eK (ad (ab (some g0)) x0) ((pr.idx 0 i1 16)+6)) true false) (br (br (pr.eq 3 0) false true) (br (br (pr.beq (pr.dm (ad (ab (some g0)) x0) ((pr.idx 0 i1 16)+6)) (pr.eq (pr.ar .rem .i64 jM 3) 0)) false true) y1 (br (pr.bh i1 x0.length) (br (br (pr.eK (ad (ab (some g0)) x0) ((pr.idx 0 i1 16)+7)) true false) (br (br (pr.eq 3 0) false true) (br (br (pr.beq (pr.dm (ad (ab (some g0)) x0) ((pr.idx 0 i1 16)+7)) (pr.eq (pr.ar .rem .i64 (pr.ar .add .i64 jM 1) 3) 0)) false true) y1 (br (pr.bh i1 x0.length) (br (br (pr.eK (ad (ab (some g0)) x0) ((pr.idx 0 i1 16)+8)) true false) (br (br (pr.eq 3 0) false true) (br (br (pr.beq (pr.dm (ad (ab (some g0)) x0) ((pr.idx 0 i1 16)+8)) (pr.eq (pr.ar .rem .i64 (pr.ar .add .i64 (pr.ar .add .i64 jM 1) 1) 3) 0)) false true) y1 (br (pr.bh i1 x0.length) (br (br (pr.cW .i64 (ad (ab (some g0)) x0) ((pr.idx 0 i1 16)+9)) true false) (br (br (pr.eq (pr.bT (ad (ab (some g0)) x0) ((pr.idx 0 i1 16)+9)) (pr.ar .add .i64 (pr.ar .add .i64 (pr.ar .add .i64 jM 1) 1) 1)) false true) y1 (br (pr.bh i1 x0.length) (br (br (pr.dc 1 (ad (ab (some g0)) x0) ((pr.idx 0 i1 16)+10)) true false) (cv 92 [(.sl (some (pr.cF (ad (ab (some g0)) x0) ((pr.idx 0 i1 16)+10))) 1 (pr.bf (ad (ab (some g0)) x0) ((pr.idx 0 i1 16)+10)) (pr.bn (ad (ab (some g0)) x0) ((pr.idx 0 i1 16)+10))),(.int .i64 (pr.ar .add .i64 (pr.ar .add .i64 (pr.ar .add .i64 (pr.ar .add .i64 jM 1) 1) 1) 1))] (.int (fun so=>(.done (br (pr.lt so 0) y1 (br (pr.bh i1 x0.length) (br (br (pr.dc 1 (ad (ab (some g0)) x0) ((pr.idx 0 i1 16)+11)) true false) (cv 92 [(.sl (some (pr.cF (ad (ab (some g0)) x0) ((pr.idx 0 i1 16)+11))) 1 (pr.bf (ad (ab (some g0)) x0) ((pr.idx 0 i1 16)+11)) (pr.bn (ad (ab (some g0)) x0) ((pr.idx 0 i1 16)+11))),(.int .i64 so)] (.int (fun mv=>(.done (br (pr.lt mv 0) y1 (br (pr.bh i1 x0.length) (br (br (pr.dc 1 (ad (ab (some g0)) x0) ((pr.idx 0 i1 16)+12)) true false) (cv 93 [(.sl (some (pr.cF (ad (ab (some g0)) x0) ((pr.idx 0 i1 16)+12))) 1 (pr.bf (ad (ab (some g0)) x0) ((pr.idx 0 i1 16)+12)) (pr.bn (ad (ab (some g0)) x0) ((pr.idx 0 i1 16)+12))),(.int .i64 mv)] (.int (fun pD=>(.done (br (pr.lt pD 0) y1 (br (pr.bh i1 x0.length) (br (br (pr.dc 1 (ad (ab (some g0)) x0) ((pr.idx 0 i1 16)+13)) true false) (cv 91 [(.sl (some (pr.cF (ad (ab (some g0)) x0) ((pr.idx 0 i1 16)+13))) 1 (pr.bf (ad (ab (some g0)) x0) ((pr.idx 0 i1 16)+13)) (pr.bn (ad (ab (some g0)) x0) ((pr.idx 0 i1 16)+13))),(.int .i64 pD)] (.int (fun Fb=>(.done (br (pr.lt Fb 0) y1 (br (pr.bh i1 x0.length) (br (br (pr.dc 1 (ad (ab (some g0)) x0) ((pr.idx 0 i1 16)+14)) true false) (cv 93 [(.sl (some (pr.cF (ad (ab (some g0)) x0) ((pr.idx 0 i1 16)+14))) 1 (pr.bf (ad (ab (some g0)) x0) ((pr.idx 0 i1 16)+14)) (pr.bn (ad (ab (some g0)) x0) ((pr.idx 0 i1 16)+14))),(.int .i64 Fb)] (.int (fun j4=>(.done (br (pr.lt j4 0) y1 (br (pr.bh i1 x0.length) (br (br (pr.dc 1 (ad (ab (some g0)) x0) ((pr.idx 0 i1 16)+15)) true false) (cv 58 [(.sl (some (pr.cF (ad (ab (some g0)) x0) ((pr.idx 0 i1 16)+15))) 1 (pr.bf (ad (ab (some g0)) x0) ((pr.idx 0 i1 16)+15)) (pr.bn (ad (ab (some g0)) x0) ((pr.idx 0 i1 16)+15))),(.int .i64 j4)] (.int (fun vx8=>(.done (br (pr.lt vx8 0) y1 (J 0 (gS g0 x0 vx8 (pr.ar .add .i64 i1 1)))))))) none) none)))))) none) none)))))) none) none)))))) none) none)))))) none) none)))))) none) none)) none) none)) none) none) none)) none) none) none)) none) none) none)))))) none) none)))))) none) none)))))) none) none)) none) none) none)) none) none) none)) none) none) (some ((.int .i64 i0),[.undef,.undef]))):=by kernel_rfl
def AY (g0:Bool) (x0:List cD) (x1:Int) (i0:Int):St:=(St.mk [(0,(.sl (some g0) 3 x0.length (ad (bj (some g0)) x0))),(1,(.int .i64 x1)),(5,(.int .i64 i0))] [] [] 0)
def gT (g0:Bool) (x0:List cD) (i0:Int) (i1:Int):St:=(St.mk [(0,(.sl (some g0) 3 x0.length (ad (bj (some g0)) x0))),(1,(.int .i64 i0)),(5,(.int .i64 i1))] [] [] 0)
theorem D4:Told cfg Try.prog 56 Try.f56:=⟨by kernel_rfl,Try.func56,by kernel_rfl⟩
theorem D5 (g0:Bool) (x0:List cD) (x1:Int):aR pr cv J 56 Try.f56 [(sW (some g0) x0),(.int .i64 x1)]=
 (J 0 (AY g0 x0 x1 0)):=by kernel_rfl
theorem xA (g0:Bool) (x0:List cD) (i0:Int) (i1:Int):bR pr cv J 56 Try.f56 [.undef,.undef] 0 (gT g0 x0 i0 i1)=
 let y1:Option (D × List D):=(some ((.int .i64 (-1)),[.undef,.undef]))
 (br (pr.lt i1 (pr.bc x0.length)) (br (pr.bh i1 x0.length) (br (br (pr.cW .i64 (ad (bj (some g0)) x0) (pr.idx 0 i1 3)) true false) (br (br (pr.eq (pr.bT (ad (bj (some g0)) x0) (pr.idx 0 i1 3)) i0) false true) y1 (br (pr.bh i1 x0.length) (br (br (pr.cW .i64 (ad (bj (some g0)) x0) ((pr.idx 0 i1 3)+1)) true false) (br (br (pr.eq (pr.bT (ad (bj (some g0)) x0) ((pr.idx 0 i1 3)+1)) (pr.ar .add .i64 i0 1)) false true) y1 (br (pr.bh i1 x0.length) (br (br (pr.dc 1 (ad (bj (some g0)) x0) ((pr.idx 0 i1 3)+2)) true false) (cv 92 [(.sl (some (pr.cF (ad (bj (some g0)) x0) ((pr.idx 0 i1 3)+2))) 1 (pr.bf (ad (bj (some g0)) x0) ((pr.idx 0 i1 3)+2)) (pr.bn (ad (bj (some g0)) x0) ((pr.idx 0 i1 3)+2))),(.int .i64 (pr.ar .add .i64 (pr.ar .add .i64 i0 1) 1))] (.int (fun fh=>(.done (br (pr.lt fh 0) y1 (J 0 (gT g0 x0 fh (pr.ar .add .i64 i1 1)))))))) none) none)) none) none)) none) none) (some ((.int .i64 i0),[.undef,.undef]))):=by kernel_rfl
def BP (g0:Bool) (x0:List ff) (x1:Int) (i0:Int):St:=(St.mk [(0,(.sl (some g0) 2 x0.length (ad (cJ (some g0)) x0))),(1,(.int .i64 x1)),(5,(.int .i64 i0))] [] [] 0)
def ig (g0:Bool) (x0:List ff) (i0:Int) (i1:Int):St:=(St.mk [(0,(.sl (some g0) 2 x0.length (ad (cJ (some g0)) x0))),(1,(.int .i64 i0)),(5,(.int .i64 i1))] [] [] 0)
theorem F8:Told cfg Try.prog 57 Try.f57:=⟨by kernel_rfl,Try.func57,by kernel_rfl⟩
theorem F9 (g0:Bool) (x0:List ff) (x1:Int):aR pr cv J 57 Try.f57 [(sK (some g0) x0),(.int .i64 x1)]=
 (J 0 (BP g0 x0 x1 0)):=by kernel_rfl
theorem yA (g0:Bool) (x0:List ff) (i0:Int) (i1:Int):bR pr cv J 57 Try.f57 [.undef,.undef] 0 (ig g0 x0 i0 i1)=
 let y1:Option (D × List D):=(some ((.int .i64 (-1)),[.undef,.undef]))
 (br (pr.lt i1 (pr.bc x0.length)) (br (pr.bh i1 x0.length) (br (br (pr.cW .i64 (ad (cJ (some g0)) x0) (pr.idx 0 i1 2)) true false) (br (br (pr.eq (pr.bT (ad (cJ (some g0)) x0) (pr.idx 0 i1 2)) i0) false true) y1 (br (pr.bh i1 x0.length) (br (br (pr.cW .i64 (ad (cJ (some g0)) x0) ((pr.idx 0 i1 2)+1)) true false) (br (br (pr.eq (pr.bT (ad (cJ (some g0)) x0) ((pr.idx 0 i1 2)+1)) (pr.ar .add .i64 i0 1)) false true) y1 (J 0 (ig g0 x0 (pr.ar .add .i64 (pr.ar .add .i64 i0 1) 1) (pr.ar .add .i64 i1 1)))) none) none)) none) none) (some ((.int .i64 i0),[.undef,.undef]))):=by kernel_rfl
theorem D6:Told cfg Try.prog 20 Try.f20:=⟨by kernel_rfl,Try.func20,by kernel_rfl⟩
theorem D7 (g0:Bool) (x0:ck) (x1:Int):aR pr cv J 20 Try.f20 [(.agg (lI (some g0) x0)),(.int .i64 x1)]=
 let y1:Option (D × List D):=(some ((.int .i64 (-1)),[.undef,.undef]))
 (cv 55 [(.sl (some g0) 16 x0.nodes.length (ad (ab (some g0)) x0.nodes)),(.int .i64 x1)] (.int (fun fh=>(.done (br (pr.lt fh 0) y1 (cv 56 [(.sl (some g0) 3 x0.cX.length (ad (bj (some g0)) x0.cX)),(.int .i64 fh)] (.int (fun kv=>(.done (br (pr.lt kv 0) y1 (cv 57 [(.sl (some g0) 2 x0.log.length (ad (cJ (some g0)) x0.log)),(.int .i64 kv)] (.int (fun jM=>(.done (br (pr.lt jM 0) y1 (cv 58 [(sI (some g0) x0.safe),(.int .i64 jM)] (.int (fun so=>(.done (br (pr.lt so 0) y1 (some ((.int .i64 so),[.undef,.undef])))))))))))))))))))))):=by kernel_rfl
end
attribute [go_sem] XN XO XP
theorem Ga (n:ak) (r:List ak):cu (n::r)=nA n+cu r:=by simp [cu]
theorem CF (ns:List ak) (i:Nat):cu ns=cu (ns.take i)+cu (ns.drop i):=by
 conv=>lhs; rw [<- aeb i ns]
 unfold cu;rw [adT,List.sum_append]
theorem Je {α:Type} {xs:List α} {i:Nat} (d:α) (h:i < xs.length):xs.drop i=xs.getD i d::xs.drop (i+1):=by rw [dY h,List.drop_eq_getElem_cons h]
theorem Nf:∀ (ns:List ak) (k:Int) (i:Nat),i < ns.length->(iU k ns).getD i n0=wT (k+cu (ns.take i)) (ns.getD i n0)
 | [],_,_,h=>by simp at h
 | n::r,k,0,_=>by
  show wT k n=wT (k+((cu []:Nat):Int)) n;rw [show k+((cu []:Nat):Int)=k from ael k]
 | n::r,k,i+1,h=>by
  show (iU (k+nA n) r).getD i n0=wT (k+cu (n::r.take i)) (r.getD i n0);rw [Nf r _ i (by simpa using h),Ga,show k+(nA n:Int)+(cu (r.take i):Int)=k+((nA n+cu (r.take i):Nat):Int) by omega]
theorem N7 (g:Bool) (ns:List ak) (k:Int) (h0:0<=k) (h1:k+cu ns < 4611686018427387904) (hs:ns.length<=1048576) (ok:∀ x∈ns,cd x):Cm 55 [.sl (some g) 16 ns.length (ad (ab (some g)) (iU k ns)),.int .i64 k] (.int .i64 (k+cu ns),[.undef,.undef]):=by
 have hl:=mG k ns;have key:∀ i,i<=ns.length->True->WP 55 Try.f55 [.undef,.undef] 0 (gS g (iU k ns) (k+cu (ns.take i)) (i:Nat)) (.int .i64 (k+cu ns),[.undef,.undef]):=by
  refine WP.up (H:=fun i=>gS g (iU k ns) (k+cu (ns.take i)) (i:Nat)) ns.length (fun _=>True) (fun i hi _ J hJ next=>?_)
  rw [xz];have a1:=CF ns i;simp (disch:=first | assumption | omega | (simp only [cS,dj,dp,dM]; done)) only [go_sem]
  refine ed (fun cU=>?_) (fun rN=>?_)
  ·have pX:i < ns.length:=by omega
   have Is:i < (iU k ns).length:=by omega
   have a2:=CF ns (i+1);have a3:cu (ns.drop i)=nA (ns.getD i n0)+cu (ns.drop (i+1)):=by rw [Je n0 pX,Ga]
   have lK:=ok _ (BG (d:=n0) pX);have l1:=lK.image; have l2:=lK.mt.aK; have l3:=tL lK.mt.bits; have l3':=lK.mt.bits.1; have l4:=lK.bJ.a; have l5:=lK.bJ.b; have l6:=lK.conn; have l7:=tL lK.sync; have l7':=lK.sync.1; have l8:=lK.bC; have l9:=lK.wait;have e1:=Nf ns k i pX;have nx:=next pX trivial
   generalize ns.getD i n0=x at*;have hT:nA x=7+x.image.length+x.mt.aK.length+dR x.mt.bits+x.bJ.a.length+x.bJ.b.length+x.conn.length+dR x.sync+x.bC.length+x.wait.length:=rfl;have fin:∀ a b:Int,a=k+cu (ns.take (i+1))->b=((i+1:Nat):Int)->J 0 (gS g (iU k ns) a b)=some (.int .i64 (k+cu ns),[.undef,.undef]):=by
    rintro _ _ rfl rfl;exact nx
   generalize hK:k+(cu (ns.take i):Int)=K at*;unfold wT at e1;simp (disch:=first | assumption | omega | (simp only [cS,dj,dp,dM]; done)) only [go_sem,e1,VB]
   exact fin _ _ (by omega) (by omega)
  ·rw [show i=ns.length by omega,aa9]
 refine Cm.step D2 [.undef,.undef] fun J hJ=>?_;have:=D3 U aL J g (iU k ns) k;rw [sN,hl] at this;rw [this];refine hJ _ _ ?_;have h9:=key 0 (by omega) trivial
 rw [aeU,show k+((cu []:Nat):Int)=k from ael k] at h9;exact h9
theorem Gb (n:cD) (r:List cD):cr (n::r)=(2+n.bytes.length)+cr r:=by simp [cr]
theorem CG (ns:List cD) (i:Nat):cr ns=cr (ns.take i)+cr (ns.drop i):=by
 conv=>lhs; rw [<- aeb i ns]
 unfold cr;rw [adT,List.sum_append]
theorem Ng:∀ (ns:List cD) (k:Int) (i:Nat),i < ns.length->(iV k ns).getD i w0=⟨k+cr (ns.take i),k+cr (ns.take i)+1,js (k+cr (ns.take i)+1+1) (ns.getD i w0).bytes.length⟩
 | [],_,_,h=>by simp at h
 | n::r,k,0,_=>by
  show (⟨k,k+1,js (k+1+1) n.bytes.length⟩:cD)=⟨k+((cr []:Nat):Int),k+((cr []:Nat):Int)+1,js (k+((cr []:Nat):Int)+1+1) n.bytes.length⟩;rw [show k+((cr []:Nat):Int)=k from ael k]
 | n::r,k,i+1,h=>by
  show (iV (k+(2+n.bytes.length:Nat)) r).getD i w0=⟨k+cr (n::r.take i),k+cr (n::r.take i)+1,js (k+cr (n::r.take i)+1+1) (r.getD i w0).bytes.length⟩;rw [Ng r _ i (by simpa using h),Gb,show k+((2+n.bytes.length:Nat):Int)+(cr (r.take i):Int)=k+((2+n.bytes.length+cr (r.take i):Nat):Int) by omega]
theorem N8 (g:Bool) (ns:List cD) (k:Int) (h0:0<=k) (h1:k+cr ns < 4611686018427387904) (hs:ns.length<=1048576) (ok:∀ x∈ns,gv x):Cm 56 [.sl (some g) 3 ns.length (ad (bj (some g)) (iV k ns)),.int .i64 k] (.int .i64 (k+cr ns),[.undef,.undef]):=by
 have hl:=mH k ns;have key:∀ i,i<=ns.length->True->WP 56 Try.f56 [.undef,.undef] 0 (gT g (iV k ns) (k+cr (ns.take i)) (i:Nat)) (.int .i64 (k+cr ns),[.undef,.undef]):=by
  refine WP.up (H:=fun i=>gT g (iV k ns) (k+cr (ns.take i)) (i:Nat)) ns.length (fun _=>True) (fun i hi _ J hJ next=>?_)
  rw [xA];have a1:=CG ns i;simp (disch:=first | assumption | omega | (simp only [cS,dj,dp,dM]; done)) only [go_sem]
  refine ed (fun cU=>?_) (fun rN=>?_)
  ·have pX:i < ns.length:=by omega
   have Is:i < (iV k ns).length:=by omega
   have a2:=CG ns (i+1);have a3:cr (ns.drop i)=(2+(ns.getD i w0).bytes.length)+cr (ns.drop (i+1)):=by rw [Je w0 pX,Gb]
   have lK:=ok _ (BG (d:=w0) pX);unfold gv at lK;have e1:=Ng ns k i pX;have nx:=next pX trivial
   generalize ns.getD i w0=x at*;have fin:∀ a b:Int,a=k+cr (ns.take (i+1))->b=((i+1:Nat):Int)->J 0 (gT g (iV k ns) a b)=some (.int .i64 (k+cr ns),[.undef,.undef]):=by
    rintro _ _ rfl rfl;exact nx
   generalize hK:k+(cr (ns.take i):Int)=K at*;simp (disch:=first | assumption | omega | (simp only [cS,dj,dp,dM]; done)) only [go_sem,e1]
   exact fin _ _ (by omega) (by omega)
  ·rw [show i=ns.length by omega,aa9]
 refine Cm.step D4 [.undef,.undef] fun J hJ=>?_;have:=D5 U aL J g (iV k ns) k;rw [sW,hl] at this;rw [this];refine hJ _ _ ?_;have h9:=key 0 (by omega) trivial
 rw [aeU,show k+((cr []:Nat):Int)=k from ael k] at h9;exact h9
theorem Nh:∀ (ns:List ff) (k:Int) (i:Nat),i < ns.length->(iW k ns).getD i r0=⟨k+2*i,k+2*i+1⟩
 | [],_,_,h=>by simp at h
 | n::r,k,0,_=>by
  show (⟨k,k+1⟩:ff)=⟨k+2*((0:Nat):Int),k+2*((0:Nat):Int)+1⟩;rw [show k+2*((0:Nat):Int)=k by omega]
 | n::r,k,i+1,h=>by
  show (iW (k+2) r).getD i r0=_;rw [Nh r _ i (by simpa using h),show k+2+2*(i:Int)=k+2*((i+1:Nat):Int) by omega]
theorem QR (g:Bool) (ns:List ff) (k:Int) (h0:0<=k) (h1:k+2*ns.length < 4611686018427387904) (hs:ns.length<=1048576):Cm 57 [.sl (some g) 2 ns.length (ad (cJ (some g)) (iW k ns)),.int .i64 k] (.int .i64 (k+2*ns.length),[.undef,.undef]):=by
 have hl:=mI k ns;have key:∀ i,i<=ns.length->True->WP 57 Try.f57 [.undef,.undef] 0 (ig g (iW k ns) (k+2*(i:Nat)) (i:Nat)) (.int .i64 (k+2*ns.length),[.undef,.undef]):=by
  refine WP.up (H:=fun i=>ig g (iW k ns) (k+2*(i:Nat)) (i:Nat)) ns.length (fun _=>True) (fun i hi _ J hJ next=>?_)
  rw [yA];simp (disch:=first | assumption | omega | (simp only [cS,dj,dp,dM]; done)) only [go_sem]
  refine ed (fun cU=>?_) (fun rN=>?_)
  ·have pX:i < ns.length:=by omega
   have Is:i < (iW k ns).length:=by omega
   have e1:=Nh ns k i pX;have nx:=next pX trivial
   have fin:∀ a b:Int,a=k+2*((i+1:Nat):Int)->b=((i+1:Nat):Int)->J 0 (ig g (iW k ns) a b)=some (.int .i64 (k+2*ns.length),[.undef,.undef]):=by
    rintro _ _ rfl rfl;exact nx
   simp (disch:=first | assumption | omega | (simp only [cS,dj,dp,dM]; done)) only [go_sem,e1]
   exact fin _ _ (by omega) (by omega)
  ·rw [show i=ns.length by omega]
 refine Cm.step F8 [.undef,.undef] fun J hJ=>?_;have:=F9 U aL J g (iW k ns) k;rw [sK,hl] at this;rw [this];refine hJ _ _ ?_;have h9:=key 0 (by omega) trivial
 rw [show k+2*((0:Nat):Int)=k by omega] at h9
 exact h9
section
variable (t:bE Rz)
@[go_sem] theorem acQ (g:Bool) (n:Nat) (ns:List ak) (k:Int) (hn:n=ns.length) (h0:0<=k) (h1:k+cu ns < 4611686018427387904) (hs:ns.length<=1048576) (ok:∀ x∈ns,cd x):aL 55 [.sl (some g) 16 n (ad (ab (some g)) (iU k ns)),.int .i64 k] t=feed t [.int .i64 (k+cu ns)]:=by
 subst hn;exact aX (N7 g ns k h0 h1 hs ok) (by kernel_rfl) t
@[go_sem] theorem acR (g:Bool) (n:Nat) (ns:List cD) (k:Int) (hn:n=ns.length) (h0:0<=k) (h1:k+cr ns < 4611686018427387904) (hs:ns.length<=1048576) (ok:∀ x∈ns,gv x):aL 56 [.sl (some g) 3 n (ad (bj (some g)) (iV k ns)),.int .i64 k] t=feed t [.int .i64 (k+cr ns)]:=by
 subst hn;exact aX (N8 g ns k h0 h1 hs ok) (by kernel_rfl) t
@[go_sem] theorem adE (g:Bool) (n:Nat) (ns:List ff) (k:Int) (hn:n=ns.length) (h0:0<=k) (h1:k+2*ns.length < 4611686018427387904) (hs:ns.length<=1048576):aL 57 [.sl (some g) 2 n (ad (cJ (some g)) (iW k ns)),.int .i64 k] t=feed t [.int .i64 (k+2*ns.length)]:=by
 subst hn;exact aX (QR g ns k h0 h1 hs) (by kernel_rfl) t
@[go_sem] theorem acS (w:ck) (k:Int) (h0:0<=k) (h1:k<=1048576) (ok:nW w):aL 19 [.agg (xj none w),.int .i64 k] t=feed t [.int .i64 (k+o6 w),sN none (iU k w.nodes),sW none (iV (k+cu w.nodes) w.cX),sK none (iW (k+cu w.nodes+cr w.cX) w.log),sI none (ix (k+cu w.nodes+cr w.cX+2*w.log.length) w.safe.length),.int .i64 w.gen]:=aX (NK w k h0 h1 ok) (by kernel_rfl) t
end
theorem N9 (g:Bool) (w:ck) (k:Int) (h0:0<=k) (h1:k<=1048576) (ok:nW w):Cm 20 [.agg (lI (some g) (wU k w)),.int .i64 k] (.int .i64 (k+o6 w),[.undef,.undef]):=by
 have l1:=ok.nodes; have l2:=ok.cX; have l3:=ok.log; have l4:=ok.safe;have t1:=Dy l1 ok.node; have t2:=Dz l2 ok.qe;have o1:=ok.node; have o2:=ok.qe;refine Cm.step D6 _ fun J _=>?_;rw [D7];unfold wU o6;rw [show k+((cu w.nodes:Int)+cr w.cX+2*w.log.length+w.safe.length)=k+cu w.nodes+cr w.cX+2*w.log.length+w.safe.length by omega]
 have e1:=mG k w.nodes;have e2:=mH (k+cu w.nodes) w.cX;have e3:=mI (k+cu w.nodes+cr w.cX) w.log;simp (disch:=first | assumption | omega | (simp only [cS,dj,dp,dM]; done)) only [go_sem]
@[go_sem] theorem acT (g:Bool) (ns:List ak) (ws:List cD) (ks:List ff) (n:Nat) (ge:Int) (k k1 k2 k3:Int) (l1:ns.length<=1048576) (o1:∀ x∈ns,cd x) (l2:ws.length<=1048576) (o2:∀ x∈ws,gv x) (l3:ks.length<=1048576) (l4:n<=1048576) (e1:k1=k+cu ns) (e2:k2=k+cu ns+cr ws) (e3:k3=k+cu ns+cr ws+2*ks.length) (h0:0<=k) (h1:k<=1048576) (t:bE Rz):aL 20 [.agg (xj (some g) ⟨iU k ns,iV k1 ws,iW k2 ks,ix k3 n,ge⟩),.int .i64 k] t=feed t [.int .i64 (k+(cu ns+cr ws+2*ks.length+n))]:=by
 subst e1 e2 e3;have:=N9 g ⟨ns,ws,ks,List.replicate n 0,ge⟩ k h0 h1 ⟨l1,o1,l2,o2,l3,by rw [aec]; exact l4⟩
 unfold wU o6 at this;rw [aec] at this;exact aX this (by kernel_rfl) t
set_option maxRecDepth 100000
section
variable (pr:dA) (cv:Cv Rz) (J:Nat->St->Option Rz)
theorem wc:Told cfg Try.prog 6 Try.f6:=⟨by kernel_rfl,Try.func6,by kernel_rfl⟩
theorem we :aR pr cv J 6 Try.f6 []=
 (cv 16 [] (.ty eP.world (fun (dt:ck)=>(.done (cv 17 [] (.ty eP.world (fun (eG:ck)=>(.done (cv 18 [(.agg [(.sl (some true) 16 eG.nodes.length (bP true (ad (ab none) eG.nodes))),(.sl (some true) 3 eG.cX.length (bP true (ad (bj none) eG.cX))),(.sl (some true) 2 eG.log.length (bP true (ad (cJ none) eG.log))),(gi true (sI none eG.safe)),(.int .i64 eG.gen)]),(.agg [(.sl (some true) 16 dt.nodes.length (bP true (ad (ab none) dt.nodes))),(.sl (some true) 3 dt.cX.length (bP true (ad (bj none) dt.cX))),(.sl (some true) 2 dt.log.length (bP true (ad (cJ none) dt.log))),(gi true (sI none dt.safe)),(.int .i64 dt.gen)])] (.bool (fun iy=>(.done (br (br iy false true) (some ((.bool false),[])) (br (br (br (pr.nl (ad (ab none) eG.nodes)) (br (pr.nl (ad (bj none) eG.cX)) (br (pr.nl (ad (cJ none) eG.log)) (br (pr.nl (ints eG.safe)) true false) false) false) false) true false) (cv 19 [(.agg [(.sl none 16 eG.nodes.length (ad (ab none) eG.nodes)),(.sl none 3 eG.cX.length (ad (bj none) eG.cX)),(.sl none 2 eG.log.length (ad (cJ none) eG.log)),(sI none eG.safe),(.int .i64 eG.gen)]),(.int .i64 1)] (.int (fun so=>(.sl (fun Fa=>(fun qG=>(.sl (fun vn6=>(fun vc7=>(.sl (fun vn8=>(fun vc9=>(.sl (fun An=>(fun yi=>(.int (fun alb=>(.done (br (br (br (pr.nl qG) (br (pr.nl vc7) (br (pr.nl vc9) (br (pr.nl yi) true false) false) false) false) true false) (br (br (br (pr.neq eG.nodes.length Fa) (br (pr.neq eG.cX.length vn6) (br (pr.neq eG.log.length vn8) (br (pr.neq eG.safe.length An) true false) false) false) false) true false) (cv 20 [(.agg [(.sl (some true) 16 Fa (bP true qG)),(.sl (some true) 3 vn6 (bP true vc7)),(.sl (some true) 2 vn8 (bP true vc9)),(.sl (some true) 1 An (bP true yi)),(.int .i64 eG.gen)]),(.int .i64 1)] (.int (fun qu=>(.done (br (pr.lt qu 0) (some ((.bool false),[])) (br (br (pr.eq qu so) false true) (some ((.bool false),[])) (cv 17 [] (.ty eP.world (fun (AZ:ck)=>(.done (cv 18 [(.agg [(.sl (some true) 16 AZ.nodes.length (bP true (ad (ab none) AZ.nodes))),(.sl (some true) 3 AZ.cX.length (bP true (ad (bj none) AZ.cX))),(.sl (some true) 2 AZ.log.length (bP true (ad (cJ none) AZ.log))),(gi true (sI none AZ.safe)),(.int .i64 AZ.gen)]),(.agg [(.sl (some true) 16 dt.nodes.length (bP true (ad (ab none) dt.nodes))),(.sl (some true) 3 dt.cX.length (bP true (ad (bj none) dt.cX))),(.sl (some true) 2 dt.log.length (bP true (ad (cJ none) dt.log))),(gi true (sI none dt.safe)),(.int .i64 dt.gen)])] (.bool (fun af3=>(.done (br (br af3 false true) (some ((.bool false),[])) (cv 20 [(.agg [(.sl (some true) 16 Fa (bP true qG)),(.sl (some true) 3 vn6 (bP true vc7)),(.sl (some true) 2 vn8 (bP true vc9)),(.sl (some true) 1 An (bP true yi)),(.int .i64 eG.gen)]),(.int .i64 1)] (.int (fun Au=>(.done (br (pr.lt Au 0) (some ((.bool false),[])) (br (br (pr.eq Au so) false true) (some ((.bool false),[])) (some ((.bool true),[]))))))))))))))))))))))) none) none))))))))))))))))))) none)))))))))))))):=by kernel_rfl
end
theorem BQ:Cm 6 [] (.bool true,[]):=by
 refine Cm.step wc _ fun J _=>?_;rw [we];have ok:=N6;have l1:=ok.nodes; have l2:=ok.cX; have l3:=ok.log; have l4:=ok.safe;have o1:=ok.node; have o2:=ok.qe;have t1:=Dy l1 ok.node; have t2:=Dz l2 ok.qe;have e1:=mG 1 dk.nodes;have e2:=mH (1+cu dk.nodes) dk.cX;have e3:=mI (1+cu dk.nodes+cr dk.cX) dk.log;have hT:o6 dk=cu dk.nodes+cr dk.cX+2*dk.log.length+dk.safe.length:=rfl;simp (disch:=first | assumption | omega | (simp only [cS,dj,dp,dM]; done)) only [go_sem]
end Go.Proofs.Ytockoilcnmljiaa
namespace Go.Proofs.Ytockoilcnmljiaa.fnExactWorldNew
open Go.ChangeShapes Go.WideShapes Go.ChangeAt Go.RowKit
set_option maxRecDepth 100000
theorem own:ownKnob Try.prog.godebug=none:=by kernel_rfl
theorem laidOut:laidOutB Try.prog=true:=by kernel_rfl
theorem lifted (os:Os) (started:os.Started) (H:Type) (enc:TypeId × Value->H):
  ReturnsInHanded {} Try.checked os 6 .any (Rows.fnExactWorldNewSpec.pre6 enc Try.prog Try.f6 Rows.fnExactWorldNewRow.domain false) (Rows.fnExactWorldNewSpec.post enc Try.prog Try.f6 false true false false):=by
 refine returnsInHanded_of_change_sized (C:=Try.checked) own started (by kernel_rfl) Try.func6
  (ChangeSpec.witness6 (enc:=enc) (C:=Try.checked) false ⟨#[],#[],[]⟩ 8 (by kernel_rfl) (by kernel_rfl) (by kernel_rfl) (by kernel_rfl)) ?_
 intro W base args ds gs before X6 hW alc acB _;have cO:(DataW.weightsEach Try.prog (Try.f6.params.toList++Rows.fnExactWorldNewSpec.plain.varTypes Try.prog) (ds++gs)).all (·<=reachBytes)=true:=acB;have Lp:∀ (j:Nat) t v,Try.f6.params[j]?=some t->args[j]?=some v->Value.okWide Try.prog W .any base t v:=X6;have hW':=hW;obtain ⟨p,q,RB,hV,rfl,hfz,fg⟩:=hW;have hA:DataW.TrodAll enc Try.prog W 0 (fun _=>true) true Try.f6.params.toList args.toList ds p:=RB;rw [Try.params6] at hA Lp cO;obtain ⟨h0,rfl,rfl⟩:=trodAll_nil hA;obtain rfl:args=#[]:=by cases args; simp_all
 obtain ⟨rfl,rfl⟩:=trodVars_none hV;clear RB X6 acB cO;refine (Sq ye (f:=6) (vs:=#[]) (by kernel_rfl) (BQ) (by simp [dC,bU,db,fp,bQ]) .nil).mono fun e W' ⟨he,bel⟩=>?_
 subst he;exact ⟨_,rfl,_,_,_,[],_,[],hW',trodAll_mk1 (shut_bool Try.underlying4 _),trodAll_mk0,rfl,bel.frame _,fun h=>by cases h⟩
theorem over:Rows.fnExactWorldNewRow.holds Try.pinned (OpenSpec.ofChange Rows.fnExactWorldNewSpec):=
 OpenClaim.holds_of_wide 6 Try.f6 rfl rfl rfl rfl rfl rfl rfl ⟨rfl,rfl,rfl,rfl,rfl⟩ rfl rfl rfl rfl rfl (by kernel_rfl) Try.func6 (by kernel_rfl)
  (of_decide_eq_true (by kernel_rfl)) (by unfold Func.isWrapper; first | (rw [if_pos (by decide+kernel)]; kernel_rfl) | (rw [if_neg (by decide+kernel)]; exact ⟨rfl,rfl⟩))
  (fun os started H enc _=>lifted os started H enc)
theorem proved:Rows.FnExactWorldNewSaid:=over
#print axioms proved
end Go.Proofs.Ytockoilcnmljiaa.fnExactWorldNew
namespace Go.Proofs.Ytockoilcnmljiaa
theorem fnExactWorldNew_holds:Rows.FnExactWorldNewSaid:=fnExactWorldNew.proved
end Go.Proofs.Ytockoilcnmljiaa
