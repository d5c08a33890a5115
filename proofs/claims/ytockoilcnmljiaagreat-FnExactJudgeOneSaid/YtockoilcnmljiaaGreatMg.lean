/- What these proofs stand on, part 7: an abstract machine on plain data, its soundness, and the contracts of functions. -/
import Derived.Test.YtockoilcnmljiaaGreatMf
set_option linter.all false
set_option linter.unusedSimpArgs false
set_option linter.unusedVariables false
set_option linter.unnecessarySimpa false
set_option linter.unusedSectionVars false
namespace Go.Proofs.YtockoilcnmljiaaGreat
set_option maxRecDepth 100000
section
variable (pr:dr) (cv:Cv Rz) (J:Nat→St→Option Rz)
def lB (x0:ai) (i0:Int) (i1:Int) (n2:Nat) (c3:List D):St:=(St.mk [(3,(.ref 10003 [] 0 none)),(8,(.sl (some true) 16 x0.nodes.length (U (ab (some true)) x0.nodes))),(9,(.int .i64 i0)),(10,(.int .i64 i1))] [(10003,[(.sl none 1 n2 c3)])] [] 0)
theorem NL:Told cfg Tryz.prog 82 Tryz.f82:=⟨by kernel_rfl,Tryz.func82,by kernel_rfl⟩
theorem NM (x0:ai):aR pr cv J 82 Tryz.f82 [(.agg (bn (some true) x0))]=
    (J 0 (lB x0 (pr.aS x0.nodes.length) 0 0 [])):=by kernel_rfl
theorem Gw (x0:ai) (i0:Int) (i1:Int) (n2:Nat) (c3:List D):bJ pr cv J 82 Tryz.f82 [.undef] 0 (lB x0 i0 i1 n2 c3)=
    (br (pr.lt i1 i0) (br (pr.bg i1 x0.nodes.length) (br (br (pr.bO .i64 (U (ab (some true)) x0.nodes) (pr.idx 0 i1 16)) (br (pr.cd (U (ab (some true)) x0.nodes) ((pr.idx 0 i1 16)+1)) (br (pr.cd (U (ab (some true)) x0.nodes) ((pr.idx 0 i1 16)+2)) (br (pr.aN 1 (U (ab (some true)) x0.nodes) ((pr.idx 0 i1 16)+3)) (br (pr.aN 1 (U (ab (some true)) x0.nodes) ((pr.idx 0 i1 16)+4)) (br (pr.aN 1 (U (ab (some true)) x0.nodes) ((pr.idx 0 i1 16)+5)) (br (pr.cd (U (ab (some true)) x0.nodes) ((pr.idx 0 i1 16)+6)) (br (pr.cd (U (ab (some true)) x0.nodes) ((pr.idx 0 i1 16)+7)) (br (pr.cd (U (ab (some true)) x0.nodes) ((pr.idx 0 i1 16)+8)) (br (pr.bO .i64 (U (ab (some true)) x0.nodes) ((pr.idx 0 i1 16)+9)) (br (pr.aN 1 (U (ab (some true)) x0.nodes) ((pr.idx 0 i1 16)+10)) (br (pr.aN 1 (U (ab (some true)) x0.nodes) ((pr.idx 0 i1 16)+11)) (br (pr.aN 1 (U (ab (some true)) x0.nodes) ((pr.idx 0 i1 16)+12)) (br (pr.aN 1 (U (ab (some true)) x0.nodes) ((pr.idx 0 i1 16)+13)) (br (pr.aN 1 (U (ab (some true)) x0.nodes) ((pr.idx 0 i1 16)+14)) (br (pr.aN 1 (U (ab (some true)) x0.nodes) ((pr.idx 0 i1 16)+15)) true false) false) false) false) false) false) false) false) false) false) false) false) false) false) false) false) (br (pr.bw (U (ab (some true)) x0.nodes) ((pr.idx 0 i1 16)+2)) (br (br (pr.flat [(.int .i64 i1)]) (pr.fits (n2+1) 8) false) (J 0 (lB x0 i0 (pr.ar .add .i64 i1 1) (n2+1) (List.append c3 [(.int .i64 i1)]))) none) (J 0 (lB x0 i0 (pr.ar .add .i64 i1 1) n2 c3))) none) none) (some ((.sl none 1 n2 c3),[.undef]))):=by kernel_rfl
theorem I3:Told cfg Tryz.prog 28 Tryz.f28:=⟨by kernel_rfl,Tryz.func28,by kernel_rfl⟩
theorem I4 (x0:ai):aR pr cv J 28 Tryz.f28 [(.agg (bn (some true) x0))]=
    let y1:Option (D × List D):=(some ((.bool false),[.undef]))
    (cv 23 [(.agg [(.sl (some true) 16 x0.nodes.length (U (ab (some true)) x0.nodes)),(.sl (some true) 3 x0.ay.length (U (aw (some true)) x0.ay)),(.sl (some true) 2 x0.log.length (U (aK (some true)) x0.log)),(sI (some true) x0.safe),(.int .i64 x0.gen)])] (.bool (fun bK=>(.done (br bK (cv 82 [(.agg [(.sl (some true) 16 x0.nodes.length (U (ab (some true)) x0.nodes)),(.sl (some true) 3 x0.ay.length (U (aw (some true)) x0.ay)),(.sl (some true) 2 x0.log.length (U (aK (some true)) x0.log)),(sI (some true) x0.safe),(.int .i64 x0.gen)])] (.ty eO.I (fun (dK:List Int)=>(.done (br (pr.le (pr.aS dK.length) 1) (br (pr.bg 0 x0.nodes.length) (br (br (pr.cd (U (ab (some true)) x0.nodes) ((pr.idx 0 0 16)+7)) true false) (br (pr.bw (U (ab (some true)) x0.nodes) ((pr.idx 0 0 16)+7)) (br (pr.bg 1 x0.nodes.length) (br (br (pr.cd (U (ab (some true)) x0.nodes) ((pr.idx 0 1 16)+7)) true false) (some ((.bool (br (pr.bw (U (ab (some true)) x0.nodes) ((pr.idx 0 1 16)+7)) false true)),[.undef])) none) none) (some ((.bool true),[.undef]))) none) none) y1))))) y1))))):=by kernel_rfl
def ma (x0:ai) (i0:Int) (i1:Int):St:=(St.mk [(1,(.ptr 1 [] 0)),(3,(.int .i64 i0)),(4,(.int .i64 i1))] [(1,[(.sl (some true) 16 x0.nodes.length (U (ab (some true)) x0.nodes)),(.sl (some true) 3 x0.ay.length (U (aw (some true)) x0.ay)),(.sl (some true) 2 x0.log.length (U (aK (some true)) x0.log)),(sI (some true) x0.safe),(.int .i64 x0.gen)])] [] 0)
theorem I5:Told cfg Tryz.prog 27 Tryz.f27:=⟨by kernel_rfl,Tryz.func27,by kernel_rfl⟩
theorem I6 (x0:ai):aR pr cv J 27 Tryz.f27 [(.agg (bn (some true) x0))]=
    (cv 21 [(.agg [(.sl (some true) 16 x0.nodes.length (U (ab (some true)) x0.nodes)),(.sl (some true) 3 x0.ay.length (U (aw (some true)) x0.ay)),(.sl (some true) 2 x0.log.length (U (aK (some true)) x0.log)),(sI (some true) x0.safe),(.int .i64 x0.gen)])] (.bool (fun bK=>(.done (br (br bK false true) (some ((.bool false),[.undef])) (J 0 (ma x0 0 0))))))):=by kernel_rfl
theorem Dh (x0:ai) (i0:Int) (i1:Int):bJ pr cv J 27 Tryz.f27 [.undef] 0 (ma x0 i0 i1)=
    (br (pr.lt i1 3) (br (pr.bg i1 x0.nodes.length) (br (br (pr.cd (U (ab (some true)) x0.nodes) ((pr.idx 0 i1 16)+2)) true false) (cv 81 [(.bool (pr.bw (U (ab (some true)) x0.nodes) ((pr.idx 0 i1 16)+2)))] (.int (fun dA=>(.done (J 0 (ma x0 (pr.ar .add .i64 i0 dA) (pr.ar .add .i64 i1 1))))))) none) none) (br (pr.le i0 1) (br (pr.bg 0 x0.nodes.length) (br (br (pr.cd (U (ab (some true)) x0.nodes) ((pr.idx 0 0 16)+7)) true false) (br (pr.bw (U (ab (some true)) x0.nodes) ((pr.idx 0 0 16)+7)) (br (pr.bg 1 x0.nodes.length) (br (br (pr.cd (U (ab (some true)) x0.nodes) ((pr.idx 0 1 16)+7)) true false) (some ((.bool (br (pr.bw (U (ab (some true)) x0.nodes) ((pr.idx 0 1 16)+7)) false true)),[.undef])) none) none) (some ((.bool true),[.undef]))) none) none) (some ((.bool false),[.undef])))):=by kernel_rfl
end
attribute [go_sem] SY
def gf (w:ai):Nat→List Int
  | 0=>[]
  | i+1=>if (w.nodes.getD i n0).cU=true then gf w i++[(i:Int)] else gf w i
theorem L7 {w:ai} {i:Nat} (h:(w.nodes.getD i n0).cU=true):gf w (i+1)=gf w i++[(i:Int)]:=by
  show (if _ then _ else _)=_
  rw [if_pos h]
theorem L8 {w:ai} {i:Nat} (h:¬(w.nodes.getD i n0).cU=true):gf w (i+1)=gf w i:=by
  show (if _ then _ else _)=_
  rw [if_neg h]
theorem yo (w:ai):∀ i,(gf w i).length≤i
  | 0=>by simp [gf]
  | i+1=>by
    have:=yo w i
    unfold gf
    split
    · simp; omega
    · omega
theorem NN (w:ai) (q0:bW w):Cm 82 [.agg (bn (some true) w)] (sI none (gf w w.nodes.length),[.undef]):=by
  have b1:=q0.nodes
  refine Cm.step NL [.undef] fun J hJ=>?_
  rw [NM]
  try simp (disch:=first | assumption | omega) only [go_sem]
  refine hJ _ _ ?_
  refine WP.up (H:=fun i:Nat=>lB w w.nodes.length (i:Int) (gf w i).length (ints (gf w i))) w.nodes.length (fun _=>True) (fun i hi _ J hJ next=>?_) 0 (by omega) trivial
  rw [Gw]
  have bl:=yo w i
  try simp (disch:=first | assumption | omega) only [go_sem]
  refine bq (fun hl=>?_) (fun hl=>?_)
  · have next:=next (by omega) trivial
    try simp (disch:=first | assumption | omega) only [go_sem]
    refine gF (fun hp=>?_) (fun hp=>?_)
    · rw [L7 hp,List.length_append] at next
      try simp (disch:=first | assumption | omega) only [go_sem]
      exact next
    · rw [L8 hp] at next
      try simp (disch:=first | assumption | omega) only [go_sem]
      exact next
  · rw [show i=w.nodes.length by omega]
@[go_sem] theorem ac9 (w:ai) (q0:bW w) (t:bS Rz):aU 82 [.agg (fm (some true) w)] t=feed t [enc .I (gf w w.nodes.length)]:=by
  exact bR (r:=enc .I (gf w w.nodes.length)) (s:=.ty .I) (ss:=[.undef]) (NN w q0) (by kernel_rfl) (by simp only [av,bE,aY,bF,bG,ah,ak,Bool.and_self]) (by simp only [ah,aM,av,ak,Bool.and_self]) (by first | rfl | simp only [au,aW,aV,bB,bC,aX,bD,Bool.and_self]) (by first | rfl | simp only [List.all_cons,List.all_nil,au,Bool.and_self]) t
noncomputable def mJ (w:ai):Bool:=gX w&&(decide (((gf w 3).length:Int)≤1)&&!((w.nodes.getD 0 n0).mt.cg&&(w.nodes.getD 1 n0).mt.cg))
theorem I7 (w:ai) (q0:bW w):Cm 28 [.agg (bn (some true) w)] (.bool (mJ w),[.undef]):=by
  unfold mJ
  refine Cm.step I3 [.undef] fun J hJ=>?_
  rw [I4]
  try simp (disch:=first | assumption | omega) only [go_sem]
  refine mC fun h=>?_
  have o:=pT h
  have nl:=o.ns.len
  rw [show gf w 3=gf w w.nodes.length by rw [nl]]
  try simp (disch:=first | assumption | omega) only [go_sem]
  refine mC fun _=>?_
  try simp (disch:=first | assumption | omega) only [go_sem]
  cases (w.nodes.getD 0 n0).mt.cg with
  | true=>
    try simp (disch:=first | assumption | omega) only [go_sem]
    rfl
  | false=>rfl
@[go_sem] theorem aaC (w:ai) (q0:bW w) (t:bS Rz):aU 28 [.agg (fm (some true) w)] t=feed t [.bool (mJ w)]:=by
  exact bR (r:=.bool (mJ w)) (s:=.bool) (ss:=[.undef]) (I7 w q0) (by kernel_rfl) (by simp only [av,bE,aY,bF,bG,ah,ak,Bool.and_self]) (by simp only [ah,aM,av,ak,Bool.and_self]) (by first | rfl | simp only [au,aW,aV,bB,bC,aX,bD,Bool.and_self]) (by first | rfl | simp only [List.all_cons,List.all_nil,au,Bool.and_self]) t
theorem I8 (w:ai) (q0:bW w):Cm 27 [.agg (bn (some true) w)] (.bool (mJ w),[.undef]):=by
  unfold mJ
  refine Cm.step I5 [.undef] fun J hJ=>?_
  rw [I6]
  try simp (disch:=first | assumption | omega) only [go_sem]
  refine gF (fun h=>?_) (fun h=>by rw [(Bool.not_eq_true _).mp h]; rfl)
  have o:=pT h
  have nl:=o.ns.len
  refine hJ _ _ ?_
  refine WP.up (H:=fun i:Nat=>ma w ((gf w i).length:Int) (i:Int)) 3 (fun _=>True) (fun i hi _ J hJ next=>?_) 0 (by omega) trivial
  rw [Dh]
  have bl:=yo w i
  try simp (disch:=first | assumption | omega) only [go_sem]
  refine bq (fun hl=>?_) (fun hl=>?_)
  · have next:=next (by omega) trivial
    try simp (disch:=first | assumption | omega) only [go_sem]
    by_cases hp:(w.nodes.getD i n0).cU=true
    · rw [L7 hp,List.length_append] at next
      rw [hp]
      unfold qm
      try simp (disch:=first | assumption | omega) only [go_sem]
      exact next
    · rw [L8 hp] at next
      rw [(Bool.not_eq_true _).mp hp]
      unfold qm
      try simp (disch:=first | assumption | omega) only [go_sem]
      exact next
  · rw [show i=3 by omega]
    rw [h]
    try simp (disch:=first | assumption | omega) only [go_sem]
    refine bq (fun hc=>?_) (fun hc=>?_)
    · rw [decide_eq_true hc]
      try simp (disch:=first | assumption | omega) only [go_sem]
      cases (w.nodes.getD 0 n0).mt.cg with
      | true=>
        try simp (disch:=first | assumption | omega) only [go_sem]
        rfl
      | false=>rfl
    · rw [decide_eq_false hc]
      rfl
@[go_sem] theorem aaD (w:ai) (q0:bW w) (t:bS Rz):aU 27 [.agg (fm (some true) w)] t=feed t [.bool (mJ w)]:=by
  exact bR (r:=.bool (mJ w)) (s:=.bool) (ss:=[.undef]) (I8 w q0) (by kernel_rfl) (by simp only [av,bE,aY,bF,bG,ah,ak,Bool.and_self]) (by simp only [ah,aM,av,ak,Bool.and_self]) (by first | rfl | simp only [au,aW,aV,bB,bC,aX,bD,Bool.and_self]) (by first | rfl | simp only [List.all_cons,List.all_nil,au,Bool.and_self]) t
end Go.Proofs.YtockoilcnmljiaaGreat
namespace Go.Proofs.YtockoilcnmljiaaGreat
set_option maxRecDepth 100000
def fB (w:ai) (n:Int):List Int:=(iP w.log w.log.length n).reverse
theorem Di (w:ai) (n:Int) (h:n≤w.log.length):(fB w n).length≤w.log.length:=by
  have:=SS (log:=w.log) w.log.length n
  unfold fB
  rw [List.length_reverse]
  omega
theorem QZ (w:ai) (n:Int) (ok:bW w):Cm 89 [.agg (bn (some true) w),.int .i64 n] (sI none (fB w n),[.undef,.undef]):=Qt true w ok n
theorem Q0 (w:ai) (n:Int) (ok:bW w):Cm 87 [.agg (bn (some true) w),.int .i64 n] (sI none (fB w n),[.undef,.undef]):=Qs true w ok n
@[go_sem] theorem afN (w:ai) (n:Int) (q0:bW w) (t:bS Rz):aU 89 [.agg (fm (some true) w),.int .i64 n] t=feed t [enc .I (fB w n)]:=by
  exact bR (r:=enc .I (fB w n)) (s:=.ty .I) (ss:=[.undef,.undef]) (QZ w n q0) (by kernel_rfl) (by simp only [av,bE,aY,bF,bG,ah,ak,Bool.and_self]) (by simp only [ah,aM,av,ak,Bool.and_self]) (by first | rfl | simp only [au,aW,aV,bB,bC,aX,bD,Bool.and_self]) (by first | rfl | simp only [List.all_cons,List.all_nil,au,Bool.and_self]) t
@[go_sem] theorem afO (w:ai) (n:Int) (q0:bW w) (t:bS Rz):aU 87 [.agg (fm (some true) w),.int .i64 n] t=feed t [enc .I (fB w n)]:=by
  exact bR (r:=enc .I (fB w n)) (s:=.ty .I) (ss:=[.undef,.undef]) (Q0 w n q0) (by kernel_rfl) (by simp only [av,bE,aY,bF,bG,ah,ak,Bool.and_self]) (by simp only [ah,aM,av,ak,Bool.and_self]) (by first | rfl | simp only [au,aW,aV,bB,bC,aX,bD,Bool.and_self]) (by first | rfl | simp only [List.all_cons,List.all_nil,au,Bool.and_self]) t
section
variable (g:Bool) (n:Nat) (c:List D)
@[go_sem] theorem an3:ad.aN 1 [.sl (some g) 1 n c] 0=true:=rfl
@[go_sem] theorem an4:ad.aH [.sl (some g) 1 n c] 0=g:=rfl
@[go_sem] theorem an5:ad.aC [.sl (some g) 1 n c] 0=n:=rfl
@[go_sem] theorem an6:ad.aE [.sl (some g) 1 n c] 0=c:=rfl
end
theorem L9 {α:Type} {e:α→List D} {k:Nat} (h:∀ x,(e x).length=k):∀ (xs:List α) (n:Nat),List.take (Nat.mul n k) (U e xs)=U e (xs.take n)
  | [],n=>by simp [U]
  | x::xs,0=>by show List.take (0*k) _=_; simp [U]
  | x::xs,n+1=>by
    have e1:U e (x::xs)=e x++U e xs:=by simp [U]
    have e2:U e ((x::xs).take (n+1))=e x++U e (xs.take n):=by simp [U]
    rw [e1,e2,List.take_append]
    have e3:Nat.mul (n+1) k=n*k+k:=Nat.succ_mul n k
    rw [e3,h x,List.take_of_length_le (by rw [h x]; omega),show n*k+k - k=Nat.mul n k by show _=n*k; omega,L9 h xs n]
@[go_sem] theorem takeN (g:Option Bool) (xs:List ae) (n:Nat):List.take (Nat.mul n 16) (U (ab g) xs)=U (ab g) (xs.take n):=L9 (e:=ab g) (fun _=>rfl) xs n
attribute [go_sem] List.drop_zero
@[go_sem] theorem getD_take {α:Type} {xs:List α} {m i:Nat} {d:α} (h:i < m):(xs.take m).getD i d=xs.getD i d:=by
  rw [List.getD_eq_getElem?_getD,List.getD_eq_getElem?_getD,List.getElem?_take_of_lt h]
section
variable (pr:dr) (cv:Cv Rz) (J:Nat→St→Option Rz)
def eW (g:Bool) (xs:List Int) (c0:List D) (n1:Nat) (i2:Int) (i3:Int):St:=(St.mk [(0,(sI (some g) xs)),(1,(.fn 129 [(.cr c0 n1)])),(7,(.int .i64 i2)),(8,(.int .i64 i3))] [] [] 0)
theorem qU:Told cfg Tryz.prog 150 Tryz.f150:=⟨by kernel_rfl,Tryz.func150,by kernel_rfl⟩
theorem qV (u0:List D) (v0:Nat) (g:Bool) (xs:List Int):aR pr cv J 150 Tryz.f150 [(sI (some g) xs),(.fn 129 [(.cr u0 v0)])]=
    (J 0 (eW g xs u0 v0 (pr.aS xs.length) 0)):=by kernel_rfl
theorem jz (g:Bool) (xs:List Int) (c0:List D) (n1:Nat) (i2:Int) (i3:Int):bJ pr cv J 150 Tryz.f150 [.undef,.undef] 0 (eW g xs c0 n1 i2 i3)=
    (br (pr.lt i3 i2) (br (pr.bg i3 xs.length) (br (br (pr.bO .i64 (ints xs) (pr.idx 0 i3 1)) true false) (cv 129 [(.int .i64 (pr.aO (ints xs) (pr.idx 0 i3 1))),(.cr c0 n1)] (.bool (fun bK=>(.done (br bK (some ((.int .i64 i3),[.undef,.undef])) (J 0 (eW g xs c0 n1 i2 (pr.ar .add .i64 i3 1)))))))) none) none) (some ((.int .i64 (-1)),[.undef,.undef]))):=by kernel_rfl
theorem pA:Told cfg Tryz.prog 124 Tryz.f124:=⟨by kernel_rfl,Tryz.func124,by kernel_rfl⟩
theorem pB (u0:List D) (v0:Nat) (g:Bool) (xs:List Int):aR pr cv J 124 Tryz.f124 [(sI (some g) xs),(.fn 129 [(.cr u0 v0)])]=
    (cv 150 [(sI (some g) xs),(.fn 129 [(.cr u0 v0)])] (.int (fun dA=>(.done (some ((.bool (pr.le 0 dA)),[.undef,.undef])))))):=by kernel_rfl
end
theorem NO (u0:List D) (v0:Nat) (g:Bool) (xs:List Int) (p:Int→Bool) (hb:xs.length < 4611686018427387904) (hc:∀ i,i < xs.length→∀ t:bS Rz,aU 129 [.int .i64 (xs.getD i 0),.cr u0 v0] t=feed t [.bool (p (xs.getD i 0))]):Cm 150 [.sl (some g) 1 xs.length (ints xs),.fn 129 [.cr u0 v0]] (.int .i64 (tk p xs),[.undef,.undef]):=by
  refine Cm.step qU [.undef,.undef] fun J hJ=>?_
  rw [qV]
  refine hJ _ _ ?_
  refine Gr (d:=0) (H:=fun i=>eW g xs u0 v0 xs.length (i:Nat)) (fun i hi J=>?_) (fun J=>?_)
  · rw [jz]
    simp (disch:=first | assumption | omega) only [go_sem,hc i hi]
    cases p (xs.getD i 0) with
    | true=>rfl
    | false=>
      simp (disch:=first | assumption | omega) only [go_sem]
      rfl
  · rw [jz]
    simp (disch:=first | assumption | omega) only [go_sem]
theorem Gx (u0:List D) (v0:Nat) (g:Bool) (xs:List Int) (p:Int→Bool) (hb:xs.length < 4611686018427387904) (hc:∀ i,i < xs.length→∀ t:bS Rz,aU 129 [.int .i64 (xs.getD i 0),.cr u0 v0] t=feed t [.bool (p (xs.getD i 0))]):Cm 124 [.sl (some g) 1 xs.length (ints xs),.fn 129 [.cr u0 v0]] (.bool (xs.any p),[.undef,.undef]):=by
  refine Cm.step pA [.undef,.undef] fun J hJ=>?_
  rw [pB]
  have:=bh (NO u0 v0 g xs p hb hc) (by kernel_rfl)
  rw [this]
  show some ((.bool (decide (0≤tk p xs)),[.undef,.undef]):Rz)=_
  rw [KT]
section
variable (pr:dr) (cv:Cv Rz) (J:Nat→St→Option Rz)
theorem I9:Told cfg Tryz.prog 129 Tryz.f129:=⟨by kernel_rfl,Tryz.func129,by kernel_rfl⟩
theorem Ja (ys:List Int) (g:Bool) (a:Int):aR pr cv J 129 Tryz.f129 [(.int .i64 a),(.cr [(sI (some g) ys)] 0)]=
    (br (br (pr.aN 1 [(sI (some g) ys)] 0) true false) (cv 86 [(.sl (some (pr.aH [(sI (some g) ys)] 0)) 1 (pr.aC [(sI (some g) ys)] 0) (pr.aE [(sI (some g) ys)] 0)),(.int .i64 a)] (.bool (fun bK=>(.done (some ((.bool (br bK false true)),[.undef,.undef])))))) none):=by kernel_rfl
theorem NP:Told cfg Tryz.prog 88 Tryz.f88:=⟨by kernel_rfl,Tryz.func88,by kernel_rfl⟩
theorem NQ (x0:List Int) (x1:List Int):aR pr cv J 88 Tryz.f88 [(sI (some true) x0),(sI (some true) x1)]=
    (cv 124 [(sI (some true) x0),(.fn 129 [(.cr [(sI (some true) x1)] 0)])] (.bool (fun bK=>(.done (some ((.bool (br bK false true)),[.undef,.undef])))))):=by kernel_rfl
def iS (x0:ai) (n0:Nat) (c1:List D) (i2:Int) (i3:Int):St:=(St.mk [(1,(.ptr 1 [] 0)),(11,(.sl (some true) 16 n0 c1)),(12,(.int .i64 i2)),(13,(.int .i64 i3))] [(1,[(.sl (some true) 16 x0.nodes.length (U (ab (some true)) x0.nodes)),(.sl (some true) 3 x0.ay.length (U (aw (some true)) x0.ay)),(.sl (some true) 2 x0.log.length (U (aK (some true)) x0.log)),(sI (some true) x0.safe),(.int .i64 x0.gen)])] [] 0)
theorem Gy:Told cfg Tryz.prog 32 Tryz.f32:=⟨by kernel_rfl,Tryz.func32,by kernel_rfl⟩
theorem Gz (x0:ai):aR pr cv J 32 Tryz.f32 [(.agg (bn (some true) x0))]=
    (cv 23 [(.agg [(.sl (some true) 16 x0.nodes.length (U (ab (some true)) x0.nodes)),(.sl (some true) 3 x0.ay.length (U (aw (some true)) x0.ay)),(.sl (some true) 2 x0.log.length (U (aK (some true)) x0.log)),(sI (some true) x0.safe),(.int .i64 x0.gen)])] (.bool (fun bK=>(.done (br (br bK false true) (some ((.bool false),[.undef])) (br (pr.wa 0 2 x0.nodes.length) (J 0 (iS x0 (pr.nK 2 0) (List.take (Nat.mul (pr.nK 2 0) 16) (List.drop (Nat.mul (pr.hZ 0) 16) (U (ab (some true)) x0.nodes))) (pr.aS (pr.nK 2 0)) 0)) none)))))):=by kernel_rfl
theorem Bc (x0:ai) (n0:Nat) (c1:List D) (i2:Int) (i3:Int):bJ pr cv J 32 Tryz.f32 [.undef] 0 (iS x0 n0 c1 i2 i3)=
    let y1:Option Rz:=(J 0 (iS x0 n0 c1 i2 (pr.ar .add .i64 i3 1)))
    let y2:Option Rz:=(cv 89 [(.agg [(.sl (some true) 16 x0.nodes.length (U (ab (some true)) x0.nodes)),(.sl (some true) 3 x0.ay.length (U (aw (some true)) x0.ay)),(.sl (some true) 2 x0.log.length (U (aK (some true)) x0.log)),(sI (some true) x0.safe),(.int .i64 x0.gen)]),(.int .i64 (pr.aO c1 ((pr.idx 0 i3 16)+9)))] (.ty eO.I (fun (aL:List Int)=>(.done (cv 88 [(sI (some true) x0.safe),(dN true (sI none aL))] (.bool (fun eQ=>(.done (br (br eQ false true) (some ((.bool false),[.undef])) y1)))))))))
    (br (pr.lt i3 i2) (br (pr.bg i3 n0) (br (br (pr.bO .i64 c1 (pr.idx 0 i3 16)) (br (pr.cd c1 ((pr.idx 0 i3 16)+1)) (br (pr.cd c1 ((pr.idx 0 i3 16)+2)) (br (pr.aN 1 c1 ((pr.idx 0 i3 16)+3)) (br (pr.aN 1 c1 ((pr.idx 0 i3 16)+4)) (br (pr.aN 1 c1 ((pr.idx 0 i3 16)+5)) (br (pr.cd c1 ((pr.idx 0 i3 16)+6)) (br (pr.cd c1 ((pr.idx 0 i3 16)+7)) (br (pr.cd c1 ((pr.idx 0 i3 16)+8)) (br (pr.bO .i64 c1 ((pr.idx 0 i3 16)+9)) (br (pr.aN 1 c1 ((pr.idx 0 i3 16)+10)) (br (pr.aN 1 c1 ((pr.idx 0 i3 16)+11)) (br (pr.aN 1 c1 ((pr.idx 0 i3 16)+12)) (br (pr.aN 1 c1 ((pr.idx 0 i3 16)+13)) (br (pr.aN 1 c1 ((pr.idx 0 i3 16)+14)) (br (pr.aN 1 c1 ((pr.idx 0 i3 16)+15)) true false) false) false) false) false) false) false) false) false) false) false) false) false) false) false) false) (br (pr.bw c1 ((pr.idx 0 i3 16)+2)) y2 (br (pr.bw c1 ((pr.idx 0 i3 16)+6)) (br (br (pr.bw c1 ((pr.idx 0 i3 16)+7)) false true) (br (pr.bw c1 ((pr.idx 0 i3 16)+8)) y2 y1) y1) y1)) none) none) (some ((.bool true),[.undef]))):=by kernel_rfl
def gH (x0:ai) (i0:Int):St:=(St.mk [(1,(.ptr 1 [] 0)),(3,(.int .i64 i0))] [(1,[(.sl (some true) 16 x0.nodes.length (U (ab (some true)) x0.nodes)),(.sl (some true) 3 x0.ay.length (U (aw (some true)) x0.ay)),(.sl (some true) 2 x0.log.length (U (aK (some true)) x0.log)),(sI (some true) x0.safe),(.int .i64 x0.gen)])] [] 0)
def iT (x0:ai) (i0:Int) (i1:Int) (n2:Nat) (c3:List D):St:=(St.mk [(1,(.ptr 1 [] 0)),(3,(.int .i64 i0)),(5,(.ref 10005 [] 0 none)),(6,(.int .i64 i1))] [(1,[(.sl (some true) 16 x0.nodes.length (U (ab (some true)) x0.nodes)),(.sl (some true) 3 x0.ay.length (U (aw (some true)) x0.ay)),(.sl (some true) 2 x0.log.length (U (aK (some true)) x0.log)),(sI (some true) x0.safe),(.int .i64 x0.gen)]),(10005,[(.sl none 1 n2 c3)])] [] 0)
theorem GA:Told cfg Tryz.prog 31 Tryz.f31:=⟨by kernel_rfl,Tryz.func31,by kernel_rfl⟩
theorem GB (x0:ai):aR pr cv J 31 Tryz.f31 [(.agg (bn (some true) x0))]=
    (cv 21 [(.agg [(.sl (some true) 16 x0.nodes.length (U (ab (some true)) x0.nodes)),(.sl (some true) 3 x0.ay.length (U (aw (some true)) x0.ay)),(.sl (some true) 2 x0.log.length (U (aK (some true)) x0.log)),(sI (some true) x0.safe),(.int .i64 x0.gen)])] (.bool (fun bK=>(.done (br (br bK false true) (some ((.bool false),[.undef])) (J 0 (gH x0 0))))))):=by kernel_rfl
theorem Bd (x0:ai) (i0:Int):bJ pr cv J 31 Tryz.f31 [.undef] 0 (gH x0 i0)=
    let y1:Option Rz:=(J 0 (gH x0 (pr.ar .add .i64 i0 1)))
    let y2:Option Rz:=(cv 87 [(.agg [(.sl (some true) 16 x0.nodes.length (U (ab (some true)) x0.nodes)),(.sl (some true) 3 x0.ay.length (U (aw (some true)) x0.ay)),(.sl (some true) 2 x0.log.length (U (aK (some true)) x0.log)),(sI (some true) x0.safe),(.int .i64 x0.gen)]),(.int .i64 (pr.aO (U (ab (some true)) x0.nodes) ((pr.idx 0 i0 16)+9)))] (.ty eO.I (fun (aL:List Int)=>(.done (J 2 (iT x0 i0 0 aL.length (ints aL)))))))
    (br (pr.lt i0 2) (br (pr.bg i0 x0.nodes.length) (br (br (pr.bO .i64 (U (ab (some true)) x0.nodes) (pr.idx 0 i0 16)) (br (pr.cd (U (ab (some true)) x0.nodes) ((pr.idx 0 i0 16)+1)) (br (pr.cd (U (ab (some true)) x0.nodes) ((pr.idx 0 i0 16)+2)) (br (pr.aN 1 (U (ab (some true)) x0.nodes) ((pr.idx 0 i0 16)+3)) (br (pr.aN 1 (U (ab (some true)) x0.nodes) ((pr.idx 0 i0 16)+4)) (br (pr.aN 1 (U (ab (some true)) x0.nodes) ((pr.idx 0 i0 16)+5)) (br (pr.cd (U (ab (some true)) x0.nodes) ((pr.idx 0 i0 16)+6)) (br (pr.cd (U (ab (some true)) x0.nodes) ((pr.idx 0 i0 16)+7)) (br (pr.cd (U (ab (some true)) x0.nodes) ((pr.idx 0 i0 16)+8)) (br (pr.bO .i64 (U (ab (some true)) x0.nodes) ((pr.idx 0 i0 16)+9)) (br (pr.aN 1 (U (ab (some true)) x0.nodes) ((pr.idx 0 i0 16)+10)) (br (pr.aN 1 (U (ab (some true)) x0.nodes) ((pr.idx 0 i0 16)+11)) (br (pr.aN 1 (U (ab (some true)) x0.nodes) ((pr.idx 0 i0 16)+12)) (br (pr.aN 1 (U (ab (some true)) x0.nodes) ((pr.idx 0 i0 16)+13)) (br (pr.aN 1 (U (ab (some true)) x0.nodes) ((pr.idx 0 i0 16)+14)) (br (pr.aN 1 (U (ab (some true)) x0.nodes) ((pr.idx 0 i0 16)+15)) true false) false) false) false) false) false) false) false) false) false) false) false) false) false) false) false) (br (br (pr.bw (U (ab (some true)) x0.nodes) ((pr.idx 0 i0 16)+2)) false true) (br (pr.bw (U (ab (some true)) x0.nodes) ((pr.idx 0 i0 16)+6)) (br (br (pr.bw (U (ab (some true)) x0.nodes) ((pr.idx 0 i0 16)+7)) false true) (br (br (pr.bw (U (ab (some true)) x0.nodes) ((pr.idx 0 i0 16)+8)) false true) y1 y2) y1) y1) y2) none) none) (some ((.bool true),[.undef]))):=by kernel_rfl
theorem Be (x0:ai) (i0:Int) (i1:Int) (n2:Nat) (c3:List D):bJ pr cv J 31 Tryz.f31 [.undef] 2 (iT x0 i0 i1 n2 c3)=
    (br (pr.lt i1 (pr.aS x0.safe.length)) (br (pr.bg i1 x0.safe.length) (br (br (pr.bO .i64 (ints x0.safe) (pr.idx 0 i1 1)) true false) (cv 84 [(.sl (some true) 1 n2 (ba true c3)),(.int .i64 (pr.aO (ints x0.safe) (pr.idx 0 i1 1)))] (.bool (fun bK=>(.done (br (br bK false true) (some ((.bool false),[.undef])) (J 2 (iT x0 i0 (pr.ar .add .i64 i1 1) n2 c3))))))) none) none) (J 0 (gH x0 (pr.ar .add .i64 i0 1)))):=by kernel_rfl
end
theorem Jb (ys:List Int) (a:Int) (h:ys.length < 4611686018427387904):Cm 129 [.int .i64 a,.cr [sI (some true) ys] 0] (.bool (!decide (a∈ys)),[.undef,.undef]):=by
  refine Cm.step I9 [.undef,.undef] fun J hJ=>?_
  rw [Ja]
  simp (disch:=first | assumption | omega) only [go_sem]
  cases decide (a∈ys)<;>rfl
@[go_sem] theorem Zu (ys:List Int) (g:Bool) (m n:Nat) (xs:List Int) (hn:n=xs.length) (hm:m=ys.length) (hb:xs.length < 4611686018427387904) (h:ys.length < 4611686018427387904) (t:bS Rz):aU 124 [.sl (some g) 1 n (ints xs),.fn 129 [.cr [.sl (some true) 1 m (ints ys)] 0]] t=feed t [.bool (xs.any fun a=>!decide (a∈ys))]:=by
  subst hn
  subst hm
  exact bh (Gx _ _ g xs _ hb fun i hi t=>bh (Jb ys _ h) (by kernel_rfl) t) (by kernel_rfl) t
def tn (xs ys:List Int):Bool:=xs.all fun a=>decide (a∈ys)
theorem vg {xs ys:List Int}:tn xs ys=true↔∀ x∈xs,x∈ys:=by simp [tn]
theorem NR (xs:List Int) (ys:List Int) (q0:xs.length < 4611686018427387904) (q1:ys.length < 4611686018427387904):Cm 88 [sI (some true) xs,sI (some true) ys] (.bool (tn xs ys),[.undef,.undef]):=by
  refine Cm.step NP [.undef,.undef] fun J hJ=>?_
  rw [NQ]
  simp (disch:=first | assumption | omega) only [go_sem]
  rw [show tn xs ys=!(xs.any fun a=>!decide (a∈ys)) by simp [tn,List.all_eq_not_any_not]]
  cases xs.any fun a=>!decide (a∈ys)<;>rfl
@[go_sem] theorem ada (L5:Nat) (xs:List Int) (ys0:Nat) (ys:List Int) (e0:L5=xs.length) (e1:ys0=ys.length) (q0:xs.length < 4611686018427387904) (q1:ys.length < 4611686018427387904) (t:bS Rz):aU 88 [.sl (some true) 1 L5 (ints xs),.sl (some true) 1 ys0 (ints ys)] t=feed t [.bool (tn xs ys)]:=by
  subst e0
  subst e1
  exact bR (r:=.bool (tn xs ys)) (s:=.bool) (ss:=[.undef,.undef]) (NR xs ys q0 q1) (by kernel_rfl) (by simp only [av,bE,aY,bF,bG,ah,ak,Bool.and_self]) (by simp only [ah,aM,av,ak,Bool.and_self]) (by first | rfl | simp only [au,aW,aV,bB,bC,aX,bD,Bool.and_self]) (by first | rfl | simp only [List.all_cons,List.all_nil,au,Bool.and_self]) t
def ir (n:ae):Bool:=n.cU||(n.mt.dq&&(!n.mt.cg&&n.mt.held))
section
variable {n:ae}
theorem ld1 (hp:n.cU=true):ir n=true:=by simp [ir,hp]
theorem ld2 (hf:n.mt.dq=true) (ho:¬n.mt.cg=true) (hh:n.mt.held=true):ir n=true:=by simp [ir,hf,ho,hh]
theorem ln1 (hp:¬n.cU=true) (ho:n.mt.cg=true):¬ir n=true:=by simp [ir,hp,ho]
theorem ln2 (hp:¬n.cU=true) (hh:¬n.mt.held=true):¬ir n=true:=by simp [ir,hp,hh]
theorem ln3 (hp:¬n.cU=true) (hf:¬n.mt.dq=true):¬ir n=true:=by simp [ir,hp,hf]
end
def Q1 (w:ai) (i:Nat):Prop:=ir (w.nodes.getD i n0)=true→∀ x∈w.safe,x∈fB w (w.nodes.getD i n0).mt.last
structure Oi (w:ai):Prop where
  ok:x8 w
  all:∀ i,i < 2→Q1 w i
noncomputable def lC (w:ai):Bool:=oT (Oi w)
theorem GC (w:ai) (q0:bW w):Cm 32 [.agg (bn (some true) w)] (.bool (lC w),[.undef]):=by
  unfold lC
  have b3:=q0.log
  have b4:=q0.safe
  refine Cm.step Gy [.undef] fun J hJ=>?_
  rw [Gz]
  try simp (disch:=first | assumption | omega) only [go_sem]
  refine gF (fun h=>?_) (fun h=>eH fun o=>w5 h o.ok)
  have o:=pT h
  have nl:=o.ns.len
  have tl:(w.nodes.take 2).length=2:=by rw [List.length_take]; omega
  try simp (disch:=first | assumption | omega) only [go_sem]
  refine hJ _ _ ?_
  refine WP.up (H:=fun i:Nat=>iS w 2 (U (ab (some true)) (w.nodes.take 2)) 2 (i:Int)) 2 (fun i=>∀ a,a < i→Q1 w a) (fun i hi inv J hJ next=>?_) 0 (by omega) (fun a h=>absurd h (by omega))
  rw [Bc]
  try simp (disch:=first | assumption | omega) only [go_sem]
  refine bq (fun hl=>?_) (fun hl=>As ⟨o,fun a ha=>inv a (by omega)⟩)
  have nx:=(o.ns.nd i (by omega)).last
  have cl:=Di w (w.nodes.getD i n0).mt.last (by omega)
  try simp (disch:=first | assumption | omega) only [go_sem]
  have vh:Q1 w i→J 0 (iS w 2 (U (ab (some true)) (List.take 2 w.nodes)) 2 ((i:Int)+1))=some (.bool (oT (Oi w)),[.undef]):=fun h=>next (by omega) (dk inv h)
  refine gF (fun hp=>?_) (fun hp=>?_)
  · have le:ir (w.nodes.getD i n0)=true:=ld1 hp
    try simp (disch:=first | assumption | omega) only [go_sem]
    refine gF (fun ha=>?_) (fun ha=>eH fun o=>ha (vg.2 (o.all i (by omega) le)))
    try simp (disch:=first | assumption | omega) only [go_sem]
    exact vh fun _=>vg.1 ha
  · try simp (disch:=first | assumption | omega) only [go_sem]
    refine gF (fun hf=>?_) (fun hf=>?_)
    · try simp (disch:=first | assumption | omega) only [go_sem]
      refine gF (fun ho=>?_) (fun ho=>?_)
      · have le:¬ir (w.nodes.getD i n0)=true:=ln1 hp ho
        try simp (disch:=first | assumption | omega) only [go_sem]
        exact vh fun h=>absurd h le
      · try simp (disch:=first | assumption | omega) only [go_sem]
        refine gF (fun hh=>?_) (fun hh=>?_)
        · have le:ir (w.nodes.getD i n0)=true:=ld2 hf ho hh
          try simp (disch:=first | assumption | omega) only [go_sem]
          refine gF (fun ha=>?_) (fun ha=>eH fun o=>ha (vg.2 (o.all i (by omega) le)))
          try simp (disch:=first | assumption | omega) only [go_sem]
          exact vh fun _=>vg.1 ha
        · have le:¬ir (w.nodes.getD i n0)=true:=ln2 hp hh
          try simp (disch:=first | assumption | omega) only [go_sem]
          exact vh fun h=>absurd h le
    · have le:¬ir (w.nodes.getD i n0)=true:=ln3 hp hf
      try simp (disch:=first | assumption | omega) only [go_sem]
      exact vh fun h=>absurd h le
@[go_sem] theorem Zv (w:ai) (q0:bW w) (t:bS Rz):aU 32 [.agg (fm (some true) w)] t=feed t [.bool (lC w)]:=by
  exact bR (r:=.bool (lC w)) (s:=.bool) (ss:=[.undef]) (GC w q0) (by kernel_rfl) (by simp only [av,bE,aY,bF,bG,ah,ak,Bool.and_self]) (by simp only [ah,aM,av,ak,Bool.and_self]) (by first | rfl | simp only [au,aW,aV,bB,bC,aX,bD,Bool.and_self]) (by first | rfl | simp only [List.all_cons,List.all_nil,au,Bool.and_self]) t
theorem GD (w:ai) (q0:bW w):Cm 31 [.agg (bn (some true) w)] (.bool (lC w),[.undef]):=by
  unfold lC
  have b3:=q0.log
  have b4:=q0.safe
  refine Cm.step GA [.undef] fun J hJ=>?_
  rw [GB]
  try simp (disch:=first | assumption | omega) only [go_sem]
  refine gF (fun h=>?_) (fun h=>eH fun o=>w5 h o.ok)
  have o:=pT h
  have nl:=o.ns.len
  try simp (disch:=first | assumption | omega) only [go_sem]
  refine hJ _ _ ?_
  refine WP.L6 (H:=fun i:Nat=>gH w (i:Int)) 2 (fun i=>∀ a,a < i→Q1 w a) (fun i hi inv next=>?_) 0 (by omega) (fun a h=>absurd h (by omega))
  refine WP.step fun J hJ=>?_
  rw [Bd]
  try simp (disch:=first | assumption | omega) only [go_sem]
  refine bq (fun hl=>?_) (fun hl=>As ⟨o,fun a ha=>inv a (by omega)⟩)
  have nx:=(o.ns.nd i (by omega)).last
  have cl:=Di w (w.nodes.getD i n0).mt.last (by omega)
  have vh:Q1 w i→J 0 (gH w ((i:Int)+1))=some (.bool (oT (Oi w)),[.undef]):=fun h=>hJ _ _ (next (by omega) (dk inv h))
  have inner:ir (w.nodes.getD i n0)=true→WP 31 Tryz.f31 [.undef] 2 (iT w i ((0:Nat):Int) (fB w (w.nodes.getD i n0).mt.last).length (ints (fB w (w.nodes.getD i n0).mt.last))) (.bool (oT (Oi w)),[.undef]):=by
    intro le
    refine WP.up (H:=fun k:Nat=>iT w i (k:Int) (fB w (w.nodes.getD i n0).mt.last).length (ints (fB w (w.nodes.getD i n0).mt.last))) w.safe.length (fun k=>∀ b,b < k→w.safe.getD b 0∈fB w (w.nodes.getD i n0).mt.last) (fun k hk inv2 J hJ p9=>?_) 0 (by omega) (fun a h=>absurd h (by omega))
    rw [Be]
    try simp (disch:=first | assumption | omega) only [go_sem]
    refine bq (fun yw=>?_) (fun yw=>?_)
    · try simp (disch:=first | assumption | omega) only [go_sem]
      refine bq (fun hm=>?_) (fun hm=>eH fun o=>hm (o.all i (by omega) le _ (o8 (by omega))))
      try simp (disch:=first | assumption | omega) only [go_sem]
      exact p9 (by omega) (dk inv2 hm)
    · try simp (disch:=first | assumption | omega) only [go_sem]
      refine hJ _ _ (next (by omega) (dk inv fun _ x hx=>?_))
      obtain ⟨b,hb,rfl⟩:=List.getElem_of_mem hx
      rw [← dV (d:=0) hb]
      exact inv2 b (by omega)
  try simp (disch:=first | assumption | omega) only [go_sem]
  refine gF (fun hp=>?_) (fun hp=>?_)
  · have le:ir (w.nodes.getD i n0)=true:=ld1 hp
    try simp (disch:=first | assumption | omega) only [go_sem]
    exact hJ _ _ (inner le)
  · try simp (disch:=first | assumption | omega) only [go_sem]
    refine gF (fun hf=>?_) (fun hf=>?_)
    · try simp (disch:=first | assumption | omega) only [go_sem]
      refine gF (fun ho=>?_) (fun ho=>?_)
      · have le:¬ir (w.nodes.getD i n0)=true:=ln1 hp ho
        try simp (disch:=first | assumption | omega) only [go_sem]
        exact vh fun h=>absurd h le
      · try simp (disch:=first | assumption | omega) only [go_sem]
        refine gF (fun hh=>?_) (fun hh=>?_)
        · have le:ir (w.nodes.getD i n0)=true:=ld2 hf ho hh
          try simp (disch:=first | assumption | omega) only [go_sem]
          exact hJ _ _ (inner le)
        · have le:¬ir (w.nodes.getD i n0)=true:=ln2 hp hh
          try simp (disch:=first | assumption | omega) only [go_sem]
          exact vh fun h=>absurd h le
    · have le:¬ir (w.nodes.getD i n0)=true:=ln3 hp hf
      try simp (disch:=first | assumption | omega) only [go_sem]
      exact vh fun h=>absurd h le
@[go_sem] theorem Zw (w:ai) (q0:bW w) (t:bS Rz):aU 31 [.agg (fm (some true) w)] t=feed t [.bool (lC w)]:=by
  exact bR (r:=.bool (lC w)) (s:=.bool) (ss:=[.undef]) (GD w q0) (by kernel_rfl) (by simp only [av,bE,aY,bF,bG,ah,ak,Bool.and_self]) (by simp only [ah,aM,av,ak,Bool.and_self]) (by first | rfl | simp only [au,aW,aV,bB,bC,aX,bD,Bool.and_self]) (by first | rfl | simp only [List.all_cons,List.all_nil,au,Bool.and_self]) t
end Go.Proofs.YtockoilcnmljiaaGreat
namespace Go.Proofs.YtockoilcnmljiaaGreat
set_option maxRecDepth 100000
theorem S9 {log:List fg} {x:Int}:∀ (f:Nat) (n:Int),x∈iP log f n→1≤x∧x≤log.length
  | 0,_,h=>by simp [iP] at h
  | f+1,n,h=>by
    rw [iP] at h
    split at h
    · rename_i hn
      rw [List.mem_cons] at h
      rcases h with rfl | h
      · exact hn
      · split at h
        · exact S9 f _ h
        · simp at h
    · simp at h
theorem W9 {w:ai} {n x:Int} (h:x∈fB w n):1≤x∧x≤w.log.length:=S9 _ _ (List.mem_reverse.1 h)
theorem Q2 (w:ai) (n:Int):(fB w n).length≤w.log.length:=by
  by_cases h:n≤w.log.length
  · exact Di w n h
  · unfold fB
    rw [kG (by omega)]
    simp
theorem Q3 {w:ai} (ok:bW w) (n:Int):nL (fB w n):=fun x hx=>by
  have:=W9 hx
  have:=ok.log
  rw [Af]
  omega
def jj (w:ai) (l:List Int):List Int:=rpl w.log l
theorem vj (w:ai) (l:List Int):(jj w l).length=8:=by
  unfold jj rpl
  rw [ve]
  simp
theorem NS (w:ai) (l:List Int) (ok:bW w) (hl:l.length≤17592186044416) (h:nL l):Cm 95 [.agg (bn (some true) w),sI (some true) l] (sI none (jj w l),[.undef,.undef]):=by
  show Cm _ _ (.sl none 1 (jj w l).length _,_)
  rw [vj]
  exact MR true true w ok l hl h
theorem NT (w:ai) (l:List Int) (ok:bW w) (hl:l.length≤17592186044416) (h:nL l):Cm 91 [.agg (bn (some true) w),sI (some true) l] (sI none (jj w l),[.undef,.undef]):=by
  show Cm _ _ (.sl none 1 (jj w l).length _,_)
  rw [vj]
  exact MQ true true w ok l hl h
@[go_sem] theorem adb (w:ai) (l0:Nat) (l:List Int) (e0:l0=l.length) (q0:bW w) (q1:l.length≤17592186044416) (q2:nL l) (t:bS Rz):aU 95 [.agg (fm (some true) w),.sl (some true) 1 l0 (ints l)] t=feed t [enc .I (jj w l)]:=by
  subst e0
  exact bR (r:=enc .I (jj w l)) (s:=.ty .I) (ss:=[.undef,.undef]) (NS w l q0 q1 q2) (by kernel_rfl) (by simp only [av,bE,aY,bF,bG,ah,ak,Bool.and_self]) (by simp only [ah,aM,av,ak,Bool.and_self]) (by first | rfl | simp only [au,aW,aV,bB,bC,aX,bD,Bool.and_self]) (by first | rfl | simp only [List.all_cons,List.all_nil,au,Bool.and_self]) t
@[go_sem] theorem ade (w:ai) (l0:Nat) (l:List Int) (e0:l0=l.length) (q0:bW w) (q1:l.length≤17592186044416) (q2:nL l) (t:bS Rz):aU 91 [.agg (fm (some true) w),.sl (some true) 1 l0 (ints l)] t=feed t [enc .I (jj w l)]:=by
  subst e0
  exact bR (r:=enc .I (jj w l)) (s:=.ty .I) (ss:=[.undef,.undef]) (NT w l q0 q1 q2) (by kernel_rfl) (by simp only [av,bE,aY,bF,bG,ah,ak,Bool.and_self]) (by simp only [ah,aM,av,ak,Bool.and_self]) (by first | rfl | simp only [au,aW,aV,bB,bC,aX,bD,Bool.and_self]) (by first | rfl | simp only [List.all_cons,List.all_nil,au,Bool.and_self]) t
section
variable (g:Bool) (w:ai)
@[go_sem] theorem anl:ad.aN 16 (bn (some g) w) 0=true:=rfl
@[go_sem] theorem anm:ad.aH (bn (some g) w) 0=g:=rfl
@[go_sem] theorem ann:ad.aC (bn (some g) w) 0=w.nodes.length:=rfl
@[go_sem] theorem ano:ad.aE (bn (some g) w) 0=U (ab (some g)) w.nodes:=rfl
@[go_sem] theorem anp:ad.aN 3 (bn (some g) w) 1=true:=rfl
@[go_sem] theorem anq:ad.aH (bn (some g) w) 1=g:=rfl
@[go_sem] theorem anr:ad.aC (bn (some g) w) 1=w.ay.length:=rfl
@[go_sem] theorem ans:ad.aE (bn (some g) w) 1=U (aw (some g)) w.ay:=rfl
@[go_sem] theorem ant:ad.aN 2 (bn (some g) w) 2=true:=rfl
@[go_sem] theorem anu:ad.aH (bn (some g) w) 2=g:=rfl
@[go_sem] theorem anv:ad.aC (bn (some g) w) 2=w.log.length:=rfl
@[go_sem] theorem anw:ad.aE (bn (some g) w) 2=U (aK (some g)) w.log:=rfl
@[go_sem] theorem anx:ad.aN 1 (bn (some g) w) 3=true:=rfl
@[go_sem] theorem anz:ad.aH (bn (some g) w) 3=g:=rfl
@[go_sem] theorem anA:ad.aC (bn (some g) w) 3=w.safe.length:=rfl
@[go_sem] theorem anB:ad.aE (bn (some g) w) 3=ints w.safe:=rfl
@[go_sem] theorem anC:ad.bO .i64 (bn (some g) w) 4=true:=rfl
@[go_sem] theorem anD:ad.aO (bn (some g) w) 4=w.gen:=rfl
end
section
variable (pr:dr) (cv:Cv Rz) (J:Nat→St→Option Rz)
def dz (g:Bool) (xs:List ae) (c0:List D) (n1:Nat) (i2:Int) (i3:Int):St:=(St.mk [(0,(.sl (some g) 16 xs.length (U (ab (some g)) xs))),(1,(.fn 93 [(.cr c0 n1)])),(7,(.int .i64 i2)),(8,(.int .i64 i3))] [] [] 0)
theorem mD:Told cfg Tryz.prog 133 Tryz.f133:=⟨by kernel_rfl,Tryz.func133,by kernel_rfl⟩
theorem mE (u0:List D) (v0:Nat) (g:Bool) (xs:List ae):aR pr cv J 133 Tryz.f133 [(.sl (some g) 16 xs.length (U (ab (some g)) xs)),(.fn 93 [(.cr u0 v0)])]=
    (J 0 (dz g xs u0 v0 (pr.aS xs.length) 0)):=by kernel_rfl
theorem gb (g:Bool) (xs:List ae) (c0:List D) (n1:Nat) (i2:Int) (i3:Int):bJ pr cv J 133 Tryz.f133 [.undef,.undef] 0 (dz g xs c0 n1 i2 i3)=
    (br (pr.lt i3 i2) (br (pr.bg i3 xs.length) (br (br (pr.bO .i64 (U (ab (some g)) xs) (pr.idx 0 i3 16)) (br (pr.cd (U (ab (some g)) xs) ((pr.idx 0 i3 16)+1)) (br (pr.cd (U (ab (some g)) xs) ((pr.idx 0 i3 16)+2)) (br (pr.aN 1 (U (ab (some g)) xs) ((pr.idx 0 i3 16)+3)) (br (pr.aN 1 (U (ab (some g)) xs) ((pr.idx 0 i3 16)+4)) (br (pr.aN 1 (U (ab (some g)) xs) ((pr.idx 0 i3 16)+5)) (br (pr.cd (U (ab (some g)) xs) ((pr.idx 0 i3 16)+6)) (br (pr.cd (U (ab (some g)) xs) ((pr.idx 0 i3 16)+7)) (br (pr.cd (U (ab (some g)) xs) ((pr.idx 0 i3 16)+8)) (br (pr.bO .i64 (U (ab (some g)) xs) ((pr.idx 0 i3 16)+9)) (br (pr.aN 1 (U (ab (some g)) xs) ((pr.idx 0 i3 16)+10)) (br (pr.aN 1 (U (ab (some g)) xs) ((pr.idx 0 i3 16)+11)) (br (pr.aN 1 (U (ab (some g)) xs) ((pr.idx 0 i3 16)+12)) (br (pr.aN 1 (U (ab (some g)) xs) ((pr.idx 0 i3 16)+13)) (br (pr.aN 1 (U (ab (some g)) xs) ((pr.idx 0 i3 16)+14)) (br (pr.aN 1 (U (ab (some g)) xs) ((pr.idx 0 i3 16)+15)) true false) false) false) false) false) false) false) false) false) false) false) false) false) false) false) false) (cv 93 [(.agg [(.int .i64 (pr.aO (U (ab (some g)) xs) (pr.idx 0 i3 16))),(.bool (pr.bw (U (ab (some g)) xs) ((pr.idx 0 i3 16)+1))),(.bool (pr.bw (U (ab (some g)) xs) ((pr.idx 0 i3 16)+2))),(.sl (some (pr.aH (U (ab (some g)) xs) ((pr.idx 0 i3 16)+3))) 1 (pr.aC (U (ab (some g)) xs) ((pr.idx 0 i3 16)+3)) (pr.aE (U (ab (some g)) xs) ((pr.idx 0 i3 16)+3))),(.sl (some (pr.aH (U (ab (some g)) xs) ((pr.idx 0 i3 16)+4))) 1 (pr.aC (U (ab (some g)) xs) ((pr.idx 0 i3 16)+4)) (pr.aE (U (ab (some g)) xs) ((pr.idx 0 i3 16)+4))),(.sl (some (pr.aH (U (ab (some g)) xs) ((pr.idx 0 i3 16)+5))) 1 (pr.aC (U (ab (some g)) xs) ((pr.idx 0 i3 16)+5)) (pr.aE (U (ab (some g)) xs) ((pr.idx 0 i3 16)+5))),(.bool (pr.bw (U (ab (some g)) xs) ((pr.idx 0 i3 16)+6))),(.bool (pr.bw (U (ab (some g)) xs) ((pr.idx 0 i3 16)+7))),(.bool (pr.bw (U (ab (some g)) xs) ((pr.idx 0 i3 16)+8))),(.int .i64 (pr.aO (U (ab (some g)) xs) ((pr.idx 0 i3 16)+9))),(.sl (some (pr.aH (U (ab (some g)) xs) ((pr.idx 0 i3 16)+10))) 1 (pr.aC (U (ab (some g)) xs) ((pr.idx 0 i3 16)+10)) (pr.aE (U (ab (some g)) xs) ((pr.idx 0 i3 16)+10))),(.sl (some (pr.aH (U (ab (some g)) xs) ((pr.idx 0 i3 16)+11))) 1 (pr.aC (U (ab (some g)) xs) ((pr.idx 0 i3 16)+11)) (pr.aE (U (ab (some g)) xs) ((pr.idx 0 i3 16)+11))),(.sl (some (pr.aH (U (ab (some g)) xs) ((pr.idx 0 i3 16)+12))) 1 (pr.aC (U (ab (some g)) xs) ((pr.idx 0 i3 16)+12)) (pr.aE (U (ab (some g)) xs) ((pr.idx 0 i3 16)+12))),(.sl (some (pr.aH (U (ab (some g)) xs) ((pr.idx 0 i3 16)+13))) 1 (pr.aC (U (ab (some g)) xs) ((pr.idx 0 i3 16)+13)) (pr.aE (U (ab (some g)) xs) ((pr.idx 0 i3 16)+13))),(.sl (some (pr.aH (U (ab (some g)) xs) ((pr.idx 0 i3 16)+14))) 1 (pr.aC (U (ab (some g)) xs) ((pr.idx 0 i3 16)+14)) (pr.aE (U (ab (some g)) xs) ((pr.idx 0 i3 16)+14))),(.sl (some (pr.aH (U (ab (some g)) xs) ((pr.idx 0 i3 16)+15))) 1 (pr.aC (U (ab (some g)) xs) ((pr.idx 0 i3 16)+15)) (pr.aE (U (ab (some g)) xs) ((pr.idx 0 i3 16)+15)))]),(.cr c0 n1)] (.bool (fun bK=>(.done (br bK (some ((.int .i64 i3),[.undef,.undef])) (J 0 (dz g xs c0 n1 i2 (pr.ar .add .i64 i3 1)))))))) none) none) (some ((.int .i64 (-1)),[.undef,.undef]))):=by kernel_rfl
theorem lD:Told cfg Tryz.prog 92 Tryz.f92:=⟨by kernel_rfl,Tryz.func92,by kernel_rfl⟩
theorem lE (u0:List D) (v0:Nat) (g:Bool) (xs:List ae):aR pr cv J 92 Tryz.f92 [(.sl (some g) 16 xs.length (U (ab (some g)) xs)),(.fn 93 [(.cr u0 v0)])]=
    (cv 133 [(.sl (some g) 16 xs.length (U (ab (some g)) xs)),(.fn 93 [(.cr u0 v0)])] (.int (fun dA=>(.done (some ((.bool (pr.le 0 dA)),[.undef,.undef])))))):=by kernel_rfl
end
theorem Q4 (u0:List D) (v0:Nat) (g:Bool) (xs:List ae) (p:ae→Bool) (hb:xs.length < 4611686018427387904) (hc:∀ i,i < xs.length→∀ t:bS Rz,aU 93 [.agg (ji (some g) (xs.getD i n0)),.cr u0 v0] t=feed t [.bool (p (xs.getD i n0))]):Cm 133 [.sl (some g) 16 xs.length (U (ab (some g)) xs),.fn 93 [.cr u0 v0]] (.int .i64 (tk p xs),[.undef,.undef]):=by
  refine Cm.step mD [.undef,.undef] fun J hJ=>?_
  rw [mE]
  refine hJ _ _ ?_
  refine Gr (d:=n0) (H:=fun i=>dz g xs u0 v0 xs.length (i:Nat)) (fun i hi J=>?_) (fun J=>?_)
  · rw [gb]
    simp (disch:=first | assumption | omega) only [go_sem,hc i hi]
    cases p (xs.getD i n0) with
    | true=>rfl
    | false=>
      simp (disch:=first | assumption | omega) only [go_sem]
      rfl
  · rw [gb]
    simp (disch:=first | assumption | omega) only [go_sem]
theorem Jc (u0:List D) (v0:Nat) (g:Bool) (xs:List ae) (p:ae→Bool) (hb:xs.length < 4611686018427387904) (hc:∀ i,i < xs.length→∀ t:bS Rz,aU 93 [.agg (ji (some g) (xs.getD i n0)),.cr u0 v0] t=feed t [.bool (p (xs.getD i n0))]):Cm 92 [.sl (some g) 16 xs.length (U (ab (some g)) xs),.fn 93 [.cr u0 v0]] (.bool (xs.any p),[.undef,.undef]):=by
  refine Cm.step lD [.undef,.undef] fun J hJ=>?_
  rw [lE]
  have:=bh (Q4 u0 v0 g xs p hb hc) (by kernel_rfl)
  rw [this]
  show some ((.bool (decide (0≤tk p xs)),[.undef,.undef]):Rz)=_
  rw [KT]
section
variable (pr:dr) (cv:Cv Rz) (J:Nat→St→Option Rz)
theorem Bf:Told cfg Tryz.prog 93 Tryz.f93:=⟨by kernel_rfl,Tryz.func93,by kernel_rfl⟩
theorem Bg (w:ai) (n:ae):aR pr cv J 93 Tryz.f93 [(.agg (ab (some true) n)),(.cr (bn (some true) w) 0)]=
    let y1:Bool:=(br (pr.aN 16 [(.sl (some true) 16 w.nodes.length (U (ab (some true)) w.nodes)),(.sl (some true) 3 w.ay.length (U (aw (some true)) w.ay)),(.sl (some true) 2 w.log.length (U (aK (some true)) w.log)),(sI (some true) w.safe),(.int .i64 w.gen)] 0) (br (pr.aN 3 [(.sl (some true) 16 w.nodes.length (U (ab (some true)) w.nodes)),(.sl (some true) 3 w.ay.length (U (aw (some true)) w.ay)),(.sl (some true) 2 w.log.length (U (aK (some true)) w.log)),(sI (some true) w.safe),(.int .i64 w.gen)] 1) (br (pr.aN 2 [(.sl (some true) 16 w.nodes.length (U (ab (some true)) w.nodes)),(.sl (some true) 3 w.ay.length (U (aw (some true)) w.ay)),(.sl (some true) 2 w.log.length (U (aK (some true)) w.log)),(sI (some true) w.safe),(.int .i64 w.gen)] 2) (br (pr.aN 1 [(.sl (some true) 16 w.nodes.length (U (ab (some true)) w.nodes)),(.sl (some true) 3 w.ay.length (U (aw (some true)) w.ay)),(.sl (some true) 2 w.log.length (U (aK (some true)) w.log)),(sI (some true) w.safe),(.int .i64 w.gen)] 3) (br (pr.bO .i64 [(.sl (some true) 16 w.nodes.length (U (ab (some true)) w.nodes)),(.sl (some true) 3 w.ay.length (U (aw (some true)) w.ay)),(.sl (some true) 2 w.log.length (U (aK (some true)) w.log)),(sI (some true) w.safe),(.int .i64 w.gen)] 4) true false) false) false) false) false)
    let y2:Option Bool:=(some (pr.aH [(.sl (some true) 16 w.nodes.length (U (ab (some true)) w.nodes)),(.sl (some true) 3 w.ay.length (U (aw (some true)) w.ay)),(.sl (some true) 2 w.log.length (U (aK (some true)) w.log)),(sI (some true) w.safe),(.int .i64 w.gen)] 0))
    let y3:Nat:=(pr.aC [(.sl (some true) 16 w.nodes.length (U (ab (some true)) w.nodes)),(.sl (some true) 3 w.ay.length (U (aw (some true)) w.ay)),(.sl (some true) 2 w.log.length (U (aK (some true)) w.log)),(sI (some true) w.safe),(.int .i64 w.gen)] 0)
    let y4:List D:=(pr.aE [(.sl (some true) 16 w.nodes.length (U (ab (some true)) w.nodes)),(.sl (some true) 3 w.ay.length (U (aw (some true)) w.ay)),(.sl (some true) 2 w.log.length (U (aK (some true)) w.log)),(sI (some true) w.safe),(.int .i64 w.gen)] 0)
    let y5:Option Bool:=(some (pr.aH [(.sl (some true) 16 w.nodes.length (U (ab (some true)) w.nodes)),(.sl (some true) 3 w.ay.length (U (aw (some true)) w.ay)),(.sl (some true) 2 w.log.length (U (aK (some true)) w.log)),(sI (some true) w.safe),(.int .i64 w.gen)] 1))
    let y6:Nat:=(pr.aC [(.sl (some true) 16 w.nodes.length (U (ab (some true)) w.nodes)),(.sl (some true) 3 w.ay.length (U (aw (some true)) w.ay)),(.sl (some true) 2 w.log.length (U (aK (some true)) w.log)),(sI (some true) w.safe),(.int .i64 w.gen)] 1)
    let y7:List D:=(pr.aE [(.sl (some true) 16 w.nodes.length (U (ab (some true)) w.nodes)),(.sl (some true) 3 w.ay.length (U (aw (some true)) w.ay)),(.sl (some true) 2 w.log.length (U (aK (some true)) w.log)),(sI (some true) w.safe),(.int .i64 w.gen)] 1)
    let y8:Option Bool:=(some (pr.aH [(.sl (some true) 16 w.nodes.length (U (ab (some true)) w.nodes)),(.sl (some true) 3 w.ay.length (U (aw (some true)) w.ay)),(.sl (some true) 2 w.log.length (U (aK (some true)) w.log)),(sI (some true) w.safe),(.int .i64 w.gen)] 2))
    let y9:Nat:=(pr.aC [(.sl (some true) 16 w.nodes.length (U (ab (some true)) w.nodes)),(.sl (some true) 3 w.ay.length (U (aw (some true)) w.ay)),(.sl (some true) 2 w.log.length (U (aK (some true)) w.log)),(sI (some true) w.safe),(.int .i64 w.gen)] 2)
    let W5:List D:=(pr.aE [(.sl (some true) 16 w.nodes.length (U (ab (some true)) w.nodes)),(.sl (some true) 3 w.ay.length (U (aw (some true)) w.ay)),(.sl (some true) 2 w.log.length (U (aK (some true)) w.log)),(sI (some true) w.safe),(.int .i64 w.gen)] 2)
    let W6:Option Bool:=(some (pr.aH [(.sl (some true) 16 w.nodes.length (U (ab (some true)) w.nodes)),(.sl (some true) 3 w.ay.length (U (aw (some true)) w.ay)),(.sl (some true) 2 w.log.length (U (aK (some true)) w.log)),(sI (some true) w.safe),(.int .i64 w.gen)] 3))
    let y12:Nat:=(pr.aC [(.sl (some true) 16 w.nodes.length (U (ab (some true)) w.nodes)),(.sl (some true) 3 w.ay.length (U (aw (some true)) w.ay)),(.sl (some true) 2 w.log.length (U (aK (some true)) w.log)),(sI (some true) w.safe),(.int .i64 w.gen)] 3)
    let W7:List D:=(pr.aE [(.sl (some true) 16 w.nodes.length (U (ab (some true)) w.nodes)),(.sl (some true) 3 w.ay.length (U (aw (some true)) w.ay)),(.sl (some true) 2 w.log.length (U (aK (some true)) w.log)),(sI (some true) w.safe),(.int .i64 w.gen)] 3)
    let W8:D:=(.int .i64 (pr.aO [(.sl (some true) 16 w.nodes.length (U (ab (some true)) w.nodes)),(.sl (some true) 3 w.ay.length (U (aw (some true)) w.ay)),(.sl (some true) 2 w.log.length (U (aK (some true)) w.log)),(sI (some true) w.safe),(.int .i64 w.gen)] 4))
    (br n.mt.dq (br y1 (br y1 (cv 89 [(.agg [(.sl y2 16 y3 y4),(.sl y5 3 y6 y7),(.sl y8 2 y9 W5),(.sl W6 1 y12 W7),W8]),(.int .i64 n.mt.last)] (.ty eO.I (fun (aL:List Int)=>(.done (cv 95 [(.agg [(.sl y2 16 y3 y4),(.sl y5 3 y6 y7),(.sl y8 2 y9 W5),(.sl W6 1 y12 W7),W8]),(dN true (sI none aL))] (.ty eO.I (fun (dK:List Int)=>(.done (cv 94 [(sI (some true) n.image),(dN true (sI none dK))] (.bool (fun fb=>(.done (some ((.bool (br fb false true)),[.undef,.undef])))))))))))))) none) none) (some ((.bool false),[.undef,.undef]))):=by kernel_rfl
theorem Es:Told cfg Tryz.prog 34 Tryz.f34:=⟨by kernel_rfl,Tryz.func34,by kernel_rfl⟩
theorem Et (x0:ai):aR pr cv J 34 Tryz.f34 [(.agg (bn (some true) x0))]=
    (cv 23 [(.agg [(.sl (some true) 16 x0.nodes.length (U (ab (some true)) x0.nodes)),(.sl (some true) 3 x0.ay.length (U (aw (some true)) x0.ay)),(.sl (some true) 2 x0.log.length (U (aK (some true)) x0.log)),(sI (some true) x0.safe),(.int .i64 x0.gen)])] (.bool (fun bK=>(.done (br bK (cv 92 [(.sl (some true) 16 x0.nodes.length (U (ab (some true)) x0.nodes)),(.fn 93 [(.cr [(.sl (some true) 16 x0.nodes.length (U (ab (some true)) x0.nodes)),(.sl (some true) 3 x0.ay.length (U (aw (some true)) x0.ay)),(.sl (some true) 2 x0.log.length (U (aK (some true)) x0.log)),(sI (some true) x0.safe),(.int .i64 x0.gen)] 0)])] (.bool (fun eQ=>(.done (some ((.bool (br eQ false true)),[.undef])))))) (some ((.bool false),[.undef]))))))):=by kernel_rfl
def kr (x0:ai) (i0:Int):St:=(St.mk [(1,(.ptr 1 [] 0)),(3,(.int .i64 i0))] [(1,[(.sl (some true) 16 x0.nodes.length (U (ab (some true)) x0.nodes)),(.sl (some true) 3 x0.ay.length (U (aw (some true)) x0.ay)),(.sl (some true) 2 x0.log.length (U (aK (some true)) x0.log)),(sI (some true) x0.safe),(.int .i64 x0.gen)])] [] 0)
theorem Eu:Told cfg Tryz.prog 33 Tryz.f33:=⟨by kernel_rfl,Tryz.func33,by kernel_rfl⟩
theorem Ew (x0:ai):aR pr cv J 33 Tryz.f33 [(.agg (bn (some true) x0))]=
    (cv 21 [(.agg [(.sl (some true) 16 x0.nodes.length (U (ab (some true)) x0.nodes)),(.sl (some true) 3 x0.ay.length (U (aw (some true)) x0.ay)),(.sl (some true) 2 x0.log.length (U (aK (some true)) x0.log)),(sI (some true) x0.safe),(.int .i64 x0.gen)])] (.bool (fun bK=>(.done (br (br bK false true) (some ((.bool false),[.undef])) (J 0 (kr x0 0))))))):=by kernel_rfl
theorem At (x0:ai) (i0:Int):bJ pr cv J 33 Tryz.f33 [.undef] 0 (kr x0 i0)=
    let y1:Option Rz:=(J 0 (kr x0 (pr.ar .add .i64 i0 1)))
    (br (pr.lt i0 3) (br (pr.bg i0 x0.nodes.length) (br (br (pr.bO .i64 (U (ab (some true)) x0.nodes) (pr.idx 0 i0 16)) (br (pr.cd (U (ab (some true)) x0.nodes) ((pr.idx 0 i0 16)+1)) (br (pr.cd (U (ab (some true)) x0.nodes) ((pr.idx 0 i0 16)+2)) (br (pr.aN 1 (U (ab (some true)) x0.nodes) ((pr.idx 0 i0 16)+3)) (br (pr.aN 1 (U (ab (some true)) x0.nodes) ((pr.idx 0 i0 16)+4)) (br (pr.aN 1 (U (ab (some true)) x0.nodes) ((pr.idx 0 i0 16)+5)) (br (pr.cd (U (ab (some true)) x0.nodes) ((pr.idx 0 i0 16)+6)) (br (pr.cd (U (ab (some true)) x0.nodes) ((pr.idx 0 i0 16)+7)) (br (pr.cd (U (ab (some true)) x0.nodes) ((pr.idx 0 i0 16)+8)) (br (pr.bO .i64 (U (ab (some true)) x0.nodes) ((pr.idx 0 i0 16)+9)) (br (pr.aN 1 (U (ab (some true)) x0.nodes) ((pr.idx 0 i0 16)+10)) (br (pr.aN 1 (U (ab (some true)) x0.nodes) ((pr.idx 0 i0 16)+11)) (br (pr.aN 1 (U (ab (some true)) x0.nodes) ((pr.idx 0 i0 16)+12)) (br (pr.aN 1 (U (ab (some true)) x0.nodes) ((pr.idx 0 i0 16)+13)) (br (pr.aN 1 (U (ab (some true)) x0.nodes) ((pr.idx 0 i0 16)+14)) (br (pr.aN 1 (U (ab (some true)) x0.nodes) ((pr.idx 0 i0 16)+15)) true false) false) false) false) false) false) false) false) false) false) false) false) false) false) false) false) (br (pr.bw (U (ab (some true)) x0.nodes) ((pr.idx 0 i0 16)+6)) (cv 87 [(.agg [(.sl (some true) 16 x0.nodes.length (U (ab (some true)) x0.nodes)),(.sl (some true) 3 x0.ay.length (U (aw (some true)) x0.ay)),(.sl (some true) 2 x0.log.length (U (aK (some true)) x0.log)),(sI (some true) x0.safe),(.int .i64 x0.gen)]),(.int .i64 (pr.aO (U (ab (some true)) x0.nodes) ((pr.idx 0 i0 16)+9)))] (.ty eO.I (fun (aL:List Int)=>(.done (cv 91 [(.agg [(.sl (some true) 16 x0.nodes.length (U (ab (some true)) x0.nodes)),(.sl (some true) 3 x0.ay.length (U (aw (some true)) x0.ay)),(.sl (some true) 2 x0.log.length (U (aK (some true)) x0.log)),(sI (some true) x0.safe),(.int .i64 x0.gen)]),(dN true (sI none aL))] (.ty eO.I (fun (dK:List Int)=>(.done (cv 90 [(.sl (some (pr.aH (U (ab (some true)) x0.nodes) ((pr.idx 0 i0 16)+3))) 1 (pr.aC (U (ab (some true)) x0.nodes) ((pr.idx 0 i0 16)+3)) (pr.aE (U (ab (some true)) x0.nodes) ((pr.idx 0 i0 16)+3))),(dN true (sI none dK))] (.bool (fun fb=>(.done (br (br fb false true) (some ((.bool false),[.undef])) y1))))))))))))) y1) none) none) (some ((.bool true),[.undef]))):=by kernel_rfl
end
def rT (w:ai) (n:ae):Bool:=n.mt.dq&&!decide (n.image=jj w (fB w n.mt.last))
theorem Bh (w:ai) (n:ae) (ok:bW w) (on:cV n):Cm 93 [.agg (ab (some true) n),.cr (bn (some true) w) 0] (.bool (rT w n),[.undef,.undef]):=by
  refine Cm.step Bf [.undef,.undef] fun J hJ=>?_
  rw [Bg]
  have b3:=ok.log
  have h1:=Q2 w n.mt.last
  have h2:=Q3 ok n.mt.last
  have h3:=vj w (fB w n.mt.last)
  have h4:=on.image
  unfold rT
  refine mC fun hf=>?_
  simp (disch:=first | assumption | omega) only [go_sem]
  cases decide (n.image=jj w (fB w n.mt.last))<;>rfl
@[go_sem] theorem aaE (w:ai) (n:Nat) (xs:List ae) (hn:n=xs.length) (hb:xs.length < 4611686018427387904) (ok:bW w) (on:∀ x∈xs,cV x) (t:bS Rz):aU 92 [.sl (some true) 16 n (U (ab (some true)) xs),.fn 93 [.cr (bn (some true) w) 0]] t=feed t [.bool (xs.any (rT w))]:=by
  subst hn
  exact bh (Jc _ _ true xs _ hb fun i hi t=>bh (Bh w _ ok (on _ (o8 hi))) (by kernel_rfl) t) (by kernel_rfl) t
section
variable {w:ai} {n:ae}
theorem ajb (hf:n.mt.dq=true) (he:¬n.image=jj w (fB w n.mt.last)):¬rT w n=false:=by simp [rT,hf,he]
theorem ajc (he:n.image=jj w (fB w n.mt.last)):rT w n=false:=by simp [rT,← he]
theorem ajd (hf:¬n.mt.dq=true):rT w n=false:=by simp [rT,hf]
end
noncomputable def iI (w:ai):Bool:=gX w&&!w.nodes.any (rT w)
theorem Ex (w:ai) (q0:bW w):Cm 34 [.agg (bn (some true) w)] (.bool (iI w),[.undef]):=by
  unfold iI
  refine Cm.step Es [.undef] fun J hJ=>?_
  rw [Et]
  have b1:=q0.nodes
  have b2:=q0.node
  try simp (disch:=first | assumption | omega) only [go_sem]
  refine mC fun h=>?_
  try simp (disch:=first | assumption | omega) only [go_sem]
  cases w.nodes.any (rT w)<;>rfl
@[go_sem] theorem Xr (w:ai) (q0:bW w) (t:bS Rz):aU 34 [.agg (fm (some true) w)] t=feed t [.bool (iI w)]:=by
  exact bR (r:=.bool (iI w)) (s:=.bool) (ss:=[.undef]) (Ex w q0) (by kernel_rfl) (by simp only [av,bE,aY,bF,bG,ah,ak,Bool.and_self]) (by simp only [ah,aM,av,ak,Bool.and_self]) (by first | rfl | simp only [au,aW,aV,bB,bC,aX,bD,Bool.and_self]) (by first | rfl | simp only [List.all_cons,List.all_nil,au,Bool.and_self]) t
structure Xa (w:ai):Prop where
  ok:x8 w
  all:∀ i,i < 3→rT w (w.nodes.getD i n0)=false
theorem Xb (w:ai):iI w=oT (Xa w):=by
  unfold iI
  by_cases h:Xa w
  · rw [Oh h,show gX w=true from Oh h.ok]
    rw [Bool.true_and,Bool.not_eq_true',List.any_eq_false]
    intro x hx
    obtain ⟨i,hi,rfl⟩:=List.getElem_of_mem hx
    have:=h.ok.ns.len
    rw [← dV (d:=n0) hi,h.all i (by omega)]
    simp
  · rw [aaA h]
    cases hw:gX w with
    | false=>rfl
    | true=>
      rw [Bool.true_and,Bool.not_eq_false',List.any_eq_true]
      have o:=pT hw
      have:∃ i,i < 3∧¬rT w (w.nodes.getD i n0)=false:=Classical.byContradiction fun hn=>h ⟨o,fun i hi=>Classical.byContradiction fun hc=>hn ⟨i,hi,hc⟩⟩
      obtain ⟨i,hi,hc⟩:=this
      have:=o.ns.len
      exact ⟨_,o8 (d:=n0) (i:=i) (by omega),by simpa using hc⟩
theorem Ey (w:ai) (q0:bW w):Cm 33 [.agg (bn (some true) w)] (.bool (iI w),[.undef]):=by
  rw [Xb]
  have b1:=q0.nodes
  have b3:=q0.log
  refine Cm.step Eu [.undef] fun J hJ=>?_
  rw [Ew]
  try simp (disch:=first | assumption | omega) only [go_sem]
  refine gF (fun h=>?_) (fun h=>eH fun o=>w5 h o.ok)
  have o:=pT h
  have nl:=o.ns.len
  try simp (disch:=first | assumption | omega) only [go_sem]
  refine hJ _ _ ?_
  refine WP.up (H:=fun i:Nat=>kr w (i:Int)) 3 (fun i=>∀ a,a < i→rT w (w.nodes.getD a n0)=false) (fun i hi inv J hJ next=>?_) 0 (by omega) (fun a h=>absurd h (by omega))
  rw [At]
  try simp (disch:=first | assumption | omega) only [go_sem]
  refine bq (fun hl=>?_) (fun hl=>As ⟨o,fun a ha=>inv a (by omega)⟩)
  have h1:=Q2 w (w.nodes.getD i n0).mt.last
  have h2:=Q3 q0 (w.nodes.getD i n0).mt.last
  have h3:=vj w (fB w (w.nodes.getD i n0).mt.last)
  have h4:=(QV q0 (show i < w.nodes.length by omega)).image
  try simp (disch:=first | assumption | omega) only [go_sem]
  refine gF (fun hf=>?_) (fun hf=>?_)
  · try simp (disch:=first | assumption | omega) only [go_sem]
    refine bq (fun he=>?_) (fun he=>eH fun o=>absurd (o.all i (by omega)) (ajb hf he))
    try simp (disch:=first | assumption | omega) only [go_sem]
    exact next (by omega) (dk inv (ajc he))
  · try simp (disch:=first | assumption | omega) only [go_sem]
    exact next (by omega) (dk inv (ajd hf))
@[go_sem] theorem Xs (w:ai) (q0:bW w) (t:bS Rz):aU 33 [.agg (fm (some true) w)] t=feed t [.bool (iI w)]:=by
  exact bR (r:=.bool (iI w)) (s:=.bool) (ss:=[.undef]) (Ey w q0) (by kernel_rfl) (by simp only [av,bE,aY,bF,bG,ah,ak,Bool.and_self]) (by simp only [ah,aM,av,ak,Bool.and_self]) (by first | rfl | simp only [au,aW,aV,bB,bC,aX,bD,Bool.and_self]) (by first | rfl | simp only [List.all_cons,List.all_nil,au,Bool.and_self]) t
end Go.Proofs.YtockoilcnmljiaaGreat
namespace Go.Proofs.YtockoilcnmljiaaGreat
set_option maxRecDepth 100000
section
variable (pr:dr) (cv:Cv Rz) (J:Nat→St→Option Rz)
def gY (x0:List Int) (x1:List Int) (i0:Int) (n1:Nat) (c2:List D):St:=(St.mk [(0,(sI (some true) x0)),(1,(sI (some true) x1)),(5,(.ref 10005 [] 0 none)),(10,(.int .i64 i0))] [(10005,[(.sl none 1 n1 c2)])] [] 0)
theorem NU:Told cfg Tryz.prog 85 Tryz.f85:=⟨by kernel_rfl,Tryz.func85,by kernel_rfl⟩
theorem NV (x0:List Int) (x1:List Int):aR pr cv J 85 Tryz.f85 [(sI (some true) x0),(sI (some true) x1)]=
    (J 0 (gY x0 x1 0 0 [])):=by kernel_rfl
theorem GF (x0:List Int) (x1:List Int) (i0:Int) (n1:Nat) (c2:List D):bJ pr cv J 85 Tryz.f85 [.undef,.undef] 0 (gY x0 x1 i0 n1 c2)=
    let y1:Option Rz:=(br (br (pr.flat [(.int .i64 i0)]) (pr.fits (n1+1) 8) false) (J 0 (gY x0 x1 (pr.ar .add .i64 i0 1) (n1+1) (List.append c2 [(.int .i64 i0)]))) none)
    let y2:Option Rz:=(J 0 (gY x0 x1 (pr.ar .add .i64 i0 1) n1 c2))
    (br (pr.lt i0 8) (br (br (pr.beq (pr.lt i0 (pr.aS x0.length)) (pr.lt i0 (pr.aS x1.length))) false true) y1 (br (pr.lt i0 (pr.aS x0.length)) (br (pr.bg i0 x0.length) (br (br (pr.bO .i64 (ints x0) (pr.idx 0 i0 1)) true false) (br (pr.bg i0 x1.length) (br (br (pr.bO .i64 (ints x1) (pr.idx 0 i0 1)) true false) (br (br (pr.eq (pr.aO (ints x0) (pr.idx 0 i0 1)) (pr.aO (ints x1) (pr.idx 0 i0 1))) false true) y1 y2) none) none) none) none) y2)) (some ((.sl none 1 n1 c2),[.undef,.undef]))):=by kernel_rfl
def gZ (x0:List Int) (x1:List Int) (i0:Int) (n1:Nat) (c2:List D):St:=(St.mk [(0,(sI (some true) x0)),(1,(sI (some true) x1)),(5,(.ref 10005 [] 0 none)),(6,(.int .i64 i0))] [(10005,[(.sl none 1 n1 c2)])] [] 0)
theorem NW:Told cfg Tryz.prog 83 Tryz.f83:=⟨by kernel_rfl,Tryz.func83,by kernel_rfl⟩
theorem NX (x0:List Int) (x1:List Int):aR pr cv J 83 Tryz.f83 [(sI (some true) x0),(sI (some true) x1)]=
    (J 0 (gZ x0 x1 0 0 [])):=by kernel_rfl
theorem GG (x0:List Int) (x1:List Int) (i0:Int) (n1:Nat) (c2:List D):bJ pr cv J 83 Tryz.f83 [.undef,.undef] 0 (gZ x0 x1 i0 n1 c2)=
    let y1:Option Rz:=(br (br (pr.flat [(.int .i64 i0)]) (pr.fits (n1+1) 8) false) (J 0 (gZ x0 x1 (pr.ar .add .i64 i0 1) (n1+1) (List.append c2 [(.int .i64 i0)]))) none)
    let y2:Option Rz:=(J 0 (gZ x0 x1 (pr.ar .add .i64 i0 1) n1 c2))
    (br (pr.lt i0 8) (br (br (pr.beq (pr.lt i0 (pr.aS x0.length)) (pr.lt i0 (pr.aS x1.length))) false true) y1 (br (pr.lt i0 (pr.aS x0.length)) (br (pr.bg i0 x0.length) (br (br (pr.bO .i64 (ints x0) (pr.idx 0 i0 1)) true false) (br (pr.bg i0 x1.length) (br (br (pr.bO .i64 (ints x1) (pr.idx 0 i0 1)) true false) (br (br (pr.eq (pr.aO (ints x0) (pr.idx 0 i0 1)) (pr.aO (ints x1) (pr.idx 0 i0 1))) false true) y1 y2) none) none) none) none) y2)) (some ((.sl none 1 n1 c2),[.undef,.undef]))):=by kernel_rfl
def ks (x0:ai) (i0:Int) (i1:Int):St:=(St.mk [(1,(.ptr 1 [] 0)),(13,(.sl (some true) 16 x0.nodes.length (U (ab (some true)) x0.nodes))),(14,(.int .i64 i0)),(15,(.int .i64 i1))] [(1,[(.sl (some true) 16 x0.nodes.length (U (ab (some true)) x0.nodes)),(.sl (some true) 3 x0.ay.length (U (aw (some true)) x0.ay)),(.sl (some true) 2 x0.log.length (U (aK (some true)) x0.log)),(sI (some true) x0.safe),(.int .i64 x0.gen)])] [] 0)
def kt (x0:ai) (i0:Int) (i1:Int) (n2:Nat) (c3:List D) (i4:Int) (i5:Int) (i6:Int) (b7:Bool) (b8:Bool) (g9:Bool) (nQ:Nat) (nR:List D) (g12:Bool) (gO:Nat) (gD:List D) (g15:Bool) (n16:Nat) (c17:List D) (Iz:Bool) (IA:Bool) (Ft:Bool) (i21:Int) (g22:Bool) (xY:Nat) (xZ:List D) (x4:Bool) (sa:Nat) (rH:List D) (ue:Bool) (n29:Nat) (uf:List D) (ug:Bool) (n32:Nat) (x5:List D) (x6:Bool) (n35:Nat) (x7:List D) (g37:Bool) (n38:Nat) (c39:List D):St:=(St.mk [(1,(.ptr 1 [] 0)),(3,(.int .i64 i0)),(4,(.ptr 4 [] 0)),(13,(.sl (some true) 16 x0.nodes.length (U (ab (some true)) x0.nodes))),(14,(.int .i64 i1)),(15,(.int .i64 i0)),(23,(.sl (some true) 16 n2 c3)),(24,(.int .i64 i4)),(25,(.int .i64 i5))] [(1,[(.sl (some true) 16 x0.nodes.length (U (ab (some true)) x0.nodes)),(.sl (some true) 3 x0.ay.length (U (aw (some true)) x0.ay)),(.sl (some true) 2 x0.log.length (U (aK (some true)) x0.log)),(sI (some true) x0.safe),(.int .i64 x0.gen)]),(4,[(.int .i64 i6),(.bool b7),(.bool b8),(.sl (some g9) 1 nQ nR),(.sl (some g12) 1 gO gD),(.sl (some g15) 1 n16 c17),(.bool Iz),(.bool IA),(.bool Ft),(.int .i64 i21),(.sl (some g22) 1 xY xZ),(.sl (some x4) 1 sa rH),(.sl (some ue) 1 n29 uf),(.sl (some ug) 1 n32 x5),(.sl (some x6) 1 n35 x7),(.sl (some g37) 1 n38 c39)])] [] 0)
def ku (x0:ai) (i0:Int) (i1:Int) (i2:Int) (n3:Nat) (c4:List D) (i5:Int) (i6:Int) (i7:Int) (i8:Int) (b9:Bool) (ie:Bool) (g11:Bool) (fF:Nat) (ga:List D) (g14:Bool) (mI:Nat) (qL:List D) (g17:Bool) (zf:Nat) (rG:List D) (Ft:Bool) (Xc:Bool) (Xd:Bool) (i23:Int) (g24:Bool) (Fo:Nat) (yS:List D) (yT:Bool) (yU:Nat) (yV:List D) (yW:Bool) (n31:Nat) (Fp:List D) (Fq:Bool) (n34:Nat) (Fs:List D) (Xe:Bool) (n37:Nat) (Xf:List D) (Xg:Bool) (n40:Nat) (Xh:List D) (i42:Int) (b43:Bool) (b44:Bool) (g45:Bool) (n46:Nat) (c47:List D) (g48:Bool) (n49:Nat) (c50:List D) (g51:Bool) (n52:Nat) (Ma:List D) (b54:Bool) (b55:Bool) (b56:Bool) (i57:Int) (g58:Bool) (n59:Nat) (c60:List D) (g61:Bool) (n62:Nat) (c63:List D) (g64:Bool) (n65:Nat) (c66:List D) (g67:Bool) (n68:Nat) (c69:List D) (g70:Bool) (Bb:Nat) (zu:List D) (g73:Bool) (n74:Nat) (c75:List D) (Xi:Nat) (Q5:List D):St:=(St.mk [(1,(.ptr 1 [] 0)),(3,(.int .i64 i0)),(4,(.ptr 4 [] 0)),(5,(.int .i64 i1)),(6,(.ptr 6 [] 0)),(13,(.sl (some true) 16 x0.nodes.length (U (ab (some true)) x0.nodes))),(14,(.int .i64 i2)),(15,(.int .i64 i0)),(23,(.sl (some true) 16 n3 c4)),(24,(.int .i64 i5)),(25,(.int .i64 i1)),(34,(.ref 10034 [] 0 none)),(35,(.int .i64 i6)),(36,(.int .i64 i7))] [(1,[(.sl (some true) 16 x0.nodes.length (U (ab (some true)) x0.nodes)),(.sl (some true) 3 x0.ay.length (U (aw (some true)) x0.ay)),(.sl (some true) 2 x0.log.length (U (aK (some true)) x0.log)),(sI (some true) x0.safe),(.int .i64 x0.gen)]),(4,[(.int .i64 i8),(.bool b9),(.bool ie),(.sl (some g11) 1 fF ga),(.sl (some g14) 1 mI qL),(.sl (some g17) 1 zf rG),(.bool Ft),(.bool Xc),(.bool Xd),(.int .i64 i23),(.sl (some g24) 1 Fo yS),(.sl (some yT) 1 yU yV),(.sl (some yW) 1 n31 Fp),(.sl (some Fq) 1 n34 Fs),(.sl (some Xe) 1 n37 Xf),(.sl (some Xg) 1 n40 Xh)]),(6,[(.int .i64 i42),(.bool b43),(.bool b44),(.sl (some g45) 1 n46 c47),(.sl (some g48) 1 n49 c50),(.sl (some g51) 1 n52 Ma),(.bool b54),(.bool b55),(.bool b56),(.int .i64 i57),(.sl (some g58) 1 n59 c60),(.sl (some g61) 1 n62 c63),(.sl (some g64) 1 n65 c66),(.sl (some g67) 1 n68 c69),(.sl (some g70) 1 Bb zu),(.sl (some g73) 1 n74 c75)]),(10034,[(.sl none 1 Xi Q5)])] [] 0)
theorem Ez:Told cfg Tryz.prog 30 Tryz.f30:=⟨by kernel_rfl,Tryz.func30,by kernel_rfl⟩
theorem EA (x0:ai):aR pr cv J 30 Tryz.f30 [(.agg (bn (some true) x0))]=
    (cv 23 [(.agg [(.sl (some true) 16 x0.nodes.length (U (ab (some true)) x0.nodes)),(.sl (some true) 3 x0.ay.length (U (aw (some true)) x0.ay)),(.sl (some true) 2 x0.log.length (U (aK (some true)) x0.log)),(sI (some true) x0.safe),(.int .i64 x0.gen)])] (.bool (fun bK=>(.done (br (br bK false true) (some ((.bool false),[.undef])) (J 0 (ks x0 (pr.aS x0.nodes.length) 0))))))):=by kernel_rfl
theorem Au (x0:ai) (i0:Int) (i1:Int):bJ pr cv J 30 Tryz.f30 [.undef] 0 (ks x0 i0 i1)=
    (br (pr.lt i1 i0) (br (pr.bg i1 x0.nodes.length) (br (br (pr.bO .i64 (U (ab (some true)) x0.nodes) (pr.idx 0 i1 16)) (br (pr.cd (U (ab (some true)) x0.nodes) ((pr.idx 0 i1 16)+1)) (br (pr.cd (U (ab (some true)) x0.nodes) ((pr.idx 0 i1 16)+2)) (br (pr.aN 1 (U (ab (some true)) x0.nodes) ((pr.idx 0 i1 16)+3)) (br (pr.aN 1 (U (ab (some true)) x0.nodes) ((pr.idx 0 i1 16)+4)) (br (pr.aN 1 (U (ab (some true)) x0.nodes) ((pr.idx 0 i1 16)+5)) (br (pr.cd (U (ab (some true)) x0.nodes) ((pr.idx 0 i1 16)+6)) (br (pr.cd (U (ab (some true)) x0.nodes) ((pr.idx 0 i1 16)+7)) (br (pr.cd (U (ab (some true)) x0.nodes) ((pr.idx 0 i1 16)+8)) (br (pr.bO .i64 (U (ab (some true)) x0.nodes) ((pr.idx 0 i1 16)+9)) (br (pr.aN 1 (U (ab (some true)) x0.nodes) ((pr.idx 0 i1 16)+10)) (br (pr.aN 1 (U (ab (some true)) x0.nodes) ((pr.idx 0 i1 16)+11)) (br (pr.aN 1 (U (ab (some true)) x0.nodes) ((pr.idx 0 i1 16)+12)) (br (pr.aN 1 (U (ab (some true)) x0.nodes) ((pr.idx 0 i1 16)+13)) (br (pr.aN 1 (U (ab (some true)) x0.nodes) ((pr.idx 0 i1 16)+14)) (br (pr.aN 1 (U (ab (some true)) x0.nodes) ((pr.idx 0 i1 16)+15)) true false) false) false) false) false) false) false) false) false) false) false) false) false) false) false) false) (br (pr.wa 0 i1 x0.nodes.length) (J 2 (kt x0 i1 i0 (pr.nK i1 0) (List.take (Nat.mul (pr.nK i1 0) 16) (List.drop (Nat.mul (pr.hZ 0) 16) (U (ab (some true)) x0.nodes))) (pr.aS (pr.nK i1 0)) 0 (pr.aO (U (ab (some true)) x0.nodes) (pr.idx 0 i1 16)) (pr.bw (U (ab (some true)) x0.nodes) ((pr.idx 0 i1 16)+1)) (pr.bw (U (ab (some true)) x0.nodes) ((pr.idx 0 i1 16)+2)) (pr.aH (U (ab (some true)) x0.nodes) ((pr.idx 0 i1 16)+3)) (pr.aC (U (ab (some true)) x0.nodes) ((pr.idx 0 i1 16)+3)) (pr.aE (U (ab (some true)) x0.nodes) ((pr.idx 0 i1 16)+3)) (pr.aH (U (ab (some true)) x0.nodes) ((pr.idx 0 i1 16)+4)) (pr.aC (U (ab (some true)) x0.nodes) ((pr.idx 0 i1 16)+4)) (pr.aE (U (ab (some true)) x0.nodes) ((pr.idx 0 i1 16)+4)) (pr.aH (U (ab (some true)) x0.nodes) ((pr.idx 0 i1 16)+5)) (pr.aC (U (ab (some true)) x0.nodes) ((pr.idx 0 i1 16)+5)) (pr.aE (U (ab (some true)) x0.nodes) ((pr.idx 0 i1 16)+5)) (pr.bw (U (ab (some true)) x0.nodes) ((pr.idx 0 i1 16)+6)) (pr.bw (U (ab (some true)) x0.nodes) ((pr.idx 0 i1 16)+7)) (pr.bw (U (ab (some true)) x0.nodes) ((pr.idx 0 i1 16)+8)) (pr.aO (U (ab (some true)) x0.nodes) ((pr.idx 0 i1 16)+9)) (pr.aH (U (ab (some true)) x0.nodes) ((pr.idx 0 i1 16)+10)) (pr.aC (U (ab (some true)) x0.nodes) ((pr.idx 0 i1 16)+10)) (pr.aE (U (ab (some true)) x0.nodes) ((pr.idx 0 i1 16)+10)) (pr.aH (U (ab (some true)) x0.nodes) ((pr.idx 0 i1 16)+11)) (pr.aC (U (ab (some true)) x0.nodes) ((pr.idx 0 i1 16)+11)) (pr.aE (U (ab (some true)) x0.nodes) ((pr.idx 0 i1 16)+11)) (pr.aH (U (ab (some true)) x0.nodes) ((pr.idx 0 i1 16)+12)) (pr.aC (U (ab (some true)) x0.nodes) ((pr.idx 0 i1 16)+12)) (pr.aE (U (ab (some true)) x0.nodes) ((pr.idx 0 i1 16)+12)) (pr.aH (U (ab (some true)) x0.nodes) ((pr.idx 0 i1 16)+13)) (pr.aC (U (ab (some true)) x0.nodes) ((pr.idx 0 i1 16)+13)) (pr.aE (U (ab (some true)) x0.nodes) ((pr.idx 0 i1 16)+13)) (pr.aH (U (ab (some true)) x0.nodes) ((pr.idx 0 i1 16)+14)) (pr.aC (U (ab (some true)) x0.nodes) ((pr.idx 0 i1 16)+14)) (pr.aE (U (ab (some true)) x0.nodes) ((pr.idx 0 i1 16)+14)) (pr.aH (U (ab (some true)) x0.nodes) ((pr.idx 0 i1 16)+15)) (pr.aC (U (ab (some true)) x0.nodes) ((pr.idx 0 i1 16)+15)) (pr.aE (U (ab (some true)) x0.nodes) ((pr.idx 0 i1 16)+15)))) none) none) none) (some ((.bool true),[.undef]))):=by kernel_rfl
theorem Av (x0:ai) (i0:Int) (i1:Int) (n2:Nat) (c3:List D) (i4:Int) (i5:Int) (i6:Int) (b7:Bool) (b8:Bool) (g9:Bool) (nQ:Nat) (nR:List D) (g12:Bool) (gO:Nat) (gD:List D) (g15:Bool) (n16:Nat) (c17:List D) (Iz:Bool) (IA:Bool) (Ft:Bool) (i21:Int) (g22:Bool) (xY:Nat) (xZ:List D) (x4:Bool) (sa:Nat) (rH:List D) (ue:Bool) (n29:Nat) (uf:List D) (ug:Bool) (n32:Nat) (x5:List D) (x6:Bool) (n35:Nat) (x7:List D) (g37:Bool) (n38:Nat) (c39:List D):bJ pr cv J 30 Tryz.f30 [.undef] 2 (kt x0 i0 i1 n2 c3 i4 i5 i6 b7 b8 g9 nQ nR g12 gO gD g15 n16 c17 Iz IA Ft i21 g22 xY xZ x4 sa rH ue n29 uf ug n32 x5 x6 n35 x7 g37 n38 c39)=
    (br (pr.lt i5 i4) (br (pr.bg i5 n2) (br (br (pr.bO .i64 c3 (pr.idx 0 i5 16)) (br (pr.cd c3 ((pr.idx 0 i5 16)+1)) (br (pr.cd c3 ((pr.idx 0 i5 16)+2)) (br (pr.aN 1 c3 ((pr.idx 0 i5 16)+3)) (br (pr.aN 1 c3 ((pr.idx 0 i5 16)+4)) (br (pr.aN 1 c3 ((pr.idx 0 i5 16)+5)) (br (pr.cd c3 ((pr.idx 0 i5 16)+6)) (br (pr.cd c3 ((pr.idx 0 i5 16)+7)) (br (pr.cd c3 ((pr.idx 0 i5 16)+8)) (br (pr.bO .i64 c3 ((pr.idx 0 i5 16)+9)) (br (pr.aN 1 c3 ((pr.idx 0 i5 16)+10)) (br (pr.aN 1 c3 ((pr.idx 0 i5 16)+11)) (br (pr.aN 1 c3 ((pr.idx 0 i5 16)+12)) (br (pr.aN 1 c3 ((pr.idx 0 i5 16)+13)) (br (pr.aN 1 c3 ((pr.idx 0 i5 16)+14)) (br (pr.aN 1 c3 ((pr.idx 0 i5 16)+15)) true false) false) false) false) false) false) false) false) false) false) false) false) false) false) false) false) (cv 85 [(.sl (some g9) 1 nQ nR),(.sl (some (pr.aH c3 ((pr.idx 0 i5 16)+3))) 1 (pr.aC c3 ((pr.idx 0 i5 16)+3)) (pr.aE c3 ((pr.idx 0 i5 16)+3)))] (.ty eO.I (fun (aL:List Int)=>(.done (J 4 (ku x0 i0 i5 i1 n2 c3 i4 (pr.aS aL.length) 0 i6 b7 b8 g9 nQ nR g12 gO gD g15 n16 c17 Iz IA Ft i21 g22 xY xZ x4 sa rH ue n29 uf ug n32 x5 x6 n35 x7 g37 n38 c39 (pr.aO c3 (pr.idx 0 i5 16)) (pr.bw c3 ((pr.idx 0 i5 16)+1)) (pr.bw c3 ((pr.idx 0 i5 16)+2)) (pr.aH c3 ((pr.idx 0 i5 16)+3)) (pr.aC c3 ((pr.idx 0 i5 16)+3)) (pr.aE c3 ((pr.idx 0 i5 16)+3)) (pr.aH c3 ((pr.idx 0 i5 16)+4)) (pr.aC c3 ((pr.idx 0 i5 16)+4)) (pr.aE c3 ((pr.idx 0 i5 16)+4)) (pr.aH c3 ((pr.idx 0 i5 16)+5)) (pr.aC c3 ((pr.idx 0 i5 16)+5)) (pr.aE c3 ((pr.idx 0 i5 16)+5)) (pr.bw c3 ((pr.idx 0 i5 16)+6)) (pr.bw c3 ((pr.idx 0 i5 16)+7)) (pr.bw c3 ((pr.idx 0 i5 16)+8)) (pr.aO c3 ((pr.idx 0 i5 16)+9)) (pr.aH c3 ((pr.idx 0 i5 16)+10)) (pr.aC c3 ((pr.idx 0 i5 16)+10)) (pr.aE c3 ((pr.idx 0 i5 16)+10)) (pr.aH c3 ((pr.idx 0 i5 16)+11)) (pr.aC c3 ((pr.idx 0 i5 16)+11)) (pr.aE c3 ((pr.idx 0 i5 16)+11)) (pr.aH c3 ((pr.idx 0 i5 16)+12)) (pr.aC c3 ((pr.idx 0 i5 16)+12)) (pr.aE c3 ((pr.idx 0 i5 16)+12)) (pr.aH c3 ((pr.idx 0 i5 16)+13)) (pr.aC c3 ((pr.idx 0 i5 16)+13)) (pr.aE c3 ((pr.idx 0 i5 16)+13)) (pr.aH c3 ((pr.idx 0 i5 16)+14)) (pr.aC c3 ((pr.idx 0 i5 16)+14)) (pr.aE c3 ((pr.idx 0 i5 16)+14)) (pr.aH c3 ((pr.idx 0 i5 16)+15)) (pr.aC c3 ((pr.idx 0 i5 16)+15)) (pr.aE c3 ((pr.idx 0 i5 16)+15)) aL.length (ints aL))))))) none) none) (J 0 (ks x0 i1 (pr.ar .add .i64 i0 1)))):=by kernel_rfl
theorem Aw (x0:ai) (i0:Int) (i1:Int) (i2:Int) (n3:Nat) (c4:List D) (i5:Int) (i6:Int) (i7:Int) (i8:Int) (b9:Bool) (ie:Bool) (g11:Bool) (fF:Nat) (ga:List D) (g14:Bool) (mI:Nat) (qL:List D) (g17:Bool) (zf:Nat) (rG:List D) (Ft:Bool) (Xc:Bool) (Xd:Bool) (i23:Int) (g24:Bool) (Fo:Nat) (yS:List D) (yT:Bool) (yU:Nat) (yV:List D) (yW:Bool) (n31:Nat) (Fp:List D) (Fq:Bool) (n34:Nat) (Fs:List D) (Xe:Bool) (n37:Nat) (Xf:List D) (Xg:Bool) (n40:Nat) (Xh:List D) (i42:Int) (b43:Bool) (b44:Bool) (g45:Bool) (n46:Nat) (c47:List D) (g48:Bool) (n49:Nat) (c50:List D) (g51:Bool) (n52:Nat) (Ma:List D) (b54:Bool) (b55:Bool) (b56:Bool) (i57:Int) (g58:Bool) (n59:Nat) (c60:List D) (g61:Bool) (n62:Nat) (c63:List D) (g64:Bool) (n65:Nat) (c66:List D) (g67:Bool) (n68:Nat) (c69:List D) (g70:Bool) (Bb:Nat) (zu:List D) (g73:Bool) (n74:Nat) (c75:List D) (Xi:Nat) (Q5:List D):bJ pr cv J 30 Tryz.f30 [.undef] 4 (ku x0 i0 i1 i2 n3 c4 i5 i6 i7 i8 b9 ie g11 fF ga g14 mI qL g17 zf rG Ft Xc Xd i23 g24 Fo yS yT yU yV yW n31 Fp Fq n34 Fs Xe n37 Xf Xg n40 Xh i42 b43 b44 g45 n46 c47 g48 n49 c50 g51 n52 Ma b54 b55 b56 i57 g58 n59 c60 g61 n62 c63 g64 n65 c66 g67 n68 c69 g70 Bb zu g73 n74 c75 Xi Q5)=
    let y1:Option Rz:=(J 4 (ku x0 i0 i1 i2 n3 c4 i5 i6 (pr.ar .add .i64 i7 1) i8 b9 ie g11 fF ga g14 mI qL g17 zf rG Ft Xc Xd i23 g24 Fo yS yT yU yV yW n31 Fp Fq n34 Fs Xe n37 Xf Xg n40 Xh i42 b43 b44 g45 n46 c47 g48 n49 c50 g51 n52 Ma b54 b55 b56 i57 g58 n59 c60 g61 n62 c63 g64 n65 c66 g67 n68 c69 g70 Bb zu g73 n74 c75 Xi Q5))
    (br (pr.lt i7 i6) (br (pr.bg i7 Xi) (br (br (pr.bO .i64 Q5 (pr.idx 0 i7 1)) true false) (br (pr.bg i1 zf) (br (br (pr.aN 1 rG (pr.idx 0 i1 1)) true false) (cv 86 [(.sl (some (pr.aH rG (pr.idx 0 i1 1))) 1 (pr.aC rG (pr.idx 0 i1 1)) (pr.aE rG (pr.idx 0 i1 1))),(.int .i64 (pr.aO Q5 (pr.idx 0 i7 1)))] (.bool (fun bK=>(.done (br (br bK false true) (br (pr.bg i0 n52) (br (br (pr.aN 1 Ma (pr.idx 0 i0 1)) true false) (cv 86 [(.sl (some (pr.aH Ma (pr.idx 0 i0 1))) 1 (pr.aC Ma (pr.idx 0 i0 1)) (pr.aE Ma (pr.idx 0 i0 1))),(.int .i64 (pr.aO Q5 (pr.idx 0 i7 1)))] (.bool (fun eQ=>(.done (br (br eQ false true) (some ((.bool false),[.undef])) y1))))) none) none) y1))))) none) none) none) none) (J 2 (kt x0 i0 i2 n3 c4 i5 (pr.ar .add .i64 i1 1) i8 b9 ie g11 fF ga g14 mI qL g17 zf rG Ft Xc Xd i23 g24 Fo yS yT yU yV yW n31 Fp Fq n34 Fs Xe n37 Xf Xg n40 Xh))):=by kernel_rfl
def kv (x0:ai) (i0:Int):St:=(St.mk [(1,(.ptr 1 [] 0)),(3,(.int .i64 i0))] [(1,[(.sl (some true) 16 x0.nodes.length (U (ab (some true)) x0.nodes)),(.sl (some true) 3 x0.ay.length (U (aw (some true)) x0.ay)),(.sl (some true) 2 x0.log.length (U (aK (some true)) x0.log)),(sI (some true) x0.safe),(.int .i64 x0.gen)])] [] 0)
def ky (x0:ai) (i0:Int) (i1:Int):St:=(St.mk [(1,(.ptr 1 [] 0)),(3,(.int .i64 i0)),(4,(.int .i64 i1))] [(1,[(.sl (some true) 16 x0.nodes.length (U (ab (some true)) x0.nodes)),(.sl (some true) 3 x0.ay.length (U (aw (some true)) x0.ay)),(.sl (some true) 2 x0.log.length (U (aK (some true)) x0.log)),(sI (some true) x0.safe),(.int .i64 x0.gen)])] [] 0)
def kz (x0:ai) (i0:Int) (i1:Int) (i2:Int) (i3:Int) (b4:Bool) (b5:Bool) (g6:Bool) (n7:Nat) (c8:List D) (g9:Bool) (nQ:Nat) (nR:List D) (g12:Bool) (gO:Nat) (gD:List D) (jb:Bool) (nX:Bool) (nT:Bool) (i18:Int) (g19:Bool) (AK:Nat) (AL:List D) (g22:Bool) (xY:Nat) (xZ:List D) (x4:Bool) (sa:Nat) (rH:List D) (ue:Bool) (n29:Nat) (uf:List D) (ug:Bool) (n32:Nat) (x5:List D) (x6:Bool) (n35:Nat) (x7:List D) (i37:Int) (b38:Bool) (b39:Bool) (g40:Bool) (n41:Nat) (c42:List D) (g43:Bool) (n44:Nat) (c45:List D) (g46:Bool) (Xj:Nat) (Mb:List D) (b49:Bool) (b50:Bool) (b51:Bool) (i52:Int) (g53:Bool) (n54:Nat) (c55:List D) (g56:Bool) (n57:Nat) (c58:List D) (g59:Bool) (n60:Nat) (c61:List D) (g62:Bool) (n63:Nat) (c64:List D) (g65:Bool) (n66:Nat) (c67:List D) (g68:Bool) (n69:Nat) (c70:List D) (Bb:Nat) (zu:List D):St:=(St.mk [(1,(.ptr 1 [] 0)),(3,(.int .i64 i0)),(4,(.int .i64 i1)),(5,(.ptr 5 [] 0)),(6,(.ptr 6 [] 0)),(7,(.ref 10007 [] 0 none)),(8,(.int .i64 i2))] [(1,[(.sl (some true) 16 x0.nodes.length (U (ab (some true)) x0.nodes)),(.sl (some true) 3 x0.ay.length (U (aw (some true)) x0.ay)),(.sl (some true) 2 x0.log.length (U (aK (some true)) x0.log)),(sI (some true) x0.safe),(.int .i64 x0.gen)]),(5,[(.int .i64 i3),(.bool b4),(.bool b5),(.sl (some g6) 1 n7 c8),(.sl (some g9) 1 nQ nR),(.sl (some g12) 1 gO gD),(.bool jb),(.bool nX),(.bool nT),(.int .i64 i18),(.sl (some g19) 1 AK AL),(.sl (some g22) 1 xY xZ),(.sl (some x4) 1 sa rH),(.sl (some ue) 1 n29 uf),(.sl (some ug) 1 n32 x5),(.sl (some x6) 1 n35 x7)]),(6,[(.int .i64 i37),(.bool b38),(.bool b39),(.sl (some g40) 1 n41 c42),(.sl (some g43) 1 n44 c45),(.sl (some g46) 1 Xj Mb),(.bool b49),(.bool b50),(.bool b51),(.int .i64 i52),(.sl (some g53) 1 n54 c55),(.sl (some g56) 1 n57 c58),(.sl (some g59) 1 n60 c61),(.sl (some g62) 1 n63 c64),(.sl (some g65) 1 n66 c67),(.sl (some g68) 1 n69 c70)]),(10007,[(.sl none 1 Bb zu)])] [] 0)
theorem EB:Told cfg Tryz.prog 29 Tryz.f29:=⟨by kernel_rfl,Tryz.func29,by kernel_rfl⟩
theorem EC (x0:ai):aR pr cv J 29 Tryz.f29 [(.agg (bn (some true) x0))]=
    (cv 21 [(.agg [(.sl (some true) 16 x0.nodes.length (U (ab (some true)) x0.nodes)),(.sl (some true) 3 x0.ay.length (U (aw (some true)) x0.ay)),(.sl (some true) 2 x0.log.length (U (aK (some true)) x0.log)),(sI (some true) x0.safe),(.int .i64 x0.gen)])] (.bool (fun bK=>(.done (br (br bK false true) (some ((.bool false),[.undef])) (J 0 (kv x0 0))))))):=by kernel_rfl
theorem Ax (x0:ai) (i0:Int):bJ pr cv J 29 Tryz.f29 [.undef] 0 (kv x0 i0)=
    (br (pr.lt i0 3) (J 2 (ky x0 i0 0)) (some ((.bool true),[.undef]))):=by kernel_rfl
theorem Ay (x0:ai) (i0:Int) (i1:Int):bJ pr cv J 29 Tryz.f29 [.undef] 2 (ky x0 i0 i1)=
    let y1:Option Bool:=(some (pr.aH (U (ab (some true)) x0.nodes) ((pr.idx 0 i0 16)+3)))
    let y2:Nat:=(pr.aC (U (ab (some true)) x0.nodes) ((pr.idx 0 i0 16)+3))
    let y3:List D:=(pr.aE (U (ab (some true)) x0.nodes) ((pr.idx 0 i0 16)+3))
    let y4:Option Bool:=(some (pr.aH (U (ab (some true)) x0.nodes) ((pr.idx 0 i1 16)+3)))
    let y5:Nat:=(pr.aC (U (ab (some true)) x0.nodes) ((pr.idx 0 i1 16)+3))
    let y6:List D:=(pr.aE (U (ab (some true)) x0.nodes) ((pr.idx 0 i1 16)+3))
    (br (pr.lt i1 i0) (br (pr.bg i0 x0.nodes.length) (br (br (pr.bO .i64 (U (ab (some true)) x0.nodes) (pr.idx 0 i0 16)) (br (pr.cd (U (ab (some true)) x0.nodes) ((pr.idx 0 i0 16)+1)) (br (pr.cd (U (ab (some true)) x0.nodes) ((pr.idx 0 i0 16)+2)) (br (pr.aN 1 (U (ab (some true)) x0.nodes) ((pr.idx 0 i0 16)+3)) (br (pr.aN 1 (U (ab (some true)) x0.nodes) ((pr.idx 0 i0 16)+4)) (br (pr.aN 1 (U (ab (some true)) x0.nodes) ((pr.idx 0 i0 16)+5)) (br (pr.cd (U (ab (some true)) x0.nodes) ((pr.idx 0 i0 16)+6)) (br (pr.cd (U (ab (some true)) x0.nodes) ((pr.idx 0 i0 16)+7)) (br (pr.cd (U (ab (some true)) x0.nodes) ((pr.idx 0 i0 16)+8)) (br (pr.bO .i64 (U (ab (some true)) x0.nodes) ((pr.idx 0 i0 16)+9)) (br (pr.aN 1 (U (ab (some true)) x0.nodes) ((pr.idx 0 i0 16)+10)) (br (pr.aN 1 (U (ab (some true)) x0.nodes) ((pr.idx 0 i0 16)+11)) (br (pr.aN 1 (U (ab (some true)) x0.nodes) ((pr.idx 0 i0 16)+12)) (br (pr.aN 1 (U (ab (some true)) x0.nodes) ((pr.idx 0 i0 16)+13)) (br (pr.aN 1 (U (ab (some true)) x0.nodes) ((pr.idx 0 i0 16)+14)) (br (pr.aN 1 (U (ab (some true)) x0.nodes) ((pr.idx 0 i0 16)+15)) true false) false) false) false) false) false) false) false) false) false) false) false) false) false) false) false) (br (pr.bg i1 x0.nodes.length) (br (br (pr.bO .i64 (U (ab (some true)) x0.nodes) (pr.idx 0 i1 16)) (br (pr.cd (U (ab (some true)) x0.nodes) ((pr.idx 0 i1 16)+1)) (br (pr.cd (U (ab (some true)) x0.nodes) ((pr.idx 0 i1 16)+2)) (br (pr.aN 1 (U (ab (some true)) x0.nodes) ((pr.idx 0 i1 16)+3)) (br (pr.aN 1 (U (ab (some true)) x0.nodes) ((pr.idx 0 i1 16)+4)) (br (pr.aN 1 (U (ab (some true)) x0.nodes) ((pr.idx 0 i1 16)+5)) (br (pr.cd (U (ab (some true)) x0.nodes) ((pr.idx 0 i1 16)+6)) (br (pr.cd (U (ab (some true)) x0.nodes) ((pr.idx 0 i1 16)+7)) (br (pr.cd (U (ab (some true)) x0.nodes) ((pr.idx 0 i1 16)+8)) (br (pr.bO .i64 (U (ab (some true)) x0.nodes) ((pr.idx 0 i1 16)+9)) (br (pr.aN 1 (U (ab (some true)) x0.nodes) ((pr.idx 0 i1 16)+10)) (br (pr.aN 1 (U (ab (some true)) x0.nodes) ((pr.idx 0 i1 16)+11)) (br (pr.aN 1 (U (ab (some true)) x0.nodes) ((pr.idx 0 i1 16)+12)) (br (pr.aN 1 (U (ab (some true)) x0.nodes) ((pr.idx 0 i1 16)+13)) (br (pr.aN 1 (U (ab (some true)) x0.nodes) ((pr.idx 0 i1 16)+14)) (br (pr.aN 1 (U (ab (some true)) x0.nodes) ((pr.idx 0 i1 16)+15)) true false) false) false) false) false) false) false) false) false) false) false) false) false) false) false) false) (cv 83 [(.sl y1 1 y2 y3),(.sl y4 1 y5 y6)] (.ty eO.I (fun (aL:List Int)=>(.done (J 4 (kz x0 i0 i1 0 (pr.aO (U (ab (some true)) x0.nodes) (pr.idx 0 i0 16)) (pr.bw (U (ab (some true)) x0.nodes) ((pr.idx 0 i0 16)+1)) (pr.bw (U (ab (some true)) x0.nodes) ((pr.idx 0 i0 16)+2)) (pr.aH (U (ab (some true)) x0.nodes) ((pr.idx 0 i0 16)+3)) y2 y3 (pr.aH (U (ab (some true)) x0.nodes) ((pr.idx 0 i0 16)+4)) (pr.aC (U (ab (some true)) x0.nodes) ((pr.idx 0 i0 16)+4)) (pr.aE (U (ab (some true)) x0.nodes) ((pr.idx 0 i0 16)+4)) (pr.aH (U (ab (some true)) x0.nodes) ((pr.idx 0 i0 16)+5)) (pr.aC (U (ab (some true)) x0.nodes) ((pr.idx 0 i0 16)+5)) (pr.aE (U (ab (some true)) x0.nodes) ((pr.idx 0 i0 16)+5)) (pr.bw (U (ab (some true)) x0.nodes) ((pr.idx 0 i0 16)+6)) (pr.bw (U (ab (some true)) x0.nodes) ((pr.idx 0 i0 16)+7)) (pr.bw (U (ab (some true)) x0.nodes) ((pr.idx 0 i0 16)+8)) (pr.aO (U (ab (some true)) x0.nodes) ((pr.idx 0 i0 16)+9)) (pr.aH (U (ab (some true)) x0.nodes) ((pr.idx 0 i0 16)+10)) (pr.aC (U (ab (some true)) x0.nodes) ((pr.idx 0 i0 16)+10)) (pr.aE (U (ab (some true)) x0.nodes) ((pr.idx 0 i0 16)+10)) (pr.aH (U (ab (some true)) x0.nodes) ((pr.idx 0 i0 16)+11)) (pr.aC (U (ab (some true)) x0.nodes) ((pr.idx 0 i0 16)+11)) (pr.aE (U (ab (some true)) x0.nodes) ((pr.idx 0 i0 16)+11)) (pr.aH (U (ab (some true)) x0.nodes) ((pr.idx 0 i0 16)+12)) (pr.aC (U (ab (some true)) x0.nodes) ((pr.idx 0 i0 16)+12)) (pr.aE (U (ab (some true)) x0.nodes) ((pr.idx 0 i0 16)+12)) (pr.aH (U (ab (some true)) x0.nodes) ((pr.idx 0 i0 16)+13)) (pr.aC (U (ab (some true)) x0.nodes) ((pr.idx 0 i0 16)+13)) (pr.aE (U (ab (some true)) x0.nodes) ((pr.idx 0 i0 16)+13)) (pr.aH (U (ab (some true)) x0.nodes) ((pr.idx 0 i0 16)+14)) (pr.aC (U (ab (some true)) x0.nodes) ((pr.idx 0 i0 16)+14)) (pr.aE (U (ab (some true)) x0.nodes) ((pr.idx 0 i0 16)+14)) (pr.aH (U (ab (some true)) x0.nodes) ((pr.idx 0 i0 16)+15)) (pr.aC (U (ab (some true)) x0.nodes) ((pr.idx 0 i0 16)+15)) (pr.aE (U (ab (some true)) x0.nodes) ((pr.idx 0 i0 16)+15)) (pr.aO (U (ab (some true)) x0.nodes) (pr.idx 0 i1 16)) (pr.bw (U (ab (some true)) x0.nodes) ((pr.idx 0 i1 16)+1)) (pr.bw (U (ab (some true)) x0.nodes) ((pr.idx 0 i1 16)+2)) (pr.aH (U (ab (some true)) x0.nodes) ((pr.idx 0 i1 16)+3)) y5 y6 (pr.aH (U (ab (some true)) x0.nodes) ((pr.idx 0 i1 16)+4)) (pr.aC (U (ab (some true)) x0.nodes) ((pr.idx 0 i1 16)+4)) (pr.aE (U (ab (some true)) x0.nodes) ((pr.idx 0 i1 16)+4)) (pr.aH (U (ab (some true)) x0.nodes) ((pr.idx 0 i1 16)+5)) (pr.aC (U (ab (some true)) x0.nodes) ((pr.idx 0 i1 16)+5)) (pr.aE (U (ab (some true)) x0.nodes) ((pr.idx 0 i1 16)+5)) (pr.bw (U (ab (some true)) x0.nodes) ((pr.idx 0 i1 16)+6)) (pr.bw (U (ab (some true)) x0.nodes) ((pr.idx 0 i1 16)+7)) (pr.bw (U (ab (some true)) x0.nodes) ((pr.idx 0 i1 16)+8)) (pr.aO (U (ab (some true)) x0.nodes) ((pr.idx 0 i1 16)+9)) (pr.aH (U (ab (some true)) x0.nodes) ((pr.idx 0 i1 16)+10)) (pr.aC (U (ab (some true)) x0.nodes) ((pr.idx 0 i1 16)+10)) (pr.aE (U (ab (some true)) x0.nodes) ((pr.idx 0 i1 16)+10)) (pr.aH (U (ab (some true)) x0.nodes) ((pr.idx 0 i1 16)+11)) (pr.aC (U (ab (some true)) x0.nodes) ((pr.idx 0 i1 16)+11)) (pr.aE (U (ab (some true)) x0.nodes) ((pr.idx 0 i1 16)+11)) (pr.aH (U (ab (some true)) x0.nodes) ((pr.idx 0 i1 16)+12)) (pr.aC (U (ab (some true)) x0.nodes) ((pr.idx 0 i1 16)+12)) (pr.aE (U (ab (some true)) x0.nodes) ((pr.idx 0 i1 16)+12)) (pr.aH (U (ab (some true)) x0.nodes) ((pr.idx 0 i1 16)+13)) (pr.aC (U (ab (some true)) x0.nodes) ((pr.idx 0 i1 16)+13)) (pr.aE (U (ab (some true)) x0.nodes) ((pr.idx 0 i1 16)+13)) (pr.aH (U (ab (some true)) x0.nodes) ((pr.idx 0 i1 16)+14)) (pr.aC (U (ab (some true)) x0.nodes) ((pr.idx 0 i1 16)+14)) (pr.aE (U (ab (some true)) x0.nodes) ((pr.idx 0 i1 16)+14)) (pr.aH (U (ab (some true)) x0.nodes) ((pr.idx 0 i1 16)+15)) (pr.aC (U (ab (some true)) x0.nodes) ((pr.idx 0 i1 16)+15)) (pr.aE (U (ab (some true)) x0.nodes) ((pr.idx 0 i1 16)+15)) aL.length (ints aL))))))) none) none) none) none) (J 0 (kv x0 (pr.ar .add .i64 i0 1)))):=by kernel_rfl
theorem Az (x0:ai) (i0:Int) (i1:Int) (i2:Int) (i3:Int) (b4:Bool) (b5:Bool) (g6:Bool) (n7:Nat) (c8:List D) (g9:Bool) (nQ:Nat) (nR:List D) (g12:Bool) (gO:Nat) (gD:List D) (jb:Bool) (nX:Bool) (nT:Bool) (i18:Int) (g19:Bool) (AK:Nat) (AL:List D) (g22:Bool) (xY:Nat) (xZ:List D) (x4:Bool) (sa:Nat) (rH:List D) (ue:Bool) (n29:Nat) (uf:List D) (ug:Bool) (n32:Nat) (x5:List D) (x6:Bool) (n35:Nat) (x7:List D) (i37:Int) (b38:Bool) (b39:Bool) (g40:Bool) (n41:Nat) (c42:List D) (g43:Bool) (n44:Nat) (c45:List D) (g46:Bool) (Xj:Nat) (Mb:List D) (b49:Bool) (b50:Bool) (b51:Bool) (i52:Int) (g53:Bool) (n54:Nat) (c55:List D) (g56:Bool) (n57:Nat) (c58:List D) (g59:Bool) (n60:Nat) (c61:List D) (g62:Bool) (n63:Nat) (c64:List D) (g65:Bool) (n66:Nat) (c67:List D) (g68:Bool) (n69:Nat) (c70:List D) (Bb:Nat) (zu:List D):bJ pr cv J 29 Tryz.f29 [.undef] 4 (kz x0 i0 i1 i2 i3 b4 b5 g6 n7 c8 g9 nQ nR g12 gO gD jb nX nT i18 g19 AK AL g22 xY xZ x4 sa rH ue n29 uf ug n32 x5 x6 n35 x7 i37 b38 b39 g40 n41 c42 g43 n44 c45 g46 Xj Mb b49 b50 b51 i52 g53 n54 c55 g56 n57 c58 g59 n60 c61 g62 n63 c64 g65 n66 c67 g68 n69 c70 Bb zu)=
    let y1:Option Rz:=(J 4 (kz x0 i0 i1 (pr.ar .add .i64 i2 1) i3 b4 b5 g6 n7 c8 g9 nQ nR g12 gO gD jb nX nT i18 g19 AK AL g22 xY xZ x4 sa rH ue n29 uf ug n32 x5 x6 n35 x7 i37 b38 b39 g40 n41 c42 g43 n44 c45 g46 Xj Mb b49 b50 b51 i52 g53 n54 c55 g56 n57 c58 g59 n60 c61 g62 n63 c64 g65 n66 c67 g68 n69 c70 Bb zu))
    (br (pr.lt i2 (pr.aS Bb)) (br (pr.bg i1 gO) (br (br (pr.aN 1 gD (pr.idx 0 i1 1)) true false) (br (pr.bg i2 Bb) (br (br (pr.bO .i64 zu (pr.idx 0 i2 1)) true false) (cv 84 [(.sl (some (pr.aH gD (pr.idx 0 i1 1))) 1 (pr.aC gD (pr.idx 0 i1 1)) (pr.aE gD (pr.idx 0 i1 1))),(.int .i64 (pr.aO zu (pr.idx 0 i2 1)))] (.bool (fun bK=>(.done (br (br bK false true) (br (pr.bg i0 Xj) (br (br (pr.aN 1 Mb (pr.idx 0 i0 1)) true false) (br (pr.bg i2 Bb) (br (br (pr.bO .i64 zu (pr.idx 0 i2 1)) true false) (cv 84 [(.sl (some (pr.aH Mb (pr.idx 0 i0 1))) 1 (pr.aC Mb (pr.idx 0 i0 1)) (pr.aE Mb (pr.idx 0 i0 1))),(.int .i64 (pr.aO zu (pr.idx 0 i2 1)))] (.bool (fun eQ=>(.done (br (br eQ false true) (some ((.bool false),[.undef])) y1))))) none) none) none) none) y1))))) none) none) none) none) (J 2 (ky x0 i0 (pr.ar .add .i64 i1 1)))):=by kernel_rfl
end
def oU (a b:List Int) (i:Nat):Bool:=if i < a.length then (if i < b.length then !decide (a.getD i 0=b.getD i 0) else true) else decide (i < b.length)
def kD (a b:List Int):Nat→List Int
  | 0=>[]
  | i+1=>if oU a b i=true then kD a b i++[(i:Int)] else kD a b i
theorem Xk {a b:List Int} {i:Nat} (h:oU a b i=true):kD a b (i+1)=kD a b i++[(i:Int)]:=by
  show (if _ then _ else _)=_
  rw [if_pos h]
theorem Xl {a b:List Int} {i:Nat} (h:oU a b i=false):kD a b (i+1)=kD a b i:=by
  show (if _ then _ else _)=_
  rw [h]
  rfl
theorem w6 (a b:List Int):∀ i,(kD a b i).length≤i
  | 0=>by simp [kD]
  | i+1=>by
    have:=w6 a b i
    unfold kD
    split
    · simp; omega
    · omega
def fD (a b:List Int):List Int:=kD a b 8
theorem NY (a:List Int) (b:List Int) (q0:a.length < 4611686018427387904) (q1:b.length < 4611686018427387904):Cm 85 [sI (some true) a,sI (some true) b] (sI none (fD a b),[.undef,.undef]):=by
  refine Cm.step NU [.undef,.undef] fun J hJ=>?_
  rw [NV]
  refine hJ _ _ ?_
  refine WP.up (H:=fun i:Nat=>gY a b (i:Int) (kD a b i).length (ints (kD a b i))) 8 (fun _=>True) (fun i hi _ J hJ next=>?_) 0 (by omega) trivial
  rw [GF]
  have bl:=w6 a b i
  try simp (disch:=first | assumption | omega) only [go_sem]
  refine bq (fun hl=>?_) (fun hl=>?_)
  · have next:=next (by omega) trivial
    have yes:oU a b i=true→J 0 (gY a b ((i:Int)+1) ((kD a b i).length+1) (ints (kD a b i++[(i:Int)])))=some (sI none (fD a b),[.undef,.undef]):=fun h=>by rw [Xk h,List.length_append] at next; exact next
    have no:oU a b i=false→J 0 (gY a b ((i:Int)+1) (kD a b i).length (ints (kD a b i)))=some (sI none (fD a b),[.undef,.undef]):=fun h=>by rw [Xl h] at next; exact next
    by_cases ha:i < a.length
    · by_cases hb:i < b.length
      · try simp (disch:=first | assumption | omega) only [go_sem,show decide ((i:Int) < a.length)=true from decide_eq_true (by omega),show decide ((i:Int) < b.length)=true from decide_eq_true (by omega),eq_self]
        refine bq (fun he=>?_) (fun he=>?_)
        · try simp (disch:=first | assumption | omega) only [go_sem]
          exact no (by unfold oU; rw [if_pos ha,if_pos hb,decide_eq_true he]; rfl)
        · try simp (disch:=first | assumption | omega) only [go_sem]
          exact yes (by unfold oU; rw [if_pos ha,if_pos hb,decide_eq_false he]; rfl)
      · try simp (disch:=first | assumption | omega) only [go_sem,show decide ((i:Int) < a.length)=true from decide_eq_true (by omega),show decide ((i:Int) < b.length)=false from decide_eq_false (by omega),Bool.true_eq_false]
        exact yes (by unfold oU; rw [if_pos ha,if_neg hb])
    · by_cases hb:i < b.length
      · try simp (disch:=first | assumption | omega) only [go_sem,show decide ((i:Int) < a.length)=false from decide_eq_false (by omega),show decide ((i:Int) < b.length)=true from decide_eq_true (by omega),Bool.false_eq_true]
        exact yes (by unfold oU; rw [if_neg ha,decide_eq_true hb])
      · try simp (disch:=first | assumption | omega) only [go_sem,show decide ((i:Int) < a.length)=false from decide_eq_false (by omega),show decide ((i:Int) < b.length)=false from decide_eq_false (by omega),eq_self]
        exact no (by unfold oU; rw [if_neg ha,decide_eq_false hb])
  · rw [show i=8 by omega]
    rfl
@[go_sem] theorem adf (a0:Nat) (a:List Int) (b0:Nat) (b:List Int) (e0:a0=a.length) (e1:b0=b.length) (q0:a.length < 4611686018427387904) (q1:b.length < 4611686018427387904) (t:bS Rz):aU 85 [.sl (some true) 1 a0 (ints a),.sl (some true) 1 b0 (ints b)] t=feed t [enc .I (fD a b)]:=by
  subst e0
  subst e1
  exact bR (r:=enc .I (fD a b)) (s:=.ty .I) (ss:=[.undef,.undef]) (NY a b q0 q1) (by kernel_rfl) (by simp only [av,bE,aY,bF,bG,ah,ak,Bool.and_self]) (by simp only [ah,aM,av,ak,Bool.and_self]) (by first | rfl | simp only [au,aW,aV,bB,bC,aX,bD,Bool.and_self]) (by first | rfl | simp only [List.all_cons,List.all_nil,au,Bool.and_self]) t
theorem NZ (a:List Int) (b:List Int) (q0:a.length < 4611686018427387904) (q1:b.length < 4611686018427387904):Cm 83 [sI (some true) a,sI (some true) b] (sI none (fD a b),[.undef,.undef]):=by
  refine Cm.step NW [.undef,.undef] fun J hJ=>?_
  rw [NX]
  refine hJ _ _ ?_
  refine WP.up (H:=fun i:Nat=>gZ a b (i:Int) (kD a b i).length (ints (kD a b i))) 8 (fun _=>True) (fun i hi _ J hJ next=>?_) 0 (by omega) trivial
  rw [GG]
  have bl:=w6 a b i
  try simp (disch:=first | assumption | omega) only [go_sem]
  refine bq (fun hl=>?_) (fun hl=>?_)
  · have next:=next (by omega) trivial
    have yes:oU a b i=true→J 0 (gZ a b ((i:Int)+1) ((kD a b i).length+1) (ints (kD a b i++[(i:Int)])))=some (sI none (fD a b),[.undef,.undef]):=fun h=>by rw [Xk h,List.length_append] at next; exact next
    have no:oU a b i=false→J 0 (gZ a b ((i:Int)+1) (kD a b i).length (ints (kD a b i)))=some (sI none (fD a b),[.undef,.undef]):=fun h=>by rw [Xl h] at next; exact next
    by_cases ha:i < a.length
    · by_cases hb:i < b.length
      · try simp (disch:=first | assumption | omega) only [go_sem,show decide ((i:Int) < a.length)=true from decide_eq_true (by omega),show decide ((i:Int) < b.length)=true from decide_eq_true (by omega),eq_self]
        refine bq (fun he=>?_) (fun he=>?_)
        · try simp (disch:=first | assumption | omega) only [go_sem]
          exact no (by unfold oU; rw [if_pos ha,if_pos hb,decide_eq_true he]; rfl)
        · try simp (disch:=first | assumption | omega) only [go_sem]
          exact yes (by unfold oU; rw [if_pos ha,if_pos hb,decide_eq_false he]; rfl)
      · try simp (disch:=first | assumption | omega) only [go_sem,show decide ((i:Int) < a.length)=true from decide_eq_true (by omega),show decide ((i:Int) < b.length)=false from decide_eq_false (by omega),Bool.true_eq_false]
        exact yes (by unfold oU; rw [if_pos ha,if_neg hb])
    · by_cases hb:i < b.length
      · try simp (disch:=first | assumption | omega) only [go_sem,show decide ((i:Int) < a.length)=false from decide_eq_false (by omega),show decide ((i:Int) < b.length)=true from decide_eq_true (by omega),Bool.false_eq_true]
        exact yes (by unfold oU; rw [if_neg ha,decide_eq_true hb])
      · try simp (disch:=first | assumption | omega) only [go_sem,show decide ((i:Int) < a.length)=false from decide_eq_false (by omega),show decide ((i:Int) < b.length)=false from decide_eq_false (by omega),eq_self]
        exact no (by unfold oU; rw [if_neg ha,decide_eq_false hb])
  · rw [show i=8 by omega]
    rfl
@[go_sem] theorem adg (a0:Nat) (a:List Int) (b0:Nat) (b:List Int) (e0:a0=a.length) (e1:b0=b.length) (q0:a.length < 4611686018427387904) (q1:b.length < 4611686018427387904) (t:bS Rz):aU 83 [.sl (some true) 1 a0 (ints a),.sl (some true) 1 b0 (ints b)] t=feed t [enc .I (fD a b)]:=by
  subst e0
  subst e1
  exact bR (r:=enc .I (fD a b)) (s:=.ty .I) (ss:=[.undef,.undef]) (NZ a b q0 q1) (by kernel_rfl) (by simp only [av,bE,aY,bF,bG,ah,ak,Bool.and_self]) (by simp only [ah,aM,av,ak,Bool.and_self]) (by first | rfl | simp only [au,aW,aV,bB,bC,aX,bD,Bool.and_self]) (by first | rfl | simp only [List.all_cons,List.all_nil,au,Bool.and_self]) t
attribute [go_sem] Nat.sub_zero
def Xm (w:ai) (i k:Nat):Prop:=∀ c∈fD (w.nodes.getD i n0).image (w.nodes.getD k n0).image,c∈(w.nodes.getD i n0).mt.bits.getD k []∨c∈(w.nodes.getD k n0).mt.bits.getD i []
structure afP (w:ai):Prop where
  ok:x8 w
  all:∀ i,i < 3→∀ k,k < i→Xm w i k
noncomputable def jM (w:ai):Bool:=oT (afP w)
theorem Jd {α:Type} {xs:List α} {d:α} {p:α→Prop} (h:∀ i,i < xs.length→p (xs.getD i d)):∀ x∈xs,p x:=by
  intro x hx
  obtain ⟨i,hi,rfl⟩:=List.getElem_of_mem hx
  rw [← dV (d:=d) hi]
  exact h i hi
theorem Eb {m:bj} (ok:du m) {k:Nat} (h:k < m.bits.length):(m.bits.getD k []).length≤1048576:=ok.bits.2 _ (o8 h)
theorem ED (w:ai) (q0:bW w):Cm 30 [.agg (bn (some true) w)] (.bool (jM w),[.undef]):=by
  unfold jM
  have b1:=q0.nodes
  refine Cm.step Ez [.undef] fun J hJ=>?_
  rw [EA]
  try simp (disch:=first | assumption | omega) only [go_sem]
  refine gF (fun h=>?_) (fun h=>eH fun o=>w5 h o.ok)
  have o:=pT h
  have nl:=o.ns.len
  try simp (disch:=first | assumption | omega) only [go_sem]
  refine hJ _ _ ?_
  refine WP.L6 (H:=fun i:Nat=>ks w w.nodes.length (i:Int)) 3 (fun i=>∀ a,a < i→∀ k,k < a→Xm w a k) (fun i hi inv next=>?_) 0 (by omega) (fun a h=>absurd h (by omega))
  refine WP.step fun J hJ=>?_
  rw [Au]
  try simp (disch:=first | assumption | omega) only [go_sem]
  refine bq (fun hl=>?_) (fun hl=>As ⟨o,fun a ha=>inv a (by omega)⟩)
  try simp (disch:=first | assumption | omega) only [go_sem]
  refine hJ _ _ ?_
  have oi:=QV q0 (show i < w.nodes.length by omega)
  have bi:=nF (fI (o.ns.nd i (by omega)).ok).mt
  have mi:=oi.image
  refine WP.L6 (H:=fun k:Nat=>kt w i w.nodes.length i (U (ab (some true)) (w.nodes.take i)) i k _ _ _ _ _ _ _ _ _ _ _ _ _ _ _ _ _ _ _ _ _ _ _ _ _ _ _ _ _ _ _ _ _ _) i (fun k=>∀ b,b < k→Xm w i b) (fun k hk inv2 p9=>?_) 0 (by omega) (fun a h=>absurd h (by omega))
  refine WP.step fun J hJ=>?_
  rw [Av]
  have tl:(w.nodes.take i).length=i:=by rw [List.length_take]; omega
  try simp (disch:=first | assumption | omega) only [go_sem]
  refine bq (fun yw=>?_) (fun yw=>?_)
  · have ok:=QV q0 (show k < w.nodes.length by omega)
    have bk:=nF (fI (o.ns.nd k (by omega)).ok).mt
    have mk:=ok.image
    have s1:=Eb oi.mt (k:=k) (by omega)
    have s2:=Eb ok.mt (k:=i) (by omega)
    try simp (disch:=first | assumption | omega) only [go_sem]
    refine hJ _ _ ?_
    refine WP.up (H:=fun c:Nat=>ku w i k w.nodes.length i (U (ab (some true)) (w.nodes.take i)) i (fD (w.nodes.getD i n0).image (w.nodes.getD k n0).image).length c _ _ _ _ _ _ _ _ _ _ _ _ _ _ _ _ _ _ _ _ _ _ _ _ _ _ _ _ _ _ _ _ _ _ _ _ _ _ _ _ _ _ _ _ _ _ _ _ _ _ _ _ _ _ _ _ _ _ _ _ _ _ _ _ _ _ _ _ _ _) (fD (w.nodes.getD i n0).image (w.nodes.getD k n0).image).length (fun c=>∀ a,a < c→(fD (w.nodes.getD i n0).image (w.nodes.getD k n0).image).getD a 0∈(w.nodes.getD i n0).mt.bits.getD k []∨(fD (w.nodes.getD i n0).image (w.nodes.getD k n0).image).getD a 0∈(w.nodes.getD k n0).mt.bits.getD i []) (fun c hc GH J hJ Je=>?_) 0 (by omega) (fun a h=>absurd h (by omega))
    rw [Aw]
    have dl:=w6 (w.nodes.getD i n0).image (w.nodes.getD k n0).image 8
    have dl:(fD (w.nodes.getD i n0).image (w.nodes.getD k n0).image).length≤8:=dl
    try simp (disch:=first | assumption | omega) only [go_sem]
    refine bq (fun E4=>?_) (fun E4=>?_)
    · try simp (disch:=first | assumption | omega) only [go_sem]
      refine bq (fun h1=>?_) (fun h1=>?_)
      · try simp (disch:=first | assumption | omega) only [go_sem]
        exact Je (by omega) (dk GH (.inl h1))
      · try simp (disch:=first | assumption | omega) only [go_sem]
        refine bq (fun h2=>?_) (fun h2=>eH fun o=>(o.all i (by omega) k (by omega) _ (o8 (d:=0) (i:=c) (by omega))).elim h1 h2)
        try simp (disch:=first | assumption | omega) only [go_sem]
        exact Je (by omega) (dk GH (.inr h2))
    · try simp (disch:=first | assumption | omega) only [go_sem]
      exact hJ _ _ (p9 (by omega) (dk inv2 (Jd (d:=0) fun a ha=>GH a (by omega))))
  · try simp (disch:=first | assumption | omega) only [go_sem]
    exact hJ _ _ (next (by omega) (dk inv fun b hb=>inv2 b (by omega)))
@[go_sem] theorem Xt (w:ai) (q0:bW w) (t:bS Rz):aU 30 [.agg (fm (some true) w)] t=feed t [.bool (jM w)]:=by
  exact bR (r:=.bool (jM w)) (s:=.bool) (ss:=[.undef]) (ED w q0) (by kernel_rfl) (by simp only [av,bE,aY,bF,bG,ah,ak,Bool.and_self]) (by simp only [ah,aM,av,ak,Bool.and_self]) (by first | rfl | simp only [au,aW,aV,bB,bC,aX,bD,Bool.and_self]) (by first | rfl | simp only [List.all_cons,List.all_nil,au,Bool.and_self]) t
theorem EE (w:ai) (q0:bW w):Cm 29 [.agg (bn (some true) w)] (.bool (jM w),[.undef]):=by
  unfold jM
  have b1:=q0.nodes
  refine Cm.step EB [.undef] fun J hJ=>?_
  rw [EC]
  try simp (disch:=first | assumption | omega) only [go_sem]
  refine gF (fun h=>?_) (fun h=>eH fun o=>w5 h o.ok)
  have o:=pT h
  have nl:=o.ns.len
  try simp (disch:=first | assumption | omega) only [go_sem]
  refine hJ _ _ ?_
  refine WP.L6 (H:=fun i:Nat=>kv w (i:Int)) 3 (fun i=>∀ a,a < i→∀ k,k < a→Xm w a k) (fun i hi inv next=>?_) 0 (by omega) (fun a h=>absurd h (by omega))
  refine WP.step fun J hJ=>?_
  rw [Ax]
  try simp (disch:=first | assumption | omega) only [go_sem]
  refine bq (fun hl=>?_) (fun hl=>As ⟨o,fun a ha=>inv a (by omega)⟩)
  try simp (disch:=first | assumption | omega) only [go_sem]
  refine hJ _ _ ?_
  have oi:=QV q0 (show i < w.nodes.length by omega)
  have bi:=nF (fI (o.ns.nd i (by omega)).ok).mt
  have mi:=oi.image
  refine WP.L6 (H:=fun k:Nat=>ky w i k) i (fun k=>∀ b,b < k→Xm w i b) (fun k hk inv2 p9=>?_) 0 (by omega) (fun a h=>absurd h (by omega))
  refine WP.step fun J hJ=>?_
  rw [Ay]
  try simp (disch:=first | assumption | omega) only [go_sem]
  refine bq (fun yw=>?_) (fun yw=>?_)
  · have ok:=QV q0 (show k < w.nodes.length by omega)
    have bk:=nF (fI (o.ns.nd k (by omega)).ok).mt
    have mk:=ok.image
    have s1:=Eb oi.mt (k:=k) (by omega)
    have s2:=Eb ok.mt (k:=i) (by omega)
    try simp (disch:=first | assumption | omega) only [go_sem]
    refine hJ _ _ ?_
    refine WP.up (H:=fun c:Nat=>kz w i k c _ _ _ _ _ _ _ _ _ _ _ _ _ _ _ _ _ _ _ _ _ _ _ _ _ _ _ _ _ _ _ _ _ _ _ _ _ _ _ _ _ _ _ _ _ _ _ _ _ _ _ _ _ _ _ _ _ _ _ _ _ _ _ _ _ _ _ _ _ _) (fD (w.nodes.getD i n0).image (w.nodes.getD k n0).image).length (fun c=>∀ a,a < c→(fD (w.nodes.getD i n0).image (w.nodes.getD k n0).image).getD a 0∈(w.nodes.getD i n0).mt.bits.getD k []∨(fD (w.nodes.getD i n0).image (w.nodes.getD k n0).image).getD a 0∈(w.nodes.getD k n0).mt.bits.getD i []) (fun c hc GH J hJ Je=>?_) 0 (by omega) (fun a h=>absurd h (by omega))
    rw [Az]
    have dl:=w6 (w.nodes.getD i n0).image (w.nodes.getD k n0).image 8
    have dl:(fD (w.nodes.getD i n0).image (w.nodes.getD k n0).image).length≤8:=dl
    try simp (disch:=first | assumption | omega) only [go_sem]
    refine bq (fun E4=>?_) (fun E4=>?_)
    · try simp (disch:=first | assumption | omega) only [go_sem]
      refine bq (fun h1=>?_) (fun h1=>?_)
      · try simp (disch:=first | assumption | omega) only [go_sem]
        exact Je (by omega) (dk GH (.inl h1))
      · try simp (disch:=first | assumption | omega) only [go_sem]
        refine bq (fun h2=>?_) (fun h2=>eH fun o=>(o.all i (by omega) k (by omega) _ (o8 (d:=0) (i:=c) (by omega))).elim h1 h2)
        try simp (disch:=first | assumption | omega) only [go_sem]
        exact Je (by omega) (dk GH (.inr h2))
    · try simp (disch:=first | assumption | omega) only [go_sem]
      exact hJ _ _ (p9 (by omega) (dk inv2 (Jd (d:=0) fun a ha=>GH a (by omega))))
  · try simp (disch:=first | assumption | omega) only [go_sem]
    exact hJ _ _ (next (by omega) (dk inv fun b hb=>inv2 b (by omega)))
@[go_sem] theorem Xu (w:ai) (q0:bW w) (t:bS Rz):aU 29 [.agg (fm (some true) w)] t=feed t [.bool (jM w)]:=by
  exact bR (r:=.bool (jM w)) (s:=.bool) (ss:=[.undef]) (EE w q0) (by kernel_rfl) (by simp only [av,bE,aY,bF,bG,ah,ak,Bool.and_self]) (by simp only [ah,aM,av,ak,Bool.and_self]) (by first | rfl | simp only [au,aW,aV,bB,bC,aX,bD,Bool.and_self]) (by first | rfl | simp only [List.all_cons,List.all_nil,au,Bool.and_self]) t
end Go.Proofs.YtockoilcnmljiaaGreat
