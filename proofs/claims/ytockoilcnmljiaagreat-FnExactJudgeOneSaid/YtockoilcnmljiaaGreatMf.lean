/- What these proofs stand on, part 6: an abstract machine on plain data, its soundness, and the contracts of functions. -/
import Derived.Attr
import Derived.Test.YtockoilcnmljiaaGreatMe
set_option linter.all false
set_option linter.unusedSimpArgs false
set_option linter.unusedVariables false
set_option linter.unnecessarySimpa false
set_option linter.unusedSectionVars false
namespace Go.Proofs.YtockoilcnmljiaaGreat
set_option maxRecDepth 100000
section
variable (pr:dr) (cv:Cv Rz) (J:Nat→St→Option Rz)
def ke (g0:Bool) (n1:Nat) (c2:List D) (i3:Int) (i4:Int) (n5:Nat) (c6:List D):St:=(St.mk [(3,(.ref 10003 [] 0 none)),(7,(.sl (some g0) 1 n1 c2)),(8,(.int .i64 i3)),(9,(.int .i64 i4))] [(10003,[(.sl none 1 n5 c6)])] [] 0)
theorem Kw:Told cfg Tryz.prog 170 Tryz.f170:=⟨by kernel_rfl,Tryz.func170,by kernel_rfl⟩
theorem Kx (g0:Bool) (n0:Nat) (c0:List D):aR pr cv J 170 Tryz.f170 [(.sl (some g0) 1 n0 c0)]=
    (J 0 (ke g0 n0 c0 (pr.aS n0) 0 0 [])):=by kernel_rfl
theorem uS (g0:Bool) (n1:Nat) (c2:List D) (i3:Int) (i4:Int) (n5:Nat) (c6:List D):bJ pr cv J 170 Tryz.f170 [.undef] 0 (ke g0 n1 c2 i3 i4 n5 c6)=
    (br (pr.lt i4 i3) (br (pr.bg i4 n1) (br (br (pr.bO .i64 c2 (pr.idx 0 i4 1)) true false) (cv 172 [(.int .i64 (pr.aO c2 (pr.idx 0 i4 1)))] (.sl (fun dQ=>(fun dt=>(.done (br (br (br (pr.nl dt) true false) true false) (br (br (pr.flat dt) (pr.fits (n5+dQ) 1) false) (J 0 (ke g0 n1 c2 i3 (pr.ar .add .i64 i4 1) (n5+dQ) (List.append c6 dt))) none) none)))))) none) none) (some ((.sl none 1 n5 c6),[.undef]))):=by kernel_rfl
theorem Ky:Told cfg Tryz.prog 169 Tryz.f169:=⟨by kernel_rfl,Tryz.func169,by kernel_rfl⟩
theorem Kz (g0:Bool) (n0:Nat) (c0:List D):aR pr cv J 169 Tryz.f169 [(.sl (some g0) 1 n0 c0)]=
    (cv 170 [(.sl (some true) 1 1 [(.int .i64 (pr.aS n0))])] (.sl (fun dQ=>(fun dt=>(.done (br (br (br (pr.nl dt) true false) true false) (cv 170 [(.sl (some g0) 1 n0 c0)] (.sl (fun pc=>(fun iX=>(.done (br (br (br (pr.nl iX) true false) true false) (br (br (pr.flat iX) (pr.fits (dQ+pc) 1) false) (some ((.sl none 1 (dQ+pc) (List.append dt iX)),[.undef])) none) none)))))) none)))))):=by kernel_rfl
def lq (i0:Int) (g1:Bool) (n2:Nat) (c3:List D) (g4:Bool) (n5:Nat) (c6:List D) (b7:Bool) (b8:Bool) (b9:Bool) (i10:Int) (dH:Nat) (dR:List D):St:=(St.mk [(1,(.ptr 1 [] 0)),(3,(.ref 10003 [] 0 none)),(4,(.int .i64 i0))] [(1,[(.sl (some g1) 1 n2 c3),(.sl (some g4) 1 n5 c6),(.bool b7),(.bool b8),(.bool b9),(.int .i64 i10)]),(10003,[(.sl none 1 dH dR)])] [] 0)
def lr (i0:Int) (g1:Bool) (n2:Nat) (c3:List D) (g4:Bool) (n5:Nat) (c6:List D) (b7:Bool) (b8:Bool) (b9:Bool) (i10:Int) (dH:Nat) (dR:List D):St:=(St.mk [(1,(.ptr 1 [] 0)),(3,(.ref 10003 [] 0 none)),(5,(.int .i64 i0))] [(1,[(.sl (some g1) 1 n2 c3),(.sl (some g4) 1 n5 c6),(.bool b7),(.bool b8),(.bool b9),(.int .i64 i10)]),(10003,[(.sl none 1 dH dR)])] [] 0)
def lu (i0:Int) (i1:Int) (g2:Bool) (n3:Nat) (c4:List D) (g5:Bool) (n6:Nat) (c7:List D) (b8:Bool) (b9:Bool) (ie:Bool) (i11:Int) (fF:Nat) (ga:List D):St:=(St.mk [(1,(.ptr 1 [] 0)),(3,(.ref 10003 [] 0 none)),(5,(.int .i64 i0)),(6,(.int .i64 i1))] [(1,[(.sl (some g2) 1 n3 c4),(.sl (some g5) 1 n6 c7),(.bool b8),(.bool b9),(.bool ie),(.int .i64 i11)]),(10003,[(.sl none 1 fF ga)])] [] 0)
theorem wM:Told cfg Tryz.prog 157 Tryz.f157:=⟨by kernel_rfl,Tryz.func157,by kernel_rfl⟩
theorem wN (g0:Bool) (n0:Nat) (c0:List D) (g1:Bool) (n1:Nat) (c1:List D) (a2:Bool) (a3:Bool) (a4:Bool) (a5:Int):aR pr cv J 157 Tryz.f157 [(.agg [(.sl (some g0) 1 n0 c0),(.sl (some g1) 1 n1 c1),(.bool a2),(.bool a3),(.bool a4),(.int .i64 a5)])]=
    let y1:List D:=[(.sl (some g0) 1 n0 c0),(.sl (some g1) 1 n1 c1),(.bool a2),(.bool a3),(.bool a4),(.int .i64 a5)]
    (cv 100 [(.agg y1)] (.bool (fun bK=>(.done (br (br bK false true) (some ((.sl none 1 0 []),[.undef])) (cv 163 [(.int .i64 (pr.aS n0))] (.sl (fun Co=>(fun uO=>(.done (br (br (br (pr.nl uO) true false) true false) (J 0 (lq 0 g0 n0 c0 g1 n1 c1 a2 a3 a4 a5 Co uO)) none))))))))))):=by kernel_rfl
theorem sc (i0:Int) (g1:Bool) (n2:Nat) (c3:List D) (g4:Bool) (n5:Nat) (c6:List D) (b7:Bool) (b8:Bool) (b9:Bool) (i10:Int) (dH:Nat) (dR:List D):bJ pr cv J 157 Tryz.f157 [.undef] 0 (lq i0 g1 n2 c3 g4 n5 c6 b7 b8 b9 i10 dH dR)=
    (br (pr.lt i0 (pr.aS n2)) (br (pr.bg i0 n2) (br (br (pr.bO .i64 c3 (pr.idx 0 i0 1)) true false) (cv 163 [(.int .i64 (pr.aO c3 (pr.idx 0 i0 1)))] (.sl (fun dQ=>(fun dt=>(.done (br (br (br (pr.nl dt) true false) true false) (br (br (pr.flat dt) (pr.fits (dH+dQ) 1) false) (J 0 (lq (pr.ar .add .i64 i0 1) g1 n2 c3 g4 n5 c6 b7 b8 b9 i10 (dH+dQ) (List.append dR dt))) none) none)))))) none) none) (J 2 (lr 0 g1 n2 c3 g4 n5 c6 b7 b8 b9 i10 dH dR))):=by kernel_rfl
theorem sd (i0:Int) (g1:Bool) (n2:Nat) (c3:List D) (g4:Bool) (n5:Nat) (c6:List D) (b7:Bool) (b8:Bool) (b9:Bool) (i10:Int) (dH:Nat) (dR:List D):bJ pr cv J 157 Tryz.f157 [.undef] 2 (lr i0 g1 n2 c3 g4 n5 c6 b7 b8 b9 i10 dH dR)=
    (br (pr.lt i0 3) (br (pr.bg i0 n5) (br (br (pr.aN 1 c6 (pr.idx 0 i0 1)) true false) (cv 163 [(.int .i64 (pr.aS (pr.aC c6 (pr.idx 0 i0 1))))] (.sl (fun dQ=>(fun dt=>(.done (br (br (br (pr.nl dt) true false) true false) (br (br (pr.flat dt) (pr.fits (dH+dQ) 1) false) (J 4 (lu i0 0 g1 n2 c3 g4 n5 c6 b7 b8 b9 i10 (dH+dQ) (List.append dR dt))) none) none)))))) none) none) (cv 81 [(.bool b7)] (.int (fun sb=>(.done (cv 81 [(.bool b8)] (.int (fun Ck=>(.done (cv 81 [(.bool b9)] (.int (fun qK=>(.done (cv 163 [(.int .i64 (pr.ar .add .i64 (pr.ar .add .i64 sb (pr.ar .mul .i64 2 Ck)) (pr.ar .mul .i64 4 qK)))] (.sl (fun SX=>(fun QJ=>(.done (br (br (br (pr.nl QJ) true false) true false) (br (br (pr.flat QJ) (pr.fits (dH+SX) 1) false) (cv 163 [(.int .i64 i10)] (.sl (fun vn7=>(fun vc8=>(.done (br (br (br (pr.nl vc8) true false) true false) (br (br (pr.flat vc8) (pr.fits ((dH+SX)+vn7) 1) false) (some ((.sl none 1 ((dH+SX)+vn7) (List.append (List.append dR QJ) vc8)),[.undef])) none) none)))))) none) none))))))))))))))))))):=by kernel_rfl
theorem se (i0:Int) (i1:Int) (g2:Bool) (n3:Nat) (c4:List D) (g5:Bool) (n6:Nat) (c7:List D) (b8:Bool) (b9:Bool) (ie:Bool) (i11:Int) (fF:Nat) (ga:List D):bJ pr cv J 157 Tryz.f157 [.undef] 4 (lu i0 i1 g2 n3 c4 g5 n6 c7 b8 b9 ie i11 fF ga)=
    (br (pr.bg i0 n6) (br (br (pr.aN 1 c7 (pr.idx 0 i0 1)) true false) (br (pr.lt i1 (pr.aS (pr.aC c7 (pr.idx 0 i0 1)))) (br (pr.bg i0 n6) (br (br (pr.aN 1 c7 (pr.idx 0 i0 1)) true false) (br (pr.bg i1 (pr.aC c7 (pr.idx 0 i0 1))) (br (br (pr.bO .i64 (pr.aE c7 (pr.idx 0 i0 1)) (pr.idx 0 i1 1)) true false) (cv 163 [(.int .i64 (pr.aO (pr.aE c7 (pr.idx 0 i0 1)) (pr.idx 0 i1 1)))] (.sl (fun dQ=>(fun dt=>(.done (br (br (br (pr.nl dt) true false) true false) (br (br (pr.flat dt) (pr.fits (fF+dQ) 1) false) (J 4 (lu i0 (pr.ar .add .i64 i1 1) g2 n3 c4 g5 n6 c7 b8 b9 ie i11 (fF+dQ) (List.append ga dt))) none) none)))))) none) none) none) none) (J 2 (lr (pr.ar .add .i64 i0 1) g2 n3 c4 g5 n6 c7 b8 b9 ie i11 fF ga))) none) none):=by kernel_rfl
def iR (g0:Bool) (n1:Nat) (c2:List D) (i3:Int) (i4:Int) (g5:Bool) (n6:Nat) (c7:List D) (b8:Bool) (b9:Bool) (ie:Bool) (i11:Int) (fF:Nat) (ga:List D):St:=(St.mk [(1,(.ptr 1 [] 0)),(3,(.ref 10003 [] 0 none)),(13,(.sl (some g0) 1 n1 c2)),(14,(.int .i64 i3)),(15,(.int .i64 i4))] [(1,[(.sl (some g5) 1 n6 c7),(.sl (some g0) 1 n1 c2),(.bool b8),(.bool b9),(.bool ie),(.int .i64 i11)]),(10003,[(.sl none 1 fF ga)])] [] 0)
theorem wO:Told cfg Tryz.prog 166 Tryz.f166:=⟨by kernel_rfl,Tryz.func166,by kernel_rfl⟩
theorem wP (g0:Bool) (n0:Nat) (c0:List D) (g1:Bool) (n1:Nat) (c1:List D) (a2:Bool) (a3:Bool) (a4:Bool) (a5:Int):aR pr cv J 166 Tryz.f166 [(.agg [(.sl (some g0) 1 n0 c0),(.sl (some g1) 1 n1 c1),(.bool a2),(.bool a3),(.bool a4),(.int .i64 a5)])]=
    let y1:List D:=[(.sl (some g0) 1 n0 c0),(.sl (some g1) 1 n1 c1),(.bool a2),(.bool a3),(.bool a4),(.int .i64 a5)]
    (cv 111 [(.agg y1)] (.bool (fun bK=>(.done (br (br bK false true) (some ((.sl none 1 0 []),[.undef])) (cv 169 [(.sl (some g0) 1 n0 c0)] (.sl (fun Co=>(fun uO=>(.done (br (br (br (pr.nl uO) true false) true false) (J 0 (iR g1 n1 c1 (pr.aS n1) 0 g0 n0 c0 a2 a3 a4 a5 Co uO)) none))))))))))):=by kernel_rfl
theorem sj (g0:Bool) (n1:Nat) (c2:List D) (i3:Int) (i4:Int) (g5:Bool) (n6:Nat) (c7:List D) (b8:Bool) (b9:Bool) (ie:Bool) (i11:Int) (fF:Nat) (ga:List D):bJ pr cv J 166 Tryz.f166 [.undef] 0 (iR g0 n1 c2 i3 i4 g5 n6 c7 b8 b9 ie i11 fF ga)=
    (br (pr.lt i4 i3) (br (pr.bg i4 n1) (br (br (pr.aN 1 c2 (pr.idx 0 i4 1)) true false) (cv 169 [(.sl (some (pr.aH c2 (pr.idx 0 i4 1))) 1 (pr.aC c2 (pr.idx 0 i4 1)) (pr.aE c2 (pr.idx 0 i4 1)))] (.sl (fun dQ=>(fun dt=>(.done (br (br (br (pr.nl dt) true false) true false) (br (br (pr.flat dt) (pr.fits (fF+dQ) 1) false) (J 0 (iR g0 n1 c2 i3 (pr.ar .add .i64 i4 1) g5 n6 c7 b8 b9 ie i11 (fF+dQ) (List.append ga dt))) none) none)))))) none) none) (cv 171 [(.bool b8),(.int .i64 1)] (.int (fun sb=>(.done (cv 171 [(.bool b9),(.int .i64 2)] (.int (fun Ck=>(.done (cv 171 [(.bool ie),(.int .i64 4)] (.int (fun qK=>(.done (cv 170 [(.sl (some true) 1 2 [(.int .i64 (pr.ar .add .i64 (pr.ar .add .i64 sb Ck) qK)),(.int .i64 i11)])] (.sl (fun SX=>(fun QJ=>(.done (br (br (br (pr.nl QJ) true false) true false) (br (br (pr.flat QJ) (pr.fits (fF+SX) 1) false) (some ((.sl none 1 (fF+SX) (List.append ga QJ)),[.undef])) none) none))))))))))))))))))):=by kernel_rfl
end
def eR (xs:List Int):List UInt8:=xs.flatMap dD
theorem kH:∀ xs:List Int,(eR xs).length≤5*xs.length
  | []=>by simp [eR]
  | x::xs=>by
    have h1:=kH xs
    have h2:=fJ x
    simp only [eR,List.flatMap_cons,List.length_append,List.length_cons] at h1 ⊢
    omega
theorem ym {xs:List Int} {i:Nat} (h:i < xs.length):eR (xs.take (i+1))=eR (xs.take i)++dD xs[i]:=by
  unfold eR
  rw [← List.take_append_getElem h,List.flatMap_append,List.flatMap_cons,List.flatMap_nil,List.append_nil]
def df (xs:List Int):List UInt8:=dD (xs.length:Int)++eR xs
theorem nW (xs:List Int):(df xs).length≤5+5*xs.length:=by
  have h1:=kH xs
  have h2:=fJ (xs.length:Int)
  simp only [df,List.length_append]
  omega
def fN (xss:List (List Int)):List UInt8:=xss.flatMap df
theorem oM:∀ xss:List (List Int),(∀ xs∈xss,xs.length≤1048576)→(fN xss).length≤5242885*xss.length
  | [],_=>by simp [fN]
  | xs::xss,h=>by
    have h1:=oM xss fun x hx=>h x (List.mem_cons_of_mem _ hx)
    have h2:=nW xs
    have h3:=h xs List.mem_cons_self
    simp only [fN,List.flatMap_cons,List.length_append,List.length_cons] at h1 ⊢
    omega
theorem IS {xss:List (List Int)} {i:Nat} (h:i < xss.length):fN (xss.take (i+1))=fN (xss.take i)++df xss[i]:=by
  unfold fN
  rw [← List.take_append_getElem h,List.flatMap_append,List.flatMap_cons,List.flatMap_nil,List.append_nil]
def qm (b:Bool) (k:Int):Int:=if b then k else 0
def np (m:bj):Int:=qm m.dq 1+qm m.cg 2+qm m.held 4
def cO (m:bj):List UInt8:=if hD m then (df m.aP++fN m.bits)++(dD (np m)++dD m.last) else []
theorem acu (b:Bool):Cm 81 [.bool b] (.int .i64 (qm b 1),[.undef]):=by
  refine Cm.fin Qw fun J=>?_
  rw [Qx]
  cases b<;>rfl
theorem afe (b:Bool) (k:Int):Cm 171 [.bool b,.int .i64 k] (.int .i64 (qm b k),[.undef,.undef]):=by
  refine Cm.fin Rq fun J=>?_
  rw [Rr]
  cases b<;>rfl
theorem WU (g:Bool) (xs:List Int) (hb:xs.length≤1048576):Cm 170 [.sl (some g) 1 xs.length (ints xs)] (.sl none 1 (eR xs).length (bytes (eR xs)),[.undef]):=by
  refine Cm.go Kw [.undef] 0 (ke g xs.length (ints xs) xs.length (0:Nat) 0 []) ?_ fun J hJ=>?_
  · refine WP.loop (H:=fun i:Nat=>ke g xs.length (ints xs) xs.length (i:Nat) (eR (xs.take i)).length (bytes (eR (xs.take i)))) (n:=xs.length) (fun _=>True) (fun i hi _ ih=>WP.go _ (ih trivial) fun J hJ=>?_) (fun _=>WP.fin fun J=>?_) 0 (Nat.zero_le _) trivial
    · have l1:=kH (xs.take i)
      have l2:=fJ xs[i]
      have l3:(xs.take i).length≤xs.length:=by simp; omega
      rw [uS]
      simp (disch:=first | omega | assumption) only [aZ,bA,cS,dB,dC,Nd,dc,ao,eK,aI,bm,jm,eu,gE,dn]
      rw [ym hi,List.length_append] at hJ
      exact hJ
    · rw [uS]
      simp (disch:=omega) only [bH,List.take_length]
  · rw [Kx]
    exact hJ
section
variable (t:bS Rz)
theorem SY (b:Bool):aU 81 [.bool b] t=feed t [.int .i64 (qm b 1)]:=bh (acu b) (by kernel_rfl) t
theorem aff (b:Bool) (k:Int):aU 171 [.bool b,.int .i64 k] t=feed t [.int .i64 (qm b k)]:=bh (afe b k) (by kernel_rfl) t
theorem CZ (g:Bool) (xs:List Int) (n:Nat) (hn:n=xs.length) (hb:xs.length≤1048576):aU 170 [.sl (some g) 1 n (ints xs)] t=feed t [.sl none 1 (eR xs).length (bytes (eR xs))]:=by subst hn; exact bh (WU g xs hb) (by kernel_rfl) t
theorem Ux (g:Bool) (a:Int):aU 170 [.sl (some g) 1 1 [.int .i64 a]] t=feed t [.sl none 1 (dD a).length (bytes (dD a))]:=by
  have e:eR [a]=dD a:=by simp [eR]
  rw [← e]
  exact CZ t g [a] 1 rfl (by simp)
theorem Uy (g:Bool) (a b:Int):aU 170 [.sl (some g) 1 2 [.int .i64 a,.int .i64 b]] t=feed t [.sl none 1 (dD a++dD b).length (bytes (dD a++dD b))]:=by
  have e:eR [a,b]=dD a++dD b:=by simp [eR]
  rw [← e]
  exact CZ t g [a,b] 2 rfl (by simp)
end
theorem WV (g:Bool) (xs:List Int) (hb:xs.length≤1048576):Cm 169 [.sl (some g) 1 xs.length (ints xs)] (.sl none 1 (df xs).length (bytes (df xs)),[.undef]):=by
  refine Cm.fin Ky fun J=>?_
  rw [Kz]
  have l1:=kH xs
  have l2:=fJ (xs.length:Int)
  simp (disch:=first | omega | assumption | rfl) only [aB,Ux,CZ,dc,ao,eK,aI,bm,jm,eu,gE]
  unfold df
  rw [List.length_append]
theorem LW (g:Bool) (xs:List Int) (n:Nat) (hn:n=xs.length) (hb:xs.length≤1048576) (t:bS Rz):aU 169 [.sl (some g) 1 n (ints xs)] t=feed t [.sl none 1 (df xs).length (bytes (df xs))]:=by subst hn; exact bh (WV g xs hb) (by kernel_rfl) t
theorem nF {m:bj} (h:hD m=true):m.bits.length=3:=by
  simp only [hD,Bool.and_eq_true,beq_iff_eq] at h
  omega
abbrev LX (l:List UInt8):Rz:=(.sl none 1 l.length (bytes l),[.undef])
theorem Ga (g:Bool) (m:bj) (hm:du m):Cm 166 [.agg (cL (some g) m)] (LX (cO m)):=by
  unfold cO
  have b0:=hm.aP
  cases cQ:hD m with
  | false=>
    refine Cm.fin wO fun J=>?_
    rw [wP]
    simp (disch:=assumption) only [AR,aF,ao,cQ,bQ,cf,bd]
    rfl
  | true=>
    rw [if_pos rfl]
    have hl:=nF cQ
    have l0:=nW m.aP
    have l3:=fJ (np m)
    have l4:=fJ m.last
    refine Cm.go wO [.undef] 0 (iR g m.bits.length (rows (some g) m.bits) m.bits.length (0:Nat) g m.aP.length (ints m.aP) m.dq m.cg m.held m.last (df m.aP).length (bytes (df m.aP))) ?_ fun J hJ=>?_
    · have:=WP.loop (f:=166) (fn:=Tryz.f166) (sk:=[.undef]) (j:=0) (r:=LX ((df m.aP++fN m.bits)++(dD (np m)++dD m.last))) (H:=fun i:Nat=>iR g m.bits.length (rows (some g) m.bits) m.bits.length (i:Nat) g m.aP.length (ints m.aP) m.dq m.cg m.held m.last (df m.aP++fN (m.bits.take i)).length (bytes (df m.aP++fN (m.bits.take i)))) (n:=m.bits.length) (fun _=>True) (fun i hi _ ih=>WP.go _ (ih trivial) fun J hJ=>?_) (fun _=>WP.fin fun J=>?_) 0 (Nat.zero_le _) trivial
      · simpa [fN] using this
      · have l1:=oM (m.bits.take i) fun x hx=>hm.bits.2 x (List.mem_of_mem_take hx)
        have l5:(m.bits.take i).length≤3:=by simp; omega
        have l2:=nW m.bits[i]
        have b2:=hm.bits.2 _ (List.getElem_mem hi)
        have l6:(df m.aP++fN (m.bits.take i)).length≤30000000:=by rw [List.length_append]; omega
        rw [sj]
        simp (disch:=first | omega | assumption) only [aZ,bA,cS,iK,iL,iM,jt,LW,dc,ao,eK,aI,bm,jm,eu,gE,dn]
        rw [IS hi,← List.append_assoc,List.length_append (bs:=df m.bits[i])] at hJ
        exact hJ
      · have l1:=oM m.bits hm.bits.2
        have l6:(df m.aP++fN m.bits).length≤30000000:=by rw [List.length_append]; omega
        have l7:(dD (np m)++dD m.last).length≤10:=by rw [List.length_append]; omega
        have hf:ad.ar .add .i64 (ad.ar .add .i64 (qm m.dq 1) (qm m.cg 2)) (qm m.held 4)=np m:=by
          unfold np
          cases m.dq<;>cases m.cg<;>cases m.held<;>rfl
        rw [sj]
        simp (disch:=first | omega | assumption) only [bH,List.take_length,aff,cn,ao,hf,Uy,dc,eK,aI,bm,jm,eu,gE]
        simp only [LX,List.length_append]
    · rw [wP]
      simp (disch:=first | omega | assumption | rfl) only [AR,aF,ao,cQ,bQ,cf,aI,LW,dc,eK,bm,aB]
      exact hJ
theorem Gb (g:Bool) (m:bj) (hm:du m):Cm 157 [.agg (cL (some g) m)] (LX (cO m)):=by
  unfold cO
  have b0:=hm.aP
  cases cQ:hD m with
  | false=>
    refine Cm.fin wM fun J=>?_
    rw [wN]
    simp (disch:=assumption) only [AQ,aF,ao,cQ,bQ,cf,bd]
    rfl
  | true=>
    rw [if_pos rfl]
    have hl:=nF cQ
    have l0:=nW m.aP
    have l3:=fJ (np m)
    have l4:=fJ m.last
    have w2:∀ k i,i+k=3→WP 157 Tryz.f157 [.undef] 2 (lr (i:Nat) g m.aP.length (ints m.aP) g m.bits.length (rows (some g) m.bits) m.dq m.cg m.held m.last (df m.aP++fN (m.bits.take i)).length (bytes (df m.aP++fN (m.bits.take i)))) (LX ((df m.aP++fN m.bits)++(dD (np m)++dD m.last))):=by
      intro k
      induction k with
      | zero=>
        intro i hi
        obtain rfl:i=3:=by omega
        have l1:=oM m.bits hm.bits.2
        have l6:(df m.aP++fN m.bits).length≤30000000:=by rw [List.length_append]; omega
        have ht:m.bits.take 3=m.bits:=by rw [← hl,List.take_length]
        have hf:ad.ar .add .i64 (ad.ar .add .i64 (qm m.dq 1) (ad.ar .mul .i64 2 (qm m.cg 1))) (ad.ar .mul .i64 4 (qm m.held 1))=np m:=by
          unfold np
          cases m.dq<;>cases m.cg<;>cases m.held<;>rfl
        refine WP.fin fun J=>?_
        rw [sd,ht]
        simp (disch:=first | omega | assumption) only [bH,SY,cn,ao,hf,nn,dc,eK,aI,bm,jm,eu,gE]
        simp only [LX,List.length_append,List.append_assoc,Nat.add_assoc]
      | succ k ih=>
        intro i hi
        have So:i < m.bits.length:=by omega
        have ih:=ih (i+1) (by omega)
        have l1:=oM (m.bits.take i) fun x hx=>hm.bits.2 x (List.mem_of_mem_take hx)
        have l5:(m.bits.take i).length≤3:=by simp; omega
        have b2:=hm.bits.2 _ (List.getElem_mem So)
        have l6:(df m.aP++fN (m.bits.take i)).length≤30000000:=by rw [List.length_append]; omega
        have l8:=fJ (m.bits[i].length:Int)
        have w4:=WP.loop (f:=157) (fn:=Tryz.f157) (sk:=[.undef]) (j:=4) (r:=LX ((df m.aP++fN m.bits)++(dD (np m)++dD m.last))) (H:=fun j:Nat=>lu (i:Nat) (j:Nat) g m.aP.length (ints m.aP) g m.bits.length (rows (some g) m.bits) m.dq m.cg m.held m.last ((df m.aP++fN (m.bits.take i))++dD (m.bits[i].length:Int)++eR (m.bits[i].take j)).length (bytes ((df m.aP++fN (m.bits.take i))++dD (m.bits[i].length:Int)++eR (m.bits[i].take j)))) (n:=m.bits[i].length) (fun _=>True) (fun j hj _ ih4=>WP.go _ (ih4 trivial) fun J hJ=>?_) (fun _=>WP.go _ ih fun J hJ=>?_) 0 (Nat.zero_le _) trivial
        · refine WP.go _ w4 fun J hJ=>?_
          rw [sd]
          simp (disch:=first | omega | assumption) only [aZ,bA,cS,iK,iL,iM,jt,aB,nn,dc,ao,eK,aI,bm,jm,eu,gE]
          simp only [List.take_zero,eR,List.flatMap_nil,List.append_nil] at hJ
          rw [List.length_append (bs:=dD (m.bits[i].length:Int))] at hJ
          exact hJ
        · have l9:=kH (m.bits[i].take j)
          have l10:(m.bits[i].take j).length≤m.bits[i].length:=by simp; omega
          have l11:=fJ m.bits[i][j]
          have l12:((df m.aP++fN (m.bits.take i))++dD (m.bits[i].length:Int)++eR (m.bits[i].take j)).length≤60000000:=by rw [List.length_append,List.length_append]; omega
          rw [se]
          simp (disch:=first | omega | assumption) only [aZ,bA,cS,iK,dB,dC,iL,iM,jt,aB,nn,dc,ao,eK,aI,bm,jm,eu,gE,dn]
          rw [ym hj,← List.append_assoc,List.length_append (bs:=dD m.bits[i][j])] at hJ
          exact hJ
        · rw [se]
          simp (disch:=first | omega | assumption) only [bH,bA,cS,iK,iM,aB,aI,bm,dn,List.take_length]
          have e:fN (m.bits.take (i+1))=fN (m.bits.take i)++(dD (m.bits[i].length:Int)++eR m.bits[i]):=IS So
          rw [e,← List.append_assoc,← List.append_assoc] at hJ
          exact hJ
    have w0:=WP.loop (f:=157) (fn:=Tryz.f157) (sk:=[.undef]) (j:=0) (r:=LX ((df m.aP++fN m.bits)++(dD (np m)++dD m.last))) (H:=fun i:Nat=>lq (i:Nat) g m.aP.length (ints m.aP) g m.bits.length (rows (some g) m.bits) m.dq m.cg m.held m.last (dD (m.aP.length:Int)++eR (m.aP.take i)).length (bytes (dD (m.aP.length:Int)++eR (m.aP.take i)))) (n:=m.aP.length) (fun _=>True) (fun i hi _ ih=>WP.go _ (ih trivial) fun J hJ=>?_) (fun _=>WP.go _ (w2 3 0 rfl) fun J hJ=>?_) 0 (Nat.zero_le _) trivial
    · refine Cm.go wM [.undef] 0 _ w0 fun J hJ=>?_
      rw [wN]
      simp (disch:=first | omega | assumption | rfl) only [AQ,aF,ao,cQ,bQ,cf,aI,nn,dc,eK,bm,aB]
      simp only [List.take_zero,eR,List.flatMap_nil,List.append_nil] at hJ
      exact hJ
    · have l9:=kH (m.aP.take i)
      have l10:(m.aP.take i).length≤m.aP.length:=by simp; omega
      have l11:=fJ m.aP[i]
      have l8:=fJ (m.aP.length:Int)
      have l12:(dD (m.aP.length:Int)++eR (m.aP.take i)).length≤30000000:=by rw [List.length_append]; omega
      rw [sc]
      simp (disch:=first | omega | assumption) only [aZ,bA,cS,dB,dC,aB,nn,dc,ao,eK,aI,bm,jm,eu,gE,dn]
      rw [ym hi,← List.append_assoc,List.length_append (bs:=dD m.aP[i])] at hJ
      exact hJ
    · rw [sc]
      simp (disch:=omega) only [aB,bH,List.take_length]
      have e:df m.aP++fN (m.bits.take 0)=dD (m.aP.length:Int)++eR m.aP:=by simp [fN,df]
      rw [e] at hJ
      exact hJ
section
variable (t:bS Rz)
theorem wQ (g:Bool) (m:bj) (hm:du m):aU 157 [.agg (cL (some g) m)] t=feed t [.sl none 1 (cO m).length (bytes (cO m))]:=bh (Gb g m hm) (by kernel_rfl) t
theorem wR (g:Bool) (m:bj) (hm:du m):aU 166 [.agg (cL (some g) m)] t=feed t [.sl none 1 (cO m).length (bytes (cO m))]:=bh (Ga g m hm) (by kernel_rfl) t
end
end Go.Proofs.YtockoilcnmljiaaGreat
namespace Go.Proofs.YtockoilcnmljiaaGreat
set_option maxRecDepth 100000
section
variable (pr:dr) (cv:Cv Rz) (J:Nat→St→Option Rz)
def rO (n0:Nat) (c1:List D) (i2:Int) (b3:Bool) (b4:Bool) (b5:Bool) (i6:Int) (n7:Nat) (c8:List D) (i9:Int) (ie:Bool) (dH:Nat) (dR:List D) (IT:Bool) (xW:Bool) (jb:Bool) (i16:Int):St:=(St.mk [(0,(.sl (some true) 1 n0 c1)),(2,(.ptr 2 [] 0)),(4,(.ptr 11 [] 0)),(5,(.ptr 5 [] 0)),(6,(.int .i64 i2))] [(2,[(.nil 1),(.nil 1),(.bool b3),(.bool b4),(.bool b5),(.int .i64 i6)]),(11,[(.sl (some true) 1 n7 c8),(.int .i64 i9),(.bool ie)]),(5,[(.sl none 1 dH dR),(.nil 1),(.bool IT),(.bool xW),(.bool jb),(.int .i64 i16)])] [] 0)
def hI (n0:Nat) (c1:List D) (i2:Int) (b3:Bool) (b4:Bool) (b5:Bool) (i6:Int) (n7:Nat) (c8:List D) (i9:Int) (ie:Bool) (dH:Nat) (dR:List D) (gO:Nat) (gD:List D) (jb:Bool) (nX:Bool) (nT:Bool) (i18:Int):St:=(St.mk [(0,(.sl (some true) 1 n0 c1)),(2,(.ptr 2 [] 0)),(4,(.ptr 11 [] 0)),(5,(.ptr 5 [] 0)),(6,(.int .i64 i2))] [(2,[(.nil 1),(.nil 1),(.bool b3),(.bool b4),(.bool b5),(.int .i64 i6)]),(11,[(.sl (some true) 1 n7 c8),(.int .i64 i9),(.bool ie)]),(5,[(.sl none 1 dH dR),(.sl none 1 gO gD),(.bool jb),(.bool nX),(.bool nT),(.int .i64 i18)])] [] 0)
theorem Nl:Told cfg Tryz.prog 151 Tryz.f151:=⟨by kernel_rfl,Tryz.func151,by kernel_rfl⟩
theorem Nn (n0:Nat) (c0:List D):aR pr cv J 151 Tryz.f151 [(.sl (some true) 1 n0 c0)]=
    (cv 155 [(.bp [(.sl (some false) 1 n0 (ej false c0)),(.int .i64 0),(.bool true)])] (.sl (fun dQ=>(fun dt=>(.jT (fun fb=>(fun C2=>(fun uo=>(.int (fun ui=>(.bool (fun mw=>(.done (br (br (br (pr.nl dt) true false) (br (br (pr.nl uo) true false) true false) false) (J 0 (rO n0 c0 0 false false false 0 C2 (ej true uo) ui mw dQ (ej true dt) false false false 0)) none)))))))))))))):=by kernel_rfl
theorem Gc (n0:Nat) (c1:List D) (i2:Int) (b3:Bool) (b4:Bool) (b5:Bool) (i6:Int) (n7:Nat) (c8:List D) (i9:Int) (ie:Bool) (dH:Nat) (dR:List D) (IT:Bool) (xW:Bool) (jb:Bool) (i16:Int):bJ pr cv J 151 Tryz.f151 [.undef] 0 (rO n0 c1 i2 b3 b4 b5 i6 n7 c8 i9 ie dH dR IT xW jb i16)=
    let y1:List D:=[(.bp [(.sl (some false) 1 n7 (ej false c8)),(.int .i64 i9),(.bool ie)])]
    let y2:Option (D × List D):=(some ((.bf [(.agg [(.sl none 1 0 []),(.sl none 1 0 []),(.bool false),(.bool false),(.bool false),(.int .i64 0)]),(.bool false)]),[.undef]))
    (br (pr.lt i2 3) (cv 155 y1 (.sl (fun dQ=>(fun dt=>(.jT (fun fb=>(fun C2=>(fun uo=>(.int (fun ui=>(.bool (fun mw=>(.done (br (br (br (pr.nl dt) true false) (br (br (pr.nl uo) true false) true false) false) (br (pr.fits 1 24) (J 0 (hI n0 c1 (pr.ar .add .i64 i2 1) b3 b4 b5 i6 C2 (ej true uo) ui mw dH dR 1 [(.sl none 1 dQ (ej true dt))] IT xW jb i16)) none) none)))))))))))))) (cv 156 y1 (.int (fun mA=>(.jT (fun P7=>(fun QK=>(fun wS=>(.int (fun Gd=>(.bool (fun Ge=>(.done (br (br (br (pr.nl wS) true false) true false) (cv 156 [(.bp [(.sl (some false) 1 QK (ej false (ej true wS))),(.int .i64 Gd),(.bool Ge)])] (.int (fun wT=>(.jT (fun Zh=>(fun Zi=>(fun Gf=>(.int (fun Zj=>(.bool (fun Gg=>(.done (br (br (br (pr.nl Gf) true false) true false) (br (br Gg false true) y2 (br (pr.sY c1) (cv 157 [(.agg [(.sl (some true) 1 dH (ba true dR)),(.nil 1),(.bool (br (pr.eq (pr.ar .and .i64 mA 1) 0) false true)),(.bool (br (pr.eq (pr.ar .and .i64 mA 2) 0) false true)),(.bool (br (pr.eq (pr.ar .and .i64 mA 4) 0) false true)),(.int .i64 wT)])] (.sl (fun Gh=>(fun tj=>(.done (br (br (br (pr.nl tj) true false) true false) (br (pr.sY tj) (br (br (pr.seq (pr.BV tj) (pr.BV c1)) false true) y2 (br (pr.eq (pr.aS n0) 0) y2 (some ((.bf [(.agg [(.sl none 1 dH dR),(.sl none 1 0 []),(.bool (br (pr.eq (pr.ar .and .i64 mA 1) 0) false true)),(.bool (br (pr.eq (pr.ar .and .i64 mA 2) 0) false true)),(.bool (br (pr.eq (pr.ar .and .i64 mA 4) 0) false true)),(.int .i64 wT)]),(.bool true)]),[.undef])))) none) none)))))) none)) none))))))))))))) none)))))))))))))):=by kernel_rfl
theorem oN (n0:Nat) (c1:List D) (i2:Int) (b3:Bool) (b4:Bool) (b5:Bool) (i6:Int) (n7:Nat) (c8:List D) (i9:Int) (ie:Bool) (dH:Nat) (dR:List D) (gO:Nat) (gD:List D) (jb:Bool) (nX:Bool) (nT:Bool) (i18:Int):bJ pr cv J 151 Tryz.f151 [.undef] 0 (hI n0 c1 i2 b3 b4 b5 i6 n7 c8 i9 ie dH dR gO gD jb nX nT i18)=
    let y1:List D:=[(.bp [(.sl (some false) 1 n7 (ej false c8)),(.int .i64 i9),(.bool ie)])]
    let y2:Option (D × List D):=(some ((.bf [(.agg [(.sl none 1 0 []),(.sl none 1 0 []),(.bool false),(.bool false),(.bool false),(.int .i64 0)]),(.bool false)]),[.undef]))
    (br (pr.lt i2 3) (cv 155 y1 (.sl (fun dQ=>(fun dt=>(.jT (fun fb=>(fun C2=>(fun uo=>(.int (fun ui=>(.bool (fun mw=>(.done (br (br (br (pr.nl dt) true false) (br (br (pr.nl uo) true false) true false) false) (br (pr.fits (gO+1) 24) (J 0 (hI n0 c1 (pr.ar .add .i64 i2 1) b3 b4 b5 i6 C2 (ej true uo) ui mw dH dR (gO+1) (List.append gD [(.sl none 1 dQ (ej true dt))]) jb nX nT i18)) none) none)))))))))))))) (cv 156 y1 (.int (fun mA=>(.jT (fun P7=>(fun QK=>(fun wS=>(.int (fun Gd=>(.bool (fun Ge=>(.done (br (br (br (pr.nl wS) true false) true false) (cv 156 [(.bp [(.sl (some false) 1 QK (ej false (ej true wS))),(.int .i64 Gd),(.bool Ge)])] (.int (fun wT=>(.jT (fun Zh=>(fun Zi=>(fun Gf=>(.int (fun Zj=>(.bool (fun Gg=>(.done (br (br (br (pr.nl Gf) true false) true false) (br (br Gg false true) y2 (br (pr.sY c1) (cv 157 [(.agg [(.sl (some true) 1 dH (ba true dR)),(.sl (some true) 1 gO (ba true gD)),(.bool (br (pr.eq (pr.ar .and .i64 mA 1) 0) false true)),(.bool (br (pr.eq (pr.ar .and .i64 mA 2) 0) false true)),(.bool (br (pr.eq (pr.ar .and .i64 mA 4) 0) false true)),(.int .i64 wT)])] (.sl (fun Gh=>(fun tj=>(.done (br (br (br (pr.nl tj) true false) true false) (br (pr.sY tj) (br (br (pr.seq (pr.BV tj) (pr.BV c1)) false true) y2 (br (pr.eq (pr.aS n0) 0) y2 (some ((.bf [(.agg [(.sl none 1 dH dR),(.sl none 1 gO gD),(.bool (br (pr.eq (pr.ar .and .i64 mA 1) 0) false true)),(.bool (br (pr.eq (pr.ar .and .i64 mA 2) 0) false true)),(.bool (br (pr.eq (pr.ar .and .i64 mA 4) 0) false true)),(.int .i64 wT)]),(.bool true)]),[.undef])))) none) none)))))) none)) none))))))))))))) none)))))))))))))):=by kernel_rfl
def rP (n0:Nat) (c1:List D) (i2:Int) (b3:Bool) (b4:Bool) (b5:Bool) (i6:Int) (n7:Nat) (c8:List D) (i9:Int) (ie:Bool) (dH:Nat) (dR:List D) (IT:Bool) (xW:Bool) (jb:Bool) (i16:Int):St:=(St.mk [(0,(.sl (some true) 1 n0 c1)),(2,(.ptr 2 [] 0)),(4,(.ptr 11 [] 0)),(5,(.ptr 5 [] 0)),(16,(.int .i64 i2))] [(2,[(.nil 1),(.nil 1),(.bool b3),(.bool b4),(.bool b5),(.int .i64 i6)]),(11,[(.sl (some true) 1 n7 c8),(.int .i64 i9),(.bool ie)]),(5,[(.sl none 1 dH dR),(.nil 1),(.bool IT),(.bool xW),(.bool jb),(.int .i64 i16)])] [] 0)
def hL (n0:Nat) (c1:List D) (i2:Int) (b3:Bool) (b4:Bool) (b5:Bool) (i6:Int) (n7:Nat) (c8:List D) (i9:Int) (ie:Bool) (dH:Nat) (dR:List D) (gO:Nat) (gD:List D) (jb:Bool) (nX:Bool) (nT:Bool) (i18:Int):St:=(St.mk [(0,(.sl (some true) 1 n0 c1)),(2,(.ptr 2 [] 0)),(4,(.ptr 11 [] 0)),(5,(.ptr 5 [] 0)),(16,(.int .i64 i2))] [(2,[(.nil 1),(.nil 1),(.bool b3),(.bool b4),(.bool b5),(.int .i64 i6)]),(11,[(.sl (some true) 1 n7 c8),(.int .i64 i9),(.bool ie)]),(5,[(.sl none 1 dH dR),(.sl none 1 gO gD),(.bool jb),(.bool nX),(.bool nT),(.int .i64 i18)])] [] 0)
theorem No:Told cfg Tryz.prog 159 Tryz.f159:=⟨by kernel_rfl,Tryz.func159,by kernel_rfl⟩
theorem Np (n0:Nat) (c0:List D):aR pr cv J 159 Tryz.f159 [(.sl (some true) 1 n0 c0)]=
    (cv 164 [(.bp [(.sl (some false) 1 n0 (ej false c0)),(.int .i64 0),(.bool true)])] (.sl (fun dQ=>(fun dt=>(.jT (fun fb=>(fun C2=>(fun uo=>(.int (fun ui=>(.bool (fun mw=>(.done (br (br (br (pr.nl dt) true false) (br (br (pr.nl uo) true false) true false) false) (J 0 (rP n0 c0 0 false false false 0 C2 (ej true uo) ui mw dQ (ej true dt) false false false 0)) none)))))))))))))):=by kernel_rfl
theorem Gi (n0:Nat) (c1:List D) (i2:Int) (b3:Bool) (b4:Bool) (b5:Bool) (i6:Int) (n7:Nat) (c8:List D) (i9:Int) (ie:Bool) (dH:Nat) (dR:List D) (IT:Bool) (xW:Bool) (jb:Bool) (i16:Int):bJ pr cv J 159 Tryz.f159 [.undef] 0 (rP n0 c1 i2 b3 b4 b5 i6 n7 c8 i9 ie dH dR IT xW jb i16)=
    let y1:List D:=[(.bp [(.sl (some false) 1 n7 (ej false c8)),(.int .i64 i9),(.bool ie)])]
    let y2:Option (D × List D):=(some ((.bf [(.agg [(.sl none 1 0 []),(.sl none 1 0 []),(.bool false),(.bool false),(.bool false),(.int .i64 0)]),(.bool false)]),[.undef]))
    (br (pr.lt i2 3) (cv 164 y1 (.sl (fun dQ=>(fun dt=>(.jT (fun fb=>(fun C2=>(fun uo=>(.int (fun ui=>(.bool (fun mw=>(.done (br (br (br (pr.nl dt) true false) (br (br (pr.nl uo) true false) true false) false) (br (pr.fits 1 24) (J 0 (hL n0 c1 (pr.ar .add .i64 i2 1) b3 b4 b5 i6 C2 (ej true uo) ui mw dH dR 1 [(.sl none 1 dQ (ej true dt))] IT xW jb i16)) none) none)))))))))))))) (cv 165 y1 (.int (fun mA=>(.jT (fun P7=>(fun QK=>(fun wS=>(.int (fun Gd=>(.bool (fun Ge=>(.done (br (br (br (pr.nl wS) true false) true false) (cv 165 [(.bp [(.sl (some false) 1 QK (ej false (ej true wS))),(.int .i64 Gd),(.bool Ge)])] (.int (fun wT=>(.jT (fun Zh=>(fun Zi=>(fun Gf=>(.int (fun Zj=>(.bool (fun Gg=>(.done (br (br (br (pr.nl Gf) true false) true false) (cv 166 [(.agg [(.sl (some true) 1 dH (ba true dR)),(.nil 1),(.bool (br (pr.eq (pr.ar .and .i64 mA 1) 0) false true)),(.bool (br (pr.eq (pr.ar .and .i64 mA 2) 0) false true)),(.bool (br (pr.eq (pr.ar .and .i64 mA 4) 0) false true)),(.int .i64 wT)])] (.sl (fun Gh=>(fun tj=>(.done (br (br (br (pr.nl tj) true false) true false) (br (br Gg false true) y2 (br (pr.eq (pr.aS Gh) 0) y2 (cv 160 [(.sl (some true) 1 Gh (ba true tj)),(.sl (some true) 1 n0 c1)] (.bool (fun Zk=>(.done (br (br Zk false true) y2 (some ((.bf [(.agg [(.sl none 1 dH dR),(.sl none 1 0 []),(.bool (br (pr.eq (pr.ar .and .i64 mA 1) 0) false true)),(.bool (br (pr.eq (pr.ar .and .i64 mA 2) 0) false true)),(.bool (br (pr.eq (pr.ar .and .i64 mA 4) 0) false true)),(.int .i64 wT)]),(.bool true)]),[.undef]))))))))) none)))))) none))))))))))))) none)))))))))))))):=by kernel_rfl
theorem oO (n0:Nat) (c1:List D) (i2:Int) (b3:Bool) (b4:Bool) (b5:Bool) (i6:Int) (n7:Nat) (c8:List D) (i9:Int) (ie:Bool) (dH:Nat) (dR:List D) (gO:Nat) (gD:List D) (jb:Bool) (nX:Bool) (nT:Bool) (i18:Int):bJ pr cv J 159 Tryz.f159 [.undef] 0 (hL n0 c1 i2 b3 b4 b5 i6 n7 c8 i9 ie dH dR gO gD jb nX nT i18)=
    let y1:List D:=[(.bp [(.sl (some false) 1 n7 (ej false c8)),(.int .i64 i9),(.bool ie)])]
    let y2:Option (D × List D):=(some ((.bf [(.agg [(.sl none 1 0 []),(.sl none 1 0 []),(.bool false),(.bool false),(.bool false),(.int .i64 0)]),(.bool false)]),[.undef]))
    (br (pr.lt i2 3) (cv 164 y1 (.sl (fun dQ=>(fun dt=>(.jT (fun fb=>(fun C2=>(fun uo=>(.int (fun ui=>(.bool (fun mw=>(.done (br (br (br (pr.nl dt) true false) (br (br (pr.nl uo) true false) true false) false) (br (pr.fits (gO+1) 24) (J 0 (hL n0 c1 (pr.ar .add .i64 i2 1) b3 b4 b5 i6 C2 (ej true uo) ui mw dH dR (gO+1) (List.append gD [(.sl none 1 dQ (ej true dt))]) jb nX nT i18)) none) none)))))))))))))) (cv 165 y1 (.int (fun mA=>(.jT (fun P7=>(fun QK=>(fun wS=>(.int (fun Gd=>(.bool (fun Ge=>(.done (br (br (br (pr.nl wS) true false) true false) (cv 165 [(.bp [(.sl (some false) 1 QK (ej false (ej true wS))),(.int .i64 Gd),(.bool Ge)])] (.int (fun wT=>(.jT (fun Zh=>(fun Zi=>(fun Gf=>(.int (fun Zj=>(.bool (fun Gg=>(.done (br (br (br (pr.nl Gf) true false) true false) (cv 166 [(.agg [(.sl (some true) 1 dH (ba true dR)),(.sl (some true) 1 gO (ba true gD)),(.bool (br (pr.eq (pr.ar .and .i64 mA 1) 0) false true)),(.bool (br (pr.eq (pr.ar .and .i64 mA 2) 0) false true)),(.bool (br (pr.eq (pr.ar .and .i64 mA 4) 0) false true)),(.int .i64 wT)])] (.sl (fun Gh=>(fun tj=>(.done (br (br (br (pr.nl tj) true false) true false) (br (br Gg false true) y2 (br (pr.eq (pr.aS Gh) 0) y2 (cv 160 [(.sl (some true) 1 Gh (ba true tj)),(.sl (some true) 1 n0 c1)] (.bool (fun Zk=>(.done (br (br Zk false true) y2 (some ((.bf [(.agg [(.sl none 1 dH dR),(.sl none 1 gO gD),(.bool (br (pr.eq (pr.ar .and .i64 mA 1) 0) false true)),(.bool (br (pr.eq (pr.ar .and .i64 mA 2) 0) false true)),(.bool (br (pr.eq (pr.ar .and .i64 mA 4) 0) false true)),(.int .i64 wT)]),(.bool true)]),[.undef]))))))))) none)))))) none))))))))))))) none)))))))))))))):=by kernel_rfl
end
theorem QL (x:UInt8):byteOf (dE x)=some x:=by
  have:=x.toNat_lt
  simp [dE,byteOf]
theorem Ap:∀ xs:List UInt8,lG byteOf (bytes xs)=some xs
  | []=>rfl
  | x::xs=>by
    have h:=Ap xs
    simp only [bytes] at h
    simp only [bytes,List.map_cons,lG,QL,h]
theorem Gj {R:Type} {x y:R} (xs:List UInt8):br (ad.sY (bytes xs)) x y=x:=by
  have:ad.sY (bytes xs)=true:=by
    show (lG byteOf (bytes xs)).isSome=true
    rw [Ap]
    rfl
  rw [this,aI]
theorem QM (xs:List UInt8):ad.BV (bytes xs)=bs xs:=by
  show (⟨((lG byteOf (bytes xs)).getD []).toArray⟩:ByteArray)=bs xs
  rw [Ap]
  rfl
theorem QN (xs ys:List UInt8):ad.seq (bs xs) (bs ys)=decide (xs=ys):=by
  show ((bs xs).toList==(bs ys).toList)=_
  rw [ByteArray.toList_eq,ByteArray.toList_eq]
  show (xs==ys)=_
  by_cases h:xs=ys<;>simp [h]
theorem QO (g h:Bool) (xs ys:List UInt8):Cm 160 [.sl (some g) 1 xs.length (bytes xs),.sl (some h) 1 ys.length (bytes ys)] (.bool (decide (xs=ys)),[.undef,.undef]):=by
  refine Cm.fin M3 fun J=>?_
  rw [M4]
  simp only [Gj,QM,QN]
theorem C3 (g h:Bool) (xs ys:List UInt8) (t:bS Rz):aU 160 [.sl (some g) 1 xs.length (bytes xs),.sl (some h) 1 ys.length (bytes ys)] t=feed t [.bool (decide (xs=ys))]:=bh (QO g h xs ys) (by kernel_rfl) t
theorem jL (b:Bool):∀ xs:List Int,ej b (ints xs)=ints xs
  | []=>rfl
  | x::xs=>by
    have h:=jL b xs
    simp only [ints] at h
    simp only [ints,List.map_cons,ej,iA,h]
theorem gu (b:Bool):∀ xs:List UInt8,ej b (bytes xs)=bytes xs
  | []=>rfl
  | x::xs=>by
    have h:=gu b xs
    simp only [bytes] at h
    simp only [bytes,List.map_cons,ej,iA,dE,h]
theorem LY (b:List UInt8) (p:Nat):∀ k i acc,(iQ b p k i acc).2.2=false→iQ b p k i acc=lW
  | 0,_,_,_=>rfl
  | k+1,i,acc,h=>by
    rw [iQ] at h ⊢
    split at h
    · rename_i h1
      rw [dif_pos h1]
      split at h
      · rename_i h2
        rw [if_pos h2]
        exact LY b p k _ _ h
      · rename_i h2
        rw [if_neg h2]
        split at h
        · rename_i h3
          rw [if_pos h3]
        · simp at h
    · rename_i h1
      rw [dif_neg h1]
theorem WW (b:List UInt8) (a:Int) (h:(il b a).2.2=false):il b a=lW:=by
  unfold il at h ⊢
  split at h
  · rename_i h1
    rw [if_pos h1]
  · rename_i h1
    rw [if_neg h1]
    exact LY b _ _ _ _ h
def IU (c c':Int × Bool):Prop:=c.2=c'.2∧(c.2=true→c.1=c'.1)
theorem D5 (b:List UInt8) {c c':Int × Bool} (h:IU c c'):(bP b c).1=(bT b c').1∧IU (bP b c).2 (bT b c').2:=by
  obtain ⟨p,q⟩:=c
  obtain ⟨p',q'⟩:=c'
  obtain ⟨h1,h2⟩:=h
  simp only at h1 h2
  subst h1
  cases q with
  | false=>exact ⟨by simp [bP,bT],by simp [bP,bT,IU]⟩
  | true=>
    have:=h2 rfl
    subst this
    cases hg:(il b p).2.2 with
    | true=>exact ⟨by simp [bP,bT,hg],by simp [bP,bT,IU,hg]⟩
    | false=>
      have:=WW b p hg
      exact ⟨by simp [bP,bT,this,lW],by simp [bP,bT,IU,this,lW]⟩
theorem WX (b:List UInt8):∀ (k:Nat) {c c':Int × Bool} (out:List Int),IU c c'→(oL bP b k c out).1=(oL bT b k c' out).1∧IU (oL bP b k c out).2 (oL bT b k c' out).2
  | 0,_,_,_,h=>⟨rfl,h⟩
  | k+1,c,c',out,h=>by
    simp only [oL]
    rw [← h.1]
    cases hc:c.2 with
    | false=>exact ⟨rfl,h⟩
    | true=>
      have hn:=D5 b h
      simp only [if_true]
      rw [hn.1]
      exact WX b k _ hn.2
theorem Aq (b:List UInt8) {c c':Int × Bool} (h:IU c c'):(bo bP b c).1=(bo bT b c').1∧IU (bo bP b c).2 (bo bT b c').2:=by
  have hn:=D5 b h
  unfold bo
  rw [hn.1]
  exact WX b _ _ hn.2
def WY (num:List UInt8→Int × Bool→Int × (Int × Bool)):Prop:=∀ b p q,(num b (p,q)).2.2=true→0≤p∧p < (num b (p,q)).2.1∧(num b (p,q)).2.1≤b.length
theorem aar:WY bP:=by
  intro b p q h
  unfold bP at h ⊢
  split at h
  · rename_i h1
    rw [if_pos h1]
    simp only [Bool.and_eq_true] at h1
    exact LU b p h1.1
  · simp at h
theorem agF:WY bT:=by
  intro b p q h
  unfold bT at h ⊢
  cases q with
  | true=>exact LU b p h
  | false=>simp at h
theorem LZ {num:List UInt8→Int × Bool→Int × (Int × Bool)} (hf:WY num) (b:List UInt8):∀ (k:Nat) (p:Int) (q:Bool) (out:List Int),(oL num b k (p,q) out).1.length≤out.length+(if q then ((b.length:Int) - p).toNat+1 else 0)
  | 0,_,_,_=>by simp [oL]
  | k+1,p,q,out=>by
    cases q with
    | false=>simp [oL]
    | true=>
      simp only [oL,if_true]
      have ih:=LZ hf b k (num b (p,true)).2.1 (num b (p,true)).2.2 (out++[(num b (p,true)).1])
      cases hq:(num b (p,true)).2.2 with
      | false=>
        rw [hq] at ih
        simp only [List.length_append,List.length_singleton] at ih
        have e:(num b (p,true)).2=((num b (p,true)).2.1,false):=Prod.ext rfl hq
        rw [e]
        simp only [Bool.false_eq_true,if_false] at ih
        omega
      | true=>
        have h:=hf b p true hq
        rw [hq] at ih
        simp only [List.length_append,List.length_singleton,if_true] at ih
        have e:(num b (p,true)).2=((num b (p,true)).2.1,true):=Prod.ext rfl hq
        rw [e]
        omega
theorem Fm {num:List UInt8→Int × Bool→Int × (Int × Bool)} (hf:WY num) (b:List UInt8) (c:Int × Bool):(bo num b c).1.length≤b.length+1:=by
  have h:=LZ hf b (num b c).1.toNat (num b c).2.1 (num b c).2.2 []
  unfold bo
  obtain ⟨p,q⟩:=c
  cases hq:(num b (p,q)).2.2 with
  | false=>
    rw [hq] at h
    have e:(num b (p,q)).2=((num b (p,q)).2.1,false):=Prod.ext rfl hq
    rw [e]
    simp only [Bool.false_eq_true,if_false,List.length_nil] at h
    omega
  | true=>
    have h1:=hf b p q hq
    rw [hq] at h
    have e:(num b (p,q)).2=((num b (p,q)).2.1,true):=Prod.ext rfl hq
    rw [e]
    simp only [if_true,List.length_nil] at h
    omega
def fR (x k:Int):Bool:=!(ad.eq (ad.ar .and .i64 x k) 0)
def nq (num:List UInt8→Int × Bool→Int × (Int × Bool)) (b:List UInt8):bj × Bool:=
  let r0:=bo num b (0,true)
  let r1:=bo num b r0.2
  let r2:=bo num b r1.2
  let r3:=bo num b r2.2
  let x:=num b r3.2
  let y:=num b x.2
  (⟨r0.1,[r1.1,r2.1,r3.1],fR x.1 1,fR x.1 2,fR x.1 4,y.1⟩,y.2.2)
def fX:bj:=⟨[],[],false,false,false,0⟩
def dZ (b:List UInt8):bj × Bool:=if (nq bP b).2&&(decide (cO (nq bP b).1=b)&&!b.isEmpty) then ((nq bP b).1,true) else (fX,false)
theorem Zl (b:List UInt8):nq bP b=nq bT b:=by
  have h0:=Aq b (c:=(0,true)) (c':=(0,true)) ⟨rfl,fun _=>rfl⟩
  have h1:=Aq b h0.2
  have h2:=Aq b h1.2
  have h3:=Aq b h2.2
  have h4:=D5 b h3.2
  have h5:=D5 b h4.2
  simp only [nq]
  rw [h0.1,h1.1,h2.1,h3.1,h4.1,h5.1,h5.2.1]
theorem Gk {num:List UInt8→Int × Bool→Int × (Int × Bool)} (hf:WY num) (b:List UInt8) (hb:b.length≤1000000):du (nq num b).1:=by
  refine ⟨?_,?_,?_⟩
  · have:=Fm hf b (0,true)
    simp only [nq]
    omega
  · simp [nq]
  · intro xs hx
    simp only [nq,List.mem_cons,List.not_mem_nil,or_false] at hx
    rcases hx with rfl | rfl | rfl
    all_goals exact Nat.le_trans (Fm hf b _) (by omega)
theorem QP (x k:Int):(!(ad.eq (ad.ar .and .i64 x k) 0))=fR x k:=rfl
abbrev IV (r:bj × Bool):Rz:=(.bf [.agg (cL none r.1),.bool r.2],[.undef])
theorem Nq (b:List UInt8) (hb:b.length≤1000000):Cm 151 [.sl (some true) 1 b.length (bytes b)] (IV (dZ b)):=by
  have w3:∀ (c:Int × Bool) (aP x1 x2 x3:List Int),nq bP b=(⟨aP,[x1,x2,x3],fR (bP b c).1 1,fR (bP b c).1 2,fR (bP b c).1 4,(bP b (bP b c).2).1⟩,(bP b (bP b c).2).2.2)→WP 151 Tryz.f151 [.undef] 0 (hI b.length (bytes b) 3 false false false 0 b.length (bytes b) c.1 c.2 aP.length (ints aP) 3 (rows none [x1,x2,x3]) false false false 0) (IV (dZ b)):=by
    intro c aP x1 x2 x3 hp
    have cQ:=Gk aar b hb
    refine WP.fin fun J=>?_
    rw [oN]
    unfold dZ
    rw [hp] at cQ ⊢
    have hv:=wQ (g:=true) (m:=⟨aP,[x1,x2,x3],fR (bP b c).1 1,fR (bP b c).1 2,fR (bP b c).1 4,(bP b (bP b c).2).1⟩) (hm:=cQ)
    have lN:∀ t:bS Rz,aU 157 [.agg [.sl (some true) 1 aP.length (ints aP),.sl (some true) 1 3 (rows (some true) [x1,x2,x3]),.bool (fR (bP b c).1 1),.bool (fR (bP b c).1 2),.bool (fR (bP b c).1 4),.int .i64 (bP b (bP b c).2).1]] t=_:=hv
    simp (disch:=first | omega | assumption) only [bH,gu,An,cn,gV,aF,ao,eK,aI,bm,bQ,QP,fG,ig,Gj,lN,dc,QM,QN]
    generalize (bP b (bP b c).2).2.2=q1
    generalize cO _=l
    cases q1 with
    | false=>rfl
    | true=>
      by_cases h1:l=b
      · subst h1
        cases l with
        | nil=>simp [br,ad,fX,rows,ints]
        | cons a l=>
          simp only [cf,aI,decide_true]
          rw [eA (by simp only [aB,List.length_cons]; omega)]
          simp [fX]
      · simp [br,h1,fX,rows,ints]
  have w2:=WP.go (f:=151) (fn:=Tryz.f151) (sk:=[.undef]) (j:=0) (h:=hI b.length (bytes b) 2 false false false 0 b.length (bytes b) (bo bP b (bo bP b (bo bP b (0,true)).2).2).2.1 (bo bP b (bo bP b (bo bP b (0,true)).2).2).2.2 (bo bP b (0,true)).1.length (ints (bo bP b (0,true)).1) 2 (rows none [(bo bP b (bo bP b (0,true)).2).1,(bo bP b (bo bP b (bo bP b (0,true)).2).2).1]) false false false 0) _ (w3 (bo bP b (bo bP b (bo bP b (bo bP b (0,true)).2).2).2).2 (bo bP b (0,true)).1 (bo bP b (bo bP b (0,true)).2).1 (bo bP b (bo bP b (bo bP b (0,true)).2).2).1 (bo bP b (bo bP b (bo bP b (bo bP b (0,true)).2).2).2).1 rfl) fun J hJ=>by
    rw [oN]
    simp (disch:=first | omega | assumption) only [aZ,gu,jL,tD,dc,cn,gV,aF,ao,eK,gJ,aI,bm,eu]
    exact hJ
  have w1:=WP.go (f:=151) (fn:=Tryz.f151) (sk:=[.undef]) (j:=0) (h:=hI b.length (bytes b) 1 false false false 0 b.length (bytes b) (bo bP b (bo bP b (0,true)).2).2.1 (bo bP b (bo bP b (0,true)).2).2.2 (bo bP b (0,true)).1.length (ints (bo bP b (0,true)).1) 1 (rows none [(bo bP b (bo bP b (0,true)).2).1]) false false false 0) _ w2 fun J hJ=>by
    rw [oN]
    simp (disch:=first | omega | assumption) only [aZ,gu,jL,tD,dc,cn,gV,aF,ao,eK,gJ,aI,bm,eu]
    exact hJ
  have w0:=WP.go (f:=151) (fn:=Tryz.f151) (sk:=[.undef]) (j:=0) (h:=rO b.length (bytes b) 0 false false false 0 b.length (bytes b) (bo bP b (0,true)).2.1 (bo bP b (0,true)).2.2 (bo bP b (0,true)).1.length (ints (bo bP b (0,true)).1) false false false 0) _ w1 fun J hJ=>by
    rw [Gc]
    simp (disch:=first | omega | assumption) only [aZ,gu,jL,tD,dc,cn,gV,aF,ao,eK,gJ,aI,bm,eu]
    exact hJ
  refine Cm.go Nl [.undef] 0 _ w0 fun J hJ=>?_
  rw [Nn]
  simp (disch:=first | omega | assumption) only [gu,jL,tD,dc,cn,gV,aF,ao,eK,gJ,aI,bm]
  exact hJ
theorem Nr (b:List UInt8) (hb:b.length≤1000000):Cm 159 [.sl (some true) 1 b.length (bytes b)] (IV (dZ b)):=by
  have w3:∀ (c:Int × Bool) (aP x1 x2 x3:List Int),nq bT b=(⟨aP,[x1,x2,x3],fR (bT b c).1 1,fR (bT b c).1 2,fR (bT b c).1 4,(bT b (bT b c).2).1⟩,(bT b (bT b c).2).2.2)→WP 159 Tryz.f159 [.undef] 0 (hL b.length (bytes b) 3 false false false 0 b.length (bytes b) c.1 c.2 aP.length (ints aP) 3 (rows none [x1,x2,x3]) false false false 0) (IV (dZ b)):=by
    intro c aP x1 x2 x3 hp
    have cQ:=Gk agF b hb
    refine WP.fin fun J=>?_
    rw [oO]
    unfold dZ
    rw [Zl,hp]
    rw [hp] at cQ
    have hv:=wR (g:=true) (m:=⟨aP,[x1,x2,x3],fR (bT b c).1 1,fR (bT b c).1 2,fR (bT b c).1 4,(bT b (bT b c).2).1⟩) (hm:=cQ)
    have lN:∀ t:bS Rz,aU 166 [.agg [.sl (some true) 1 aP.length (ints aP),.sl (some true) 1 3 (rows (some true) [x1,x2,x3]),.bool (fR (bT b c).1 1),.bool (fR (bT b c).1 2),.bool (fR (bT b c).1 4),.int .i64 (bT b (bT b c).2).1]] t=_:=hv
    simp (disch:=first | omega | assumption) only [bH,gu,Ao,cn,gV,aF,ao,eK,aI,bm,bQ,QP,fG,ig,gr,lN,dc,C3]
    generalize (bT b (bT b c).2).2.2=q1
    generalize cO _=l
    cases q1 with
    | false=>rfl
    | true=>
      by_cases h1:l=b
      · subst h1
        cases l with
        | nil=>simp [br,ad,fX,rows,ints]
        | cons a l=>
          simp only [cf,aI,decide_true]
          rw [eA (by simp only [aB,List.length_cons]; omega)]
          simp [fX]
      · cases ad.eq (ad.aS l.length) 0<;>simp [br,h1,fX,rows,ints]
  have w2:=WP.go (f:=159) (fn:=Tryz.f159) (sk:=[.undef]) (j:=0) (h:=hL b.length (bytes b) 2 false false false 0 b.length (bytes b) (bo bT b (bo bT b (bo bT b (0,true)).2).2).2.1 (bo bT b (bo bT b (bo bT b (0,true)).2).2).2.2 (bo bT b (0,true)).1.length (ints (bo bT b (0,true)).1) 2 (rows none [(bo bT b (bo bT b (0,true)).2).1,(bo bT b (bo bT b (bo bT b (0,true)).2).2).1]) false false false 0) _ (w3 (bo bT b (bo bT b (bo bT b (bo bT b (0,true)).2).2).2).2 (bo bT b (0,true)).1 (bo bT b (bo bT b (0,true)).2).1 (bo bT b (bo bT b (bo bT b (0,true)).2).2).1 (bo bT b (bo bT b (bo bT b (bo bT b (0,true)).2).2).2).1 rfl) fun J hJ=>by
    rw [oO]
    simp (disch:=first | omega | assumption) only [aZ,gu,jL,tE,dc,cn,gV,aF,ao,eK,gJ,aI,bm,eu]
    exact hJ
  have w1:=WP.go (f:=159) (fn:=Tryz.f159) (sk:=[.undef]) (j:=0) (h:=hL b.length (bytes b) 1 false false false 0 b.length (bytes b) (bo bT b (bo bT b (0,true)).2).2.1 (bo bT b (bo bT b (0,true)).2).2.2 (bo bT b (0,true)).1.length (ints (bo bT b (0,true)).1) 1 (rows none [(bo bT b (bo bT b (0,true)).2).1]) false false false 0) _ w2 fun J hJ=>by
    rw [oO]
    simp (disch:=first | omega | assumption) only [aZ,gu,jL,tE,dc,cn,gV,aF,ao,eK,gJ,aI,bm,eu]
    exact hJ
  have w0:=WP.go (f:=159) (fn:=Tryz.f159) (sk:=[.undef]) (j:=0) (h:=rP b.length (bytes b) 0 false false false 0 b.length (bytes b) (bo bT b (0,true)).2.1 (bo bT b (0,true)).2.2 (bo bT b (0,true)).1.length (ints (bo bT b (0,true)).1) false false false 0) _ w1 fun J hJ=>by
    rw [Gi]
    simp (disch:=first | omega | assumption) only [aZ,gu,jL,tE,dc,cn,gV,aF,ao,eK,gJ,aI,bm,eu]
    exact hJ
  refine Cm.go No [.undef] 0 _ w0 fun J hJ=>?_
  rw [Np]
  simp (disch:=first | omega | assumption) only [gu,jL,tE,dc,cn,gV,aF,ao,eK,gJ,aI,bm]
  exact hJ
theorem C4 (b:List UInt8) (hb:b.length≤1000000):du (dZ b).1:=by
  unfold dZ
  split
  · exact Gk aar b hb
  · exact ⟨by simp [fX],by simp [fX],by simp [fX]⟩
end Go.Proofs.YtockoilcnmljiaaGreat
namespace Go.Proofs.YtockoilcnmljiaaGreat
set_option maxRecDepth 100000
theorem WP.step {f:FuncId} {fn:Func} {sk:List D} {j:Nat} {h:St} {r:Rz} (ht:∀ J:Nat→St→Option Rz,(∀ j' h',WP f fn sk j' h' r→J j' h'=some r)→bJ ad aU J f fn sk j h=some r):WP f fn sk j h r:=W.step wm ht
theorem Cm.step {f:FuncId} {fn:Func} {r:Rz} (ok:Told cfg Tryz.prog f fn) (sk:List D) {args:List D} (ht:∀ J:Nat→St→Option Rz,(∀ j' h',WP f fn sk j' h' r→J j' h'=some r)→aR ad aU J f fn args=some r) (AD:args.map rD=sk:=by rfl):Cm f args r:=by subst AD; exact Comes.step wm ok ht
section
variable {R:Type} {x y:R}
def tick (n:Nat):Nat:=n+1
@[go_sem] theorem ak5:tick 0=1:=by unfold tick; omega
@[congr] theorem aiP {c c':Bool} {z:Nat} (h:c=c') (_:tick 0=z):br c x y=br c' x y:=by rw [h]
@[congr] theorem aiQ {g:FuncId} {ds ds':List D} {t:bS Rz} {z:Nat} (h:ds=ds') (_:tick 0=z):aU g ds t=aU g ds' t:=by rw [h]
@[congr] theorem agG {t:bS R} {l l':List D} {z:Nat} (h:l=l') (_:tick 0=z):feed t l=feed t l':=by rw [h]
attribute [go_sem ↓] aI bd
@[go_sem ↓] theorem ak6 (a b c:Bool) (x y:R):br (br a b c) x y=br a (br b x y) (br c x y):=by cases a<;>rfl
@[go_sem ↓] theorem ami (b:Bool) (x y:R):br (!b) x y=br b y x:=by cases b<;>rfl
@[go_sem] theorem aiR {p:Prop} [Decidable p] (h:p):br (decide p) x y=x:=by rw [decide_eq_true h]; rfl
@[go_sem] theorem aiS {p:Prop} [Decidable p] (h:¬p):br (decide p) x y=y:=by rw [decide_eq_false h]; rfl
theorem SZ {b:Bool} {r:R} (h1:b=true→x=r) (h2:b=false→y=r):br b x y=r:=by cases b with | true=>exact h1 rfl | false=>exact h2 rfl
theorem bq {p:Prop} [Decidable p] {r:R} (h1:p→x=r) (h2:¬p→y=r):br (decide p) x y=r:=by
  by_cases h:p
  · rw [aiR h]; exact h1 h
  · rw [aiS h]; exact h2 h
theorem gF {b:Bool} {r:R} (h1:b=true→x=r) (h2:¬b=true→y=r):br b x y=r:=by cases b with | true=>exact h1 rfl | false=>exact h2 (by simp)
end
theorem WP.up {f:FuncId} {fn:Func} {sk:List D} {j:Nat} {r:Rz} {H:Nat→St} (n:Nat) (inv:Nat→Prop) (hs:∀ i,i≤n→inv i→∀ J:Nat→St→Option Rz,(∀ j' h',WP f fn sk j' h' r→J j' h'=some r)→(i < n→inv (i+1)→J j (H (i+1))=some r)→bJ ad aU J f fn sk j (H i)=some r):∀ i,i≤n→inv i→WP f fn sk j (H i) r:=by
  have key:∀ k i,i+k=n→inv i→WP f fn sk j (H i) r:=by
    intro k
    induction k with
    | zero=>intro i hi hv; exact WP.step fun J hJ=>hs i (by omega) hv J hJ (fun h=>absurd h (by omega))
    | succ k ih=>intro i hi hv; exact WP.step fun J hJ=>hs i (by omega) hv J hJ (fun _ h=>hJ _ _ (ih (i+1) (by omega) h))
  exact fun i hi hv=>key (n - i) i (by omega) hv
section
variable {R:Type}
@[go_sem ↓] theorem ak7 (x:Option R) (l:List D):feed (.done x) l=x:=rfl
@[go_sem ↓] theorem amj (f:Int→bS R) (k:IntKind) (n:Int) (l:List D):feed (.int f) (.int k n::l)=feed (f n) l:=rfl
@[go_sem ↓] theorem ak8 (f:Bool→bS R) (b:Bool) (l:List D):feed (.bool f) (.bool b::l)=feed (f b) l:=rfl
@[go_sem ↓] theorem amk (f:ByteArray→bS R) (s:ByteArray) (l:List D):feed (.str f) (.str s::l)=feed (f s) l:=rfl
@[go_sem ↓] theorem anP (f:Nat→List D→bS R) (s n:Nat) (cs l:List D):feed (.sl f) (.sl none s n cs::l)=feed (f n cs) l:=rfl
@[go_sem ↓] theorem aml (f:Bool→Nat→List D→bS R) (g:Bool) (s n:Nat) (cs l:List D):feed (.jT f) (.sl (some g) s n cs::l)=feed (f g n cs) l:=rfl
end
@[go_sem ↓] theorem anQ (k:eO) (f:k.T→bS Rz) (x:k.T) (l:List D):feed (.ty k f) (enc k x::l)=feed (f x) l:=JE k f x l
attribute [go_sem] enc
@[go_sem ↓] theorem anR (ys:List D) (t:bS Rz):aU 999999 [.sl none 0 0 ys] t=feed t [.sl none 0 0 ys]:=Cg ys t
@[go_sem] theorem bj.eta (m:bj):(⟨m.aP,m.bits,m.dq,m.cg,m.held,m.last⟩:bj)=m:=rfl
@[go_sem] theorem bc.eta (s:bc):(⟨s.a,s.b⟩:bc)=s:=rfl
@[go_sem] theorem ae.eta (n:ae):(⟨n.id,n.up,n.cU,n.image,n.mt,n.cJ,n.conn,n.sync,n.bV,n.wait⟩:ae)=n:=rfl
@[go_sem] theorem wh.eta (n:wh):(⟨n.kind,n.cell,n.val,n.who,n.aP⟩:wh)=n:=rfl
@[go_sem] theorem rz.eta (n:rz):(⟨n.kind,n.a,n.b⟩:rz)=n:=rfl
@[go_sem] theorem ai.eta (n:ai):(⟨n.nodes,n.ay,n.log,n.safe,n.gen⟩:ai)=n:=rfl
@[go_sem] theorem anS:Int.toNat 2=2:=rfl
@[go_sem] theorem anT:Int.toNat 3=3:=rfl
@[go_sem] theorem anU:Int.toNat 4=4:=rfl
@[go_sem] theorem anV:Int.toNat 5=5:=rfl
@[go_sem] theorem anW:Int.toNat 6=6:=rfl
@[go_sem] theorem anX:Int.toNat 7=7:=rfl
@[go_sem] theorem anY:Int.toNat 8=8:=rfl
@[go_sem] theorem anZ:Int.toNat 9=9:=rfl
@[go_sem] theorem amm:Int.toNat 10=10:=rfl
@[go_sem] theorem amn:Int.toNat 11=11:=rfl
@[go_sem] theorem amo:Int.toNat 12=12:=rfl
@[go_sem] theorem amp:Int.toNat 13=13:=rfl
@[go_sem] theorem amq:Int.toNat 14=14:=rfl
@[go_sem] theorem amr:Int.toNat 15=15:=rfl
@[go_sem] theorem ams:Int.toNat 16=16:=rfl
@[go_sem] theorem amt:Int.toNat 17=17:=rfl
attribute [go_sem] decide_true decide_false Uf Ad aB Nat.zero_add Int.toNat_natCast Int.toNat_zero Int.toNat_one if_true
@[go_sem] theorem an0 (a b:Int):ad.eq a b=decide (a=b):=by
  show (a==b)=_
  rfl
@[go_sem] theorem amu (a b:Bool):ad.beq a b=decide (a=b):=by cases a<;>cases b<;>rfl
@[go_sem] theorem amv (i:Int) (n:Nat):ad.bg i n=decide (0≤i∧i < (n:Int)):=by simp [ad]
@[go_sem] theorem amw (l h:Int) (n:Nat):ad.wa l h n=decide (0≤l∧l≤h∧h≤(n:Int)):=by simp [ad,Bool.and_assoc]
@[go_sem] theorem ak9 (n b:Nat):ad.fits n b=decide (n*b≤140737488355328):=rfl
@[go_sem] theorem ala (l c:Int) (b:Nat):ad.sZ l c b=decide (0≤l∧l≤c∧c*(b:Int)≤140737488355328):=by simp [ad,Bool.and_assoc]
@[go_sem] theorem amx (a b:Nat):ad.neq a b=decide (a=b):=rfl
@[go_sem] theorem amy (i:Int):ad.hZ i=i.toNat:=rfl
@[go_sem] theorem alb (a b:Int):ad.nK a b=a.toNat - b.toNat:=rfl
@[go_sem] theorem alc (a:Nat) (i:Int):ad.idx a i 1=a+i.toNat:=by show (a+i.toNat)*1=_; omega
@[go_sem] theorem ald (n:Nat):Nat.mul n 1=n:=Nat.mul_one n
@[go_sem] theorem ale (n:Nat):Nat.mul 0 n=0:=Nat.zero_mul n
@[go_sem] theorem amz (a b:Bool):br a b false=(a&&b):=by cases a<;>rfl
@[go_sem] theorem an1 (a b:Bool):br a true b=(a||b):=by cases a<;>rfl
@[go_sem] theorem amA (xs:List Int) (i:Nat):ad.bO .i64 (ints xs) i=decide (i < xs.length):=by
  by_cases h:i < xs.length
  · simp [ad,ints,h,fo]
  · simp [ad,ints,List.getElem?_eq_none (Nat.not_lt.1 h),h]
@[go_sem] theorem alf (xs:List Int) (i:Nat):ad.aO (ints xs) i=xs.getD i 0:=by
  by_cases h:i < xs.length
  · simp [ad,ints,h,wb]
  · simp [ad,ints,List.getElem?_eq_none (Nat.not_lt.1 h),wb]
@[go_sem] theorem alg (xs:List UInt8) (i:Nat):ad.bO .u8 (bytes xs) i=decide (i < xs.length):=by
  by_cases h:i < xs.length
  · simp [ad,bytes,dE,h,fo]
  · simp [ad,bytes,List.getElem?_eq_none (Nat.not_lt.1 h),h]
@[go_sem] theorem ajg (xs:List UInt8) (i:Nat):ad.aO (bytes xs) i=((xs.getD i 0).toNat:Int):=by
  by_cases h:i < xs.length
  · simp [ad,bytes,dE,h,wb]
  · simp [ad,bytes,List.getElem?_eq_none (Nat.not_lt.1 h),wb]
@[go_sem] theorem amB (xs:List Bool) (i:Nat):ad.cd (bI xs) i=decide (i < xs.length):=by
  by_cases h:i < xs.length
  · simp [ad,bI,h]
  · simp [ad,bI,List.getElem?_eq_none (Nat.not_lt.1 h),h]
@[go_sem] theorem alh (xs:List Bool) (i:Nat):ad.bw (bI xs) i=xs.getD i false:=by
  by_cases h:i < xs.length
  · simp [ad,bI,h,DR]
  · simp [ad,bI,List.getElem?_eq_none (Nat.not_lt.1 h),DR]
@[go_sem] theorem amC (g:Bool) (xs:List (List Int)) (i:Nat):ad.aN 1 (rows (some g) xs) i=decide (i < xs.length):=by
  by_cases h:i < xs.length
  · simp [ad,rows,h]
  · simp [ad,rows,List.getElem?_eq_none (Nat.not_lt.1 h),h]
@[go_sem] theorem ali {g:Bool} {xs:List (List Int)} {i:Nat} (h:i < xs.length):ad.aH (rows (some g) xs) i=g:=iL h
@[go_sem] theorem alj (xs:List (List Int)) (i:Nat):ad.kC 1 (rows none xs) i=decide (i < xs.length):=by
  by_cases h:i < xs.length
  · simp [ad,rows,h]
  · simp [ad,rows,List.getElem?_eq_none (Nat.not_lt.1 h),h]
@[go_sem] theorem amD (xs:List (List Int)) (i:Nat):ad.isO (rows none xs) i=decide (i < xs.length):=by
  by_cases h:i < xs.length
  · simp [ad,rows,h]
  · simp [ad,rows,List.getElem?_eq_none (Nat.not_lt.1 h),h]
@[go_sem] theorem alk (g:Option Bool) (xs:List (List Int)) (i:Nat):ad.aC (rows g xs) i=(xs.getD i []).length:=by
  by_cases h:i < xs.length
  · simp [ad,rows,h,cN]
  · simp [ad,rows,List.getElem?_eq_none (Nat.not_lt.1 h),cN]
@[go_sem] theorem alm (g:Option Bool) (xs:List (List Int)) (i:Nat):ad.aE (rows g xs) i=ints (xs.getD i []):=by
  by_cases h:i < xs.length
  · simp [ad,rows,h,cC]
  · simp [ad,rows,List.getElem?_eq_none (Nat.not_lt.1 h),cC,ints]
@[go_sem] theorem ajh (xs:List Int) (i:Nat):ad.slot (ints xs) i=decide (i < xs.length):=by
  by_cases h:i < xs.length
  · simp [ad,ints,h,gQ]
  · simp [ad,ints,List.getElem?_eq_none (Nat.not_lt.1 h),h]
@[go_sem] theorem aji (xs:List UInt8) (i:Nat):ad.slot (bytes xs) i=decide (i < xs.length):=by
  by_cases h:i < xs.length
  · simp [ad,bytes,dE,h,gQ]
  · simp [ad,bytes,List.getElem?_eq_none (Nat.not_lt.1 h),h]
@[go_sem] theorem ajj (xs:List Bool) (i:Nat):ad.slot (bI xs) i=decide (i < xs.length):=by
  by_cases h:i < xs.length
  · simp [ad,bI,h,gQ]
  · simp [ad,bI,List.getElem?_eq_none (Nat.not_lt.1 h),h]
@[go_sem] theorem amE (xs:List (List Int)):ad.nl (rows none xs)=true:=aan (by simp) xs
attribute [go_sem] gJ eK D1 ints_set LJ LK uk gE gr jF fG ig jL gu th QM
@[go_sem] theorem aln (xs:List (List Int)) (i n:Nat) (l:List Int) (h:n=l.length):List.set (rows none xs) i (.sl none 1 n (ints l))=rows none (xs.set i l):=by subst h; exact Qa
@[go_sem] theorem ajk (xs:List Int):ad.flat (ints xs)=true:=List.all_eq_true.2 (by intro d hd; obtain ⟨a,_,rfl⟩:=List.mem_map.1 hd; rfl)
@[go_sem] theorem ajl (xs:List UInt8):ad.flat (bytes xs)=true:=List.all_eq_true.2 (by intro d hd; obtain ⟨a,_,rfl⟩:=List.mem_map.1 hd; rfl)
@[go_sem] theorem ajm (xs:List Bool):ad.flat (bI xs)=true:=List.all_eq_true.2 (by intro d hd; obtain ⟨a,_,rfl⟩:=List.mem_map.1 hd; rfl)
@[go_sem] theorem alo (xs:List UInt8):ad.sY (bytes xs)=true:=by
  have:=Gj (x:=true) (y:=false) xs
  rwa [bm] at this
@[go_sem] theorem amF (xs ys:List UInt8):ad.seq (bs xs) (bs ys)=decide (xs=ys):=QN xs ys
@[go_sem] theorem afQ (xs:List Int) (i:Nat):List.drop i (ints xs)=ints (xs.drop i):=by simp [ints,List.map_drop]
@[go_sem] theorem agH (xs ys:List Int):List.append (ints xs) (ints ys)=ints (xs++ys):=by simp [ints]
@[go_sem] theorem ajn (xs:List Int) (x:Int):List.append (ints xs) [D.int .i64 x]=ints (xs++[x]):=by simp [ints]
@[go_sem] theorem aiT (xs:List UInt8) (x:UInt8):List.append (bytes xs) [dE x]=bytes (xs++[x]):=by simp [bytes]
@[go_sem] theorem ahE (xs:List UInt8):List.append (bytes xs) [D.int .u8 0]=bytes (xs++[0]):=by simp [bytes,dE]
@[go_sem] theorem aiU (x:Int):List.append [] [D.int .i64 x]=ints [x]:=rfl
@[go_sem] theorem ahF (x:UInt8):List.append [] [dE x]=bytes [x]:=rfl
@[go_sem] theorem ajo (x:UInt8):ad.flat [dE x]=true:=rfl
@[go_sem] theorem ajp (k:IntKind) (x:Int):ad.flat [D.int k x]=true:=rfl
@[go_sem] theorem amG:ad.nl []=true:=rfl
@[go_sem] theorem ajq (n:Nat):fC n [.int .u8 0]=bytes (List.replicate n 0):=V4 n
@[go_sem] theorem ajr (n:Nat):fC n [.int .i64 0]=ints (List.replicate n 0):=V3 n
@[go_sem] theorem ajs (n:Nat):fC n [.bool false]=bI (List.replicate n false):=V5 n
@[go_sem] theorem ajt (n:Nat):fC n [.nil 1]=rows none (List.replicate n []):=Wc n
@[go_sem] theorem aju (xs:List UInt8) (i:Nat):List.drop i (bytes xs)=bytes (xs.drop i):=by simp [bytes,List.map_drop]
@[go_sem] theorem ajv (xs:List UInt8) (i:Nat):List.take i (bytes xs)=bytes (xs.take i):=by simp [bytes,List.map_take]
@[go_sem] theorem e_I (x:List Int):dN true (sI none x)=sI (some true) x:=by simp [dN,fG]
@[go_sem] theorem e_B (x:List UInt8):dN true (s8 none x)=s8 (some true) x:=by simp [dN,gr]
@[go_sem] theorem e_L (x:List Bool):dN true (sB none x)=sB (some true) x:=by simp [dN,jF]
@[go_sem] theorem e_R (x:List (List Int)):dN true (sR none x)=sR (some true) x:=by simp [dN,ig]
@[go_sem] theorem alp (x:bj):ba true (cL none x)=cL (some true) x:=by simp [dN,ba,fG,ig]
@[go_sem] theorem ajw (x:bc):ba true (eF none x)=eF (some true) x:=by simp [dN,ba,gr]
@[go_sem] theorem alq (x:ae):ba true (ab none x)=ab (some true) x:=by simp [dN,ba,fG,ig,gr,jF]
@[go_sem] theorem amH {a b:Int} (h:-9223372036854775808≤a - b) (h':a - b < 9223372036854775808):ad.ar .sub .i64 a b=a - b:=eZ h h'
@[go_sem] theorem aas {a b:Int} (h:-9223372036854775808≤a+b) (h':a+b < 9223372036854775808):ad.ar .add .i64 a b=a+b:=Ug h h'
@[go_sem] theorem ajx (x:UInt8):ad.wrap .i64 (x.toNat:Int)=x.toNat:=wrap64 (by omega) (by have:=x.toNat_lt; omega)end Go.Proofs.YtockoilcnmljiaaGreat
namespace Go.Proofs.YtockoilcnmljiaaGreat
set_option maxRecDepth 100000
set_option profiler true
set_option profiler.threshold 1000
section
variable (pr:dr) (cv:Cv Rz) (J:Nat→St→Option Rz)
theorem Gl:Told cfg Tryz.prog 161 Tryz.f161:=⟨by kernel_rfl,Tryz.func161,by kernel_rfl⟩
theorem Gm (x0:bj) (x1:Int):aR pr cv J 161 Tryz.f161 [(.agg (cL (some true) x0)),(.int .i64 x1)]=
    (cv 166 [(.agg (cL (some true) x0))] (.sl (fun dQ=>(fun dt=>(.done (br (br (br (pr.nl dt) true false) true false) (cv 167 [(.int .i64 x1)] (.ty eO.B (fun (uT:List UInt8)=>(.done (br (br (pr.flat [(.int .u8 (pr.wrap .u8 (pr.aS dQ)))]) (pr.fits (uT.length+1) 1) false) (br (br (pr.flat dt) (pr.fits ((uT.length+1)+dQ) 1) false) (br (br (pr.le 0 (pr.ar .sub .i64 156 (pr.aS ((uT.length+1)+dQ)))) (pr.fits (((uT.length+1)+dQ)+(pr.hZ (pr.ar .sub .i64 156 (pr.aS ((uT.length+1)+dQ))))) 1) false) (cv 167 [(.int .i64 x1)] (.ty eO.B (fun (cK:List UInt8)=>(.done (br (br (pr.flat (bytes cK)) (pr.fits ((((uT.length+1)+dQ)+(pr.hZ (pr.ar .sub .i64 156 (pr.aS ((uT.length+1)+dQ)))))+cK.length) 1) false) (some ((.sl none 1 ((((uT.length+1)+dQ)+(pr.hZ (pr.ar .sub .i64 156 (pr.aS ((uT.length+1)+dQ)))))+cK.length) (List.append (List.append (List.append (List.append (bytes uT) [(.int .u8 (pr.wrap .u8 (pr.aS dQ)))]) dt) (fC (pr.hZ (pr.ar .sub .i64 156 (pr.aS ((uT.length+1)+dQ)))) [(.int .u8 0)])) (bytes cK))),[.undef,.undef])) none))))) none) none) none))))) none)))))):=by kernel_rfl
def nY (x1:Int) (n0:Nat) (c1:List D):St:=(St.mk [(1,(.int .i64 x1)),(6,(.ref 10006 [] 0 none))] [(10006,[(.sl none 1 n0 c1)])] [] 0)
theorem Nt:Told cfg Tryz.prog 152 Tryz.f152:=⟨by kernel_rfl,Tryz.func152,by kernel_rfl⟩
theorem Nu (x0:bj) (x1:Int):aR pr cv J 152 Tryz.f152 [(.agg (cL (some true) x0)),(.int .i64 x1)]=
    (cv 157 [(.agg (cL (some true) x0))] (.sl (fun dQ=>(fun dt=>(.done (br (br (br (pr.nl dt) true false) true false) (cv 158 [(.int .i64 x1)] (.ty eO.B (fun (uT:List UInt8)=>(.done (br (br (pr.flat [(.int .u8 (pr.wrap .u8 (pr.aS dQ)))]) (pr.fits (uT.length+1) 1) false) (br (br (pr.flat dt) (pr.fits ((uT.length+1)+dQ) 1) false) (J 0 (nY x1 ((uT.length+1)+dQ) (List.append (List.append (bytes uT) [(.int .u8 (pr.wrap .u8 (pr.aS dQ)))]) dt))) none) none))))) none)))))):=by kernel_rfl
theorem wU (x1:Int) (n0:Nat) (c1:List D):bJ pr cv J 152 Tryz.f152 [.undef,.undef] 0 (nY x1 n0 c1)=
    (br (pr.lt (pr.aS n0) 156) (br (br (pr.flat [(.int .u8 0)]) (pr.fits (n0+1) 1) false) (J 0 (nY x1 (n0+1) (List.append c1 [(.int .u8 0)]))) none) (cv 158 [(.int .i64 x1)] (.ty eO.B (fun (aL:List UInt8)=>(.done (br (br (pr.flat (bytes aL)) (pr.fits (n0+aL.length) 1) false) (some ((.sl none 1 (n0+aL.length) (List.append c1 (bytes aL))),[.undef,.undef])) none)))))):=by kernel_rfl
theorem Nv:Told cfg Tryz.prog 154 Tryz.f154:=⟨by kernel_rfl,Tryz.func154,by kernel_rfl⟩
theorem Nw (x0:List UInt8):aR pr cv J 154 Tryz.f154 [(s8 (some true) x0)]=
    let y1:Option (D × List D):=(some ((.bf [(.agg [(.sl none 1 0 []),(.sl none 1 0 []),(.bool false),(.bool false),(.bool false),(.int .i64 0)]),(.int .i64 0),(.bool false)]),[.undef]))
    let y2:D:=(.int .i64 (pr.ar .or .i64 (pr.ar .or .i64 (pr.ar .or .i64 (pr.wrap .i64 (pr.aO (bytes x0) (pr.idx 0 0 1))) (pr.ar .shl .i64 (pr.wrap .i64 (pr.aO (bytes x0) (pr.idx 0 1 1))) 8)) (pr.ar .shl .i64 (pr.wrap .i64 (pr.aO (bytes x0) (pr.idx 0 2 1))) 16)) (pr.ar .shl .i64 (pr.wrap .i64 (pr.aO (bytes x0) (pr.idx 0 3 1))) 24)))
    let y3:Int:=(pr.ar .add .i64 5 (pr.wrap .i64 (pr.aO (bytes x0) (pr.idx 0 4 1))))
    let y4:Nat:=(pr.nK y3 5)
    (br (br (pr.eq (pr.aS x0.length) 160) false true) y1 (br (pr.bg 0 x0.length) (br (br (pr.bO .u8 (bytes x0) (pr.idx 0 0 1)) true false) (br (pr.bg 1 x0.length) (br (br (pr.bO .u8 (bytes x0) (pr.idx 0 1 1)) true false) (br (br (pr.lt 8 0) false true) (br (pr.bg 2 x0.length) (br (br (pr.bO .u8 (bytes x0) (pr.idx 0 2 1)) true false) (br (br (pr.lt 16 0) false true) (br (pr.bg 3 x0.length) (br (br (pr.bO .u8 (bytes x0) (pr.idx 0 3 1)) true false) (br (br (pr.lt 24 0) false true) (br (pr.bg 4 x0.length) (br (br (pr.bO .u8 (bytes x0) (pr.idx 0 4 1)) true false) (cv 75 [y2,(.int .i64 1),(.int .i64 1000000)] (.bool (fun bK=>(.done (br (br bK false true) y1 (br (pr.lt 151 (pr.wrap .i64 (pr.aO (bytes x0) (pr.idx 0 4 1)))) y1 (br (pr.wa 5 y3 x0.length) (cv 159 [(.sl (some true) 1 y4 (List.take (Nat.mul y4 1) (List.drop (Nat.mul (pr.hZ 5) 1) (bytes x0))))] (.ty eO.mt (fun (dK:bj)=>(.bool (fun fb=>(.done (br (br fb false true) y1 (cv 161 [(.agg (ba true (cL none dK))),y2] (.ty eO.B (fun (cK:List UInt8)=>(.done (cv 160 [(dN true (s8 none cK)),(s8 (some true) x0)] (.bool (fun wu=>(.done (br (br wu false true) y1 (some ((.bf [(.agg (cL none dK)),y2,(.bool true)]),[.undef])))))))))))))))))) none))))))) none) none) none) none) none) none) none) none) none) none) none) none) none)):=by kernel_rfl
theorem Nx:Told cfg Tryz.prog 139 Tryz.f139:=⟨by kernel_rfl,Tryz.func139,by kernel_rfl⟩
theorem Ny (x0:List UInt8):aR pr cv J 139 Tryz.f139 [(s8 (some true) x0)]=
    let y1:Option (D × List D):=(some ((.bf [(.agg [(.sl none 1 0 []),(.sl none 1 0 []),(.bool false),(.bool false),(.bool false),(.int .i64 0)]),(.int .i64 0),(.bool false)]),[.undef]))
    let y2:D:=(.int .i64 (pr.ar .add .i64 (pr.ar .add .i64 (pr.ar .add .i64 (pr.wrap .i64 (pr.aO (bytes x0) (pr.idx 0 0 1))) (pr.ar .shl .i64 (pr.wrap .i64 (pr.aO (bytes x0) (pr.idx 0 1 1))) 8)) (pr.ar .shl .i64 (pr.wrap .i64 (pr.aO (bytes x0) (pr.idx 0 2 1))) 16)) (pr.ar .shl .i64 (pr.wrap .i64 (pr.aO (bytes x0) (pr.idx 0 3 1))) 24)))
    let y3:Int:=(pr.ar .add .i64 5 (pr.wrap .i64 (pr.aO (bytes x0) (pr.idx 0 4 1))))
    let y4:Nat:=(pr.nK y3 5)
    (br (br (pr.eq (pr.aS x0.length) 160) false true) y1 (br (pr.bg 0 x0.length) (br (br (pr.bO .u8 (bytes x0) (pr.idx 0 0 1)) true false) (br (pr.bg 1 x0.length) (br (br (pr.bO .u8 (bytes x0) (pr.idx 0 1 1)) true false) (br (br (pr.lt 8 0) false true) (br (pr.bg 2 x0.length) (br (br (pr.bO .u8 (bytes x0) (pr.idx 0 2 1)) true false) (br (br (pr.lt 16 0) false true) (br (pr.bg 3 x0.length) (br (br (pr.bO .u8 (bytes x0) (pr.idx 0 3 1)) true false) (br (br (pr.lt 24 0) false true) (br (pr.bg 4 x0.length) (br (br (pr.bO .u8 (bytes x0) (pr.idx 0 4 1)) true false) (cv 69 [y2,(.int .i64 1),(.int .i64 1000000)] (.bool (fun bK=>(.done (br (br bK false true) y1 (br (pr.lt 151 (pr.wrap .i64 (pr.aO (bytes x0) (pr.idx 0 4 1)))) y1 (br (pr.wa 5 y3 x0.length) (cv 151 [(.sl (some true) 1 y4 (List.take (Nat.mul y4 1) (List.drop (Nat.mul (pr.hZ 5) 1) (bytes x0))))] (.ty eO.mt (fun (dK:bj)=>(.bool (fun fb=>(.done (br (br fb false true) y1 (br (pr.sY (bytes x0)) (cv 152 [(.agg (ba true (cL none dK))),y2] (.ty eO.B (fun (cK:List UInt8)=>(.done (br (pr.sY (bytes cK)) (br (br (pr.seq (pr.BV (bytes cK)) (pr.BV (bytes x0))) false true) y1 (some ((.bf [(.agg (cL none dK)),y2,(.bool true)]),[.undef]))) none))))) none)))))))) none))))))) none) none) none) none) none) none) none) none) none) none) none) none) none)):=by kernel_rfl
theorem Nz:Told cfg Tryz.prog 146 Tryz.f146:=⟨by kernel_rfl,Tryz.func146,by kernel_rfl⟩
theorem NA (x0:bc):aR pr cv J 146 Tryz.f146 [(.agg (eF (some true) x0))]=
    (cv 154 [(s8 (some true) x0.a)] (.ty eO.mt (fun (aL:bj)=>(.int (fun kW=>(.bool (fun fb=>(.done (cv 154 [(s8 (some true) x0.b)] (.ty eO.mt (fun (cK:bj)=>(.int (fun qK=>(.bool (fun wv=>(.done (br wv (br (br fb false true) (some ((.bf [(.agg (cL none cK)),(.int .i64 qK),(.bool false)]),[.undef])) (br (pr.lt kW qK) (some ((.bf [(.agg (cL none cK)),(.int .i64 qK),(.bool false)]),[.undef])) (some ((.bf [(.agg (cL none aL)),(.int .i64 kW),(.bool fb)]),[.undef])))) (some ((.bf [(.agg (cL none aL)),(.int .i64 kW),(.bool fb)]),[.undef]))))))))))))))))))):=by kernel_rfl
theorem KA:Told cfg Tryz.prog 138 Tryz.f138:=⟨by kernel_rfl,Tryz.func138,by kernel_rfl⟩
theorem KC (x0:bc):aR pr cv J 138 Tryz.f138 [(.agg (eF (some true) x0))]=
    let y1:Option (D × List D):=(some ((.int .i64 0),[.undef]))
    let y2:Option (D × List D):=(some ((.int .i64 1),[.undef]))
    let y3:Option (D × List D):=(some ((.int .i64 (-1)),[.undef]))
    (cv 139 [(s8 (some true) x0.a)] (.ty eO.mt (fun (aL:bj)=>(.int (fun kW=>(.bool (fun fb=>(.done (cv 139 [(s8 (some true) x0.b)] (.ty eO.mt (fun (cK:bj)=>(.int (fun qK=>(.bool (fun wv=>(.done (br fb (br (br wv false true) y1 (br (pr.le qK kW) y1 (br wv y2 y3))) (br wv y2 y3)))))))))))))))))):=by kernel_rfl
theorem KD:Told cfg Tryz.prog 113 Tryz.f113:=⟨by kernel_rfl,Tryz.func113,by kernel_rfl⟩
theorem KE (x0:bc):aR pr cv J 113 Tryz.f113 [(.agg (eF (some true) x0))]=
    (cv 146 [(.agg (eF (some true) x0))] (.ty eO.mt (fun (aL:bj)=>(.int (fun kW=>(.bool (fun fb=>(.done (some ((.bf [(.agg (cL none aL)),(.int .i64 kW),(.bool (pr.lt 0 kW))]),[.undef])))))))))):=by kernel_rfl
theorem KF:Told cfg Tryz.prog 102 Tryz.f102:=⟨by kernel_rfl,Tryz.func102,by kernel_rfl⟩
theorem KG (x0:bc):aR pr cv J 102 Tryz.f102 [(.agg (eF (some true) x0))]=
    let y1:bS Rz:=(.ty eO.mt (fun (dK:bj)=>(.int (fun sb=>(.bool (fun Cj=>(.done (some ((.bf [(.agg (cL none dK)),(.int .i64 sb),(.bool Cj)]),[.undef])))))))))
    (cv 138 [(.agg (eF (some true) x0))] (.int (fun dA=>(.done (br (pr.eq dA 1) (cv 139 [(s8 (some true) x0.b)] y1) (cv 139 [(s8 (some true) x0.a)] y1)))))):=by kernel_rfl
end
@[go_sem] theorem rQ (a:Nat):(rN a).length=4:=rfl
attribute [go_sem] C3 jv fq
@[go_sem] theorem acP (b0:Nat) (b:List UInt8) (e0:b0=b.length) (q0:b.length≤1000000) (t:bS Rz):aU 159 [.sl (some true) 1 b0 (bytes b)] t=feed t [enc .mt ((dZ b).1),.bool ((dZ b).2)]:=by
  subst e0
  exact bR (r:=.bf [enc .mt ((dZ b).1),.bool ((dZ b).2)]) (s:=.bf [.ty .mt,.bool]) (ss:=[.undef]) (Nr b q0) (by kernel_rfl) (by simp only [av,bE,aY,bF,bG,ah,ak,Bool.and_self]) (by simp only [ah,aM,av,ak,Bool.and_self]) (by first | rfl | simp only [au,aW,aV,bB,bC,aX,bD,Bool.and_self]) (by first | rfl | simp only [List.all_cons,List.all_nil,au,Bool.and_self]) t
@[go_sem] theorem acQ (b0:Nat) (b:List UInt8) (e0:b0=b.length) (q0:b.length≤1000000) (t:bS Rz):aU 151 [.sl (some true) 1 b0 (bytes b)] t=feed t [enc .mt ((dZ b).1),.bool ((dZ b).2)]:=by
  subst e0
  exact bR (r:=.bf [enc .mt ((dZ b).1),.bool ((dZ b).2)]) (s:=.bf [.ty .mt,.bool]) (ss:=[.undef]) (Nq b q0) (by kernel_rfl) (by simp only [av,bE,aY,bF,bG,ah,ak,Bool.and_self]) (by simp only [ah,aM,av,ak,Bool.and_self]) (by first | rfl | simp only [au,aW,aV,bB,bC,aX,bD,Bool.and_self]) (by first | rfl | simp only [List.all_cons,List.all_nil,au,Bool.and_self]) t
@[go_sem] theorem afR (a:Nat) (q0:a < 4611686018427387904) (t:bS Rz):aU 167 [.int .i64 (a:Int)] t=feed t [enc .B (rN a)]:=by
  exact bR (r:=enc .B (rN a)) (s:=.ty .B) (ss:=[.undef]) (afc a q0) (by kernel_rfl) (by simp only [av,bE,aY,bF,bG,ah,ak,Bool.and_self]) (by simp only [ah,aM,av,ak,Bool.and_self]) (by first | rfl | simp only [au,aW,aV,bB,bC,aX,bD,Bool.and_self]) (by first | rfl | simp only [List.all_cons,List.all_nil,au,Bool.and_self]) t
@[go_sem] theorem afg (a:Nat) (q0:a < 4611686018427387904) (t:bS Rz):aU 158 [.int .i64 (a:Int)] t=feed t [enc .B (rN a)]:=by
  exact bR (r:=enc .B (rN a)) (s:=.ty .B) (ss:=[.undef]) (acs a q0) (by kernel_rfl) (by simp only [av,bE,aY,bF,bG,ah,ak,Bool.and_self]) (by simp only [ah,aM,av,ak,Bool.and_self]) (by first | rfl | simp only [au,aW,aV,bB,bC,aX,bD,Bool.and_self]) (by first | rfl | simp only [List.all_cons,List.all_nil,au,Bool.and_self]) t
def nZ (m:bj) (n:Nat):List UInt8:=rN n++[UInt8.ofNat (cO m).length]++cO m++List.replicate (151 - (cO m).length) 0++rN n
@[go_sem] theorem Zm (n k:Nat) (a:List Int) (b:List (List Int)) (f o h:Bool) (l:Int) (e1:n=a.length) (e2:k=b.length) (q:du ⟨a,b,f,o,h,l⟩) (t:bS Rz):aU 157 [.agg [.sl (some true) 1 n (ints a),.sl (some true) 1 k (rows (some true) b),.bool f,.bool o,.bool h,.int .i64 l]] t=feed t [s8 none (cO ⟨a,b,f,o,h,l⟩)]:=by
  subst e1
  subst e2
  exact wQ (g:=true) (m:=⟨a,b,f,o,h,l⟩) (hm:=q) t
@[go_sem] theorem Zn (n k:Nat) (a:List Int) (b:List (List Int)) (f o h:Bool) (l:Int) (e1:n=a.length) (e2:k=b.length) (q:du ⟨a,b,f,o,h,l⟩) (t:bS Rz):aU 166 [.agg [.sl (some true) 1 n (ints a),.sl (some true) 1 k (rows (some true) b),.bool f,.bool o,.bool h,.int .i64 l]] t=feed t [s8 none (cO ⟨a,b,f,o,h,l⟩)]:=by
  subst e1
  subst e2
  exact wR (g:=true) (m:=⟨a,b,f,o,h,l⟩) (hm:=q) t
theorem wV (m:bj) (n:Nat) (q0:du m) (q1:(cO m).length≤151) (q2:n < 4611686018427387904):Cm 161 [.agg (cL (some true) m),.int .i64 (n:Int)] (s8 none (nZ m n),[.undef,.undef]):=by
  refine Cm.step Gl _ fun J _=>?_
  rw [Gm]
  unfold nZ
  simp (disch:=first | assumption | omega) only [go_sem,aB]
  have e:(156 - ((4+1+(cO m).length:Nat):Int)).toNat=151 - (cO m).length:=by omega
  rw [e]
  simp only [s8,List.length_append,rQ,List.length_replicate,List.length_singleton]
@[go_sem] theorem Zo (oP:Nat) (gl:List Int) (oQ:Nat) (gn:List (List Int)) (iu:Bool) (iv:Bool) (ix:Bool) (iy:Int) (n:Nat) (e0:oP=gl.length) (e1:oQ=gn.length) (q0:du (⟨gl,gn,iu,iv,ix,iy⟩:bj)) (q1:(cO (⟨gl,gn,iu,iv,ix,iy⟩:bj)).length≤151) (q2:n < 4611686018427387904) (t:bS Rz):aU 161 [.agg [.sl (some true) 1 oP (ints gl),.sl (some true) 1 oQ (rows (some true) gn),.bool iu,.bool iv,.bool ix,.int .i64 iy],.int .i64 (n:Int)] t=feed t [enc .B (nZ (⟨gl,gn,iu,iv,ix,iy⟩:bj) n)]:=by
  subst e0
  subst e1
  exact bR (r:=enc .B (nZ (⟨gl,gn,iu,iv,ix,iy⟩:bj) n)) (s:=.ty .B) (ss:=[.undef,.undef]) (wV (⟨gl,gn,iu,iv,ix,iy⟩:bj) n q0 q1 q2) (by kernel_rfl) (by simp only [av,bE,aY,bF,bG,ah,ak,Bool.and_self]) (by simp only [ah,aM,av,ak,Bool.and_self]) (by first | rfl | simp only [au,aW,aV,bB,bC,aX,bD,Bool.and_self]) (by first | rfl | simp only [List.all_cons,List.all_nil,au,Bool.and_self]) t
theorem A7 (m:bj) (n:Nat) (q0:du m) (q1:(cO m).length≤151) (q2:n < 4611686018427387904):Cm 152 [.agg (cL (some true) m),.int .i64 (n:Int)] (s8 none (nZ m n),[.undef,.undef]):=by
  have key:∀ k (o:List UInt8),o.length+k=156→WP 152 Tryz.f152 [.undef,.undef] 0 (nY (n:Int) o.length (bytes o)) (s8 none (o++List.replicate k 0++rN n),[.undef,.undef]):=by
    intro k
    induction k with
    | zero=>
      intro o ho
      refine WP.step fun J _=>?_
      rw [wU]
      simp (disch:=first | assumption | omega) only [go_sem]
      simp only [s8,List.replicate_zero,List.append_nil,List.length_append,rQ]
    | succ k ih=>
      intro o ho
      refine WP.step fun J hJ=>?_
      rw [wU]
      simp (disch:=first | assumption | omega) only [go_sem]
      have h:=ih (o++[0]) (by simp only [List.length_append,List.length_singleton]; omega)
      rw [List.length_append,List.length_singleton,List.append_assoc o,List.singleton_append,← List.replicate_succ] at h
      exact hJ _ _ h
  refine Cm.step Nt [.undef,.undef] fun J hJ=>?_
  rw [Nu]
  simp (disch:=first | assumption | omega) only [go_sem]
  have h:=key (151 - (cO m).length) (rN n++[UInt8.ofNat (cO m).length]++cO m) (by simp only [List.length_append,rQ,List.length_singleton]; omega)
  rw [List.length_append,List.length_append,rQ,List.length_singleton] at h
  exact hJ _ _ h
@[go_sem] theorem acR (oP:Nat) (gl:List Int) (oQ:Nat) (gn:List (List Int)) (iu:Bool) (iv:Bool) (ix:Bool) (iy:Int) (n:Nat) (e0:oP=gl.length) (e1:oQ=gn.length) (q0:du (⟨gl,gn,iu,iv,ix,iy⟩:bj)) (q1:(cO (⟨gl,gn,iu,iv,ix,iy⟩:bj)).length≤151) (q2:n < 4611686018427387904) (t:bS Rz):aU 152 [.agg [.sl (some true) 1 oP (ints gl),.sl (some true) 1 oQ (rows (some true) gn),.bool iu,.bool iv,.bool ix,.int .i64 iy],.int .i64 (n:Int)] t=feed t [enc .B (nZ (⟨gl,gn,iu,iv,ix,iy⟩:bj) n)]:=by
  subst e0
  subst e1
  exact bR (r:=enc .B (nZ (⟨gl,gn,iu,iv,ix,iy⟩:bj) n)) (s:=.ty .B) (ss:=[.undef,.undef]) (A7 (⟨gl,gn,iu,iv,ix,iy⟩:bj) n q0 q1 q2) (by kernel_rfl) (by simp only [av,bE,aY,bF,bG,ah,ak,Bool.and_self]) (by simp only [ah,aM,av,ak,Bool.and_self]) (by first | rfl | simp only [au,aW,aV,bB,bC,aX,bD,Bool.and_self]) (by first | rfl | simp only [List.all_cons,List.all_nil,au,Bool.and_self]) t
def mW (b:List UInt8):Nat:=(b.getD 0 0).toNat+(b.getD 1 0).toNat*256+(b.getD 2 0).toNat*65536+(b.getD 3 0).toNat*16777216
def lX (b:List UInt8):List UInt8:=(b.drop 5).take (b.getD 4 0).toNat
def gG (b:List UInt8):Bool:=decide ((b.length:Int)=160)&&(decide (1≤(mW b:Int)∧(mW b:Int)≤1000000)&&(!decide (151 < ((b.getD 4 0).toNat:Int))&&((dZ (lX b)).2&&decide (nZ (dZ (lX b)).1 (mW b)=b))))
def cw (b:List UInt8):bj × Int × Bool:=if gG b then ((dZ (lX b)).1,(mW b:Int),true) else (fX,0,false)
theorem IW {b:List UInt8} (h:(dZ b).2=true):cO (dZ b).1=b:=by
  unfold dZ at h ⊢
  split at h
  · rename_i h1
    rw [if_pos h1]
    simp only [Bool.and_eq_true,decide_eq_true_eq] at h1
    exact h1.2.1
  · simp at h
theorem gW {b:List UInt8} (h:gG b=false):cw b=(fX,0,false):=by unfold cw; rw [h]; rfl
theorem yn {b:List UInt8} (h:gG b=true):cw b=((dZ (lX b)).1,(mW b:Int),true):=by unfold cw; rw [h]; rfl
theorem QQ {b:List UInt8} (h:b.length=160) (h4:(b.getD 4 0).toNat≤151):(lX b).length=(b.getD 4 0).toNat:=by simp only [lX,List.length_take,List.length_drop]; omega
theorem S5 (b:List UInt8):mW b < 4294967296:=by
  have:=(b.getD 0 0).toNat_lt; have:=(b.getD 1 0).toNat_lt; have:=(b.getD 2 0).toNat_lt; have:=(b.getD 3 0).toNat_lt
  unfold mW; omega
theorem Ar (b:List UInt8):ad.ar .add .i64 (ad.ar .add .i64 (ad.ar .add .i64 ((b.getD 0 0).toNat:Int) (ad.ar .shl .i64 ((b.getD 1 0).toNat:Int) 8)) (ad.ar .shl .i64 ((b.getD 2 0).toNat:Int) 16)) (ad.ar .shl .i64 ((b.getD 3 0).toNat:Int) 24)=((mW b:Nat):Int):=by
  have h0:=(b.getD 0 0).toNat_lt; have h1:=(b.getD 1 0).toNat_lt; have h2:=(b.getD 2 0).toNat_lt; have h3:=(b.getD 3 0).toNat_lt
  have s1:ad.ar .shl .i64 ((b.getD 1 0).toNat:Int) 8=_:=wL (k:=8) (by omega) (by omega)
  have s2:ad.ar .shl .i64 ((b.getD 2 0).toNat:Int) 16=_:=wL (k:=16) (by omega) (by omega)
  have s3:ad.ar .shl .i64 ((b.getD 3 0).toNat:Int) 24=_:=wL (k:=24) (by omega) (by omega)
  rw [s1,s2,s3,um (by omega),um (by omega),um (by omega)]
  rfl
theorem D6 (b:List UInt8):ad.ar .or .i64 (ad.ar .or .i64 (ad.ar .or .i64 ((b.getD 0 0).toNat:Int) (ad.ar .shl .i64 ((b.getD 1 0).toNat:Int) 8)) (ad.ar .shl .i64 ((b.getD 2 0).toNat:Int) 16)) (ad.ar .shl .i64 ((b.getD 3 0).toNat:Int) 24)=((mW b:Nat):Int):=by
  have h0:=(b.getD 0 0).toNat_lt; have h1:=(b.getD 1 0).toNat_lt; have h2:=(b.getD 2 0).toNat_lt; have h3:=(b.getD 3 0).toNat_lt
  have s1:ad.ar .shl .i64 ((b.getD 1 0).toNat:Int) 8=_:=wL (k:=8) (by omega) (by omega)
  have s2:ad.ar .shl .i64 ((b.getD 2 0).toNat:Int) 16=_:=wL (k:=16) (by omega) (by omega)
  have s3:ad.ar .shl .i64 ((b.getD 3 0).toNat:Int) 24=_:=wL (k:=24) (by omega) (by omega)
  rw [s1,s2,s3,Oe (by omega) (by omega),IL (k:=8) h0,Oe (by omega) (by omega),IL (k:=16) (by omega),Oe (by omega) (by omega),IL (k:=24) (by omega)]
  rfl
theorem afh {b:List UInt8} (h:¬((b.length:Int)=160)):gG b=false:=by simp only [gG,h,decide_false,Bool.false_and]
theorem afi {b:List UInt8} (h:¬(1≤(mW b:Int)∧(mW b:Int)≤1000000)):gG b=false:=by simp only [gG,h,decide_false,Bool.false_and,Bool.and_false]
theorem afj {b:List UInt8} (h:151 < ((b.getD 4 0).toNat:Int)):gG b=false:=by simp only [gG,h,decide_true,Bool.not_true,Bool.false_and,Bool.and_false]
theorem afk {b:List UInt8} (h:(dZ (lX b)).2=false):gG b=false:=by simp only [gG,h,Bool.false_and,Bool.and_false]
theorem afl {b:List UInt8} (h:¬(nZ (dZ (lX b)).1 (mW b)=b)):gG b=false:=by simp only [gG,h,decide_false,Bool.and_false]
theorem afm {b:List UInt8} (h1:(b.length:Int)=160) (h2:1≤(mW b:Int)∧(mW b:Int)≤1000000) (h3:¬(151 < ((b.getD 4 0).toNat:Int))) (h4:(dZ (lX b)).2=true) (h5:nZ (dZ (lX b)).1 (mW b)=b):gG b=true:=by simp only [gG,h1,h2,h3,h4,h5,and_self,decide_true,decide_false,Bool.not_false,Bool.and_self]
theorem NB (b:List UInt8) (q0:b.length≤1048576):Cm 139 [s8 (some true) b] (.bf [.agg (cL none ((cw b).1)),.int .i64 ((cw b).2.1),.bool ((cw b).2.2)],[.undef]):=by
  refine Cm.step Nx _ fun J _=>?_
  rw [Ny]
  simp (disch:=first | assumption | omega) only [go_sem]
  refine bq (fun hl=>?_) (fun hl=>by rw [gW (afh hl)]; rfl)
  have h4:=(b.getD 4 0).toNat_lt
  have hw:=S5 b
  simp (disch:=first | assumption | omega) only [go_sem,Ar]
  refine bq (fun hn=>?_) (fun hn=>by rw [gW (afi hn)]; rfl)
  simp (disch:=first | assumption | omega) only [go_sem]
  refine bq (fun hs=>by rw [gW (afj hs)]; rfl) (fun hs=>?_)
  have hp:=QQ (b:=b) (by omega) (by omega)
  have ep:List.take (b.getD 4 0).toNat (List.drop 5 b)=lX b:=rfl
  have cQ:=C4 (lX b) (by omega)
  have e5:(5+((b.getD 4 0).toNat:Int)).toNat - 5=(b.getD 4 0).toNat:=by omega
  simp (disch:=first | assumption | omega) only [go_sem,e5,ep,Ar]
  refine SZ (fun hq=>?_) (fun hq=>by rw [gW (afk hq)]; rfl)
  have hm:=IW hq
  simp (disch:=first | assumption | (rw [hm]; omega) | omega) only [go_sem,Ar]
  refine bq (fun he=>?_) (fun he=>by rw [gW (afl he)]; rfl)
  simp (disch:=first | assumption | omega) only [go_sem,Ar,yn (afm hl hn hs hq he)]
@[go_sem] theorem acS (b0:Nat) (b:List UInt8) (e0:b0=b.length) (q0:b.length≤1048576) (t:bS Rz):aU 139 [.sl (some true) 1 b0 (bytes b)] t=feed t [enc .mt ((cw b).1),.int .i64 ((cw b).2.1),.bool ((cw b).2.2)]:=by
  subst e0
  exact bR (r:=.bf [enc .mt ((cw b).1),.int .i64 ((cw b).2.1),.bool ((cw b).2.2)]) (s:=.bf [.ty .mt,.int .i64,.bool]) (ss:=[.undef]) (NB b q0) (by kernel_rfl) (by simp only [av,bE,aY,bF,bG,ah,ak,Bool.and_self]) (by simp only [ah,aM,av,ak,Bool.and_self]) (by first | rfl | simp only [au,aW,aV,bB,bC,aX,bD,Bool.and_self]) (by first | rfl | simp only [List.all_cons,List.all_nil,au,Bool.and_self]) t
theorem NC (b:List UInt8) (q0:b.length≤1048576):Cm 154 [s8 (some true) b] (.bf [.agg (cL none ((cw b).1)),.int .i64 ((cw b).2.1),.bool ((cw b).2.2)],[.undef]):=by
  refine Cm.step Nv _ fun J _=>?_
  rw [Nw]
  simp (disch:=first | assumption | omega) only [go_sem]
  refine bq (fun hl=>?_) (fun hl=>by rw [gW (afh hl)]; rfl)
  have h4:=(b.getD 4 0).toNat_lt
  have hw:=S5 b
  simp (disch:=first | assumption | omega) only [go_sem,D6]
  refine bq (fun hn=>?_) (fun hn=>by rw [gW (afi hn)]; rfl)
  simp (disch:=first | assumption | omega) only [go_sem]
  refine bq (fun hs=>by rw [gW (afj hs)]; rfl) (fun hs=>?_)
  have hp:=QQ (b:=b) (by omega) (by omega)
  have ep:List.take (b.getD 4 0).toNat (List.drop 5 b)=lX b:=rfl
  have cQ:=C4 (lX b) (by omega)
  have e5:(5+((b.getD 4 0).toNat:Int)).toNat - 5=(b.getD 4 0).toNat:=by omega
  simp (disch:=first | assumption | omega) only [go_sem,e5,ep,D6]
  refine SZ (fun hq=>?_) (fun hq=>by rw [gW (afk hq)]; rfl)
  have hm:=IW hq
  simp (disch:=first | assumption | (rw [hm]; omega) | omega) only [go_sem,D6]
  refine bq (fun he=>?_) (fun he=>by rw [gW (afl he)]; rfl)
  simp (disch:=first | assumption | omega) only [go_sem,D6,yn (afm hl hn hs hq he)]
@[go_sem] theorem acT (b0:Nat) (b:List UInt8) (e0:b0=b.length) (q0:b.length≤1048576) (t:bS Rz):aU 154 [.sl (some true) 1 b0 (bytes b)] t=feed t [enc .mt ((cw b).1),.int .i64 ((cw b).2.1),.bool ((cw b).2.2)]:=by
  subst e0
  exact bR (r:=.bf [enc .mt ((cw b).1),.int .i64 ((cw b).2.1),.bool ((cw b).2.2)]) (s:=.bf [.ty .mt,.int .i64,.bool]) (ss:=[.undef]) (NC b q0) (by kernel_rfl) (by simp only [av,bE,aY,bF,bG,ah,ak,Bool.and_self]) (by simp only [ah,aM,av,ak,Bool.and_self]) (by first | rfl | simp only [au,aW,aV,bB,bC,aX,bD,Bool.and_self]) (by first | rfl | simp only [List.all_cons,List.all_nil,au,Bool.and_self]) t
theorem L0 (b:List UInt8):du (cw b).1:=by
  unfold cw
  split
  · exact C4 (lX b) (by have:=(b.getD 4 0).toNat_lt; simp only [lX,List.length_take,List.length_drop]; omega)
  · exact ⟨by simp [fX],by simp [fX],by simp [fX]⟩
theorem IX (b:List UInt8):if (cw b).2.2 then 1≤(cw b).2.1∧(cw b).2.1≤1000000 else cw b=(fX,0,false):=by
  cases h:gG b with
  | false=>rw [gW h]; rfl
  | true=>
    rw [yn h]
    simp only [gG,Bool.and_eq_true,decide_eq_true_eq] at h
    exact h.2.1
def IY (s:bc):Bool:=(cw s.b).2.2&&(!(cw s.a).2.2||decide ((cw s.a).2.1 < (cw s.b).2.1))
def aT (s:bc):bj × Int × Bool:=if IY s then cw s.b else cw s.a
def py (s:bc):Bool:=!IY s&&(cw s.a).2.2
theorem A8 (s:bc) (q0:fM s):Cm 146 [.agg (eF (some true) s)] (.bf [.agg (cL none ((((aT s).1,(aT s).2.1,py s)).1)),.int .i64 ((((aT s).1,(aT s).2.1,py s)).2.1),.bool ((((aT s).1,(aT s).2.1,py s)).2.2)],[.undef]):=by
  have qa:=q0.a
  have qb:=q0.b
  have h1:=IX s.a
  refine Cm.step Nz _ fun J _=>?_
  rw [NA]
  simp (disch:=first | assumption | omega) only [go_sem]
  unfold aT py IY
  generalize cw s.a=a at*
  generalize cw s.b=b at*
  obtain ⟨a1,a2,a3⟩:=a
  obtain ⟨b1,b2,b3⟩:=b
  cases a3<;>cases b3<;>by_cases h:a2 < b2<;>simp [br,h,enc,Uf]
@[go_sem] theorem acU (wW:Nat) (fj:List UInt8) (wX:Nat) (fk:List UInt8) (e0:wW=fj.length) (e1:wX=fk.length) (q0:fM (⟨fj,fk⟩:bc)) (t:bS Rz):aU 146 [.agg [.sl (some true) 1 wW (bytes fj),.sl (some true) 1 wX (bytes fk)]] t=feed t [enc .mt ((((aT (⟨fj,fk⟩:bc)).1,(aT (⟨fj,fk⟩:bc)).2.1,py (⟨fj,fk⟩:bc))).1),.int .i64 ((((aT (⟨fj,fk⟩:bc)).1,(aT (⟨fj,fk⟩:bc)).2.1,py (⟨fj,fk⟩:bc))).2.1),.bool ((((aT (⟨fj,fk⟩:bc)).1,(aT (⟨fj,fk⟩:bc)).2.1,py (⟨fj,fk⟩:bc))).2.2)]:=by
  subst e0
  subst e1
  exact bR (r:=.bf [enc .mt ((((aT (⟨fj,fk⟩:bc)).1,(aT (⟨fj,fk⟩:bc)).2.1,py (⟨fj,fk⟩:bc))).1),.int .i64 ((((aT (⟨fj,fk⟩:bc)).1,(aT (⟨fj,fk⟩:bc)).2.1,py (⟨fj,fk⟩:bc))).2.1),.bool ((((aT (⟨fj,fk⟩:bc)).1,(aT (⟨fj,fk⟩:bc)).2.1,py (⟨fj,fk⟩:bc))).2.2)]) (s:=.bf [.ty .mt,.int .i64,.bool]) (ss:=[.undef]) (A8 (⟨fj,fk⟩:bc) q0) (by kernel_rfl) (by simp only [av,bE,aY,bF,bG,ah,ak,Bool.and_self]) (by simp only [ah,aM,av,ak,Bool.and_self]) (by first | rfl | simp only [au,aW,aV,bB,bC,aX,bD,Bool.and_self]) (by first | rfl | simp only [List.all_cons,List.all_nil,au,Bool.and_self]) t
def uq (s:bc):Int:=if (cw s.a).2.2&&(!(cw s.b).2.2||decide ((cw s.b).2.1≤(cw s.a).2.1)) then 0 else if (cw s.b).2.2 then 1 else -1
theorem zn (s:bc) (q0:fM s):Cm 138 [.agg (eF (some true) s)] (.int .i64 (uq s),[.undef]):=by
  have qa:=q0.a
  have qb:=q0.b
  refine Cm.step KA _ fun J _=>?_
  rw [KC]
  simp (disch:=first | assumption | omega) only [go_sem]
  unfold uq
  generalize cw s.a=a
  generalize cw s.b=b
  obtain ⟨a1,a2,a3⟩:=a
  obtain ⟨b1,b2,b3⟩:=b
  cases a3<;>cases b3<;>by_cases h:b2≤a2<;>simp [br,h,Ad]
@[go_sem] theorem acv (wW:Nat) (fj:List UInt8) (wX:Nat) (fk:List UInt8) (e0:wW=fj.length) (e1:wX=fk.length) (q0:fM (⟨fj,fk⟩:bc)) (t:bS Rz):aU 138 [.agg [.sl (some true) 1 wW (bytes fj),.sl (some true) 1 wX (bytes fk)]] t=feed t [.int .i64 (uq (⟨fj,fk⟩:bc))]:=by
  subst e0
  subst e1
  exact bR (r:=.int .i64 (uq (⟨fj,fk⟩:bc))) (s:=.int .i64) (ss:=[.undef]) (zn (⟨fj,fk⟩:bc) q0) (by kernel_rfl) (by simp only [av,bE,aY,bF,bG,ah,ak,Bool.and_self]) (by simp only [ah,aM,av,ak,Bool.and_self]) (by first | rfl | simp only [au,aW,aV,bB,bC,aX,bD,Bool.and_self]) (by first | rfl | simp only [List.all_cons,List.all_nil,au,Bool.and_self]) t
theorem Uz (s:bc):decide (uq s=1)=IY s:=by
  unfold uq IY
  generalize cw s.a=a
  generalize cw s.b=b
  obtain ⟨a1,a2,a3⟩:=a
  obtain ⟨b1,b2,b3⟩:=b
  cases a3<;>cases b3<;>by_cases h:b2≤a2<;>simp [h]<;>omega
theorem RF (s:bc):decide (0 < (aT s).2.1)=(aT s).2.2:=by
  unfold aT
  have key:∀ b,decide (0 < (cw b).2.1)=(cw b).2.2:=fun b=>by
    have h:=IX b
    split at h
    · rename_i h1
      rw [h1,decide_eq_true (by omega)]
    · rw [h]; rfl
  split<;>exact key _
theorem IZ (s:bc):du (aT s).1:=by
  unfold aT
  split
  · exact L0 _
  · exact L0 _
theorem zo (s:bc) (q0:fM s):Cm 113 [.agg (eF (some true) s)] (.bf [.agg (cL none ((aT s).1)),.int .i64 ((aT s).2.1),.bool ((aT s).2.2)],[.undef]):=by
  refine Cm.step KD _ fun J _=>?_
  rw [KE]
  simp (disch:=first | assumption | omega) only [go_sem,RF]
@[go_sem] theorem acw (wW:Nat) (fj:List UInt8) (wX:Nat) (fk:List UInt8) (e0:wW=fj.length) (e1:wX=fk.length) (q0:fM (⟨fj,fk⟩:bc)) (t:bS Rz):aU 113 [.agg [.sl (some true) 1 wW (bytes fj),.sl (some true) 1 wX (bytes fk)]] t=feed t [enc .mt ((aT (⟨fj,fk⟩:bc)).1),.int .i64 ((aT (⟨fj,fk⟩:bc)).2.1),.bool ((aT (⟨fj,fk⟩:bc)).2.2)]:=by
  subst e0
  subst e1
  exact bR (r:=.bf [enc .mt ((aT (⟨fj,fk⟩:bc)).1),.int .i64 ((aT (⟨fj,fk⟩:bc)).2.1),.bool ((aT (⟨fj,fk⟩:bc)).2.2)]) (s:=.bf [.ty .mt,.int .i64,.bool]) (ss:=[.undef]) (zo (⟨fj,fk⟩:bc) q0) (by kernel_rfl) (by simp only [av,bE,aY,bF,bG,ah,ak,Bool.and_self]) (by simp only [ah,aM,av,ak,Bool.and_self]) (by first | rfl | simp only [au,aW,aV,bB,bC,aX,bD,Bool.and_self]) (by first | rfl | simp only [List.all_cons,List.all_nil,au,Bool.and_self]) t
theorem zp (s:bc) (q0:fM s):Cm 102 [.agg (eF (some true) s)] (.bf [.agg (cL none ((aT s).1)),.int .i64 ((aT s).2.1),.bool ((aT s).2.2)],[.undef]):=by
  have qa:=q0.a
  have qb:=q0.b
  refine Cm.step KF _ fun J _=>?_
  rw [KG]
  simp (disch:=first | assumption | omega) only [go_sem,Uz]
  unfold aT
  refine gF (fun h=>?_) (fun h=>?_)
  · simp (disch:=first | assumption | omega) only [go_sem,h]
  · simp (disch:=first | assumption | omega) only [go_sem,if_neg h]
@[go_sem] theorem acx (wW:Nat) (fj:List UInt8) (wX:Nat) (fk:List UInt8) (e0:wW=fj.length) (e1:wX=fk.length) (q0:fM (⟨fj,fk⟩:bc)) (t:bS Rz):aU 102 [.agg [.sl (some true) 1 wW (bytes fj),.sl (some true) 1 wX (bytes fk)]] t=feed t [enc .mt ((aT (⟨fj,fk⟩:bc)).1),.int .i64 ((aT (⟨fj,fk⟩:bc)).2.1),.bool ((aT (⟨fj,fk⟩:bc)).2.2)]:=by
  subst e0
  subst e1
  exact bR (r:=.bf [enc .mt ((aT (⟨fj,fk⟩:bc)).1),.int .i64 ((aT (⟨fj,fk⟩:bc)).2.1),.bool ((aT (⟨fj,fk⟩:bc)).2.2)]) (s:=.bf [.ty .mt,.int .i64,.bool]) (ss:=[.undef]) (zp (⟨fj,fk⟩:bc) q0) (by kernel_rfl) (by simp only [av,bE,aY,bF,bG,ah,ak,Bool.and_self]) (by simp only [ah,aM,av,ak,Bool.and_self]) (by first | rfl | simp only [au,aW,aV,bB,bC,aX,bD,Bool.and_self]) (by first | rfl | simp only [List.all_cons,List.all_nil,au,Bool.and_self]) t
end Go.Proofs.YtockoilcnmljiaaGreat
namespace Go.Proofs.YtockoilcnmljiaaGreat
set_option maxRecDepth 100000
section
variable (pr:dr) (cv:Cv Rz) (J:Nat→St→Option Rz)
def jc (x0:ae) (i0:Int):St:=(St.mk [(1,(.ptr 1 [] 0)),(85,(.int .i64 i0))] [(1,(ab (some true) x0))] [] 0)
def jd (x0:ae) (i0:Int) (i1:Int):St:=(St.mk [(1,(.ptr 1 [] 0)),(139,(sI (some true) x0.wait)),(140,(.int .i64 i0)),(141,(.int .i64 i1))] [(1,(ab (some true) x0))] [] 0)
theorem ND:Told cfg Tryz.prog 48 Tryz.f48:=⟨by kernel_rfl,Tryz.func48,by kernel_rfl⟩
theorem NF (x0:ae):aR pr cv J 48 Tryz.f48 [(.agg (ab (some true) x0))]=
    let y1:Option (D × List D):=(some ((.bool false),[.undef]))
    let y2:Option Rz:=(cv 113 [(.agg (eF (some true) x0.cJ))] (.ty eO.mt (fun (sm:bj)=>(.int (fun ui=>(.bool (fun mw=>(.done (br (br mw false true) y1 (cv 114 [(.agg (ba true (cL none sm))),(.agg (cL (some true) x0.mt))] (.bool (fun vb7=>(.done (br (br vb7 false true) y1 (J 0 (jc x0 0))))))))))))))))
    let y3:Option (D × List D):=(br (br x0.up false true) (br (pr.lt 0 (pr.aS x0.wait.length)) y1 y2) y2)
    (cv 76 [(.int .i64 x0.id)] (.bool (fun bK=>(.done (br (br bK false true) y1 (cv 110 [(sI (some true) x0.image)] (.bool (fun eQ=>(.done (br (br eQ false true) y1 (cv 111 [(.agg (cL (some true) x0.mt))] (.bool (fun fb=>(.done (br (br fb false true) y1 (br (br (pr.eq (pr.aS x0.conn.length) 3) false true) y1 (cv 112 [(sR (some true) x0.sync)] (.bool (fun Cj=>(.done (br (br Cj false true) y1 (br (br (pr.eq (pr.aS x0.bV.length) 3) false true) y1 (br x0.cU (br (br x0.up false true) y1 (br (pr.eq x0.id 2) y1 y3)) y3))))))))))))))))))))))):=by kernel_rfl
theorem Gn (x0:ae) (i0:Int):bJ pr cv J 48 Tryz.f48 [.undef] 0 (jc x0 i0)=
    let y1:Option (D × List D):=(some ((.bool false),[.undef]))
    let y2:Option Rz:=(J 0 (jc x0 (pr.ar .add .i64 i0 1)))
    let y3:Option (D × List D):=(br (pr.bg i0 x0.sync.length) (br (br (pr.aN 1 (rows (some true) x0.sync) (pr.idx 0 i0 1)) true false) (br (pr.lt 0 (pr.aS (pr.aC (rows (some true) x0.sync) (pr.idx 0 i0 1)))) (br (pr.bg i0 x0.bV.length) (br (br (pr.cd (bI x0.bV) (pr.idx 0 i0 1)) true false) (br (br (pr.bw (bI x0.bV) (pr.idx 0 i0 1)) false true) y1 y2) none) none) y2) none) none)
    let y4:Option (D × List D):=(br (pr.bg i0 x0.bV.length) (br (br (pr.cd (bI x0.bV) (pr.idx 0 i0 1)) true false) (br (pr.bw (bI x0.bV) (pr.idx 0 i0 1)) (br (pr.bg i0 x0.conn.length) (br (br (pr.cd (bI x0.conn) (pr.idx 0 i0 1)) true false) (br (br (pr.bw (bI x0.conn) (pr.idx 0 i0 1)) false true) y1 y3) none) none) y3) none) none)
    (br (pr.lt i0 3) (br x0.up (br (pr.bg i0 x0.conn.length) (br (br (pr.cd (bI x0.conn) (pr.idx 0 i0 1)) true false) (br (pr.bw (bI x0.conn) (pr.idx 0 i0 1)) (br (br (br (pr.eq i0 x0.id) false true) false true) y1 y4) y4) none) none) (br (pr.bg i0 x0.conn.length) (br (br (pr.cd (bI x0.conn) (pr.idx 0 i0 1)) true false) (br (pr.bw (bI x0.conn) (pr.idx 0 i0 1)) y1 y4) none) none)) (J 2 (jd x0 (pr.aS x0.wait.length) 0))):=by kernel_rfl
theorem Gp (x0:ae) (i0:Int) (i1:Int):bJ pr cv J 48 Tryz.f48 [.undef] 2 (jd x0 i0 i1)=
    let y1:Option (D × List D):=(some ((.bool false),[.undef]))
    let y2:Option Rz:=(J 2 (jd x0 i0 (pr.ar .add .i64 i1 1)))
    (br (pr.lt i1 i0) (br (pr.bg i1 x0.wait.length) (br (br (pr.bO .i64 (ints x0.wait) (pr.idx 0 i1 1)) true false) (cv 115 [(.int .i64 (pr.aO (ints x0.wait) (pr.idx 0 i1 1)))] (.bool (fun bK=>(.done (br (br bK false true) y1 (br (pr.lt 0 i1) (br (pr.bg (pr.ar .sub .i64 i1 1) x0.wait.length) (br (br (pr.bO .i64 (ints x0.wait) (pr.idx 0 (pr.ar .sub .i64 i1 1) 1)) true false) (br (pr.le (pr.aO (ints x0.wait) (pr.idx 0 i1 1)) (pr.aO (ints x0.wait) (pr.idx 0 (pr.ar .sub .i64 i1 1) 1))) y1 y2) none) none) y2)))))) none) none) (some ((.bool true),[.undef]))):=by kernel_rfl
def lv (x0:ae) (i0:Int):St:=(St.mk [(1,(.ptr 1 [] 0)),(3,(.int .i64 i0))] [(1,(ab (some true) x0))] [] 0)
theorem NG:Told cfg Tryz.prog 41 Tryz.f41:=⟨by kernel_rfl,Tryz.func41,by kernel_rfl⟩
theorem NH (x0:ae):aR pr cv J 41 Tryz.f41 [(.agg (ab (some true) x0))]=
    let y1:Option (D × List D):=(some ((.bool false),[.undef]))
    let y2:Option Rz:=(J 0 (lv x0 0))
    let y3:Option (D × List D):=(br (br x0.up false true) (br (pr.lt 0 (pr.aS x0.wait.length)) y1 y2) y2)
    (cv 69 [(.int .i64 x0.id),(.int .i64 0),(.int .i64 2)] (.bool (fun bK=>(.done (br (br bK false true) y1 (cv 99 [(sI (some true) x0.image)] (.bool (fun eQ=>(.done (br (br eQ false true) y1 (cv 100 [(.agg (cL (some true) x0.mt))] (.bool (fun fb=>(.done (br (br fb false true) y1 (cv 101 [(.agg (ab (some true) x0))] (.bool (fun Cj=>(.done (br (br Cj false true) y1 (br x0.cU (br (br x0.up false true) y1 (br (pr.eq x0.id 2) y1 y3)) y3))))))))))))))))))))):=by kernel_rfl
theorem Gq (x0:ae) (i0:Int):bJ pr cv J 41 Tryz.f41 [.undef] 0 (lv x0 i0)=
    let y1:Bool:=(br (pr.bO .i64 (ints x0.wait) (pr.idx 0 i0 1)) true false)
    let y2:Option (D × List D):=(some ((.bool false),[.undef]))
    let y3:Option Rz:=(J 0 (lv x0 (pr.ar .add .i64 i0 1)))
    (br (pr.lt i0 (pr.aS x0.wait.length)) (br (pr.bg i0 x0.wait.length) (br y1 (cv 69 [(.int .i64 (pr.aO (ints x0.wait) (pr.idx 0 i0 1))),(.int .i64 1),(.int .i64 200)] (.bool (fun bK=>(.done (br (br bK false true) y2 (br (pr.lt 0 i0) (br (pr.bg (pr.ar .sub .i64 i0 1) x0.wait.length) (br (br (pr.bO .i64 (ints x0.wait) (pr.idx 0 (pr.ar .sub .i64 i0 1) 1)) true false) (br (pr.bg i0 x0.wait.length) (br y1 (br (pr.le (pr.aO (ints x0.wait) (pr.idx 0 i0 1)) (pr.aO (ints x0.wait) (pr.idx 0 (pr.ar .sub .i64 i0 1) 1))) y2 y3) none) none) none) none) y3)))))) none) none) (cv 102 [(.agg (eF (some true) x0.cJ))] (.ty eO.mt (fun (dK:bj)=>(.int (fun sb=>(.bool (fun Cj=>(.done (br Cj (cv 103 [(.agg (ba true (cL none dK))),(.agg (cL (some true) x0.mt))] (.bool (fun wu=>(.done (some ((.bool wu),[.undef])))))) y2)))))))))):=by kernel_rfl
def iH (x0:ae) (i0:Int):St:=(St.mk [(1,(.ptr 1 [] 0)),(3,(.int .i64 i0))] [(1,(ab (some true) x0))] [] 0)
theorem KH:Told cfg Tryz.prog 101 Tryz.f101:=⟨by kernel_rfl,Tryz.func101,by kernel_rfl⟩
theorem KI (x0:ae):aR pr cv J 101 Tryz.f101 [(.agg (ab (some true) x0))]=
    let y1:Option (D × List D):=(some ((.bool false),[.undef]))
    (br (br (pr.eq (pr.aS x0.conn.length) 3) false true) y1 (br (br (pr.eq (pr.aS x0.sync.length) 3) false true) y1 (br (br (pr.eq (pr.aS x0.bV.length) 3) false true) y1 (J 0 (iH x0 0))))):=by kernel_rfl
theorem Eg (x0:ae) (i0:Int):bJ pr cv J 101 Tryz.f101 [.undef] 0 (iH x0 i0)=
    let y1:Bool:=(br (pr.aN 1 (rows (some true) x0.sync) (pr.idx 0 i0 1)) true false)
    let y2:Option (D × List D):=(some ((.bool false),[.undef]))
    let y3:Option Rz:=(J 0 (iH x0 (pr.ar .add .i64 i0 1)))
    let y4:Option (D × List D):=(br (pr.bg i0 x0.conn.length) (br (br (pr.cd (bI x0.conn) (pr.idx 0 i0 1)) true false) (br (pr.bw (bI x0.conn) (pr.idx 0 i0 1)) (br (br x0.up false true) y2 (br (pr.eq i0 x0.id) y2 y3)) y3) none) none)
    let y5:Option (D × List D):=(br (pr.bg i0 x0.bV.length) (br (br (pr.cd (bI x0.bV) (pr.idx 0 i0 1)) true false) (br (pr.bw (bI x0.bV) (pr.idx 0 i0 1)) (br (pr.bg i0 x0.conn.length) (br (br (pr.cd (bI x0.conn) (pr.idx 0 i0 1)) true false) (br (br (pr.bw (bI x0.conn) (pr.idx 0 i0 1)) false true) y2 y4) none) none) y4) none) none)
    (br (pr.lt i0 3) (br (pr.bg i0 x0.sync.length) (br y1 (cv 136 [(.sl (some (pr.aH (rows (some true) x0.sync) (pr.idx 0 i0 1))) 1 (pr.aC (rows (some true) x0.sync) (pr.idx 0 i0 1)) (pr.aE (rows (some true) x0.sync) (pr.idx 0 i0 1)))] (.bool (fun bK=>(.done (br (br bK false true) y2 (br (pr.bg i0 x0.sync.length) (br y1 (br (pr.lt 0 (pr.aS (pr.aC (rows (some true) x0.sync) (pr.idx 0 i0 1)))) (br (pr.bg i0 x0.bV.length) (br (br (pr.cd (bI x0.bV) (pr.idx 0 i0 1)) true false) (br (br (pr.bw (bI x0.bV) (pr.idx 0 i0 1)) false true) y2 y5) none) none) y5) none) none)))))) none) none) (some ((.bool true),[.undef]))):=by kernel_rfl
end
@[go_sem] theorem acV (oP:Nat) (gl:List Int) (oQ:Nat) (gn:List (List Int)) (iu:Bool) (iv:Bool) (ix:Bool) (iy:Int) (e0:oP=gl.length) (e1:oQ=gn.length) (q0:du (⟨gl,gn,iu,iv,ix,iy⟩:bj)) (t:bS Rz):aU 111 [.agg [.sl (some true) 1 oP (ints gl),.sl (some true) 1 oQ (rows (some true) gn),.bool iu,.bool iv,.bool ix,.int .i64 iy]] t=feed t [.bool (hD (⟨gl,gn,iu,iv,ix,iy⟩:bj))]:=by
  subst e0
  subst e1
  exact bR (r:=.bool (hD (⟨gl,gn,iu,iv,ix,iy⟩:bj))) (s:=.bool) (ss:=[.undef]) (AP true (⟨gl,gn,iu,iv,ix,iy⟩:bj) q0) (by kernel_rfl) (by simp only [av,bE,aY,bF,bG,ah,ak,Bool.and_self]) (by simp only [ah,aM,av,ak,Bool.and_self]) (by first | rfl | simp only [au,aW,aV,bB,bC,aX,bD,Bool.and_self]) (by first | rfl | simp only [List.all_cons,List.all_nil,au,Bool.and_self]) t
@[go_sem] theorem acW (oP:Nat) (gl:List Int) (oQ:Nat) (gn:List (List Int)) (iu:Bool) (iv:Bool) (ix:Bool) (iy:Int) (e0:oP=gl.length) (e1:oQ=gn.length) (q0:du (⟨gl,gn,iu,iv,ix,iy⟩:bj)) (t:bS Rz):aU 100 [.agg [.sl (some true) 1 oP (ints gl),.sl (some true) 1 oQ (rows (some true) gn),.bool iu,.bool iv,.bool ix,.int .i64 iy]] t=feed t [.bool (hD (⟨gl,gn,iu,iv,ix,iy⟩:bj))]:=by
  subst e0
  subst e1
  exact bR (r:=.bool (hD (⟨gl,gn,iu,iv,ix,iy⟩:bj))) (s:=.bool) (ss:=[.undef]) (AO true (⟨gl,gn,iu,iv,ix,iy⟩:bj) q0) (by kernel_rfl) (by simp only [av,bE,aY,bF,bG,ah,ak,Bool.and_self]) (by simp only [ah,aM,av,ak,Bool.and_self]) (by first | rfl | simp only [au,aW,aV,bB,bC,aX,bD,Bool.and_self]) (by first | rfl | simp only [List.all_cons,List.all_nil,au,Bool.and_self]) t
@[go_sem] theorem aat (oP:Nat) (gl:List Int) (oQ:Nat) (gn:List (List Int)) (iu:Bool) (iv:Bool) (ix:Bool) (iy:Int) (QR:Nat) (zq:List Int) (QS:Nat) (zr:List (List Int)) (C5:Bool) (C6:Bool) (C7:Bool) (C8:Int) (e0:oP=gl.length) (e1:oQ=gn.length) (e2:QR=zq.length) (e3:QS=zr.length) (q0:du (⟨gl,gn,iu,iv,ix,iy⟩:bj)) (q1:du (⟨zq,zr,C5,C6,C7,C8⟩:bj)) (t:bS Rz):aU 114 [.agg [.sl (some true) 1 oP (ints gl),.sl (some true) 1 oQ (rows (some true) gn),.bool iu,.bool iv,.bool ix,.int .i64 iy],.agg [.sl (some true) 1 QR (ints zq),.sl (some true) 1 QS (rows (some true) zr),.bool C5,.bool C6,.bool C7,.int .i64 C8]] t=feed t [.bool (lV (⟨gl,gn,iu,iv,ix,iy⟩:bj) (⟨zq,zr,C5,C6,C7,C8⟩:bj))]:=by
  subst e0
  subst e1
  subst e2
  subst e3
  exact bR (r:=.bool (lV (⟨gl,gn,iu,iv,ix,iy⟩:bj) (⟨zq,zr,C5,C6,C7,C8⟩:bj))) (s:=.bool) (ss:=[.undef,.undef]) (IJ true true (⟨gl,gn,iu,iv,ix,iy⟩:bj) (⟨zq,zr,C5,C6,C7,C8⟩:bj) q0 q1) (by kernel_rfl) (by simp only [av,bE,aY,bF,bG,ah,ak,Bool.and_self]) (by simp only [ah,aM,av,ak,Bool.and_self]) (by first | rfl | simp only [au,aW,aV,bB,bC,aX,bD,Bool.and_self]) (by first | rfl | simp only [List.all_cons,List.all_nil,au,Bool.and_self]) t
@[go_sem] theorem aau (oP:Nat) (gl:List Int) (oQ:Nat) (gn:List (List Int)) (iu:Bool) (iv:Bool) (ix:Bool) (iy:Int) (QR:Nat) (zq:List Int) (QS:Nat) (zr:List (List Int)) (C5:Bool) (C6:Bool) (C7:Bool) (C8:Int) (e0:oP=gl.length) (e1:oQ=gn.length) (e2:QR=zq.length) (e3:QS=zr.length) (q0:du (⟨gl,gn,iu,iv,ix,iy⟩:bj)) (q1:du (⟨zq,zr,C5,C6,C7,C8⟩:bj)) (t:bS Rz):aU 103 [.agg [.sl (some true) 1 oP (ints gl),.sl (some true) 1 oQ (rows (some true) gn),.bool iu,.bool iv,.bool ix,.int .i64 iy],.agg [.sl (some true) 1 QR (ints zq),.sl (some true) 1 QS (rows (some true) zr),.bool C5,.bool C6,.bool C7,.int .i64 C8]] t=feed t [.bool (lV (⟨gl,gn,iu,iv,ix,iy⟩:bj) (⟨zq,zr,C5,C6,C7,C8⟩:bj))]:=by
  subst e0
  subst e1
  subst e2
  subst e3
  exact bR (r:=.bool (lV (⟨gl,gn,iu,iv,ix,iy⟩:bj) (⟨zq,zr,C5,C6,C7,C8⟩:bj))) (s:=.bool) (ss:=[.undef,.undef]) (IK true true (⟨gl,gn,iu,iv,ix,iy⟩:bj) (⟨zq,zr,C5,C6,C7,C8⟩:bj) q0 q1) (by kernel_rfl) (by simp only [av,bE,aY,bF,bG,ah,ak,Bool.and_self]) (by simp only [ah,aM,av,ak,Bool.and_self]) (by first | rfl | simp only [au,aW,aV,bB,bC,aX,bD,Bool.and_self]) (by first | rfl | simp only [List.all_cons,List.all_nil,au,Bool.and_self]) t
@[go_sem] theorem acy (m0:Nat) (m:List Int) (e0:m0=m.length) (q0:m.length < 4611686018427387904) (t:bS Rz):aU 110 [.sl (some true) 1 m0 (ints m)] t=feed t [.bool (ka m)]:=by
  subst e0
  exact bR (r:=.bool (ka m)) (s:=.bool) (ss:=[.undef]) (Kt true m q0) (by kernel_rfl) (by simp only [av,bE,aY,bF,bG,ah,ak,Bool.and_self]) (by simp only [ah,aM,av,ak,Bool.and_self]) (by first | rfl | simp only [au,aW,aV,bB,bC,aX,bD,Bool.and_self]) (by first | rfl | simp only [List.all_cons,List.all_nil,au,Bool.and_self]) t
@[go_sem] theorem acz (m0:Nat) (m:List Int) (e0:m0=m.length) (q0:m.length < 4611686018427387904) (t:bS Rz):aU 99 [.sl (some true) 1 m0 (ints m)] t=feed t [.bool (ka m)]:=by
  subst e0
  exact bR (r:=.bool (ka m)) (s:=.bool) (ss:=[.undef]) (Kr true m q0) (by kernel_rfl) (by simp only [av,bE,aY,bF,bG,ah,ak,Bool.and_self]) (by simp only [ah,aM,av,ak,Bool.and_self]) (by first | rfl | simp only [au,aW,aV,bB,bC,aX,bD,Bool.and_self]) (by first | rfl | simp only [List.all_cons,List.all_nil,au,Bool.and_self]) t
@[go_sem] theorem acA (m0:Nat) (m:List Int) (e0:m0=m.length) (q0:m.length < 4611686018427387904) (t:bS Rz):aU 145 [.sl (some true) 1 m0 (ints m)] t=feed t [.bool (fW m)]:=by
  subst e0
  exact bR (r:=.bool (fW m)) (s:=.bool) (ss:=[.undef]) (zk true m q0) (by kernel_rfl) (by simp only [av,bE,aY,bF,bG,ah,ak,Bool.and_self]) (by simp only [ah,aM,av,ak,Bool.and_self]) (by first | rfl | simp only [au,aW,aV,bB,bC,aX,bD,Bool.and_self]) (by first | rfl | simp only [List.all_cons,List.all_nil,au,Bool.and_self]) t
@[go_sem] theorem acB (m0:Nat) (m:List Int) (e0:m0=m.length) (q0:m.length < 4611686018427387904) (t:bS Rz):aU 136 [.sl (some true) 1 m0 (ints m)] t=feed t [.bool (fW m)]:=by
  subst e0
  exact bR (r:=.bool (fW m)) (s:=.bool) (ss:=[.undef]) (zj true m q0) (by kernel_rfl) (by simp only [av,bE,aY,bF,bG,ah,ak,Bool.and_self]) (by simp only [ah,aM,av,ak,Bool.and_self]) (by first | rfl | simp only [au,aW,aV,bB,bC,aX,bD,Bool.and_self]) (by first | rfl | simp only [List.all_cons,List.all_nil,au,Bool.and_self]) t
@[go_sem] theorem acX (m0:Nat) (m:List Int) (e0:m0=m.length) (q0:m.length < 4611686018427387904) (t:bS Rz):aU 142 [.sl (some true) 1 m0 (ints m)] t=feed t [.bool (jN m)]:=by
  subst e0
  exact bR (r:=.bool (jN m)) (s:=.bool) (ss:=[.undef]) (AN true m q0) (by kernel_rfl) (by simp only [av,bE,aY,bF,bG,ah,ak,Bool.and_self]) (by simp only [ah,aM,av,ak,Bool.and_self]) (by first | rfl | simp only [au,aW,aV,bB,bC,aX,bD,Bool.and_self]) (by first | rfl | simp only [List.all_cons,List.all_nil,au,Bool.and_self]) t
@[go_sem] theorem acY (m0:Nat) (m:List Int) (e0:m0=m.length) (q0:m.length < 4611686018427387904) (t:bS Rz):aU 137 [.sl (some true) 1 m0 (ints m)] t=feed t [.bool (jN m)]:=by
  subst e0
  exact bR (r:=.bool (jN m)) (s:=.bool) (ss:=[.undef]) (AM true m q0) (by kernel_rfl) (by simp only [av,bE,aY,bF,bG,ah,ak,Bool.and_self]) (by simp only [ah,aM,av,ak,Bool.and_self]) (by first | rfl | simp only [au,aW,aV,bB,bC,aX,bD,Bool.and_self]) (by first | rfl | simp only [List.all_cons,List.all_nil,au,Bool.and_self]) t
@[go_sem] theorem aav (m0:Nat) (m:List (List Int)) (e0:m0=m.length) (q0:wx m) (t:bS Rz):aU 112 [.sl (some true) 1 m0 (rows (some true) m)] t=feed t [.bool ((((m.length:Int)==3)&&ij m))]:=by
  subst e0
  exact bR (r:=.bool ((((m.length:Int)==3)&&ij m))) (s:=.bool) (ss:=[.undef]) (II true m q0) (by kernel_rfl) (by simp only [av,bE,aY,bF,bG,ah,ak,Bool.and_self]) (by simp only [ah,aM,av,ak,Bool.and_self]) (by first | rfl | simp only [au,aW,aV,bB,bC,aX,bD,Bool.and_self]) (by first | rfl | simp only [List.all_cons,List.all_nil,au,Bool.and_self]) t
@[go_sem] theorem acZ (a:Int) (t:bS Rz):aU 76 [.int .i64 a] t=feed t [.bool (decide (0≤a∧a≤2))]:=by
  exact bR (r:=.bool (decide (0≤a∧a≤2))) (s:=.bool) (ss:=[.undef]) (Zf a) (by kernel_rfl) (by simp only [av,bE,aY,bF,bG,ah,ak,Bool.and_self]) (by simp only [ah,aM,av,ak,Bool.and_self]) (by first | rfl | simp only [au,aW,aV,bB,bC,aX,bD,Bool.and_self]) (by first | rfl | simp only [List.all_cons,List.all_nil,au,Bool.and_self]) t
@[go_sem] theorem ac0 (a:Int) (t:bS Rz):aU 77 [.int .i64 a] t=feed t [.bool (decide (0≤a∧a≤7))]:=by
  exact bR (r:=.bool (decide (0≤a∧a≤7))) (s:=.bool) (ss:=[.undef]) (Qy a) (by kernel_rfl) (by simp only [av,bE,aY,bF,bG,ah,ak,Bool.and_self]) (by simp only [ah,aM,av,ak,Bool.and_self]) (by first | rfl | simp only [au,aW,aV,bB,bC,aX,bD,Bool.and_self]) (by first | rfl | simp only [List.all_cons,List.all_nil,au,Bool.and_self]) t
@[go_sem] theorem acC (a:Int) (t:bS Rz):aU 115 [.int .i64 a] t=feed t [.bool (decide (1≤a∧a≤200))]:=by
  exact bR (r:=.bool (decide (1≤a∧a≤200))) (s:=.bool) (ss:=[.undef]) (WQ a) (by kernel_rfl) (by simp only [av,bE,aY,bF,bG,ah,ak,Bool.and_self]) (by simp only [ah,aM,av,ak,Bool.and_self]) (by first | rfl | simp only [au,aW,aV,bB,bC,aX,bD,Bool.and_self]) (by first | rfl | simp only [List.all_cons,List.all_nil,au,Bool.and_self]) t
@[go_sem] theorem afS (a:Int) (t:bS Rz):aU 149 [.int .i64 a] t=feed t [.int .i64 (lU a)]:=by
  exact bR (r:=.int .i64 (lU a)) (s:=.int .i64) (ss:=[.undef]) (Rw a) (by kernel_rfl) (by simp only [av,bE,aY,bF,bG,ah,ak,Bool.and_self]) (by simp only [ah,aM,av,ak,Bool.and_self]) (by first | rfl | simp only [au,aW,aV,bB,bC,aX,bD,Bool.and_self]) (by first | rfl | simp only [List.all_cons,List.all_nil,au,Bool.and_self]) t
@[go_sem] theorem afT (a:Int) (t:bS Rz):aU 148 [.int .i64 a] t=feed t [.int .i64 (lU a)]:=by
  exact bR (r:=.int .i64 (lU a)) (s:=.int .i64) (ss:=[.undef]) (Rx a) (by kernel_rfl) (by simp only [av,bE,aY,bF,bG,ah,ak,Bool.and_self]) (by simp only [ah,aM,av,ak,Bool.and_self]) (by first | rfl | simp only [au,aW,aV,bB,bC,aX,bD,Bool.and_self]) (by first | rfl | simp only [List.all_cons,List.all_nil,au,Bool.and_self]) t
@[go_sem] theorem afn (m0:Nat) (m:List Int) (a:Int) (e0:m0=m.length) (q0:m.length < 4611686018427387904) (t:bS Rz):aU 84 [.sl (some true) 1 m0 (ints m),.int .i64 a] t=feed t [.bool (decide (a∈m))]:=by
  subst e0
  exact bR (r:=.bool (decide (a∈m))) (s:=.bool) (ss:=[.undef,.undef]) (SU true m a q0) (by kernel_rfl) (by simp only [av,bE,aY,bF,bG,ah,ak,Bool.and_self]) (by simp only [ah,aM,av,ak,Bool.and_self]) (by first | rfl | simp only [au,aW,aV,bB,bC,aX,bD,Bool.and_self]) (by first | rfl | simp only [List.all_cons,List.all_nil,au,Bool.and_self]) t
@[go_sem] theorem QT (m0:Nat) (m:List Int) (a:Int) (e0:m0=m.length) (q0:m.length < 4611686018427387904) (t:bS Rz):aU 86 [.sl (some true) 1 m0 (ints m),.int .i64 a] t=feed t [.bool (decide (a∈m))]:=by
  subst e0
  exact bR (r:=.bool (decide (a∈m))) (s:=.bool) (ss:=[.undef,.undef]) (Ix true m a q0) (by kernel_rfl) (by simp only [av,bE,aY,bF,bG,ah,ak,Bool.and_self]) (by simp only [ah,aM,av,ak,Bool.and_self]) (by first | rfl | simp only [au,aW,aV,bB,bC,aX,bD,Bool.and_self]) (by first | rfl | simp only [List.all_cons,List.all_nil,au,Bool.and_self]) t
@[go_sem] theorem ac1 (m0:Nat) (m:List Int) (k0:Nat) (k:List Int) (e0:m0=m.length) (e1:k0=k.length) (q0:m.length < 4611686018427387904) (q1:k.length < 4611686018427387904) (t:bS Rz):aU 90 [.sl (some true) 1 m0 (ints m),.sl (some true) 1 k0 (ints k)] t=feed t [.bool (decide (m=k))]:=by
  subst e0
  subst e1
  exact bR (r:=.bool (decide (m=k))) (s:=.bool) (ss:=[.undef,.undef]) (QB true true m k q0 q1) (by kernel_rfl) (by simp only [av,bE,aY,bF,bG,ah,ak,Bool.and_self]) (by simp only [ah,aM,av,ak,Bool.and_self]) (by first | rfl | simp only [au,aW,aV,bB,bC,aX,bD,Bool.and_self]) (by first | rfl | simp only [List.all_cons,List.all_nil,au,Bool.and_self]) t
@[go_sem] theorem S6 (m0:Nat) (m:List Int) (k0:Nat) (k:List Int) (e0:m0=m.length) (e1:k0=k.length) (q0:m.length < 4611686018427387904) (q1:k.length < 4611686018427387904) (t:bS Rz):aU 94 [.sl (some true) 1 m0 (ints m),.sl (some true) 1 k0 (ints k)] t=feed t [.bool (decide (m=k))]:=by
  subst e0
  subst e1
  exact bR (r:=.bool (decide (m=k))) (s:=.bool) (ss:=[.undef,.undef]) (SW true true m k q0 q1) (by kernel_rfl) (by simp only [av,bE,aY,bF,bG,ah,ak,Bool.and_self]) (by simp only [ah,aM,av,ak,Bool.and_self]) (by first | rfl | simp only [au,aW,aV,bB,bC,aX,bD,Bool.and_self]) (by first | rfl | simp only [List.all_cons,List.all_nil,au,Bool.and_self]) t
def rR (n:ae) (k:Nat):Prop:=(n.conn.getD k false=true→n.up=true∧¬(k:Int)=n.id)∧(n.bV.getD k false=true→n.conn.getD k false=true)∧(0 < ((n.sync.getD k []).length:Int)→n.bV.getD k false=true)
def UA (w:List Int) (i:Nat):Prop:=(1≤w.getD i 0∧w.getD i 0≤200)∧(0 < (i:Int)→¬w.getD i 0≤w.getD (i - 1) 0)
structure rS (n:ae):Prop where
  id:0≤n.id∧n.id≤2
  image:ka n.image=true
  mt:hD n.mt=true
  conn:(n.conn.length:Int)=3
  sync:(n.sync.length:Int)=3
  marks:∀ k,k < n.sync.length→fW (n.sync.getD k [])=true
  bV:(n.bV.length:Int)=3
  cU:n.cU=true→n.up=true∧¬n.id=2
  down:¬n.up=true→¬0 < (n.wait.length:Int)
  slot:(aT n.cJ).2.2=true
  same:lV (aT n.cJ).1 n.mt=true
  link:∀ k,k < 3→rR n k
  wait:∀ i,i < n.wait.length→UA n.wait i
open Classical in
noncomputable def eg (n:ae):Bool:=decide (rS n)
open Classical in
theorem UB {n:ae} (h:rS n):eg n=true:=by unfold eg; exact decide_eq_true h
open Classical in
theorem fI {n:ae} (h:eg n=true):rS n:=by unfold eg at h; exact of_decide_eq_true h
open Classical in
theorem dX {n:ae} (h:¬rS n):(some ((.bool false,[.undef]):Rz))=some (.bool (eg n),[.undef]):=by unfold eg; rw [decide_eq_false h]
theorem L1 {n:ae} (h:rS n):(some ((.bool true,[.undef]):Rz))=some (.bool (eg n),[.undef]):=by rw [UB h]
theorem QU {xss:List (List Int)} (h:ij xss=true):∀ k,k < xss.length→fW (xss.getD k [])=true:=fun k hk=>by
  unfold ij at h
  exact List.all_eq_true.1 h k (List.mem_range.2 hk)
theorem RG {xss:List (List Int)} (h:∀ k,k < xss.length→fW (xss.getD k [])=true):ij xss=true:=by
  unfold ij
  exact List.all_eq_true.2 fun k hk=>h k (List.mem_range.1 hk)
theorem acD {xss:List (List Int)} (h:wx xss) (k:Nat):(xss.getD k []).length≤1048576:=by
  by_cases hk:k < xss.length
  · rw [cb hk]
    exact h.2 _ (List.getElem_mem hk)
  · rw [List.getD_eq_getElem?_getD,List.getElem?_eq_none (Nat.not_lt.1 hk)]
    simp
theorem afo {R:Type} {p u b2 b3:Bool} {T F r:R} (hT:(p=true→u=true∧b2=false)→(u=false→b3=false)→T=r) (hF:((p=true→u=true∧b2=false)→(u=false→b3=false)→False)→F=r):br p (br (br u false true) F (br b2 F (br (br u false true) (br b3 F T) T))) (br (br u false true) (br b3 F T) T)=r:=by
  cases p<;>cases u<;>cases b2<;>cases b3<;>simp only [br]<;>first | exact hT (by simp) (by simp) | exact hF (by simp)
theorem A9 (n:ae) (q0:cV n):Cm 48 [.agg (ab (some true) n)] (.bool (eg n),[.undef]):=by
  have ok:=q0
  have s1:=ok.image
  have s2:=ok.conn
  have s3:=ok.bV
  have s4:=ok.wait
  have s5:=ok.sync.1
  have s6:=ok.mt
  have s7:=ok.sync
  have s8:=q0.cJ
  have s9:=IZ n.cJ
  refine Cm.step ND [.undef] fun J hJ=>?_
  rw [NF]
  simp (disch:=first | assumption | omega) only [go_sem]
  refine bq (fun h1=>?_) (fun h=>dX fun o=>h o.id)
  simp (disch:=first | assumption | omega) only [go_sem]
  refine gF (fun h2=>?_) (fun h=>dX fun o=>h o.image)
  simp (disch:=first | assumption | omega) only [go_sem]
  refine gF (fun h3=>?_) (fun h=>dX fun o=>h o.mt)
  simp (disch:=first | assumption | omega) only [go_sem]
  refine bq (fun h4=>?_) (fun h=>dX fun o=>h o.conn)
  simp (disch:=first | assumption | omega) only [go_sem]
  refine gF (fun h5=>?_) (fun h=>dX fun o=>h (by simp only [o.sync,RG o.marks,Bool.and_true]; rfl))
  simp only [Bool.and_eq_true,beq_iff_eq] at h5
  simp (disch:=first | assumption | omega) only [go_sem]
  refine bq (fun h6=>?_) (fun h=>dX fun o=>h o.bV)
  refine afo (fun h7 h8=>?_) (fun h=>dX fun o=>h (fun hp=>⟨(o.cU hp).1,decide_eq_false (o.cU hp).2⟩) fun hu=>decide_eq_false (o.down (by rw [hu]; simp)))
  have h7:n.cU=true→n.up=true∧¬n.id=2:=fun hp=>⟨(h7 hp).1,of_decide_eq_false (h7 hp).2⟩
  have h8:¬n.up=true→¬0 < (n.wait.length:Int):=fun hu=>of_decide_eq_false (h8 (by simpa using hu))
  simp (disch:=first | assumption | omega) only [go_sem]
  refine gF (fun h9=>?_) (fun h=>dX fun o=>h o.slot)
  simp (disch:=first | assumption | omega) only [go_sem]
  refine gF (fun nb=>?_) (fun h=>dX fun o=>h o.same)
  have agI:(∀ k,k < 3→rR n k)→WP 48 Tryz.f48 [.undef] 2 (jd n n.wait.length 0) (.bool (eg n),[.undef]):=by
    intro Oz
    refine WP.up (H:=fun i=>jd n n.wait.length i) n.wait.length (fun i=>∀ k,k < i→UA n.wait k) (fun i hi inv J _ next=>?_) 0 (Nat.zero_le _) (fun k hk=>absurd hk (by omega))
    rw [Gp]
    simp (disch:=first | assumption | omega) only [go_sem]
    refine bq (fun dp=>?_) (fun Bu=>L1 ⟨h1,h2,h3,h4,h5.1,QU h5.2,h6,h7,h8,h9,nb,Oz,fun k hk=>inv k (by omega)⟩)
    simp (disch:=first | assumption | omega) only [go_sem]
    refine bq (fun ha=>?_) (fun h=>dX fun o=>h (o.wait i (by omega)).1)
    have go:(0 < (i:Int)→¬n.wait.getD i 0≤n.wait.getD (i - 1) 0)→J 2 (jd n n.wait.length ((i:Int)+1))=some (.bool (eg n),[.undef]):=fun hb=>next (by omega) fun k hk=>by
      by_cases e:k=i
      · subst e; exact ⟨ha,hb⟩
      · exact inv k (by omega)
    refine bq (fun ra=>?_) (fun hz=>?_)
    · simp (disch:=first | assumption | omega) only [go_sem]
      have e1:((i:Int) - 1).toNat=i - 1:=by omega
      simp (disch:=first | assumption | omega) only [go_sem,e1]
      exact bq (fun h=>dX fun o=>(o.wait i (by omega)).2 ra h) (fun h=>go fun _=>h)
    · simp (disch:=first | assumption | omega) only [go_sem]
      exact go fun h=>absurd h hz
  refine hJ _ _ ?_
  refine WP.up (H:=fun i=>jc n i) 3 (fun i=>∀ k,k < i→rR n k) (fun i hi inv J hJ next=>?_) 0 (Nat.zero_le _) (fun k hk=>absurd hk (by omega))
  rw [Gn]
  dsimp only
  simp (disch:=first | assumption | omega) only [go_sem]
  refine bq (fun dp=>?_) (fun Bu=>hJ _ _ (agI fun k hk=>inv k (by omega)))
  have hi3:i < 3:=by omega
  have go:rR n i→J 0 (jc n ((i:Int)+1))=some (.bool (eg n),[.undef]):=fun hb=>next (by omega) fun k hk=>by
      by_cases e:k=i
      · subst e; exact hb
      · exact inv k (by omega)
  have no:¬rR n i→(some ((.bool false,[.undef]):Rz))=some (.bool (eg n),[.undef]):=fun h=>dX fun o=>h (o.link i hi3)
  have eJ:ad.ar .add .i64 (i:Int) 1=(i:Int)+1:=aas (by omega) (by omega)
  rw [eJ]
  generalize J 0 (jc n ((i:Int)+1))=z at go ⊢
  unfold rR at go no
  cases hc:n.conn.getD i false<;>cases hk:n.bV.getD i false<;>cases hu:n.up<;>by_cases hs:0 < ((n.sync.getD i []).length:Int)<;>by_cases Wq:(i:Int)=n.id<;>simp only [hc,hk,hu,hs,Wq,not_true_eq_false,not_false_eq_true,false_and,and_false,and_true,true_and,forall_const,Bool.false_eq_true,false_implies,imp_self,true_implies,and_self] at go no<;>simp (disch:=first | assumption | omega) only [go_sem,hc,hk,hu]<;>first | exact no | exact go
@[go_sem] theorem ac2 (ur:Int) (uw:Bool) (uy:Bool) (xX:Nat) (mB:List Int) (uz:Nat) (je:List Int) (uA:Nat) (jf:List (List Int)) (lx:Bool) (ly:Bool) (lz:Bool) (lA:Int) (uB:Nat) (jg:List UInt8) (uC:Nat) (jh:List UInt8) (C9:Nat) (qP:List Bool) (Da:Nat) (qQ:List (List Int)) (Db:Nat) (qR:List Bool) (Dc:Nat) (qS:List Int) (e0:xX=mB.length) (e1:uz=je.length) (e2:uA=jf.length) (e3:uB=jg.length) (e4:uC=jh.length) (e5:C9=qP.length) (e6:Da=qQ.length) (e7:Db=qR.length) (e8:Dc=qS.length) (q0:cV (⟨ur,uw,uy,mB,(⟨je,jf,lx,ly,lz,lA⟩:bj),(⟨jg,jh⟩:bc),qP,qQ,qR,qS⟩:ae)) (t:bS Rz):aU 48 [.agg [.int .i64 ur,.bool uw,.bool uy,.sl (some true) 1 xX (ints mB),.sl (some true) 1 uz (ints je),.sl (some true) 1 uA (rows (some true) jf),.bool lx,.bool ly,.bool lz,.int .i64 lA,.sl (some true) 1 uB (bytes jg),.sl (some true) 1 uC (bytes jh),.sl (some true) 1 C9 (bI qP),.sl (some true) 1 Da (rows (some true) qQ),.sl (some true) 1 Db (bI qR),.sl (some true) 1 Dc (ints qS)]] t=feed t [.bool (eg (⟨ur,uw,uy,mB,(⟨je,jf,lx,ly,lz,lA⟩:bj),(⟨jg,jh⟩:bc),qP,qQ,qR,qS⟩:ae))]:=by
  subst e0
  subst e1
  subst e2
  subst e3
  subst e4
  subst e5
  subst e6
  subst e7
  subst e8
  exact bR (r:=.bool (eg (⟨ur,uw,uy,mB,(⟨je,jf,lx,ly,lz,lA⟩:bj),(⟨jg,jh⟩:bc),qP,qQ,qR,qS⟩:ae))) (s:=.bool) (ss:=[.undef]) (A9 (⟨ur,uw,uy,mB,(⟨je,jf,lx,ly,lz,lA⟩:bj),(⟨jg,jh⟩:bc),qP,qQ,qR,qS⟩:ae) q0) (by kernel_rfl) (by simp only [av,bE,aY,bF,bG,ah,ak,Bool.and_self]) (by simp only [ah,aM,av,ak,Bool.and_self]) (by first | rfl | simp only [au,aW,aV,bB,bC,aX,bD,Bool.and_self]) (by first | rfl | simp only [List.all_cons,List.all_nil,au,Bool.and_self]) t
end Go.Proofs.YtockoilcnmljiaaGreat
namespace Go.Proofs.YtockoilcnmljiaaGreat
set_option maxRecDepth 100000
section
variable (pr:dr) (cv:Cv Rz) (J:Nat→St→Option Rz)
end
structure D7 (n:ae):Prop where
  conn:(n.conn.length:Int)=3
  sync:(n.sync.length:Int)=3
  bV:(n.bV.length:Int)=3
  link:∀ k,k < 3→fW (n.sync.getD k [])=true∧rR n k
open Classical in
noncomputable def oR (n:ae):Bool:=decide (D7 n)
open Classical in
theorem Zp {n:ae} (h:oR n=true):D7 n:=by unfold oR at h; exact of_decide_eq_true h
open Classical in
theorem L2 {n:ae} (h:D7 n):oR n=true:=by unfold oR; exact decide_eq_true h
open Classical in
theorem wY {n:ae} (h:¬D7 n):(some ((.bool false,[.undef]):Rz))=some (.bool (oR n),[.undef]):=by unfold oR; rw [decide_eq_false h]
theorem KJ (n:ae) (q0:cV n):Cm 101 [.agg (ab (some true) n)] (.bool (oR n),[.undef]):=by
  have ok:=q0
  have s5:=ok.sync.1
  have s7:=ok.sync
  refine Cm.step KH [.undef] fun J hJ=>?_
  rw [KI]
  simp (disch:=first | assumption | omega) only [go_sem]
  refine bq (fun h1=>?_) (fun h=>wY fun o=>h o.conn)
  simp (disch:=first | assumption | omega) only [go_sem]
  refine bq (fun h2=>?_) (fun h=>wY fun o=>h o.sync)
  simp (disch:=first | assumption | omega) only [go_sem]
  refine bq (fun h3=>?_) (fun h=>wY fun o=>h o.bV)
  refine hJ _ _ ?_
  refine WP.up (H:=fun i=>iH n i) 3 (fun i=>∀ k,k < i→fW (n.sync.getD k [])=true∧rR n k) (fun i hi inv J hJ next=>?_) 0 (Nat.zero_le _) (fun k hk=>absurd hk (by omega))
  rw [Eg]
  dsimp only
  simp (disch:=first | assumption | omega) only [go_sem]
  refine bq (fun dp=>?_) (fun Bu=>by rw [L2 ⟨h1,h2,h3,fun k hk=>inv k (by omega)⟩])
  have hi3:i < 3:=by omega
  have s8:=acD s7 i
  simp (disch:=first | assumption | omega) only [go_sem]
  refine gF (fun hm=>?_) (fun h=>wY fun o=>h (o.link i hi3).1)
  have go:rR n i→J 0 (iH n ((i:Int)+1))=some (.bool (oR n),[.undef]):=fun hb=>next (by omega) fun k hk=>by
      by_cases e:k=i
      · subst e; exact ⟨hm,hb⟩
      · exact inv k (by omega)
  have no:¬rR n i→(some ((.bool false,[.undef]):Rz))=some (.bool (oR n),[.undef]):=fun h=>wY fun o=>h (o.link i hi3).2
  have eJ:ad.ar .add .i64 (i:Int) 1=(i:Int)+1:=aas (by omega) (by omega)
  rw [eJ]
  generalize J 0 (iH n ((i:Int)+1))=z at go ⊢
  unfold rR at go no
  cases hc:n.conn.getD i false<;>cases hk:n.bV.getD i false<;>cases hu:n.up<;>by_cases hs:0 < ((n.sync.getD i []).length:Int)<;>by_cases Wq:(i:Int)=n.id<;>simp only [hc,hk,hu,hs,Wq,not_true_eq_false,not_false_eq_true,false_and,and_false,and_true,true_and,forall_const,Bool.false_eq_true,false_implies,imp_self,true_implies,and_self] at go no<;>simp (disch:=first | assumption | omega) only [go_sem,hc,hk,hu]<;>first | exact no | exact go
@[go_sem] theorem acE (ur:Int) (uw:Bool) (uy:Bool) (xX:Nat) (mB:List Int) (uz:Nat) (je:List Int) (uA:Nat) (jf:List (List Int)) (lx:Bool) (ly:Bool) (lz:Bool) (lA:Int) (uB:Nat) (jg:List UInt8) (uC:Nat) (jh:List UInt8) (C9:Nat) (qP:List Bool) (Da:Nat) (qQ:List (List Int)) (Db:Nat) (qR:List Bool) (Dc:Nat) (qS:List Int) (e0:xX=mB.length) (e1:uz=je.length) (e2:uA=jf.length) (e3:uB=jg.length) (e4:uC=jh.length) (e5:C9=qP.length) (e6:Da=qQ.length) (e7:Db=qR.length) (e8:Dc=qS.length) (q0:cV (⟨ur,uw,uy,mB,(⟨je,jf,lx,ly,lz,lA⟩:bj),(⟨jg,jh⟩:bc),qP,qQ,qR,qS⟩:ae)) (t:bS Rz):aU 101 [.agg [.int .i64 ur,.bool uw,.bool uy,.sl (some true) 1 xX (ints mB),.sl (some true) 1 uz (ints je),.sl (some true) 1 uA (rows (some true) jf),.bool lx,.bool ly,.bool lz,.int .i64 lA,.sl (some true) 1 uB (bytes jg),.sl (some true) 1 uC (bytes jh),.sl (some true) 1 C9 (bI qP),.sl (some true) 1 Da (rows (some true) qQ),.sl (some true) 1 Db (bI qR),.sl (some true) 1 Dc (ints qS)]] t=feed t [.bool (oR (⟨ur,uw,uy,mB,(⟨je,jf,lx,ly,lz,lA⟩:bj),(⟨jg,jh⟩:bc),qP,qQ,qR,qS⟩:ae))]:=by
  subst e0
  subst e1
  subst e2
  subst e3
  subst e4
  subst e5
  subst e6
  subst e7
  subst e8
  exact bR (r:=.bool (oR (⟨ur,uw,uy,mB,(⟨je,jf,lx,ly,lz,lA⟩:bj),(⟨jg,jh⟩:bc),qP,qQ,qR,qS⟩:ae))) (s:=.bool) (ss:=[.undef]) (KJ (⟨ur,uw,uy,mB,(⟨je,jf,lx,ly,lz,lA⟩:bj),(⟨jg,jh⟩:bc),qP,qQ,qR,qS⟩:ae) q0) (by kernel_rfl) (by simp only [av,bE,aY,bF,bG,ah,ak,Bool.and_self]) (by simp only [ah,aM,av,ak,Bool.and_self]) (by first | rfl | simp only [au,aW,aV,bB,bC,aX,bD,Bool.and_self]) (by first | rfl | simp only [List.all_cons,List.all_nil,au,Bool.and_self]) t
theorem Ba (n:ae) (q0:cV n):Cm 41 [.agg (ab (some true) n)] (.bool (eg n),[.undef]):=by
  have ok:=q0
  have s1:=ok.image
  have s2:=ok.conn
  have s3:=ok.bV
  have s4:=ok.wait
  have s5:=ok.sync.1
  have s6:=ok.mt
  have s7:=ok.sync
  have s8:=q0.cJ
  have s9:=IZ n.cJ
  refine Cm.step NG [.undef] fun J hJ=>?_
  rw [NH]
  simp (disch:=first | assumption | omega) only [go_sem]
  refine bq (fun h1=>?_) (fun h=>dX fun o=>h o.id)
  simp (disch:=first | assumption | omega) only [go_sem]
  refine gF (fun h2=>?_) (fun h=>dX fun o=>h o.image)
  simp (disch:=first | assumption | omega) only [go_sem]
  refine gF (fun h3=>?_) (fun h=>dX fun o=>h o.mt)
  simp (disch:=first | assumption | omega) only [go_sem]
  refine gF (fun h4=>?_) (fun h=>dX fun o=>h (L2 ⟨o.conn,o.sync,o.bV,fun k hk=>⟨o.marks k (by have:=o.sync; omega),o.link k hk⟩⟩))
  have h4:=Zp h4
  have h5:=h4.sync
  refine afo (fun h7 h8=>?_) (fun h=>dX fun o=>h (fun hp=>⟨(o.cU hp).1,decide_eq_false (o.cU hp).2⟩) fun hu=>decide_eq_false (o.down (by rw [hu]; simp)))
  have h7:n.cU=true→n.up=true∧¬n.id=2:=fun hp=>⟨(h7 hp).1,of_decide_eq_false (h7 hp).2⟩
  have h8:¬n.up=true→¬0 < (n.wait.length:Int):=fun hu=>of_decide_eq_false (h8 (by simpa using hu))
  refine hJ _ _ ?_
  refine WP.up (H:=fun i=>lv n i) n.wait.length (fun i=>∀ k,k < i→UA n.wait k) (fun i hi inv J _ next=>?_) 0 (Nat.zero_le _) (fun k hk=>absurd hk (by omega))
  rw [Gq]
  simp (disch:=first | assumption | omega) only [go_sem]
  refine bq (fun dp=>?_) (fun Bu=>?_)
  · simp (disch:=first | assumption | omega) only [go_sem]
    refine bq (fun ha=>?_) (fun h=>dX fun o=>h (o.wait i (by omega)).1)
    simp (disch:=first | assumption | omega) only [go_sem]
    have go:(0 < (i:Int)→¬n.wait.getD i 0≤n.wait.getD (i - 1) 0)→J 0 (lv n ((i:Int)+1))=some (.bool (eg n),[.undef]):=fun hb=>next (by omega) fun k hk=>by
      by_cases e:k=i
      · subst e; exact ⟨ha,hb⟩
      · exact inv k (by omega)
    refine bq (fun ra=>?_) (fun hz=>?_)
    · have e1:((i:Int) - 1).toNat=i - 1:=by omega
      simp (disch:=first | assumption | omega) only [go_sem,e1]
      exact bq (fun h=>dX fun o=>(o.wait i (by omega)).2 ra h) (fun h=>go fun _=>h)
    · exact go fun h=>absurd h hz
  · have yes:(aT n.cJ).2.2=true→lV (aT n.cJ).1 n.mt=true→rS n:=fun a b=>⟨h1,h2,h3,h4.conn,h4.sync,fun k hk=>(h4.link k (by omega)).1,h4.bV,h7,h8,a,b,fun k hk=>(h4.link k hk).2,fun k hk=>inv k (by omega)⟩
    simp (disch:=first | assumption | omega) only [go_sem]
    refine gF (fun h9=>?_) (fun h=>dX fun o=>h o.slot)
    simp (disch:=first | assumption | omega) only [go_sem]
    cases nb:lV (aT n.cJ).1 n.mt with
    | true=>exact L1 (yes h9 nb)
    | false=>exact dX fun o=>by have:=o.same; rw [nb] at this; simp at this
@[go_sem] theorem ac3 (ur:Int) (uw:Bool) (uy:Bool) (xX:Nat) (mB:List Int) (uz:Nat) (je:List Int) (uA:Nat) (jf:List (List Int)) (lx:Bool) (ly:Bool) (lz:Bool) (lA:Int) (uB:Nat) (jg:List UInt8) (uC:Nat) (jh:List UInt8) (C9:Nat) (qP:List Bool) (Da:Nat) (qQ:List (List Int)) (Db:Nat) (qR:List Bool) (Dc:Nat) (qS:List Int) (e0:xX=mB.length) (e1:uz=je.length) (e2:uA=jf.length) (e3:uB=jg.length) (e4:uC=jh.length) (e5:C9=qP.length) (e6:Da=qQ.length) (e7:Db=qR.length) (e8:Dc=qS.length) (q0:cV (⟨ur,uw,uy,mB,(⟨je,jf,lx,ly,lz,lA⟩:bj),(⟨jg,jh⟩:bc),qP,qQ,qR,qS⟩:ae)) (t:bS Rz):aU 41 [.agg [.int .i64 ur,.bool uw,.bool uy,.sl (some true) 1 xX (ints mB),.sl (some true) 1 uz (ints je),.sl (some true) 1 uA (rows (some true) jf),.bool lx,.bool ly,.bool lz,.int .i64 lA,.sl (some true) 1 uB (bytes jg),.sl (some true) 1 uC (bytes jh),.sl (some true) 1 C9 (bI qP),.sl (some true) 1 Da (rows (some true) qQ),.sl (some true) 1 Db (bI qR),.sl (some true) 1 Dc (ints qS)]] t=feed t [.bool (eg (⟨ur,uw,uy,mB,(⟨je,jf,lx,ly,lz,lA⟩:bj),(⟨jg,jh⟩:bc),qP,qQ,qR,qS⟩:ae))]:=by
  subst e0
  subst e1
  subst e2
  subst e3
  subst e4
  subst e5
  subst e6
  subst e7
  subst e8
  exact bR (r:=.bool (eg (⟨ur,uw,uy,mB,(⟨je,jf,lx,ly,lz,lA⟩:bj),(⟨jg,jh⟩:bc),qP,qQ,qR,qS⟩:ae))) (s:=.bool) (ss:=[.undef]) (Ba (⟨ur,uw,uy,mB,(⟨je,jf,lx,ly,lz,lA⟩:bj),(⟨jg,jh⟩:bc),qP,qQ,qR,qS⟩:ae) q0) (by kernel_rfl) (by simp only [av,bE,aY,bF,bG,ah,ak,Bool.and_self]) (by simp only [ah,aM,av,ak,Bool.and_self]) (by first | rfl | simp only [au,aW,aV,bB,bC,aX,bD,Bool.and_self]) (by first | rfl | simp only [List.all_cons,List.all_nil,au,Bool.and_self]) t
theorem ajy {n:ae} (h:rS n) (hp:n.cU=true):0≤lU n.id∧lU n.id≤1:=by
  have h1:=h.id
  have h2:=(h.cU hp).2
  unfold lU
  split<;>omega
noncomputable def ahG (n:ae):Bool:=eg n&&(n.cU&&(n.conn.getD (lU n.id).toNat false||n.mt.held))
end Go.Proofs.YtockoilcnmljiaaGreat
namespace Go.Proofs.YtockoilcnmljiaaGreat
set_option maxRecDepth 100000
section
variable {a b:Bool} {o:List D} {X:Option Rz}
theorem mC (h:a=true→X=some (.bool b,o)):br a X (some (.bool false,o))=some (.bool (a&&b),o):=by cases a with | true=>exact h rfl | false=>rfl
theorem wZ (h:a=false→X=some (.bool b,o)):br a (some (.bool false,o)) X=some (.bool (!a&&b),o):=by cases a with | true=>rfl | false=>exact h rfl
theorem afp (h:a=false→X=some (.bool b,o)):br a (some (.bool true,o)) X=some (.bool (a||b),o):=by cases a with | true=>rfl | false=>exact h rfl
end
def D8 (g:Option Bool) (x:bj):List D:=cL g x
@[go_sem] theorem ajz (g:Option Bool) (WZ:Nat) (xa:List Int) (L3:Nat) (xb:List (List Int)) (xf:Bool) (xo:Bool) (xh:Bool) (xl:Int) (xa1:WZ=xa.length) (W0:L3=xb.length):D.agg [.sl g 1 WZ (ints xa),.sl g 1 L3 (rows g xb),.bool xf,.bool xo,.bool xh,.int .i64 xl]=.agg (D8 g ⟨xa,xb,xf,xo,xh,xl⟩):=by
  subst xa1
  subst W0
  rfl
@[go_sem] theorem ajA (x:bj):ba true (D8 none x)=D8 (some true) x:=by
  unfold D8
  first | rfl | simp only [go_sem,dN,ba,fG,ig,gr,jF]
def uD (g:Option Bool) (x:bc):List D:=eF g x
@[go_sem] theorem aiV (g:Option Bool) (WZ:Nat) (xa:List UInt8) (L3:Nat) (xb:List UInt8) (xa1:WZ=xa.length) (W0:L3=xb.length):D.agg [.sl g 1 WZ (bytes xa),.sl g 1 L3 (bytes xb)]=.agg (uD g ⟨xa,xb⟩):=by
  subst xa1
  subst W0
  rfl
@[go_sem] theorem aiW (x:bc):ba true (uD none x)=uD (some true) x:=by
  unfold uD
  first | rfl | simp only [go_sem,dN,ba,fG,ig,gr,jF]
def ji (g:Option Bool) (x:ae):List D:=ab g x
@[go_sem] theorem ajB (g:Option Bool) (xi:Int) (xu:Bool) (xp:Bool) (afr:Nat) (xim:List Int) (aft:Nat) (xma:List Int) (afv:Nat) (xmb:List (List Int)) (xmf:Bool) (xmo:Bool) (xmh:Bool) (xml:Int) (afx:Nat) (xsa:List UInt8) (afz:Nat) (xsb:List UInt8) (xc0:Nat) (xc:List Bool) (xy0:Nat) (xy:List (List Int)) (xk0:Nat) (xk:List Bool) (L4:Nat) (xw:List Int) (aiX:afr=xim.length) (aiY:aft=xma.length) (aiZ:afv=xmb.length) (ai0:afx=xsa.length) (ai1:afz=xsb.length) (xc1:xc0=xc.length) (xy1:xy0=xy.length) (xk1:xk0=xk.length) (W1:L4=xw.length):D.agg [.int .i64 xi,.bool xu,.bool xp,.sl g 1 afr (ints xim),.sl g 1 aft (ints xma),.sl g 1 afv (rows g xmb),.bool xmf,.bool xmo,.bool xmh,.int .i64 xml,.sl g 1 afx (bytes xsa),.sl g 1 afz (bytes xsb),.sl g 1 xc0 (bI xc),.sl g 1 xy0 (rows g xy),.sl g 1 xk0 (bI xk),.sl g 1 L4 (ints xw)]=.agg (ji g ⟨xi,xu,xp,xim,⟨xma,xmb,xmf,xmo,xmh,xml⟩,⟨xsa,xsb⟩,xc,xy,xk,xw⟩):=by
  subst aiX
  subst aiY
  subst aiZ
  subst ai0
  subst ai1
  subst xc1
  subst xy1
  subst xk1
  subst W1
  rfl
@[go_sem] theorem ajC (x:ae):ba true (ji none x)=ji (some true) x:=by
  unfold ji
  first | rfl | simp only [go_sem,dN,ba,fG,ig,gr,jF]
def agJ (g:Option Bool) (x:dm):List D:=aw g x
@[go_sem] theorem ajD (g:Option Bool) (xf:Int) (xt:Int) (L3:Nat) (xb:List UInt8) (W0:L3=xb.length):D.agg [.int .i64 xf,.int .i64 xt,.sl g 1 L3 (bytes xb)]=.agg (agJ g ⟨xf,xt,xb⟩):=by
  subst W0
  rfl
def fm (g:Option Bool) (x:ai):List D:=bn g x
@[go_sem] theorem ai2 (g:Option Bool) (W2:Nat) (xn:List ae) (L4:Nat) (xw:List dm) (W3:Nat) (xl:List fg) (L5:Nat) (xs:List Int) (xg:Int) (xn1:W2=xn.length) (W1:L4=xw.length) (xl1:W3=xl.length) (xs1:L5=xs.length):D.agg [.sl g 16 W2 (U (ab g) xn),.sl g 3 L4 (U (aw g) xw),.sl g 2 W3 (U (aK g) xl),.sl g 1 L5 (ints xs),.int .i64 xg]=.agg (fm g ⟨xn,xw,xl,xs,xg⟩):=by
  subst xn1
  subst W1
  subst xl1
  subst xs1
  rfl
@[go_sem] theorem ai3 (g:Option Bool) (W2:Nat) (xn:List ae) (L4:Nat) (xw:List dm) (W3:Nat) (xl:List fg) (L5:Nat) (xs:List Int) (xg:Int) (xn1:W2=xn.length) (W1:L4=xw.length) (xl1:W3=xl.length) (xs1:L5=xs.length):D.bp [.sl g 16 W2 (U (ab g) xn),.sl g 3 L4 (U (aw g) xw),.sl g 2 W3 (U (aK g) xl),.sl g 1 L5 (ints xs),.int .i64 xg]=.bp (fm g ⟨xn,xw,xl,xs,xg⟩):=by
  subst xn1
  subst W1
  subst xl1
  subst xs1
  rfl
def ai4 (g:Option Bool) (x:wh):List D:=JD g x
@[go_sem] theorem alv (g:Option Bool) (xk:Int) (xc:Int) (xv:Int) (xw:Int) (xg0:Nat) (xg:List Int) (xg1:xg0=xg.length):D.agg [.int .i64 xk,.int .i64 xc,.int .i64 xv,.int .i64 xw,.sl g 1 xg0 (ints xg)]=.agg (ai4 g ⟨xk,xc,xv,xw,xg⟩):=by
  subst xg1
  rfl
def agK (g:Option Bool) (x:z8):List D:=DV g x
@[go_sem] theorem ajE (g:Option Bool) (xf:Int) (xt:Int) (xmk:Int) (xmc:Int) (xmv:Int) (xmw:Int) (afE:Nat) (xmg:List Int) (ai5:afE=xmg.length):D.agg [.int .i64 xf,.int .i64 xt,.int .i64 xmk,.int .i64 xmc,.int .i64 xmv,.int .i64 xmw,.sl g 1 afE (ints xmg)]=.agg (agK g ⟨xf,xt,⟨xmk,xmc,xmv,xmw,xmg⟩⟩):=by
  subst ai5
  rfl
def Og (g:Option Bool) (x:rz):List D:=DW g x
@[go_sem] theorem ajF (g:Option Bool) (xk:Int) (xa:Int) (xb:Int):D.agg [.int .i64 xk,.int .i64 xa,.int .i64 xb]=.agg (Og g ⟨xk,xa,xb⟩):=by
  rfl
@[go_sem] theorem ajG (x:rz):ba true (Og none x)=Og (some true) x:=by
  unfold Og
  first | rfl | simp only [go_sem,dN,ba,fG,ig,gr,jF]
section
variable (t:bS Rz)
@[go_sem] theorem ai6 (g:Bool) (n:ae) (h:cV n):aU 13 [.agg (ji (some g) n)] t=feed t [enc .node n]:=Qd t g n h
@[go_sem] theorem ai7 (g h:Bool) (n:ae) (ok:cV n):aU 15 [.agg (ji (some g) n),.agg (ji (some h) n)] t=feed t [.bool true]:=Qe t g h n ok
@[go_sem] theorem ai8 (g:Bool) (n:ae) (left:Int) (h0:0≤left) (h1:left≤1048576) (ln:wz n):aU 11 [.agg (ji (some g) n),.int .i64 left] t=feed t [.int .i64 (eC n left)]:=F5 t g n left h0 h1 ln
@[go_sem] theorem ahT (g:Bool) (w:ai) (h:bW w):aU 22 [.agg (fm (some g) w)] t=feed t [enc .world w]:=WK t g w h
@[go_sem] theorem ahU (g h:Bool) (w:ai) (ok:bW w):aU 24 [.agg (fm (some g) w),.agg (fm (some h) w)] t=feed t [.bool true]:=WL t g h w ok
@[go_sem] theorem ahV (g:Bool) (w:ai) (left:Int) (h0:0≤left) (h1:left≤1048576) (ln:nB w):aU 20 [.agg (fm (some g) w),.int .i64 left] t=feed t [.int .i64 (lK w left)]:=WM t g w left h0 h1 ln
end
end Go.Proofs.YtockoilcnmljiaaGreat
namespace Go.Proofs.YtockoilcnmljiaaGreat
set_option maxRecDepth 100000
section
variable (pr:dr) (cv:Cv Rz) (J:Nat→St→Option Rz)
theorem NI:Told cfg Tryz.prog 120 Tryz.f120:=⟨by kernel_rfl,Tryz.func120,by kernel_rfl⟩
theorem NJ (x0:ae) (x1:ae):aR pr cv J 120 Tryz.f120 [(.agg (ab (some true) x0)),(.agg (ab (some true) x1))]=
    let y1:Option (D × List D):=(some ((.bool false),[.undef,.undef]))
    (cv 48 [(.agg (ab (some true) x0))] (.bool (fun bK=>(.done (br bK (cv 48 [(.agg (ab (some true) x1))] (.bool (fun eQ=>(.done (br eQ (br (br (pr.eq x0.id 2) false true) (cv 149 [(.int .i64 x0.id)] (.int (fun sb=>(.done (some ((.bool (pr.eq x1.id sb)),[.undef,.undef])))))) y1) y1))))) y1))))):=by kernel_rfl
theorem KK:Told cfg Tryz.prog 119 Tryz.f119:=⟨by kernel_rfl,Tryz.func119,by kernel_rfl⟩
theorem KL (x0:ae) (x1:ae):aR pr cv J 119 Tryz.f119 [(.agg (ab (some true) x0)),(.agg (ab (some true) x1))]=
    let y1:Option (D × List D):=(some ((.bool false),[.undef,.undef]))
    (cv 41 [(.agg (ab (some true) x0))] (.bool (fun bK=>(.done (br bK (cv 41 [(.agg (ab (some true) x1))] (.bool (fun eQ=>(.done (br eQ (cv 148 [(.int .i64 x0.id)] (.int (fun sb=>(.done (some ((.bool (pr.eq sb x1.id)),[.undef,.undef])))))) y1))))) y1))))):=by kernel_rfl
theorem KM:Told cfg Tryz.prog 65 Tryz.f65:=⟨by kernel_rfl,Tryz.func65,by kernel_rfl⟩
theorem KN (x0:ae) (x1:ae) (x2:Bool):aR pr cv J 65 Tryz.f65 [(.agg (ab (some true) x0)),(.agg (ab (some true) x1)),(.bool x2)]=
    let y1:Option (D × List D):=(some ((.bool false),[.undef,.undef,.undef]))
    (cv 120 [(.agg (ab (some true) x0)),(.agg (ab (some true) x1))] (.bool (fun bK=>(.done (br (br bK false true) y1 (br (br x0.up false true) y1 (br (br x0.mt.dq false true) y1 (br x0.mt.cg y1 (br x0.cU y1 (br x0.mt.held (some ((.bool true),[.undef,.undef,.undef])) (br (pr.bg x1.id x0.conn.length) (br (br (pr.cd (bI x0.conn) (pr.idx 0 x1.id 1)) true false) (br (pr.bw (bI x0.conn) (pr.idx 0 x1.id 1)) (br (pr.bg x0.id x1.conn.length) (br (br (pr.cd (bI x1.conn) (pr.idx 0 x0.id 1)) true false) (br (pr.bw (bI x1.conn) (pr.idx 0 x0.id 1)) (br (pr.bg x1.id x0.bV.length) (br (br (pr.cd (bI x0.bV) (pr.idx 0 x1.id 1)) true false) (br (br (pr.bw (bI x0.bV) (pr.idx 0 x1.id 1)) false true) (br (pr.bg x0.id x1.bV.length) (br (br (pr.cd (bI x1.bV) (pr.idx 0 x0.id 1)) true false) (br (br (pr.bw (bI x1.bV) (pr.idx 0 x0.id 1)) false true) (br (br x1.cU false true) (br (pr.eq x0.mt.last x1.mt.last) (some ((.bool x2),[.undef,.undef,.undef])) y1) y1) y1) none) none) y1) none) none) y1) none) none) y1) none) none))))))))))):=by kernel_rfl
theorem KO:Told cfg Tryz.prog 64 Tryz.f64:=⟨by kernel_rfl,Tryz.func64,by kernel_rfl⟩
theorem KP (x0:ae) (x1:ae) (x2:Bool):aR pr cv J 64 Tryz.f64 [(.agg (ab (some true) x0)),(.agg (ab (some true) x1)),(.bool x2)]=
    let y1:Option (D × List D):=(some ((.bool false),[.undef,.undef,.undef]))
    (cv 119 [(.agg (ab (some true) x0)),(.agg (ab (some true) x1))] (.bool (fun bK=>(.done (br (br bK false true) y1 (br (br x0.up false true) y1 (br (br x0.mt.dq false true) y1 (br x0.mt.cg y1 (br x0.cU y1 (br x0.mt.held (some ((.bool true),[.undef,.undef,.undef])) (br (pr.bg x1.id x0.conn.length) (br (br (pr.cd (bI x0.conn) (pr.idx 0 x1.id 1)) true false) (br (pr.bw (bI x0.conn) (pr.idx 0 x1.id 1)) (br (pr.bg x0.id x1.conn.length) (br (br (pr.cd (bI x1.conn) (pr.idx 0 x0.id 1)) true false) (br (pr.bw (bI x1.conn) (pr.idx 0 x0.id 1)) (br (pr.bg x1.id x0.bV.length) (br (br (pr.cd (bI x0.bV) (pr.idx 0 x1.id 1)) true false) (br (br (pr.bw (bI x0.bV) (pr.idx 0 x1.id 1)) false true) (br (pr.bg x0.id x1.bV.length) (br (br (pr.cd (bI x1.bV) (pr.idx 0 x0.id 1)) true false) (br (br (pr.bw (bI x1.bV) (pr.idx 0 x0.id 1)) false true) (br (br x1.cU false true) (br (pr.eq x0.mt.last x1.mt.last) (some ((.bool x2),[.undef,.undef,.undef])) y1) y1) y1) none) none) y1) none) none) y1) none) none) y1) none) none))))))))))):=by kernel_rfl
end
@[go_sem] theorem ac4 (n:ae) (q0:cV n) (t:bS Rz):aU 48 [.agg (ji (some true) n)] t=feed t [.bool (eg n)]:=by
  exact bR (r:=.bool (eg n)) (s:=.bool) (ss:=[.undef]) (A9 n q0) (by kernel_rfl) (by simp only [av,bE,aY,bF,bG,ah,ak,Bool.and_self]) (by simp only [ah,aM,av,ak,Bool.and_self]) (by first | rfl | simp only [au,aW,aV,bB,bC,aX,bD,Bool.and_self]) (by first | rfl | simp only [List.all_cons,List.all_nil,au,Bool.and_self]) t
@[go_sem] theorem ac5 (n:ae) (q0:cV n) (t:bS Rz):aU 41 [.agg (ji (some true) n)] t=feed t [.bool (eg n)]:=by
  exact bR (r:=.bool (eg n)) (s:=.bool) (ss:=[.undef]) (Ba n q0) (by kernel_rfl) (by simp only [av,bE,aY,bF,bG,ah,ak,Bool.and_self]) (by simp only [ah,aM,av,ak,Bool.and_self]) (by first | rfl | simp only [au,aW,aV,bB,bC,aX,bD,Bool.and_self]) (by first | rfl | simp only [List.all_cons,List.all_nil,au,Bool.and_self]) t
@[go_sem] theorem acF (s:bc) (q0:fM s) (t:bS Rz):aU 113 [.agg (uD (some true) s)] t=feed t [enc .mt ((aT s).1),.int .i64 ((aT s).2.1),.bool ((aT s).2.2)]:=by
  exact bR (r:=.bf [enc .mt ((aT s).1),.int .i64 ((aT s).2.1),.bool ((aT s).2.2)]) (s:=.bf [.ty .mt,.int .i64,.bool]) (ss:=[.undef]) (zo s q0) (by kernel_rfl) (by simp only [av,bE,aY,bF,bG,ah,ak,Bool.and_self]) (by simp only [ah,aM,av,ak,Bool.and_self]) (by first | rfl | simp only [au,aW,aV,bB,bC,aX,bD,Bool.and_self]) (by first | rfl | simp only [List.all_cons,List.all_nil,au,Bool.and_self]) t
@[go_sem] theorem acG (s:bc) (q0:fM s) (t:bS Rz):aU 102 [.agg (uD (some true) s)] t=feed t [enc .mt ((aT s).1),.int .i64 ((aT s).2.1),.bool ((aT s).2.2)]:=by
  exact bR (r:=.bf [enc .mt ((aT s).1),.int .i64 ((aT s).2.1),.bool ((aT s).2.2)]) (s:=.bf [.ty .mt,.int .i64,.bool]) (ss:=[.undef]) (zp s q0) (by kernel_rfl) (by simp only [av,bE,aY,bF,bG,ah,ak,Bool.and_self]) (by simp only [ah,aM,av,ak,Bool.and_self]) (by first | rfl | simp only [au,aW,aV,bB,bC,aX,bD,Bool.and_self]) (by first | rfl | simp only [List.all_cons,List.all_nil,au,Bool.and_self]) t
@[go_sem] theorem ac6 (s:bc) (q0:fM s) (t:bS Rz):aU 146 [.agg (uD (some true) s)] t=feed t [enc .mt ((((aT s).1,(aT s).2.1,py s)).1),.int .i64 ((((aT s).1,(aT s).2.1,py s)).2.1),.bool ((((aT s).1,(aT s).2.1,py s)).2.2)]:=by
  exact bR (r:=.bf [enc .mt ((((aT s).1,(aT s).2.1,py s)).1),.int .i64 ((((aT s).1,(aT s).2.1,py s)).2.1),.bool ((((aT s).1,(aT s).2.1,py s)).2.2)]) (s:=.bf [.ty .mt,.int .i64,.bool]) (ss:=[.undef]) (A8 s q0) (by kernel_rfl) (by simp only [av,bE,aY,bF,bG,ah,ak,Bool.and_self]) (by simp only [ah,aM,av,ak,Bool.and_self]) (by first | rfl | simp only [au,aW,aV,bB,bC,aX,bD,Bool.and_self]) (by first | rfl | simp only [List.all_cons,List.all_nil,au,Bool.and_self]) t
@[go_sem] theorem acH (s:bc) (q0:fM s) (t:bS Rz):aU 138 [.agg (uD (some true) s)] t=feed t [.int .i64 (uq s)]:=by
  exact bR (r:=.int .i64 (uq s)) (s:=.int .i64) (ss:=[.undef]) (zn s q0) (by kernel_rfl) (by simp only [av,bE,aY,bF,bG,ah,ak,Bool.and_self]) (by simp only [ah,aM,av,ak,Bool.and_self]) (by first | rfl | simp only [au,aW,aV,bB,bC,aX,bD,Bool.and_self]) (by first | rfl | simp only [List.all_cons,List.all_nil,au,Bool.and_self]) t
@[go_sem] theorem Zq (m:bj) (n:Nat) (q0:du m) (q1:(cO m).length≤151) (q2:n < 4611686018427387904) (t:bS Rz):aU 161 [.agg (D8 (some true) m),.int .i64 (n:Int)] t=feed t [enc .B (nZ m n)]:=by
  exact bR (r:=enc .B (nZ m n)) (s:=.ty .B) (ss:=[.undef,.undef]) (wV m n q0 q1 q2) (by kernel_rfl) (by simp only [av,bE,aY,bF,bG,ah,ak,Bool.and_self]) (by simp only [ah,aM,av,ak,Bool.and_self]) (by first | rfl | simp only [au,aW,aV,bB,bC,aX,bD,Bool.and_self]) (by first | rfl | simp only [List.all_cons,List.all_nil,au,Bool.and_self]) t
@[go_sem] theorem ac7 (m:bj) (n:Nat) (q0:du m) (q1:(cO m).length≤151) (q2:n < 4611686018427387904) (t:bS Rz):aU 152 [.agg (D8 (some true) m),.int .i64 (n:Int)] t=feed t [enc .B (nZ m n)]:=by
  exact bR (r:=enc .B (nZ m n)) (s:=.ty .B) (ss:=[.undef,.undef]) (A7 m n q0 q1 q2) (by kernel_rfl) (by simp only [av,bE,aY,bF,bG,ah,ak,Bool.and_self]) (by simp only [ah,aM,av,ak,Bool.and_self]) (by first | rfl | simp only [au,aW,aV,bB,bC,aX,bD,Bool.and_self]) (by first | rfl | simp only [List.all_cons,List.all_nil,au,Bool.and_self]) t
noncomputable def p7 (x y:ae):Bool:=eg x&&(eg y&&(!decide (x.id=2)&&decide (y.id=lU x.id)))
structure ai9 (x y:ae):Prop where
  ox:rS x
  oy:rS y
  xl:0≤x.id
  xh:x.id≤1
  yl:0≤y.id
  yh:y.id≤1
  an2:y.id=lU x.id
theorem S7 {x y:ae} (h:p7 x y=true):ai9 x y:=by
  unfold p7 at h
  simp only [Bool.and_eq_true,Bool.not_eq_true',decide_eq_true_eq,decide_eq_false_iff_not] at h
  obtain ⟨h1,h2,h3,h4⟩:=h
  have k1:=fI h1
  have k2:=fI h2
  have i1:=k1.id
  have i2:=k2.id
  have h5:=h4
  unfold lU at h5
  exact ⟨k1,k2,i1.1,by omega,i2.1,by split at h5<;>omega,h4⟩
theorem NK (x:ae) (y:ae) (q0:cV x) (q1:cV y):Cm 120 [.agg (ab (some true) x),.agg (ab (some true) y)] (.bool (p7 x y),[.undef,.undef]):=by
  refine Cm.step NI _ fun J _=>?_
  rw [NJ]
  unfold p7
  simp (disch:=first | assumption | omega) only [go_sem]
  refine mC fun h1=>?_
  simp (disch:=first | assumption | omega) only [go_sem]
  refine mC fun h2=>?_
  simp (disch:=first | assumption | omega) only [go_sem]
  refine wZ fun h3=>?_
  simp (disch:=first | assumption | omega) only [go_sem]
@[go_sem] theorem ac8 (x:ae) (y:ae) (q0:cV x) (q1:cV y) (t:bS Rz):aU 120 [.agg (ji (some true) x),.agg (ji (some true) y)] t=feed t [.bool (p7 x y)]:=by
  exact bR (r:=.bool (p7 x y)) (s:=.bool) (ss:=[.undef,.undef]) (NK x y q0 q1) (by kernel_rfl) (by simp only [av,bE,aY,bF,bG,ah,ak,Bool.and_self]) (by simp only [ah,aM,av,ak,Bool.and_self]) (by first | rfl | simp only [au,aW,aV,bB,bC,aX,bD,Bool.and_self]) (by first | rfl | simp only [List.all_cons,List.all_nil,au,Bool.and_self]) t
theorem KQ (x:ae) (y:ae) (q0:cV x) (q1:cV y):Cm 119 [.agg (ab (some true) x),.agg (ab (some true) y)] (.bool (p7 x y),[.undef,.undef]):=by
  refine Cm.step KK _ fun J _=>?_
  rw [KL]
  unfold p7
  simp (disch:=first | assumption | omega) only [go_sem]
  refine mC fun h1=>?_
  simp (disch:=first | assumption | omega) only [go_sem]
  refine mC fun h2=>?_
  simp (disch:=first | assumption | omega) only [go_sem]
  have i1:=(fI h1).id
  have i2:=(fI h2).id
  unfold lU
  by_cases h:x.id=2
  · rw [h]; simp; omega
  · simp [h,eq_comm]
@[go_sem] theorem acI (x:ae) (y:ae) (q0:cV x) (q1:cV y) (t:bS Rz):aU 119 [.agg (ji (some true) x),.agg (ji (some true) y)] t=feed t [.bool (p7 x y)]:=by
  exact bR (r:=.bool (p7 x y)) (s:=.bool) (ss:=[.undef,.undef]) (KQ x y q0 q1) (by kernel_rfl) (by simp only [av,bE,aY,bF,bG,ah,ak,Bool.and_self]) (by simp only [ah,aM,av,ak,Bool.and_self]) (by first | rfl | simp only [au,aW,aV,bB,bC,aX,bD,Bool.and_self]) (by first | rfl | simp only [List.all_cons,List.all_nil,au,Bool.and_self]) t
noncomputable def aja (x y:ae):Bool:=p7 x y&&(x.up&&(x.mt.dq&&(!x.mt.cg&&(!x.mt.held&&(!x.conn.getD y.id.toNat false&&!y.cU)))))
noncomputable def oS (x y:ae) (q:Bool):Bool:=p7 x y&&(x.up&&(x.mt.dq&&(!x.mt.cg&&(!x.cU&&(x.mt.held||(x.conn.getD y.id.toNat false&&(y.conn.getD x.id.toNat false&&(!x.bV.getD y.id.toNat false&&(!y.bV.getD x.id.toNat false&&(!y.cU&&(decide (x.mt.last=y.mt.last)&&q)))))))))))
theorem KR (x:ae) (y:ae) (q:Bool) (q0:cV x) (q1:cV y):Cm 65 [.agg (ab (some true) x),.agg (ab (some true) y),.bool q] (.bool (oS x y q),[.undef,.undef,.undef]):=by
  refine Cm.step KM _ fun J _=>?_
  rw [KN]
  unfold oS
  simp (disch:=first | assumption | omega) only [go_sem]
  refine mC fun h1=>?_
  try simp (disch:=first | assumption | omega) only [go_sem]
  have p:=S7 h1
  have:=p.xl; have:=p.xh; have:=p.yl; have:=p.yh; have:=p.ox.conn; have:=p.oy.conn; have:=p.ox.bV; have:=p.oy.bV
  simp (disch:=first | assumption | omega) only [go_sem]
  refine mC fun _=>?_
  try simp (disch:=first | assumption | omega) only [go_sem]
  refine mC fun _=>?_
  try simp (disch:=first | assumption | omega) only [go_sem]
  refine wZ fun _=>?_
  try simp (disch:=first | assumption | omega) only [go_sem]
  refine wZ fun _=>?_
  try simp (disch:=first | assumption | omega) only [go_sem]
  refine afp fun _=>?_
  try simp (disch:=first | assumption | omega) only [go_sem]
  refine mC fun _=>?_
  try simp (disch:=first | assumption | omega) only [go_sem]
  refine mC fun _=>?_
  try simp (disch:=first | assumption | omega) only [go_sem]
  refine wZ fun _=>?_
  try simp (disch:=first | assumption | omega) only [go_sem]
  refine wZ fun _=>?_
  try simp (disch:=first | assumption | omega) only [go_sem]
  refine wZ fun _=>?_
  try simp (disch:=first | assumption | omega) only [go_sem]
  exact mC fun _=>rfl
@[go_sem] theorem acJ (x:ae) (y:ae) (q:Bool) (q0:cV x) (q1:cV y) (t:bS Rz):aU 65 [.agg (ji (some true) x),.agg (ji (some true) y),.bool q] t=feed t [.bool (oS x y q)]:=by
  exact bR (r:=.bool (oS x y q)) (s:=.bool) (ss:=[.undef,.undef,.undef]) (KR x y q q0 q1) (by kernel_rfl) (by simp only [av,bE,aY,bF,bG,ah,ak,Bool.and_self]) (by simp only [ah,aM,av,ak,Bool.and_self]) (by first | rfl | simp only [au,aW,aV,bB,bC,aX,bD,Bool.and_self]) (by first | rfl | simp only [List.all_cons,List.all_nil,au,Bool.and_self]) t
theorem KS (x:ae) (y:ae) (q:Bool) (q0:cV x) (q1:cV y):Cm 64 [.agg (ab (some true) x),.agg (ab (some true) y),.bool q] (.bool (oS x y q),[.undef,.undef,.undef]):=by
  refine Cm.step KO _ fun J _=>?_
  rw [KP]
  unfold oS
  simp (disch:=first | assumption | omega) only [go_sem]
  refine mC fun h1=>?_
  try simp (disch:=first | assumption | omega) only [go_sem]
  have p:=S7 h1
  have:=p.xl; have:=p.xh; have:=p.yl; have:=p.yh; have:=p.ox.conn; have:=p.oy.conn; have:=p.ox.bV; have:=p.oy.bV
  simp (disch:=first | assumption | omega) only [go_sem]
  refine mC fun _=>?_
  try simp (disch:=first | assumption | omega) only [go_sem]
  refine mC fun _=>?_
  try simp (disch:=first | assumption | omega) only [go_sem]
  refine wZ fun _=>?_
  try simp (disch:=first | assumption | omega) only [go_sem]
  refine wZ fun _=>?_
  try simp (disch:=first | assumption | omega) only [go_sem]
  refine afp fun _=>?_
  try simp (disch:=first | assumption | omega) only [go_sem]
  refine mC fun _=>?_
  try simp (disch:=first | assumption | omega) only [go_sem]
  refine mC fun _=>?_
  try simp (disch:=first | assumption | omega) only [go_sem]
  refine wZ fun _=>?_
  try simp (disch:=first | assumption | omega) only [go_sem]
  refine wZ fun _=>?_
  try simp (disch:=first | assumption | omega) only [go_sem]
  refine wZ fun _=>?_
  try simp (disch:=first | assumption | omega) only [go_sem]
  exact mC fun _=>rfl
@[go_sem] theorem acK (x:ae) (y:ae) (q:Bool) (q0:cV x) (q1:cV y) (t:bS Rz):aU 64 [.agg (ji (some true) x),.agg (ji (some true) y),.bool q] t=feed t [.bool (oS x y q)]:=by
  exact bR (r:=.bool (oS x y q)) (s:=.bool) (ss:=[.undef,.undef,.undef]) (KS x y q q0 q1) (by kernel_rfl) (by simp only [av,bE,aY,bF,bG,ah,ak,Bool.and_self]) (by simp only [ah,aM,av,ak,Bool.and_self]) (by first | rfl | simp only [au,aW,aV,bB,bC,aX,bD,Bool.and_self]) (by first | rfl | simp only [List.all_cons,List.all_nil,au,Bool.and_self]) t
end Go.Proofs.YtockoilcnmljiaaGreat
namespace Go.Proofs.YtockoilcnmljiaaGreat
set_option maxRecDepth 100000
attribute [go_sem] ae4 ae5 ae6
def n0:ae:=⟨0,false,false,[],⟨[],[],false,false,false,0⟩,⟨[],[]⟩,[],[],[],[]⟩
def w0:dm:=⟨0,0,[]⟩
def r0:fg:=⟨0,0⟩
@[go_sem] theorem ajH (i:Int):ad.idx 0 i 16=i.toNat*16:=by show (0+i.toNat)*16=_; omega
@[go_sem] theorem alx (i:Int):ad.idx 0 i 3=i.toNat*3:=by show (0+i.toNat)*3=_; omega
@[go_sem] theorem aly (i:Int):ad.idx 0 i 2=i.toNat*2:=by show (0+i.toNat)*2=_; omega
theorem dV {α:Type} {xs:List α} {i:Nat} {d:α} (h:i < xs.length):xs.getD i d=xs[i]:=by rw [List.getD_eq_getElem?_getD,List.getElem?_eq_getElem h]; rfl
section
variable {g:Bool} {xs:List ae} {i:Nat} (h:i < xs.length)
include h
@[go_sem] theorem amI:ad.bO .i64 (U (ab (some g)) xs) (i*16)=true:=HH h
@[go_sem] theorem amJ:ad.aO (U (ab (some g)) xs) (i*16)=(xs.getD i n0).id:=(HI (g:=g) h).trans (by rw [dV h])
@[go_sem] theorem amK:ad.cd (U (ab (some g)) xs) (i*16+1)=true:=HJ h
@[go_sem] theorem amL:ad.bw (U (ab (some g)) xs) (i*16+1)=(xs.getD i n0).up:=(HK (g:=g) h).trans (by rw [dV h])
@[go_sem] theorem amM:ad.cd (U (ab (some g)) xs) (i*16+2)=true:=HL h
@[go_sem] theorem amN:ad.bw (U (ab (some g)) xs) (i*16+2)=(xs.getD i n0).cU:=(HM (g:=g) h).trans (by rw [dV h])
@[go_sem] theorem amO:ad.aN 1 (U (ab (some g)) xs) (i*16+3)=true:=HN h
@[go_sem] theorem amP:ad.aH (U (ab (some g)) xs) (i*16+3)=g:=HO h
@[go_sem] theorem amQ:ad.aC (U (ab (some g)) xs) (i*16+3)=(xs.getD i n0).image.length:=(HP (g:=g) h).trans (by rw [dV h])
@[go_sem] theorem amR:ad.aE (U (ab (some g)) xs) (i*16+3)=ints (xs.getD i n0).image:=(HQ (g:=g) h).trans (by rw [dV h])
@[go_sem] theorem amS:ad.aN 1 (U (ab (some g)) xs) (i*16+4)=true:=HR h
@[go_sem] theorem amT:ad.aH (U (ab (some g)) xs) (i*16+4)=g:=HS h
@[go_sem] theorem amU:ad.aC (U (ab (some g)) xs) (i*16+4)=(xs.getD i n0).mt.aP.length:=(HT (g:=g) h).trans (by rw [dV h])
@[go_sem] theorem amV:ad.aE (U (ab (some g)) xs) (i*16+4)=ints (xs.getD i n0).mt.aP:=(HU (g:=g) h).trans (by rw [dV h])
@[go_sem] theorem amW:ad.aN 1 (U (ab (some g)) xs) (i*16+5)=true:=HV h
@[go_sem] theorem amX:ad.aH (U (ab (some g)) xs) (i*16+5)=g:=HW h
@[go_sem] theorem amY:ad.aC (U (ab (some g)) xs) (i*16+5)=(xs.getD i n0).mt.bits.length:=(HX (g:=g) h).trans (by rw [dV h])
@[go_sem] theorem amZ:ad.aE (U (ab (some g)) xs) (i*16+5)=rows (some g) (xs.getD i n0).mt.bits:=(HY (g:=g) h).trans (by rw [dV h])
@[go_sem] theorem am0:ad.cd (U (ab (some g)) xs) (i*16+6)=true:=HZ h
@[go_sem] theorem am1:ad.bw (U (ab (some g)) xs) (i*16+6)=(xs.getD i n0).mt.dq:=(H0 (g:=g) h).trans (by rw [dV h])
@[go_sem] theorem am2:ad.cd (U (ab (some g)) xs) (i*16+7)=true:=H3 h
@[go_sem] theorem am3:ad.bw (U (ab (some g)) xs) (i*16+7)=(xs.getD i n0).mt.cg:=(H4 (g:=g) h).trans (by rw [dV h])
@[go_sem] theorem am4:ad.cd (U (ab (some g)) xs) (i*16+8)=true:=H5 h
@[go_sem] theorem am5:ad.bw (U (ab (some g)) xs) (i*16+8)=(xs.getD i n0).mt.held:=(H6 (g:=g) h).trans (by rw [dV h])
@[go_sem] theorem am6:ad.bO .i64 (U (ab (some g)) xs) (i*16+9)=true:=H7 h
@[go_sem] theorem am7:ad.aO (U (ab (some g)) xs) (i*16+9)=(xs.getD i n0).mt.last:=(H8 (g:=g) h).trans (by rw [dV h])
@[go_sem] theorem alz:ad.aN 1 (U (ab (some g)) xs) (i*16+10)=true:=Cq h
@[go_sem] theorem alA:ad.aH (U (ab (some g)) xs) (i*16+10)=g:=Cr h
@[go_sem] theorem alB:ad.aC (U (ab (some g)) xs) (i*16+10)=(xs.getD i n0).cJ.a.length:=(Cs (g:=g) h).trans (by rw [dV h])
@[go_sem] theorem alC:ad.aE (U (ab (some g)) xs) (i*16+10)=bytes (xs.getD i n0).cJ.a:=(Ct (g:=g) h).trans (by rw [dV h])
@[go_sem] theorem alD:ad.aN 1 (U (ab (some g)) xs) (i*16+11)=true:=Cu h
@[go_sem] theorem alE:ad.aH (U (ab (some g)) xs) (i*16+11)=g:=Cw h
@[go_sem] theorem alF:ad.aC (U (ab (some g)) xs) (i*16+11)=(xs.getD i n0).cJ.b.length:=(Cx (g:=g) h).trans (by rw [dV h])
@[go_sem] theorem alG:ad.aE (U (ab (some g)) xs) (i*16+11)=bytes (xs.getD i n0).cJ.b:=(Cy (g:=g) h).trans (by rw [dV h])
@[go_sem] theorem alH:ad.aN 1 (U (ab (some g)) xs) (i*16+12)=true:=Cz h
@[go_sem] theorem alI:ad.aH (U (ab (some g)) xs) (i*16+12)=g:=CA h
@[go_sem] theorem alJ:ad.aC (U (ab (some g)) xs) (i*16+12)=(xs.getD i n0).conn.length:=(CB (g:=g) h).trans (by rw [dV h])
@[go_sem] theorem alK:ad.aE (U (ab (some g)) xs) (i*16+12)=bI (xs.getD i n0).conn:=(CC (g:=g) h).trans (by rw [dV h])
@[go_sem] theorem alL:ad.aN 1 (U (ab (some g)) xs) (i*16+13)=true:=CD h
@[go_sem] theorem alM:ad.aH (U (ab (some g)) xs) (i*16+13)=g:=CE h
@[go_sem] theorem alN:ad.aC (U (ab (some g)) xs) (i*16+13)=(xs.getD i n0).sync.length:=(CF (g:=g) h).trans (by rw [dV h])
@[go_sem] theorem alP:ad.aE (U (ab (some g)) xs) (i*16+13)=rows (some g) (xs.getD i n0).sync:=(CG (g:=g) h).trans (by rw [dV h])
@[go_sem] theorem alQ:ad.aN 1 (U (ab (some g)) xs) (i*16+14)=true:=CH h
@[go_sem] theorem alR:ad.aH (U (ab (some g)) xs) (i*16+14)=g:=CI h
@[go_sem] theorem alS:ad.aC (U (ab (some g)) xs) (i*16+14)=(xs.getD i n0).bV.length:=(CJ (g:=g) h).trans (by rw [dV h])
@[go_sem] theorem alT:ad.aE (U (ab (some g)) xs) (i*16+14)=bI (xs.getD i n0).bV:=(CK (g:=g) h).trans (by rw [dV h])
@[go_sem] theorem alU:ad.aN 1 (U (ab (some g)) xs) (i*16+15)=true:=CL h
@[go_sem] theorem alV:ad.aH (U (ab (some g)) xs) (i*16+15)=g:=CM h
@[go_sem] theorem alW:ad.aC (U (ab (some g)) xs) (i*16+15)=(xs.getD i n0).wait.length:=(CN (g:=g) h).trans (by rw [dV h])
@[go_sem] theorem alX:ad.aE (U (ab (some g)) xs) (i*16+15)=ints (xs.getD i n0).wait:=(CO (g:=g) h).trans (by rw [dV h])
end
section
variable {g:Bool} {xs:List dm} {i:Nat} (h:i < xs.length)
include h
@[go_sem] theorem am8:ad.bO .i64 (U (aw (some g)) xs) (i*3)=true:=H9 h
@[go_sem] theorem am9:ad.aO (U (aw (some g)) xs) (i*3)=(xs.getD i w0).src:=(Ia (g:=g) h).trans (by rw [dV h])
@[go_sem] theorem ana:ad.bO .i64 (U (aw (some g)) xs) (i*3+1)=true:=Ib h
@[go_sem] theorem anb:ad.aO (U (aw (some g)) xs) (i*3+1)=(xs.getD i w0).dst:=(Ic (g:=g) h).trans (by rw [dV h])
@[go_sem] theorem anc:ad.aN 1 (U (aw (some g)) xs) (i*3+2)=true:=Ie h
@[go_sem] theorem ane:ad.aH (U (aw (some g)) xs) (i*3+2)=g:=Ig h
@[go_sem] theorem anf:ad.aC (U (aw (some g)) xs) (i*3+2)=(xs.getD i w0).bytes.length:=(Ih (g:=g) h).trans (by rw [dV h])
@[go_sem] theorem ang:ad.aE (U (aw (some g)) xs) (i*3+2)=bytes (xs.getD i w0).bytes:=(Ii (g:=g) h).trans (by rw [dV h])
end
section
variable {g:Bool} {xs:List fg} {i:Nat} (h:i < xs.length)
include h
@[go_sem] theorem anh:ad.bO .i64 (U (aK (some g)) xs) (i*2)=true:=u9 h
@[go_sem] theorem ani:ad.aO (U (aK (some g)) xs) (i*2)=(xs.getD i r0).cell:=(va (g:=g) h).trans (by rw [dV h])
@[go_sem] theorem anj:ad.bO .i64 (U (aK (some g)) xs) (i*2+1)=true:=vb h
@[go_sem] theorem ank:ad.aO (U (aK (some g)) xs) (i*2+1)=(xs.getD i r0).up:=(vd (g:=g) h).trans (by rw [dV h])
end
end Go.Proofs.YtockoilcnmljiaaGreat
namespace Go.Proofs.YtockoilcnmljiaaGreat
set_option maxRecDepth 100000
section
variable {α:Type} {p:α→Bool} {xs:List α} {d:α}
def tk (p:α→Bool) (xs:List α):Int:=match xs.findIdx? p with | some i=>(i:Int) | none=>-1
theorem KT:decide (0≤tk p xs)=xs.any p:=by
  unfold tk
  cases h:xs.findIdx? p with
  | none=>
    have:=List.findIdx?_eq_none_iff.1 h
    symm
    simpa using this
  | some i=>
    obtain ⟨hi,h2,_⟩:=List.findIdx?_eq_some_iff_getElem.1 h
    have h3:xs.any p=true:=List.any_eq_true.2 ⟨xs[i],List.getElem_mem hi,h2⟩
    rw [h3]
    simp
theorem Zr {i:Nat} (hi:i < xs.length) (inv:∀ j,j < i→p (xs.getD j d)=false) (h:p (xs.getD i d)=true):tk p xs=i:=by
  unfold tk
  have:xs.findIdx? p=some i:=List.findIdx?_eq_some_iff_getElem.2 ⟨hi,by rw [← dV (d:=d) hi]; exact h,fun j hj=>by
    have:=inv j hj
    rw [dV (d:=d) (by omega)] at this
    simp [this]⟩
  rw [this]
theorem W4 (inv:∀ j,j < xs.length→p (xs.getD j d)=false):tk p xs=-1:=by
  unfold tk
  have:xs.findIdx? p=none:=List.findIdx?_eq_none_iff.2 fun x hx=>by
    obtain ⟨i,hi,rfl⟩:=List.getElem_of_mem hx
    have:=inv i hi
    rwa [dV (d:=d) hi] at this
  rw [this]
end
theorem Gr {α:Type} {p:α→Bool} {xs:List α} {d:α} {f:FuncId} {fn:Func} {sk:List D} {j:Nat} {H:Nat→St}
    (h1:∀ i,i < xs.length→∀ J:Nat→St→Option Rz,bJ ad aU J f fn sk j (H i)=br (p (xs.getD i d)) (some (.int .i64 (i:Int),sk)) (J j (H (i+1))))
    (h2:∀ J:Nat→St→Option Rz,bJ ad aU J f fn sk j (H xs.length)=some (.int .i64 (-1),sk)):WP f fn sk j (H 0) (.int .i64 (tk p xs),sk):=by
  refine WP.up (H:=H) xs.length (fun i=>∀ j,j < i→p (xs.getD j d)=false) (fun i hi inv J _ next=>?_) 0 (Nat.zero_le _) (fun j hj=>absurd hj (by omega))
  by_cases hl:i < xs.length
  · rw [h1 i hl J]
    cases hp:p (xs.getD i d) with
    | true=>rw [Zr hl inv hp]; rfl
    | false=>
      refine next hl fun k hk=>?_
      by_cases e:k=i
      · rw [e]; exact hp
      · exact inv k (by omega)
  · rw [show i=xs.length by omega,h2 J,W4 fun j hj=>inv j (by omega)]
theorem WP.L6 {f:FuncId} {fn:Func} {sk:List D} {j:Nat} {r:Rz} {H:Nat→St} (n:Nat) (inv:Nat→Prop) (hs:∀ i,i≤n→inv i→(i < n→inv (i+1)→WP f fn sk j (H (i+1)) r)→WP f fn sk j (H i) r):∀ i,i≤n→inv i→WP f fn sk j (H i) r:=by
  have key:∀ k i,i+k=n→inv i→WP f fn sk j (H i) r:=by
    intro k
    induction k with
    | zero=>intro i hi hv; exact hs i (by omega) hv (fun h=>absurd h (by omega))
    | succ k ih=>intro i hi hv; exact hs i (by omega) hv (fun _ h=>ih (i+1) (by omega) h)
  exact fun i hi hv=>key (n - i) i (by omega) hv
theorem o8 {α:Type} {xs:List α} {i:Nat} {d:α} (h:i < xs.length):xs.getD i d∈xs:=by rw [dV h]; exact List.getElem_mem h
theorem QV {w:ai} (ok:bW w) {i:Nat} (h:i < w.nodes.length):cV (w.nodes.getD i n0):=ok.node _ (o8 h)
section
variable (pr:dr) (cv:Cv Rz) (J:Nat→St→Option Rz)
def fp (g:Bool) (xs:List Int) (c0:List D) (n1:Nat) (i2:Int) (i3:Int):St:=(St.mk [(0,(sI (some g) xs)),(1,(.fn 125 [(.cr c0 n1)])),(7,(.int .i64 i2)),(8,(.int .i64 i3))] [] [] 0)
theorem rW:Told cfg Tryz.prog 150 Tryz.f150:=⟨by kernel_rfl,Tryz.func150,by kernel_rfl⟩
theorem rX (u0:List D) (v0:Nat) (g:Bool) (xs:List Int):aR pr cv J 150 Tryz.f150 [(sI (some g) xs),(.fn 125 [(.cr u0 v0)])]=
    (J 0 (fp g xs u0 v0 (pr.aS xs.length) 0)):=by kernel_rfl
theorem kf (g:Bool) (xs:List Int) (c0:List D) (n1:Nat) (i2:Int) (i3:Int):bJ pr cv J 150 Tryz.f150 [.undef,.undef] 0 (fp g xs c0 n1 i2 i3)=
    (br (pr.lt i3 i2) (br (pr.bg i3 xs.length) (br (br (pr.bO .i64 (ints xs) (pr.idx 0 i3 1)) true false) (cv 125 [(.int .i64 (pr.aO (ints xs) (pr.idx 0 i3 1))),(.cr c0 n1)] (.bool (fun bK=>(.done (br bK (some ((.int .i64 i3),[.undef,.undef])) (J 0 (fp g xs c0 n1 i2 (pr.ar .add .i64 i3 1)))))))) none) none) (some ((.int .i64 (-1)),[.undef,.undef]))):=by kernel_rfl
theorem qn:Told cfg Tryz.prog 124 Tryz.f124:=⟨by kernel_rfl,Tryz.func124,by kernel_rfl⟩
theorem qo (u0:List D) (v0:Nat) (g:Bool) (xs:List Int):aR pr cv J 124 Tryz.f124 [(sI (some g) xs),(.fn 125 [(.cr u0 v0)])]=
    (cv 150 [(sI (some g) xs),(.fn 125 [(.cr u0 v0)])] (.int (fun dA=>(.done (some ((.bool (pr.le 0 dA)),[.undef,.undef])))))):=by kernel_rfl
end
theorem RH (u0:List D) (v0:Nat) (g:Bool) (xs:List Int) (p:Int→Bool) (hb:xs.length < 4611686018427387904) (hc:∀ i,i < xs.length→∀ t:bS Rz,aU 125 [.int .i64 (xs.getD i 0),.cr u0 v0] t=feed t [.bool (p (xs.getD i 0))]):Cm 150 [.sl (some g) 1 xs.length (ints xs),.fn 125 [.cr u0 v0]] (.int .i64 (tk p xs),[.undef,.undef]):=by
  refine Cm.step rW [.undef,.undef] fun J hJ=>?_
  rw [rX]
  refine hJ _ _ ?_
  refine Gr (d:=0) (H:=fun i=>fp g xs u0 v0 xs.length (i:Nat)) (fun i hi J=>?_) (fun J=>?_)
  · rw [kf]
    simp (disch:=first | assumption | omega) only [go_sem,hc i hi]
    cases p (xs.getD i 0) with
    | true=>rfl
    | false=>
      simp (disch:=first | assumption | omega) only [go_sem]
      rfl
  · rw [kf]
    simp (disch:=first | assumption | omega) only [go_sem]
theorem KU (u0:List D) (v0:Nat) (g:Bool) (xs:List Int) (p:Int→Bool) (hb:xs.length < 4611686018427387904) (hc:∀ i,i < xs.length→∀ t:bS Rz,aU 125 [.int .i64 (xs.getD i 0),.cr u0 v0] t=feed t [.bool (p (xs.getD i 0))]):Cm 124 [.sl (some g) 1 xs.length (ints xs),.fn 125 [.cr u0 v0]] (.bool (xs.any p),[.undef,.undef]):=by
  refine Cm.step qn [.undef,.undef] fun J hJ=>?_
  rw [qo]
  have:=bh (RH u0 v0 g xs p hb hc) (by kernel_rfl)
  rw [this]
  show some ((.bool (decide (0≤tk p xs)),[.undef,.undef]):Rz)=_
  rw [KT]
section
variable (pr:dr) (cv:Cv Rz) (J:Nat→St→Option Rz)
theorem Gs:Told cfg Tryz.prog 125 Tryz.f125:=⟨by kernel_rfl,Tryz.func125,by kernel_rfl⟩
theorem Gt (w:ai) (a:Int):aR pr cv J 125 Tryz.f125 [(.int .i64 a),(.cr (bn (some true) w) 0)]=
    (br (br (pr.aN 2 [(.sl (some true) 16 w.nodes.length (U (ab (some true)) w.nodes)),(.sl (some true) 3 w.ay.length (U (aw (some true)) w.ay)),(.sl (some true) 2 w.log.length (U (aK (some true)) w.log)),(sI (some true) w.safe),(.int .i64 w.gen)] 2) true false) (some ((.bool (pr.lt (pr.aS (pr.aC [(.sl (some true) 16 w.nodes.length (U (ab (some true)) w.nodes)),(.sl (some true) 3 w.ay.length (U (aw (some true)) w.ay)),(.sl (some true) 2 w.log.length (U (aK (some true)) w.log)),(sI (some true) w.safe),(.int .i64 w.gen)] 2)) a)),[.undef,.undef])) none):=by kernel_rfl
def mX (x0:ai) (i0:Int) (i1:Int):St:=(St.mk [(1,(.ptr 1 [] 0)),(13,(.sl (some true) 16 x0.nodes.length (U (ab (some true)) x0.nodes))),(14,(.int .i64 i0)),(15,(.int .i64 i1))] [(1,[(.sl (some true) 16 x0.nodes.length (U (ab (some true)) x0.nodes)),(.sl (some true) 3 x0.ay.length (U (aw (some true)) x0.ay)),(.sl (some true) 2 x0.log.length (U (aK (some true)) x0.log)),(sI (some true) x0.safe),(.int .i64 x0.gen)])] [] 0)
def kg (x0:ai) (i0:Int) (i1:Int):St:=(St.mk [(1,(.ptr 1 [] 0)),(46,(.sl (some true) 16 x0.nodes.length (U (ab (some true)) x0.nodes))),(47,(.int .i64 i0)),(48,(.int .i64 i1))] [(1,[(.sl (some true) 16 x0.nodes.length (U (ab (some true)) x0.nodes)),(.sl (some true) 3 x0.ay.length (U (aw (some true)) x0.ay)),(.sl (some true) 2 x0.log.length (U (aK (some true)) x0.log)),(sI (some true) x0.safe),(.int .i64 x0.gen)])] [] 0)
def mY (x0:ai) (i0:Int) (i1:Int) (i2:Int) (i3:Int) (b4:Bool) (b5:Bool) (g6:Bool) (n7:Nat) (c8:List D) (g9:Bool) (nQ:Nat) (nR:List D) (g12:Bool) (gO:Nat) (gD:List D) (jb:Bool) (nX:Bool) (nT:Bool) (i18:Int) (g19:Bool) (AK:Nat) (AL:List D) (g22:Bool) (xY:Nat) (xZ:List D) (x4:Bool) (sa:Nat) (rH:List D) (ue:Bool) (n29:Nat) (uf:List D) (ug:Bool) (n32:Nat) (x5:List D) (x6:Bool) (n35:Nat) (x7:List D):St:=(St.mk [(1,(.ptr 1 [] 0)),(5,(.int .i64 i0)),(6,(.ptr 6 [] 0)),(46,(.sl (some true) 16 x0.nodes.length (U (ab (some true)) x0.nodes))),(47,(.int .i64 i1)),(48,(.int .i64 i0)),(53,(.int .i64 i2))] [(1,[(.sl (some true) 16 x0.nodes.length (U (ab (some true)) x0.nodes)),(.sl (some true) 3 x0.ay.length (U (aw (some true)) x0.ay)),(.sl (some true) 2 x0.log.length (U (aK (some true)) x0.log)),(sI (some true) x0.safe),(.int .i64 x0.gen)]),(6,[(.int .i64 i3),(.bool b4),(.bool b5),(.sl (some g6) 1 n7 c8),(.sl (some g9) 1 nQ nR),(.sl (some g12) 1 gO gD),(.bool jb),(.bool nX),(.bool nT),(.int .i64 i18),(.sl (some g19) 1 AK AL),(.sl (some g22) 1 xY xZ),(.sl (some x4) 1 sa rH),(.sl (some ue) 1 n29 uf),(.sl (some ug) 1 n32 x5),(.sl (some x6) 1 n35 x7)])] [] 0)
theorem KV:Told cfg Tryz.prog 74 Tryz.f74:=⟨by kernel_rfl,Tryz.func74,by kernel_rfl⟩
theorem KW (x0:ai):aR pr cv J 74 Tryz.f74 [(.agg (bn (some true) x0))]=
    (br (br (pr.eq (pr.aS x0.nodes.length) 3) false true) (some ((.bool false),[.undef])) (J 0 (mX x0 (pr.aS x0.nodes.length) 0))):=by kernel_rfl
theorem Eh (x0:ai) (i0:Int) (i1:Int):bJ pr cv J 74 Tryz.f74 [.undef] 0 (mX x0 i0 i1)=
    let y1:Int:=(pr.aO (U (ab (some true)) x0.nodes) (pr.idx 0 i1 16))
    let y2:Option Bool:=(some (pr.aH (U (ab (some true)) x0.nodes) ((pr.idx 0 i1 16)+3)))
    let y3:Nat:=(pr.aC (U (ab (some true)) x0.nodes) ((pr.idx 0 i1 16)+3))
    let y4:List D:=(pr.aE (U (ab (some true)) x0.nodes) ((pr.idx 0 i1 16)+3))
    let y5:Int:=(pr.aO (U (ab (some true)) x0.nodes) ((pr.idx 0 i1 16)+9))
    let y6:Option (D × List D):=(some ((.bool false),[.undef]))
    (br (pr.lt i1 i0) (br (pr.bg i1 x0.nodes.length) (br (br (pr.bO .i64 (U (ab (some true)) x0.nodes) (pr.idx 0 i1 16)) (br (pr.cd (U (ab (some true)) x0.nodes) ((pr.idx 0 i1 16)+1)) (br (pr.cd (U (ab (some true)) x0.nodes) ((pr.idx 0 i1 16)+2)) (br (pr.aN 1 (U (ab (some true)) x0.nodes) ((pr.idx 0 i1 16)+3)) (br (pr.aN 1 (U (ab (some true)) x0.nodes) ((pr.idx 0 i1 16)+4)) (br (pr.aN 1 (U (ab (some true)) x0.nodes) ((pr.idx 0 i1 16)+5)) (br (pr.cd (U (ab (some true)) x0.nodes) ((pr.idx 0 i1 16)+6)) (br (pr.cd (U (ab (some true)) x0.nodes) ((pr.idx 0 i1 16)+7)) (br (pr.cd (U (ab (some true)) x0.nodes) ((pr.idx 0 i1 16)+8)) (br (pr.bO .i64 (U (ab (some true)) x0.nodes) ((pr.idx 0 i1 16)+9)) (br (pr.aN 1 (U (ab (some true)) x0.nodes) ((pr.idx 0 i1 16)+10)) (br (pr.aN 1 (U (ab (some true)) x0.nodes) ((pr.idx 0 i1 16)+11)) (br (pr.aN 1 (U (ab (some true)) x0.nodes) ((pr.idx 0 i1 16)+12)) (br (pr.aN 1 (U (ab (some true)) x0.nodes) ((pr.idx 0 i1 16)+13)) (br (pr.aN 1 (U (ab (some true)) x0.nodes) ((pr.idx 0 i1 16)+14)) (br (pr.aN 1 (U (ab (some true)) x0.nodes) ((pr.idx 0 i1 16)+15)) true false) false) false) false) false) false) false) false) false) false) false) false) false) false) false) false) (cv 48 [(.agg [(.int .i64 y1),(.bool (pr.bw (U (ab (some true)) x0.nodes) ((pr.idx 0 i1 16)+1))),(.bool (pr.bw (U (ab (some true)) x0.nodes) ((pr.idx 0 i1 16)+2))),(.sl y2 1 y3 y4),(.sl (some (pr.aH (U (ab (some true)) x0.nodes) ((pr.idx 0 i1 16)+4))) 1 (pr.aC (U (ab (some true)) x0.nodes) ((pr.idx 0 i1 16)+4)) (pr.aE (U (ab (some true)) x0.nodes) ((pr.idx 0 i1 16)+4))),(.sl (some (pr.aH (U (ab (some true)) x0.nodes) ((pr.idx 0 i1 16)+5))) 1 (pr.aC (U (ab (some true)) x0.nodes) ((pr.idx 0 i1 16)+5)) (pr.aE (U (ab (some true)) x0.nodes) ((pr.idx 0 i1 16)+5))),(.bool (pr.bw (U (ab (some true)) x0.nodes) ((pr.idx 0 i1 16)+6))),(.bool (pr.bw (U (ab (some true)) x0.nodes) ((pr.idx 0 i1 16)+7))),(.bool (pr.bw (U (ab (some true)) x0.nodes) ((pr.idx 0 i1 16)+8))),(.int .i64 y5),(.sl (some (pr.aH (U (ab (some true)) x0.nodes) ((pr.idx 0 i1 16)+10))) 1 (pr.aC (U (ab (some true)) x0.nodes) ((pr.idx 0 i1 16)+10)) (pr.aE (U (ab (some true)) x0.nodes) ((pr.idx 0 i1 16)+10))),(.sl (some (pr.aH (U (ab (some true)) x0.nodes) ((pr.idx 0 i1 16)+11))) 1 (pr.aC (U (ab (some true)) x0.nodes) ((pr.idx 0 i1 16)+11)) (pr.aE (U (ab (some true)) x0.nodes) ((pr.idx 0 i1 16)+11))),(.sl (some (pr.aH (U (ab (some true)) x0.nodes) ((pr.idx 0 i1 16)+12))) 1 (pr.aC (U (ab (some true)) x0.nodes) ((pr.idx 0 i1 16)+12)) (pr.aE (U (ab (some true)) x0.nodes) ((pr.idx 0 i1 16)+12))),(.sl (some (pr.aH (U (ab (some true)) x0.nodes) ((pr.idx 0 i1 16)+13))) 1 (pr.aC (U (ab (some true)) x0.nodes) ((pr.idx 0 i1 16)+13)) (pr.aE (U (ab (some true)) x0.nodes) ((pr.idx 0 i1 16)+13))),(.sl (some (pr.aH (U (ab (some true)) x0.nodes) ((pr.idx 0 i1 16)+14))) 1 (pr.aC (U (ab (some true)) x0.nodes) ((pr.idx 0 i1 16)+14)) (pr.aE (U (ab (some true)) x0.nodes) ((pr.idx 0 i1 16)+14))),(.sl (some (pr.aH (U (ab (some true)) x0.nodes) ((pr.idx 0 i1 16)+15))) 1 (pr.aC (U (ab (some true)) x0.nodes) ((pr.idx 0 i1 16)+15)) (pr.aE (U (ab (some true)) x0.nodes) ((pr.idx 0 i1 16)+15)))])] (.bool (fun bK=>(.done (br (br bK false true) y6 (br (br (pr.eq y1 i1) false true) y6 (br (pr.lt (pr.aS x0.log.length) y5) y6 (cv 124 [(.sl y2 1 y3 y4),(.fn 125 [(.cr [(.sl (some true) 16 x0.nodes.length (U (ab (some true)) x0.nodes)),(.sl (some true) 3 x0.ay.length (U (aw (some true)) x0.ay)),(.sl (some true) 2 x0.log.length (U (aK (some true)) x0.log)),(sI (some true) x0.safe),(.int .i64 x0.gen)] 0)])] (.bool (fun eQ=>(.done (br eQ y6 (J 0 (mX x0 i0 (pr.ar .add .i64 i1 1))))))))))))))) none) none) (J 2 (kg x0 (pr.aS x0.nodes.length) 0))):=by kernel_rfl
theorem Ei (x0:ai) (i0:Int) (i1:Int):bJ pr cv J 74 Tryz.f74 [.undef] 2 (kg x0 i0 i1)=
    (br (pr.lt i1 i0) (br (pr.bg i1 x0.nodes.length) (br (br (pr.bO .i64 (U (ab (some true)) x0.nodes) (pr.idx 0 i1 16)) (br (pr.cd (U (ab (some true)) x0.nodes) ((pr.idx 0 i1 16)+1)) (br (pr.cd (U (ab (some true)) x0.nodes) ((pr.idx 0 i1 16)+2)) (br (pr.aN 1 (U (ab (some true)) x0.nodes) ((pr.idx 0 i1 16)+3)) (br (pr.aN 1 (U (ab (some true)) x0.nodes) ((pr.idx 0 i1 16)+4)) (br (pr.aN 1 (U (ab (some true)) x0.nodes) ((pr.idx 0 i1 16)+5)) (br (pr.cd (U (ab (some true)) x0.nodes) ((pr.idx 0 i1 16)+6)) (br (pr.cd (U (ab (some true)) x0.nodes) ((pr.idx 0 i1 16)+7)) (br (pr.cd (U (ab (some true)) x0.nodes) ((pr.idx 0 i1 16)+8)) (br (pr.bO .i64 (U (ab (some true)) x0.nodes) ((pr.idx 0 i1 16)+9)) (br (pr.aN 1 (U (ab (some true)) x0.nodes) ((pr.idx 0 i1 16)+10)) (br (pr.aN 1 (U (ab (some true)) x0.nodes) ((pr.idx 0 i1 16)+11)) (br (pr.aN 1 (U (ab (some true)) x0.nodes) ((pr.idx 0 i1 16)+12)) (br (pr.aN 1 (U (ab (some true)) x0.nodes) ((pr.idx 0 i1 16)+13)) (br (pr.aN 1 (U (ab (some true)) x0.nodes) ((pr.idx 0 i1 16)+14)) (br (pr.aN 1 (U (ab (some true)) x0.nodes) ((pr.idx 0 i1 16)+15)) true false) false) false) false) false) false) false) false) false) false) false) false) false) false) false) false) (J 4 (mY x0 i1 i0 0 (pr.aO (U (ab (some true)) x0.nodes) (pr.idx 0 i1 16)) (pr.bw (U (ab (some true)) x0.nodes) ((pr.idx 0 i1 16)+1)) (pr.bw (U (ab (some true)) x0.nodes) ((pr.idx 0 i1 16)+2)) (pr.aH (U (ab (some true)) x0.nodes) ((pr.idx 0 i1 16)+3)) (pr.aC (U (ab (some true)) x0.nodes) ((pr.idx 0 i1 16)+3)) (pr.aE (U (ab (some true)) x0.nodes) ((pr.idx 0 i1 16)+3)) (pr.aH (U (ab (some true)) x0.nodes) ((pr.idx 0 i1 16)+4)) (pr.aC (U (ab (some true)) x0.nodes) ((pr.idx 0 i1 16)+4)) (pr.aE (U (ab (some true)) x0.nodes) ((pr.idx 0 i1 16)+4)) (pr.aH (U (ab (some true)) x0.nodes) ((pr.idx 0 i1 16)+5)) (pr.aC (U (ab (some true)) x0.nodes) ((pr.idx 0 i1 16)+5)) (pr.aE (U (ab (some true)) x0.nodes) ((pr.idx 0 i1 16)+5)) (pr.bw (U (ab (some true)) x0.nodes) ((pr.idx 0 i1 16)+6)) (pr.bw (U (ab (some true)) x0.nodes) ((pr.idx 0 i1 16)+7)) (pr.bw (U (ab (some true)) x0.nodes) ((pr.idx 0 i1 16)+8)) (pr.aO (U (ab (some true)) x0.nodes) ((pr.idx 0 i1 16)+9)) (pr.aH (U (ab (some true)) x0.nodes) ((pr.idx 0 i1 16)+10)) (pr.aC (U (ab (some true)) x0.nodes) ((pr.idx 0 i1 16)+10)) (pr.aE (U (ab (some true)) x0.nodes) ((pr.idx 0 i1 16)+10)) (pr.aH (U (ab (some true)) x0.nodes) ((pr.idx 0 i1 16)+11)) (pr.aC (U (ab (some true)) x0.nodes) ((pr.idx 0 i1 16)+11)) (pr.aE (U (ab (some true)) x0.nodes) ((pr.idx 0 i1 16)+11)) (pr.aH (U (ab (some true)) x0.nodes) ((pr.idx 0 i1 16)+12)) (pr.aC (U (ab (some true)) x0.nodes) ((pr.idx 0 i1 16)+12)) (pr.aE (U (ab (some true)) x0.nodes) ((pr.idx 0 i1 16)+12)) (pr.aH (U (ab (some true)) x0.nodes) ((pr.idx 0 i1 16)+13)) (pr.aC (U (ab (some true)) x0.nodes) ((pr.idx 0 i1 16)+13)) (pr.aE (U (ab (some true)) x0.nodes) ((pr.idx 0 i1 16)+13)) (pr.aH (U (ab (some true)) x0.nodes) ((pr.idx 0 i1 16)+14)) (pr.aC (U (ab (some true)) x0.nodes) ((pr.idx 0 i1 16)+14)) (pr.aE (U (ab (some true)) x0.nodes) ((pr.idx 0 i1 16)+14)) (pr.aH (U (ab (some true)) x0.nodes) ((pr.idx 0 i1 16)+15)) (pr.aC (U (ab (some true)) x0.nodes) ((pr.idx 0 i1 16)+15)) (pr.aE (U (ab (some true)) x0.nodes) ((pr.idx 0 i1 16)+15)))) none) none) (some ((.bool true),[.undef]))):=by kernel_rfl
theorem Ej (x0:ai) (i0:Int) (i1:Int) (i2:Int) (i3:Int) (b4:Bool) (b5:Bool) (g6:Bool) (n7:Nat) (c8:List D) (g9:Bool) (nQ:Nat) (nR:List D) (g12:Bool) (gO:Nat) (gD:List D) (jb:Bool) (nX:Bool) (nT:Bool) (i18:Int) (g19:Bool) (AK:Nat) (AL:List D) (g22:Bool) (xY:Nat) (xZ:List D) (x4:Bool) (sa:Nat) (rH:List D) (ue:Bool) (n29:Nat) (uf:List D) (ug:Bool) (n32:Nat) (x5:List D) (x6:Bool) (n35:Nat) (x7:List D):bJ pr cv J 74 Tryz.f74 [.undef] 4 (mY x0 i0 i1 i2 i3 b4 b5 g6 n7 c8 g9 nQ nR g12 gO gD jb nX nT i18 g19 AK AL g22 xY xZ x4 sa rH ue n29 uf ug n32 x5 x6 n35 x7)=
    let y1:List D:=(pr.aE (U (ab (some true)) x0.nodes) ((pr.idx 0 i2 16)+12))
    let y2:Option Rz:=(J 4 (mY x0 i0 i1 (pr.ar .add .i64 i2 1) i3 b4 b5 g6 n7 c8 g9 nQ nR g12 gO gD jb nX nT i18 g19 AK AL g22 xY xZ x4 sa rH ue n29 uf ug n32 x5 x6 n35 x7))
    (br (pr.lt i2 3) (br (pr.bg i2 sa) (br (br (pr.cd rH (pr.idx 0 i2 1)) true false) (br (pr.bw rH (pr.idx 0 i2 1)) (br (pr.bg i2 x0.nodes.length) (br (br (pr.aN 1 (U (ab (some true)) x0.nodes) ((pr.idx 0 i2 16)+12)) true false) (br (pr.bg i0 (pr.aC (U (ab (some true)) x0.nodes) ((pr.idx 0 i2 16)+12))) (br (br (pr.cd y1 (pr.idx 0 i0 1)) true false) (br (br (pr.bw y1 (pr.idx 0 i0 1)) false true) (some ((.bool false),[.undef])) y2) none) none) none) none) y2) none) none) (J 2 (kg x0 i1 (pr.ar .add .i64 i0 1)))):=by kernel_rfl
end
theorem Gu (w:ai) (a:Int):Cm 125 [.int .i64 a,.cr (bn (some true) w) 0] (.bool (decide ((w.log.length:Int) < a)),[.undef,.undef]):=by
  refine Cm.step Gs [.undef,.undef] fun J hJ=>?_
  rw [Gt]
  rfl
@[go_sem] theorem acL (w:ai) (g:Bool) (n:Nat) (xs:List Int) (hn:n=xs.length) (hb:xs.length < 4611686018427387904) (t:bS Rz):aU 124 [.sl (some g) 1 n (ints xs),.fn 125 [.cr (bn (some true) w) 0]] t=feed t [.bool (xs.any fun a=>decide ((w.log.length:Int) < a))]:=by
  subst hn
  exact bh (KU _ _ g xs _ hb fun i hi t=>bh (Gu w _) (by kernel_rfl) t) (by kernel_rfl) t
structure KX (w:ai) (i:Nat):Prop where
  ok:eg (w.nodes.getD i n0)=true
  id:(w.nodes.getD i n0).id=i
  last:(w.nodes.getD i n0).mt.last≤w.log.length
  cells:∀ x∈(w.nodes.getD i n0).image,x≤(w.log.length:Int)
def Gv (w:ai) (i k:Nat):Prop:=(w.nodes.getD i n0).conn.getD k false=true→(w.nodes.getD k n0).conn.getD i false=true
structure KY (w:ai):Prop where
  len:w.nodes.length=3
  nd:∀ i,i < 3→KX w i
  sy:∀ i k,i < 3→k < 3→Gv w i k
open Classical in
noncomputable def p8 (w:ai):Bool:=decide (KY w)
open Classical in
theorem agL {w:ai} (h:p8 w=true):KY w:=by unfold p8 at h; exact of_decide_eq_true h
open Classical in
theorem D9 {w:ai} (h:¬KY w):(some ((.bool false,[.undef]):Rz))=some (.bool (p8 w),[.undef]):=by unfold p8; rw [decide_eq_false h]
open Classical in
theorem afG {w:ai} (h:KY w):(some ((.bool true,[.undef]):Rz))=some (.bool (p8 w),[.undef]):=by unfold p8; rw [decide_eq_true h]
theorem S8 {l:Int} {xs:List Int}:(xs.any fun a=>decide (l < a))=true↔¬∀ x∈xs,x≤l:=by
  simp
theorem KZ (w:ai) (q0:bW w):Cm 74 [.agg (bn (some true) w)] (.bool (p8 w),[.undef]):=by
  refine Cm.step KV [.undef] fun J hJ=>?_
  rw [KW]
  have b1:=q0.nodes
  simp (disch:=first | assumption | omega) only [go_sem]
  refine bq (fun h3=>?_) (fun h=>D9 fun o=>h (by have:=o.len; omega))
  have Hc:w.nodes.length=3:=by omega
  refine hJ _ _ ?_
  have second:(∀ i,i < 3→KX w i)→WP 74 Tryz.f74 [.undef] 2 (kg w w.nodes.length ((0:Nat):Int)) (.bool (p8 w),[.undef]):=by
    intro nd
    refine WP.L6 (H:=fun i:Nat=>kg w w.nodes.length (i:Int)) 3 (fun i=>∀ a,a < i→∀ k,k < 3→Gv w a k) (fun i hi inv next=>?_) 0 (by omega) (fun a h=>absurd h (by omega))
    refine WP.step fun J hJ=>?_
    rw [Ei]
    simp (disch:=first | assumption | omega) only [go_sem]
    refine bq (fun hl=>?_) (fun hl=>afG ⟨Hc,nd,fun a k ha hk=>inv a (by omega) k hk⟩)
    simp (disch:=first | assumption | omega) only [go_sem]
    refine hJ _ _ ?_
    refine WP.up (H:=fun k:Nat=>mY w i w.nodes.length k _ _ _ _ _ _ _ _ _ _ _ _ _ _ _ _ _ _ _ _ _ _ _ _ _ _ _ _ _ _ _ _ _ _) 3 (fun k=>∀ b,b < k→Gv w i b) (fun k hk inv2 J hJ p9=>?_) 0 (by omega) (fun a h=>absurd h (by omega))
    rw [Ej]
    have ci:=(fI (nd i (by omega)).ok).conn
    simp (disch:=first | assumption | omega) only [go_sem]
    refine bq (fun Hi=>?_) (fun Hi=>?_)
    · have ck:=(fI (nd k (by omega)).ok).conn
      simp (disch:=first | assumption | omega) only [go_sem]
      refine gF (fun hc=>?_) (fun hc=>?_)
      · simp (disch:=first | assumption | omega) only [go_sem]
        refine gF (fun hd=>?_) (fun hd=>D9 fun o=>hd (o.sy i k (by omega) (by omega) hc))
        simp (disch:=first | assumption | omega) only [go_sem]
        refine p9 (by omega) fun b hb=>?_
        by_cases e:b=k
        · rw [e]; exact fun _=>hd
        · exact inv2 b (by omega)
      · simp (disch:=first | assumption | omega) only [go_sem]
        refine p9 (by omega) fun b hb=>?_
        by_cases e:b=k
        · rw [e]; exact fun h=>absurd h hc
        · exact inv2 b (by omega)
    · refine hJ _ _ (next (by omega) fun a ha b hb=>?_)
      by_cases e:a=i
      · rw [e]; exact inv2 b (by omega)
      · exact inv a (by omega) b hb
  refine WP.up (H:=fun i:Nat=>mX w w.nodes.length (i:Int)) 3 (fun i=>∀ a,a < i→KX w a) (fun i hi inv J hJ next=>?_) 0 (by omega) (fun a h=>absurd h (by omega))
  rw [Eh]
  simp (disch:=first | assumption | omega) only [go_sem]
  refine bq (fun hl=>?_) (fun hl=>hJ _ _ (second fun a ha=>inv a (by omega)))
  have oi:=QV q0 (show i < w.nodes.length by omega)
  have oim:=oi.image
  simp (disch:=first | assumption | omega) only [go_sem]
  refine gF (fun hn=>?_) (fun h=>D9 fun o=>h (o.nd i (by omega)).ok)
  simp (disch:=first | assumption | omega) only [go_sem]
  refine bq (fun hd=>?_) (fun h=>D9 fun o=>h (o.nd i (by omega)).id)
  simp (disch:=first | assumption | omega) only [go_sem]
  refine bq (fun h=>D9 fun o=>absurd (o.nd i (by omega)).last (by omega)) (fun hla=>?_)
  simp (disch:=first | assumption | omega) only [go_sem]
  refine gF (fun h=>D9 fun o=>S8.1 h (o.nd i (by omega)).cells) (fun hc=>?_)
  simp (disch:=first | assumption | omega) only [go_sem]
  refine next (by omega) fun a ha=>?_
  by_cases e:a=i
  · rw [e]; exact ⟨hn,hd,by omega,Classical.not_not.1 fun x=>hc (S8.2 x)⟩
  · exact inv a (by omega)
@[go_sem] theorem acM (w:ai) (q0:bW w) (t:bS Rz):aU 74 [.agg (fm (some true) w)] t=feed t [.bool (p8 w)]:=by
  exact bR (r:=.bool (p8 w)) (s:=.bool) (ss:=[.undef]) (KZ w q0) (by kernel_rfl) (by simp only [av,bE,aY,bF,bG,ah,ak,Bool.and_self]) (by simp only [ah,aM,av,ak,Bool.and_self]) (by first | rfl | simp only [au,aW,aV,bB,bC,aX,bD,Bool.and_self]) (by first | rfl | simp only [List.all_cons,List.all_nil,au,Bool.and_self]) t
end Go.Proofs.YtockoilcnmljiaaGreat
namespace Go.Proofs.YtockoilcnmljiaaGreat
set_option maxRecDepth 100000
section
variable (pr:dr) (cv:Cv Rz) (J:Nat→St→Option Rz)
def mZ (x0:ai) (i0:Int) (i1:Int):St:=(St.mk [(1,(.ptr 1 [] 0)),(31,(.sl (some true) 3 x0.ay.length (U (aw (some true)) x0.ay))),(32,(.int .i64 i0)),(33,(.int .i64 i1))] [(1,[(.sl (some true) 16 x0.nodes.length (U (ab (some true)) x0.nodes)),(.sl (some true) 3 x0.ay.length (U (aw (some true)) x0.ay)),(.sl (some true) 2 x0.log.length (U (aK (some true)) x0.log)),(sI (some true) x0.safe),(.int .i64 x0.gen)])] [] 0)
def kh (x0:ai) (i0:Int) (i1:Int):St:=(St.mk [(1,(.ptr 1 [] 0)),(76,(.sl (some true) 2 x0.log.length (U (aK (some true)) x0.log))),(77,(.int .i64 i0)),(78,(.int .i64 i1))] [(1,[(.sl (some true) 16 x0.nodes.length (U (ab (some true)) x0.nodes)),(.sl (some true) 3 x0.ay.length (U (aw (some true)) x0.ay)),(.sl (some true) 2 x0.log.length (U (aK (some true)) x0.log)),(sI (some true) x0.safe),(.int .i64 x0.gen)])] [] 0)
def ki (x0:ai) (i0:Int) (i1:Int):St:=(St.mk [(1,(.ptr 1 [] 0)),(96,(sI (some true) x0.safe)),(97,(.int .i64 i0)),(98,(.int .i64 i1))] [(1,[(.sl (some true) 16 x0.nodes.length (U (ab (some true)) x0.nodes)),(.sl (some true) 3 x0.ay.length (U (aw (some true)) x0.ay)),(.sl (some true) 2 x0.log.length (U (aK (some true)) x0.log)),(sI (some true) x0.safe),(.int .i64 x0.gen)])] [] 0)
theorem K0:Told cfg Tryz.prog 23 Tryz.f23:=⟨by kernel_rfl,Tryz.func23,by kernel_rfl⟩
theorem K1 (x0:ai):aR pr cv J 23 Tryz.f23 [(.agg (bn (some true) x0))]=
    let y1:Option (D × List D):=(some ((.bool false),[.undef]))
    (cv 74 [(.agg [(.sl (some true) 16 x0.nodes.length (U (ab (some true)) x0.nodes)),(.sl (some true) 3 x0.ay.length (U (aw (some true)) x0.ay)),(.sl (some true) 2 x0.log.length (U (aK (some true)) x0.log)),(sI (some true) x0.safe),(.int .i64 x0.gen)])] (.bool (fun bK=>(.done (br (br bK false true) y1 (br (pr.lt 40 (pr.aS x0.ay.length)) y1 (br (pr.lt 200 (pr.aS x0.log.length)) y1 (cv 75 [(.int .i64 x0.gen),(.int .i64 2),(.int .i64 100000)] (.bool (fun eQ=>(.done (br (br eQ false true) y1 (J 0 (mZ x0 (pr.aS x0.ay.length) 0)))))))))))))):=by kernel_rfl
theorem Ek (x0:ai) (i0:Int) (i1:Int):bJ pr cv J 23 Tryz.f23 [.undef] 0 (mZ x0 i0 i1)=
    let y1:Int:=(pr.aO (U (aw (some true)) x0.ay) (pr.idx 0 i1 3))
    let y2:Option (D × List D):=(some ((.bool false),[.undef]))
    let y3:Int:=(pr.aO (U (aw (some true)) x0.ay) ((pr.idx 0 i1 3)+1))
    let y4:List D:=(pr.aE (U (ab (some true)) x0.nodes) ((pr.idx 0 y1 16)+12))
    let y5:Nat:=(pr.idx 0 y3 1)
    (br (pr.lt i1 i0) (br (pr.bg i1 x0.ay.length) (br (br (pr.bO .i64 (U (aw (some true)) x0.ay) (pr.idx 0 i1 3)) (br (pr.bO .i64 (U (aw (some true)) x0.ay) ((pr.idx 0 i1 3)+1)) (br (pr.aN 1 (U (aw (some true)) x0.ay) ((pr.idx 0 i1 3)+2)) true false) false) false) (cv 76 [(.int .i64 y1)] (.bool (fun bK=>(.done (br (br bK false true) y2 (cv 76 [(.int .i64 y3)] (.bool (fun eQ=>(.done (br (br eQ false true) y2 (br (pr.eq y1 y3) y2 (br (pr.bg y1 x0.nodes.length) (br (br (pr.aN 1 (U (ab (some true)) x0.nodes) ((pr.idx 0 y1 16)+12)) true false) (br (pr.bg y3 (pr.aC (U (ab (some true)) x0.nodes) ((pr.idx 0 y1 16)+12))) (br (br (pr.cd y4 y5) true false) (br (br (pr.bw y4 y5) false true) y2 (br (pr.lt 400 (pr.aS (pr.aC (U (aw (some true)) x0.ay) ((pr.idx 0 i1 3)+2)))) y2 (J 0 (mZ x0 i0 (pr.ar .add .i64 i1 1))))) none) none) none) none)))))))))))) none) none) (J 2 (kh x0 (pr.aS x0.log.length) 0))):=by kernel_rfl
theorem El (x0:ai) (i0:Int) (i1:Int):bJ pr cv J 23 Tryz.f23 [.undef] 2 (kh x0 i0 i1)=
    let y1:Option (D × List D):=(some ((.bool false),[.undef]))
    (br (pr.lt i1 i0) (br (pr.bg i1 x0.log.length) (br (br (pr.bO .i64 (U (aK (some true)) x0.log) (pr.idx 0 i1 2)) (br (pr.bO .i64 (U (aK (some true)) x0.log) ((pr.idx 0 i1 2)+1)) true false) false) (cv 77 [(.int .i64 (pr.aO (U (aK (some true)) x0.log) (pr.idx 0 i1 2)))] (.bool (fun bK=>(.done (br (br bK false true) y1 (cv 75 [(.int .i64 (pr.aO (U (aK (some true)) x0.log) ((pr.idx 0 i1 2)+1))),(.int .i64 0),(.int .i64 i1)] (.bool (fun eQ=>(.done (br (br eQ false true) y1 (J 2 (kh x0 i0 (pr.ar .add .i64 i1 1))))))))))))) none) none) (J 4 (ki x0 (pr.aS x0.safe.length) 0))):=by kernel_rfl
theorem Em (x0:ai) (i0:Int) (i1:Int):bJ pr cv J 23 Tryz.f23 [.undef] 4 (ki x0 i0 i1)=
    let y1:Option (D × List D):=(some ((.bool false),[.undef]))
    let y2:Option Rz:=(J 4 (ki x0 i0 (pr.ar .add .i64 i1 1)))
    (br (pr.lt i1 i0) (br (pr.bg i1 x0.safe.length) (br (br (pr.bO .i64 (ints x0.safe) (pr.idx 0 i1 1)) true false) (cv 75 [(.int .i64 (pr.aO (ints x0.safe) (pr.idx 0 i1 1))),(.int .i64 1),(.int .i64 (pr.aS x0.log.length))] (.bool (fun bK=>(.done (br (br bK false true) y1 (br (pr.lt 0 i1) (br (pr.bg (pr.ar .sub .i64 i1 1) x0.safe.length) (br (br (pr.bO .i64 (ints x0.safe) (pr.idx 0 (pr.ar .sub .i64 i1 1) 1)) true false) (br (pr.le (pr.aO (ints x0.safe) (pr.idx 0 i1 1)) (pr.aO (ints x0.safe) (pr.idx 0 (pr.ar .sub .i64 i1 1) 1))) y1 y2) none) none) y2)))))) none) none) (some ((.bool true),[.undef]))):=by kernel_rfl
def lY (x0:ai) (i0:Int):St:=(St.mk [(1,(.ptr 1 [] 0)),(3,(.int .i64 i0))] [(1,[(.sl (some true) 16 x0.nodes.length (U (ab (some true)) x0.nodes)),(.sl (some true) 3 x0.ay.length (U (aw (some true)) x0.ay)),(.sl (some true) 2 x0.log.length (U (aK (some true)) x0.log)),(sI (some true) x0.safe),(.int .i64 x0.gen)])] [] 0)
def lZ (x0:ai) (i0:Int) (i1:Int):St:=(St.mk [(1,(.ptr 1 [] 0)),(3,(.int .i64 i0)),(4,(.int .i64 i1))] [(1,[(.sl (some true) 16 x0.nodes.length (U (ab (some true)) x0.nodes)),(.sl (some true) 3 x0.ay.length (U (aw (some true)) x0.ay)),(.sl (some true) 2 x0.log.length (U (aK (some true)) x0.log)),(sI (some true) x0.safe),(.int .i64 x0.gen)])] [] 0)
def jy (x0:ai) (i0:Int):St:=(St.mk [(1,(.ptr 1 [] 0)),(5,(.int .i64 i0))] [(1,[(.sl (some true) 16 x0.nodes.length (U (ab (some true)) x0.nodes)),(.sl (some true) 3 x0.ay.length (U (aw (some true)) x0.ay)),(.sl (some true) 2 x0.log.length (U (aK (some true)) x0.log)),(sI (some true) x0.safe),(.int .i64 x0.gen)])] [] 0)
theorem I0:Told cfg Tryz.prog 70 Tryz.f70:=⟨by kernel_rfl,Tryz.func70,by kernel_rfl⟩
theorem I1 (x0:ai):aR pr cv J 70 Tryz.f70 [(.agg (bn (some true) x0))]=
    (J 0 (lY x0 0)):=by kernel_rfl
theorem Dd (x0:ai) (i0:Int):bJ pr cv J 70 Tryz.f70 [.undef] 0 (lY x0 i0)=
    (br (pr.lt i0 3) (J 2 (lZ x0 i0 0)) (J 4 (jy x0 0))):=by kernel_rfl
theorem De (x0:ai) (i0:Int) (i1:Int):bJ pr cv J 70 Tryz.f70 [.undef] 2 (lZ x0 i0 i1)=
    let y1:List D:=(pr.aE (U (ab (some true)) x0.nodes) ((pr.idx 0 i0 16)+12))
    let y2:List D:=(pr.aE (U (ab (some true)) x0.nodes) ((pr.idx 0 i1 16)+12))
    (br (pr.lt i1 3) (br (pr.bg i0 x0.nodes.length) (br (br (pr.aN 1 (U (ab (some true)) x0.nodes) ((pr.idx 0 i0 16)+12)) true false) (br (pr.bg i1 (pr.aC (U (ab (some true)) x0.nodes) ((pr.idx 0 i0 16)+12))) (br (br (pr.cd y1 (pr.idx 0 i1 1)) true false) (br (pr.bg i1 x0.nodes.length) (br (br (pr.aN 1 (U (ab (some true)) x0.nodes) ((pr.idx 0 i1 16)+12)) true false) (br (pr.bg i0 (pr.aC (U (ab (some true)) x0.nodes) ((pr.idx 0 i1 16)+12))) (br (br (pr.cd y2 (pr.idx 0 i0 1)) true false) (br (br (pr.beq (pr.bw y1 (pr.idx 0 i1 1)) (pr.bw y2 (pr.idx 0 i0 1))) false true) (some ((.bool false),[.undef])) (J 2 (lZ x0 i0 (pr.ar .add .i64 i1 1)))) none) none) none) none) none) none) none) none) (J 0 (lY x0 (pr.ar .add .i64 i0 1)))):=by kernel_rfl
theorem Df (x0:ai) (i0:Int):bJ pr cv J 70 Tryz.f70 [.undef] 4 (jy x0 i0)=
    let y1:Int:=(pr.aO (U (aw (some true)) x0.ay) (pr.idx 0 i0 3))
    let y2:Option (D × List D):=(some ((.bool false),[.undef]))
    let y3:Int:=(pr.aO (U (aw (some true)) x0.ay) ((pr.idx 0 i0 3)+1))
    let y4:List D:=(pr.aE (U (ab (some true)) x0.nodes) ((pr.idx 0 y1 16)+12))
    let y5:Nat:=(pr.idx 0 y3 1)
    (br (pr.lt i0 (pr.aS x0.ay.length)) (br (pr.bg i0 x0.ay.length) (br (br (pr.bO .i64 (U (aw (some true)) x0.ay) (pr.idx 0 i0 3)) (br (pr.bO .i64 (U (aw (some true)) x0.ay) ((pr.idx 0 i0 3)+1)) (br (pr.aN 1 (U (aw (some true)) x0.ay) ((pr.idx 0 i0 3)+2)) true false) false) false) (cv 69 [(.int .i64 y1),(.int .i64 0),(.int .i64 2)] (.bool (fun bK=>(.done (br (br bK false true) y2 (cv 69 [(.int .i64 y3),(.int .i64 0),(.int .i64 2)] (.bool (fun eQ=>(.done (br (br eQ false true) y2 (br (pr.eq y1 y3) y2 (br (pr.bg y1 x0.nodes.length) (br (br (pr.aN 1 (U (ab (some true)) x0.nodes) ((pr.idx 0 y1 16)+12)) true false) (br (pr.bg y3 (pr.aC (U (ab (some true)) x0.nodes) ((pr.idx 0 y1 16)+12))) (br (br (pr.cd y4 y5) true false) (br (br (pr.bw y4 y5) false true) y2 (br (pr.lt 400 (pr.aS (pr.aC (U (aw (some true)) x0.ay) ((pr.idx 0 i0 3)+2)))) y2 (J 4 (jy x0 (pr.ar .add .i64 i0 1))))) none) none) none) none)))))))))))) none) none) (some ((.bool (pr.le (pr.aS x0.ay.length) 40)),[.undef]))):=by kernel_rfl
def m8 (x0:ai) (i0:Int):St:=(St.mk [(1,(.ptr 1 [] 0)),(3,(.int .i64 i0))] [(1,[(.sl (some true) 16 x0.nodes.length (U (ab (some true)) x0.nodes)),(.sl (some true) 3 x0.ay.length (U (aw (some true)) x0.ay)),(.sl (some true) 2 x0.log.length (U (aK (some true)) x0.log)),(sI (some true) x0.safe),(.int .i64 x0.gen)])] [] 0)
def m9 (x0:ai) (i0:Int) (i1:Int) (i2:Int) (b3:Bool) (b4:Bool) (g5:Bool) (n6:Nat) (c7:List D) (g8:Bool) (n9:Nat) (rF:List D) (g11:Bool) (fF:Nat) (ga:List D) (xW:Bool) (jb:Bool) (nX:Bool) (i17:Int) (g18:Bool) (P8:Nat) (P9:List D) (g21:Bool) (n22:Nat) (c23:List D) (g24:Bool) (Fo:Nat) (yS:List D) (yT:Bool) (yU:Nat) (yV:List D) (yW:Bool) (n31:Nat) (Fp:List D) (Fq:Bool) (n34:Nat) (Fs:List D):St:=(St.mk [(1,(.ptr 1 [] 0)),(3,(.int .i64 i0)),(4,(.ptr 4 [] 0)),(5,(.int .i64 i1))] [(1,[(.sl (some true) 16 x0.nodes.length (U (ab (some true)) x0.nodes)),(.sl (some true) 3 x0.ay.length (U (aw (some true)) x0.ay)),(.sl (some true) 2 x0.log.length (U (aK (some true)) x0.log)),(sI (some true) x0.safe),(.int .i64 x0.gen)]),(4,[(.int .i64 i2),(.bool b3),(.bool b4),(.sl (some g5) 1 n6 c7),(.sl (some g8) 1 n9 rF),(.sl (some g11) 1 fF ga),(.bool xW),(.bool jb),(.bool nX),(.int .i64 i17),(.sl (some g18) 1 P8 P9),(.sl (some g21) 1 n22 c23),(.sl (some g24) 1 Fo yS),(.sl (some yT) 1 yU yV),(.sl (some yW) 1 n31 Fp),(.sl (some Fq) 1 n34 Fs)])] [] 0)
def kj (x0:ai) (i0:Int):St:=(St.mk [(1,(.ptr 1 [] 0)),(6,(.int .i64 i0))] [(1,[(.sl (some true) 16 x0.nodes.length (U (ab (some true)) x0.nodes)),(.sl (some true) 3 x0.ay.length (U (aw (some true)) x0.ay)),(.sl (some true) 2 x0.log.length (U (aK (some true)) x0.log)),(sI (some true) x0.safe),(.int .i64 x0.gen)])] [] 0)
def km (x0:ai) (i0:Int):St:=(St.mk [(1,(.ptr 1 [] 0)),(7,(.int .i64 i0))] [(1,[(.sl (some true) 16 x0.nodes.length (U (ab (some true)) x0.nodes)),(.sl (some true) 3 x0.ay.length (U (aw (some true)) x0.ay)),(.sl (some true) 2 x0.log.length (U (aK (some true)) x0.log)),(sI (some true) x0.safe),(.int .i64 x0.gen)])] [] 0)
theorem K2:Told cfg Tryz.prog 21 Tryz.f21:=⟨by kernel_rfl,Tryz.func21,by kernel_rfl⟩
theorem K3 (x0:ai):aR pr cv J 21 Tryz.f21 [(.agg (bn (some true) x0))]=
    let y1:Option (D × List D):=(some ((.bool false),[.undef]))
    (br (br (pr.eq (pr.aS x0.nodes.length) 3) false true) y1 (br (pr.lt 200 (pr.aS x0.log.length)) y1 (cv 69 [(.int .i64 x0.gen),(.int .i64 2),(.int .i64 100000)] (.bool (fun bK=>(.done (br (br bK false true) y1 (J 0 (m8 x0 0))))))))):=by kernel_rfl
theorem En (x0:ai) (i0:Int):bJ pr cv J 21 Tryz.f21 [.undef] 0 (m8 x0 i0)=
    let y1:Int:=(pr.aO (U (ab (some true)) x0.nodes) (pr.idx 0 i0 16))
    let y2:Option (D × List D):=(some ((.bool false),[.undef]))
    let y3:D:=(.int .i64 y1)
    let y4:D:=(.bool (pr.bw (U (ab (some true)) x0.nodes) ((pr.idx 0 i0 16)+1)))
    let y5:D:=(.bool (pr.bw (U (ab (some true)) x0.nodes) ((pr.idx 0 i0 16)+2)))
    let y6:Option Bool:=(some (pr.aH (U (ab (some true)) x0.nodes) ((pr.idx 0 i0 16)+3)))
    let y7:Nat:=(pr.aC (U (ab (some true)) x0.nodes) ((pr.idx 0 i0 16)+3))
    let y8:List D:=(pr.aE (U (ab (some true)) x0.nodes) ((pr.idx 0 i0 16)+3))
    let y9:Option Bool:=(some (pr.aH (U (ab (some true)) x0.nodes) ((pr.idx 0 i0 16)+4)))
    let W5:Nat:=(pr.aC (U (ab (some true)) x0.nodes) ((pr.idx 0 i0 16)+4))
    let W6:List D:=(pr.aE (U (ab (some true)) x0.nodes) ((pr.idx 0 i0 16)+4))
    let y12:Option Bool:=(some (pr.aH (U (ab (some true)) x0.nodes) ((pr.idx 0 i0 16)+5)))
    let W7:Nat:=(pr.aC (U (ab (some true)) x0.nodes) ((pr.idx 0 i0 16)+5))
    let W8:List D:=(pr.aE (U (ab (some true)) x0.nodes) ((pr.idx 0 i0 16)+5))
    let y15:D:=(.bool (pr.bw (U (ab (some true)) x0.nodes) ((pr.idx 0 i0 16)+6)))
    let y16:D:=(.bool (pr.bw (U (ab (some true)) x0.nodes) ((pr.idx 0 i0 16)+7)))
    let y17:D:=(.bool (pr.bw (U (ab (some true)) x0.nodes) ((pr.idx 0 i0 16)+8)))
    let y18:Int:=(pr.aO (U (ab (some true)) x0.nodes) ((pr.idx 0 i0 16)+9))
    let y19:D:=(.int .i64 y18)
    let y20:Option Bool:=(some (pr.aH (U (ab (some true)) x0.nodes) ((pr.idx 0 i0 16)+10)))
    let y21:Nat:=(pr.aC (U (ab (some true)) x0.nodes) ((pr.idx 0 i0 16)+10))
    let y22:List D:=(pr.aE (U (ab (some true)) x0.nodes) ((pr.idx 0 i0 16)+10))
    let y23:Option Bool:=(some (pr.aH (U (ab (some true)) x0.nodes) ((pr.idx 0 i0 16)+11)))
    let y24:Nat:=(pr.aC (U (ab (some true)) x0.nodes) ((pr.idx 0 i0 16)+11))
    let y25:List D:=(pr.aE (U (ab (some true)) x0.nodes) ((pr.idx 0 i0 16)+11))
    let y26:Option Bool:=(some (pr.aH (U (ab (some true)) x0.nodes) ((pr.idx 0 i0 16)+12)))
    let y27:Nat:=(pr.aC (U (ab (some true)) x0.nodes) ((pr.idx 0 i0 16)+12))
    let y28:List D:=(pr.aE (U (ab (some true)) x0.nodes) ((pr.idx 0 i0 16)+12))
    let y29:Option Bool:=(some (pr.aH (U (ab (some true)) x0.nodes) ((pr.idx 0 i0 16)+13)))
    let y30:Nat:=(pr.aC (U (ab (some true)) x0.nodes) ((pr.idx 0 i0 16)+13))
    let y31:List D:=(pr.aE (U (ab (some true)) x0.nodes) ((pr.idx 0 i0 16)+13))
    let y32:Option Bool:=(some (pr.aH (U (ab (some true)) x0.nodes) ((pr.idx 0 i0 16)+14)))
    let y33:Nat:=(pr.aC (U (ab (some true)) x0.nodes) ((pr.idx 0 i0 16)+14))
    let y34:List D:=(pr.aE (U (ab (some true)) x0.nodes) ((pr.idx 0 i0 16)+14))
    let y35:Option Bool:=(some (pr.aH (U (ab (some true)) x0.nodes) ((pr.idx 0 i0 16)+15)))
    let y36:Nat:=(pr.aC (U (ab (some true)) x0.nodes) ((pr.idx 0 i0 16)+15))
    let y37:List D:=(pr.aE (U (ab (some true)) x0.nodes) ((pr.idx 0 i0 16)+15))
    (br (pr.lt i0 3) (br (pr.bg i0 x0.nodes.length) (br (br (pr.bO .i64 (U (ab (some true)) x0.nodes) (pr.idx 0 i0 16)) (br (pr.cd (U (ab (some true)) x0.nodes) ((pr.idx 0 i0 16)+1)) (br (pr.cd (U (ab (some true)) x0.nodes) ((pr.idx 0 i0 16)+2)) (br (pr.aN 1 (U (ab (some true)) x0.nodes) ((pr.idx 0 i0 16)+3)) (br (pr.aN 1 (U (ab (some true)) x0.nodes) ((pr.idx 0 i0 16)+4)) (br (pr.aN 1 (U (ab (some true)) x0.nodes) ((pr.idx 0 i0 16)+5)) (br (pr.cd (U (ab (some true)) x0.nodes) ((pr.idx 0 i0 16)+6)) (br (pr.cd (U (ab (some true)) x0.nodes) ((pr.idx 0 i0 16)+7)) (br (pr.cd (U (ab (some true)) x0.nodes) ((pr.idx 0 i0 16)+8)) (br (pr.bO .i64 (U (ab (some true)) x0.nodes) ((pr.idx 0 i0 16)+9)) (br (pr.aN 1 (U (ab (some true)) x0.nodes) ((pr.idx 0 i0 16)+10)) (br (pr.aN 1 (U (ab (some true)) x0.nodes) ((pr.idx 0 i0 16)+11)) (br (pr.aN 1 (U (ab (some true)) x0.nodes) ((pr.idx 0 i0 16)+12)) (br (pr.aN 1 (U (ab (some true)) x0.nodes) ((pr.idx 0 i0 16)+13)) (br (pr.aN 1 (U (ab (some true)) x0.nodes) ((pr.idx 0 i0 16)+14)) (br (pr.aN 1 (U (ab (some true)) x0.nodes) ((pr.idx 0 i0 16)+15)) true false) false) false) false) false) false) false) false) false) false) false) false) false) false) false) false) (br (br (pr.eq y1 i0) false true) y2 (cv 41 [(.agg [y3,y4,y5,(.sl y6 1 y7 y8),(.sl y9 1 W5 W6),(.sl y12 1 W7 W8),y15,y16,y17,y19,(.sl y20 1 y21 y22),(.sl y23 1 y24 y25),(.sl y26 1 y27 y28),(.sl y29 1 y30 y31),(.sl y32 1 y33 y34),(.sl y35 1 y36 y37)])] (.bool (fun bK=>(.done (br (br bK false true) y2 (br (pr.lt (pr.aS x0.log.length) y18) y2 (J 2 (m9 x0 i0 0 y1 (pr.bw (U (ab (some true)) x0.nodes) ((pr.idx 0 i0 16)+1)) (pr.bw (U (ab (some true)) x0.nodes) ((pr.idx 0 i0 16)+2)) (pr.aH (U (ab (some true)) x0.nodes) ((pr.idx 0 i0 16)+3)) y7 y8 (pr.aH (U (ab (some true)) x0.nodes) ((pr.idx 0 i0 16)+4)) W5 W6 (pr.aH (U (ab (some true)) x0.nodes) ((pr.idx 0 i0 16)+5)) W7 W8 (pr.bw (U (ab (some true)) x0.nodes) ((pr.idx 0 i0 16)+6)) (pr.bw (U (ab (some true)) x0.nodes) ((pr.idx 0 i0 16)+7)) (pr.bw (U (ab (some true)) x0.nodes) ((pr.idx 0 i0 16)+8)) y18 (pr.aH (U (ab (some true)) x0.nodes) ((pr.idx 0 i0 16)+10)) y21 y22 (pr.aH (U (ab (some true)) x0.nodes) ((pr.idx 0 i0 16)+11)) y24 y25 (pr.aH (U (ab (some true)) x0.nodes) ((pr.idx 0 i0 16)+12)) y27 y28 (pr.aH (U (ab (some true)) x0.nodes) ((pr.idx 0 i0 16)+13)) y30 y31 (pr.aH (U (ab (some true)) x0.nodes) ((pr.idx 0 i0 16)+14)) y33 y34 (pr.aH (U (ab (some true)) x0.nodes) ((pr.idx 0 i0 16)+15)) y36 y37))))))))) none) none) (J 4 (kj x0 0))):=by kernel_rfl
theorem Eo (x0:ai) (i0:Int) (i1:Int) (i2:Int) (b3:Bool) (b4:Bool) (g5:Bool) (n6:Nat) (c7:List D) (g8:Bool) (n9:Nat) (rF:List D) (g11:Bool) (fF:Nat) (ga:List D) (xW:Bool) (jb:Bool) (nX:Bool) (i17:Int) (g18:Bool) (P8:Nat) (P9:List D) (g21:Bool) (n22:Nat) (c23:List D) (g24:Bool) (Fo:Nat) (yS:List D) (yT:Bool) (yU:Nat) (yV:List D) (yW:Bool) (n31:Nat) (Fp:List D) (Fq:Bool) (n34:Nat) (Fs:List D):bJ pr cv J 21 Tryz.f21 [.undef] 2 (m9 x0 i0 i1 i2 b3 b4 g5 n6 c7 g8 n9 rF g11 fF ga xW jb nX i17 g18 P8 P9 g21 n22 c23 g24 Fo yS yT yU yV yW n31 Fp Fq n34 Fs)=
    (br (pr.lt i1 8) (br (pr.bg i1 n6) (br (br (pr.bO .i64 c7 (pr.idx 0 i1 1)) true false) (br (pr.lt (pr.aS x0.log.length) (pr.aO c7 (pr.idx 0 i1 1))) (some ((.bool false),[.undef])) (J 2 (m9 x0 i0 (pr.ar .add .i64 i1 1) i2 b3 b4 g5 n6 c7 g8 n9 rF g11 fF ga xW jb nX i17 g18 P8 P9 g21 n22 c23 g24 Fo yS yT yU yV yW n31 Fp Fq n34 Fs))) none) none) (J 0 (m8 x0 (pr.ar .add .i64 i0 1)))):=by kernel_rfl
theorem Ep (x0:ai) (i0:Int):bJ pr cv J 21 Tryz.f21 [.undef] 4 (kj x0 i0)=
    let y1:Option (D × List D):=(some ((.bool false),[.undef]))
    (br (pr.lt i0 (pr.aS x0.log.length)) (br (pr.bg i0 x0.log.length) (br (br (pr.bO .i64 (U (aK (some true)) x0.log) (pr.idx 0 i0 2)) true false) (cv 69 [(.int .i64 (pr.aO (U (aK (some true)) x0.log) (pr.idx 0 i0 2))),(.int .i64 0),(.int .i64 7)] (.bool (fun bK=>(.done (br (br bK false true) y1 (br (pr.bg i0 x0.log.length) (br (br (pr.bO .i64 (U (aK (some true)) x0.log) ((pr.idx 0 i0 2)+1)) true false) (cv 69 [(.int .i64 (pr.aO (U (aK (some true)) x0.log) ((pr.idx 0 i0 2)+1))),(.int .i64 0),(.int .i64 i0)] (.bool (fun eQ=>(.done (br (br eQ false true) y1 (J 4 (kj x0 (pr.ar .add .i64 i0 1)))))))) none) none)))))) none) none) (J 6 (km x0 0))):=by kernel_rfl
theorem Er (x0:ai) (i0:Int):bJ pr cv J 21 Tryz.f21 [.undef] 6 (km x0 i0)=
    let y1:Bool:=(br (pr.bO .i64 (ints x0.safe) (pr.idx 0 i0 1)) true false)
    let y2:Option (D × List D):=(some ((.bool false),[.undef]))
    let y3:Option Rz:=(J 6 (km x0 (pr.ar .add .i64 i0 1)))
    (br (pr.lt i0 (pr.aS x0.safe.length)) (br (pr.bg i0 x0.safe.length) (br y1 (cv 69 [(.int .i64 (pr.aO (ints x0.safe) (pr.idx 0 i0 1))),(.int .i64 1),(.int .i64 (pr.aS x0.log.length))] (.bool (fun bK=>(.done (br (br bK false true) y2 (br (pr.lt 0 i0) (br (pr.bg (pr.ar .sub .i64 i0 1) x0.safe.length) (br (br (pr.bO .i64 (ints x0.safe) (pr.idx 0 (pr.ar .sub .i64 i0 1) 1)) true false) (br (pr.bg i0 x0.safe.length) (br y1 (br (pr.le (pr.aO (ints x0.safe) (pr.idx 0 i0 1)) (pr.aO (ints x0.safe) (pr.idx 0 (pr.ar .sub .i64 i0 1) 1))) y2 y3) none) none) none) none) y3)))))) none) none) (cv 70 [(.agg [(.sl (some true) 16 x0.nodes.length (U (ab (some true)) x0.nodes)),(.sl (some true) 3 x0.ay.length (U (aw (some true)) x0.ay)),(.sl (some true) 2 x0.log.length (U (aK (some true)) x0.log)),(sI (some true) x0.safe),(.int .i64 x0.gen)])] (.bool (fun eQ=>(.done (some ((.bool eQ),[.undef]))))))):=by kernel_rfl
end
structure K4 (w:ai) (x:dm):Prop where
  src:0≤x.src∧x.src≤2
  dst:0≤x.dst∧x.dst≤2
  ne:¬x.src=x.dst
  conn:(w.nodes.getD x.src.toNat n0).conn.getD x.dst.toNat false=true
  len:x.bytes.length≤400
structure QW (x:fg) (i:Nat):Prop where
  cell:0≤x.cell∧x.cell≤7
  up:0≤x.up∧x.up≤i
structure Zs (w:ai) (i:Nat):Prop where
  wa:1≤w.safe.getD i 0∧w.safe.getD i 0≤w.log.length
  up:0 < (i:Int)→¬w.safe.getD i 0≤w.safe.getD (i - 1) 0
structure Zt (w:ai):Prop where
  sy:∀ i k,i < 3→k < 3→Gv w i k
  wr:∀ i,i < w.ay.length→K4 w (w.ay.getD i w0)
  ay:(w.ay.length:Int)≤40
structure x8 (w:ai):Prop where
  ns:KY w
  ay:(w.ay.length:Int)≤40
  log:(w.log.length:Int)≤200
  gen:2≤w.gen∧w.gen≤100000
  wr:∀ i,i < w.ay.length→K4 w (w.ay.getD i w0)
  rc:∀ i,i < w.log.length→QW (w.log.getD i r0) i
  sf:∀ i,i < w.safe.length→Zs w i
open Classical in
noncomputable def oT (p:Prop):Bool:=decide p
open Classical in
theorem Oh {p:Prop} (h:p):oT p=true:=by unfold oT; exact decide_eq_true h
open Classical in
theorem aaA {p:Prop} (h:¬p):oT p=false:=by unfold oT; exact decide_eq_false h
open Classical in
theorem afI {p:Prop} (h:oT p=true):p:=by unfold oT at h; exact of_decide_eq_true h
theorem afJ {p q:Prop} (h:p↔q):oT p=oT q:=by rw [propext h]
theorem eH {p:Prop} {l:List D} (h:¬p):(some ((.bool false,l):Rz))=some (.bool (oT p),l):=by rw [aaA h]
theorem As {p:Prop} {l:List D} (h:p):(some ((.bool true,l):Rz))=some (.bool (oT p),l):=by rw [Oh h]
noncomputable def gX (w:ai):Bool:=oT (x8 w)
noncomputable def Dg (w:ai):Bool:=oT (Zt w)
theorem pT {w:ai} (h:gX w=true):x8 w:=afI h
open Classical in
theorem agM {w:ai} (h:KY w):p8 w=true:=by unfold p8; exact decide_eq_true h
theorem okW {w:ai} (ok:bW w) {i:Nat} (h:i < w.ay.length):jw (w.ay.getD i w0):=ok.yi _ (o8 h)
theorem dk {p:Nat→Prop} {i:Nat} (h:∀ a,a < i→p a) (hi:p i):∀ a,a < i+1→p a:=by
  intro a ha
  by_cases e:a=i
  · rw [e]; exact hi
  · exact h a (by omega)
theorem K5 (w:ai) (q0:bW w):Cm 23 [.agg (bn (some true) w)] (.bool (gX w),[.undef]):=by
  unfold gX
  have b1:=q0.nodes
  have b2:=q0.ay
  have b3:=q0.log
  have b4:=q0.safe
  refine Cm.step K0 [.undef] fun J hJ=>?_
  rw [K1]
  try simp (disch:=first | assumption | omega) only [go_sem]
  refine gF (fun h=>?_) (fun h=>eH fun o=>h (agM o.ns))
  have ns:=agL h
  have nl:=ns.len
  try simp (disch:=first | assumption | omega) only [go_sem]
  refine bq (fun h=>eH fun o=>absurd o.ay (by omega)) (fun h1=>?_)
  try simp (disch:=first | assumption | omega) only [go_sem]
  refine bq (fun h=>eH fun o=>absurd o.log (by omega)) (fun h2=>?_)
  try simp (disch:=first | assumption | omega) only [go_sem]
  refine bq (fun h3=>?_) (fun h=>eH fun o=>h o.gen)
  have UC:(∀ i,i < w.ay.length→K4 w (w.ay.getD i w0))→(∀ i,i < w.log.length→QW (w.log.getD i r0) i)→WP 23 Tryz.f23 [.undef] 4 (ki w w.safe.length ((0:Nat):Int)) (.bool (oT (x8 w)),[.undef]):=by
    intro wr rc
    refine WP.up (H:=fun i:Nat=>ki w w.safe.length (i:Int)) w.safe.length (fun i=>∀ a,a < i→Zs w a) (fun i hi inv J hJ next=>?_) 0 (by omega) (fun a h=>absurd h (by omega))
    rw [Em]
    try simp (disch:=first | assumption | omega) only [go_sem]
    refine bq (fun hl=>?_) (fun hl=>As ⟨ns,by omega,by omega,h3,wr,rc,fun a ha=>inv a (by omega)⟩)
    try simp (disch:=first | assumption | omega) only [go_sem]
    refine bq (fun hr=>?_) (fun h=>eH fun o=>h (o.sf i (by omega)).wa)
    try simp (disch:=first | assumption | omega) only [go_sem]
    refine bq (fun hp=>?_) (fun hp=>?_)
    · try simp (disch:=first | assumption | omega) only [go_sem]
      rw [show ((i:Int) - 1).toNat=i - 1 by omega]
      refine bq (fun h=>eH fun o=>(o.sf i (by omega)).up hp h) (fun hu=>?_)
      exact next (by omega) (dk inv ⟨hr,fun _=>hu⟩)
    · try simp (disch:=first | assumption | omega) only [go_sem]
      exact next (by omega) (dk inv ⟨hr,fun h=>absurd h hp⟩)
  have second:(∀ i,i < w.ay.length→K4 w (w.ay.getD i w0))→WP 23 Tryz.f23 [.undef] 2 (kh w w.log.length ((0:Nat):Int)) (.bool (oT (x8 w)),[.undef]):=by
    intro wr
    refine WP.up (H:=fun i:Nat=>kh w w.log.length (i:Int)) w.log.length (fun i=>∀ a,a < i→QW (w.log.getD a r0) a) (fun i hi inv J hJ next=>?_) 0 (by omega) (fun a h=>absurd h (by omega))
    rw [El]
    try simp (disch:=first | assumption | omega) only [go_sem]
    refine bq (fun hl=>?_) (fun hl=>hJ _ _ (UC wr fun a ha=>inv a (by omega)))
    try simp (disch:=first | assumption | omega) only [go_sem]
    refine bq (fun hr=>?_) (fun h=>eH fun o=>h (o.rc i (by omega)).cell)
    try simp (disch:=first | assumption | omega) only [go_sem]
    refine bq (fun hu=>?_) (fun h=>eH fun o=>h (o.rc i (by omega)).up)
    try simp (disch:=first | assumption | omega) only [go_sem]
    exact next (by omega) (dk inv ⟨hr,hu⟩)
  refine hJ _ _ ?_
  refine WP.up (H:=fun i:Nat=>mZ w w.ay.length (i:Int)) w.ay.length (fun i=>∀ a,a < i→K4 w (w.ay.getD a w0)) (fun i hi inv J hJ next=>?_) 0 (by omega) (fun a h=>absurd h (by omega))
  rw [Ek]
  try simp (disch:=first | assumption | omega) only [go_sem]
  refine bq (fun hl=>?_) (fun hl=>hJ _ _ (second fun a ha=>inv a (by omega)))
  have ow:=okW q0 (show i < w.ay.length by omega)
  try simp (disch:=first | assumption | omega) only [go_sem]
  refine bq (fun hs=>?_) (fun h=>eH fun o=>h (o.wr i (by omega)).src)
  try simp (disch:=first | assumption | omega) only [go_sem]
  refine bq (fun hd=>?_) (fun h=>eH fun o=>h (o.wr i (by omega)).dst)
  try simp (disch:=first | assumption | omega) only [go_sem]
  refine bq (fun h=>eH fun o=>(o.wr i (by omega)).ne h) (fun hn=>?_)
  have cs:=(fI (ns.nd (w.ay.getD i w0).src.toNat (by omega)).ok).conn
  try simp (disch:=first | assumption | omega) only [go_sem]
  refine gF (fun hc=>?_) (fun h=>eH fun o=>h (o.wr i (by omega)).conn)
  try simp (disch:=first | assumption | omega) only [go_sem]
  refine bq (fun h=>eH fun o=>absurd (o.wr i (by omega)).len (by omega)) (fun hb=>?_)
  try simp (disch:=first | assumption | omega) only [go_sem]
  exact next (by omega) (dk inv ⟨hs,hd,hn,hc,by omega⟩)
@[go_sem] theorem acN (w:ai) (q0:bW w) (t:bS Rz):aU 23 [.agg (fm (some true) w)] t=feed t [.bool (gX w)]:=by
  exact bR (r:=.bool (gX w)) (s:=.bool) (ss:=[.undef]) (K5 w q0) (by kernel_rfl) (by simp only [av,bE,aY,bF,bG,ah,ak,Bool.and_self]) (by simp only [ah,aM,av,ak,Bool.and_self]) (by first | rfl | simp only [au,aW,aV,bB,bC,aX,bD,Bool.and_self]) (by first | rfl | simp only [List.all_cons,List.all_nil,au,Bool.and_self]) t
theorem afK {w:ai} {i k:Nat} (hi:i < 3) (hk:k < 3) (o:∀ i k,i < 3→k < 3→Gv w i k):(w.nodes.getD i n0).conn.getD k false=(w.nodes.getD k n0).conn.getD i false:=by
  have h1:=o i k hi hk
  have h2:=o k i hk hi
  unfold Gv at h1 h2
  cases h:(w.nodes.getD i n0).conn.getD k false<;>cases h':(w.nodes.getD k n0).conn.getD i false<;>simp_all
theorem I2 (w:ai) (q0:bW w) (q1:w.nodes.length=3) (q2:∀ i,i < 3→((w.nodes.getD i n0).conn.length:Int)=3):Cm 70 [.agg (bn (some true) w)] (.bool (Dg w),[.undef]):=by
  unfold Dg
  have b2:=q0.ay
  refine Cm.step I0 [.undef] fun J hJ=>?_
  rw [I1]
  have second:(∀ i k,i < 3→k < 3→Gv w i k)→WP 70 Tryz.f70 [.undef] 4 (jy w ((0:Nat):Int)) (.bool (oT (Zt w)),[.undef]):=by
    intro sy
    refine WP.up (H:=fun i:Nat=>jy w (i:Int)) w.ay.length (fun i=>∀ a,a < i→K4 w (w.ay.getD a w0)) (fun i hi inv J hJ next=>?_) 0 (by omega) (fun a h=>absurd h (by omega))
    rw [Df]
    try simp (disch:=first | assumption | omega) only [go_sem]
    refine bq (fun hl=>?_) (fun hl=>?_)
    · have ow:=okW q0 (show i < w.ay.length by omega)
      try simp (disch:=first | assumption | omega) only [go_sem]
      refine bq (fun hs=>?_) (fun h=>eH fun o=>h (o.wr i (by omega)).src)
      try simp (disch:=first | assumption | omega) only [go_sem]
      refine bq (fun hd=>?_) (fun h=>eH fun o=>h (o.wr i (by omega)).dst)
      try simp (disch:=first | assumption | omega) only [go_sem]
      refine bq (fun h=>eH fun o=>(o.wr i (by omega)).ne h) (fun hn=>?_)
      have cs:=q2 (w.ay.getD i w0).src.toNat (by omega)
      try simp (disch:=first | assumption | omega) only [go_sem]
      refine gF (fun hc=>?_) (fun h=>eH fun o=>h (o.wr i (by omega)).conn)
      try simp (disch:=first | assumption | omega) only [go_sem]
      refine bq (fun h=>eH fun o=>absurd (o.wr i (by omega)).len (by omega)) (fun hb=>?_)
      try simp (disch:=first | assumption | omega) only [go_sem]
      exact next (by omega) (dk inv ⟨hs,hd,hn,hc,by omega⟩)
    · by_cases h:(w.ay.length:Int)≤40
      · rw [decide_eq_true h]
        exact As ⟨sy,fun a ha=>inv a (by omega),h⟩
      · rw [decide_eq_false h]
        exact eH fun o=>h o.ay
  refine hJ _ _ ?_
  refine WP.L6 (H:=fun i:Nat=>lY w (i:Int)) 3 (fun i=>∀ a,a < i→∀ k,k < 3→(w.nodes.getD a n0).conn.getD k false=(w.nodes.getD k n0).conn.getD a false) (fun i hi inv next=>?_) 0 (by omega) (fun a h=>absurd h (by omega))
  refine WP.step fun J hJ=>?_
  rw [Dd]
  try simp (disch:=first | assumption | omega) only [go_sem]
  refine bq (fun hl=>?_) (fun hl=>hJ _ _ (second fun a k ha hk h=>by rw [← inv a (by omega) k hk]; exact h))
  refine hJ _ _ ?_
  refine WP.up (H:=fun k:Nat=>lZ w (i:Int) (k:Int)) 3 (fun k=>∀ b,b < k→(w.nodes.getD i n0).conn.getD b false=(w.nodes.getD b n0).conn.getD i false) (fun k hk inv2 J hJ p9=>?_) 0 (by omega) (fun a h=>absurd h (by omega))
  rw [De]
  try simp (disch:=first | assumption | omega) only [go_sem]
  refine bq (fun Hi=>?_) (fun Hi=>?_)
  · have ci:=q2 i (by omega)
    have ck:=q2 k (by omega)
    try simp (disch:=first | assumption | omega) only [go_sem]
    refine bq (fun he=>?_) (fun h=>eH fun o=>h (afK (by omega) (by omega) o.sy))
    try simp (disch:=first | assumption | omega) only [go_sem]
    exact p9 (by omega) (dk inv2 he)
  · try simp (disch:=first | assumption | omega) only [go_sem]
    exact hJ _ _ (next (by omega) (dk inv fun b hb=>inv2 b (by omega)))
@[go_sem] theorem aaB (w:ai) (q0:bW w) (q1:w.nodes.length=3) (q2:∀ i,i < 3→((w.nodes.getD i n0).conn.length:Int)=3) (t:bS Rz):aU 70 [.agg (fm (some true) w)] t=feed t [.bool (Dg w)]:=by
  exact bR (r:=.bool (Dg w)) (s:=.bool) (ss:=[.undef]) (I2 w q0 q1 q2) (by kernel_rfl) (by simp only [av,bE,aY,bF,bG,ah,ak,Bool.and_self]) (by simp only [ah,aM,av,ak,Bool.and_self]) (by first | rfl | simp only [au,aW,aV,bB,bC,aX,bD,Bool.and_self]) (by first | rfl | simp only [List.all_cons,List.all_nil,au,Bool.and_self]) t
theorem afL {l:Int} {xs:List Int} {n:Nat} (e:xs.length=n) (h:∀ k,k < n→xs.getD k 0≤l):∀ x∈xs,x≤l:=by
  intro x hx
  obtain ⟨k,hk,rfl⟩:=List.getElem_of_mem hx
  rw [← dV (d:=0) hk]
  exact h k (by omega)
theorem QX {xs:List Int} (h:ka xs=true):xs.length=8:=by
  unfold ka at h
  simp only [Bool.and_eq_true,decide_eq_true_eq] at h
  omega
theorem K6 (w:ai) (q0:bW w):Cm 21 [.agg (bn (some true) w)] (.bool (gX w),[.undef]):=by
  unfold gX
  have b1:=q0.nodes
  have b2:=q0.ay
  have b3:=q0.log
  have b4:=q0.safe
  refine Cm.step K2 [.undef] fun J hJ=>?_
  rw [K3]
  try simp (disch:=first | assumption | omega) only [go_sem]
  refine bq (fun h3=>?_) (fun h=>eH fun o=>h (by have:=o.ns.len; omega))
  have nl:w.nodes.length=3:=by omega
  try simp (disch:=first | assumption | omega) only [go_sem]
  refine bq (fun h=>eH fun o=>absurd o.log (by omega)) (fun h2=>?_)
  try simp (disch:=first | assumption | omega) only [go_sem]
  refine bq (fun h3=>?_) (fun h=>eH fun o=>h o.gen)
  try simp (disch:=first | assumption | omega) only [go_sem]
  have afM:(∀ i,i < 3→KX w i)→(∀ i,i < w.log.length→QW (w.log.getD i r0) i)→WP 21 Tryz.f21 [.undef] 6 (km w ((0:Nat):Int)) (.bool (oT (x8 w)),[.undef]):=by
    intro nd rc
    refine WP.up (H:=fun i:Nat=>km w (i:Int)) w.safe.length (fun i=>∀ a,a < i→Zs w a) (fun i hi inv J hJ next=>?_) 0 (by omega) (fun a h=>absurd h (by omega))
    rw [Er]
    try simp (disch:=first | assumption | omega) only [go_sem]
    refine bq (fun hl=>?_) (fun hl=>?_)
    · try simp (disch:=first | assumption | omega) only [go_sem]
      refine bq (fun hr=>?_) (fun h=>eH fun o=>h (o.sf i (by omega)).wa)
      try simp (disch:=first | assumption | omega) only [go_sem]
      refine bq (fun hp=>?_) (fun hp=>?_)
      · try simp (disch:=first | assumption | omega) only [go_sem]
        rw [show ((i:Int) - 1).toNat=i - 1 by omega]
        refine bq (fun h=>eH fun o=>(o.sf i (by omega)).up hp h) (fun hu=>?_)
        exact next (by omega) (dk inv ⟨hr,fun _=>hu⟩)
      · try simp (disch:=first | assumption | omega) only [go_sem]
        exact next (by omega) (dk inv ⟨hr,fun h=>absurd h hp⟩)
    · have hc:∀ i,i < 3→((w.nodes.getD i n0).conn.length:Int)=3:=fun i hi=>(fI (nd i hi).ok).conn
      try simp (disch:=first | assumption | omega) only [go_sem]
      unfold Dg
      rw [afJ (p:=Zt w) (q:=x8 w) ⟨fun o=>⟨⟨nl,nd,o.sy⟩,o.ay,by omega,h3,o.wr,rc,fun a ha=>inv a (by omega)⟩,fun o=>⟨o.ns.sy,o.wr,o.ay⟩⟩]
  have UC:(∀ i,i < 3→KX w i)→WP 21 Tryz.f21 [.undef] 4 (kj w ((0:Nat):Int)) (.bool (oT (x8 w)),[.undef]):=by
    intro nd
    refine WP.up (H:=fun i:Nat=>kj w (i:Int)) w.log.length (fun i=>∀ a,a < i→QW (w.log.getD a r0) a) (fun i hi inv J hJ next=>?_) 0 (by omega) (fun a h=>absurd h (by omega))
    rw [Ep]
    try simp (disch:=first | assumption | omega) only [go_sem]
    refine bq (fun hl=>?_) (fun hl=>hJ _ _ (afM nd fun a ha=>inv a (by omega)))
    try simp (disch:=first | assumption | omega) only [go_sem]
    refine bq (fun hr=>?_) (fun h=>eH fun o=>h (o.rc i (by omega)).cell)
    try simp (disch:=first | assumption | omega) only [go_sem]
    refine bq (fun hu=>?_) (fun h=>eH fun o=>h (o.rc i (by omega)).up)
    try simp (disch:=first | assumption | omega) only [go_sem]
    exact next (by omega) (dk inv ⟨hr,hu⟩)
  refine hJ _ _ ?_
  refine WP.L6 (H:=fun i:Nat=>m8 w (i:Int)) 3 (fun i=>∀ a,a < i→KX w a) (fun i hi inv next=>?_) 0 (by omega) (fun a h=>absurd h (by omega))
  refine WP.step fun J hJ=>?_
  rw [En]
  try simp (disch:=first | assumption | omega) only [go_sem]
  refine bq (fun hl=>?_) (fun hl=>hJ _ _ (UC fun a ha=>inv a (by omega)))
  have oi:=QV q0 (show i < w.nodes.length by omega)
  try simp (disch:=first | assumption | omega) only [go_sem]
  refine bq (fun hd=>?_) (fun h=>eH fun o=>h (o.ns.nd i (by omega)).id)
  try simp (disch:=first | assumption | omega) only [go_sem]
  refine gF (fun hn=>?_) (fun h=>eH fun o=>h (o.ns.nd i (by omega)).ok)
  try simp (disch:=first | assumption | omega) only [go_sem]
  refine bq (fun h=>eH fun o=>absurd (o.ns.nd i (by omega)).last (by omega)) (fun hla=>?_)
  try simp (disch:=first | assumption | omega) only [go_sem]
  have i8:=QX (fI hn).image
  refine hJ _ _ ?_
  refine WP.up (H:=fun k:Nat=>m9 w i k _ _ _ _ _ _ _ _ _ _ _ _ _ _ _ _ _ _ _ _ _ _ _ _ _ _ _ _ _ _ _ _ _ _) 8 (fun k=>∀ b,b < k→(w.nodes.getD i n0).image.getD b 0≤w.log.length) (fun k hk inv2 J hJ p9=>?_) 0 (by omega) (fun a h=>absurd h (by omega))
  rw [Eo]
  try simp (disch:=first | assumption | omega) only [go_sem]
  refine bq (fun hk8=>?_) (fun hk8=>?_)
  · try simp (disch:=first | assumption | omega) only [go_sem]
    refine bq (fun h=>eH fun o=>absurd ((o.ns.nd i (by omega)).cells _ (o8 (d:=0) (show k < (w.nodes.getD i n0).image.length by omega))) (by omega)) (fun hc=>?_)
    try simp (disch:=first | assumption | omega) only [go_sem]
    exact p9 (by omega) (dk inv2 (by omega))
  · try simp (disch:=first | assumption | omega) only [go_sem]
    exact hJ _ _ (next (by omega) (dk inv ⟨hn,hd,by omega,afL i8 fun k hk=>inv2 k (by omega)⟩))
@[go_sem] theorem acO (w:ai) (q0:bW w) (t:bS Rz):aU 21 [.agg (fm (some true) w)] t=feed t [.bool (gX w)]:=by
  exact bR (r:=.bool (gX w)) (s:=.bool) (ss:=[.undef]) (K6 w q0) (by kernel_rfl) (by simp only [av,bE,aY,bF,bG,ah,ak,Bool.and_self]) (by simp only [ah,aM,av,ak,Bool.and_self]) (by first | rfl | simp only [au,aW,aV,bB,bC,aX,bD,Bool.and_self]) (by first | rfl | simp only [List.all_cons,List.all_nil,au,Bool.and_self]) t
end Go.Proofs.YtockoilcnmljiaaGreat
namespace Go.Proofs.YtockoilcnmljiaaGreat
set_option maxRecDepth 100000
section
variable (pr:dr) (cv:Cv Rz) (J:Nat→St→Option Rz)
theorem RI:Told cfg Tryz.prog 26 Tryz.f26:=⟨by kernel_rfl,Tryz.func26,by kernel_rfl⟩
theorem RJ (x0:ai) (x1:Int) (x2:Int):aR pr cv J 26 Tryz.f26 [(.agg (bn (some true) x0)),(.int .i64 x1),(.int .i64 x2)]=
    let y1:Option (D × List D):=(some ((.bf [(.int .i64 0),(.int .i64 2)]),[.undef,.undef,.undef]))
    let y2:List D:=(pr.aE (U (ab (some true)) x0.nodes) ((pr.idx 0 x1 16)+3))
    (cv 23 [(.agg [(.sl (some true) 16 x0.nodes.length (U (ab (some true)) x0.nodes)),(.sl (some true) 3 x0.ay.length (U (aw (some true)) x0.ay)),(.sl (some true) 2 x0.log.length (U (aK (some true)) x0.log)),(sI (some true) x0.safe),(.int .i64 x0.gen)])] (.bool (fun bK=>(.done (br (br bK false true) y1 (cv 76 [(.int .i64 x1)] (.bool (fun eQ=>(.done (br (br eQ false true) y1 (cv 77 [(.int .i64 x2)] (.bool (fun fb=>(.done (br (br fb false true) y1 (br (pr.bg x1 x0.nodes.length) (br (br (pr.cd (U (ab (some true)) x0.nodes) ((pr.idx 0 x1 16)+2)) true false) (br (br (pr.bw (U (ab (some true)) x0.nodes) ((pr.idx 0 x1 16)+2)) false true) y1 (br (pr.bg x1 x0.nodes.length) (br (br (pr.aN 1 (U (ab (some true)) x0.nodes) ((pr.idx 0 x1 16)+3)) true false) (br (pr.bg x2 (pr.aC (U (ab (some true)) x0.nodes) ((pr.idx 0 x1 16)+3))) (br (br (pr.bO .i64 y2 (pr.idx 0 x2 1)) true false) (some ((.bf [(.int .i64 (pr.aO y2 (pr.idx 0 x2 1))),(.int .i64 0)]),[.undef,.undef,.undef])) none) none) none) none)) none) none)))))))))))))))):=by kernel_rfl
theorem RK:Told cfg Tryz.prog 25 Tryz.f25:=⟨by kernel_rfl,Tryz.func25,by kernel_rfl⟩
theorem RL (x0:ai) (x1:Int) (x2:Int):aR pr cv J 25 Tryz.f25 [(.agg (bn (some true) x0)),(.int .i64 x1),(.int .i64 x2)]=
    let y1:Option (D × List D):=(some ((.bf [(.int .i64 0),(.int .i64 2)]),[.undef,.undef,.undef]))
    let y2:List D:=(pr.aE (U (ab (some true)) x0.nodes) ((pr.idx 0 x1 16)+3))
    (cv 21 [(.agg [(.sl (some true) 16 x0.nodes.length (U (ab (some true)) x0.nodes)),(.sl (some true) 3 x0.ay.length (U (aw (some true)) x0.ay)),(.sl (some true) 2 x0.log.length (U (aK (some true)) x0.log)),(sI (some true) x0.safe),(.int .i64 x0.gen)])] (.bool (fun bK=>(.done (br (br bK false true) y1 (cv 69 [(.int .i64 x1),(.int .i64 0),(.int .i64 2)] (.bool (fun eQ=>(.done (br (br eQ false true) y1 (cv 69 [(.int .i64 x2),(.int .i64 0),(.int .i64 7)] (.bool (fun fb=>(.done (br (br fb false true) y1 (br (pr.bg x1 x0.nodes.length) (br (br (pr.cd (U (ab (some true)) x0.nodes) ((pr.idx 0 x1 16)+2)) true false) (br (br (pr.bw (U (ab (some true)) x0.nodes) ((pr.idx 0 x1 16)+2)) false true) y1 (br (pr.bg x1 x0.nodes.length) (br (br (pr.aN 1 (U (ab (some true)) x0.nodes) ((pr.idx 0 x1 16)+3)) true false) (br (pr.bg x2 (pr.aC (U (ab (some true)) x0.nodes) ((pr.idx 0 x1 16)+3))) (br (br (pr.bO .i64 y2 (pr.idx 0 x2 1)) true false) (some ((.bf [(.int .i64 (pr.aO y2 (pr.idx 0 x2 1))),(.int .i64 0)]),[.undef,.undef,.undef])) none) none) none) none)) none) none)))))))))))))))):=by kernel_rfl
end
open Classical in
noncomputable def kq (w:ai) (a c:Int):Int × Int:=if x8 w∧(0≤a∧a≤2)∧(0≤c∧c≤7)∧(w.nodes.getD a.toNat n0).cU=true then ((w.nodes.getD a.toNat n0).image.getD c.toNat 0,0) else (0,2)
theorem qT {w:ai} {a c:Int} {l:List D} (h:¬(x8 w∧(0≤a∧a≤2)∧(0≤c∧c≤7)∧(w.nodes.getD a.toNat n0).cU=true)):(some ((.bf [.int .i64 0,.int .i64 2],l):Rz))=some (.bf [.int .i64 (kq w a c).1,.int .i64 (kq w a c).2],l):=by
  unfold kq; rw [if_neg h]
theorem QY {w:ai} {a c:Int} {l:List D} (h:x8 w∧(0≤a∧a≤2)∧(0≤c∧c≤7)∧(w.nodes.getD a.toNat n0).cU=true):(some ((.bf [.int .i64 ((w.nodes.getD a.toNat n0).image.getD c.toNat 0),.int .i64 0],l):Rz))=some (.bf [.int .i64 (kq w a c).1,.int .i64 (kq w a c).2],l):=by
  unfold kq; rw [if_pos h]
theorem w5 {w:ai} (h:¬gX w=true):¬x8 w:=fun o=>h (Oh o)
theorem RM (w:ai) (a:Int) (c:Int) (q0:bW w):Cm 26 [.agg (bn (some true) w),.int .i64 a,.int .i64 c] (.bf [.int .i64 ((kq w a c).1),.int .i64 ((kq w a c).2)],[.undef,.undef,.undef]):=by
  refine Cm.step RI [.undef,.undef,.undef] fun J hJ=>?_
  rw [RJ]
  try simp (disch:=first | assumption | omega) only [go_sem]
  refine gF (fun h=>?_) (fun h=>qT fun o=>w5 h o.1)
  have o:=pT h
  try simp (disch:=first | assumption | omega) only [go_sem]
  refine bq (fun ha=>?_) (fun h=>qT fun o=>h o.2.1)
  try simp (disch:=first | assumption | omega) only [go_sem]
  refine bq (fun hc=>?_) (fun h=>qT fun o=>h o.2.2.1)
  have nl:=o.ns.len
  have i8:=QX (fI (o.ns.nd a.toNat (by omega)).ok).image
  try simp (disch:=first | assumption | omega) only [go_sem]
  refine gF (fun hp=>?_) (fun h=>qT fun o=>h o.2.2.2)
  try simp (disch:=first | assumption | omega) only [go_sem]
  exact QY ⟨o,ha,hc,hp⟩
@[go_sem] theorem afU (w:ai) (a:Int) (c:Int) (q0:bW w) (t:bS Rz):aU 26 [.agg (fm (some true) w),.int .i64 a,.int .i64 c] t=feed t [.int .i64 ((kq w a c).1),.int .i64 ((kq w a c).2)]:=by
  exact bR (r:=.bf [.int .i64 ((kq w a c).1),.int .i64 ((kq w a c).2)]) (s:=.bf [.int .i64,.int .i64]) (ss:=[.undef,.undef,.undef]) (RM w a c q0) (by kernel_rfl) (by simp only [av,bE,aY,bF,bG,ah,ak,Bool.and_self]) (by simp only [ah,aM,av,ak,Bool.and_self]) (by first | rfl | simp only [au,aW,aV,bB,bC,aX,bD,Bool.and_self]) (by first | rfl | simp only [List.all_cons,List.all_nil,au,Bool.and_self]) t
theorem RN (w:ai) (a:Int) (c:Int) (q0:bW w):Cm 25 [.agg (bn (some true) w),.int .i64 a,.int .i64 c] (.bf [.int .i64 ((kq w a c).1),.int .i64 ((kq w a c).2)],[.undef,.undef,.undef]):=by
  refine Cm.step RK [.undef,.undef,.undef] fun J hJ=>?_
  rw [RL]
  try simp (disch:=first | assumption | omega) only [go_sem]
  refine gF (fun h=>?_) (fun h=>qT fun o=>w5 h o.1)
  have o:=pT h
  try simp (disch:=first | assumption | omega) only [go_sem]
  refine bq (fun ha=>?_) (fun h=>qT fun o=>h o.2.1)
  try simp (disch:=first | assumption | omega) only [go_sem]
  refine bq (fun hc=>?_) (fun h=>qT fun o=>h o.2.2.1)
  have nl:=o.ns.len
  have i8:=QX (fI (o.ns.nd a.toNat (by omega)).ok).image
  try simp (disch:=first | assumption | omega) only [go_sem]
  refine gF (fun hp=>?_) (fun h=>qT fun o=>h o.2.2.2)
  try simp (disch:=first | assumption | omega) only [go_sem]
  exact QY ⟨o,ha,hc,hp⟩
@[go_sem] theorem afV (w:ai) (a:Int) (c:Int) (q0:bW w) (t:bS Rz):aU 25 [.agg (fm (some true) w),.int .i64 a,.int .i64 c] t=feed t [.int .i64 ((kq w a c).1),.int .i64 ((kq w a c).2)]:=by
  exact bR (r:=.bf [.int .i64 ((kq w a c).1),.int .i64 ((kq w a c).2)]) (s:=.bf [.int .i64,.int .i64]) (ss:=[.undef,.undef,.undef]) (RN w a c q0) (by kernel_rfl) (by simp only [av,bE,aY,bF,bG,ah,ak,Bool.and_self]) (by simp only [ah,aM,av,ak,Bool.and_self]) (by first | rfl | simp only [au,aW,aV,bB,bC,aX,bD,Bool.and_self]) (by first | rfl | simp only [List.all_cons,List.all_nil,au,Bool.and_self]) t
end Go.Proofs.YtockoilcnmljiaaGreat
