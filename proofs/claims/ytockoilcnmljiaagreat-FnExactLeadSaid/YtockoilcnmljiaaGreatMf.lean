/- What the proof of FnExactLead stands on, part 6: an abstract machine on plain data, its soundness, and the contracts of functions. -/
import Derived.Attr
import Derived.Test.YtockoilcnmljiaaGreatMe
set_option linter.all false
set_option linter.unusedSimpArgs false
set_option linter.unusedVariables false
set_option linter.unnecessarySimpa false
set_option linter.unusedSectionVars false
namespace Go.Proofs.YtockoilcnmljiaaGreat
set_option maxRecDepth 100000
section
variable (pr:dA) (cv:Cv Rz) (J:Nat→St→Option Rz)
def rF (n0:Nat) (c1:List D) (i2:Int) (b3:Bool) (b4:Bool) (b5:Bool) (i6:Int) (n7:Nat) (c8:List D) (i9:Int) (jD:Bool) (eg:Nat) (eB:List D) (H4:Bool) (mD:Bool) (gC:Bool) (i16:Int):St:=(St.mk [(0,(.sl (some true) 1 n0 c1)),(2,(.ptr 2 [] 0)),(4,(.ptr 11 [] 0)),(5,(.ptr 5 [] 0)),(6,(.int .i64 i2))] [(2,[(.nil 1),(.nil 1),(.bool b3),(.bool b4),(.bool b5),(.int .i64 i6)]),(11,[(.sl (some true) 1 n7 c8),(.int .i64 i9),(.bool jD)]),(5,[(.sl none 1 eg eB),(.nil 1),(.bool H4),(.bool mD),(.bool gC),(.int .i64 i16)])] [] 0)
def gX (n0:Nat) (c1:List D) (i2:Int) (b3:Bool) (b4:Bool) (b5:Bool) (i6:Int) (n7:Nat) (c8:List D) (i9:Int) (jD:Bool) (eg:Nat) (eB:List D) (kO:Nat) (mo:List D) (gC:Bool) (j9:Bool) (rD:Bool) (i18:Int):St:=(St.mk [(0,(.sl (some true) 1 n0 c1)),(2,(.ptr 2 [] 0)),(4,(.ptr 11 [] 0)),(5,(.ptr 5 [] 0)),(6,(.int .i64 i2))] [(2,[(.nil 1),(.nil 1),(.bool b3),(.bool b4),(.bool b5),(.int .i64 i6)]),(11,[(.sl (some true) 1 n7 c8),(.int .i64 i9),(.bool jD)]),(5,[(.sl none 1 eg eB),(.sl none 1 kO mo),(.bool gC),(.bool j9),(.bool rD),(.int .i64 i18)])] [] 0)
theorem MC:Told cfg Tryz.prog 151 Tryz.f151:=⟨by kernel_rfl,Tryz.func151,by kernel_rfl⟩
theorem MD (n0:Nat) (c0:List D):aO pr cv J 151 Tryz.f151 [(.sl (some true) 1 n0 c0)]=
    (cv 155 [(.bh [(.sl (some false) 1 n0 (ek false c0)),(.int .i64 0),(.bool true)])] (.sl (fun dX=>(fun dt=>(.jO (fun iC=>(fun z7=>(fun ru=>(.int (fun rT=>(.bool (fun tV=>(.done (br (br (br (pr.nl dt) true false) (br (br (pr.nl ru) true false) true false) false) (J 0 (rF n0 c0 0 false false false 0 z7 (ek true ru) rT tV dX (ek true dt) false false false 0)) none)))))))))))))):=by kernel_rfl
theorem Fc (n0:Nat) (c1:List D) (i2:Int) (b3:Bool) (b4:Bool) (b5:Bool) (i6:Int) (n7:Nat) (c8:List D) (i9:Int) (jD:Bool) (eg:Nat) (eB:List D) (H4:Bool) (mD:Bool) (gC:Bool) (i16:Int):bF pr cv J 151 Tryz.f151 [.undef] 0 (rF n0 c1 i2 b3 b4 b5 i6 n7 c8 i9 jD eg eB H4 mD gC i16)=
    let y1:List D:=[(.bh [(.sl (some false) 1 n7 (ek false c8)),(.int .i64 i9),(.bool jD)])]
    let y2:Option (D × List D):=(some ((.aP [(.agg [(.sl none 1 0 []),(.sl none 1 0 []),(.bool false),(.bool false),(.bool false),(.int .i64 0)]),(.bool false)]),[.undef]))
    (br (pr.lt i2 3) (cv 155 y1 (.sl (fun dX=>(fun dt=>(.jO (fun iC=>(fun z7=>(fun ru=>(.int (fun rT=>(.bool (fun tV=>(.done (br (br (br (pr.nl dt) true false) (br (br (pr.nl ru) true false) true false) false) (br (pr.fits 1 24) (J 0 (gX n0 c1 (pr.ar .add .i64 i2 1) b3 b4 b5 i6 z7 (ek true ru) rT tV eg eB 1 [(.sl none 1 dX (ek true dt))] H4 mD gC i16)) none) none)))))))))))))) (cv 156 y1 (.int (fun mw=>(.jO (fun Sz=>(fun Qe=>(fun wm=>(.int (fun Ci=>(.bool (fun zO=>(.done (br (br (br (pr.nl wm) true false) true false) (cv 156 [(.bh [(.sl (some false) 1 Qe (ek false (ek true wm))),(.int .i64 Ci),(.bool zO)])] (.int (fun wo=>(.jO (fun Qf=>(fun J1=>(fun xH=>(.int (fun Qg=>(.bool (fun Cj=>(.done (br (br (br (pr.nl xH) true false) true false) (br (br Cj false true) y2 (br (pr.sL c1) (cv 157 [(.agg [(.sl (some true) 1 eg (cu true eB)),(.nil 1),(.bool (br (pr.eq (pr.ar .and .i64 mw 1) 0) false true)),(.bool (br (pr.eq (pr.ar .and .i64 mw 2) 0) false true)),(.bool (br (pr.eq (pr.ar .and .i64 mw 4) 0) false true)),(.int .i64 wo)])] (.sl (fun zP=>(fun qd=>(.done (br (br (br (pr.nl qd) true false) true false) (br (pr.sL qd) (br (br (pr.seq (pr.Bh qd) (pr.Bh c1)) false true) y2 (br (pr.eq (pr.aX n0) 0) y2 (some ((.aP [(.agg [(.sl none 1 eg eB),(.sl none 1 0 []),(.bool (br (pr.eq (pr.ar .and .i64 mw 1) 0) false true)),(.bool (br (pr.eq (pr.ar .and .i64 mw 2) 0) false true)),(.bool (br (pr.eq (pr.ar .and .i64 mw 4) 0) false true)),(.int .i64 wo)]),(.bool true)]),[.undef])))) none) none)))))) none)) none))))))))))))) none)))))))))))))):=by kernel_rfl
theorem oE (n0:Nat) (c1:List D) (i2:Int) (b3:Bool) (b4:Bool) (b5:Bool) (i6:Int) (n7:Nat) (c8:List D) (i9:Int) (jD:Bool) (eg:Nat) (eB:List D) (kO:Nat) (mo:List D) (gC:Bool) (j9:Bool) (rD:Bool) (i18:Int):bF pr cv J 151 Tryz.f151 [.undef] 0 (gX n0 c1 i2 b3 b4 b5 i6 n7 c8 i9 jD eg eB kO mo gC j9 rD i18)=
    let y1:List D:=[(.bh [(.sl (some false) 1 n7 (ek false c8)),(.int .i64 i9),(.bool jD)])]
    let y2:Option (D × List D):=(some ((.aP [(.agg [(.sl none 1 0 []),(.sl none 1 0 []),(.bool false),(.bool false),(.bool false),(.int .i64 0)]),(.bool false)]),[.undef]))
    (br (pr.lt i2 3) (cv 155 y1 (.sl (fun dX=>(fun dt=>(.jO (fun iC=>(fun z7=>(fun ru=>(.int (fun rT=>(.bool (fun tV=>(.done (br (br (br (pr.nl dt) true false) (br (br (pr.nl ru) true false) true false) false) (br (pr.fits (kO+1) 24) (J 0 (gX n0 c1 (pr.ar .add .i64 i2 1) b3 b4 b5 i6 z7 (ek true ru) rT tV eg eB (kO+1) (List.append mo [(.sl none 1 dX (ek true dt))]) gC j9 rD i18)) none) none)))))))))))))) (cv 156 y1 (.int (fun mw=>(.jO (fun Sz=>(fun Qe=>(fun wm=>(.int (fun Ci=>(.bool (fun zO=>(.done (br (br (br (pr.nl wm) true false) true false) (cv 156 [(.bh [(.sl (some false) 1 Qe (ek false (ek true wm))),(.int .i64 Ci),(.bool zO)])] (.int (fun wo=>(.jO (fun Qf=>(fun J1=>(fun xH=>(.int (fun Qg=>(.bool (fun Cj=>(.done (br (br (br (pr.nl xH) true false) true false) (br (br Cj false true) y2 (br (pr.sL c1) (cv 157 [(.agg [(.sl (some true) 1 eg (cu true eB)),(.sl (some true) 1 kO (cu true mo)),(.bool (br (pr.eq (pr.ar .and .i64 mw 1) 0) false true)),(.bool (br (pr.eq (pr.ar .and .i64 mw 2) 0) false true)),(.bool (br (pr.eq (pr.ar .and .i64 mw 4) 0) false true)),(.int .i64 wo)])] (.sl (fun zP=>(fun qd=>(.done (br (br (br (pr.nl qd) true false) true false) (br (pr.sL qd) (br (br (pr.seq (pr.Bh qd) (pr.Bh c1)) false true) y2 (br (pr.eq (pr.aX n0) 0) y2 (some ((.aP [(.agg [(.sl none 1 eg eB),(.sl none 1 kO mo),(.bool (br (pr.eq (pr.ar .and .i64 mw 1) 0) false true)),(.bool (br (pr.eq (pr.ar .and .i64 mw 2) 0) false true)),(.bool (br (pr.eq (pr.ar .and .i64 mw 4) 0) false true)),(.int .i64 wo)]),(.bool true)]),[.undef])))) none) none)))))) none)) none))))))))))))) none)))))))))))))):=by kernel_rfl
def rG (n0:Nat) (c1:List D) (i2:Int) (b3:Bool) (b4:Bool) (b5:Bool) (i6:Int) (n7:Nat) (c8:List D) (i9:Int) (jD:Bool) (eg:Nat) (eB:List D) (H4:Bool) (mD:Bool) (gC:Bool) (i16:Int):St:=(St.mk [(0,(.sl (some true) 1 n0 c1)),(2,(.ptr 2 [] 0)),(4,(.ptr 11 [] 0)),(5,(.ptr 5 [] 0)),(16,(.int .i64 i2))] [(2,[(.nil 1),(.nil 1),(.bool b3),(.bool b4),(.bool b5),(.int .i64 i6)]),(11,[(.sl (some true) 1 n7 c8),(.int .i64 i9),(.bool jD)]),(5,[(.sl none 1 eg eB),(.nil 1),(.bool H4),(.bool mD),(.bool gC),(.int .i64 i16)])] [] 0)
def gY (n0:Nat) (c1:List D) (i2:Int) (b3:Bool) (b4:Bool) (b5:Bool) (i6:Int) (n7:Nat) (c8:List D) (i9:Int) (jD:Bool) (eg:Nat) (eB:List D) (kO:Nat) (mo:List D) (gC:Bool) (j9:Bool) (rD:Bool) (i18:Int):St:=(St.mk [(0,(.sl (some true) 1 n0 c1)),(2,(.ptr 2 [] 0)),(4,(.ptr 11 [] 0)),(5,(.ptr 5 [] 0)),(16,(.int .i64 i2))] [(2,[(.nil 1),(.nil 1),(.bool b3),(.bool b4),(.bool b5),(.int .i64 i6)]),(11,[(.sl (some true) 1 n7 c8),(.int .i64 i9),(.bool jD)]),(5,[(.sl none 1 eg eB),(.sl none 1 kO mo),(.bool gC),(.bool j9),(.bool rD),(.int .i64 i18)])] [] 0)
theorem ME:Told cfg Tryz.prog 159 Tryz.f159:=⟨by kernel_rfl,Tryz.func159,by kernel_rfl⟩
theorem MF (n0:Nat) (c0:List D):aO pr cv J 159 Tryz.f159 [(.sl (some true) 1 n0 c0)]=
    (cv 164 [(.bh [(.sl (some false) 1 n0 (ek false c0)),(.int .i64 0),(.bool true)])] (.sl (fun dX=>(fun dt=>(.jO (fun iC=>(fun z7=>(fun ru=>(.int (fun rT=>(.bool (fun tV=>(.done (br (br (br (pr.nl dt) true false) (br (br (pr.nl ru) true false) true false) false) (J 0 (rG n0 c0 0 false false false 0 z7 (ek true ru) rT tV dX (ek true dt) false false false 0)) none)))))))))))))):=by kernel_rfl
theorem Fe (n0:Nat) (c1:List D) (i2:Int) (b3:Bool) (b4:Bool) (b5:Bool) (i6:Int) (n7:Nat) (c8:List D) (i9:Int) (jD:Bool) (eg:Nat) (eB:List D) (H4:Bool) (mD:Bool) (gC:Bool) (i16:Int):bF pr cv J 159 Tryz.f159 [.undef] 0 (rG n0 c1 i2 b3 b4 b5 i6 n7 c8 i9 jD eg eB H4 mD gC i16)=
    let y1:List D:=[(.bh [(.sl (some false) 1 n7 (ek false c8)),(.int .i64 i9),(.bool jD)])]
    let y2:Option (D × List D):=(some ((.aP [(.agg [(.sl none 1 0 []),(.sl none 1 0 []),(.bool false),(.bool false),(.bool false),(.int .i64 0)]),(.bool false)]),[.undef]))
    (br (pr.lt i2 3) (cv 164 y1 (.sl (fun dX=>(fun dt=>(.jO (fun iC=>(fun z7=>(fun ru=>(.int (fun rT=>(.bool (fun tV=>(.done (br (br (br (pr.nl dt) true false) (br (br (pr.nl ru) true false) true false) false) (br (pr.fits 1 24) (J 0 (gY n0 c1 (pr.ar .add .i64 i2 1) b3 b4 b5 i6 z7 (ek true ru) rT tV eg eB 1 [(.sl none 1 dX (ek true dt))] H4 mD gC i16)) none) none)))))))))))))) (cv 165 y1 (.int (fun mw=>(.jO (fun Sz=>(fun Qe=>(fun wm=>(.int (fun Ci=>(.bool (fun zO=>(.done (br (br (br (pr.nl wm) true false) true false) (cv 165 [(.bh [(.sl (some false) 1 Qe (ek false (ek true wm))),(.int .i64 Ci),(.bool zO)])] (.int (fun wo=>(.jO (fun Qf=>(fun J1=>(fun xH=>(.int (fun Qg=>(.bool (fun Cj=>(.done (br (br (br (pr.nl xH) true false) true false) (cv 166 [(.agg [(.sl (some true) 1 eg (cu true eB)),(.nil 1),(.bool (br (pr.eq (pr.ar .and .i64 mw 1) 0) false true)),(.bool (br (pr.eq (pr.ar .and .i64 mw 2) 0) false true)),(.bool (br (pr.eq (pr.ar .and .i64 mw 4) 0) false true)),(.int .i64 wo)])] (.sl (fun zP=>(fun qd=>(.done (br (br (br (pr.nl qd) true false) true false) (br (br Cj false true) y2 (br (pr.eq (pr.aX zP) 0) y2 (cv 160 [(.sl (some true) 1 zP (cu true qd)),(.sl (some true) 1 n0 c1)] (.bool (fun YS=>(.done (br (br YS false true) y2 (some ((.aP [(.agg [(.sl none 1 eg eB),(.sl none 1 0 []),(.bool (br (pr.eq (pr.ar .and .i64 mw 1) 0) false true)),(.bool (br (pr.eq (pr.ar .and .i64 mw 2) 0) false true)),(.bool (br (pr.eq (pr.ar .and .i64 mw 4) 0) false true)),(.int .i64 wo)]),(.bool true)]),[.undef]))))))))) none)))))) none))))))))))))) none)))))))))))))):=by kernel_rfl
theorem oF (n0:Nat) (c1:List D) (i2:Int) (b3:Bool) (b4:Bool) (b5:Bool) (i6:Int) (n7:Nat) (c8:List D) (i9:Int) (jD:Bool) (eg:Nat) (eB:List D) (kO:Nat) (mo:List D) (gC:Bool) (j9:Bool) (rD:Bool) (i18:Int):bF pr cv J 159 Tryz.f159 [.undef] 0 (gY n0 c1 i2 b3 b4 b5 i6 n7 c8 i9 jD eg eB kO mo gC j9 rD i18)=
    let y1:List D:=[(.bh [(.sl (some false) 1 n7 (ek false c8)),(.int .i64 i9),(.bool jD)])]
    let y2:Option (D × List D):=(some ((.aP [(.agg [(.sl none 1 0 []),(.sl none 1 0 []),(.bool false),(.bool false),(.bool false),(.int .i64 0)]),(.bool false)]),[.undef]))
    (br (pr.lt i2 3) (cv 164 y1 (.sl (fun dX=>(fun dt=>(.jO (fun iC=>(fun z7=>(fun ru=>(.int (fun rT=>(.bool (fun tV=>(.done (br (br (br (pr.nl dt) true false) (br (br (pr.nl ru) true false) true false) false) (br (pr.fits (kO+1) 24) (J 0 (gY n0 c1 (pr.ar .add .i64 i2 1) b3 b4 b5 i6 z7 (ek true ru) rT tV eg eB (kO+1) (List.append mo [(.sl none 1 dX (ek true dt))]) gC j9 rD i18)) none) none)))))))))))))) (cv 165 y1 (.int (fun mw=>(.jO (fun Sz=>(fun Qe=>(fun wm=>(.int (fun Ci=>(.bool (fun zO=>(.done (br (br (br (pr.nl wm) true false) true false) (cv 165 [(.bh [(.sl (some false) 1 Qe (ek false (ek true wm))),(.int .i64 Ci),(.bool zO)])] (.int (fun wo=>(.jO (fun Qf=>(fun J1=>(fun xH=>(.int (fun Qg=>(.bool (fun Cj=>(.done (br (br (br (pr.nl xH) true false) true false) (cv 166 [(.agg [(.sl (some true) 1 eg (cu true eB)),(.sl (some true) 1 kO (cu true mo)),(.bool (br (pr.eq (pr.ar .and .i64 mw 1) 0) false true)),(.bool (br (pr.eq (pr.ar .and .i64 mw 2) 0) false true)),(.bool (br (pr.eq (pr.ar .and .i64 mw 4) 0) false true)),(.int .i64 wo)])] (.sl (fun zP=>(fun qd=>(.done (br (br (br (pr.nl qd) true false) true false) (br (br Cj false true) y2 (br (pr.eq (pr.aX zP) 0) y2 (cv 160 [(.sl (some true) 1 zP (cu true qd)),(.sl (some true) 1 n0 c1)] (.bool (fun YS=>(.done (br (br YS false true) y2 (some ((.aP [(.agg [(.sl none 1 eg eB),(.sl none 1 kO mo),(.bool (br (pr.eq (pr.ar .and .i64 mw 1) 0) false true)),(.bool (br (pr.eq (pr.ar .and .i64 mw 2) 0) false true)),(.bool (br (pr.eq (pr.ar .and .i64 mw 4) 0) false true)),(.int .i64 wo)]),(.bool true)]),[.undef]))))))))) none)))))) none))))))))))))) none)))))))))))))):=by kernel_rfl
end
theorem Qh (x:UInt8):byteOf (du x)=some x:=by
  have:=x.toNat_lt
  simp [du,byteOf]
theorem zQ:∀ xs:List UInt8,lB byteOf (bytes xs)=some xs
  | []=>rfl
  | x::xs=>by
    have h:=zQ xs
    simp only [bytes] at h
    simp only [bytes,List.map_cons,lB,Qh,h]
theorem Ff {R:Type} {x y:R} (xs:List UInt8):br (ad.sL (bytes xs)) x y=x:=by
  have:ad.sL (bytes xs)=true:=by
    show (lB byteOf (bytes xs)).isSome=true
    rw [zQ]
    rfl
  rw [this,aH]
theorem Qi (xs:List UInt8):ad.Bh (bytes xs)=bs xs:=by
  show (⟨((lB byteOf (bytes xs)).getD []).toArray⟩:ByteArray)=bs xs
  rw [zQ]
  rfl
theorem Qj (xs ys:List UInt8):ad.seq (bs xs) (bs ys)=decide (xs=ys):=by
  show ((bs xs).toList==(bs ys).toList)=_
  rw [ByteArray.toList_eq,ByteArray.toList_eq]
  show (xs==ys)=_
  by_cases h:xs=ys<;>simp [h]
theorem Qk (g h:Bool) (xs ys:List UInt8):Cm 160 [.sl (some g) 1 xs.length (bytes xs),.sl (some h) 1 ys.length (bytes ys)] (.bool (decide (xs=ys)),[.undef,.undef]):=by
  refine Cm.fin Mk fun J=>?_
  rw [Ml]
  simp only [Ff,Qi,Qj]
theorem Ck (g h:Bool) (xs ys:List UInt8) (t:bE Rz):aL 160 [.sl (some g) 1 xs.length (bytes xs),.sl (some h) 1 ys.length (bytes ys)] t=feed t [.bool (decide (xs=ys))]:=aW (Qk g h xs ys) (by kernel_rfl) t
theorem jH (b:Bool):∀ xs:List Int,ek b (ints xs)=ints xs
  | []=>rfl
  | x::xs=>by
    have h:=jH b xs
    simp only [ints] at h
    simp only [ints,List.map_cons,ek,iq,h]
theorem gn (b:Bool):∀ xs:List UInt8,ek b (bytes xs)=bytes xs
  | []=>rfl
  | x::xs=>by
    have h:=gn b xs
    simp only [bytes] at h
    simp only [bytes,List.map_cons,ek,iq,du,h]
theorem Lo (b:List UInt8) (p:Nat):∀ k i acc,(iL b p k i acc).2.2=false→iL b p k i acc=lQ
  | 0,_,_,_=>rfl
  | k+1,i,acc,h=>by
    rw [iL] at h ⊢
    split at h
    · rename_i h1
      rw [dif_pos h1]
      split at h
      · rename_i h2
        rw [if_pos h2]
        exact Lo b p k _ _ h
      · rename_i h2
        rw [if_neg h2]
        split at h
        · rename_i h3
          rw [if_pos h3]
        · simp at h
    · rename_i h1
      rw [dif_neg h1]
theorem WZ (b:List UInt8) (a:Int) (h:(hL b a).2.2=false):hL b a=lQ:=by
  unfold hL at h ⊢
  split at h
  · rename_i h1
    rw [if_pos h1]
  · rename_i h1
    rw [if_neg h1]
    exact Lo b _ _ _ _ h
def H5 (c c':Int × Bool):Prop:=c.2=c'.2∧(c.2=true→c.1=c'.1)
theorem Dj (b:List UInt8) {c c':Int × Bool} (h:H5 c c'):(bN b c).1=(bP b c').1∧H5 (bN b c).2 (bP b c').2:=by
  obtain ⟨p,q⟩:=c
  obtain ⟨p',q'⟩:=c'
  obtain ⟨h1,h2⟩:=h
  simp only at h1 h2
  subst h1
  cases q with
  | false=>exact ⟨by simp [bN,bP],by simp [bN,bP,H5]⟩
  | true=>
    have:=h2 rfl
    subst this
    cases hg:(hL b p).2.2 with
    | true=>exact ⟨by simp [bN,bP,hg],by simp [bN,bP,H5,hg]⟩
    | false=>
      have:=WZ b p hg
      exact ⟨by simp [bN,bP,this,lQ],by simp [bN,bP,H5,this,lQ]⟩
theorem W0 (b:List UInt8):∀ (k:Nat) {c c':Int × Bool} (out:List Int),H5 c c'→(oC bN b k c out).1=(oC bP b k c' out).1∧H5 (oC bN b k c out).2 (oC bP b k c' out).2
  | 0,_,_,_,h=>⟨rfl,h⟩
  | k+1,c,c',out,h=>by
    simp only [oC]
    rw [← h.1]
    cases hc:c.2 with
    | false=>exact ⟨rfl,h⟩
    | true=>
      have hn:=Dj b h
      simp only [if_true]
      rw [hn.1]
      exact W0 b k _ hn.2
theorem zR (b:List UInt8) {c c':Int × Bool} (h:H5 c c'):(bg bN b c).1=(bg bP b c').1∧H5 (bg bN b c).2 (bg bP b c').2:=by
  have hn:=Dj b h
  unfold bg
  rw [hn.1]
  exact W0 b _ _ hn.2
def W1 (num:List UInt8→Int × Bool→Int × (Int × Bool)):Prop:=∀ b p q,(num b (p,q)).2.2=true→0≤p∧p < (num b (p,q)).2.1∧(num b (p,q)).2.1≤b.length
theorem aam:W1 bN:=by
  intro b p q h
  unfold bN at h ⊢
  split at h
  · rename_i h1
    rw [if_pos h1]
    simp only [Bool.and_eq_true] at h1
    exact Lj b p h1.1
  · simp at h
theorem af9:W1 bP:=by
  intro b p q h
  unfold bP at h ⊢
  cases q with
  | true=>exact Lj b p h
  | false=>simp at h
theorem Lp {num:List UInt8→Int × Bool→Int × (Int × Bool)} (hf:W1 num) (b:List UInt8):∀ (k:Nat) (p:Int) (q:Bool) (out:List Int),(oC num b k (p,q) out).1.length≤out.length+(if q then ((b.length:Int) - p).toNat+1 else 0)
  | 0,_,_,_=>by simp [oC]
  | k+1,p,q,out=>by
    cases q with
    | false=>simp [oC]
    | true=>
      simp only [oC,if_true]
      have ih:=Lp hf b k (num b (p,true)).2.1 (num b (p,true)).2.2 (out++[(num b (p,true)).1])
      cases hq:(num b (p,true)).2.2 with
      | false=>
        rw [hq] at ih
        simp only [List.length_append,List.length_singleton] at ih
        have e:(num b (p,true)).2=((num b (p,true)).2.1,false):=Prod.ext rfl hq
        rw [e]
        simp only [Bool.false_eq_true,if_false] at ih
        omega
      | true=>
        have h:=hf b p true hq
        rw [hq] at ih
        simp only [List.length_append,List.length_singleton,if_true] at ih
        have e:(num b (p,true)).2=((num b (p,true)).2.1,true):=Prod.ext rfl hq
        rw [e]
        omega
theorem Eh {num:List UInt8→Int × Bool→Int × (Int × Bool)} (hf:W1 num) (b:List UInt8) (c:Int × Bool):(bg num b c).1.length≤b.length+1:=by
  have h:=Lp hf b (num b c).1.toNat (num b c).2.1 (num b c).2.2 []
  unfold bg
  obtain ⟨p,q⟩:=c
  cases hq:(num b (p,q)).2.2 with
  | false=>
    rw [hq] at h
    have e:(num b (p,q)).2=((num b (p,q)).2.1,false):=Prod.ext rfl hq
    rw [e]
    simp only [Bool.false_eq_true,if_false,List.length_nil] at h
    omega
  | true=>
    have h1:=hf b p q hq
    rw [hq] at h
    have e:(num b (p,q)).2=((num b (p,q)).2.1,true):=Prod.ext rfl hq
    rw [e]
    simp only [if_true,List.length_nil] at h
    omega
def fO (x k:Int):Bool:=!(ad.eq (ad.ar .and .i64 x k) 0)
def nk (num:List UInt8→Int × Bool→Int × (Int × Bool)) (b:List UInt8):aK × Bool:=
  let r0:=bg num b (0,true)
  let r1:=bg num b r0.2
  let r2:=bg num b r1.2
  let r3:=bg num b r2.2
  let x:=num b r3.2
  let y:=num b x.2
  (⟨r0.1,[r1.1,r2.1,r3.1],fO x.1 1,fO x.1 2,fO x.1 4,y.1⟩,y.2.2)
def fW:aK:=⟨[],[],false,false,false,0⟩
def dV (b:List UInt8):aK × Bool:=if (nk bN b).2&&(decide (cM (nk bN b).1=b)&&!b.isEmpty) then ((nk bN b).1,true) else (fW,false)
theorem YT (b:List UInt8):nk bN b=nk bP b:=by
  have h0:=zR b (c:=(0,true)) (c':=(0,true)) ⟨rfl,fun _=>rfl⟩
  have h1:=zR b h0.2
  have h2:=zR b h1.2
  have h3:=zR b h2.2
  have h4:=Dj b h3.2
  have h5:=Dj b h4.2
  simp only [nk]
  rw [h0.1,h1.1,h2.1,h3.1,h4.1,h5.1,h5.2.1]
theorem Fg {num:List UInt8→Int × Bool→Int × (Int × Bool)} (hf:W1 num) (b:List UInt8) (hb:b.length≤1000000):cO (nk num b).1:=by
  refine ⟨?_,?_,?_⟩
  · have:=Eh hf b (0,true)
    simp only [nk]
    omega
  · simp [nk]
  · intro xs hx
    simp only [nk,List.mem_cons,List.not_mem_nil,or_false] at hx
    rcases hx with rfl | rfl | rfl
    all_goals exact Nat.le_trans (Eh hf b _) (by omega)
theorem Ql (x k:Int):(!(ad.eq (ad.ar .and .i64 x k) 0))=fO x k:=rfl
abbrev H6 (r:aK × Bool):Rz:=(.aP [.agg (bX none r.1),.bool r.2],[.undef])
theorem MG (b:List UInt8) (hb:b.length≤1000000):Cm 151 [.sl (some true) 1 b.length (bytes b)] (H6 (dV b)):=by
  have w3:∀ (c:Int × Bool) (aA x1 x2 x3:List Int),nk bN b=(⟨aA,[x1,x2,x3],fO (bN b c).1 1,fO (bN b c).1 2,fO (bN b c).1 4,(bN b (bN b c).2).1⟩,(bN b (bN b c).2).2.2)→WP 151 Tryz.f151 [.undef] 0 (gX b.length (bytes b) 3 false false false 0 b.length (bytes b) c.1 c.2 aA.length (ints aA) 3 (rows none [x1,x2,x3]) false false false 0) (H6 (dV b)):=by
    intro c aA x1 x2 x3 hp
    have cQ:=Fg aam b hb
    refine WP.fin fun J=>?_
    rw [oE]
    unfold dV
    rw [hp] at cQ ⊢
    have hv:=wj (g:=true) (m:=⟨aA,[x1,x2,x3],fO (bN b c).1 1,fO (bN b c).1 2,fO (bN b c).1 4,(bN b (bN b c).2).1⟩) (hm:=cQ)
    have lH:∀ t:bE Rz,aL 157 [.agg [.sl (some true) 1 aA.length (ints aA),.sl (some true) 1 3 (rows (some true) [x1,x2,x3]),.bool (fO (bN b c).1 1),.bool (fO (bN b c).1 2),.bool (fO (bN b c).1 4),.int .i64 (bN b (bN b c).2).1]] t=_:=hv
    simp (disch:=first | omega | assumption) only [bA,gn,zM,cd,gS,aE,ao,eI,aH,bf,bJ,Ql,hC,iK,Ff,lH,dv,Qi,Qj]
    generalize (bN b (bN b c).2).2.2=q1
    generalize cM _=l
    cases q1 with
    | false=>rfl
    | true=>
      by_cases h1:l=b
      · subst h1
        cases l with
        | nil=>simp [br,ad,fW,rows,ints]
        | cons a l=>
          simp only [bY,aH,decide_true]
          rw [ej (by simp only [ay,List.length_cons]; omega)]
          simp [fW]
      · simp [br,h1,fW,rows,ints]
  have w2:=WP.go (f:=151) (fn:=Tryz.f151) (sk:=[.undef]) (j:=0) (h:=gX b.length (bytes b) 2 false false false 0 b.length (bytes b) (bg bN b (bg bN b (bg bN b (0,true)).2).2).2.1 (bg bN b (bg bN b (bg bN b (0,true)).2).2).2.2 (bg bN b (0,true)).1.length (ints (bg bN b (0,true)).1) 2 (rows none [(bg bN b (bg bN b (0,true)).2).1,(bg bN b (bg bN b (bg bN b (0,true)).2).2).1]) false false false 0) _ (w3 (bg bN b (bg bN b (bg bN b (bg bN b (0,true)).2).2).2).2 (bg bN b (0,true)).1 (bg bN b (bg bN b (0,true)).2).1 (bg bN b (bg bN b (bg bN b (0,true)).2).2).1 (bg bN b (bg bN b (bg bN b (bg bN b (0,true)).2).2).2).1 rfl) fun J hJ=>by
    rw [oE]
    simp (disch:=first | omega | assumption) only [aY,gn,jH,tg,dv,cd,gS,aE,ao,eI,iT,aH,bf,eD]
    exact hJ
  have w1:=WP.go (f:=151) (fn:=Tryz.f151) (sk:=[.undef]) (j:=0) (h:=gX b.length (bytes b) 1 false false false 0 b.length (bytes b) (bg bN b (bg bN b (0,true)).2).2.1 (bg bN b (bg bN b (0,true)).2).2.2 (bg bN b (0,true)).1.length (ints (bg bN b (0,true)).1) 1 (rows none [(bg bN b (bg bN b (0,true)).2).1]) false false false 0) _ w2 fun J hJ=>by
    rw [oE]
    simp (disch:=first | omega | assumption) only [aY,gn,jH,tg,dv,cd,gS,aE,ao,eI,iT,aH,bf,eD]
    exact hJ
  have w0:=WP.go (f:=151) (fn:=Tryz.f151) (sk:=[.undef]) (j:=0) (h:=rF b.length (bytes b) 0 false false false 0 b.length (bytes b) (bg bN b (0,true)).2.1 (bg bN b (0,true)).2.2 (bg bN b (0,true)).1.length (ints (bg bN b (0,true)).1) false false false 0) _ w1 fun J hJ=>by
    rw [Fc]
    simp (disch:=first | omega | assumption) only [aY,gn,jH,tg,dv,cd,gS,aE,ao,eI,iT,aH,bf,eD]
    exact hJ
  refine Cm.go MC [.undef] 0 _ w0 fun J hJ=>?_
  rw [MD]
  simp (disch:=first | omega | assumption) only [gn,jH,tg,dv,cd,gS,aE,ao,eI,iT,aH,bf]
  exact hJ
theorem MH (b:List UInt8) (hb:b.length≤1000000):Cm 159 [.sl (some true) 1 b.length (bytes b)] (H6 (dV b)):=by
  have w3:∀ (c:Int × Bool) (aA x1 x2 x3:List Int),nk bP b=(⟨aA,[x1,x2,x3],fO (bP b c).1 1,fO (bP b c).1 2,fO (bP b c).1 4,(bP b (bP b c).2).1⟩,(bP b (bP b c).2).2.2)→WP 159 Tryz.f159 [.undef] 0 (gY b.length (bytes b) 3 false false false 0 b.length (bytes b) c.1 c.2 aA.length (ints aA) 3 (rows none [x1,x2,x3]) false false false 0) (H6 (dV b)):=by
    intro c aA x1 x2 x3 hp
    have cQ:=Fg af9 b hb
    refine WP.fin fun J=>?_
    rw [oF]
    unfold dV
    rw [YT,hp]
    rw [hp] at cQ
    have hv:=wk (g:=true) (m:=⟨aA,[x1,x2,x3],fO (bP b c).1 1,fO (bP b c).1 2,fO (bP b c).1 4,(bP b (bP b c).2).1⟩) (hm:=cQ)
    have lH:∀ t:bE Rz,aL 166 [.agg [.sl (some true) 1 aA.length (ints aA),.sl (some true) 1 3 (rows (some true) [x1,x2,x3]),.bool (fO (bP b c).1 1),.bool (fO (bP b c).1 2),.bool (fO (bP b c).1 4),.int .i64 (bP b (bP b c).2).1]] t=_:=hv
    simp (disch:=first | omega | assumption) only [bA,gn,zN,cd,gS,aE,ao,eI,aH,bf,bJ,Ql,hC,iK,iD,lH,dv,Ck]
    generalize (bP b (bP b c).2).2.2=q1
    generalize cM _=l
    cases q1 with
    | false=>rfl
    | true=>
      by_cases h1:l=b
      · subst h1
        cases l with
        | nil=>simp [br,ad,fW,rows,ints]
        | cons a l=>
          simp only [bY,aH,decide_true]
          rw [ej (by simp only [ay,List.length_cons]; omega)]
          simp [fW]
      · cases ad.eq (ad.aX l.length) 0<;>simp [br,h1,fW,rows,ints]
  have w2:=WP.go (f:=159) (fn:=Tryz.f159) (sk:=[.undef]) (j:=0) (h:=gY b.length (bytes b) 2 false false false 0 b.length (bytes b) (bg bP b (bg bP b (bg bP b (0,true)).2).2).2.1 (bg bP b (bg bP b (bg bP b (0,true)).2).2).2.2 (bg bP b (0,true)).1.length (ints (bg bP b (0,true)).1) 2 (rows none [(bg bP b (bg bP b (0,true)).2).1,(bg bP b (bg bP b (bg bP b (0,true)).2).2).1]) false false false 0) _ (w3 (bg bP b (bg bP b (bg bP b (bg bP b (0,true)).2).2).2).2 (bg bP b (0,true)).1 (bg bP b (bg bP b (0,true)).2).1 (bg bP b (bg bP b (bg bP b (0,true)).2).2).1 (bg bP b (bg bP b (bg bP b (bg bP b (0,true)).2).2).2).1 rfl) fun J hJ=>by
    rw [oF]
    simp (disch:=first | omega | assumption) only [aY,gn,jH,th,dv,cd,gS,aE,ao,eI,iT,aH,bf,eD]
    exact hJ
  have w1:=WP.go (f:=159) (fn:=Tryz.f159) (sk:=[.undef]) (j:=0) (h:=gY b.length (bytes b) 1 false false false 0 b.length (bytes b) (bg bP b (bg bP b (0,true)).2).2.1 (bg bP b (bg bP b (0,true)).2).2.2 (bg bP b (0,true)).1.length (ints (bg bP b (0,true)).1) 1 (rows none [(bg bP b (bg bP b (0,true)).2).1]) false false false 0) _ w2 fun J hJ=>by
    rw [oF]
    simp (disch:=first | omega | assumption) only [aY,gn,jH,th,dv,cd,gS,aE,ao,eI,iT,aH,bf,eD]
    exact hJ
  have w0:=WP.go (f:=159) (fn:=Tryz.f159) (sk:=[.undef]) (j:=0) (h:=rG b.length (bytes b) 0 false false false 0 b.length (bytes b) (bg bP b (0,true)).2.1 (bg bP b (0,true)).2.2 (bg bP b (0,true)).1.length (ints (bg bP b (0,true)).1) false false false 0) _ w1 fun J hJ=>by
    rw [Fe]
    simp (disch:=first | omega | assumption) only [aY,gn,jH,th,dv,cd,gS,aE,ao,eI,iT,aH,bf,eD]
    exact hJ
  refine Cm.go ME [.undef] 0 _ w0 fun J hJ=>?_
  rw [MF]
  simp (disch:=first | omega | assumption) only [gn,jH,th,dv,cd,gS,aE,ao,eI,iT,aH,bf]
  exact hJ
theorem Cl (b:List UInt8) (hb:b.length≤1000000):cO (dV b).1:=by
  unfold dV
  split
  · exact Fg aam b hb
  · exact ⟨by simp [fW],by simp [fW],by simp [fW]⟩
end Go.Proofs.YtockoilcnmljiaaGreat
namespace Go.Proofs.YtockoilcnmljiaaGreat
set_option maxRecDepth 100000
theorem WP.step {f:FuncId} {fn:Func} {sk:List D} {j:Nat} {h:St} {r:Rz} (ht:∀ J:Nat→St→Option Rz,(∀ j' h',WP f fn sk j' h' r→J j' h'=some r)→bF ad aL J f fn sk j h=some r):WP f fn sk j h r:=W.step vQ ht
theorem Cm.step {f:FuncId} {fn:Func} {r:Rz} (ok:Told cfg Tryz.prog f fn) (sk:List D) {args:List D} (ht:∀ J:Nat→St→Option Rz,(∀ j' h',WP f fn sk j' h' r→J j' h'=some r)→aO ad aL J f fn args=some r) (zV:args.map ri=sk:=by rfl):Cm f args r:=by subst zV; exact Comes.step vQ ok ht
section
variable {R:Type} {x y:R}
def tick (n:Nat):Nat:=n+1
@[go_sem] theorem alw:tick 0=1:=by unfold tick; omega
@[congr] theorem aiu {c c':Bool} {z:Nat} (h:c=c') (_:tick 0=z):br c x y=br c' x y:=by rw [h]
@[congr] theorem aiv {g:FuncId} {ds ds':List D} {t:bE Rz} {z:Nat} (h:ds=ds') (_:tick 0=z):aL g ds t=aL g ds' t:=by rw [h]
@[congr] theorem aga {t:bE R} {l l':List D} {z:Nat} (h:l=l') (_:tick 0=z):feed t l=feed t l':=by rw [h]
attribute [go_sem ↓] aH bc
@[go_sem ↓] theorem alx (a b c:Bool) (x y:R):br (br a b c) x y=br a (br b x y) (br c x y):=by cases a<;>rfl
@[go_sem ↓] theorem amX (b:Bool) (x y:R):br (!b) x y=br b y x:=by cases b<;>rfl
@[go_sem] theorem aiw {p:Prop} [Decidable p] (h:p):br (decide p) x y=x:=by rw [decide_eq_true h]; rfl
@[go_sem] theorem aix {p:Prop} [Decidable p] (h:¬p):br (decide p) x y=y:=by rw [decide_eq_false h]; rfl
theorem SN {b:Bool} {r:R} (h1:b=true→x=r) (h2:b=false→y=r):br b x y=r:=by cases b with | true=>exact h1 rfl | false=>exact h2 rfl
theorem bK {p:Prop} [Decidable p] {r:R} (h1:p→x=r) (h2:¬p→y=r):br (decide p) x y=r:=by
  by_cases h:p
  · rw [aiw h]; exact h1 h
  · rw [aix h]; exact h2 h
theorem ie {b:Bool} {r:R} (h1:b=true→x=r) (h2:¬b=true→y=r):br b x y=r:=by cases b with | true=>exact h1 rfl | false=>exact h2 (by simp)
end
theorem WP.up {f:FuncId} {fn:Func} {sk:List D} {j:Nat} {r:Rz} {H:Nat→St} (n:Nat) (inv:Nat→Prop) (hs:∀ i,i≤n→inv i→∀ J:Nat→St→Option Rz,(∀ j' h',WP f fn sk j' h' r→J j' h'=some r)→(i < n→inv (i+1)→J j (H (i+1))=some r)→bF ad aL J f fn sk j (H i)=some r):∀ i,i≤n→inv i→WP f fn sk j (H i) r:=by
  have key:∀ k i,i+k=n→inv i→WP f fn sk j (H i) r:=by
    intro k
    induction k with
    | zero=>intro i hi hv; exact WP.step fun J hJ=>hs i (by omega) hv J hJ (fun h=>absurd h (by omega))
    | succ k ih=>intro i hi hv; exact WP.step fun J hJ=>hs i (by omega) hv J hJ (fun _ h=>hJ _ _ (ih (i+1) (by omega) h))
  exact fun i hi hv=>key (n - i) i (by omega) hv
section
variable {R:Type}
@[go_sem ↓] theorem aly (x:Option R) (l:List D):feed (.done x) l=x:=rfl
@[go_sem ↓] theorem amY (f:Int→bE R) (k:IntKind) (n:Int) (l:List D):feed (.int f) (.int k n::l)=feed (f n) l:=rfl
@[go_sem ↓] theorem alz (f:Bool→bE R) (b:Bool) (l:List D):feed (.bool f) (.bool b::l)=feed (f b) l:=rfl
@[go_sem ↓] theorem amZ (f:ByteArray→bE R) (s:ByteArray) (l:List D):feed (.str f) (.str s::l)=feed (f s) l:=rfl
@[go_sem ↓] theorem aoi (f:Nat→List D→bE R) (s n:Nat) (cs l:List D):feed (.sl f) (.sl none s n cs::l)=feed (f n cs) l:=rfl
@[go_sem ↓] theorem am0 (f:Bool→Nat→List D→bE R) (g:Bool) (s n:Nat) (cs l:List D):feed (.jO f) (.sl (some g) s n cs::l)=feed (f g n cs) l:=rfl
end
@[go_sem ↓] theorem aoj (k:eG) (f:k.T→bE Rz) (x:k.T) (l:List D):feed (.ty k f) (enc k x::l)=feed (f x) l:=I3 k f x l
attribute [go_sem] enc
@[go_sem ↓] theorem aok (ys:List D) (t:bE Rz):aL 999999 [.sl none 0 0 ys] t=feed t [.sl none 0 0 ys]:=x6 ys t
@[go_sem] theorem aK.eta (m:aK):(⟨m.aA,m.bits,m.cK,m.bO,m.held,m.last⟩:aK)=m:=rfl
@[go_sem] theorem aJ.eta (s:aJ):(⟨s.a,s.b⟩:aJ)=s:=rfl
@[go_sem] theorem ae.eta (n:ae):(⟨n.id,n.up,n.cn,n.image,n.mt,n.aN,n.conn,n.sync,n.aM,n.wait⟩:ae)=n:=rfl
@[go_sem] theorem vM.eta (n:vM):(⟨n.kind,n.cell,n.val,n.who,n.aA⟩:vM)=n:=rfl
@[go_sem] theorem rb.eta (n:rb):(⟨n.kind,n.a,n.b⟩:rb)=n:=rfl
@[go_sem] theorem aB.eta (n:aB):(⟨n.nodes,n.bV,n.log,n.safe,n.gen⟩:aB)=n:=rfl
@[go_sem] theorem aol:Int.toNat 2=2:=rfl
@[go_sem] theorem aom:Int.toNat 3=3:=rfl
@[go_sem] theorem aon:Int.toNat 4=4:=rfl
@[go_sem] theorem aoo:Int.toNat 5=5:=rfl
@[go_sem] theorem aop:Int.toNat 6=6:=rfl
@[go_sem] theorem aoq:Int.toNat 7=7:=rfl
@[go_sem] theorem aor:Int.toNat 8=8:=rfl
@[go_sem] theorem aos:Int.toNat 9=9:=rfl
@[go_sem] theorem am1:Int.toNat 10=10:=rfl
@[go_sem] theorem am2:Int.toNat 11=11:=rfl
@[go_sem] theorem am3:Int.toNat 12=12:=rfl
@[go_sem] theorem am4:Int.toNat 13=13:=rfl
@[go_sem] theorem am5:Int.toNat 14=14:=rfl
@[go_sem] theorem am6:Int.toNat 15=15:=rfl
@[go_sem] theorem am7:Int.toNat 16=16:=rfl
@[go_sem] theorem am8:Int.toNat 17=17:=rfl
attribute [go_sem] decide_true decide_false T6 zy ay Nat.zero_add Int.toNat_natCast Int.toNat_zero Int.toNat_one if_true
@[go_sem] theorem aot (a b:Int):ad.eq a b=decide (a=b):=by
  show (a==b)=_
  rfl
@[go_sem] theorem am9 (a b:Bool):ad.beq a b=decide (a=b):=by cases a<;>cases b<;>rfl
@[go_sem] theorem ana (i:Int) (n:Nat):ad.bz i n=decide (0≤i∧i < (n:Int)):=by simp [ad]
@[go_sem] theorem anb (l h:Int) (n:Nat):ad.wT l h n=decide (0≤l∧l≤h∧h≤(n:Int)):=by simp [ad,Bool.and_assoc]
@[go_sem] theorem alA (n b:Nat):ad.fits n b=decide (n*b≤140737488355328):=rfl
@[go_sem] theorem alB (l c:Int) (b:Nat):ad.vH l c b=decide (0≤l∧l≤c∧c*(b:Int)≤140737488355328):=by simp [ad,Bool.and_assoc]
@[go_sem] theorem anc (a b:Nat):ad.neq a b=decide (a=b):=rfl
@[go_sem] theorem ane (i:Int):ad.jk i=i.toNat:=rfl
@[go_sem] theorem alC (a b:Int):ad.pV a b=a.toNat - b.toNat:=rfl
@[go_sem] theorem alD (a:Nat) (i:Int):ad.idx a i 1=a+i.toNat:=by show (a+i.toNat)*1=_; omega
@[go_sem] theorem alE (n:Nat):Nat.mul n 1=n:=Nat.mul_one n
@[go_sem] theorem alF (n:Nat):Nat.mul 0 n=0:=Nat.zero_mul n
@[go_sem] theorem anf (a b:Bool):br a b false=(a&&b):=by cases a<;>rfl
@[go_sem] theorem aou (a b:Bool):br a true b=(a||b):=by cases a<;>rfl
@[go_sem] theorem ang (xs:List Int) (i:Nat):ad.cg .i64 (ints xs) i=decide (i < xs.length):=by
  by_cases h:i < xs.length
  · simp [ad,ints,h,ff]
  · simp [ad,ints,List.getElem?_eq_none (Nat.not_lt.1 h),h]
@[go_sem] theorem alG (xs:List Int) (i:Nat):ad.bm (ints xs) i=xs.getD i 0:=by
  by_cases h:i < xs.length
  · simp [ad,ints,h,vI]
  · simp [ad,ints,List.getElem?_eq_none (Nat.not_lt.1 h),vI]
@[go_sem] theorem alH (xs:List UInt8) (i:Nat):ad.cg .u8 (bytes xs) i=decide (i < xs.length):=by
  by_cases h:i < xs.length
  · simp [ad,bytes,du,h,ff]
  · simp [ad,bytes,List.getElem?_eq_none (Nat.not_lt.1 h),h]
@[go_sem] theorem ajH (xs:List UInt8) (i:Nat):ad.bm (bytes xs) i=((xs.getD i 0).toNat:Int):=by
  by_cases h:i < xs.length
  · simp [ad,bytes,du,h,vI]
  · simp [ad,bytes,List.getElem?_eq_none (Nat.not_lt.1 h),vI]
@[go_sem] theorem anh (xs:List Bool) (i:Nat):ad.cI (aG xs) i=decide (i < xs.length):=by
  by_cases h:i < xs.length
  · simp [ad,aG,h]
  · simp [ad,aG,List.getElem?_eq_none (Nat.not_lt.1 h),h]
@[go_sem] theorem alI (xs:List Bool) (i:Nat):ad.bT (aG xs) i=xs.getD i false:=by
  by_cases h:i < xs.length
  · simp [ad,aG,h,C6]
  · simp [ad,aG,List.getElem?_eq_none (Nat.not_lt.1 h),C6]
@[go_sem] theorem ani (g:Bool) (xs:List (List Int)) (i:Nat):ad.bG 1 (rows (some g) xs) i=decide (i < xs.length):=by
  by_cases h:i < xs.length
  · simp [ad,rows,h]
  · simp [ad,rows,List.getElem?_eq_none (Nat.not_lt.1 h),h]
@[go_sem] theorem alJ {g:Bool} {xs:List (List Int)} {i:Nat} (h:i < xs.length):ad.bD (rows (some g) xs) i=g:=iG h
@[go_sem] theorem alK (xs:List (List Int)) (i:Nat):ad.jN 1 (rows none xs) i=decide (i < xs.length):=by
  by_cases h:i < xs.length
  · simp [ad,rows,h]
  · simp [ad,rows,List.getElem?_eq_none (Nat.not_lt.1 h),h]
@[go_sem] theorem anj (xs:List (List Int)) (i:Nat):ad.VE (rows none xs) i=decide (i < xs.length):=by
  by_cases h:i < xs.length
  · simp [ad,rows,h]
  · simp [ad,rows,List.getElem?_eq_none (Nat.not_lt.1 h),h]
@[go_sem] theorem alL (g:Option Bool) (xs:List (List Int)) (i:Nat):ad.aZ (rows g xs) i=(xs.getD i []).length:=by
  by_cases h:i < xs.length
  · simp [ad,rows,h,cN]
  · simp [ad,rows,List.getElem?_eq_none (Nat.not_lt.1 h),cN]
@[go_sem] theorem alM (g:Option Bool) (xs:List (List Int)) (i:Nat):ad.ba (rows g xs) i=ints (xs.getD i []):=by
  by_cases h:i < xs.length
  · simp [ad,rows,h,cC]
  · simp [ad,rows,List.getElem?_eq_none (Nat.not_lt.1 h),cC,ints]
@[go_sem] theorem ajI (xs:List Int) (i:Nat):ad.slot (ints xs) i=decide (i < xs.length):=by
  by_cases h:i < xs.length
  · simp [ad,ints,h,gM]
  · simp [ad,ints,List.getElem?_eq_none (Nat.not_lt.1 h),h]
@[go_sem] theorem ajJ (xs:List UInt8) (i:Nat):ad.slot (bytes xs) i=decide (i < xs.length):=by
  by_cases h:i < xs.length
  · simp [ad,bytes,du,h,gM]
  · simp [ad,bytes,List.getElem?_eq_none (Nat.not_lt.1 h),h]
@[go_sem] theorem ajK (xs:List Bool) (i:Nat):ad.slot (aG xs) i=decide (i < xs.length):=by
  by_cases h:i < xs.length
  · simp [ad,aG,h,gM]
  · simp [ad,aG,List.getElem?_eq_none (Nat.not_lt.1 h),h]
@[go_sem] theorem ank (xs:List (List Int)):ad.nl (rows none xs)=true:=aah (by simp) xs
attribute [go_sem] iT eI Dg ints_set BA BB tW gB iD kQ hC iK jH gn sU Qi
@[go_sem] theorem alN (xs:List (List Int)) (i n:Nat) (l:List Int) (h:n=l.length):List.set (rows none xs) i (.sl none 1 n (ints l))=rows none (xs.set i l):=by subst h; exact EZ
@[go_sem] theorem ajL (xs:List Int):ad.flat (ints xs)=true:=List.all_eq_true.2 (by intro d hd; obtain ⟨a,_,rfl⟩:=List.mem_map.1 hd; rfl)
@[go_sem] theorem ajM (xs:List UInt8):ad.flat (bytes xs)=true:=List.all_eq_true.2 (by intro d hd; obtain ⟨a,_,rfl⟩:=List.mem_map.1 hd; rfl)
@[go_sem] theorem ajN (xs:List Bool):ad.flat (aG xs)=true:=List.all_eq_true.2 (by intro d hd; obtain ⟨a,_,rfl⟩:=List.mem_map.1 hd; rfl)
@[go_sem] theorem alP (xs:List UInt8):ad.sL (bytes xs)=true:=by
  have:=Ff (x:=true) (y:=false) xs
  rwa [bf] at this
@[go_sem] theorem anl (xs ys:List UInt8):ad.seq (bs xs) (bs ys)=decide (xs=ys):=Qj xs ys
@[go_sem] theorem afb (xs:List Int) (i:Nat):List.drop i (ints xs)=ints (xs.drop i):=by simp [ints,List.map_drop]
@[go_sem] theorem agb (xs ys:List Int):List.append (ints xs) (ints ys)=ints (xs++ys):=by simp [ints]
@[go_sem] theorem ajO (xs:List Int) (x:Int):List.append (ints xs) [D.int .i64 x]=ints (xs++[x]):=by simp [ints]
@[go_sem] theorem aiy (xs:List UInt8) (x:UInt8):List.append (bytes xs) [du x]=bytes (xs++[x]):=by simp [bytes]
@[go_sem] theorem ahe (xs:List UInt8):List.append (bytes xs) [D.int .u8 0]=bytes (xs++[0]):=by simp [bytes,du]
@[go_sem] theorem aiz (x:Int):List.append [] [D.int .i64 x]=ints [x]:=rfl
@[go_sem] theorem ahf (x:UInt8):List.append [] [du x]=bytes [x]:=rfl
@[go_sem] theorem ajP (x:UInt8):ad.flat [du x]=true:=rfl
@[go_sem] theorem ajQ (k:IntKind) (x:Int):ad.flat [D.int k x]=true:=rfl
@[go_sem] theorem anm:ad.nl []=true:=rfl
@[go_sem] theorem ajR (n:Nat):fF n [.int .u8 0]=bytes (List.replicate n 0):=V5 n
@[go_sem] theorem ajS (n:Nat):fF n [.int .i64 0]=ints (List.replicate n 0):=V4 n
@[go_sem] theorem ajT (n:Nat):fF n [.bool false]=aG (List.replicate n false):=V6 n
@[go_sem] theorem ajU (n:Nat):fF n [.nil 1]=rows none (List.replicate n []):=Wf n
@[go_sem] theorem ajV (xs:List UInt8) (i:Nat):List.drop i (bytes xs)=bytes (xs.drop i):=by simp [bytes,List.map_drop]
@[go_sem] theorem ajW (xs:List UInt8) (i:Nat):List.take i (bytes xs)=bytes (xs.take i):=by simp [bytes,List.map_take]
@[go_sem] theorem e_I (x:List Int):iB true (sI none x)=sI (some true) x:=by simp [iB,hC]
@[go_sem] theorem e_B (x:List UInt8):iB true (s8 none x)=s8 (some true) x:=by simp [iB,iD]
@[go_sem] theorem e_L (x:List Bool):iB true (sB none x)=sB (some true) x:=by simp [iB,kQ]
@[go_sem] theorem e_R (x:List (List Int)):iB true (sR none x)=sR (some true) x:=by simp [iB,iK]
@[go_sem] theorem alQ (x:aK):cu true (bX none x)=bX (some true) x:=by simp [iB,cu,hC,iK]
@[go_sem] theorem ajX (x:aJ):cu true (cT none x)=cT (some true) x:=by simp [iB,cu,iD]
@[go_sem] theorem alR (x:ae):cu true (U none x)=U (some true) x:=by simp [iB,cu,hC,iK,iD,kQ]
@[go_sem] theorem ann {a b:Int} (h:-9223372036854775808≤a - b) (h':a - b < 9223372036854775808):ad.ar .sub .i64 a b=a - b:=fI h h'
@[go_sem] theorem aan {a b:Int} (h:-9223372036854775808≤a+b) (h':a+b < 9223372036854775808):ad.ar .add .i64 a b=a+b:=zB h h'
@[go_sem] theorem ajY (x:UInt8):ad.wrap .i64 (x.toNat:Int)=x.toNat:=wrap64 (by omega) (by have:=x.toNat_lt; omega)end Go.Proofs.YtockoilcnmljiaaGreat
namespace Go.Proofs.YtockoilcnmljiaaGreat
set_option maxRecDepth 100000
set_option profiler true
set_option profiler.threshold 1000
section
variable (pr:dA) (cv:Cv Rz) (J:Nat→St→Option Rz)
theorem Fh:Told cfg Tryz.prog 161 Tryz.f161:=⟨by kernel_rfl,Tryz.func161,by kernel_rfl⟩
theorem Fi (x0:aK) (x1:Int):aO pr cv J 161 Tryz.f161 [(.agg (bX (some true) x0)),(.int .i64 x1)]=
    (cv 166 [(.agg (bX (some true) x0))] (.sl (fun dX=>(fun dt=>(.done (br (br (br (pr.nl dt) true false) true false) (cv 167 [(.int .i64 x1)] (.ty eG.B (fun (my:List UInt8)=>(.done (br (br (pr.flat [(.int .u8 (pr.wrap .u8 (pr.aX dX)))]) (pr.fits (my.length+1) 1) false) (br (br (pr.flat dt) (pr.fits ((my.length+1)+dX) 1) false) (br (br (pr.le 0 (pr.ar .sub .i64 156 (pr.aX ((my.length+1)+dX)))) (pr.fits (((my.length+1)+dX)+(pr.jk (pr.ar .sub .i64 156 (pr.aX ((my.length+1)+dX))))) 1) false) (cv 167 [(.int .i64 x1)] (.ty eG.B (fun (r8:List UInt8)=>(.done (br (br (pr.flat (bytes r8)) (pr.fits ((((my.length+1)+dX)+(pr.jk (pr.ar .sub .i64 156 (pr.aX ((my.length+1)+dX)))))+r8.length) 1) false) (some ((.sl none 1 ((((my.length+1)+dX)+(pr.jk (pr.ar .sub .i64 156 (pr.aX ((my.length+1)+dX)))))+r8.length) (List.append (List.append (List.append (List.append (bytes my) [(.int .u8 (pr.wrap .u8 (pr.aX dX)))]) dt) (fF (pr.jk (pr.ar .sub .i64 156 (pr.aX ((my.length+1)+dX)))) [(.int .u8 0)])) (bytes r8))),[.undef,.undef])) none))))) none) none) none))))) none)))))):=by kernel_rfl
def nM (x1:Int) (n0:Nat) (c1:List D):St:=(St.mk [(1,(.int .i64 x1)),(6,(.ref 10006 [] 0 none))] [(10006,[(.sl none 1 n0 c1)])] [] 0)
theorem MI:Told cfg Tryz.prog 152 Tryz.f152:=⟨by kernel_rfl,Tryz.func152,by kernel_rfl⟩
theorem MJ (x0:aK) (x1:Int):aO pr cv J 152 Tryz.f152 [(.agg (bX (some true) x0)),(.int .i64 x1)]=
    (cv 157 [(.agg (bX (some true) x0))] (.sl (fun dX=>(fun dt=>(.done (br (br (br (pr.nl dt) true false) true false) (cv 158 [(.int .i64 x1)] (.ty eG.B (fun (my:List UInt8)=>(.done (br (br (pr.flat [(.int .u8 (pr.wrap .u8 (pr.aX dX)))]) (pr.fits (my.length+1) 1) false) (br (br (pr.flat dt) (pr.fits ((my.length+1)+dX) 1) false) (J 0 (nM x1 ((my.length+1)+dX) (List.append (List.append (bytes my) [(.int .u8 (pr.wrap .u8 (pr.aX dX)))]) dt))) none) none))))) none)))))):=by kernel_rfl
theorem wq (x1:Int) (n0:Nat) (c1:List D):bF pr cv J 152 Tryz.f152 [.undef,.undef] 0 (nM x1 n0 c1)=
    (br (pr.lt (pr.aX n0) 156) (br (br (pr.flat [(.int .u8 0)]) (pr.fits (n0+1) 1) false) (J 0 (nM x1 (n0+1) (List.append c1 [(.int .u8 0)]))) none) (cv 158 [(.int .i64 x1)] (.ty eG.B (fun (ax:List UInt8)=>(.done (br (br (pr.flat (bytes ax)) (pr.fits (n0+ax.length) 1) false) (some ((.sl none 1 (n0+ax.length) (List.append c1 (bytes ax))),[.undef,.undef])) none)))))):=by kernel_rfl
theorem MK:Told cfg Tryz.prog 154 Tryz.f154:=⟨by kernel_rfl,Tryz.func154,by kernel_rfl⟩
theorem ML (x0:List UInt8):aO pr cv J 154 Tryz.f154 [(s8 (some true) x0)]=
    let y1:Option (D × List D):=(some ((.aP [(.agg [(.sl none 1 0 []),(.sl none 1 0 []),(.bool false),(.bool false),(.bool false),(.int .i64 0)]),(.int .i64 0),(.bool false)]),[.undef]))
    let y2:D:=(.int .i64 (pr.ar .or .i64 (pr.ar .or .i64 (pr.ar .or .i64 (pr.wrap .i64 (pr.bm (bytes x0) (pr.idx 0 0 1))) (pr.ar .shl .i64 (pr.wrap .i64 (pr.bm (bytes x0) (pr.idx 0 1 1))) 8)) (pr.ar .shl .i64 (pr.wrap .i64 (pr.bm (bytes x0) (pr.idx 0 2 1))) 16)) (pr.ar .shl .i64 (pr.wrap .i64 (pr.bm (bytes x0) (pr.idx 0 3 1))) 24)))
    let y3:Int:=(pr.ar .add .i64 5 (pr.wrap .i64 (pr.bm (bytes x0) (pr.idx 0 4 1))))
    let y4:Nat:=(pr.pV y3 5)
    (br (br (pr.eq (pr.aX x0.length) 160) false true) y1 (br (pr.bz 0 x0.length) (br (br (pr.cg .u8 (bytes x0) (pr.idx 0 0 1)) true false) (br (pr.bz 1 x0.length) (br (br (pr.cg .u8 (bytes x0) (pr.idx 0 1 1)) true false) (br (br (pr.lt 8 0) false true) (br (pr.bz 2 x0.length) (br (br (pr.cg .u8 (bytes x0) (pr.idx 0 2 1)) true false) (br (br (pr.lt 16 0) false true) (br (pr.bz 3 x0.length) (br (br (pr.cg .u8 (bytes x0) (pr.idx 0 3 1)) true false) (br (br (pr.lt 24 0) false true) (br (pr.bz 4 x0.length) (br (br (pr.cg .u8 (bytes x0) (pr.idx 0 4 1)) true false) (cv 75 [y2,(.int .i64 1),(.int .i64 1000000)] (.bool (fun bR=>(.done (br (br bR false true) y1 (br (pr.lt 151 (pr.wrap .i64 (pr.bm (bytes x0) (pr.idx 0 4 1)))) y1 (br (pr.wT 5 y3 x0.length) (cv 159 [(.sl (some true) 1 y4 (List.take (Nat.mul y4 1) (List.drop (Nat.mul (pr.jk 5) 1) (bytes x0))))] (.ty eG.mt (fun (fo:aK)=>(.bool (fun iC=>(.done (br (br iC false true) y1 (cv 161 [(.agg (cu true (bX none fo))),y2] (.ty eG.B (fun (r8:List UInt8)=>(.done (cv 160 [(iB true (s8 none r8)),(s8 (some true) x0)] (.bool (fun Wd=>(.done (br (br Wd false true) y1 (some ((.aP [(.agg (bX none fo)),y2,(.bool true)]),[.undef])))))))))))))))))) none))))))) none) none) none) none) none) none) none) none) none) none) none) none) none)):=by kernel_rfl
theorem MM:Told cfg Tryz.prog 139 Tryz.f139:=⟨by kernel_rfl,Tryz.func139,by kernel_rfl⟩
theorem MN (x0:List UInt8):aO pr cv J 139 Tryz.f139 [(s8 (some true) x0)]=
    let y1:Option (D × List D):=(some ((.aP [(.agg [(.sl none 1 0 []),(.sl none 1 0 []),(.bool false),(.bool false),(.bool false),(.int .i64 0)]),(.int .i64 0),(.bool false)]),[.undef]))
    let y2:D:=(.int .i64 (pr.ar .add .i64 (pr.ar .add .i64 (pr.ar .add .i64 (pr.wrap .i64 (pr.bm (bytes x0) (pr.idx 0 0 1))) (pr.ar .shl .i64 (pr.wrap .i64 (pr.bm (bytes x0) (pr.idx 0 1 1))) 8)) (pr.ar .shl .i64 (pr.wrap .i64 (pr.bm (bytes x0) (pr.idx 0 2 1))) 16)) (pr.ar .shl .i64 (pr.wrap .i64 (pr.bm (bytes x0) (pr.idx 0 3 1))) 24)))
    let y3:Int:=(pr.ar .add .i64 5 (pr.wrap .i64 (pr.bm (bytes x0) (pr.idx 0 4 1))))
    let y4:Nat:=(pr.pV y3 5)
    (br (br (pr.eq (pr.aX x0.length) 160) false true) y1 (br (pr.bz 0 x0.length) (br (br (pr.cg .u8 (bytes x0) (pr.idx 0 0 1)) true false) (br (pr.bz 1 x0.length) (br (br (pr.cg .u8 (bytes x0) (pr.idx 0 1 1)) true false) (br (br (pr.lt 8 0) false true) (br (pr.bz 2 x0.length) (br (br (pr.cg .u8 (bytes x0) (pr.idx 0 2 1)) true false) (br (br (pr.lt 16 0) false true) (br (pr.bz 3 x0.length) (br (br (pr.cg .u8 (bytes x0) (pr.idx 0 3 1)) true false) (br (br (pr.lt 24 0) false true) (br (pr.bz 4 x0.length) (br (br (pr.cg .u8 (bytes x0) (pr.idx 0 4 1)) true false) (cv 69 [y2,(.int .i64 1),(.int .i64 1000000)] (.bool (fun bR=>(.done (br (br bR false true) y1 (br (pr.lt 151 (pr.wrap .i64 (pr.bm (bytes x0) (pr.idx 0 4 1)))) y1 (br (pr.wT 5 y3 x0.length) (cv 151 [(.sl (some true) 1 y4 (List.take (Nat.mul y4 1) (List.drop (Nat.mul (pr.jk 5) 1) (bytes x0))))] (.ty eG.mt (fun (fo:aK)=>(.bool (fun iC=>(.done (br (br iC false true) y1 (br (pr.sL (bytes x0)) (cv 152 [(.agg (cu true (bX none fo))),y2] (.ty eG.B (fun (r8:List UInt8)=>(.done (br (pr.sL (bytes r8)) (br (br (pr.seq (pr.Bh (bytes r8)) (pr.Bh (bytes x0))) false true) y1 (some ((.aP [(.agg (bX none fo)),y2,(.bool true)]),[.undef]))) none))))) none)))))))) none))))))) none) none) none) none) none) none) none) none) none) none) none) none) none)):=by kernel_rfl
theorem MO:Told cfg Tryz.prog 146 Tryz.f146:=⟨by kernel_rfl,Tryz.func146,by kernel_rfl⟩
theorem MP (x0:aJ):aO pr cv J 146 Tryz.f146 [(.agg (cT (some true) x0))]=
    (cv 154 [(s8 (some true) x0.a)] (.ty eG.mt (fun (ax:aK)=>(.int (fun gK=>(.bool (fun iC=>(.done (cv 154 [(s8 (some true) x0.b)] (.ty eG.mt (fun (r8:aK)=>(.int (fun ov=>(.bool (fun rl=>(.done (br rl (br (br iC false true) (some ((.aP [(.agg (bX none r8)),(.int .i64 ov),(.bool false)]),[.undef])) (br (pr.lt gK ov) (some ((.aP [(.agg (bX none r8)),(.int .i64 ov),(.bool false)]),[.undef])) (some ((.aP [(.agg (bX none ax)),(.int .i64 gK),(.bool iC)]),[.undef])))) (some ((.aP [(.agg (bX none ax)),(.int .i64 gK),(.bool iC)]),[.undef]))))))))))))))))))):=by kernel_rfl
theorem J2:Told cfg Tryz.prog 138 Tryz.f138:=⟨by kernel_rfl,Tryz.func138,by kernel_rfl⟩
theorem J3 (x0:aJ):aO pr cv J 138 Tryz.f138 [(.agg (cT (some true) x0))]=
    let y1:Option (D × List D):=(some ((.int .i64 0),[.undef]))
    let y2:Option (D × List D):=(some ((.int .i64 1),[.undef]))
    let y3:Option (D × List D):=(some ((.int .i64 (-1)),[.undef]))
    (cv 139 [(s8 (some true) x0.a)] (.ty eG.mt (fun (ax:aK)=>(.int (fun gK=>(.bool (fun iC=>(.done (cv 139 [(s8 (some true) x0.b)] (.ty eG.mt (fun (r8:aK)=>(.int (fun ov=>(.bool (fun rl=>(.done (br iC (br (br rl false true) y1 (br (pr.le ov gK) y1 (br rl y2 y3))) (br rl y2 y3)))))))))))))))))):=by kernel_rfl
theorem J4:Told cfg Tryz.prog 113 Tryz.f113:=⟨by kernel_rfl,Tryz.func113,by kernel_rfl⟩
theorem J5 (x0:aJ):aO pr cv J 113 Tryz.f113 [(.agg (cT (some true) x0))]=
    (cv 146 [(.agg (cT (some true) x0))] (.ty eG.mt (fun (ax:aK)=>(.int (fun gK=>(.bool (fun iC=>(.done (some ((.aP [(.agg (bX none ax)),(.int .i64 gK),(.bool (pr.lt 0 gK))]),[.undef])))))))))):=by kernel_rfl
theorem J6:Told cfg Tryz.prog 102 Tryz.f102:=⟨by kernel_rfl,Tryz.func102,by kernel_rfl⟩
theorem J7 (x0:aJ):aO pr cv J 102 Tryz.f102 [(.agg (cT (some true) x0))]=
    let y1:bE Rz:=(.ty eG.mt (fun (fo:aK)=>(.int (fun rm=>(.bool (fun BD=>(.done (some ((.aP [(.agg (bX none fo)),(.int .i64 rm),(.bool BD)]),[.undef])))))))))
    (cv 138 [(.agg (cT (some true) x0))] (.int (fun dm=>(.done (br (pr.eq dm 1) (cv 139 [(s8 (some true) x0.b)] y1) (cv 139 [(s8 (some true) x0.a)] y1)))))):=by kernel_rfl
end
@[go_sem] theorem rH (a:Nat):(rE a).length=4:=rfl
attribute [go_sem] Ck kP gg
@[go_sem] theorem ab1 (b0:Nat) (b:List UInt8) (e0:b0=b.length) (q0:b.length≤1000000) (t:bE Rz):aL 159 [.sl (some true) 1 b0 (bytes b)] t=feed t [enc .mt ((dV b).1),.bool ((dV b).2)]:=by
  subst e0
  exact bH (r:=.aP [enc .mt ((dV b).1),.bool ((dV b).2)]) (s:=.aP [.ty .mt,.bool]) (ss:=[.undef]) (MH b q0) (by kernel_rfl) (by simp only [au,bq,aU,bt,bu,af,aj,Bool.and_self]) (by simp only [af,aF,au,aj,Bool.and_self]) (by first | rfl | simp only [aq,aS,aR,bn,bo,aT,bp,Bool.and_self]) (by first | rfl | simp only [List.all_cons,List.all_nil,aq,Bool.and_self]) t
@[go_sem] theorem ab2 (b0:Nat) (b:List UInt8) (e0:b0=b.length) (q0:b.length≤1000000) (t:bE Rz):aL 151 [.sl (some true) 1 b0 (bytes b)] t=feed t [enc .mt ((dV b).1),.bool ((dV b).2)]:=by
  subst e0
  exact bH (r:=.aP [enc .mt ((dV b).1),.bool ((dV b).2)]) (s:=.aP [.ty .mt,.bool]) (ss:=[.undef]) (MG b q0) (by kernel_rfl) (by simp only [au,bq,aU,bt,bu,af,aj,Bool.and_self]) (by simp only [af,aF,au,aj,Bool.and_self]) (by first | rfl | simp only [aq,aS,aR,bn,bo,aT,bp,Bool.and_self]) (by first | rfl | simp only [List.all_cons,List.all_nil,aq,Bool.and_self]) t
@[go_sem] theorem afc (a:Nat) (q0:a < 4611686018427387904) (t:bE Rz):aL 167 [.int .i64 (a:Int)] t=feed t [enc .B (rE a)]:=by
  exact bH (r:=enc .B (rE a)) (s:=.ty .B) (ss:=[.undef]) (aem a q0) (by kernel_rfl) (by simp only [au,bq,aU,bt,bu,af,aj,Bool.and_self]) (by simp only [af,aF,au,aj,Bool.and_self]) (by first | rfl | simp only [aq,aS,aR,bn,bo,aT,bp,Bool.and_self]) (by first | rfl | simp only [List.all_cons,List.all_nil,aq,Bool.and_self]) t
@[go_sem] theorem aep (a:Nat) (q0:a < 4611686018427387904) (t:bE Rz):aL 158 [.int .i64 (a:Int)] t=feed t [enc .B (rE a)]:=by
  exact bH (r:=enc .B (rE a)) (s:=.ty .B) (ss:=[.undef]) (abE a q0) (by kernel_rfl) (by simp only [au,bq,aU,bt,bu,af,aj,Bool.and_self]) (by simp only [af,aF,au,aj,Bool.and_self]) (by first | rfl | simp only [aq,aS,aR,bn,bo,aT,bp,Bool.and_self]) (by first | rfl | simp only [List.all_cons,List.all_nil,aq,Bool.and_self]) t
def nN (m:aK) (n:Nat):List UInt8:=rE n++[UInt8.ofNat (cM m).length]++cM m++List.replicate (151 - (cM m).length) 0++rE n
@[go_sem] theorem YU (n k:Nat) (a:List Int) (b:List (List Int)) (f o h:Bool) (l:Int) (e1:n=a.length) (e2:k=b.length) (q:cO ⟨a,b,f,o,h,l⟩) (t:bE Rz):aL 157 [.agg [.sl (some true) 1 n (ints a),.sl (some true) 1 k (rows (some true) b),.bool f,.bool o,.bool h,.int .i64 l]] t=feed t [s8 none (cM ⟨a,b,f,o,h,l⟩)]:=by
  subst e1
  subst e2
  exact wj (g:=true) (m:=⟨a,b,f,o,h,l⟩) (hm:=q) t
@[go_sem] theorem YV (n k:Nat) (a:List Int) (b:List (List Int)) (f o h:Bool) (l:Int) (e1:n=a.length) (e2:k=b.length) (q:cO ⟨a,b,f,o,h,l⟩) (t:bE Rz):aL 166 [.agg [.sl (some true) 1 n (ints a),.sl (some true) 1 k (rows (some true) b),.bool f,.bool o,.bool h,.int .i64 l]] t=feed t [s8 none (cM ⟨a,b,f,o,h,l⟩)]:=by
  subst e1
  subst e2
  exact wk (g:=true) (m:=⟨a,b,f,o,h,l⟩) (hm:=q) t
theorem wu (m:aK) (n:Nat) (q0:cO m) (q1:(cM m).length≤151) (q2:n < 4611686018427387904):Cm 161 [.agg (bX (some true) m),.int .i64 (n:Int)] (s8 none (nN m n),[.undef,.undef]):=by
  refine Cm.step Fh _ fun J _=>?_
  rw [Fi]
  unfold nN
  simp (disch:=first | assumption | omega) only [go_sem,ay]
  have e:(156 - ((4+1+(cM m).length:Nat):Int)).toNat=151 - (cM m).length:=by omega
  rw [e]
  simp only [s8,List.length_append,rH,List.length_replicate,List.length_singleton]
@[go_sem] theorem YW (oG:Nat) (gj:List Int) (oH:Nat) (gk:List (List Int)) (ig:Bool) (ij:Bool) (ik:Bool) (il:Int) (n:Nat) (e0:oG=gj.length) (e1:oH=gk.length) (q0:cO (⟨gj,gk,ig,ij,ik,il⟩:aK)) (q1:(cM (⟨gj,gk,ig,ij,ik,il⟩:aK)).length≤151) (q2:n < 4611686018427387904) (t:bE Rz):aL 161 [.agg [.sl (some true) 1 oG (ints gj),.sl (some true) 1 oH (rows (some true) gk),.bool ig,.bool ij,.bool ik,.int .i64 il],.int .i64 (n:Int)] t=feed t [enc .B (nN (⟨gj,gk,ig,ij,ik,il⟩:aK) n)]:=by
  subst e0
  subst e1
  exact bH (r:=enc .B (nN (⟨gj,gk,ig,ij,ik,il⟩:aK) n)) (s:=.ty .B) (ss:=[.undef,.undef]) (wu (⟨gj,gk,ig,ij,ik,il⟩:aK) n q0 q1 q2) (by kernel_rfl) (by simp only [au,bq,aU,bt,bu,af,aj,Bool.and_self]) (by simp only [af,aF,au,aj,Bool.and_self]) (by first | rfl | simp only [aq,aS,aR,bn,bo,aT,bp,Bool.and_self]) (by first | rfl | simp only [List.all_cons,List.all_nil,aq,Bool.and_self]) t
theorem Ar (m:aK) (n:Nat) (q0:cO m) (q1:(cM m).length≤151) (q2:n < 4611686018427387904):Cm 152 [.agg (bX (some true) m),.int .i64 (n:Int)] (s8 none (nN m n),[.undef,.undef]):=by
  have key:∀ k (o:List UInt8),o.length+k=156→WP 152 Tryz.f152 [.undef,.undef] 0 (nM (n:Int) o.length (bytes o)) (s8 none (o++List.replicate k 0++rE n),[.undef,.undef]):=by
    intro k
    induction k with
    | zero=>
      intro o ho
      refine WP.step fun J _=>?_
      rw [wq]
      simp (disch:=first | assumption | omega) only [go_sem]
      simp only [s8,List.replicate_zero,List.append_nil,List.length_append,rH]
    | succ k ih=>
      intro o ho
      refine WP.step fun J hJ=>?_
      rw [wq]
      simp (disch:=first | assumption | omega) only [go_sem]
      have h:=ih (o++[0]) (by simp only [List.length_append,List.length_singleton]; omega)
      rw [List.length_append,List.length_singleton,List.append_assoc o,List.singleton_append,← List.replicate_succ] at h
      exact hJ _ _ h
  refine Cm.step MI [.undef,.undef] fun J hJ=>?_
  rw [MJ]
  simp (disch:=first | assumption | omega) only [go_sem]
  have h:=key (151 - (cM m).length) (rE n++[UInt8.ofNat (cM m).length]++cM m) (by simp only [List.length_append,rH,List.length_singleton]; omega)
  rw [List.length_append,List.length_append,rH,List.length_singleton] at h
  exact hJ _ _ h
@[go_sem] theorem ab3 (oG:Nat) (gj:List Int) (oH:Nat) (gk:List (List Int)) (ig:Bool) (ij:Bool) (ik:Bool) (il:Int) (n:Nat) (e0:oG=gj.length) (e1:oH=gk.length) (q0:cO (⟨gj,gk,ig,ij,ik,il⟩:aK)) (q1:(cM (⟨gj,gk,ig,ij,ik,il⟩:aK)).length≤151) (q2:n < 4611686018427387904) (t:bE Rz):aL 152 [.agg [.sl (some true) 1 oG (ints gj),.sl (some true) 1 oH (rows (some true) gk),.bool ig,.bool ij,.bool ik,.int .i64 il],.int .i64 (n:Int)] t=feed t [enc .B (nN (⟨gj,gk,ig,ij,ik,il⟩:aK) n)]:=by
  subst e0
  subst e1
  exact bH (r:=enc .B (nN (⟨gj,gk,ig,ij,ik,il⟩:aK) n)) (s:=.ty .B) (ss:=[.undef,.undef]) (Ar (⟨gj,gk,ig,ij,ik,il⟩:aK) n q0 q1 q2) (by kernel_rfl) (by simp only [au,bq,aU,bt,bu,af,aj,Bool.and_self]) (by simp only [af,aF,au,aj,Bool.and_self]) (by first | rfl | simp only [aq,aS,aR,bn,bo,aT,bp,Bool.and_self]) (by first | rfl | simp only [List.all_cons,List.all_nil,aq,Bool.and_self]) t
def mR (b:List UInt8):Nat:=(b.getD 0 0).toNat+(b.getD 1 0).toNat*256+(b.getD 2 0).toNat*65536+(b.getD 3 0).toNat*16777216
def lR (b:List UInt8):List UInt8:=(b.drop 5).take (b.getD 4 0).toNat
def gD (b:List UInt8):Bool:=decide ((b.length:Int)=160)&&(decide (1≤(mR b:Int)∧(mR b:Int)≤1000000)&&(!decide (151 < ((b.getD 4 0).toNat:Int))&&((dV (lR b)).2&&decide (nN (dV (lR b)).1 (mR b)=b))))
def ct (b:List UInt8):aK × Int × Bool:=if gD b then ((dV (lR b)).1,(mR b:Int),true) else (fW,0,false)
theorem H7 {b:List UInt8} (h:(dV b).2=true):cM (dV b).1=b:=by
  unfold dV at h ⊢
  split at h
  · rename_i h1
    rw [if_pos h1]
    simp only [Bool.and_eq_true,decide_eq_true_eq] at h1
    exact h1.2.1
  · simp at h
theorem gT {b:List UInt8} (h:gD b=false):ct b=(fW,0,false):=by unfold ct; rw [h]; rfl
theorem xI {b:List UInt8} (h:gD b=true):ct b=((dV (lR b)).1,(mR b:Int),true):=by unfold ct; rw [h]; rfl
theorem Qm {b:List UInt8} (h:b.length=160) (h4:(b.getD 4 0).toNat≤151):(lR b).length=(b.getD 4 0).toNat:=by simp only [lR,List.length_take,List.length_drop]; omega
theorem SO (b:List UInt8):mR b < 4294967296:=by
  have:=(b.getD 0 0).toNat_lt; have:=(b.getD 1 0).toNat_lt; have:=(b.getD 2 0).toNat_lt; have:=(b.getD 3 0).toNat_lt
  unfold mR; omega
theorem zS (b:List UInt8):ad.ar .add .i64 (ad.ar .add .i64 (ad.ar .add .i64 ((b.getD 0 0).toNat:Int) (ad.ar .shl .i64 ((b.getD 1 0).toNat:Int) 8)) (ad.ar .shl .i64 ((b.getD 2 0).toNat:Int) 16)) (ad.ar .shl .i64 ((b.getD 3 0).toNat:Int) 24)=((mR b:Nat):Int):=by
  have h0:=(b.getD 0 0).toNat_lt; have h1:=(b.getD 1 0).toNat_lt; have h2:=(b.getD 2 0).toNat_lt; have h3:=(b.getD 3 0).toNat_lt
  have s1:ad.ar .shl .i64 ((b.getD 1 0).toNat:Int) 8=_:=wc (k:=8) (by omega) (by omega)
  have s2:ad.ar .shl .i64 ((b.getD 2 0).toNat:Int) 16=_:=wc (k:=16) (by omega) (by omega)
  have s3:ad.ar .shl .i64 ((b.getD 3 0).toNat:Int) 24=_:=wc (k:=24) (by omega) (by omega)
  rw [s1,s2,s3,tX (by omega),tX (by omega),tX (by omega)]
  rfl
theorem Dk (b:List UInt8):ad.ar .or .i64 (ad.ar .or .i64 (ad.ar .or .i64 ((b.getD 0 0).toNat:Int) (ad.ar .shl .i64 ((b.getD 1 0).toNat:Int) 8)) (ad.ar .shl .i64 ((b.getD 2 0).toNat:Int) 16)) (ad.ar .shl .i64 ((b.getD 3 0).toNat:Int) 24)=((mR b:Nat):Int):=by
  have h0:=(b.getD 0 0).toNat_lt; have h1:=(b.getD 1 0).toNat_lt; have h2:=(b.getD 2 0).toNat_lt; have h3:=(b.getD 3 0).toNat_lt
  have s1:ad.ar .shl .i64 ((b.getD 1 0).toNat:Int) 8=_:=wc (k:=8) (by omega) (by omega)
  have s2:ad.ar .shl .i64 ((b.getD 2 0).toNat:Int) 16=_:=wc (k:=16) (by omega) (by omega)
  have s3:ad.ar .shl .i64 ((b.getD 3 0).toNat:Int) 24=_:=wc (k:=24) (by omega) (by omega)
  rw [s1,s2,s3,Ny (by omega) (by omega),HW (k:=8) h0,Ny (by omega) (by omega),HW (k:=16) (by omega),Ny (by omega) (by omega),HW (k:=24) (by omega)]
  rfl
theorem aeq {b:List UInt8} (h:¬((b.length:Int)=160)):gD b=false:=by simp only [gD,h,decide_false,Bool.false_and]
theorem aer {b:List UInt8} (h:¬(1≤(mR b:Int)∧(mR b:Int)≤1000000)):gD b=false:=by simp only [gD,h,decide_false,Bool.false_and,Bool.and_false]
theorem aes {b:List UInt8} (h:151 < ((b.getD 4 0).toNat:Int)):gD b=false:=by simp only [gD,h,decide_true,Bool.not_true,Bool.false_and,Bool.and_false]
theorem aet {b:List UInt8} (h:(dV (lR b)).2=false):gD b=false:=by simp only [gD,h,Bool.false_and,Bool.and_false]
theorem aeu {b:List UInt8} (h:¬(nN (dV (lR b)).1 (mR b)=b)):gD b=false:=by simp only [gD,h,decide_false,Bool.and_false]
theorem aev {b:List UInt8} (h1:(b.length:Int)=160) (h2:1≤(mR b:Int)∧(mR b:Int)≤1000000) (h3:¬(151 < ((b.getD 4 0).toNat:Int))) (h4:(dV (lR b)).2=true) (h5:nN (dV (lR b)).1 (mR b)=b):gD b=true:=by simp only [gD,h1,h2,h3,h4,h5,and_self,decide_true,decide_false,Bool.not_false,Bool.and_self]
theorem MQ (b:List UInt8) (q0:b.length≤1048576):Cm 139 [s8 (some true) b] (.aP [.agg (bX none ((ct b).1)),.int .i64 ((ct b).2.1),.bool ((ct b).2.2)],[.undef]):=by
  refine Cm.step MM _ fun J _=>?_
  rw [MN]
  simp (disch:=first | assumption | omega) only [go_sem]
  refine bK (fun hl=>?_) (fun hl=>by rw [gT (aeq hl)]; rfl)
  have h4:=(b.getD 4 0).toNat_lt
  have hw:=SO b
  simp (disch:=first | assumption | omega) only [go_sem,zS]
  refine bK (fun hn=>?_) (fun hn=>by rw [gT (aer hn)]; rfl)
  simp (disch:=first | assumption | omega) only [go_sem]
  refine bK (fun hs=>by rw [gT (aes hs)]; rfl) (fun hs=>?_)
  have hp:=Qm (b:=b) (by omega) (by omega)
  have ep:List.take (b.getD 4 0).toNat (List.drop 5 b)=lR b:=rfl
  have cQ:=Cl (lR b) (by omega)
  have e5:(5+((b.getD 4 0).toNat:Int)).toNat - 5=(b.getD 4 0).toNat:=by omega
  simp (disch:=first | assumption | omega) only [go_sem,e5,ep,zS]
  refine SN (fun hq=>?_) (fun hq=>by rw [gT (aet hq)]; rfl)
  have hm:=H7 hq
  simp (disch:=first | assumption | (rw [hm]; omega) | omega) only [go_sem,zS]
  refine bK (fun he=>?_) (fun he=>by rw [gT (aeu he)]; rfl)
  simp (disch:=first | assumption | omega) only [go_sem,zS,xI (aev hl hn hs hq he)]
@[go_sem] theorem ab4 (b0:Nat) (b:List UInt8) (e0:b0=b.length) (q0:b.length≤1048576) (t:bE Rz):aL 139 [.sl (some true) 1 b0 (bytes b)] t=feed t [enc .mt ((ct b).1),.int .i64 ((ct b).2.1),.bool ((ct b).2.2)]:=by
  subst e0
  exact bH (r:=.aP [enc .mt ((ct b).1),.int .i64 ((ct b).2.1),.bool ((ct b).2.2)]) (s:=.aP [.ty .mt,.int .i64,.bool]) (ss:=[.undef]) (MQ b q0) (by kernel_rfl) (by simp only [au,bq,aU,bt,bu,af,aj,Bool.and_self]) (by simp only [af,aF,au,aj,Bool.and_self]) (by first | rfl | simp only [aq,aS,aR,bn,bo,aT,bp,Bool.and_self]) (by first | rfl | simp only [List.all_cons,List.all_nil,aq,Bool.and_self]) t
theorem MR (b:List UInt8) (q0:b.length≤1048576):Cm 154 [s8 (some true) b] (.aP [.agg (bX none ((ct b).1)),.int .i64 ((ct b).2.1),.bool ((ct b).2.2)],[.undef]):=by
  refine Cm.step MK _ fun J _=>?_
  rw [ML]
  simp (disch:=first | assumption | omega) only [go_sem]
  refine bK (fun hl=>?_) (fun hl=>by rw [gT (aeq hl)]; rfl)
  have h4:=(b.getD 4 0).toNat_lt
  have hw:=SO b
  simp (disch:=first | assumption | omega) only [go_sem,Dk]
  refine bK (fun hn=>?_) (fun hn=>by rw [gT (aer hn)]; rfl)
  simp (disch:=first | assumption | omega) only [go_sem]
  refine bK (fun hs=>by rw [gT (aes hs)]; rfl) (fun hs=>?_)
  have hp:=Qm (b:=b) (by omega) (by omega)
  have ep:List.take (b.getD 4 0).toNat (List.drop 5 b)=lR b:=rfl
  have cQ:=Cl (lR b) (by omega)
  have e5:(5+((b.getD 4 0).toNat:Int)).toNat - 5=(b.getD 4 0).toNat:=by omega
  simp (disch:=first | assumption | omega) only [go_sem,e5,ep,Dk]
  refine SN (fun hq=>?_) (fun hq=>by rw [gT (aet hq)]; rfl)
  have hm:=H7 hq
  simp (disch:=first | assumption | (rw [hm]; omega) | omega) only [go_sem,Dk]
  refine bK (fun he=>?_) (fun he=>by rw [gT (aeu he)]; rfl)
  simp (disch:=first | assumption | omega) only [go_sem,Dk,xI (aev hl hn hs hq he)]
@[go_sem] theorem ab5 (b0:Nat) (b:List UInt8) (e0:b0=b.length) (q0:b.length≤1048576) (t:bE Rz):aL 154 [.sl (some true) 1 b0 (bytes b)] t=feed t [enc .mt ((ct b).1),.int .i64 ((ct b).2.1),.bool ((ct b).2.2)]:=by
  subst e0
  exact bH (r:=.aP [enc .mt ((ct b).1),.int .i64 ((ct b).2.1),.bool ((ct b).2.2)]) (s:=.aP [.ty .mt,.int .i64,.bool]) (ss:=[.undef]) (MR b q0) (by kernel_rfl) (by simp only [au,bq,aU,bt,bu,af,aj,Bool.and_self]) (by simp only [af,aF,au,aj,Bool.and_self]) (by first | rfl | simp only [aq,aS,aR,bn,bo,aT,bp,Bool.and_self]) (by first | rfl | simp only [List.all_cons,List.all_nil,aq,Bool.and_self]) t
theorem Lq (b:List UInt8):cO (ct b).1:=by
  unfold ct
  split
  · exact Cl (lR b) (by have:=(b.getD 4 0).toNat_lt; simp only [lR,List.length_take,List.length_drop]; omega)
  · exact ⟨by simp [fW],by simp [fW],by simp [fW]⟩
theorem H8 (b:List UInt8):if (ct b).2.2 then 1≤(ct b).2.1∧(ct b).2.1≤1000000 else ct b=(fW,0,false):=by
  cases h:gD b with
  | false=>rw [gT h]; rfl
  | true=>
    rw [xI h]
    simp only [gD,Bool.and_eq_true,decide_eq_true_eq] at h
    exact h.2.1
def H9 (s:aJ):Bool:=(ct s.b).2.2&&(!(ct s.a).2.2||decide ((ct s.a).2.1 < (ct s.b).2.1))
def aV (s:aJ):aK × Int × Bool:=if H9 s then ct s.b else ct s.a
def pd (s:aJ):Bool:=!H9 s&&(ct s.a).2.2
theorem As (s:aJ) (q0:dN s):Cm 146 [.agg (cT (some true) s)] (.aP [.agg (bX none ((((aV s).1,(aV s).2.1,pd s)).1)),.int .i64 ((((aV s).1,(aV s).2.1,pd s)).2.1),.bool ((((aV s).1,(aV s).2.1,pd s)).2.2)],[.undef]):=by
  have qa:=q0.a
  have qb:=q0.b
  have h1:=H8 s.a
  refine Cm.step MO _ fun J _=>?_
  rw [MP]
  simp (disch:=first | assumption | omega) only [go_sem]
  unfold aV pd H9
  generalize ct s.a=a at*
  generalize ct s.b=b at*
  obtain ⟨a1,a2,a3⟩:=a
  obtain ⟨b1,b2,b3⟩:=b
  cases a3<;>cases b3<;>by_cases h:a2 < b2<;>simp [br,h,enc,T6]
@[go_sem] theorem ab6 (wv:Nat) (fc:List UInt8) (wx:Nat) (fe:List UInt8) (e0:wv=fc.length) (e1:wx=fe.length) (q0:dN (⟨fc,fe⟩:aJ)) (t:bE Rz):aL 146 [.agg [.sl (some true) 1 wv (bytes fc),.sl (some true) 1 wx (bytes fe)]] t=feed t [enc .mt ((((aV (⟨fc,fe⟩:aJ)).1,(aV (⟨fc,fe⟩:aJ)).2.1,pd (⟨fc,fe⟩:aJ))).1),.int .i64 ((((aV (⟨fc,fe⟩:aJ)).1,(aV (⟨fc,fe⟩:aJ)).2.1,pd (⟨fc,fe⟩:aJ))).2.1),.bool ((((aV (⟨fc,fe⟩:aJ)).1,(aV (⟨fc,fe⟩:aJ)).2.1,pd (⟨fc,fe⟩:aJ))).2.2)]:=by
  subst e0
  subst e1
  exact bH (r:=.aP [enc .mt ((((aV (⟨fc,fe⟩:aJ)).1,(aV (⟨fc,fe⟩:aJ)).2.1,pd (⟨fc,fe⟩:aJ))).1),.int .i64 ((((aV (⟨fc,fe⟩:aJ)).1,(aV (⟨fc,fe⟩:aJ)).2.1,pd (⟨fc,fe⟩:aJ))).2.1),.bool ((((aV (⟨fc,fe⟩:aJ)).1,(aV (⟨fc,fe⟩:aJ)).2.1,pd (⟨fc,fe⟩:aJ))).2.2)]) (s:=.aP [.ty .mt,.int .i64,.bool]) (ss:=[.undef]) (As (⟨fc,fe⟩:aJ) q0) (by kernel_rfl) (by simp only [au,bq,aU,bt,bu,af,aj,Bool.and_self]) (by simp only [af,aF,au,aj,Bool.and_self]) (by first | rfl | simp only [aq,aS,aR,bn,bo,aT,bp,Bool.and_self]) (by first | rfl | simp only [List.all_cons,List.all_nil,aq,Bool.and_self]) t
def tY (s:aJ):Int:=if (ct s.a).2.2&&(!(ct s.b).2.2||decide ((ct s.b).2.1≤(ct s.a).2.1)) then 0 else if (ct s.b).2.2 then 1 else -1
theorem yD (s:aJ) (q0:dN s):Cm 138 [.agg (cT (some true) s)] (.int .i64 (tY s),[.undef]):=by
  have qa:=q0.a
  have qb:=q0.b
  refine Cm.step J2 _ fun J _=>?_
  rw [J3]
  simp (disch:=first | assumption | omega) only [go_sem]
  unfold tY
  generalize ct s.a=a
  generalize ct s.b=b
  obtain ⟨a1,a2,a3⟩:=a
  obtain ⟨b1,b2,b3⟩:=b
  cases a3<;>cases b3<;>by_cases h:b2≤a2<;>simp [br,h,zy]
@[go_sem] theorem abG (wv:Nat) (fc:List UInt8) (wx:Nat) (fe:List UInt8) (e0:wv=fc.length) (e1:wx=fe.length) (q0:dN (⟨fc,fe⟩:aJ)) (t:bE Rz):aL 138 [.agg [.sl (some true) 1 wv (bytes fc),.sl (some true) 1 wx (bytes fe)]] t=feed t [.int .i64 (tY (⟨fc,fe⟩:aJ))]:=by
  subst e0
  subst e1
  exact bH (r:=.int .i64 (tY (⟨fc,fe⟩:aJ))) (s:=.int .i64) (ss:=[.undef]) (yD (⟨fc,fe⟩:aJ) q0) (by kernel_rfl) (by simp only [au,bq,aU,bt,bu,af,aj,Bool.and_self]) (by simp only [af,aF,au,aj,Bool.and_self]) (by first | rfl | simp only [aq,aS,aR,bn,bo,aT,bp,Bool.and_self]) (by first | rfl | simp only [List.all_cons,List.all_nil,aq,Bool.and_self]) t
theorem Um (s:aJ):decide (tY s=1)=H9 s:=by
  unfold tY H9
  generalize ct s.a=a
  generalize ct s.b=b
  obtain ⟨a1,a2,a3⟩:=a
  obtain ⟨b1,b2,b3⟩:=b
  cases a3<;>cases b3<;>by_cases h:b2≤a2<;>simp [h]<;>omega
theorem Rl (s:aJ):decide (0 < (aV s).2.1)=(aV s).2.2:=by
  unfold aV
  have key:∀ b,decide (0 < (ct b).2.1)=(ct b).2.2:=fun b=>by
    have h:=H8 b
    split at h
    · rename_i h1
      rw [h1,decide_eq_true (by omega)]
    · rw [h]; rfl
  split<;>exact key _
theorem Ia (s:aJ):cO (aV s).1:=by
  unfold aV
  split
  · exact Lq _
  · exact Lq _
theorem yE (s:aJ) (q0:dN s):Cm 113 [.agg (cT (some true) s)] (.aP [.agg (bX none ((aV s).1)),.int .i64 ((aV s).2.1),.bool ((aV s).2.2)],[.undef]):=by
  refine Cm.step J4 _ fun J _=>?_
  rw [J5]
  simp (disch:=first | assumption | omega) only [go_sem,Rl]
@[go_sem] theorem abH (wv:Nat) (fc:List UInt8) (wx:Nat) (fe:List UInt8) (e0:wv=fc.length) (e1:wx=fe.length) (q0:dN (⟨fc,fe⟩:aJ)) (t:bE Rz):aL 113 [.agg [.sl (some true) 1 wv (bytes fc),.sl (some true) 1 wx (bytes fe)]] t=feed t [enc .mt ((aV (⟨fc,fe⟩:aJ)).1),.int .i64 ((aV (⟨fc,fe⟩:aJ)).2.1),.bool ((aV (⟨fc,fe⟩:aJ)).2.2)]:=by
  subst e0
  subst e1
  exact bH (r:=.aP [enc .mt ((aV (⟨fc,fe⟩:aJ)).1),.int .i64 ((aV (⟨fc,fe⟩:aJ)).2.1),.bool ((aV (⟨fc,fe⟩:aJ)).2.2)]) (s:=.aP [.ty .mt,.int .i64,.bool]) (ss:=[.undef]) (yE (⟨fc,fe⟩:aJ) q0) (by kernel_rfl) (by simp only [au,bq,aU,bt,bu,af,aj,Bool.and_self]) (by simp only [af,aF,au,aj,Bool.and_self]) (by first | rfl | simp only [aq,aS,aR,bn,bo,aT,bp,Bool.and_self]) (by first | rfl | simp only [List.all_cons,List.all_nil,aq,Bool.and_self]) t
theorem yF (s:aJ) (q0:dN s):Cm 102 [.agg (cT (some true) s)] (.aP [.agg (bX none ((aV s).1)),.int .i64 ((aV s).2.1),.bool ((aV s).2.2)],[.undef]):=by
  have qa:=q0.a
  have qb:=q0.b
  refine Cm.step J6 _ fun J _=>?_
  rw [J7]
  simp (disch:=first | assumption | omega) only [go_sem,Um]
  unfold aV
  refine ie (fun h=>?_) (fun h=>?_)
  · simp (disch:=first | assumption | omega) only [go_sem,h]
  · simp (disch:=first | assumption | omega) only [go_sem,if_neg h]
@[go_sem] theorem abI (wv:Nat) (fc:List UInt8) (wx:Nat) (fe:List UInt8) (e0:wv=fc.length) (e1:wx=fe.length) (q0:dN (⟨fc,fe⟩:aJ)) (t:bE Rz):aL 102 [.agg [.sl (some true) 1 wv (bytes fc),.sl (some true) 1 wx (bytes fe)]] t=feed t [enc .mt ((aV (⟨fc,fe⟩:aJ)).1),.int .i64 ((aV (⟨fc,fe⟩:aJ)).2.1),.bool ((aV (⟨fc,fe⟩:aJ)).2.2)]:=by
  subst e0
  subst e1
  exact bH (r:=.aP [enc .mt ((aV (⟨fc,fe⟩:aJ)).1),.int .i64 ((aV (⟨fc,fe⟩:aJ)).2.1),.bool ((aV (⟨fc,fe⟩:aJ)).2.2)]) (s:=.aP [.ty .mt,.int .i64,.bool]) (ss:=[.undef]) (yF (⟨fc,fe⟩:aJ) q0) (by kernel_rfl) (by simp only [au,bq,aU,bt,bu,af,aj,Bool.and_self]) (by simp only [af,aF,au,aj,Bool.and_self]) (by first | rfl | simp only [aq,aS,aR,bn,bo,aT,bp,Bool.and_self]) (by first | rfl | simp only [List.all_cons,List.all_nil,aq,Bool.and_self]) t
end Go.Proofs.YtockoilcnmljiaaGreat
namespace Go.Proofs.YtockoilcnmljiaaGreat
set_option maxRecDepth 100000
section
variable (pr:dA) (cv:Cv Rz) (J:Nat→St→Option Rz)
def iW (x0:ae) (i0:Int):St:=(St.mk [(1,(.ptr 1 [] 0)),(85,(.int .i64 i0))] [(1,(U (some true) x0))] [] 0)
def iX (x0:ae) (i0:Int) (i1:Int):St:=(St.mk [(1,(.ptr 1 [] 0)),(139,(sI (some true) x0.wait)),(140,(.int .i64 i0)),(141,(.int .i64 i1))] [(1,(U (some true) x0))] [] 0)
theorem MS:Told cfg Tryz.prog 48 Tryz.f48:=⟨by kernel_rfl,Tryz.func48,by kernel_rfl⟩
theorem MT (x0:ae):aO pr cv J 48 Tryz.f48 [(.agg (U (some true) x0))]=
    let y1:Option (D × List D):=(some ((.bool false),[.undef]))
    let y2:Option Rz:=(cv 113 [(.agg (cT (some true) x0.aN))] (.ty eG.mt (fun (Qn:aK)=>(.int (fun rT=>(.bool (fun tV=>(.done (br (br tV false true) y1 (cv 114 [(.agg (cu true (bX none Qn))),(.agg (bX (some true) x0.mt))] (.bool (fun vb7=>(.done (br (br vb7 false true) y1 (J 0 (iW x0 0))))))))))))))))
    let y3:Option (D × List D):=(br (br x0.up false true) (br (pr.lt 0 (pr.aX x0.wait.length)) y1 y2) y2)
    (cv 76 [(.int .i64 x0.id)] (.bool (fun bR=>(.done (br (br bR false true) y1 (cv 110 [(sI (some true) x0.image)] (.bool (fun eP=>(.done (br (br eP false true) y1 (cv 111 [(.agg (bX (some true) x0.mt))] (.bool (fun iC=>(.done (br (br iC false true) y1 (br (br (pr.eq (pr.aX x0.conn.length) 3) false true) y1 (cv 112 [(sR (some true) x0.sync)] (.bool (fun BD=>(.done (br (br BD false true) y1 (br (br (pr.eq (pr.aX x0.aM.length) 3) false true) y1 (br x0.cn (br (br x0.up false true) y1 (br (pr.eq x0.id 2) y1 y3)) y3))))))))))))))))))))))):=by kernel_rfl
theorem Fj (x0:ae) (i0:Int):bF pr cv J 48 Tryz.f48 [.undef] 0 (iW x0 i0)=
    let y1:Option (D × List D):=(some ((.bool false),[.undef]))
    let y2:Option Rz:=(J 0 (iW x0 (pr.ar .add .i64 i0 1)))
    let y3:Option (D × List D):=(br (pr.bz i0 x0.sync.length) (br (br (pr.bG 1 (rows (some true) x0.sync) (pr.idx 0 i0 1)) true false) (br (pr.lt 0 (pr.aX (pr.aZ (rows (some true) x0.sync) (pr.idx 0 i0 1)))) (br (pr.bz i0 x0.aM.length) (br (br (pr.cI (aG x0.aM) (pr.idx 0 i0 1)) true false) (br (br (pr.bT (aG x0.aM) (pr.idx 0 i0 1)) false true) y1 y2) none) none) y2) none) none)
    let y4:Option (D × List D):=(br (pr.bz i0 x0.aM.length) (br (br (pr.cI (aG x0.aM) (pr.idx 0 i0 1)) true false) (br (pr.bT (aG x0.aM) (pr.idx 0 i0 1)) (br (pr.bz i0 x0.conn.length) (br (br (pr.cI (aG x0.conn) (pr.idx 0 i0 1)) true false) (br (br (pr.bT (aG x0.conn) (pr.idx 0 i0 1)) false true) y1 y3) none) none) y3) none) none)
    (br (pr.lt i0 3) (br x0.up (br (pr.bz i0 x0.conn.length) (br (br (pr.cI (aG x0.conn) (pr.idx 0 i0 1)) true false) (br (pr.bT (aG x0.conn) (pr.idx 0 i0 1)) (br (br (br (pr.eq i0 x0.id) false true) false true) y1 y4) y4) none) none) (br (pr.bz i0 x0.conn.length) (br (br (pr.cI (aG x0.conn) (pr.idx 0 i0 1)) true false) (br (pr.bT (aG x0.conn) (pr.idx 0 i0 1)) y1 y4) none) none)) (J 2 (iX x0 (pr.aX x0.wait.length) 0))):=by kernel_rfl
theorem Fk (x0:ae) (i0:Int) (i1:Int):bF pr cv J 48 Tryz.f48 [.undef] 2 (iX x0 i0 i1)=
    let y1:Option (D × List D):=(some ((.bool false),[.undef]))
    let y2:Option Rz:=(J 2 (iX x0 i0 (pr.ar .add .i64 i1 1)))
    (br (pr.lt i1 i0) (br (pr.bz i1 x0.wait.length) (br (br (pr.cg .i64 (ints x0.wait) (pr.idx 0 i1 1)) true false) (cv 115 [(.int .i64 (pr.bm (ints x0.wait) (pr.idx 0 i1 1)))] (.bool (fun bR=>(.done (br (br bR false true) y1 (br (pr.lt 0 i1) (br (pr.bz (pr.ar .sub .i64 i1 1) x0.wait.length) (br (br (pr.cg .i64 (ints x0.wait) (pr.idx 0 (pr.ar .sub .i64 i1 1) 1)) true false) (br (pr.le (pr.bm (ints x0.wait) (pr.idx 0 i1 1)) (pr.bm (ints x0.wait) (pr.idx 0 (pr.ar .sub .i64 i1 1) 1))) y1 y2) none) none) y2)))))) none) none) (some ((.bool true),[.undef]))):=by kernel_rfl
def lj (x0:ae) (i0:Int):St:=(St.mk [(1,(.ptr 1 [] 0)),(3,(.int .i64 i0))] [(1,(U (some true) x0))] [] 0)
theorem MU:Told cfg Tryz.prog 41 Tryz.f41:=⟨by kernel_rfl,Tryz.func41,by kernel_rfl⟩
theorem MV (x0:ae):aO pr cv J 41 Tryz.f41 [(.agg (U (some true) x0))]=
    let y1:Option (D × List D):=(some ((.bool false),[.undef]))
    let y2:Option Rz:=(J 0 (lj x0 0))
    let y3:Option (D × List D):=(br (br x0.up false true) (br (pr.lt 0 (pr.aX x0.wait.length)) y1 y2) y2)
    (cv 69 [(.int .i64 x0.id),(.int .i64 0),(.int .i64 2)] (.bool (fun bR=>(.done (br (br bR false true) y1 (cv 99 [(sI (some true) x0.image)] (.bool (fun eP=>(.done (br (br eP false true) y1 (cv 100 [(.agg (bX (some true) x0.mt))] (.bool (fun iC=>(.done (br (br iC false true) y1 (cv 101 [(.agg (U (some true) x0))] (.bool (fun BD=>(.done (br (br BD false true) y1 (br x0.cn (br (br x0.up false true) y1 (br (pr.eq x0.id 2) y1 y3)) y3))))))))))))))))))))):=by kernel_rfl
theorem Fl (x0:ae) (i0:Int):bF pr cv J 41 Tryz.f41 [.undef] 0 (lj x0 i0)=
    let y1:Bool:=(br (pr.cg .i64 (ints x0.wait) (pr.idx 0 i0 1)) true false)
    let y2:Option (D × List D):=(some ((.bool false),[.undef]))
    let y3:Option Rz:=(J 0 (lj x0 (pr.ar .add .i64 i0 1)))
    (br (pr.lt i0 (pr.aX x0.wait.length)) (br (pr.bz i0 x0.wait.length) (br y1 (cv 69 [(.int .i64 (pr.bm (ints x0.wait) (pr.idx 0 i0 1))),(.int .i64 1),(.int .i64 200)] (.bool (fun bR=>(.done (br (br bR false true) y2 (br (pr.lt 0 i0) (br (pr.bz (pr.ar .sub .i64 i0 1) x0.wait.length) (br (br (pr.cg .i64 (ints x0.wait) (pr.idx 0 (pr.ar .sub .i64 i0 1) 1)) true false) (br (pr.bz i0 x0.wait.length) (br y1 (br (pr.le (pr.bm (ints x0.wait) (pr.idx 0 i0 1)) (pr.bm (ints x0.wait) (pr.idx 0 (pr.ar .sub .i64 i0 1) 1))) y2 y3) none) none) none) none) y3)))))) none) none) (cv 102 [(.agg (cT (some true) x0.aN))] (.ty eG.mt (fun (fo:aK)=>(.int (fun rm=>(.bool (fun BD=>(.done (br BD (cv 103 [(.agg (cu true (bX none fo))),(.agg (bX (some true) x0.mt))] (.bool (fun Wd=>(.done (some ((.bool Wd),[.undef])))))) y2)))))))))):=by kernel_rfl
def iz (x0:ae) (i0:Int):St:=(St.mk [(1,(.ptr 1 [] 0)),(3,(.int .i64 i0))] [(1,(U (some true) x0))] [] 0)
theorem J8:Told cfg Tryz.prog 101 Tryz.f101:=⟨by kernel_rfl,Tryz.func101,by kernel_rfl⟩
theorem J9 (x0:ae):aO pr cv J 101 Tryz.f101 [(.agg (U (some true) x0))]=
    let y1:Option (D × List D):=(some ((.bool false),[.undef]))
    (br (br (pr.eq (pr.aX x0.conn.length) 3) false true) y1 (br (br (pr.eq (pr.aX x0.sync.length) 3) false true) y1 (br (br (pr.eq (pr.aX x0.aM.length) 3) false true) y1 (J 0 (iz x0 0))))):=by kernel_rfl
theorem Du (x0:ae) (i0:Int):bF pr cv J 101 Tryz.f101 [.undef] 0 (iz x0 i0)=
    let y1:Bool:=(br (pr.bG 1 (rows (some true) x0.sync) (pr.idx 0 i0 1)) true false)
    let y2:Option (D × List D):=(some ((.bool false),[.undef]))
    let y3:Option Rz:=(J 0 (iz x0 (pr.ar .add .i64 i0 1)))
    let y4:Option (D × List D):=(br (pr.bz i0 x0.conn.length) (br (br (pr.cI (aG x0.conn) (pr.idx 0 i0 1)) true false) (br (pr.bT (aG x0.conn) (pr.idx 0 i0 1)) (br (br x0.up false true) y2 (br (pr.eq i0 x0.id) y2 y3)) y3) none) none)
    let y5:Option (D × List D):=(br (pr.bz i0 x0.aM.length) (br (br (pr.cI (aG x0.aM) (pr.idx 0 i0 1)) true false) (br (pr.bT (aG x0.aM) (pr.idx 0 i0 1)) (br (pr.bz i0 x0.conn.length) (br (br (pr.cI (aG x0.conn) (pr.idx 0 i0 1)) true false) (br (br (pr.bT (aG x0.conn) (pr.idx 0 i0 1)) false true) y2 y4) none) none) y4) none) none)
    (br (pr.lt i0 3) (br (pr.bz i0 x0.sync.length) (br y1 (cv 136 [(.sl (some (pr.bD (rows (some true) x0.sync) (pr.idx 0 i0 1))) 1 (pr.aZ (rows (some true) x0.sync) (pr.idx 0 i0 1)) (pr.ba (rows (some true) x0.sync) (pr.idx 0 i0 1)))] (.bool (fun bR=>(.done (br (br bR false true) y2 (br (pr.bz i0 x0.sync.length) (br y1 (br (pr.lt 0 (pr.aX (pr.aZ (rows (some true) x0.sync) (pr.idx 0 i0 1)))) (br (pr.bz i0 x0.aM.length) (br (br (pr.cI (aG x0.aM) (pr.idx 0 i0 1)) true false) (br (br (pr.bT (aG x0.aM) (pr.idx 0 i0 1)) false true) y2 y5) none) none) y5) none) none)))))) none) none) (some ((.bool true),[.undef]))):=by kernel_rfl
end
@[go_sem] theorem ab7 (oG:Nat) (gj:List Int) (oH:Nat) (gk:List (List Int)) (ig:Bool) (ij:Bool) (ik:Bool) (il:Int) (e0:oG=gj.length) (e1:oH=gk.length) (q0:cO (⟨gj,gk,ig,ij,ik,il⟩:aK)) (t:bE Rz):aL 111 [.agg [.sl (some true) 1 oG (ints gj),.sl (some true) 1 oH (rows (some true) gk),.bool ig,.bool ij,.bool ik,.int .i64 il]] t=feed t [.bool (gW (⟨gj,gk,ig,ij,ik,il⟩:aK))]:=by
  subst e0
  subst e1
  exact bH (r:=.bool (gW (⟨gj,gk,ig,ij,ik,il⟩:aK))) (s:=.bool) (ss:=[.undef]) (Ac true (⟨gj,gk,ig,ij,ik,il⟩:aK) q0) (by kernel_rfl) (by simp only [au,bq,aU,bt,bu,af,aj,Bool.and_self]) (by simp only [af,aF,au,aj,Bool.and_self]) (by first | rfl | simp only [aq,aS,aR,bn,bo,aT,bp,Bool.and_self]) (by first | rfl | simp only [List.all_cons,List.all_nil,aq,Bool.and_self]) t
@[go_sem] theorem ab8 (oG:Nat) (gj:List Int) (oH:Nat) (gk:List (List Int)) (ig:Bool) (ij:Bool) (ik:Bool) (il:Int) (e0:oG=gj.length) (e1:oH=gk.length) (q0:cO (⟨gj,gk,ig,ij,ik,il⟩:aK)) (t:bE Rz):aL 100 [.agg [.sl (some true) 1 oG (ints gj),.sl (some true) 1 oH (rows (some true) gk),.bool ig,.bool ij,.bool ik,.int .i64 il]] t=feed t [.bool (gW (⟨gj,gk,ig,ij,ik,il⟩:aK))]:=by
  subst e0
  subst e1
  exact bH (r:=.bool (gW (⟨gj,gk,ig,ij,ik,il⟩:aK))) (s:=.bool) (ss:=[.undef]) (Ab true (⟨gj,gk,ig,ij,ik,il⟩:aK) q0) (by kernel_rfl) (by simp only [au,bq,aU,bt,bu,af,aj,Bool.and_self]) (by simp only [af,aF,au,aj,Bool.and_self]) (by first | rfl | simp only [aq,aS,aR,bn,bo,aT,bp,Bool.and_self]) (by first | rfl | simp only [List.all_cons,List.all_nil,aq,Bool.and_self]) t
@[go_sem] theorem aao (oG:Nat) (gj:List Int) (oH:Nat) (gk:List (List Int)) (ig:Bool) (ij:Bool) (ik:Bool) (il:Int) (Qo:Nat) (yG:List Int) (Qp:Nat) (yH:List (List Int)) (Cn:Bool) (Co:Bool) (Cp:Bool) (Cq:Int) (e0:oG=gj.length) (e1:oH=gk.length) (e2:Qo=yG.length) (e3:Qp=yH.length) (q0:cO (⟨gj,gk,ig,ij,ik,il⟩:aK)) (q1:cO (⟨yG,yH,Cn,Co,Cp,Cq⟩:aK)) (t:bE Rz):aL 114 [.agg [.sl (some true) 1 oG (ints gj),.sl (some true) 1 oH (rows (some true) gk),.bool ig,.bool ij,.bool ik,.int .i64 il],.agg [.sl (some true) 1 Qo (ints yG),.sl (some true) 1 Qp (rows (some true) yH),.bool Cn,.bool Co,.bool Cp,.int .i64 Cq]] t=feed t [.bool (lP (⟨gj,gk,ig,ij,ik,il⟩:aK) (⟨yG,yH,Cn,Co,Cp,Cq⟩:aK))]:=by
  subst e0
  subst e1
  subst e2
  subst e3
  exact bH (r:=.bool (lP (⟨gj,gk,ig,ij,ik,il⟩:aK) (⟨yG,yH,Cn,Co,Cp,Cq⟩:aK))) (s:=.bool) (ss:=[.undef,.undef]) (HU true true (⟨gj,gk,ig,ij,ik,il⟩:aK) (⟨yG,yH,Cn,Co,Cp,Cq⟩:aK) q0 q1) (by kernel_rfl) (by simp only [au,bq,aU,bt,bu,af,aj,Bool.and_self]) (by simp only [af,aF,au,aj,Bool.and_self]) (by first | rfl | simp only [aq,aS,aR,bn,bo,aT,bp,Bool.and_self]) (by first | rfl | simp only [List.all_cons,List.all_nil,aq,Bool.and_self]) t
@[go_sem] theorem aap (oG:Nat) (gj:List Int) (oH:Nat) (gk:List (List Int)) (ig:Bool) (ij:Bool) (ik:Bool) (il:Int) (Qo:Nat) (yG:List Int) (Qp:Nat) (yH:List (List Int)) (Cn:Bool) (Co:Bool) (Cp:Bool) (Cq:Int) (e0:oG=gj.length) (e1:oH=gk.length) (e2:Qo=yG.length) (e3:Qp=yH.length) (q0:cO (⟨gj,gk,ig,ij,ik,il⟩:aK)) (q1:cO (⟨yG,yH,Cn,Co,Cp,Cq⟩:aK)) (t:bE Rz):aL 103 [.agg [.sl (some true) 1 oG (ints gj),.sl (some true) 1 oH (rows (some true) gk),.bool ig,.bool ij,.bool ik,.int .i64 il],.agg [.sl (some true) 1 Qo (ints yG),.sl (some true) 1 Qp (rows (some true) yH),.bool Cn,.bool Co,.bool Cp,.int .i64 Cq]] t=feed t [.bool (lP (⟨gj,gk,ig,ij,ik,il⟩:aK) (⟨yG,yH,Cn,Co,Cp,Cq⟩:aK))]:=by
  subst e0
  subst e1
  subst e2
  subst e3
  exact bH (r:=.bool (lP (⟨gj,gk,ig,ij,ik,il⟩:aK) (⟨yG,yH,Cn,Co,Cp,Cq⟩:aK))) (s:=.bool) (ss:=[.undef,.undef]) (HV true true (⟨gj,gk,ig,ij,ik,il⟩:aK) (⟨yG,yH,Cn,Co,Cp,Cq⟩:aK) q0 q1) (by kernel_rfl) (by simp only [au,bq,aU,bt,bu,af,aj,Bool.and_self]) (by simp only [af,aF,au,aj,Bool.and_self]) (by first | rfl | simp only [aq,aS,aR,bn,bo,aT,bp,Bool.and_self]) (by first | rfl | simp only [List.all_cons,List.all_nil,aq,Bool.and_self]) t
@[go_sem] theorem abJ (m0:Nat) (m:List Int) (e0:m0=m.length) (q0:m.length < 4611686018427387904) (t:bE Rz):aL 110 [.sl (some true) 1 m0 (ints m)] t=feed t [.bool (j6 m)]:=by
  subst e0
  exact bH (r:=.bool (j6 m)) (s:=.bool) (ss:=[.undef]) (JU true m q0) (by kernel_rfl) (by simp only [au,bq,aU,bt,bu,af,aj,Bool.and_self]) (by simp only [af,aF,au,aj,Bool.and_self]) (by first | rfl | simp only [aq,aS,aR,bn,bo,aT,bp,Bool.and_self]) (by first | rfl | simp only [List.all_cons,List.all_nil,aq,Bool.and_self]) t
@[go_sem] theorem abK (m0:Nat) (m:List Int) (e0:m0=m.length) (q0:m.length < 4611686018427387904) (t:bE Rz):aL 99 [.sl (some true) 1 m0 (ints m)] t=feed t [.bool (j6 m)]:=by
  subst e0
  exact bH (r:=.bool (j6 m)) (s:=.bool) (ss:=[.undef]) (JT true m q0) (by kernel_rfl) (by simp only [au,bq,aU,bt,bu,af,aj,Bool.and_self]) (by simp only [af,aF,au,aj,Bool.and_self]) (by first | rfl | simp only [aq,aS,aR,bn,bo,aT,bp,Bool.and_self]) (by first | rfl | simp only [List.all_cons,List.all_nil,aq,Bool.and_self]) t
@[go_sem] theorem abL (m0:Nat) (m:List Int) (e0:m0=m.length) (q0:m.length < 4611686018427387904) (t:bE Rz):aL 145 [.sl (some true) 1 m0 (ints m)] t=feed t [.bool (fV m)]:=by
  subst e0
  exact bH (r:=.bool (fV m)) (s:=.bool) (ss:=[.undef]) (yA true m q0) (by kernel_rfl) (by simp only [au,bq,aU,bt,bu,af,aj,Bool.and_self]) (by simp only [af,aF,au,aj,Bool.and_self]) (by first | rfl | simp only [aq,aS,aR,bn,bo,aT,bp,Bool.and_self]) (by first | rfl | simp only [List.all_cons,List.all_nil,aq,Bool.and_self]) t
@[go_sem] theorem abM (m0:Nat) (m:List Int) (e0:m0=m.length) (q0:m.length < 4611686018427387904) (t:bE Rz):aL 136 [.sl (some true) 1 m0 (ints m)] t=feed t [.bool (fV m)]:=by
  subst e0
  exact bH (r:=.bool (fV m)) (s:=.bool) (ss:=[.undef]) (yz true m q0) (by kernel_rfl) (by simp only [au,bq,aU,bt,bu,af,aj,Bool.and_self]) (by simp only [af,aF,au,aj,Bool.and_self]) (by first | rfl | simp only [aq,aS,aR,bn,bo,aT,bp,Bool.and_self]) (by first | rfl | simp only [List.all_cons,List.all_nil,aq,Bool.and_self]) t
@[go_sem] theorem ab9 (m0:Nat) (m:List Int) (e0:m0=m.length) (q0:m.length < 4611686018427387904) (t:bE Rz):aL 142 [.sl (some true) 1 m0 (ints m)] t=feed t [.bool (jI m)]:=by
  subst e0
  exact bH (r:=.bool (jI m)) (s:=.bool) (ss:=[.undef]) (Aa true m q0) (by kernel_rfl) (by simp only [au,bq,aU,bt,bu,af,aj,Bool.and_self]) (by simp only [af,aF,au,aj,Bool.and_self]) (by first | rfl | simp only [aq,aS,aR,bn,bo,aT,bp,Bool.and_self]) (by first | rfl | simp only [List.all_cons,List.all_nil,aq,Bool.and_self]) t
@[go_sem] theorem aca (m0:Nat) (m:List Int) (e0:m0=m.length) (q0:m.length < 4611686018427387904) (t:bE Rz):aL 137 [.sl (some true) 1 m0 (ints m)] t=feed t [.bool (jI m)]:=by
  subst e0
  exact bH (r:=.bool (jI m)) (s:=.bool) (ss:=[.undef]) (z8 true m q0) (by kernel_rfl) (by simp only [au,bq,aU,bt,bu,af,aj,Bool.and_self]) (by simp only [af,aF,au,aj,Bool.and_self]) (by first | rfl | simp only [aq,aS,aR,bn,bo,aT,bp,Bool.and_self]) (by first | rfl | simp only [List.all_cons,List.all_nil,aq,Bool.and_self]) t
@[go_sem] theorem aaq (m0:Nat) (m:List (List Int)) (e0:m0=m.length) (q0:rU m) (t:bE Rz):aL 112 [.sl (some true) 1 m0 (rows (some true) m)] t=feed t [.bool ((((m.length:Int)==3)&&hD m))]:=by
  subst e0
  exact bH (r:=.bool ((((m.length:Int)==3)&&hD m))) (s:=.bool) (ss:=[.undef]) (HT true m q0) (by kernel_rfl) (by simp only [au,bq,aU,bt,bu,af,aj,Bool.and_self]) (by simp only [af,aF,au,aj,Bool.and_self]) (by first | rfl | simp only [aq,aS,aR,bn,bo,aT,bp,Bool.and_self]) (by first | rfl | simp only [List.all_cons,List.all_nil,aq,Bool.and_self]) t
@[go_sem] theorem acb (a:Int) (t:bE Rz):aL 76 [.int .i64 a] t=feed t [.bool (decide (0≤a∧a≤2))]:=by
  exact bH (r:=.bool (decide (0≤a∧a≤2))) (s:=.bool) (ss:=[.undef]) (YQ a) (by kernel_rfl) (by simp only [au,bq,aU,bt,bu,af,aj,Bool.and_self]) (by simp only [af,aF,au,aj,Bool.and_self]) (by first | rfl | simp only [aq,aS,aR,bn,bo,aT,bp,Bool.and_self]) (by first | rfl | simp only [List.all_cons,List.all_nil,aq,Bool.and_self]) t
@[go_sem] theorem acd (a:Int) (t:bE Rz):aL 77 [.int .i64 a] t=feed t [.bool (decide (0≤a∧a≤7))]:=by
  exact bH (r:=.bool (decide (0≤a∧a≤7))) (s:=.bool) (ss:=[.undef]) (P2 a) (by kernel_rfl) (by simp only [au,bq,aU,bt,bu,af,aj,Bool.and_self]) (by simp only [af,aF,au,aj,Bool.and_self]) (by first | rfl | simp only [aq,aS,aR,bn,bo,aT,bp,Bool.and_self]) (by first | rfl | simp only [List.all_cons,List.all_nil,aq,Bool.and_self]) t
@[go_sem] theorem abN (a:Int) (t:bE Rz):aL 115 [.int .i64 a] t=feed t [.bool (decide (1≤a∧a≤200))]:=by
  exact bH (r:=.bool (decide (1≤a∧a≤200))) (s:=.bool) (ss:=[.undef]) (WU a) (by kernel_rfl) (by simp only [au,bq,aU,bt,bu,af,aj,Bool.and_self]) (by simp only [af,aF,au,aj,Bool.and_self]) (by first | rfl | simp only [aq,aS,aR,bn,bo,aT,bp,Bool.and_self]) (by first | rfl | simp only [List.all_cons,List.all_nil,aq,Bool.and_self]) t
@[go_sem] theorem afd (a:Int) (t:bE Rz):aL 149 [.int .i64 a] t=feed t [.int .i64 (lO a)]:=by
  exact bH (r:=.int .i64 (lO a)) (s:=.int .i64) (ss:=[.undef]) (Rc a) (by kernel_rfl) (by simp only [au,bq,aU,bt,bu,af,aj,Bool.and_self]) (by simp only [af,aF,au,aj,Bool.and_self]) (by first | rfl | simp only [aq,aS,aR,bn,bo,aT,bp,Bool.and_self]) (by first | rfl | simp only [List.all_cons,List.all_nil,aq,Bool.and_self]) t
@[go_sem] theorem afe (a:Int) (t:bE Rz):aL 148 [.int .i64 a] t=feed t [.int .i64 (lO a)]:=by
  exact bH (r:=.int .i64 (lO a)) (s:=.int .i64) (ss:=[.undef]) (Re a) (by kernel_rfl) (by simp only [au,bq,aU,bt,bu,af,aj,Bool.and_self]) (by simp only [af,aF,au,aj,Bool.and_self]) (by first | rfl | simp only [aq,aS,aR,bn,bo,aT,bp,Bool.and_self]) (by first | rfl | simp only [List.all_cons,List.all_nil,aq,Bool.and_self]) t
@[go_sem] theorem aew (m0:Nat) (m:List Int) (a:Int) (e0:m0=m.length) (q0:m.length < 4611686018427387904) (t:bE Rz):aL 84 [.sl (some true) 1 m0 (ints m),.int .i64 a] t=feed t [.bool (decide (a∈m))]:=by
  subst e0
  exact bH (r:=.bool (decide (a∈m))) (s:=.bool) (ss:=[.undef,.undef]) (SG true m a q0) (by kernel_rfl) (by simp only [au,bq,aU,bt,bu,af,aj,Bool.and_self]) (by simp only [af,aF,au,aj,Bool.and_self]) (by first | rfl | simp only [aq,aS,aR,bn,bo,aT,bp,Bool.and_self]) (by first | rfl | simp only [List.all_cons,List.all_nil,aq,Bool.and_self]) t
@[go_sem] theorem Qq (m0:Nat) (m:List Int) (a:Int) (e0:m0=m.length) (q0:m.length < 4611686018427387904) (t:bE Rz):aL 86 [.sl (some true) 1 m0 (ints m),.int .i64 a] t=feed t [.bool (decide (a∈m))]:=by
  subst e0
  exact bH (r:=.bool (decide (a∈m))) (s:=.bool) (ss:=[.undef,.undef]) (HK true m a q0) (by kernel_rfl) (by simp only [au,bq,aU,bt,bu,af,aj,Bool.and_self]) (by simp only [af,aF,au,aj,Bool.and_self]) (by first | rfl | simp only [aq,aS,aR,bn,bo,aT,bp,Bool.and_self]) (by first | rfl | simp only [List.all_cons,List.all_nil,aq,Bool.and_self]) t
@[go_sem] theorem ace (m0:Nat) (m:List Int) (k0:Nat) (k:List Int) (e0:m0=m.length) (e1:k0=k.length) (q0:m.length < 4611686018427387904) (q1:k.length < 4611686018427387904) (t:bE Rz):aL 90 [.sl (some true) 1 m0 (ints m),.sl (some true) 1 k0 (ints k)] t=feed t [.bool (decide (m=k))]:=by
  subst e0
  subst e1
  exact bH (r:=.bool (decide (m=k))) (s:=.bool) (ss:=[.undef,.undef]) (P5 true true m k q0 q1) (by kernel_rfl) (by simp only [au,bq,aU,bt,bu,af,aj,Bool.and_self]) (by simp only [af,aF,au,aj,Bool.and_self]) (by first | rfl | simp only [aq,aS,aR,bn,bo,aT,bp,Bool.and_self]) (by first | rfl | simp only [List.all_cons,List.all_nil,aq,Bool.and_self]) t
@[go_sem] theorem SP (m0:Nat) (m:List Int) (k0:Nat) (k:List Int) (e0:m0=m.length) (e1:k0=k.length) (q0:m.length < 4611686018427387904) (q1:k.length < 4611686018427387904) (t:bE Rz):aL 94 [.sl (some true) 1 m0 (ints m),.sl (some true) 1 k0 (ints k)] t=feed t [.bool (decide (m=k))]:=by
  subst e0
  subst e1
  exact bH (r:=.bool (decide (m=k))) (s:=.bool) (ss:=[.undef,.undef]) (SJ true true m k q0 q1) (by kernel_rfl) (by simp only [au,bq,aU,bt,bu,af,aj,Bool.and_self]) (by simp only [af,aF,au,aj,Bool.and_self]) (by first | rfl | simp only [aq,aS,aR,bn,bo,aT,bp,Bool.and_self]) (by first | rfl | simp only [List.all_cons,List.all_nil,aq,Bool.and_self]) t
def rI (n:ae) (k:Nat):Prop:=(n.conn.getD k false=true→n.up=true∧¬(k:Int)=n.id)∧(n.aM.getD k false=true→n.conn.getD k false=true)∧(0 < ((n.sync.getD k []).length:Int)→n.aM.getD k false=true)
def Un (w:List Int) (i:Nat):Prop:=(1≤w.getD i 0∧w.getD i 0≤200)∧(0 < (i:Int)→¬w.getD i 0≤w.getD (i - 1) 0)
structure rJ (n:ae):Prop where
  id:0≤n.id∧n.id≤2
  image:j6 n.image=true
  mt:gW n.mt=true
  conn:(n.conn.length:Int)=3
  sync:(n.sync.length:Int)=3
  marks:∀ k,k < n.sync.length→fV (n.sync.getD k [])=true
  aM:(n.aM.length:Int)=3
  cn:n.cn=true→n.up=true∧¬n.id=2
  down:¬n.up=true→¬0 < (n.wait.length:Int)
  slot:(aV n.aN).2.2=true
  same:lP (aV n.aN).1 n.mt=true
  link:∀ k,k < 3→rI n k
  wait:∀ i,i < n.wait.length→Un n.wait i
open Classical in
noncomputable def dI (n:ae):Bool:=decide (rJ n)
open Classical in
theorem Uo {n:ae} (h:rJ n):dI n=true:=by unfold dI; exact decide_eq_true h
open Classical in
theorem iN {n:ae} (h:dI n=true):rJ n:=by unfold dI at h; exact of_decide_eq_true h
open Classical in
theorem dT {n:ae} (h:¬rJ n):(some ((.bool false,[.undef]):Rz))=some (.bool (dI n),[.undef]):=by unfold dI; rw [decide_eq_false h]
theorem Lr {n:ae} (h:rJ n):(some ((.bool true,[.undef]):Rz))=some (.bool (dI n),[.undef]):=by rw [Uo h]
theorem Qr {xss:List (List Int)} (h:hD xss=true):∀ k,k < xss.length→fV (xss.getD k [])=true:=fun k hk=>by
  unfold hD at h
  exact List.all_eq_true.1 h k (List.mem_range.2 hk)
theorem Rm {xss:List (List Int)} (h:∀ k,k < xss.length→fV (xss.getD k [])=true):hD xss=true:=by
  unfold hD
  exact List.all_eq_true.2 fun k hk=>h k (List.mem_range.1 hk)
theorem u9 {xss:List (List Int)} (h:rU xss) (k:Nat):(xss.getD k []).length≤1048576:=by
  by_cases hk:k < xss.length
  · rw [bW hk]
    exact h.2 _ (List.getElem_mem hk)
  · rw [List.getD_eq_getElem?_getD,List.getElem?_eq_none (Nat.not_lt.1 hk)]
    simp
theorem aex {R:Type} {p u b2 b3:Bool} {T F r:R} (hT:(p=true→u=true∧b2=false)→(u=false→b3=false)→T=r) (hF:((p=true→u=true∧b2=false)→(u=false→b3=false)→False)→F=r):br p (br (br u false true) F (br b2 F (br (br u false true) (br b3 F T) T))) (br (br u false true) (br b3 F T) T)=r:=by
  cases p<;>cases u<;>cases b2<;>cases b3<;>simp only [br]<;>first | exact hT (by simp) (by simp) | exact hF (by simp)
theorem At (n:ae) (q0:bU n):Cm 48 [.agg (U (some true) n)] (.bool (dI n),[.undef]):=by
  have ok:=q0
  have s1:=ok.image
  have s2:=ok.conn
  have s3:=ok.aM
  have s4:=ok.wait
  have s5:=ok.sync.1
  have s6:=ok.mt
  have s7:=ok.sync
  have s8:=q0.aN
  have s9:=Ia n.aN
  refine Cm.step MS [.undef] fun J hJ=>?_
  rw [MT]
  simp (disch:=first | assumption | omega) only [go_sem]
  refine bK (fun h1=>?_) (fun h=>dT fun o=>h o.id)
  simp (disch:=first | assumption | omega) only [go_sem]
  refine ie (fun h2=>?_) (fun h=>dT fun o=>h o.image)
  simp (disch:=first | assumption | omega) only [go_sem]
  refine ie (fun h3=>?_) (fun h=>dT fun o=>h o.mt)
  simp (disch:=first | assumption | omega) only [go_sem]
  refine bK (fun h4=>?_) (fun h=>dT fun o=>h o.conn)
  simp (disch:=first | assumption | omega) only [go_sem]
  refine ie (fun h5=>?_) (fun h=>dT fun o=>h (by simp only [o.sync,Rm o.marks,Bool.and_true]; rfl))
  simp only [Bool.and_eq_true,beq_iff_eq] at h5
  simp (disch:=first | assumption | omega) only [go_sem]
  refine bK (fun h6=>?_) (fun h=>dT fun o=>h o.aM)
  refine aex (fun h7 h8=>?_) (fun h=>dT fun o=>h (fun hp=>⟨(o.cn hp).1,decide_eq_false (o.cn hp).2⟩) fun hu=>decide_eq_false (o.down (by rw [hu]; simp)))
  have h7:n.cn=true→n.up=true∧¬n.id=2:=fun hp=>⟨(h7 hp).1,of_decide_eq_false (h7 hp).2⟩
  have h8:¬n.up=true→¬0 < (n.wait.length:Int):=fun hu=>of_decide_eq_false (h8 (by simpa using hu))
  simp (disch:=first | assumption | omega) only [go_sem]
  refine ie (fun h9=>?_) (fun h=>dT fun o=>h o.slot)
  simp (disch:=first | assumption | omega) only [go_sem]
  refine ie (fun mZ=>?_) (fun h=>dT fun o=>h o.same)
  have agc:(∀ k,k < 3→rI n k)→WP 48 Tryz.f48 [.undef] 2 (iX n n.wait.length 0) (.bool (dI n),[.undef]):=by
    intro NT
    refine WP.up (H:=fun i=>iX n n.wait.length i) n.wait.length (fun i=>∀ k,k < i→Un n.wait k) (fun i hi inv J _ next=>?_) 0 (Nat.zero_le _) (fun k hk=>absurd hk (by omega))
    rw [Fk]
    simp (disch:=first | assumption | omega) only [go_sem]
    refine bK (fun cX=>?_) (fun qP=>Lr ⟨h1,h2,h3,h4,h5.1,Qr h5.2,h6,h7,h8,h9,mZ,NT,fun k hk=>inv k (by omega)⟩)
    simp (disch:=first | assumption | omega) only [go_sem]
    refine bK (fun ha=>?_) (fun h=>dT fun o=>h (o.wait i (by omega)).1)
    have go:(0 < (i:Int)→¬n.wait.getD i 0≤n.wait.getD (i - 1) 0)→J 2 (iX n n.wait.length ((i:Int)+1))=some (.bool (dI n),[.undef]):=fun hb=>next (by omega) fun k hk=>by
      by_cases e:k=i
      · subst e; exact ⟨ha,hb⟩
      · exact inv k (by omega)
    refine bK (fun qN=>?_) (fun hz=>?_)
    · simp (disch:=first | assumption | omega) only [go_sem]
      have e1:((i:Int) - 1).toNat=i - 1:=by omega
      simp (disch:=first | assumption | omega) only [go_sem,e1]
      exact bK (fun h=>dT fun o=>(o.wait i (by omega)).2 qN h) (fun h=>go fun _=>h)
    · simp (disch:=first | assumption | omega) only [go_sem]
      exact go fun h=>absurd h hz
  refine hJ _ _ ?_
  refine WP.up (H:=fun i=>iW n i) 3 (fun i=>∀ k,k < i→rI n k) (fun i hi inv J hJ next=>?_) 0 (Nat.zero_le _) (fun k hk=>absurd hk (by omega))
  rw [Fj]
  dsimp only
  simp (disch:=first | assumption | omega) only [go_sem]
  refine bK (fun cX=>?_) (fun qP=>hJ _ _ (agc fun k hk=>inv k (by omega)))
  have hi3:i < 3:=by omega
  have go:rI n i→J 0 (iW n ((i:Int)+1))=some (.bool (dI n),[.undef]):=fun hb=>next (by omega) fun k hk=>by
      by_cases e:k=i
      · subst e; exact hb
      · exact inv k (by omega)
  have no:¬rI n i→(some ((.bool false,[.undef]):Rz))=some (.bool (dI n),[.undef]):=fun h=>dT fun o=>h (o.link i hi3)
  have eJ:ad.ar .add .i64 (i:Int) 1=(i:Int)+1:=aan (by omega) (by omega)
  rw [eJ]
  generalize J 0 (iW n ((i:Int)+1))=z at go ⊢
  unfold rI at go no
  cases hc:n.conn.getD i false<;>cases hk:n.aM.getD i false<;>cases hu:n.up<;>by_cases hs:0 < ((n.sync.getD i []).length:Int)<;>by_cases Wu:(i:Int)=n.id<;>simp only [hc,hk,hu,hs,Wu,not_true_eq_false,not_false_eq_true,false_and,and_false,and_true,true_and,forall_const,Bool.false_eq_true,false_implies,imp_self,true_implies,and_self] at go no<;>simp (disch:=first | assumption | omega) only [go_sem,hc,hk,hu]<;>first | exact no | exact go
@[go_sem] theorem acf (tZ:Int) (ub:Bool) (uc:Bool) (w9:Nat) (mz:List Int) (ud:Nat) (iY:List Int) (ue:Nat) (iZ:List (List Int)) (ll:Bool) (lp:Bool) (lq:Bool) (lr:Int) (uf:Nat) (ja:List UInt8) (ug:Nat) (jb:List UInt8) (Cr:Nat) (qA:List Bool) (Cs:Nat) (qB:List (List Int)) (Ct:Nat) (qC:List Bool) (Cu:Nat) (qD:List Int) (e0:w9=mz.length) (e1:ud=iY.length) (e2:ue=iZ.length) (e3:uf=ja.length) (e4:ug=jb.length) (e5:Cr=qA.length) (e6:Cs=qB.length) (e7:Ct=qC.length) (e8:Cu=qD.length) (q0:bU (⟨tZ,ub,uc,mz,(⟨iY,iZ,ll,lp,lq,lr⟩:aK),(⟨ja,jb⟩:aJ),qA,qB,qC,qD⟩:ae)) (t:bE Rz):aL 48 [.agg [.int .i64 tZ,.bool ub,.bool uc,.sl (some true) 1 w9 (ints mz),.sl (some true) 1 ud (ints iY),.sl (some true) 1 ue (rows (some true) iZ),.bool ll,.bool lp,.bool lq,.int .i64 lr,.sl (some true) 1 uf (bytes ja),.sl (some true) 1 ug (bytes jb),.sl (some true) 1 Cr (aG qA),.sl (some true) 1 Cs (rows (some true) qB),.sl (some true) 1 Ct (aG qC),.sl (some true) 1 Cu (ints qD)]] t=feed t [.bool (dI (⟨tZ,ub,uc,mz,(⟨iY,iZ,ll,lp,lq,lr⟩:aK),(⟨ja,jb⟩:aJ),qA,qB,qC,qD⟩:ae))]:=by
  subst e0
  subst e1
  subst e2
  subst e3
  subst e4
  subst e5
  subst e6
  subst e7
  subst e8
  exact bH (r:=.bool (dI (⟨tZ,ub,uc,mz,(⟨iY,iZ,ll,lp,lq,lr⟩:aK),(⟨ja,jb⟩:aJ),qA,qB,qC,qD⟩:ae))) (s:=.bool) (ss:=[.undef]) (At (⟨tZ,ub,uc,mz,(⟨iY,iZ,ll,lp,lq,lr⟩:aK),(⟨ja,jb⟩:aJ),qA,qB,qC,qD⟩:ae) q0) (by kernel_rfl) (by simp only [au,bq,aU,bt,bu,af,aj,Bool.and_self]) (by simp only [af,aF,au,aj,Bool.and_self]) (by first | rfl | simp only [aq,aS,aR,bn,bo,aT,bp,Bool.and_self]) (by first | rfl | simp only [List.all_cons,List.all_nil,aq,Bool.and_self]) t
end Go.Proofs.YtockoilcnmljiaaGreat
namespace Go.Proofs.YtockoilcnmljiaaGreat
set_option maxRecDepth 100000
section
variable (pr:dA) (cv:Cv Rz) (J:Nat→St→Option Rz)
end
structure Dl (n:ae):Prop where
  conn:(n.conn.length:Int)=3
  sync:(n.sync.length:Int)=3
  aM:(n.aM.length:Int)=3
  link:∀ k,k < 3→fV (n.sync.getD k [])=true∧rI n k
open Classical in
noncomputable def oI (n:ae):Bool:=decide (Dl n)
open Classical in
theorem YX {n:ae} (h:oI n=true):Dl n:=by unfold oI at h; exact of_decide_eq_true h
open Classical in
theorem Ls {n:ae} (h:Dl n):oI n=true:=by unfold oI; exact decide_eq_true h
open Classical in
theorem wy {n:ae} (h:¬Dl n):(some ((.bool false,[.undef]):Rz))=some (.bool (oI n),[.undef]):=by unfold oI; rw [decide_eq_false h]
theorem Ka (n:ae) (q0:bU n):Cm 101 [.agg (U (some true) n)] (.bool (oI n),[.undef]):=by
  have ok:=q0
  have s5:=ok.sync.1
  have s7:=ok.sync
  refine Cm.step J8 [.undef] fun J hJ=>?_
  rw [J9]
  simp (disch:=first | assumption | omega) only [go_sem]
  refine bK (fun h1=>?_) (fun h=>wy fun o=>h o.conn)
  simp (disch:=first | assumption | omega) only [go_sem]
  refine bK (fun h2=>?_) (fun h=>wy fun o=>h o.sync)
  simp (disch:=first | assumption | omega) only [go_sem]
  refine bK (fun h3=>?_) (fun h=>wy fun o=>h o.aM)
  refine hJ _ _ ?_
  refine WP.up (H:=fun i=>iz n i) 3 (fun i=>∀ k,k < i→fV (n.sync.getD k [])=true∧rI n k) (fun i hi inv J hJ next=>?_) 0 (Nat.zero_le _) (fun k hk=>absurd hk (by omega))
  rw [Du]
  dsimp only
  simp (disch:=first | assumption | omega) only [go_sem]
  refine bK (fun cX=>?_) (fun qP=>by rw [Ls ⟨h1,h2,h3,fun k hk=>inv k (by omega)⟩])
  have hi3:i < 3:=by omega
  have s8:=u9 s7 i
  simp (disch:=first | assumption | omega) only [go_sem]
  refine ie (fun hm=>?_) (fun h=>wy fun o=>h (o.link i hi3).1)
  have go:rI n i→J 0 (iz n ((i:Int)+1))=some (.bool (oI n),[.undef]):=fun hb=>next (by omega) fun k hk=>by
      by_cases e:k=i
      · subst e; exact ⟨hm,hb⟩
      · exact inv k (by omega)
  have no:¬rI n i→(some ((.bool false,[.undef]):Rz))=some (.bool (oI n),[.undef]):=fun h=>wy fun o=>h (o.link i hi3).2
  have eJ:ad.ar .add .i64 (i:Int) 1=(i:Int)+1:=aan (by omega) (by omega)
  rw [eJ]
  generalize J 0 (iz n ((i:Int)+1))=z at go ⊢
  unfold rI at go no
  cases hc:n.conn.getD i false<;>cases hk:n.aM.getD i false<;>cases hu:n.up<;>by_cases hs:0 < ((n.sync.getD i []).length:Int)<;>by_cases Wu:(i:Int)=n.id<;>simp only [hc,hk,hu,hs,Wu,not_true_eq_false,not_false_eq_true,false_and,and_false,and_true,true_and,forall_const,Bool.false_eq_true,false_implies,imp_self,true_implies,and_self] at go no<;>simp (disch:=first | assumption | omega) only [go_sem,hc,hk,hu]<;>first | exact no | exact go
@[go_sem] theorem abO (tZ:Int) (ub:Bool) (uc:Bool) (w9:Nat) (mz:List Int) (ud:Nat) (iY:List Int) (ue:Nat) (iZ:List (List Int)) (ll:Bool) (lp:Bool) (lq:Bool) (lr:Int) (uf:Nat) (ja:List UInt8) (ug:Nat) (jb:List UInt8) (Cr:Nat) (qA:List Bool) (Cs:Nat) (qB:List (List Int)) (Ct:Nat) (qC:List Bool) (Cu:Nat) (qD:List Int) (e0:w9=mz.length) (e1:ud=iY.length) (e2:ue=iZ.length) (e3:uf=ja.length) (e4:ug=jb.length) (e5:Cr=qA.length) (e6:Cs=qB.length) (e7:Ct=qC.length) (e8:Cu=qD.length) (q0:bU (⟨tZ,ub,uc,mz,(⟨iY,iZ,ll,lp,lq,lr⟩:aK),(⟨ja,jb⟩:aJ),qA,qB,qC,qD⟩:ae)) (t:bE Rz):aL 101 [.agg [.int .i64 tZ,.bool ub,.bool uc,.sl (some true) 1 w9 (ints mz),.sl (some true) 1 ud (ints iY),.sl (some true) 1 ue (rows (some true) iZ),.bool ll,.bool lp,.bool lq,.int .i64 lr,.sl (some true) 1 uf (bytes ja),.sl (some true) 1 ug (bytes jb),.sl (some true) 1 Cr (aG qA),.sl (some true) 1 Cs (rows (some true) qB),.sl (some true) 1 Ct (aG qC),.sl (some true) 1 Cu (ints qD)]] t=feed t [.bool (oI (⟨tZ,ub,uc,mz,(⟨iY,iZ,ll,lp,lq,lr⟩:aK),(⟨ja,jb⟩:aJ),qA,qB,qC,qD⟩:ae))]:=by
  subst e0
  subst e1
  subst e2
  subst e3
  subst e4
  subst e5
  subst e6
  subst e7
  subst e8
  exact bH (r:=.bool (oI (⟨tZ,ub,uc,mz,(⟨iY,iZ,ll,lp,lq,lr⟩:aK),(⟨ja,jb⟩:aJ),qA,qB,qC,qD⟩:ae))) (s:=.bool) (ss:=[.undef]) (Ka (⟨tZ,ub,uc,mz,(⟨iY,iZ,ll,lp,lq,lr⟩:aK),(⟨ja,jb⟩:aJ),qA,qB,qC,qD⟩:ae) q0) (by kernel_rfl) (by simp only [au,bq,aU,bt,bu,af,aj,Bool.and_self]) (by simp only [af,aF,au,aj,Bool.and_self]) (by first | rfl | simp only [aq,aS,aR,bn,bo,aT,bp,Bool.and_self]) (by first | rfl | simp only [List.all_cons,List.all_nil,aq,Bool.and_self]) t
theorem Au (n:ae) (q0:bU n):Cm 41 [.agg (U (some true) n)] (.bool (dI n),[.undef]):=by
  have ok:=q0
  have s1:=ok.image
  have s2:=ok.conn
  have s3:=ok.aM
  have s4:=ok.wait
  have s5:=ok.sync.1
  have s6:=ok.mt
  have s7:=ok.sync
  have s8:=q0.aN
  have s9:=Ia n.aN
  refine Cm.step MU [.undef] fun J hJ=>?_
  rw [MV]
  simp (disch:=first | assumption | omega) only [go_sem]
  refine bK (fun h1=>?_) (fun h=>dT fun o=>h o.id)
  simp (disch:=first | assumption | omega) only [go_sem]
  refine ie (fun h2=>?_) (fun h=>dT fun o=>h o.image)
  simp (disch:=first | assumption | omega) only [go_sem]
  refine ie (fun h3=>?_) (fun h=>dT fun o=>h o.mt)
  simp (disch:=first | assumption | omega) only [go_sem]
  refine ie (fun h4=>?_) (fun h=>dT fun o=>h (Ls ⟨o.conn,o.sync,o.aM,fun k hk=>⟨o.marks k (by have:=o.sync; omega),o.link k hk⟩⟩))
  have h4:=YX h4
  have h5:=h4.sync
  refine aex (fun h7 h8=>?_) (fun h=>dT fun o=>h (fun hp=>⟨(o.cn hp).1,decide_eq_false (o.cn hp).2⟩) fun hu=>decide_eq_false (o.down (by rw [hu]; simp)))
  have h7:n.cn=true→n.up=true∧¬n.id=2:=fun hp=>⟨(h7 hp).1,of_decide_eq_false (h7 hp).2⟩
  have h8:¬n.up=true→¬0 < (n.wait.length:Int):=fun hu=>of_decide_eq_false (h8 (by simpa using hu))
  refine hJ _ _ ?_
  refine WP.up (H:=fun i=>lj n i) n.wait.length (fun i=>∀ k,k < i→Un n.wait k) (fun i hi inv J _ next=>?_) 0 (Nat.zero_le _) (fun k hk=>absurd hk (by omega))
  rw [Fl]
  simp (disch:=first | assumption | omega) only [go_sem]
  refine bK (fun cX=>?_) (fun qP=>?_)
  · simp (disch:=first | assumption | omega) only [go_sem]
    refine bK (fun ha=>?_) (fun h=>dT fun o=>h (o.wait i (by omega)).1)
    simp (disch:=first | assumption | omega) only [go_sem]
    have go:(0 < (i:Int)→¬n.wait.getD i 0≤n.wait.getD (i - 1) 0)→J 0 (lj n ((i:Int)+1))=some (.bool (dI n),[.undef]):=fun hb=>next (by omega) fun k hk=>by
      by_cases e:k=i
      · subst e; exact ⟨ha,hb⟩
      · exact inv k (by omega)
    refine bK (fun qN=>?_) (fun hz=>?_)
    · have e1:((i:Int) - 1).toNat=i - 1:=by omega
      simp (disch:=first | assumption | omega) only [go_sem,e1]
      exact bK (fun h=>dT fun o=>(o.wait i (by omega)).2 qN h) (fun h=>go fun _=>h)
    · exact go fun h=>absurd h hz
  · have yes:(aV n.aN).2.2=true→lP (aV n.aN).1 n.mt=true→rJ n:=fun a b=>⟨h1,h2,h3,h4.conn,h4.sync,fun k hk=>(h4.link k (by omega)).1,h4.aM,h7,h8,a,b,fun k hk=>(h4.link k hk).2,fun k hk=>inv k (by omega)⟩
    simp (disch:=first | assumption | omega) only [go_sem]
    refine ie (fun h9=>?_) (fun h=>dT fun o=>h o.slot)
    simp (disch:=first | assumption | omega) only [go_sem]
    cases mZ:lP (aV n.aN).1 n.mt with
    | true=>exact Lr (yes h9 mZ)
    | false=>exact dT fun o=>by have:=o.same; rw [mZ] at this; simp at this
@[go_sem] theorem acg (tZ:Int) (ub:Bool) (uc:Bool) (w9:Nat) (mz:List Int) (ud:Nat) (iY:List Int) (ue:Nat) (iZ:List (List Int)) (ll:Bool) (lp:Bool) (lq:Bool) (lr:Int) (uf:Nat) (ja:List UInt8) (ug:Nat) (jb:List UInt8) (Cr:Nat) (qA:List Bool) (Cs:Nat) (qB:List (List Int)) (Ct:Nat) (qC:List Bool) (Cu:Nat) (qD:List Int) (e0:w9=mz.length) (e1:ud=iY.length) (e2:ue=iZ.length) (e3:uf=ja.length) (e4:ug=jb.length) (e5:Cr=qA.length) (e6:Cs=qB.length) (e7:Ct=qC.length) (e8:Cu=qD.length) (q0:bU (⟨tZ,ub,uc,mz,(⟨iY,iZ,ll,lp,lq,lr⟩:aK),(⟨ja,jb⟩:aJ),qA,qB,qC,qD⟩:ae)) (t:bE Rz):aL 41 [.agg [.int .i64 tZ,.bool ub,.bool uc,.sl (some true) 1 w9 (ints mz),.sl (some true) 1 ud (ints iY),.sl (some true) 1 ue (rows (some true) iZ),.bool ll,.bool lp,.bool lq,.int .i64 lr,.sl (some true) 1 uf (bytes ja),.sl (some true) 1 ug (bytes jb),.sl (some true) 1 Cr (aG qA),.sl (some true) 1 Cs (rows (some true) qB),.sl (some true) 1 Ct (aG qC),.sl (some true) 1 Cu (ints qD)]] t=feed t [.bool (dI (⟨tZ,ub,uc,mz,(⟨iY,iZ,ll,lp,lq,lr⟩:aK),(⟨ja,jb⟩:aJ),qA,qB,qC,qD⟩:ae))]:=by
  subst e0
  subst e1
  subst e2
  subst e3
  subst e4
  subst e5
  subst e6
  subst e7
  subst e8
  exact bH (r:=.bool (dI (⟨tZ,ub,uc,mz,(⟨iY,iZ,ll,lp,lq,lr⟩:aK),(⟨ja,jb⟩:aJ),qA,qB,qC,qD⟩:ae))) (s:=.bool) (ss:=[.undef]) (Au (⟨tZ,ub,uc,mz,(⟨iY,iZ,ll,lp,lq,lr⟩:aK),(⟨ja,jb⟩:aJ),qA,qB,qC,qD⟩:ae) q0) (by kernel_rfl) (by simp only [au,bq,aU,bt,bu,af,aj,Bool.and_self]) (by simp only [af,aF,au,aj,Bool.and_self]) (by first | rfl | simp only [aq,aS,aR,bn,bo,aT,bp,Bool.and_self]) (by first | rfl | simp only [List.all_cons,List.all_nil,aq,Bool.and_self]) t
theorem ajZ {n:ae} (h:rJ n) (hp:n.cn=true):0≤lO n.id∧lO n.id≤1:=by
  have h1:=h.id
  have h2:=(h.cn hp).2
  unfold lO
  split<;>omega
noncomputable def ahg (n:ae):Bool:=dI n&&(n.cn&&(n.conn.getD (lO n.id).toNat false||n.mt.held))
end Go.Proofs.YtockoilcnmljiaaGreat
namespace Go.Proofs.YtockoilcnmljiaaGreat
set_option maxRecDepth 100000
section
variable {a b:Bool} {o:List D} {X:Option Rz}
theorem nC (h:a=true→X=some (.bool b,o)):br a X (some (.bool false,o))=some (.bool (a&&b),o):=by cases a with | true=>exact h rfl | false=>rfl
theorem wz (h:a=false→X=some (.bool b,o)):br a (some (.bool false,o)) X=some (.bool (!a&&b),o):=by cases a with | true=>rfl | false=>exact h rfl
theorem aey (h:a=false→X=some (.bool b,o)):br a (some (.bool true,o)) X=some (.bool (a||b),o):=by cases a with | true=>rfl | false=>exact h rfl
end
def tj (g:Option Bool) (x:aK):List D:=bX g x
@[go_sem] theorem aj0 (g:Option Bool) (W2:Nat) (xa:List Int) (Lt:Nat) (xb:List (List Int)) (xf:Bool) (xo:Bool) (xh:Bool) (xl:Int) (xa1:W2=xa.length) (W3:Lt=xb.length):D.agg [.sl g 1 W2 (ints xa),.sl g 1 Lt (rows g xb),.bool xf,.bool xo,.bool xh,.int .i64 xl]=.agg (tj g ⟨xa,xb,xf,xo,xh,xl⟩):=by
  subst xa1
  subst W3
  rfl
@[go_sem] theorem aj1 (x:aK):cu true (tj none x)=tj (some true) x:=by
  unfold tj
  first | rfl | simp only [go_sem,iB,cu,hC,iK,iD,kQ]
def nn (g:Option Bool) (x:aJ):List D:=cT g x
@[go_sem] theorem aiA (g:Option Bool) (W2:Nat) (xa:List UInt8) (Lt:Nat) (xb:List UInt8) (xa1:W2=xa.length) (W3:Lt=xb.length):D.agg [.sl g 1 W2 (bytes xa),.sl g 1 Lt (bytes xb)]=.agg (nn g ⟨xa,xb⟩):=by
  subst xa1
  subst W3
  rfl
@[go_sem] theorem aiB (x:aJ):cu true (nn none x)=nn (some true) x:=by
  unfold nn
  first | rfl | simp only [go_sem,iB,cu,hC,iK,iD,kQ]
def fx (g:Option Bool) (x:ae):List D:=U g x
@[go_sem] theorem aj2 (g:Option Bool) (xi:Int) (xu:Bool) (xp:Bool) (aeA:Nat) (xim:List Int) (aeC:Nat) (xma:List Int) (aeE:Nat) (xmb:List (List Int)) (xmf:Bool) (xmo:Bool) (xmh:Bool) (xml:Int) (aeG:Nat) (xsa:List UInt8) (aeI:Nat) (xsb:List UInt8) (xc0:Nat) (xc:List Bool) (xy0:Nat) (xy:List (List Int)) (xk0:Nat) (xk:List Bool) (Lu:Nat) (xw:List Int) (aiC:aeA=xim.length) (aiD:aeC=xma.length) (aiE:aeE=xmb.length) (aiF:aeG=xsa.length) (aiG:aeI=xsb.length) (xc1:xc0=xc.length) (xy1:xy0=xy.length) (xk1:xk0=xk.length) (W4:Lu=xw.length):D.agg [.int .i64 xi,.bool xu,.bool xp,.sl g 1 aeA (ints xim),.sl g 1 aeC (ints xma),.sl g 1 aeE (rows g xmb),.bool xmf,.bool xmo,.bool xmh,.int .i64 xml,.sl g 1 aeG (bytes xsa),.sl g 1 aeI (bytes xsb),.sl g 1 xc0 (aG xc),.sl g 1 xy0 (rows g xy),.sl g 1 xk0 (aG xk),.sl g 1 Lu (ints xw)]=.agg (fx g ⟨xi,xu,xp,xim,⟨xma,xmb,xmf,xmo,xmh,xml⟩,⟨xsa,xsb⟩,xc,xy,xk,xw⟩):=by
  subst aiC
  subst aiD
  subst aiE
  subst aiF
  subst aiG
  subst xc1
  subst xy1
  subst xk1
  subst W4
  rfl
@[go_sem] theorem aj3 (x:ae):cu true (fx none x)=fx (some true) x:=by
  unfold fx
  first | rfl | simp only [go_sem,iB,cu,hC,iK,iD,kQ]
def agd (g:Option Bool) (x:dr):List D:=bd g x
@[go_sem] theorem aj4 (g:Option Bool) (xf:Int) (xt:Int) (Lt:Nat) (xb:List UInt8) (W3:Lt=xb.length):D.agg [.int .i64 xf,.int .i64 xt,.sl g 1 Lt (bytes xb)]=.agg (agd g ⟨xf,xt,xb⟩):=by
  subst W3
  rfl
def gU (g:Option Bool) (x:aB):List D:=dk g x
@[go_sem] theorem aiH (g:Option Bool) (W5:Nat) (xn:List ae) (Lu:Nat) (xw:List dr) (W6:Nat) (xl:List gx) (Lv:Nat) (xs:List Int) (xg:Int) (xn1:W5=xn.length) (W4:Lu=xw.length) (xl1:W6=xl.length) (xs1:Lv=xs.length):D.agg [.sl g 16 W5 (ab (U g) xn),.sl g 3 Lu (ab (bd g) xw),.sl g 2 W6 (ab (cD g) xl),.sl g 1 Lv (ints xs),.int .i64 xg]=.agg (gU g ⟨xn,xw,xl,xs,xg⟩):=by
  subst xn1
  subst W4
  subst xl1
  subst xs1
  rfl
@[go_sem] theorem aiI (g:Option Bool) (W5:Nat) (xn:List ae) (Lu:Nat) (xw:List dr) (W6:Nat) (xl:List gx) (Lv:Nat) (xs:List Int) (xg:Int) (xn1:W5=xn.length) (W4:Lu=xw.length) (xl1:W6=xl.length) (xs1:Lv=xs.length):D.bh [.sl g 16 W5 (ab (U g) xn),.sl g 3 Lu (ab (bd g) xw),.sl g 2 W6 (ab (cD g) xl),.sl g 1 Lv (ints xs),.int .i64 xg]=.bh (gU g ⟨xn,xw,xl,xs,xg⟩):=by
  subst xn1
  subst W4
  subst xl1
  subst xs1
  rfl
def aiJ (g:Option Bool) (x:vM):List D:=I2 g x
@[go_sem] theorem alV (g:Option Bool) (xk:Int) (xc:Int) (xv:Int) (xw:Int) (xg0:Nat) (xg:List Int) (xg1:xg0=xg.length):D.agg [.int .i64 xk,.int .i64 xc,.int .i64 xv,.int .i64 xw,.sl g 1 xg0 (ints xg)]=.agg (aiJ g ⟨xk,xc,xv,xw,xg⟩):=by
  subst xg1
  rfl
def age (g:Option Bool) (x:zq):List D:=Da g x
@[go_sem] theorem aj5 (g:Option Bool) (xf:Int) (xt:Int) (xmk:Int) (xmc:Int) (xmv:Int) (xmw:Int) (aeN:Nat) (xmg:List Int) (aiK:aeN=xmg.length):D.agg [.int .i64 xf,.int .i64 xt,.int .i64 xmk,.int .i64 xmc,.int .i64 xmv,.int .i64 xmw,.sl g 1 aeN (ints xmg)]=.agg (age g ⟨xf,xt,⟨xmk,xmc,xmv,xmw,xmg⟩⟩):=by
  subst aiK
  rfl
def NA (g:Option Bool) (x:rb):List D:=Db g x
@[go_sem] theorem aj6 (g:Option Bool) (xk:Int) (xa:Int) (xb:Int):D.agg [.int .i64 xk,.int .i64 xa,.int .i64 xb]=.agg (NA g ⟨xk,xa,xb⟩):=by
  rfl
@[go_sem] theorem aj7 (x:rb):cu true (NA none x)=NA (some true) x:=by
  unfold NA
  first | rfl | simp only [go_sem,iB,cu,hC,iK,iD,kQ]
section
variable (t:bE Rz)
@[go_sem] theorem aiL (g:Bool) (n:ae) (h:bU n):aL 13 [.agg (fx (some g) n)] t=feed t [enc .node n]:=PF t g n h
@[go_sem] theorem aiM (g h:Bool) (n:ae) (ok:bU n):aL 15 [.agg (fx (some g) n),.agg (fx (some h) n)] t=feed t [.bool true]:=PG t g h n ok
@[go_sem] theorem aiN (g:Bool) (n:ae) (left:Int) (h0:0≤left) (h1:left≤1048576) (ln:rn n):aL 11 [.agg (fx (some g) n),.int .i64 left] t=feed t [.int .i64 (ew n left)]:=E0 t g n left h0 h1 ln
@[go_sem] theorem aht (g:Bool) (w:aB) (h:dg w):aL 22 [.agg (gU (some g) w)] t=feed t [enc .world w]:=WN t g w h
@[go_sem] theorem ahu (g h:Bool) (w:aB) (ok:dg w):aL 24 [.agg (gU (some g) w),.agg (gU (some h) w)] t=feed t [.bool true]:=WO t g h w ok
@[go_sem] theorem ahv (g:Bool) (w:aB) (left:Int) (h0:0≤left) (h1:left≤1048576) (ln:JH w):aL 20 [.agg (gU (some g) w),.int .i64 left] t=feed t [.int .i64 (E5 w left)]:=WQ t g w left h0 h1 ln
end
end Go.Proofs.YtockoilcnmljiaaGreat
namespace Go.Proofs.YtockoilcnmljiaaGreat
set_option maxRecDepth 100000
section
variable (pr:dA) (cv:Cv Rz) (J:Nat→St→Option Rz)
theorem MW:Told cfg Tryz.prog 120 Tryz.f120:=⟨by kernel_rfl,Tryz.func120,by kernel_rfl⟩
theorem MX (x0:ae) (x1:ae):aO pr cv J 120 Tryz.f120 [(.agg (U (some true) x0)),(.agg (U (some true) x1))]=
    let y1:Option (D × List D):=(some ((.bool false),[.undef,.undef]))
    (cv 48 [(.agg (U (some true) x0))] (.bool (fun bR=>(.done (br bR (cv 48 [(.agg (U (some true) x1))] (.bool (fun eP=>(.done (br eP (br (br (pr.eq x0.id 2) false true) (cv 149 [(.int .i64 x0.id)] (.int (fun rm=>(.done (some ((.bool (pr.eq x1.id rm)),[.undef,.undef])))))) y1) y1))))) y1))))):=by kernel_rfl
theorem Kb:Told cfg Tryz.prog 119 Tryz.f119:=⟨by kernel_rfl,Tryz.func119,by kernel_rfl⟩
theorem Kc (x0:ae) (x1:ae):aO pr cv J 119 Tryz.f119 [(.agg (U (some true) x0)),(.agg (U (some true) x1))]=
    let y1:Option (D × List D):=(some ((.bool false),[.undef,.undef]))
    (cv 41 [(.agg (U (some true) x0))] (.bool (fun bR=>(.done (br bR (cv 41 [(.agg (U (some true) x1))] (.bool (fun eP=>(.done (br eP (cv 148 [(.int .i64 x0.id)] (.int (fun rm=>(.done (some ((.bool (pr.eq rm x1.id)),[.undef,.undef])))))) y1))))) y1))))):=by kernel_rfl
theorem Kd:Told cfg Tryz.prog 65 Tryz.f65:=⟨by kernel_rfl,Tryz.func65,by kernel_rfl⟩
theorem Ke (x0:ae) (x1:ae) (x2:Bool):aO pr cv J 65 Tryz.f65 [(.agg (U (some true) x0)),(.agg (U (some true) x1)),(.bool x2)]=
    let y1:Option (D × List D):=(some ((.bool false),[.undef,.undef,.undef]))
    (cv 120 [(.agg (U (some true) x0)),(.agg (U (some true) x1))] (.bool (fun bR=>(.done (br (br bR false true) y1 (br (br x0.up false true) y1 (br (br x0.mt.cK false true) y1 (br x0.mt.bO y1 (br x0.cn y1 (br x0.mt.held (some ((.bool true),[.undef,.undef,.undef])) (br (pr.bz x1.id x0.conn.length) (br (br (pr.cI (aG x0.conn) (pr.idx 0 x1.id 1)) true false) (br (pr.bT (aG x0.conn) (pr.idx 0 x1.id 1)) (br (pr.bz x0.id x1.conn.length) (br (br (pr.cI (aG x1.conn) (pr.idx 0 x0.id 1)) true false) (br (pr.bT (aG x1.conn) (pr.idx 0 x0.id 1)) (br (pr.bz x1.id x0.aM.length) (br (br (pr.cI (aG x0.aM) (pr.idx 0 x1.id 1)) true false) (br (br (pr.bT (aG x0.aM) (pr.idx 0 x1.id 1)) false true) (br (pr.bz x0.id x1.aM.length) (br (br (pr.cI (aG x1.aM) (pr.idx 0 x0.id 1)) true false) (br (br (pr.bT (aG x1.aM) (pr.idx 0 x0.id 1)) false true) (br (br x1.cn false true) (br (pr.eq x0.mt.last x1.mt.last) (some ((.bool x2),[.undef,.undef,.undef])) y1) y1) y1) none) none) y1) none) none) y1) none) none) y1) none) none))))))))))):=by kernel_rfl
theorem Kf:Told cfg Tryz.prog 64 Tryz.f64:=⟨by kernel_rfl,Tryz.func64,by kernel_rfl⟩
theorem Kg (x0:ae) (x1:ae) (x2:Bool):aO pr cv J 64 Tryz.f64 [(.agg (U (some true) x0)),(.agg (U (some true) x1)),(.bool x2)]=
    let y1:Option (D × List D):=(some ((.bool false),[.undef,.undef,.undef]))
    (cv 119 [(.agg (U (some true) x0)),(.agg (U (some true) x1))] (.bool (fun bR=>(.done (br (br bR false true) y1 (br (br x0.up false true) y1 (br (br x0.mt.cK false true) y1 (br x0.mt.bO y1 (br x0.cn y1 (br x0.mt.held (some ((.bool true),[.undef,.undef,.undef])) (br (pr.bz x1.id x0.conn.length) (br (br (pr.cI (aG x0.conn) (pr.idx 0 x1.id 1)) true false) (br (pr.bT (aG x0.conn) (pr.idx 0 x1.id 1)) (br (pr.bz x0.id x1.conn.length) (br (br (pr.cI (aG x1.conn) (pr.idx 0 x0.id 1)) true false) (br (pr.bT (aG x1.conn) (pr.idx 0 x0.id 1)) (br (pr.bz x1.id x0.aM.length) (br (br (pr.cI (aG x0.aM) (pr.idx 0 x1.id 1)) true false) (br (br (pr.bT (aG x0.aM) (pr.idx 0 x1.id 1)) false true) (br (pr.bz x0.id x1.aM.length) (br (br (pr.cI (aG x1.aM) (pr.idx 0 x0.id 1)) true false) (br (br (pr.bT (aG x1.aM) (pr.idx 0 x0.id 1)) false true) (br (br x1.cn false true) (br (pr.eq x0.mt.last x1.mt.last) (some ((.bool x2),[.undef,.undef,.undef])) y1) y1) y1) none) none) y1) none) none) y1) none) none) y1) none) none))))))))))):=by kernel_rfl
end
@[go_sem] theorem ach (n:ae) (q0:bU n) (t:bE Rz):aL 48 [.agg (fx (some true) n)] t=feed t [.bool (dI n)]:=by
  exact bH (r:=.bool (dI n)) (s:=.bool) (ss:=[.undef]) (At n q0) (by kernel_rfl) (by simp only [au,bq,aU,bt,bu,af,aj,Bool.and_self]) (by simp only [af,aF,au,aj,Bool.and_self]) (by first | rfl | simp only [aq,aS,aR,bn,bo,aT,bp,Bool.and_self]) (by first | rfl | simp only [List.all_cons,List.all_nil,aq,Bool.and_self]) t
@[go_sem] theorem aci (n:ae) (q0:bU n) (t:bE Rz):aL 41 [.agg (fx (some true) n)] t=feed t [.bool (dI n)]:=by
  exact bH (r:=.bool (dI n)) (s:=.bool) (ss:=[.undef]) (Au n q0) (by kernel_rfl) (by simp only [au,bq,aU,bt,bu,af,aj,Bool.and_self]) (by simp only [af,aF,au,aj,Bool.and_self]) (by first | rfl | simp only [aq,aS,aR,bn,bo,aT,bp,Bool.and_self]) (by first | rfl | simp only [List.all_cons,List.all_nil,aq,Bool.and_self]) t
@[go_sem] theorem abP (s:aJ) (q0:dN s) (t:bE Rz):aL 113 [.agg (nn (some true) s)] t=feed t [enc .mt ((aV s).1),.int .i64 ((aV s).2.1),.bool ((aV s).2.2)]:=by
  exact bH (r:=.aP [enc .mt ((aV s).1),.int .i64 ((aV s).2.1),.bool ((aV s).2.2)]) (s:=.aP [.ty .mt,.int .i64,.bool]) (ss:=[.undef]) (yE s q0) (by kernel_rfl) (by simp only [au,bq,aU,bt,bu,af,aj,Bool.and_self]) (by simp only [af,aF,au,aj,Bool.and_self]) (by first | rfl | simp only [aq,aS,aR,bn,bo,aT,bp,Bool.and_self]) (by first | rfl | simp only [List.all_cons,List.all_nil,aq,Bool.and_self]) t
@[go_sem] theorem abQ (s:aJ) (q0:dN s) (t:bE Rz):aL 102 [.agg (nn (some true) s)] t=feed t [enc .mt ((aV s).1),.int .i64 ((aV s).2.1),.bool ((aV s).2.2)]:=by
  exact bH (r:=.aP [enc .mt ((aV s).1),.int .i64 ((aV s).2.1),.bool ((aV s).2.2)]) (s:=.aP [.ty .mt,.int .i64,.bool]) (ss:=[.undef]) (yF s q0) (by kernel_rfl) (by simp only [au,bq,aU,bt,bu,af,aj,Bool.and_self]) (by simp only [af,aF,au,aj,Bool.and_self]) (by first | rfl | simp only [aq,aS,aR,bn,bo,aT,bp,Bool.and_self]) (by first | rfl | simp only [List.all_cons,List.all_nil,aq,Bool.and_self]) t
@[go_sem] theorem acj (s:aJ) (q0:dN s) (t:bE Rz):aL 146 [.agg (nn (some true) s)] t=feed t [enc .mt ((((aV s).1,(aV s).2.1,pd s)).1),.int .i64 ((((aV s).1,(aV s).2.1,pd s)).2.1),.bool ((((aV s).1,(aV s).2.1,pd s)).2.2)]:=by
  exact bH (r:=.aP [enc .mt ((((aV s).1,(aV s).2.1,pd s)).1),.int .i64 ((((aV s).1,(aV s).2.1,pd s)).2.1),.bool ((((aV s).1,(aV s).2.1,pd s)).2.2)]) (s:=.aP [.ty .mt,.int .i64,.bool]) (ss:=[.undef]) (As s q0) (by kernel_rfl) (by simp only [au,bq,aU,bt,bu,af,aj,Bool.and_self]) (by simp only [af,aF,au,aj,Bool.and_self]) (by first | rfl | simp only [aq,aS,aR,bn,bo,aT,bp,Bool.and_self]) (by first | rfl | simp only [List.all_cons,List.all_nil,aq,Bool.and_self]) t
@[go_sem] theorem abR (s:aJ) (q0:dN s) (t:bE Rz):aL 138 [.agg (nn (some true) s)] t=feed t [.int .i64 (tY s)]:=by
  exact bH (r:=.int .i64 (tY s)) (s:=.int .i64) (ss:=[.undef]) (yD s q0) (by kernel_rfl) (by simp only [au,bq,aU,bt,bu,af,aj,Bool.and_self]) (by simp only [af,aF,au,aj,Bool.and_self]) (by first | rfl | simp only [aq,aS,aR,bn,bo,aT,bp,Bool.and_self]) (by first | rfl | simp only [List.all_cons,List.all_nil,aq,Bool.and_self]) t
@[go_sem] theorem YY (m:aK) (n:Nat) (q0:cO m) (q1:(cM m).length≤151) (q2:n < 4611686018427387904) (t:bE Rz):aL 161 [.agg (tj (some true) m),.int .i64 (n:Int)] t=feed t [enc .B (nN m n)]:=by
  exact bH (r:=enc .B (nN m n)) (s:=.ty .B) (ss:=[.undef,.undef]) (wu m n q0 q1 q2) (by kernel_rfl) (by simp only [au,bq,aU,bt,bu,af,aj,Bool.and_self]) (by simp only [af,aF,au,aj,Bool.and_self]) (by first | rfl | simp only [aq,aS,aR,bn,bo,aT,bp,Bool.and_self]) (by first | rfl | simp only [List.all_cons,List.all_nil,aq,Bool.and_self]) t
@[go_sem] theorem ack (m:aK) (n:Nat) (q0:cO m) (q1:(cM m).length≤151) (q2:n < 4611686018427387904) (t:bE Rz):aL 152 [.agg (tj (some true) m),.int .i64 (n:Int)] t=feed t [enc .B (nN m n)]:=by
  exact bH (r:=enc .B (nN m n)) (s:=.ty .B) (ss:=[.undef,.undef]) (Ar m n q0 q1 q2) (by kernel_rfl) (by simp only [au,bq,aU,bt,bu,af,aj,Bool.and_self]) (by simp only [af,aF,au,aj,Bool.and_self]) (by first | rfl | simp only [aq,aS,aR,bn,bo,aT,bp,Bool.and_self]) (by first | rfl | simp only [List.all_cons,List.all_nil,aq,Bool.and_self]) t
noncomputable def pQ (x y:ae):Bool:=dI x&&(dI y&&(!decide (x.id=2)&&decide (y.id=lO x.id)))
structure aiO (x y:ae):Prop where
  ox:rJ x
  oy:rJ y
  xl:0≤x.id
  xh:x.id≤1
  yl:0≤y.id
  yh:y.id≤1
  aov:y.id=lO x.id
theorem SQ {x y:ae} (h:pQ x y=true):aiO x y:=by
  unfold pQ at h
  simp only [Bool.and_eq_true,Bool.not_eq_true',decide_eq_true_eq,decide_eq_false_iff_not] at h
  obtain ⟨h1,h2,h3,h4⟩:=h
  have k1:=iN h1
  have k2:=iN h2
  have i1:=k1.id
  have i2:=k2.id
  have h5:=h4
  unfold lO at h5
  exact ⟨k1,k2,i1.1,by omega,i2.1,by split at h5<;>omega,h4⟩
theorem MY (x:ae) (y:ae) (q0:bU x) (q1:bU y):Cm 120 [.agg (U (some true) x),.agg (U (some true) y)] (.bool (pQ x y),[.undef,.undef]):=by
  refine Cm.step MW _ fun J _=>?_
  rw [MX]
  unfold pQ
  simp (disch:=first | assumption | omega) only [go_sem]
  refine nC fun h1=>?_
  simp (disch:=first | assumption | omega) only [go_sem]
  refine nC fun h2=>?_
  simp (disch:=first | assumption | omega) only [go_sem]
  refine wz fun h3=>?_
  simp (disch:=first | assumption | omega) only [go_sem]
@[go_sem] theorem acm (x:ae) (y:ae) (q0:bU x) (q1:bU y) (t:bE Rz):aL 120 [.agg (fx (some true) x),.agg (fx (some true) y)] t=feed t [.bool (pQ x y)]:=by
  exact bH (r:=.bool (pQ x y)) (s:=.bool) (ss:=[.undef,.undef]) (MY x y q0 q1) (by kernel_rfl) (by simp only [au,bq,aU,bt,bu,af,aj,Bool.and_self]) (by simp only [af,aF,au,aj,Bool.and_self]) (by first | rfl | simp only [aq,aS,aR,bn,bo,aT,bp,Bool.and_self]) (by first | rfl | simp only [List.all_cons,List.all_nil,aq,Bool.and_self]) t
theorem Kh (x:ae) (y:ae) (q0:bU x) (q1:bU y):Cm 119 [.agg (U (some true) x),.agg (U (some true) y)] (.bool (pQ x y),[.undef,.undef]):=by
  refine Cm.step Kb _ fun J _=>?_
  rw [Kc]
  unfold pQ
  simp (disch:=first | assumption | omega) only [go_sem]
  refine nC fun h1=>?_
  simp (disch:=first | assumption | omega) only [go_sem]
  refine nC fun h2=>?_
  simp (disch:=first | assumption | omega) only [go_sem]
  have i1:=(iN h1).id
  have i2:=(iN h2).id
  unfold lO
  by_cases h:x.id=2
  · rw [h]; simp; omega
  · simp [h,eq_comm]
@[go_sem] theorem abS (x:ae) (y:ae) (q0:bU x) (q1:bU y) (t:bE Rz):aL 119 [.agg (fx (some true) x),.agg (fx (some true) y)] t=feed t [.bool (pQ x y)]:=by
  exact bH (r:=.bool (pQ x y)) (s:=.bool) (ss:=[.undef,.undef]) (Kh x y q0 q1) (by kernel_rfl) (by simp only [au,bq,aU,bt,bu,af,aj,Bool.and_self]) (by simp only [af,aF,au,aj,Bool.and_self]) (by first | rfl | simp only [aq,aS,aR,bn,bo,aT,bp,Bool.and_self]) (by first | rfl | simp only [List.all_cons,List.all_nil,aq,Bool.and_self]) t
noncomputable def aiP (x y:ae):Bool:=pQ x y&&(x.up&&(x.mt.cK&&(!x.mt.bO&&(!x.mt.held&&(!x.conn.getD y.id.toNat false&&!y.cn)))))
noncomputable def iA (x y:ae) (q:Bool):Bool:=pQ x y&&(x.up&&(x.mt.cK&&(!x.mt.bO&&(!x.cn&&(x.mt.held||(x.conn.getD y.id.toNat false&&(y.conn.getD x.id.toNat false&&(!x.aM.getD y.id.toNat false&&(!y.aM.getD x.id.toNat false&&(!y.cn&&(decide (x.mt.last=y.mt.last)&&q)))))))))))
theorem Ki (x:ae) (y:ae) (q:Bool) (q0:bU x) (q1:bU y):Cm 65 [.agg (U (some true) x),.agg (U (some true) y),.bool q] (.bool (iA x y q),[.undef,.undef,.undef]):=by
  refine Cm.step Kd _ fun J _=>?_
  rw [Ke]
  unfold iA
  simp (disch:=first | assumption | omega) only [go_sem]
  refine nC fun h1=>?_
  try simp (disch:=first | assumption | omega) only [go_sem]
  have p:=SQ h1
  have:=p.xl; have:=p.xh; have:=p.yl; have:=p.yh; have:=p.ox.conn; have:=p.oy.conn; have:=p.ox.aM; have:=p.oy.aM
  simp (disch:=first | assumption | omega) only [go_sem]
  refine nC fun _=>?_
  try simp (disch:=first | assumption | omega) only [go_sem]
  refine nC fun _=>?_
  try simp (disch:=first | assumption | omega) only [go_sem]
  refine wz fun _=>?_
  try simp (disch:=first | assumption | omega) only [go_sem]
  refine wz fun _=>?_
  try simp (disch:=first | assumption | omega) only [go_sem]
  refine aey fun _=>?_
  try simp (disch:=first | assumption | omega) only [go_sem]
  refine nC fun _=>?_
  try simp (disch:=first | assumption | omega) only [go_sem]
  refine nC fun _=>?_
  try simp (disch:=first | assumption | omega) only [go_sem]
  refine wz fun _=>?_
  try simp (disch:=first | assumption | omega) only [go_sem]
  refine wz fun _=>?_
  try simp (disch:=first | assumption | omega) only [go_sem]
  refine wz fun _=>?_
  try simp (disch:=first | assumption | omega) only [go_sem]
  exact nC fun _=>rfl
@[go_sem] theorem abT (x:ae) (y:ae) (q:Bool) (q0:bU x) (q1:bU y) (t:bE Rz):aL 65 [.agg (fx (some true) x),.agg (fx (some true) y),.bool q] t=feed t [.bool (iA x y q)]:=by
  exact bH (r:=.bool (iA x y q)) (s:=.bool) (ss:=[.undef,.undef,.undef]) (Ki x y q q0 q1) (by kernel_rfl) (by simp only [au,bq,aU,bt,bu,af,aj,Bool.and_self]) (by simp only [af,aF,au,aj,Bool.and_self]) (by first | rfl | simp only [aq,aS,aR,bn,bo,aT,bp,Bool.and_self]) (by first | rfl | simp only [List.all_cons,List.all_nil,aq,Bool.and_self]) t
theorem Kj (x:ae) (y:ae) (q:Bool) (q0:bU x) (q1:bU y):Cm 64 [.agg (U (some true) x),.agg (U (some true) y),.bool q] (.bool (iA x y q),[.undef,.undef,.undef]):=by
  refine Cm.step Kf _ fun J _=>?_
  rw [Kg]
  unfold iA
  simp (disch:=first | assumption | omega) only [go_sem]
  refine nC fun h1=>?_
  try simp (disch:=first | assumption | omega) only [go_sem]
  have p:=SQ h1
  have:=p.xl; have:=p.xh; have:=p.yl; have:=p.yh; have:=p.ox.conn; have:=p.oy.conn; have:=p.ox.aM; have:=p.oy.aM
  simp (disch:=first | assumption | omega) only [go_sem]
  refine nC fun _=>?_
  try simp (disch:=first | assumption | omega) only [go_sem]
  refine nC fun _=>?_
  try simp (disch:=first | assumption | omega) only [go_sem]
  refine wz fun _=>?_
  try simp (disch:=first | assumption | omega) only [go_sem]
  refine wz fun _=>?_
  try simp (disch:=first | assumption | omega) only [go_sem]
  refine aey fun _=>?_
  try simp (disch:=first | assumption | omega) only [go_sem]
  refine nC fun _=>?_
  try simp (disch:=first | assumption | omega) only [go_sem]
  refine nC fun _=>?_
  try simp (disch:=first | assumption | omega) only [go_sem]
  refine wz fun _=>?_
  try simp (disch:=first | assumption | omega) only [go_sem]
  refine wz fun _=>?_
  try simp (disch:=first | assumption | omega) only [go_sem]
  refine wz fun _=>?_
  try simp (disch:=first | assumption | omega) only [go_sem]
  exact nC fun _=>rfl
@[go_sem] theorem abU (x:ae) (y:ae) (q:Bool) (q0:bU x) (q1:bU y) (t:bE Rz):aL 64 [.agg (fx (some true) x),.agg (fx (some true) y),.bool q] t=feed t [.bool (iA x y q)]:=by
  exact bH (r:=.bool (iA x y q)) (s:=.bool) (ss:=[.undef,.undef,.undef]) (Kj x y q q0 q1) (by kernel_rfl) (by simp only [au,bq,aU,bt,bu,af,aj,Bool.and_self]) (by simp only [af,aF,au,aj,Bool.and_self]) (by first | rfl | simp only [aq,aS,aR,bn,bo,aT,bp,Bool.and_self]) (by first | rfl | simp only [List.all_cons,List.all_nil,aq,Bool.and_self]) t
end Go.Proofs.YtockoilcnmljiaaGreat
namespace Go.Proofs.YtockoilcnmljiaaGreat
set_option maxRecDepth 100000
section
variable (pr:dA) (cv:Cv Rz) (J:Nat→St→Option Rz)
def lu (x0:List (List Int)) (i0:Int) (i1:Int) (n2:Nat) (c3:List D):St:=(St.mk [(3,(.ref 10003 [] 0 none)),(7,(sR (some true) x0)),(8,(.int .i64 i0)),(9,(.int .i64 i1))] [(10003,[(.sl none 1 n2 c3)])] [] 0)
theorem Fm:Told cfg Tryz.prog 109 Tryz.f109:=⟨by kernel_rfl,Tryz.func109,by kernel_rfl⟩
theorem Fo (x0:List (List Int)):aO pr cv J 109 Tryz.f109 [(sR (some true) x0)]=
    (J 0 (lu x0 (pr.aX x0.length) 0 0 [])):=by kernel_rfl
theorem Ax (x0:List (List Int)) (i0:Int) (i1:Int) (n2:Nat) (c3:List D):bF pr cv J 109 Tryz.f109 [.undef] 0 (lu x0 i0 i1 n2 c3)=
    (br (pr.lt i1 i0) (br (pr.bz i1 x0.length) (br (br (pr.bG 1 (rows (some true) x0) (pr.idx 0 i1 1)) true false) (cv 105 [(.sl (some (pr.bD (rows (some true) x0) (pr.idx 0 i1 1))) 1 (pr.aZ (rows (some true) x0) (pr.idx 0 i1 1)) (pr.ba (rows (some true) x0) (pr.idx 0 i1 1)))] (.sl (fun dX=>(fun dt=>(.done (br (br (br (pr.nl dt) true false) true false) (br (pr.fits (n2+1) 24) (J 0 (lu x0 i0 (pr.ar .add .i64 i1 1) (n2+1) (List.append c3 [(.sl none 1 dX dt)]))) none) none)))))) none) none) (some ((.sl none 1 n2 c3),[.undef]))):=by kernel_rfl
theorem Ib:Told cfg Tryz.prog 106 Tryz.f106:=⟨by kernel_rfl,Tryz.func106,by kernel_rfl⟩
theorem Ic (x0:aK):aO pr cv J 106 Tryz.f106 [(.agg (bX (some true) x0))]=
    (cv 105 [(sI (some true) x0.aA)] (.sl (fun dX=>(fun dt=>(.done (br (br (br (pr.nl dt) true false) true false) (cv 109 [(sR (some true) x0.bits)] (.ty eG.R (fun (my:List (List Int))=>(.done (some ((.agg [(.sl none 1 dX dt),(sR none my),(.bool x0.cK),(.bool x0.bO),(.bool x0.held),(.int .i64 x0.last)]),[.undef])))))) none)))))):=by kernel_rfl
theorem Fp:Told cfg Tryz.prog 107 Tryz.f107:=⟨by kernel_rfl,Tryz.func107,by kernel_rfl⟩
theorem Fq (x0:aJ):aO pr cv J 107 Tryz.f107 [(.agg (cT (some true) x0))]=
    (cv 140 [(s8 (some true) x0.a)] (.ty eG.B (fun (ax:List UInt8)=>(.done (cv 140 [(s8 (some true) x0.b)] (.ty eG.B (fun (fo:List UInt8)=>(.done (some ((.agg [(s8 none ax),(s8 none fo)]),[.undef])))))))))):=by kernel_rfl
theorem Ie:Told cfg Tryz.prog 47 Tryz.f47:=⟨by kernel_rfl,Tryz.func47,by kernel_rfl⟩
theorem Ig (x0:ae):aO pr cv J 47 Tryz.f47 [(.agg (U (some true) x0))]=
    (cv 105 [(sI (some true) x0.image)] (.sl (fun dX=>(fun dt=>(.done (br (br (br (pr.nl dt) true false) true false) (cv 106 [(.agg (bX (some true) x0.mt))] (.ty eG.mt (fun (my:aK)=>(.done (cv 107 [(.agg (cT (some true) x0.aN))] (.ty eG.aN (fun (r8:aJ)=>(.done (cv 108 [(sB (some true) x0.conn)] (.ty eG.L (fun (Qn:List Bool)=>(.done (cv 109 [(sR (some true) x0.sync)] (.ty eG.R (fun (vm5:List (List Int))=>(.done (cv 108 [(sB (some true) x0.aM)] (.ty eG.L (fun (oJ:List Bool)=>(.done (cv 105 [(sI (some true) x0.wait)] (.sl (fun vn7=>(fun SL=>(.done (br (br (br (pr.nl SL) true false) true false) (some ((.agg [(.int .i64 x0.id),(.bool x0.up),(.bool x0.cn),(.sl none 1 dX dt),(sI none my.aA),(sR none my.bits),(.bool my.cK),(.bool my.bO),(.bool my.held),(.int .i64 my.last),(s8 none r8.a),(s8 none r8.b),(sB none Qn),(sR none vm5),(sB none oJ),(.sl none 1 vn7 SL)]),[.undef])) none)))))))))))))))))))))))))) none)))))):=by kernel_rfl
def xd (x0:aK) (i0:Int) (b1:Bool) (b2:Bool) (b3:Bool) (i4:Int) (n5:Nat) (c6:List D):St:=(St.mk [(1,(.ptr 1 [] 0)),(2,(.ptr 2 [] 0)),(3,(.ptr 3 [] 0)),(4,(.int .i64 i0))] [(1,(bX (some true) x0)),(2,[(.nil 1),(.nil 1),(.bool b1),(.bool b2),(.bool b3),(.int .i64 i4)]),(3,[(.sl none 1 n5 c6),(.nil 1),(.bool x0.cK),(.bool x0.bO),(.bool x0.held),(.int .i64 x0.last)])] [] 0)
def jo (x0:aK) (i0:Int) (b1:Bool) (b2:Bool) (b3:Bool) (i4:Int) (n5:Nat) (c6:List D) (n7:Nat) (c8:List D):St:=(St.mk [(1,(.ptr 1 [] 0)),(2,(.ptr 2 [] 0)),(3,(.ptr 3 [] 0)),(4,(.int .i64 i0))] [(1,(bX (some true) x0)),(2,[(.nil 1),(.nil 1),(.bool b1),(.bool b2),(.bool b3),(.int .i64 i4)]),(3,[(.sl none 1 n5 c6),(.sl none 1 n7 c8),(.bool x0.cK),(.bool x0.bO),(.bool x0.held),(.int .i64 x0.last)])] [] 0)
theorem MZ:Told cfg Tryz.prog 97 Tryz.f97:=⟨by kernel_rfl,Tryz.func97,by kernel_rfl⟩
theorem M0 (x0:aK):aO pr cv J 97 Tryz.f97 [(.agg (bX (some true) x0))]=
    (br (br (pr.cell (ints x0.aA)) (pr.fits (0+x0.aA.length) 8) false) (J 0 (xd x0 0 false false false 0 (0+x0.aA.length) (List.append [] (ints x0.aA)))) none):=by kernel_rfl
theorem Fs (x0:aK) (i0:Int) (b1:Bool) (b2:Bool) (b3:Bool) (i4:Int) (n5:Nat) (c6:List D):bF pr cv J 97 Tryz.f97 [.undef] 0 (xd x0 i0 b1 b2 b3 i4 n5 c6)=
    let y1:Nat:=(0+(pr.aZ (rows (some true) x0.bits) (pr.idx 0 i0 1)))
    (br (pr.lt i0 (pr.aX x0.bits.length)) (br (pr.bz i0 x0.bits.length) (br (br (pr.bG 1 (rows (some true) x0.bits) (pr.idx 0 i0 1)) true false) (br (br (pr.cell (pr.ba (rows (some true) x0.bits) (pr.idx 0 i0 1))) (pr.fits y1 8) false) (br (pr.fits 1 24) (J 0 (jo x0 (pr.ar .add .i64 i0 1) b1 b2 b3 i4 n5 c6 1 [(.sl none 1 y1 (pr.ba (rows (some true) x0.bits) (pr.idx 0 i0 1)))])) none) none) none) none) (some ((.agg [(.sl none 1 n5 c6),(.sl none 1 0 []),(.bool x0.cK),(.bool x0.bO),(.bool x0.held),(.int .i64 x0.last)]),[.undef]))):=by kernel_rfl
theorem Cw (x0:aK) (i0:Int) (b1:Bool) (b2:Bool) (b3:Bool) (i4:Int) (n5:Nat) (c6:List D) (n7:Nat) (c8:List D):bF pr cv J 97 Tryz.f97 [.undef] 0 (jo x0 i0 b1 b2 b3 i4 n5 c6 n7 c8)=
    let y1:Nat:=(0+(pr.aZ (rows (some true) x0.bits) (pr.idx 0 i0 1)))
    (br (pr.lt i0 (pr.aX x0.bits.length)) (br (pr.bz i0 x0.bits.length) (br (br (pr.bG 1 (rows (some true) x0.bits) (pr.idx 0 i0 1)) true false) (br (br (pr.cell (pr.ba (rows (some true) x0.bits) (pr.idx 0 i0 1))) (pr.fits y1 8) false) (br (pr.fits (n7+1) 24) (J 0 (jo x0 (pr.ar .add .i64 i0 1) b1 b2 b3 i4 n5 c6 (n7+1) (List.append c8 [(.sl none 1 y1 (pr.ba (rows (some true) x0.bits) (pr.idx 0 i0 1)))]))) none) none) none) none) (some ((.agg [(.sl none 1 n5 c6),(.sl none 1 n7 c8),(.bool x0.cK),(.bool x0.bO),(.bool x0.held),(.int .i64 x0.last)]),[.undef]))):=by kernel_rfl
theorem M1:Told cfg Tryz.prog 98 Tryz.f98:=⟨by kernel_rfl,Tryz.func98,by kernel_rfl⟩
theorem M3 (x0:aJ):aO pr cv J 98 Tryz.f98 [(.agg (cT (some true) x0))]=
    (br (br (pr.cell (bytes x0.a)) (pr.fits (0+x0.a.length) 1) false) (br (br (pr.cell (bytes x0.b)) (pr.fits (0+x0.b.length) 1) false) (some ((.agg [(.sl none 1 (0+x0.a.length) (List.append [] (bytes x0.a))),(.sl none 1 (0+x0.b.length) (List.append [] (bytes x0.b)))]),[.undef])) none) none):=by kernel_rfl
def xe (x0:ae) (i0:Int) (i1:Int) (b2:Bool) (b3:Bool) (b4:Bool) (b5:Bool) (b6:Bool) (i7:Int) (n8:Nat) (c9:List D) (nf:Nat) (ng:List D) (fL:Nat) (gu:List D) (mD:Bool) (gC:Bool) (j9:Bool) (i17:Int) (Cx:Nat) (wZ:List D) (rj:Nat) (rk:List D) (uF:Nat) (uG:List D) (Av:Nat) (Cy:List D) (qw:Nat) (pA:List D):St:=(St.mk [(1,(.ptr 1 [] 0)),(2,(.ptr 2 [] 0)),(3,(.ptr 3 [] 0)),(4,(.int .i64 i0))] [(1,(U (some true) x0)),(2,[(.int .i64 i1),(.bool b2),(.bool b3),(.nil 1),(.nil 1),(.nil 1),(.bool b4),(.bool b5),(.bool b6),(.int .i64 i7),(.nil 1),(.nil 1),(.nil 1),(.nil 1),(.nil 1),(.nil 1)]),(3,[(.int .i64 x0.id),(.bool x0.up),(.bool x0.cn),(.sl none 1 n8 c9),(.sl none 1 nf ng),(.sl none 1 fL gu),(.bool mD),(.bool gC),(.bool j9),(.int .i64 i17),(.sl none 1 Cx wZ),(.sl none 1 rj rk),(.sl none 1 uF uG),(.nil 1),(.sl none 1 Av Cy),(.sl none 1 qw pA)])] [] 0)
def jq (x0:ae) (i0:Int) (i1:Int) (b2:Bool) (b3:Bool) (b4:Bool) (b5:Bool) (b6:Bool) (i7:Int) (n8:Nat) (c9:List D) (nf:Nat) (ng:List D) (fL:Nat) (gu:List D) (mD:Bool) (gC:Bool) (j9:Bool) (i17:Int) (Cx:Nat) (wZ:List D) (rj:Nat) (rk:List D) (uF:Nat) (uG:List D) (Av:Nat) (Cy:List D) (qw:Nat) (pA:List D) (yj:Nat) (yk:List D):St:=(St.mk [(1,(.ptr 1 [] 0)),(2,(.ptr 2 [] 0)),(3,(.ptr 3 [] 0)),(4,(.int .i64 i0))] [(1,(U (some true) x0)),(2,[(.int .i64 i1),(.bool b2),(.bool b3),(.nil 1),(.nil 1),(.nil 1),(.bool b4),(.bool b5),(.bool b6),(.int .i64 i7),(.nil 1),(.nil 1),(.nil 1),(.nil 1),(.nil 1),(.nil 1)]),(3,[(.int .i64 x0.id),(.bool x0.up),(.bool x0.cn),(.sl none 1 n8 c9),(.sl none 1 nf ng),(.sl none 1 fL gu),(.bool mD),(.bool gC),(.bool j9),(.int .i64 i17),(.sl none 1 Cx wZ),(.sl none 1 rj rk),(.sl none 1 uF uG),(.sl none 1 Av Cy),(.sl none 1 qw pA),(.sl none 1 yj yk)])] [] 0)
theorem M4:Told cfg Tryz.prog 40 Tryz.f40:=⟨by kernel_rfl,Tryz.func40,by kernel_rfl⟩
theorem M5 (x0:ae):aO pr cv J 40 Tryz.f40 [(.agg (U (some true) x0))]=
    (br (br (pr.cell (ints x0.image)) (pr.fits (0+x0.image.length) 8) false) (cv 97 [(.agg (bX (some true) x0.mt))] (.ty eG.mt (fun (ax:aK)=>(.done (cv 98 [(.agg (cT (some true) x0.aN))] (.ty eG.aN (fun (fo:aJ)=>(.done (br (br (pr.cell (aG x0.conn)) (pr.fits (0+x0.conn.length) 1) false) (br (br (pr.cell (aG x0.aM)) (pr.fits (0+x0.aM.length) 1) false) (br (br (pr.cell (ints x0.wait)) (pr.fits (0+x0.wait.length) 8) false) (J 0 (xe x0 0 0 false false false false false 0 (0+x0.image.length) (List.append [] (ints x0.image)) ax.aA.length (ints ax.aA) ax.bits.length (rows none ax.bits) ax.cK ax.bO ax.held ax.last fo.a.length (bytes fo.a) fo.b.length (bytes fo.b) (0+x0.conn.length) (List.append [] (aG x0.conn)) (0+x0.aM.length) (List.append [] (aG x0.aM)) (0+x0.wait.length) (List.append [] (ints x0.wait)))) none) none) none))))))))) none):=by kernel_rfl
theorem Ft (x0:ae) (i0:Int) (i1:Int) (b2:Bool) (b3:Bool) (b4:Bool) (b5:Bool) (b6:Bool) (i7:Int) (n8:Nat) (c9:List D) (nf:Nat) (ng:List D) (fL:Nat) (gu:List D) (mD:Bool) (gC:Bool) (j9:Bool) (i17:Int) (Cx:Nat) (wZ:List D) (rj:Nat) (rk:List D) (uF:Nat) (uG:List D) (Av:Nat) (Cy:List D) (qw:Nat) (pA:List D):bF pr cv J 40 Tryz.f40 [.undef] 0 (xe x0 i0 i1 b2 b3 b4 b5 b6 i7 n8 c9 nf ng fL gu mD gC j9 i17 Cx wZ rj rk uF uG Av Cy qw pA)=
    let y1:Nat:=(0+(pr.aZ (rows (some true) x0.sync) (pr.idx 0 i0 1)))
    (br (pr.lt i0 (pr.aX x0.sync.length)) (br (pr.bz i0 x0.sync.length) (br (br (pr.bG 1 (rows (some true) x0.sync) (pr.idx 0 i0 1)) true false) (br (br (pr.cell (pr.ba (rows (some true) x0.sync) (pr.idx 0 i0 1))) (pr.fits y1 8) false) (br (pr.fits 1 24) (J 0 (jq x0 (pr.ar .add .i64 i0 1) i1 b2 b3 b4 b5 b6 i7 n8 c9 nf ng fL gu mD gC j9 i17 Cx wZ rj rk uF uG 1 [(.sl none 1 y1 (pr.ba (rows (some true) x0.sync) (pr.idx 0 i0 1)))] Av Cy qw pA)) none) none) none) none) (some ((.agg [(.int .i64 x0.id),(.bool x0.up),(.bool x0.cn),(.sl none 1 n8 c9),(.sl none 1 nf ng),(.sl none 1 fL gu),(.bool mD),(.bool gC),(.bool j9),(.int .i64 i17),(.sl none 1 Cx wZ),(.sl none 1 rj rk),(.sl none 1 uF uG),(.sl none 1 0 []),(.sl none 1 Av Cy),(.sl none 1 qw pA)]),[.undef]))):=by kernel_rfl
theorem Cz (x0:ae) (i0:Int) (i1:Int) (b2:Bool) (b3:Bool) (b4:Bool) (b5:Bool) (b6:Bool) (i7:Int) (n8:Nat) (c9:List D) (nf:Nat) (ng:List D) (fL:Nat) (gu:List D) (mD:Bool) (gC:Bool) (j9:Bool) (i17:Int) (Cx:Nat) (wZ:List D) (rj:Nat) (rk:List D) (uF:Nat) (uG:List D) (Av:Nat) (Cy:List D) (qw:Nat) (pA:List D) (yj:Nat) (yk:List D):bF pr cv J 40 Tryz.f40 [.undef] 0 (jq x0 i0 i1 b2 b3 b4 b5 b6 i7 n8 c9 nf ng fL gu mD gC j9 i17 Cx wZ rj rk uF uG Av Cy qw pA yj yk)=
    let y1:Nat:=(0+(pr.aZ (rows (some true) x0.sync) (pr.idx 0 i0 1)))
    (br (pr.lt i0 (pr.aX x0.sync.length)) (br (pr.bz i0 x0.sync.length) (br (br (pr.bG 1 (rows (some true) x0.sync) (pr.idx 0 i0 1)) true false) (br (br (pr.cell (pr.ba (rows (some true) x0.sync) (pr.idx 0 i0 1))) (pr.fits y1 8) false) (br (pr.fits (Av+1) 24) (J 0 (jq x0 (pr.ar .add .i64 i0 1) i1 b2 b3 b4 b5 b6 i7 n8 c9 nf ng fL gu mD gC j9 i17 Cx wZ rj rk uF uG (Av+1) (List.append Cy [(.sl none 1 y1 (pr.ba (rows (some true) x0.sync) (pr.idx 0 i0 1)))]) qw pA yj yk)) none) none) none) none) (some ((.agg [(.int .i64 x0.id),(.bool x0.up),(.bool x0.cn),(.sl none 1 n8 c9),(.sl none 1 nf ng),(.sl none 1 fL gu),(.bool mD),(.bool gC),(.bool j9),(.int .i64 i17),(.sl none 1 Cx wZ),(.sl none 1 rj rk),(.sl none 1 uF uG),(.sl none 1 Av Cy),(.sl none 1 qw pA),(.sl none 1 yj yk)]),[.undef]))):=by kernel_rfl
end
@[go_sem] theorem aow (xs:List Int):List.append [] (ints xs)=ints xs:=rfl
@[go_sem] theorem aox (xs:List UInt8):List.append [] (bytes xs)=bytes xs:=rfl
@[go_sem] theorem aoy (xs:List Bool):List.append [] (aG xs)=aG xs:=rfl
@[go_sem] theorem aoz (xs:List (List Int)):List.append [] (rows none xs)=rows none xs:=rfl
@[go_sem] theorem ano (xs:List Int):[D.sl none 1 xs.length (ints xs)]=rows none [xs]:=rfl
@[go_sem] theorem alY (xs ys:List (List Int)):List.append (rows none xs) (rows none ys)=rows none (xs++ys):=by simp [rows]
@[go_sem] theorem alZ (xs ys:List Bool):List.append (aG xs) (aG ys)=aG (xs++ys):=by simp [aG]
@[go_sem] theorem al0 (xs ys:List UInt8):List.append (bytes xs) (bytes ys)=bytes (xs++ys):=by simp [bytes]
@[go_sem] theorem aj8 (xs:List Int):ad.cell (ints xs)=true:=by simp [ad,ints,da]
@[go_sem] theorem aj9 (xs:List UInt8):ad.cell (bytes xs)=true:=by simp [ad,bytes,du,da]
@[go_sem] theorem aka (xs:List Bool):ad.cell (aG xs)=true:=by simp [ad,aG,da]
theorem ui {α:Type} (xs:List α) (i:Nat) (d:α) (h:i < xs.length):xs.take i++[xs.getD i d]=xs.take (i+1):=by
  rw [List.take_succ_eq_append_getElem h,List.getD_eq_getElem?_getD,List.getElem?_eq_getElem h]
  rfl
theorem YZ (g:Bool) (xs:List Int) (hb:xs.length≤17592186044416):Cm 105 [.sl (some g) 1 xs.length (ints xs)] (.sl none 1 xs.length (ints xs),[.undef]):=by
  refine EN (e:=kK 1 8) (by kernel_rfl) ?_
  have h:(ints xs).all gG=true:=by simp [ints,gG]
  simp only [kK,h]
  rw [if_pos (by refine ⟨?_,?_,?_,?_⟩<;>first | trivial | rfl | omega)]
@[go_sem] theorem aiQ (g:Bool) (n:Nat) (xs:List Int) (e:n=xs.length) (hb:xs.length≤17592186044416) (t:bE Rz):aL 105 [.sl (some g) 1 n (ints xs)] t=feed t [sI none xs]:=by
  subst e
  exact aW (YZ g xs hb) (by kernel_rfl) t
theorem Y0 (g:Bool) (xs:List Bool) (hb:xs.length≤17592186044416):Cm 108 [.sl (some g) 1 xs.length (aG xs)] (.sl none 1 xs.length (aG xs),[.undef]):=by
  refine EN (e:=kK 1 1) (by kernel_rfl) ?_
  have h:(aG xs).all gG=true:=by simp [aG,gG]
  simp only [kK,h]
  rw [if_pos (by refine ⟨?_,?_,?_,?_⟩<;>first | trivial | rfl | omega)]
theorem Y1 (g:Bool) (xs:List UInt8) (hb:xs.length≤17592186044416):Cm 140 [.sl (some g) 1 xs.length (bytes xs)] (.sl none 1 xs.length (bytes xs),[.undef]):=by
  refine EN (e:=kK 1 1) (by kernel_rfl) ?_
  have h:(bytes xs).all gG=true:=by simp [bytes,du,gG]
  simp only [kK,h]
  rw [if_pos (by refine ⟨?_,?_,?_,?_⟩<;>first | trivial | rfl | omega)]
@[go_sem] theorem aiR (g:Bool) (n:Nat) (xs:List Bool) (e:n=xs.length) (hb:xs.length≤17592186044416) (t:bE Rz):aL 108 [.sl (some g) 1 n (aG xs)] t=feed t [enc .L xs]:=by
  subst e
  exact bH (r:=enc .L xs) (s:=.ty .L) (ss:=[.undef]) (Y0 g xs hb) (by kernel_rfl) (au _ _) (by simp only [af,aF,aj,Bool.and_self]) (aq _ _) rfl t
@[go_sem] theorem aiS (g:Bool) (n:Nat) (xs:List UInt8) (e:n=xs.length) (hb:xs.length≤17592186044416) (t:bE Rz):aL 140 [.sl (some g) 1 n (bytes xs)] t=feed t [enc .B xs]:=by
  subst e
  exact bH (r:=enc .B xs) (s:=.ty .B) (ss:=[.undef]) (Y1 g xs hb) (by kernel_rfl) (au _ _) (by simp only [af,aF,aj,Bool.and_self]) (aq _ _) rfl t
theorem Fu (x:List (List Int)) (q0:rU x):Cm 109 [sR (some true) x] (sR none (x),[.undef]):=by
  have hx:=q0.1
  refine Cm.step Fm [.undef] fun J hJ=>?_
  rw [Fo]
  simp (disch:=first | assumption | omega) only [go_sem]
  refine hJ _ _ ?_
  refine WP.up (H:=fun i=>lu x x.length i i (rows none (x.take i))) x.length (fun _=>True) (fun i hi _ J hJ next=>?_) 0 (Nat.zero_le _) trivial
  rw [Ax]
  simp (disch:=first | assumption | omega) only [go_sem]
  refine bK (fun cX=>?_) (fun qP=>?_)
  · have h2:=u9 q0 i
    simp (disch:=first | assumption | omega) only [go_sem]
    rw [ui x i [] (by omega)]
    exact next (by omega) trivial
  · have e:i=x.length:=by omega
    subst e
    rw [List.take_length]
@[go_sem] theorem Y2 (x0:Nat) (x:List (List Int)) (e0:x0=x.length) (q0:rU x) (t:bE Rz):aL 109 [.sl (some true) 1 x0 (rows (some true) x)] t=feed t [enc .R (x)]:=by
  subst e0
  exact bH (r:=enc .R (x)) (s:=.ty .R) (ss:=[.undef]) (Fu x q0) (by kernel_rfl) (by simp only [au,bq,aU,bt,bu,af,aj,Bool.and_self]) (by simp only [af,aF,au,aj,Bool.and_self]) (by first | rfl | simp only [aq,aS,aR,bn,bo,aT,bp,Bool.and_self]) (by first | rfl | simp only [List.all_cons,List.all_nil,aq,Bool.and_self]) t
theorem Ih (m:aK) (q0:cO m):Cm 106 [.agg (bX (some true) m)] (.agg (bX none (m)),[.undef]):=by
  have h1:=q0.aA
  have h2:=q0.bits
  refine Cm.step Ib [.undef] fun J hJ=>?_
  rw [Ic]
  simp (disch:=first | assumption | omega) only [go_sem]
@[go_sem] theorem aas (m:aK) (q0:cO m) (t:bE Rz):aL 106 [.agg (tj (some true) m)] t=feed t [enc .mt (m)]:=by
  exact bH (r:=enc .mt (m)) (s:=.ty .mt) (ss:=[.undef]) (Ih m q0) (by kernel_rfl) (by simp only [au,bq,aU,bt,bu,af,aj,Bool.and_self]) (by simp only [af,aF,au,aj,Bool.and_self]) (by first | rfl | simp only [aq,aS,aR,bn,bo,aT,bp,Bool.and_self]) (by first | rfl | simp only [List.all_cons,List.all_nil,aq,Bool.and_self]) t
theorem Fv (m:aJ) (q0:dN m):Cm 107 [.agg (cT (some true) m)] (.agg (cT none (m)),[.undef]):=by
  have h1:=q0.a
  have h2:=q0.b
  refine Cm.step Fp [.undef] fun J hJ=>?_
  rw [Fq]
  simp (disch:=first | assumption | omega) only [go_sem]
@[go_sem] theorem Y3 (m:aJ) (q0:dN m) (t:bE Rz):aL 107 [.agg (nn (some true) m)] t=feed t [enc .aN (m)]:=by
  exact bH (r:=enc .aN (m)) (s:=.ty .aN) (ss:=[.undef]) (Fv m q0) (by kernel_rfl) (by simp only [au,bq,aU,bt,bu,af,aj,Bool.and_self]) (by simp only [af,aF,au,aj,Bool.and_self]) (by first | rfl | simp only [aq,aS,aR,bn,bo,aT,bp,Bool.and_self]) (by first | rfl | simp only [List.all_cons,List.all_nil,aq,Bool.and_self]) t
theorem Ii (n:ae) (q0:bU n):Cm 47 [.agg (U (some true) n)] (.agg (U none (n)),[.undef]):=by
  have h1:=q0.image
  have h2:=q0.mt
  have h3:=q0.aN
  have h4:=q0.conn
  have h5:=q0.sync
  have h6:=q0.aM
  have h7:=q0.wait
  refine Cm.step Ie [.undef] fun J hJ=>?_
  rw [Ig]
  simp (disch:=first | assumption | omega) only [go_sem]
  rfl
@[go_sem] theorem aat (n:ae) (q0:bU n) (t:bE Rz):aL 47 [.agg (fx (some true) n)] t=feed t [enc .node (n)]:=by
  exact bH (r:=enc .node (n)) (s:=.ty .node) (ss:=[.undef]) (Ii n q0) (by kernel_rfl) (by simp only [au,bq,aU,bt,bu,af,aj,Bool.and_self]) (by simp only [af,aF,au,aj,Bool.and_self]) (by first | rfl | simp only [aq,aS,aR,bn,bo,aT,bp,Bool.and_self]) (by first | rfl | simp only [List.all_cons,List.all_nil,aq,Bool.and_self]) t
theorem M6 (m:aJ) (q0:dN m):Cm 98 [.agg (cT (some true) m)] (.agg (cT none (m)),[.undef]):=by
  have h1:=q0.a
  have h2:=q0.b
  refine Cm.step M1 [.undef] fun J hJ=>?_
  rw [M3]
  simp (disch:=first | assumption | omega) only [go_sem]
@[go_sem] theorem acn (m:aJ) (q0:dN m) (t:bE Rz):aL 98 [.agg (nn (some true) m)] t=feed t [enc .aN (m)]:=by
  exact bH (r:=enc .aN (m)) (s:=.ty .aN) (ss:=[.undef]) (M6 m q0) (by kernel_rfl) (by simp only [au,bq,aU,bt,bu,af,aj,Bool.and_self]) (by simp only [af,aF,au,aj,Bool.and_self]) (by first | rfl | simp only [aq,aS,aR,bn,bo,aT,bp,Bool.and_self]) (by first | rfl | simp only [List.all_cons,List.all_nil,aq,Bool.and_self]) t
theorem M7 (m:aK) (q0:cO m):Cm 97 [.agg (bX (some true) m)] (.agg (bX none (m)),[.undef]):=by
  have h1:=q0.aA
  have h2:=q0.bits
  have h3:=q0.bits.1
  have key:∀ i,i≤m.bits.length→1≤i→WP 97 Tryz.f97 [.undef] 0 (jo m i false false false 0 m.aA.length (ints m.aA) i (rows none (m.bits.take i))) (.agg (bX none m),[.undef]):=by
    refine WP.up (H:=fun i=>jo m i false false false 0 m.aA.length (ints m.aA) i (rows none (m.bits.take i))) m.bits.length (fun i=>1≤i) (fun i hi h1i J hJ next=>?_)
    rw [Cw]
    simp (disch:=first | assumption | omega) only [go_sem]
    refine bK (fun cX=>?_) (fun qP=>?_)
    · have h4:=u9 h2 i
      simp (disch:=first | assumption | omega) only [go_sem]
      rw [ui m.bits i [] (by omega)]
      exact next (by omega) (by omega)
    · have e:i=m.bits.length:=by omega
      subst e
      rw [List.take_length]
      simp (disch:=first | assumption | omega) only [go_sem]
  refine Cm.step MZ [.undef] fun J hJ=>?_
  rw [M0]
  simp (disch:=first | assumption | omega) only [go_sem]
  refine hJ _ _ ?_
  refine WP.step fun J hJ=>?_
  rw [Fs]
  simp (disch:=first | assumption | omega) only [go_sem]
  refine bK (fun cX=>?_) (fun qP=>?_)
  · have h4:=u9 h2 0
    simp (disch:=first | assumption | omega) only [go_sem]
    have h5:=hJ _ _ (key 1 (by omega) (by omega))
    rw [← ui m.bits 0 [] (by omega)] at h5
    exact h5
  · have e:m.bits=[]:=List.length_eq_zero_iff.1 (by omega)
    obtain ⟨a,b,f,o,h,l⟩:=m
    dsimp only at e
    subst e
    rfl
@[go_sem] theorem aco (m:aK) (q0:cO m) (t:bE Rz):aL 97 [.agg (tj (some true) m)] t=feed t [enc .mt (m)]:=by
  exact bH (r:=enc .mt (m)) (s:=.ty .mt) (ss:=[.undef]) (M7 m q0) (by kernel_rfl) (by simp only [au,bq,aU,bt,bu,af,aj,Bool.and_self]) (by simp only [af,aF,au,aj,Bool.and_self]) (by first | rfl | simp only [aq,aS,aR,bn,bo,aT,bp,Bool.and_self]) (by first | rfl | simp only [List.all_cons,List.all_nil,aq,Bool.and_self]) t
theorem M8 (n:ae) (q0:bU n):Cm 40 [.agg (U (some true) n)] (.agg (U none (n)),[.undef]):=by
  have h1:=q0.image
  have h2:=q0.mt
  have h3:=q0.aN
  have h4:=q0.conn
  have h5:=q0.sync
  have h6:=q0.aM
  have h7:=q0.wait
  have h8:=h5.1
  have key:∀ i,i≤n.sync.length→1≤i→WP 40 Tryz.f40 [.undef] 0 (jq n i 0 false false false false false 0 n.image.length (ints n.image) n.mt.aA.length (ints n.mt.aA) n.mt.bits.length (rows none n.mt.bits) n.mt.cK n.mt.bO n.mt.held n.mt.last n.aN.a.length (bytes n.aN.a) n.aN.b.length (bytes n.aN.b) n.conn.length (aG n.conn) i (rows none (n.sync.take i)) n.aM.length (aG n.aM) n.wait.length (ints n.wait)) (.agg (U none n),[.undef]):=by
    refine WP.up (H:=fun i=>jq n i 0 false false false false false 0 n.image.length (ints n.image) n.mt.aA.length (ints n.mt.aA) n.mt.bits.length (rows none n.mt.bits) n.mt.cK n.mt.bO n.mt.held n.mt.last n.aN.a.length (bytes n.aN.a) n.aN.b.length (bytes n.aN.b) n.conn.length (aG n.conn) i (rows none (n.sync.take i)) n.aM.length (aG n.aM) n.wait.length (ints n.wait)) n.sync.length (fun i=>1≤i) (fun i hi h1i J hJ next=>?_)
    rw [Cz]
    simp (disch:=first | assumption | omega) only [go_sem]
    refine bK (fun cX=>?_) (fun qP=>?_)
    · have h4:=u9 h5 i
      simp (disch:=first | assumption | omega) only [go_sem]
      rw [ui n.sync i [] (by omega)]
      exact next (by omega) (by omega)
    · have e:i=n.sync.length:=by omega
      subst e
      rw [List.take_length]
      first | rfl | (simp (disch:=first | assumption | omega) only [go_sem]; done) | (simp (disch:=first | assumption | omega) only [go_sem]; rfl)
  refine Cm.step M4 [.undef] fun J hJ=>?_
  rw [M5]
  simp (disch:=first | assumption | omega) only [go_sem]
  refine hJ _ _ ?_
  refine WP.step fun J hJ=>?_
  rw [Ft]
  simp (disch:=first | assumption | omega) only [go_sem]
  refine bK (fun cX=>?_) (fun qP=>?_)
  · have h4:=u9 h5 0
    simp (disch:=first | assumption | omega) only [go_sem]
    have h5:=hJ _ _ (key 1 (by omega) (by omega))
    rw [← ui n.sync 0 [] (by omega)] at h5
    exact h5
  · have e:n.sync=[]:=List.length_eq_zero_iff.1 (by omega)
    obtain ⟨a1,a2,a3,a4,a5,a6,a7,a8,a9,a10⟩:=n
    dsimp only at e
    subst e
    rfl
@[go_sem] theorem acp (n:ae) (q0:bU n) (t:bE Rz):aL 40 [.agg (fx (some true) n)] t=feed t [enc .node (n)]:=by
  exact bH (r:=enc .node (n)) (s:=.ty .node) (ss:=[.undef]) (M8 n q0) (by kernel_rfl) (by simp only [au,bq,aU,bt,bu,af,aj,Bool.and_self]) (by simp only [af,aF,au,aj,Bool.and_self]) (by first | rfl | simp only [aq,aS,aR,bn,bo,aT,bp,Bool.and_self]) (by first | rfl | simp only [List.all_cons,List.all_nil,aq,Bool.and_self]) t
end Go.Proofs.YtockoilcnmljiaaGreat
namespace Go.Proofs.YtockoilcnmljiaaGreat
set_option maxRecDepth 100000
section
variable (pr:dA) (cv:Cv Rz) (J:Nat→St→Option Rz)
theorem Qs:Told cfg Tryz.prog 14 Tryz.f14:=⟨by kernel_rfl,Tryz.func14,by kernel_rfl⟩
theorem Qt (x0:ae):aO pr cv J 14 Tryz.f14 [(.agg (U (some true) x0))]=
    (cv 47 [(.agg (U (some true) x0))] (.ty eG.node (fun (ax:ae)=>(.done (cv 48 [(.agg (cu true (U none ax)))] (.bool (fun eP=>(.done (br (br eP false true) (some ((.aP [(.agg (U none ax)),(.bool false)]),[.undef])) (br (br ax.cn false true) (some ((.aP [(.agg (U none ax)),(.bool false)]),[.undef])) (some ((.aP [(.agg [(.int .i64 ax.id),(.bool ax.up),(.bool false),(sI none ax.image),(sI none ax.mt.aA),(sR none ax.mt.bits),(.bool ax.mt.cK),(.bool ax.mt.bO),(.bool ax.mt.held),(.int .i64 ax.mt.last),(s8 none ax.aN.a),(s8 none ax.aN.b),(sB none ax.conn),(sR none ax.sync),(sB none ax.aM),(.sl none 1 0 [])]),(.bool true)]),[.undef])))))))))))):=by kernel_rfl
theorem Qu:Told cfg Tryz.prog 12 Tryz.f12:=⟨by kernel_rfl,Tryz.func12,by kernel_rfl⟩
theorem Qv (x0:ae):aO pr cv J 12 Tryz.f12 [(.agg (U (some true) x0))]=
    (cv 40 [(.agg (U (some true) x0))] (.ty eG.node (fun (ax:ae)=>(.done (cv 41 [(.agg (U (some true) x0))] (.bool (fun eP=>(.done (br (br eP false true) (some ((.aP [(.agg (U none ax)),(.bool false)]),[.undef])) (br (br x0.cn false true) (some ((.aP [(.agg (U none ax)),(.bool false)]),[.undef])) (some ((.aP [(.agg [(.int .i64 ax.id),(.bool ax.up),(.bool false),(sI none ax.image),(sI none ax.mt.aA),(sR none ax.mt.bits),(.bool ax.mt.cK),(.bool ax.mt.bO),(.bool ax.mt.held),(.int .i64 ax.mt.last),(s8 none ax.aN.a),(s8 none ax.aN.b),(sB none ax.conn),(sR none ax.sync),(sB none ax.aM),(.sl none 1 0 [])]),(.bool true)]),[.undef])))))))))))):=by kernel_rfl
theorem Rn:Told cfg Tryz.prog 19 Tryz.f19:=⟨by kernel_rfl,Tryz.func19,by kernel_rfl⟩
theorem Ro (x0:ae) (x1:ae) (x2:Bool):aO pr cv J 19 Tryz.f19 [(.agg (U (some true) x0)),(.agg (U (some true) x1)),(.bool x2)]=
    (cv 65 [(.agg (U (some true) x0)),(.agg (U (some true) x1)),(.bool x2)] (.bool (fun bR=>(.done (cv 47 [(.agg (U (some true) x0))] (.ty eG.node (fun (fo:ae)=>(.done (br fo.cn (some ((.aP [(.agg [(.int .i64 fo.id),(.bool fo.up),(.bool true),(sI none fo.image),(sI none fo.mt.aA),(sR none fo.mt.bits),(.bool fo.mt.cK),(.bool fo.mt.bO),(.bool fo.mt.held),(.int .i64 fo.mt.last),(s8 none fo.aN.a),(s8 none fo.aN.b),(sB none fo.conn),(sR none fo.sync),(sB none fo.aM),(sI none fo.wait)]),(.bool bR)]),[.undef,.undef,.undef])) (some ((.aP [(.agg [(.int .i64 fo.id),(.bool fo.up),(.bool bR),(sI none fo.image),(sI none fo.mt.aA),(sR none fo.mt.bits),(.bool fo.mt.cK),(.bool fo.mt.bO),(.bool fo.mt.held),(.int .i64 fo.mt.last),(s8 none fo.aN.a),(s8 none fo.aN.b),(sB none fo.conn),(sR none fo.sync),(sB none fo.aM),(sI none fo.wait)]),(.bool bR)]),[.undef,.undef,.undef]))))))))))):=by kernel_rfl
theorem Rp:Told cfg Tryz.prog 18 Tryz.f18:=⟨by kernel_rfl,Tryz.func18,by kernel_rfl⟩
theorem Rq (x0:ae) (x1:ae) (x2:Bool):aO pr cv J 18 Tryz.f18 [(.agg (U (some true) x0)),(.agg (U (some true) x1)),(.bool x2)]=
    (cv 40 [(.agg (U (some true) x0))] (.ty eG.node (fun (ax:ae)=>(.done (cv 64 [(.agg (U (some true) x0)),(.agg (U (some true) x1)),(.bool x2)] (.bool (fun eP=>(.done (br (br eP false true) (some ((.aP [(.agg (U none ax)),(.bool false)]),[.undef,.undef,.undef])) (some ((.aP [(.agg [(.int .i64 ax.id),(.bool ax.up),(.bool true),(sI none ax.image),(sI none ax.mt.aA),(sR none ax.mt.bits),(.bool ax.mt.cK),(.bool ax.mt.bO),(.bool ax.mt.held),(.int .i64 ax.mt.last),(s8 none ax.aN.a),(s8 none ax.aN.b),(sB none ax.conn),(sR none ax.sync),(sB none ax.aM),(sI none ax.wait)]),(.bool true)]),[.undef,.undef,.undef]))))))))))):=by kernel_rfl
end
noncomputable def lv (n:ae):ae × Bool:=if (dI n&&n.cn)=true then ({ n with cn:=false,wait:=[] },true) else (n,false)
theorem Qw (n:ae) (q0:bU n):Cm 14 [.agg (U (some true) n)] (.aP [.agg (U none ((lv n).1)),.bool ((lv n).2)],[.undef]):=by
  refine Cm.step Qs [.undef] fun J hJ=>?_
  rw [Qt]
  unfold lv
  simp (disch:=first | assumption | omega) only [go_sem]
  cases h1:dI n<;>cases h2:n.cn<;>rfl
@[go_sem] theorem aeP (n:ae) (q0:bU n) (t:bE Rz):aL 14 [.agg (fx (some true) n)] t=feed t [enc .node ((lv n).1),.bool ((lv n).2)]:=by
  exact bH (r:=.aP [enc .node ((lv n).1),.bool ((lv n).2)]) (s:=.aP [.ty .node,.bool]) (ss:=[.undef]) (Qw n q0) (by kernel_rfl) (by simp only [au,bq,aU,bt,bu,af,aj,Bool.and_self]) (by simp only [af,aF,au,aj,Bool.and_self]) (by first | rfl | simp only [aq,aS,aR,bn,bo,aT,bp,Bool.and_self]) (by first | rfl | simp only [List.all_cons,List.all_nil,aq,Bool.and_self]) t
theorem Qx (n:ae) (q0:bU n):Cm 12 [.agg (U (some true) n)] (.aP [.agg (U none ((lv n).1)),.bool ((lv n).2)],[.undef]):=by
  refine Cm.step Qu [.undef] fun J hJ=>?_
  rw [Qv]
  unfold lv
  simp (disch:=first | assumption | omega) only [go_sem]
  cases h1:dI n<;>cases h2:n.cn<;>rfl
@[go_sem] theorem aeQ (n:ae) (q0:bU n) (t:bE Rz):aL 12 [.agg (fx (some true) n)] t=feed t [enc .node ((lv n).1),.bool ((lv n).2)]:=by
  exact bH (r:=.aP [enc .node ((lv n).1),.bool ((lv n).2)]) (s:=.aP [.ty .node,.bool]) (ss:=[.undef]) (Qx n q0) (by kernel_rfl) (by simp only [au,bq,aU,bt,bu,af,aj,Bool.and_self]) (by simp only [af,aF,au,aj,Bool.and_self]) (by first | rfl | simp only [aq,aS,aR,bn,bo,aT,bp,Bool.and_self]) (by first | rfl | simp only [List.all_cons,List.all_nil,aq,Bool.and_self]) t
noncomputable def lx (x y:ae) (q:Bool):ae × Bool:=if iA x y q=true then ({ x with cn:=true },true) else (x,false)
theorem Up {x y:ae} {q:Bool} (h:iA x y q=true):x.cn=false:=by
  unfold iA at h
  simp only [Bool.and_eq_true,Bool.not_eq_true'] at h
  exact h.2.2.2.2.1
theorem Rr (x:ae) (y:ae) (q:Bool) (q0:bU x) (q1:bU y):Cm 19 [.agg (U (some true) x),.agg (U (some true) y),.bool q] (.aP [.agg (U none ((lx x y q).1)),.bool ((lx x y q).2)],[.undef,.undef,.undef]):=by
  refine Cm.step Rn [.undef,.undef,.undef] fun J hJ=>?_
  rw [Ro]
  have h3:=@Up x y q
  unfold lx
  simp (disch:=first | assumption | omega) only [go_sem]
  generalize iA x y q=m at h3 ⊢
  obtain ⟨a1,a2,a3,a4,a5,a6,a7,a8,a9,a10⟩:=x
  cases m with
  | true=>
    have:=h3 rfl
    dsimp only at this
    subst this
    rfl
  | false=>cases a3<;>rfl
@[go_sem] theorem aff (x:ae) (y:ae) (q:Bool) (q0:bU x) (q1:bU y) (t:bE Rz):aL 19 [.agg (fx (some true) x),.agg (fx (some true) y),.bool q] t=feed t [enc .node ((lx x y q).1),.bool ((lx x y q).2)]:=by
  exact bH (r:=.aP [enc .node ((lx x y q).1),.bool ((lx x y q).2)]) (s:=.aP [.ty .node,.bool]) (ss:=[.undef,.undef,.undef]) (Rr x y q q0 q1) (by kernel_rfl) (by simp only [au,bq,aU,bt,bu,af,aj,Bool.and_self]) (by simp only [af,aF,au,aj,Bool.and_self]) (by first | rfl | simp only [aq,aS,aR,bn,bo,aT,bp,Bool.and_self]) (by first | rfl | simp only [List.all_cons,List.all_nil,aq,Bool.and_self]) t
theorem Rs (x:ae) (y:ae) (q:Bool) (q0:bU x) (q1:bU y):Cm 18 [.agg (U (some true) x),.agg (U (some true) y),.bool q] (.aP [.agg (U none ((lx x y q).1)),.bool ((lx x y q).2)],[.undef,.undef,.undef]):=by
  refine Cm.step Rp [.undef,.undef,.undef] fun J hJ=>?_
  rw [Rq]
  unfold lx
  simp (disch:=first | assumption | omega) only [go_sem]
  generalize iA x y q=m
  cases m<;>rfl
@[go_sem] theorem afg (x:ae) (y:ae) (q:Bool) (q0:bU x) (q1:bU y) (t:bE Rz):aL 18 [.agg (fx (some true) x),.agg (fx (some true) y),.bool q] t=feed t [enc .node ((lx x y q).1),.bool ((lx x y q).2)]:=by
  exact bH (r:=.aP [enc .node ((lx x y q).1),.bool ((lx x y q).2)]) (s:=.aP [.ty .node,.bool]) (ss:=[.undef,.undef,.undef]) (Rs x y q q0 q1) (by kernel_rfl) (by simp only [au,bq,aU,bt,bu,af,aj,Bool.and_self]) (by simp only [af,aF,au,aj,Bool.and_self]) (by first | rfl | simp only [aq,aS,aR,bn,bo,aT,bp,Bool.and_self]) (by first | rfl | simp only [List.all_cons,List.all_nil,aq,Bool.and_self]) t
end Go.Proofs.YtockoilcnmljiaaGreat
namespace Go.Proofs.YtockoilcnmljiaaGreat
set_option maxRecDepth 100000
section
variable (pr:dA) (cv:Cv Rz) (J:Nat→St→Option Rz)
def CA (g0:Bool) (x0:List UInt8) (x1:Int) (i0:Int):St:=(St.mk [(0,(s8 (some g0) x0)),(1,(.int .i64 x1)),(5,(.int .i64 i0))] [] [] 0)
def jz (g0:Bool) (x0:List UInt8) (i0:Int) (i1:Int):St:=(St.mk [(0,(s8 (some g0) x0)),(1,(.int .i64 i0)),(5,(.int .i64 i1))] [] [] 0)
theorem Fw:Told cfg Tryz.prog 118 Tryz.f118:=⟨by kernel_rfl,Tryz.func118,by kernel_rfl⟩
theorem Fx (g0:Bool) (x0:List UInt8) (x1:Int):aO pr cv J 118 Tryz.f118 [(s8 (some g0) x0),(.int .i64 x1)]=
    (J 0 (CA g0 x0 x1 0)):=by kernel_rfl
theorem yI (g0:Bool) (x0:List UInt8) (i0:Int) (i1:Int):bF pr cv J 118 Tryz.f118 [.undef,.undef] 0 (jz g0 x0 i0 i1)=
    (br (pr.lt i1 (pr.aX x0.length)) (br (pr.bz i1 x0.length) (br (br (pr.cg .u8 (bytes x0) (pr.idx 0 i1 1)) true false) (br (br (pr.eq (pr.bm (bytes x0) (pr.idx 0 i1 1)) (pr.wrap .u8 i0)) false true) (some ((.int .i64 (-1)),[.undef,.undef])) (J 0 (jz g0 x0 (pr.ar .add .i64 i0 1) (pr.ar .add .i64 i1 1)))) none) none) (some ((.int .i64 i0),[.undef,.undef]))):=by kernel_rfl
def CB (g0:Bool) (x0:List Bool) (x1:Int) (i0:Int):St:=(St.mk [(0,(sB (some g0) x0)),(1,(.int .i64 x1)),(5,(.int .i64 i0))] [] [] 0)
def jA (g0:Bool) (x0:List Bool) (i0:Int) (i1:Int):St:=(St.mk [(0,(sB (some g0) x0)),(1,(.int .i64 i0)),(5,(.int .i64 i1))] [] [] 0)
theorem Fy:Told cfg Tryz.prog 62 Tryz.f62:=⟨by kernel_rfl,Tryz.func62,by kernel_rfl⟩
theorem Fz (g0:Bool) (x0:List Bool) (x1:Int):aO pr cv J 62 Tryz.f62 [(sB (some g0) x0),(.int .i64 x1)]=
    (J 0 (CB g0 x0 x1 0)):=by kernel_rfl
theorem yJ (g0:Bool) (x0:List Bool) (i0:Int) (i1:Int):bF pr cv J 62 Tryz.f62 [.undef,.undef] 0 (jA g0 x0 i0 i1)=
    (br (pr.lt i1 (pr.aX x0.length)) (br (pr.bz i1 x0.length) (br (br (pr.cI (aG x0) (pr.idx 0 i1 1)) true false) (br (br (pr.eq 3 0) false true) (br (br (pr.beq (pr.bT (aG x0) (pr.idx 0 i1 1)) (pr.eq (pr.ar .rem .i64 i0 3) 0)) false true) (some ((.int .i64 (-1)),[.undef,.undef])) (J 0 (jA g0 x0 (pr.ar .add .i64 i0 1) (pr.ar .add .i64 i1 1)))) none) none) none) (some ((.int .i64 i0),[.undef,.undef]))):=by kernel_rfl
def CC (g0:Bool) (x0:List (List Int)) (x1:Int) (i0:Int):St:=(St.mk [(0,(sR (some g0) x0)),(1,(.int .i64 x1)),(5,(.int .i64 i0))] [] [] 0)
def jB (g0:Bool) (x0:List (List Int)) (i0:Int) (i1:Int):St:=(St.mk [(0,(sR (some g0) x0)),(1,(.int .i64 i0)),(5,(.int .i64 i1))] [] [] 0)
theorem FB:Told cfg Tryz.prog 63 Tryz.f63:=⟨by kernel_rfl,Tryz.func63,by kernel_rfl⟩
theorem FC (g0:Bool) (x0:List (List Int)) (x1:Int):aO pr cv J 63 Tryz.f63 [(sR (some g0) x0),(.int .i64 x1)]=
    (J 0 (CC g0 x0 x1 0)):=by kernel_rfl
theorem yK (g0:Bool) (x0:List (List Int)) (i0:Int) (i1:Int):bF pr cv J 63 Tryz.f63 [.undef,.undef] 0 (jB g0 x0 i0 i1)=
    (br (pr.lt i1 (pr.aX x0.length)) (br (pr.bz i1 x0.length) (br (br (pr.bG 1 (rows (some g0) x0) (pr.idx 0 i1 1)) true false) (cv 59 [(.sl (some (pr.bD (rows (some g0) x0) (pr.idx 0 i1 1))) 1 (pr.aZ (rows (some g0) x0) (pr.idx 0 i1 1)) (pr.ba (rows (some g0) x0) (pr.idx 0 i1 1))),(.int .i64 i0)] (.int (fun dm=>(.done (br (pr.lt dm 0) (some ((.int .i64 (-1)),[.undef,.undef])) (J 0 (jB g0 x0 dm (pr.ar .add .i64 i1 1)))))))) none) none) (some ((.int .i64 i0),[.undef,.undef]))):=by kernel_rfl
theorem Ij:Told cfg Tryz.prog 55 Tryz.f55:=⟨by kernel_rfl,Tryz.func55,by kernel_rfl⟩
theorem Ik (x0:aK) (x1:Int):aO pr cv J 55 Tryz.f55 [(.agg (bX none x0)),(.int .i64 x1)]=
    (br (br (br (pr.nl (ints x0.aA)) true false) true false) (cv 54 [(sI none x0.aA),(.int .i64 x1)] (.int (fun dm=>(.sl (fun rp=>(fun oY=>(.done (br (br (br (pr.nl oY) true false) true false) (br (br (br (pr.neq x0.aA.length rp) true false) true false) (br (br (br (pr.nl (rows none x0.bits)) true false) true false) (cv 58 [(sR none x0.bits),(.int .i64 dm)] (.int (fun rS=>(.sl (fun yi=>(fun uz=>(.done (br (br (br (pr.nl uz) true false) true false) (br (br (br (pr.neq x0.bits.length yi) true false) true false) (some ((.int .i64 rS),[(.agg [(.sl none 1 rp oY),(.sl none 1 yi uz),(.bool x0.cK),(.bool x0.bO),(.bool x0.held),(.int .i64 x0.last)]),.undef])) none) none)))))))) none) none) none)))))))) none):=by kernel_rfl
theorem FD:Told cfg Tryz.prog 56 Tryz.f56:=⟨by kernel_rfl,Tryz.func56,by kernel_rfl⟩
theorem FE (x0:aJ) (x1:Int):aO pr cv J 56 Tryz.f56 [(.agg (cT none x0)),(.int .i64 x1)]=
    (br (br (br (pr.nl (bytes x0.a)) true false) true false) (cv 117 [(s8 none x0.a),(.int .i64 x1)] (.int (fun dm=>(.sl (fun rp=>(fun oY=>(.done (br (br (br (pr.nl oY) true false) true false) (br (br (br (pr.neq x0.a.length rp) true false) true false) (br (br (br (pr.nl (bytes x0.b)) true false) true false) (cv 117 [(s8 none x0.b),(.int .i64 dm)] (.int (fun rS=>(.sl (fun yi=>(fun uz=>(.done (br (br (br (pr.nl uz) true false) true false) (br (br (br (pr.neq x0.b.length yi) true false) true false) (some ((.int .i64 rS),[(.agg [(.sl none 1 rp oY),(.sl none 1 yi uz)]),.undef])) none) none)))))))) none) none) none)))))))) none):=by kernel_rfl
theorem Il:Told cfg Tryz.prog 16 Tryz.f16:=⟨by kernel_rfl,Tryz.func16,by kernel_rfl⟩
theorem Im (x0:ae) (x1:Int):aO pr cv J 16 Tryz.f16 [(.agg (U none x0)),(.int .i64 x1)]=
    (br (br (br (pr.nl (ints x0.image)) true false) true false) (cv 54 [(sI none x0.image),(.int .i64 x1)] (.int (fun dm=>(.sl (fun rp=>(fun oY=>(.done (br (br (br (pr.nl oY) true false) true false) (br (br (br (pr.neq x0.image.length rp) true false) true false) (br (br (br (pr.nl (ints x0.mt.aA)) (br (pr.nl (rows none x0.mt.bits)) true false) false) true false) (cv 55 [(.agg (bX none x0.mt)),(.int .i64 dm)] (.int (fun rS=>(.sl (fun yi=>(fun uz=>(.sl (fun vn6=>(fun Wv=>(.bool (fun Sz=>(.bool (fun vb9=>(.bool (fun aeS=>(.int (fun Ci=>(.done (br (br (br (pr.nl uz) (br (pr.nl Wv) true false) false) true false) (br (br (br (pr.neq x0.mt.aA.length yi) (br (pr.neq x0.mt.bits.length vn6) true false) false) true false) (br (br (br (pr.nl (bytes x0.aN.a)) (br (pr.nl (bytes x0.aN.b)) true false) false) true false) (cv 56 [(.agg (cT none x0.aN)),(.int .i64 rS)] (.int (fun aiT=>(.sl (fun aeT=>(fun aeU=>(.sl (fun J1=>(fun xH=>(.done (br (br (br (pr.nl aeU) (br (pr.nl xH) true false) false) true false) (br (br (br (pr.neq x0.aN.a.length aeT) (br (pr.neq x0.aN.b.length J1) true false) false) true false) (br (br (br (pr.nl (aG x0.conn)) true false) true false) (cv 57 [(sB none x0.conn),(.int .i64 aiT)] (.int (fun Qg=>(.sl (fun T9=>(fun Pu=>(.done (br (br (br (pr.nl Pu) true false) true false) (br (br (br (pr.neq x0.conn.length T9) true false) true false) (br (br (br (pr.nl (rows none x0.sync)) true false) true false) (cv 58 [(sR none x0.sync),(.int .i64 Qg)] (.int (fun aiU=>(.sl (fun Uq=>(fun Ur=>(.done (br (br (br (pr.nl Ur) true false) true false) (br (br (br (pr.neq x0.sync.length Uq) true false) true false) (br (br (br (pr.nl (aG x0.aM)) true false) true false) (cv 57 [(sB none x0.aM),(.int .i64 aiU)] (.int (fun aiV=>(.sl (fun aeV=>(fun aeW=>(.done (br (br (br (pr.nl aeW) true false) true false) (br (br (br (pr.neq x0.aM.length aeV) true false) true false) (br (br (br (pr.nl (ints x0.wait)) true false) true false) (cv 54 [(sI none x0.wait),(.int .i64 aiV)] (.int (fun aiW=>(.sl (fun aeX=>(fun aeY=>(.done (br (br (br (pr.nl aeY) true false) true false) (br (br (br (pr.neq x0.wait.length aeX) true false) true false) (some ((.int .i64 aiW),[(.agg [(.int .i64 x0.id),(.bool x0.up),(.bool x0.cn),(.sl none 1 rp oY),(.sl none 1 yi uz),(.sl none 1 vn6 Wv),(.bool x0.mt.cK),(.bool x0.mt.bO),(.bool x0.mt.held),(.int .i64 x0.mt.last),(.sl none 1 aeT aeU),(.sl none 1 J1 xH),(.sl none 1 T9 Pu),(.sl none 1 Uq Ur),(.sl none 1 aeV aeW),(.sl none 1 aeX aeY)]),.undef])) none) none)))))))) none) none) none)))))))) none) none) none)))))))) none) none) none)))))))) none) none) none))))))))))) none) none) none))))))))))))))))))) none) none) none)))))))) none):=by kernel_rfl
theorem Io:Told cfg Tryz.prog 60 Tryz.f60:=⟨by kernel_rfl,Tryz.func60,by kernel_rfl⟩
theorem Ip (g0:Bool) (x0:aK) (x1:Int):aO pr cv J 60 Tryz.f60 [(.agg (bX (some g0) x0)),(.int .i64 x1)]=
    let y1:Option (D × List D):=(some ((.int .i64 (-1)),[.undef,.undef]))
    (cv 59 [(sI (some g0) x0.aA),(.int .i64 x1)] (.int (fun dm=>(.done (br (pr.lt dm 0) y1 (cv 63 [(sR (some g0) x0.bits),(.int .i64 dm)] (.int (fun gK=>(.done (br (pr.lt gK 0) y1 (some ((.int .i64 gK),[.undef,.undef])))))))))))):=by kernel_rfl
theorem FF:Told cfg Tryz.prog 61 Tryz.f61:=⟨by kernel_rfl,Tryz.func61,by kernel_rfl⟩
theorem FH (g0:Bool) (x0:aJ) (x1:Int):aO pr cv J 61 Tryz.f61 [(.agg (cT (some g0) x0)),(.int .i64 x1)]=
    let y1:Option (D × List D):=(some ((.int .i64 (-1)),[.undef,.undef]))
    (cv 118 [(s8 (some g0) x0.a),(.int .i64 x1)] (.int (fun dm=>(.done (br (pr.lt dm 0) y1 (cv 118 [(s8 (some g0) x0.b),(.int .i64 dm)] (.int (fun gK=>(.done (br (pr.lt gK 0) y1 (some ((.int .i64 gK),[.undef,.undef])))))))))))):=by kernel_rfl
theorem Iq:Told cfg Tryz.prog 17 Tryz.f17:=⟨by kernel_rfl,Tryz.func17,by kernel_rfl⟩
theorem Ir (g0:Bool) (x0:ae) (x1:Int):aO pr cv J 17 Tryz.f17 [(.agg (U (some g0) x0)),(.int .i64 x1)]=
    let y1:Option (D × List D):=(some ((.int .i64 (-1)),[.undef,.undef]))
    (cv 59 [(sI (some g0) x0.image),(.int .i64 x1)] (.int (fun dm=>(.done (br (pr.lt dm 0) y1 (cv 60 [(.agg (bX (some g0) x0.mt)),(.int .i64 dm)] (.int (fun gK=>(.done (br (pr.lt gK 0) y1 (cv 61 [(.agg (cT (some g0) x0.aN)),(.int .i64 gK)] (.int (fun rm=>(.done (br (pr.lt rm 0) y1 (cv 62 [(sB (some g0) x0.conn),(.int .i64 rm)] (.int (fun rS=>(.done (br (pr.lt rS 0) y1 (cv 63 [(sR (some g0) x0.sync),(.int .i64 rS)] (.int (fun ov=>(.done (br (pr.lt ov 0) y1 (cv 62 [(sB (some g0) x0.aM),(.int .i64 ov)] (.int (fun rT=>(.done (br (pr.lt rT 0) y1 (cv 59 [(sI (some g0) x0.wait),(.int .i64 rT)] (.int (fun We=>(.done (br (pr.lt We 0) y1 (some ((.int .i64 We),[.undef,.undef]))))))))))))))))))))))))))))))))))))):=by kernel_rfl
end
section
variable (t:bE Rz)
@[go_sem] theorem agf (n:Nat) (xs:List Int) (k:Int) (hn:n=xs.length) (h0:0≤k) (h1:k+xs.length < 9223372036854775807):aL 54 [.sl none 1 n (ints xs),.int .i64 k] t=feed t [.int .i64 (k+xs.length),.sl none 1 xs.length (ints (jl k xs.length))]:=HH t n xs k hn h0 h1
@[go_sem] theorem afh (n:Nat) (xs:List UInt8) (k:Int) (hn:n=xs.length) (h0:0≤k) (h1:k+xs.length < 9223372036854775807):aL 117 [.sl none 1 n (bytes xs),.int .i64 k] t=feed t [.int .i64 (k+xs.length),.sl none 1 xs.length (bytes (py k xs.length))]:=Q2 t n xs k hn h0 h1
@[go_sem] theorem afi (n:Nat) (xs:List Bool) (k:Int) (hn:n=xs.length) (h0:0≤k) (h1:k+xs.length < 9223372036854775807):aL 57 [.sl none 1 n (aG xs),.int .i64 k] t=feed t [.int .i64 (k+xs.length),.sl none 1 xs.length (aG (ot k xs.length))]:=Q3 t n xs k hn h0 h1
@[go_sem] theorem afj (n:Nat) (xss:List (List Int)) (k:Int) (hn:n=xss.length) (h0:0≤k) (h1:k+dC xss < 9223372036854775807) (hs:xss.length < 9223372036854775807):aL 58 [.sl none 1 n (rows none xss),.int .i64 k] t=feed t [.int .i64 (k+dC xss),.sl none 1 xss.length (rows none (mq k xss))]:=Q5 t n xss k hn h0 h1 hs
end
theorem va {xss:List (List Int)} (h:rU xss):dC xss≤1048576*xss.length:=by
  have key:∀ l:List (List Int),(∀ x∈l,x.length≤1048576)→dC l≤1048576*l.length:=by
    intro l
    induction l with
    | nil=>intro _; simp [dC]
    | cons x l ih=>
      intro hl
      have h1:=ih fun y hy=>hl y (by simp [hy])
      have h2:=hl x (by simp)
      simp only [dC,List.map_cons,List.sum_cons,List.length_cons] at h1 ⊢
      omega
  exact key xss h.2
theorem kt (k:Int) (n:Nat):(jl k n).length=n:=dG k n
theorem ku (k:Int) (n:Nat):(py k n).length=n:=ec k n
theorem kv (k:Int) (n:Nat):(ot k n).length=n:=ed k n
theorem ky (k:Int) (x:List (List Int)):(mq k x).length=x.length:=eK k x
@[go_sem] theorem anp (k:Int) (n:Nat):decide (n=(jl k n).length)=true:=by simp [dG]
@[go_sem] theorem anq (k:Int) (n:Nat):decide (n=(py k n).length)=true:=by simp [ec]
@[go_sem] theorem anr (k:Int) (n:Nat):decide (n=(ot k n).length)=true:=by simp [ed]
@[go_sem] theorem ans (k:Int) (x:List (List Int)):decide (x.length=(mq k x).length)=true:=by simp [eK]
abbrev Qy (k:Int) (m:aK):aK:=⟨jl k m.aA.length,mq (k+m.aA.length) m.bits,m.cK,m.bO,m.held,m.last⟩
abbrev Qz (k:Int) (s:aJ):aJ:=⟨py k s.a.length,py (k+s.a.length) s.b.length⟩
def lS (m:aK):Nat:=m.aA.length+dC m.bits
def mS (s:aJ):Nat:=s.a.length+s.b.length
theorem Us (m:aK) (k:Int) (h0:0≤k) (h1:k≤2305843009213693952) (ok:cO m):Cm 55 [.agg (bX none m),.int .i64 k] (.int .i64 (k+lS m),[.agg (bX none (Qy k m)),.undef]):=by
  have a1:=ok.aA
  have a2:=ok.bits
  have a3:=a2.1
  have a4:=va a2
  refine Cm.step Ij _ fun J _=>?_
  rw [Ik]
  unfold lS
  rw [show k+((m.aA.length+dC m.bits:Nat):Int)=k+m.aA.length+dC m.bits by omega]
  simp (disch:=first | assumption | omega | (simp only [dG,ec,ed,eK]; done)) only [go_sem,kt,ku,kv,ky]
theorem Rt (m:aJ) (k:Int) (h0:0≤k) (h1:k≤2305843009213693952) (ok:dN m):Cm 56 [.agg (cT none m),.int .i64 k] (.int .i64 (k+mS m),[.agg (cT none (Qz k m)),.undef]):=by
  have a1:=ok.a
  have a2:=ok.b
  refine Cm.step FD _ fun J _=>?_
  rw [FE]
  unfold mS
  rw [show k+((m.a.length+m.b.length:Nat):Int)=k+m.a.length+m.b.length by omega]
  simp (disch:=first | assumption | omega | (simp only [dG,ec,ed,eK]; done)) only [go_sem,kt,ku,kv,ky]
section
variable (t:bE Rz)
@[go_sem] theorem agh (m:aK) (k:Int) (h0:0≤k) (h1:k≤2305843009213693952) (ok:cO m):aL 55 [.agg (tj none m),.int .i64 k] t=feed t (.int .i64 (k+lS m)::bX none (Qy k m)):=aW (Us m k h0 h1 ok) (by kernel_rfl) t
@[go_sem] theorem afk (m:aJ) (k:Int) (h0:0≤k) (h1:k≤2305843009213693952) (ok:dN m):aL 56 [.agg (nn none m),.int .i64 k] t=feed t (.int .i64 (k+mS m)::cT none (Qz k m)):=aW (Rt m k h0 h1 ok) (by kernel_rfl) t
end
theorem FI {m:aK} (ok:cO m):lS m≤1099512676352:=by
  have a1:=ok.aA
  have a2:=va ok.bits
  have a3:=ok.bits.1
  unfold lS
  omega
theorem FJ {m:aJ} (ok:dN m):mS m≤2097152:=by
  have a1:=ok.a
  have a2:=ok.b
  unfold mS
  omega
abbrev Ut (k:Int) (n:ae):ae:=⟨n.id,n.up,n.cn,jl k n.image.length,Qy (k+n.image.length) n.mt,Qz (k+n.image.length+lS n.mt) n.aN,ot (k+n.image.length+lS n.mt+mS n.aN) n.conn.length,mq (k+n.image.length+lS n.mt+mS n.aN+n.conn.length) n.sync,ot (k+n.image.length+lS n.mt+mS n.aN+n.conn.length+dC n.sync) n.aM.length,jl (k+n.image.length+lS n.mt+mS n.aN+n.conn.length+dC n.sync+n.aM.length) n.wait.length⟩
def tk (n:ae):Nat:=n.image.length+lS n.mt+mS n.aN+n.conn.length+dC n.sync+n.aM.length+n.wait.length
theorem FK {n:ae} (ok:bU n):tk n≤4398046511104:=by
  have a1:=ok.image
  have a2:=FI ok.mt
  have a3:=FJ ok.aN
  have a4:=ok.conn
  have a5:=va ok.sync
  have a6:=ok.sync.1
  have a7:=ok.aM
  have a8:=ok.wait
  unfold tk
  omega
theorem Uu (n:ae) (k:Int) (h0:0≤k) (h1:k≤1152921504606846976) (ok:bU n):Cm 16 [.agg (U none n),.int .i64 k] (.int .i64 (k+tk n),[.agg (U none (Ut k n)),.undef]):=by
  have a1:=ok.image
  have a2:=FI ok.mt
  have b2:=ok.mt
  have a3:=FJ ok.aN
  have b3:=ok.aN
  have a4:=ok.conn
  have a5:=va ok.sync
  have a6:=ok.sync.1
  have a7:=ok.aM
  have a8:=ok.wait
  refine Cm.step Il _ fun J _=>?_
  rw [Im]
  rw [show k+((tk n:Nat):Int)=k+n.image.length+lS n.mt+mS n.aN+n.conn.length+dC n.sync+n.aM.length+n.wait.length by unfold tk; omega]
  simp (disch:=first | assumption | omega | (simp only [dG,ec,ed,eK]; done)) only [go_sem,kt,ku,kv,ky]
  first | done | rfl
@[go_sem] theorem agi (n:ae) (k:Int) (h0:0≤k) (h1:k≤1152921504606846976) (ok:bU n) (t:bE Rz):aL 16 [.agg (fx none n),.int .i64 k] t=feed t (.int .i64 (k+tk n)::U none (Ut k n)):=aW (Uu n k h0 h1 ok) (by kernel_rfl) t
@[go_sem] theorem agj (g:Bool) (n0:Nat) (k:Int) (n:Nat) (e:n0=n) (h0:0≤k) (h1:k+n < 9223372036854775807) (t:bE Rz):aL 59 [.sl (some g) 1 n0 (ints (jl k n)),.int .i64 k] t=feed t [.int .i64 (k+n)]:=by
  subst e
  exact aW (T8 g k n0 h0 h1) (by kernel_rfl) t
theorem Ru (g:Bool) (k:Int) (n:Nat) (h0:0≤k) (h1:k+n < 4611686018427387904):Cm 118 [.sl (some g) 1 n (bytes (py k n)),.int .i64 k] (.int .i64 (k+n),[.undef,.undef]):=by
  have hl:=ec k n
  have hg:∀ i,i < n→(py k n).getD i 0=UInt8.ofNat ((k+(i:Int)) % 256).toNat:=fun i hi=>by
    rw [List.getD_eq_getElem?_getD]
    simp [py,hi]
  have key:∀ i,i≤n→True→WP 118 Tryz.f118 [.undef,.undef] 0 (jz g (py k n) (k+(i:Nat)) (i:Nat)) (.int .i64 (k+n),[.undef,.undef]):=by
    refine WP.up (H:=fun i=>jz g (py k n) (k+(i:Nat)) (i:Nat)) n (fun _=>True) (fun i hi _ J hJ next=>?_)
    rw [yI]
    simp (disch:=first | assumption | omega | (simp only [dG,ec,ed,eK]; done)) only [go_sem,kt,ku,kv,ky]
    refine bK (fun cX=>?_) (fun qP=>?_)
    · rw [show ad.wrap .u8 (k+(i:Int))=_ from aag (k+(i:Int))]
      simp (disch:=first | assumption | omega | (simp only [dG,ec,ed,eK]; done)) only [go_sem,kt,ku,kv,ky,hg i (by omega)]
      have:=next (by omega) trivial
      rw [show k+((i+1:Nat):Int)=k+i+1 by omega] at this
      exact this
    · rw [show (i:Int)=n by omega]
  refine Cm.step Fw [.undef,.undef] fun J hJ=>?_
  have:=Fx ad aL J g (py k n) k
  rw [s8,hl] at this
  rw [this]
  refine hJ _ _ ?_
  have h9:=key 0 (by omega) trivial
  rw [show k+((0:Nat):Int)=k by omega] at h9
  exact h9
@[go_sem] theorem afl (g:Bool) (n0:Nat) (k:Int) (n:Nat) (e:n0=n) (h0:0≤k) (h1:k+n < 4611686018427387904) (t:bE Rz):aL 118 [.sl (some g) 1 n0 (bytes (py k n)),.int .i64 k] t=feed t [.int .i64 (k+n)]:=by
  subst e
  exact aW (Ru g k n0 h0 h1) (by kernel_rfl) t
theorem abV (k:Int) (n i:Nat) (h:i < (ot k n).length):(ot k n)[i]=Uc (k+(i:Int)):=by simp [ot,Uc]
theorem Rv (g:Bool) (k:Int) (n:Nat) (h0:0≤k) (h1:k+n < 4611686018427387904):Cm 62 [.sl (some g) 1 n (aG (ot k n)),.int .i64 k] (.int .i64 (k+n),[.undef,.undef]):=by
  have hl:=ed k n
  have hg:∀ i,i < n→(ot k n).getD i false=Uc (k+(i:Int)):=fun i hi=>by
    rw [List.getD_eq_getElem?_getD,List.getElem?_eq_getElem (by omega)]
    exact abV k n i (by omega)
  have key:∀ i,i≤n→True→WP 62 Tryz.f62 [.undef,.undef] 0 (jA g (ot k n) (k+(i:Nat)) (i:Nat)) (.int .i64 (k+n),[.undef,.undef]):=by
    refine WP.up (H:=fun i=>jA g (ot k n) (k+(i:Nat)) (i:Nat)) n (fun _=>True) (fun i hi _ J hJ next=>?_)
    rw [yJ]
    simp (disch:=first | assumption | omega | (simp only [dG,ec,ed,eK]; done)) only [go_sem,kt,ku,kv,ky]
    refine bK (fun cX=>?_) (fun qP=>?_)
    · simp (disch:=first | assumption | omega | (simp only [dG,ec,ed,eK]; done)) only [go_sem,kt,ku,kv,ky,ait,hg i (by omega)]
      have:=next (by omega) trivial
      rw [show k+((i+1:Nat):Int)=k+i+1 by omega] at this
      exact this
    · rw [show (i:Int)=n by omega]
  refine Cm.step Fy [.undef,.undef] fun J hJ=>?_
  have:=Fz ad aL J g (ot k n) k
  rw [sB,hl] at this
  rw [this]
  refine hJ _ _ ?_
  have h9:=key 0 (by omega) trivial
  rw [show k+((0:Nat):Int)=k by omega] at h9
  exact h9
@[go_sem] theorem afm (g:Bool) (n0:Nat) (k:Int) (n:Nat) (e:n0=n) (h0:0≤k) (h1:k+n < 4611686018427387904) (t:bE Rz):aL 62 [.sl (some g) 1 n0 (aG (ot k n)),.int .i64 k] t=feed t [.int .i64 (k+n)]:=by
  subst e
  exact aW (Rv g k n0 h0 h1) (by kernel_rfl) t
theorem SS:∀ (xss:List (List Int)) (k:Int) (i:Nat) (h:i < (mq k xss).length) (h2:i < xss.length),(mq k xss)[i]=jl (k+dC (xss.take i)) (xss[i]).length
  | [],_,_,h,_=>by simp [mq] at h
  | xs::r,k,0,_,_=>by simp [mq,dC]
  | xs::r,k,i+1,h,h2=>by
    simp only [mq,List.length_cons,Nat.add_lt_add_iff_right] at h h2
    have:=SS r (k+xs.length) i h h2
    simp only [mq,List.getElem_cons_succ,List.take_succ_cons]
    rw [this]
    congr 1
    simp only [dC,List.map_cons,List.sum_cons]
    omega
theorem W7 {xss:List (List Int)} {i:Nat} (h:i < xss.length):dC (xss.take (i+1))=dC (xss.take i)+(xss[i]).length:=by
  rw [List.take_succ_eq_append_getElem h]
  unfold dC
  rw [List.map_append,List.sum_append]
  simp only [List.map_cons,List.map_nil,List.sum_cons,List.sum_nil,Nat.add_zero]
theorem CD (xss:List (List Int)) (i:Nat):dC (xss.take i)≤dC xss:=by
  have:dC xss=dC (xss.take i)+dC (xss.drop i):=by
    conv=>lhs; rw [← List.take_append_drop i xss]
    unfold dC
    rw [List.map_append,List.sum_append]
  omega
theorem Rw (g:Bool) (k:Int) (xss:List (List Int)) (h0:0≤k) (h1:k+dC xss < 4611686018427387904) (hs:xss.length < 4611686018427387904):Cm 63 [.sl (some g) 1 xss.length (rows (some g) (mq k xss)),.int .i64 k] (.int .i64 (k+dC xss),[.undef,.undef]):=by
  have hl:=eK k xss
  have key:∀ i,i≤xss.length→True→WP 63 Tryz.f63 [.undef,.undef] 0 (jB g (mq k xss) (k+dC (xss.take i)) (i:Nat)) (.int .i64 (k+dC xss),[.undef,.undef]):=by
    refine WP.up (H:=fun i=>jB g (mq k xss) (k+dC (xss.take i)) (i:Nat)) xss.length (fun _=>True) (fun i hi _ J hJ next=>?_)
    rw [yK]
    have a1:=CD xss i
    have a2:=CD xss (i+1)
    simp (disch:=first | assumption | omega | (simp only [dG,ec,ed,eK]; done)) only [go_sem,kt,ku,kv,ky]
    refine bK (fun cX=>?_) (fun qP=>?_)
    · have VB:i < xss.length:=by omega
      have a3:=W7 VB
      have e1:(mq k xss).getD i []=jl (k+dC (xss.take i)) (xss[i]).length:=by
        rw [List.getD_eq_getElem?_getD,List.getElem?_eq_getElem (by omega)]
        exact SS xss k i (by omega) VB
      simp (disch:=first | assumption | omega | (simp only [dG,ec,ed,eK]; done)) only [go_sem,kt,ku,kv,ky,e1]
      have:=next (by omega) trivial
      rw [a3,show k+((dC (xss.take i)+(xss[i]).length:Nat):Int)=k+dC (xss.take i)+(xss[i]).length by omega] at this
      exact this
    · rw [show i=xss.length by omega,List.take_length]
  refine Cm.step FB [.undef,.undef] fun J hJ=>?_
  have:=FC ad aL J g (mq k xss) k
  rw [sR,hl] at this
  rw [this]
  refine hJ _ _ ?_
  have h9:=key 0 (by omega) trivial
  rw [List.take_zero,show k+((dC []:Nat):Int)=k by simp [dC]] at h9
  exact h9
@[go_sem] theorem afn (g:Bool) (n0:Nat) (k:Int) (xss:List (List Int)) (e:n0=xss.length) (h0:0≤k) (h1:k+dC xss < 4611686018427387904) (hs:xss.length < 4611686018427387904) (t:bE Rz):aL 63 [.sl (some g) 1 n0 (rows (some g) (mq k xss)),.int .i64 k] t=feed t [.int .i64 (k+dC xss)]:=by
  subst e
  exact aW (Rw g k xss h0 h1 hs) (by kernel_rfl) t
theorem Uv (g:Bool) (m:aK) (k:Int) (h0:0≤k) (h1:k≤2305843009213693952) (ok:cO m):Cm 60 [.agg (bX (some g) (Qy k m)),.int .i64 k] (.int .i64 (k+lS m),[.undef,.undef]):=by
  have a1:=ok.aA
  have a2:=ok.bits
  have a3:=a2.1
  have a4:=va a2
  refine Cm.step Io _ fun J _=>?_
  rw [Ip]
  unfold lS
  rw [show k+((m.aA.length+dC m.bits:Nat):Int)=k+m.aA.length+dC m.bits by omega]
  simp (disch:=first | assumption | omega | (simp only [dG,ec,ed,eK]; done)) only [go_sem,kt,ku,kv,ky]
theorem Rx (g:Bool) (m:aJ) (k:Int) (h0:0≤k) (h1:k≤2305843009213693952) (ok:dN m):Cm 61 [.agg (cT (some g) (Qz k m)),.int .i64 k] (.int .i64 (k+mS m),[.undef,.undef]):=by
  have a1:=ok.a
  have a2:=ok.b
  refine Cm.step FF _ fun J _=>?_
  rw [FH]
  unfold mS
  rw [show k+((m.a.length+m.b.length:Nat):Int)=k+m.a.length+m.b.length by omega]
  simp (disch:=first | assumption | omega | (simp only [dG,ec,ed,eK]; done)) only [go_sem,kt,ku,kv,ky]
@[go_sem] theorem agk (g:Bool) (m:aK) (k:Int) (h0:0≤k) (h1:k≤2305843009213693952) (ok:cO m) (t:bE Rz):aL 60 [.agg (tj (some g) (Qy k m)),.int .i64 k] t=feed t [.int .i64 (k+lS m)]:=aW (Uv g m k h0 h1 ok) (by kernel_rfl) t
@[go_sem] theorem afo (g:Bool) (m:aJ) (k:Int) (h0:0≤k) (h1:k≤2305843009213693952) (ok:dN m) (t:bE Rz):aL 61 [.agg (nn (some g) (Qz k m)),.int .i64 k] t=feed t [.int .i64 (k+mS m)]:=aW (Rx g m k h0 h1 ok) (by kernel_rfl) t
theorem Uw (g:Bool) (n:ae) (k:Int) (h0:0≤k) (h1:k≤1152921504606846976) (ok:bU n):Cm 17 [.agg (U (some g) (Ut k n)),.int .i64 k] (.int .i64 (k+tk n),[.undef,.undef]):=by
  have a1:=ok.image
  have a2:=FI ok.mt
  have b2:=ok.mt
  have a3:=FJ ok.aN
  have b3:=ok.aN
  have a4:=ok.conn
  have a5:=va ok.sync
  have a6:=ok.sync.1
  have a7:=ok.aM
  have a8:=ok.wait
  refine Cm.step Iq _ fun J _=>?_
  rw [Ir]
  rw [show k+((tk n:Nat):Int)=k+n.image.length+lS n.mt+mS n.aN+n.conn.length+dC n.sync+n.aM.length+n.wait.length by unfold tk; omega]
  simp (disch:=first | assumption | omega | (simp only [dG,ec,ed,eK]; done)) only [go_sem,kt,ku,kv,ky]
@[go_sem] theorem agl (g:Bool) (n:ae) (k:Int) (h0:0≤k) (h1:k≤1152921504606846976) (ok:bU n) (t:bE Rz):aL 17 [.agg (fx (some g) (Ut k n)),.int .i64 k] t=feed t [.int .i64 (k+tk n)]:=aW (Uw g n k h0 h1 ok) (by kernel_rfl) t
end Go.Proofs.YtockoilcnmljiaaGreat
namespace Go.Proofs.YtockoilcnmljiaaGreat
set_option maxRecDepth 100000
def n0:ae:=⟨0,false,false,[],⟨[],[],false,false,false,0⟩,⟨[],[]⟩,[],[],[],[]⟩
def w0:dr:=⟨0,0,[]⟩
def r0:gx:=⟨0,0⟩
@[go_sem] theorem akb (i:Int):ad.idx 0 i 16=i.toNat*16:=by show (0+i.toNat)*16=_; omega
@[go_sem] theorem al2 (i:Int):ad.idx 0 i 3=i.toNat*3:=by show (0+i.toNat)*3=_; omega
@[go_sem] theorem al3 (i:Int):ad.idx 0 i 2=i.toNat*2:=by show (0+i.toNat)*2=_; omega
theorem ef {α:Type} {xs:List α} {i:Nat} {d:α} (h:i < xs.length):xs.getD i d=xs[i]:=by rw [List.getD_eq_getElem?_getD,List.getElem?_eq_getElem h]; rfl
section
variable {g:Bool} {xs:List ae} {i:Nat} (h:i < xs.length)
include h
@[go_sem] theorem ant:ad.cg .i64 (ab (U (some g)) xs) (i*16)=true:=G3 h
@[go_sem] theorem anu:ad.bm (ab (U (some g)) xs) (i*16)=(xs.getD i n0).id:=(G4 (g:=g) h).trans (by rw [ef h])
@[go_sem] theorem anv:ad.cI (ab (U (some g)) xs) (i*16+1)=true:=G5 h
@[go_sem] theorem anw:ad.bT (ab (U (some g)) xs) (i*16+1)=(xs.getD i n0).up:=(G6 (g:=g) h).trans (by rw [ef h])
@[go_sem] theorem anx:ad.cI (ab (U (some g)) xs) (i*16+2)=true:=G7 h
@[go_sem] theorem anz:ad.bT (ab (U (some g)) xs) (i*16+2)=(xs.getD i n0).cn:=(G8 (g:=g) h).trans (by rw [ef h])
@[go_sem] theorem anA:ad.bG 1 (ab (U (some g)) xs) (i*16+3)=true:=G9 h
@[go_sem] theorem anB:ad.bD (ab (U (some g)) xs) (i*16+3)=g:=Ha h
@[go_sem] theorem anC:ad.aZ (ab (U (some g)) xs) (i*16+3)=(xs.getD i n0).image.length:=(Hb (g:=g) h).trans (by rw [ef h])
@[go_sem] theorem anD:ad.ba (ab (U (some g)) xs) (i*16+3)=ints (xs.getD i n0).image:=(Hc (g:=g) h).trans (by rw [ef h])
@[go_sem] theorem anE:ad.bG 1 (ab (U (some g)) xs) (i*16+4)=true:=Hd h
@[go_sem] theorem anF:ad.bD (ab (U (some g)) xs) (i*16+4)=g:=He h
@[go_sem] theorem anG:ad.aZ (ab (U (some g)) xs) (i*16+4)=(xs.getD i n0).mt.aA.length:=(Hf (g:=g) h).trans (by rw [ef h])
@[go_sem] theorem anH:ad.ba (ab (U (some g)) xs) (i*16+4)=ints (xs.getD i n0).mt.aA:=(Hg (g:=g) h).trans (by rw [ef h])
@[go_sem] theorem anI:ad.bG 1 (ab (U (some g)) xs) (i*16+5)=true:=Hh h
@[go_sem] theorem anJ:ad.bD (ab (U (some g)) xs) (i*16+5)=g:=Hi h
@[go_sem] theorem anK:ad.aZ (ab (U (some g)) xs) (i*16+5)=(xs.getD i n0).mt.bits.length:=(Hj (g:=g) h).trans (by rw [ef h])
@[go_sem] theorem anL:ad.ba (ab (U (some g)) xs) (i*16+5)=rows (some g) (xs.getD i n0).mt.bits:=(Hk (g:=g) h).trans (by rw [ef h])
@[go_sem] theorem anM:ad.cI (ab (U (some g)) xs) (i*16+6)=true:=Hl h
@[go_sem] theorem anN:ad.bT (ab (U (some g)) xs) (i*16+6)=(xs.getD i n0).mt.cK:=(Hm (g:=g) h).trans (by rw [ef h])
@[go_sem] theorem anO:ad.cI (ab (U (some g)) xs) (i*16+7)=true:=Hn h
@[go_sem] theorem anP:ad.bT (ab (U (some g)) xs) (i*16+7)=(xs.getD i n0).mt.bO:=(Ho (g:=g) h).trans (by rw [ef h])
@[go_sem] theorem anQ:ad.cI (ab (U (some g)) xs) (i*16+8)=true:=Hp h
@[go_sem] theorem anR:ad.bT (ab (U (some g)) xs) (i*16+8)=(xs.getD i n0).mt.held:=(Hq (g:=g) h).trans (by rw [ef h])
@[go_sem] theorem anS:ad.cg .i64 (ab (U (some g)) xs) (i*16+9)=true:=Hr h
@[go_sem] theorem anT:ad.bm (ab (U (some g)) xs) (i*16+9)=(xs.getD i n0).mt.last:=(Ht (g:=g) h).trans (by rw [ef h])
@[go_sem] theorem al4:ad.bG 1 (ab (U (some g)) xs) (i*16+10)=true:=BG h
@[go_sem] theorem al5:ad.bD (ab (U (some g)) xs) (i*16+10)=g:=BH h
@[go_sem] theorem al6:ad.aZ (ab (U (some g)) xs) (i*16+10)=(xs.getD i n0).aN.a.length:=(BI (g:=g) h).trans (by rw [ef h])
@[go_sem] theorem al7:ad.ba (ab (U (some g)) xs) (i*16+10)=bytes (xs.getD i n0).aN.a:=(BJ (g:=g) h).trans (by rw [ef h])
@[go_sem] theorem al8:ad.bG 1 (ab (U (some g)) xs) (i*16+11)=true:=BK h
@[go_sem] theorem al9:ad.bD (ab (U (some g)) xs) (i*16+11)=g:=BL h
@[go_sem] theorem ama:ad.aZ (ab (U (some g)) xs) (i*16+11)=(xs.getD i n0).aN.b.length:=(BM (g:=g) h).trans (by rw [ef h])
@[go_sem] theorem amb:ad.ba (ab (U (some g)) xs) (i*16+11)=bytes (xs.getD i n0).aN.b:=(BN (g:=g) h).trans (by rw [ef h])
@[go_sem] theorem amc:ad.bG 1 (ab (U (some g)) xs) (i*16+12)=true:=BO h
@[go_sem] theorem amd:ad.bD (ab (U (some g)) xs) (i*16+12)=g:=BP h
@[go_sem] theorem ame:ad.aZ (ab (U (some g)) xs) (i*16+12)=(xs.getD i n0).conn.length:=(BQ (g:=g) h).trans (by rw [ef h])
@[go_sem] theorem amf:ad.ba (ab (U (some g)) xs) (i*16+12)=aG (xs.getD i n0).conn:=(BR (g:=g) h).trans (by rw [ef h])
@[go_sem] theorem amg:ad.bG 1 (ab (U (some g)) xs) (i*16+13)=true:=BS h
@[go_sem] theorem amh:ad.bD (ab (U (some g)) xs) (i*16+13)=g:=BT h
@[go_sem] theorem ami:ad.aZ (ab (U (some g)) xs) (i*16+13)=(xs.getD i n0).sync.length:=(BU (g:=g) h).trans (by rw [ef h])
@[go_sem] theorem amj:ad.ba (ab (U (some g)) xs) (i*16+13)=rows (some g) (xs.getD i n0).sync:=(BV (g:=g) h).trans (by rw [ef h])
@[go_sem] theorem amk:ad.bG 1 (ab (U (some g)) xs) (i*16+14)=true:=BW h
@[go_sem] theorem aml:ad.bD (ab (U (some g)) xs) (i*16+14)=g:=BX h
@[go_sem] theorem amm:ad.aZ (ab (U (some g)) xs) (i*16+14)=(xs.getD i n0).aM.length:=(BY (g:=g) h).trans (by rw [ef h])
@[go_sem] theorem amn:ad.ba (ab (U (some g)) xs) (i*16+14)=aG (xs.getD i n0).aM:=(BZ (g:=g) h).trans (by rw [ef h])
@[go_sem] theorem amo:ad.bG 1 (ab (U (some g)) xs) (i*16+15)=true:=B3 h
@[go_sem] theorem amp:ad.bD (ab (U (some g)) xs) (i*16+15)=g:=B4 h
@[go_sem] theorem amq:ad.aZ (ab (U (some g)) xs) (i*16+15)=(xs.getD i n0).wait.length:=(B5 (g:=g) h).trans (by rw [ef h])
@[go_sem] theorem amr:ad.ba (ab (U (some g)) xs) (i*16+15)=ints (xs.getD i n0).wait:=(B6 (g:=g) h).trans (by rw [ef h])
end
section
variable {g:Bool} {xs:List dr} {i:Nat} (h:i < xs.length)
include h
@[go_sem] theorem anU:ad.cg .i64 (ab (bd (some g)) xs) (i*3)=true:=Hu h
@[go_sem] theorem anV:ad.bm (ab (bd (some g)) xs) (i*3)=(xs.getD i w0).src:=(Hv (g:=g) h).trans (by rw [ef h])
@[go_sem] theorem anW:ad.cg .i64 (ab (bd (some g)) xs) (i*3+1)=true:=Hw h
@[go_sem] theorem anX:ad.bm (ab (bd (some g)) xs) (i*3+1)=(xs.getD i w0).dst:=(Hy (g:=g) h).trans (by rw [ef h])
@[go_sem] theorem anY:ad.bG 1 (ab (bd (some g)) xs) (i*3+2)=true:=Hz h
@[go_sem] theorem anZ:ad.bD (ab (bd (some g)) xs) (i*3+2)=g:=HA h
@[go_sem] theorem an0:ad.aZ (ab (bd (some g)) xs) (i*3+2)=(xs.getD i w0).bytes.length:=(HB (g:=g) h).trans (by rw [ef h])
@[go_sem] theorem an1:ad.ba (ab (bd (some g)) xs) (i*3+2)=bytes (xs.getD i w0).bytes:=(HC (g:=g) h).trans (by rw [ef h])
end
section
variable {g:Bool} {xs:List gx} {i:Nat} (h:i < xs.length)
include h
@[go_sem] theorem an2:ad.cg .i64 (ab (cD (some g)) xs) (i*2)=true:=zE h
@[go_sem] theorem an3:ad.bm (ab (cD (some g)) xs) (i*2)=(xs.getD i r0).cell:=(zF (g:=g) h).trans (by rw [ef h])
@[go_sem] theorem an4:ad.cg .i64 (ab (cD (some g)) xs) (i*2+1)=true:=zG h
@[go_sem] theorem an5:ad.bm (ab (cD (some g)) xs) (i*2+1)=(xs.getD i r0).up:=(zH (g:=g) h).trans (by rw [ef h])
end
end Go.Proofs.YtockoilcnmljiaaGreat
namespace Go.Proofs.YtockoilcnmljiaaGreat
set_option maxRecDepth 100000
section
variable {α:Type} {p:α→Bool} {xs:List α} {d:α}
def wA (p:α→Bool) (xs:List α):Int:=match xs.findIdx? p with | some i=>(i:Int) | none=>-1
theorem SU:decide (0≤wA p xs)=xs.any p:=by
  unfold wA
  cases h:xs.findIdx? p with
  | none=>
    have:=List.findIdx?_eq_none_iff.1 h
    symm
    simpa using this
  | some i=>
    obtain ⟨hi,h2,_⟩:=List.findIdx?_eq_some_iff_getElem.1 h
    have h3:xs.any p=true:=List.any_eq_true.2 ⟨xs[i],List.getElem_mem hi,h2⟩
    rw [h3]
    simp
theorem Y4 {i:Nat} (hi:i < xs.length) (inv:∀ j,j < i→p (xs.getD j d)=false) (h:p (xs.getD i d)=true):wA p xs=i:=by
  unfold wA
  have:xs.findIdx? p=some i:=List.findIdx?_eq_some_iff_getElem.2 ⟨hi,by rw [← ef (d:=d) hi]; exact h,fun j hj=>by
    have:=inv j hj
    rw [ef (d:=d) (by omega)] at this
    simp [this]⟩
  rw [this]
theorem W8 (inv:∀ j,j < xs.length→p (xs.getD j d)=false):wA p xs=-1:=by
  unfold wA
  have:xs.findIdx? p=none:=List.findIdx?_eq_none_iff.2 fun x hx=>by
    obtain ⟨i,hi,rfl⟩:=List.getElem_of_mem hx
    have:=inv i hi
    rwa [ef (d:=d) hi] at this
  rw [this]
end
theorem QA {α:Type} {p:α→Bool} {xs:List α} {d:α} {f:FuncId} {fn:Func} {sk:List D} {j:Nat} {H:Nat→St}
    (h1:∀ i,i < xs.length→∀ J:Nat→St→Option Rz,bF ad aL J f fn sk j (H i)=br (p (xs.getD i d)) (some (.int .i64 (i:Int),sk)) (J j (H (i+1))))
    (h2:∀ J:Nat→St→Option Rz,bF ad aL J f fn sk j (H xs.length)=some (.int .i64 (-1),sk)):WP f fn sk j (H 0) (.int .i64 (wA p xs),sk):=by
  refine WP.up (H:=H) xs.length (fun i=>∀ j,j < i→p (xs.getD j d)=false) (fun i hi inv J _ next=>?_) 0 (Nat.zero_le _) (fun j hj=>absurd hj (by omega))
  by_cases hl:i < xs.length
  · rw [h1 i hl J]
    cases hp:p (xs.getD i d) with
    | true=>rw [Y4 hl inv hp]; rfl
    | false=>
      refine next hl fun k hk=>?_
      by_cases e:k=i
      · rw [e]; exact hp
      · exact inv k (by omega)
  · rw [show i=xs.length by omega,h2 J,W8 fun j hj=>inv j (by omega)]
theorem WP.upw {f:FuncId} {fn:Func} {sk:List D} {j:Nat} {r:Rz} {H:Nat→St} (n:Nat) (inv:Nat→Prop) (hs:∀ i,i≤n→inv i→(i < n→inv (i+1)→WP f fn sk j (H (i+1)) r)→WP f fn sk j (H i) r):∀ i,i≤n→inv i→WP f fn sk j (H i) r:=by
  have key:∀ k i,i+k=n→inv i→WP f fn sk j (H i) r:=by
    intro k
    induction k with
    | zero=>intro i hi hv; exact hs i (by omega) hv (fun h=>absurd h (by omega))
    | succ k ih=>intro i hi hv; exact hs i (by omega) hv (fun _ h=>ih (i+1) (by omega) h)
  exact fun i hi hv=>key (n - i) i (by omega) hv
theorem Dm {α:Type} {xs:List α} {i:Nat} {d:α} (h:i < xs.length):xs.getD i d∈xs:=by rw [ef h]; exact List.getElem_mem h
theorem okN {w:aB} (ok:dg w) {i:Nat} (h:i < w.nodes.length):bU (w.nodes.getD i n0):=ok.node _ (Dm h)
section
variable (pr:dA) (cv:Cv Rz) (J:Nat→St→Option Rz)
def fg (g:Bool) (xs:List Int) (c0:List D) (n1:Nat) (i2:Int) (i3:Int):St:=(St.mk [(0,(sI (some g) xs)),(1,(.fn 125 [(.cJ c0 n1)])),(7,(.int .i64 i2)),(8,(.int .i64 i3))] [] [] 0)
theorem rK:Told cfg Tryz.prog 150 Tryz.f150:=⟨by kernel_rfl,Tryz.func150,by kernel_rfl⟩
theorem rL (u0:List D) (v0:Nat) (g:Bool) (xs:List Int):aO pr cv J 150 Tryz.f150 [(sI (some g) xs),(.fn 125 [(.cJ u0 v0)])]=
    (J 0 (fg g xs u0 v0 (pr.aX xs.length) 0)):=by kernel_rfl
theorem ka (g:Bool) (xs:List Int) (c0:List D) (n1:Nat) (i2:Int) (i3:Int):bF pr cv J 150 Tryz.f150 [.undef,.undef] 0 (fg g xs c0 n1 i2 i3)=
    (br (pr.lt i3 i2) (br (pr.bz i3 xs.length) (br (br (pr.cg .i64 (ints xs) (pr.idx 0 i3 1)) true false) (cv 125 [(.int .i64 (pr.bm (ints xs) (pr.idx 0 i3 1))),(.cJ c0 n1)] (.bool (fun bR=>(.done (br bR (some ((.int .i64 i3),[.undef,.undef])) (J 0 (fg g xs c0 n1 i2 (pr.ar .add .i64 i3 1)))))))) none) none) (some ((.int .i64 (-1)),[.undef,.undef]))):=by kernel_rfl
theorem qe:Told cfg Tryz.prog 124 Tryz.f124:=⟨by kernel_rfl,Tryz.func124,by kernel_rfl⟩
theorem qf (u0:List D) (v0:Nat) (g:Bool) (xs:List Int):aO pr cv J 124 Tryz.f124 [(sI (some g) xs),(.fn 125 [(.cJ u0 v0)])]=
    (cv 150 [(sI (some g) xs),(.fn 125 [(.cJ u0 v0)])] (.int (fun dm=>(.done (some ((.bool (pr.le 0 dm)),[.undef,.undef])))))):=by kernel_rfl
end
theorem Ry (u0:List D) (v0:Nat) (g:Bool) (xs:List Int) (p:Int→Bool) (hb:xs.length < 4611686018427387904) (hc:∀ i,i < xs.length→∀ t:bE Rz,aL 125 [.int .i64 (xs.getD i 0),.cJ u0 v0] t=feed t [.bool (p (xs.getD i 0))]):Cm 150 [.sl (some g) 1 xs.length (ints xs),.fn 125 [.cJ u0 v0]] (.int .i64 (wA p xs),[.undef,.undef]):=by
  refine Cm.step rK [.undef,.undef] fun J hJ=>?_
  rw [rL]
  refine hJ _ _ ?_
  refine QA (d:=0) (H:=fun i=>fg g xs u0 v0 xs.length (i:Nat)) (fun i hi J=>?_) (fun J=>?_)
  · rw [ka]
    simp (disch:=first | assumption | omega) only [go_sem,hc i hi]
    cases p (xs.getD i 0) with
    | true=>rfl
    | false=>
      simp (disch:=first | assumption | omega) only [go_sem]
      rfl
  · rw [ka]
    simp (disch:=first | assumption | omega) only [go_sem]
theorem Kk (u0:List D) (v0:Nat) (g:Bool) (xs:List Int) (p:Int→Bool) (hb:xs.length < 4611686018427387904) (hc:∀ i,i < xs.length→∀ t:bE Rz,aL 125 [.int .i64 (xs.getD i 0),.cJ u0 v0] t=feed t [.bool (p (xs.getD i 0))]):Cm 124 [.sl (some g) 1 xs.length (ints xs),.fn 125 [.cJ u0 v0]] (.bool (xs.any p),[.undef,.undef]):=by
  refine Cm.step qe [.undef,.undef] fun J hJ=>?_
  rw [qf]
  have:=aW (Ry u0 v0 g xs p hb hc) (by kernel_rfl)
  rw [this]
  show some ((.bool (decide (0≤wA p xs)),[.undef,.undef]):Rz)=_
  rw [SU]
section
variable (pr:dA) (cv:Cv Rz) (J:Nat→St→Option Rz)
theorem FL:Told cfg Tryz.prog 125 Tryz.f125:=⟨by kernel_rfl,Tryz.func125,by kernel_rfl⟩
theorem FM (w:aB) (a:Int):aO pr cv J 125 Tryz.f125 [(.int .i64 a),(.cJ (dk (some true) w) 0)]=
    (br (br (pr.bG 2 [(.sl (some true) 16 w.nodes.length (ab (U (some true)) w.nodes)),(.sl (some true) 3 w.bV.length (ab (bd (some true)) w.bV)),(.sl (some true) 2 w.log.length (ab (cD (some true)) w.log)),(sI (some true) w.safe),(.int .i64 w.gen)] 2) true false) (some ((.bool (pr.lt (pr.aX (pr.aZ [(.sl (some true) 16 w.nodes.length (ab (U (some true)) w.nodes)),(.sl (some true) 3 w.bV.length (ab (bd (some true)) w.bV)),(.sl (some true) 2 w.log.length (ab (cD (some true)) w.log)),(sI (some true) w.safe),(.int .i64 w.gen)] 2)) a)),[.undef,.undef])) none):=by kernel_rfl
def mT (x0:aB) (i0:Int) (i1:Int):St:=(St.mk [(1,(.ptr 1 [] 0)),(13,(.sl (some true) 16 x0.nodes.length (ab (U (some true)) x0.nodes))),(14,(.int .i64 i0)),(15,(.int .i64 i1))] [(1,[(.sl (some true) 16 x0.nodes.length (ab (U (some true)) x0.nodes)),(.sl (some true) 3 x0.bV.length (ab (bd (some true)) x0.bV)),(.sl (some true) 2 x0.log.length (ab (cD (some true)) x0.log)),(sI (some true) x0.safe),(.int .i64 x0.gen)])] [] 0)
def kd (x0:aB) (i0:Int) (i1:Int):St:=(St.mk [(1,(.ptr 1 [] 0)),(46,(.sl (some true) 16 x0.nodes.length (ab (U (some true)) x0.nodes))),(47,(.int .i64 i0)),(48,(.int .i64 i1))] [(1,[(.sl (some true) 16 x0.nodes.length (ab (U (some true)) x0.nodes)),(.sl (some true) 3 x0.bV.length (ab (bd (some true)) x0.bV)),(.sl (some true) 2 x0.log.length (ab (cD (some true)) x0.log)),(sI (some true) x0.safe),(.int .i64 x0.gen)])] [] 0)
def mU (x0:aB) (i0:Int) (i1:Int) (i2:Int) (i3:Int) (b4:Bool) (b5:Bool) (g6:Bool) (n7:Nat) (c8:List D) (g9:Bool) (nf:Nat) (ng:List D) (g12:Bool) (kO:Nat) (mo:List D) (gC:Bool) (j9:Bool) (rD:Bool) (i18:Int) (g19:Bool) (rj:Nat) (rk:List D) (g22:Bool) (n23:Nat) (c24:List D) (g25:Bool) (qw:Nat) (pA:List D) (Pz:Bool) (n29:Nat) (PB:List D) (PC:Bool) (n32:Nat) (c33:List D) (g34:Bool) (n35:Nat) (c36:List D):St:=(St.mk [(1,(.ptr 1 [] 0)),(5,(.int .i64 i0)),(6,(.ptr 6 [] 0)),(46,(.sl (some true) 16 x0.nodes.length (ab (U (some true)) x0.nodes))),(47,(.int .i64 i1)),(48,(.int .i64 i0)),(53,(.int .i64 i2))] [(1,[(.sl (some true) 16 x0.nodes.length (ab (U (some true)) x0.nodes)),(.sl (some true) 3 x0.bV.length (ab (bd (some true)) x0.bV)),(.sl (some true) 2 x0.log.length (ab (cD (some true)) x0.log)),(sI (some true) x0.safe),(.int .i64 x0.gen)]),(6,[(.int .i64 i3),(.bool b4),(.bool b5),(.sl (some g6) 1 n7 c8),(.sl (some g9) 1 nf ng),(.sl (some g12) 1 kO mo),(.bool gC),(.bool j9),(.bool rD),(.int .i64 i18),(.sl (some g19) 1 rj rk),(.sl (some g22) 1 n23 c24),(.sl (some g25) 1 qw pA),(.sl (some Pz) 1 n29 PB),(.sl (some PC) 1 n32 c33),(.sl (some g34) 1 n35 c36)])] [] 0)
theorem Kl:Told cfg Tryz.prog 74 Tryz.f74:=⟨by kernel_rfl,Tryz.func74,by kernel_rfl⟩
theorem Km (x0:aB):aO pr cv J 74 Tryz.f74 [(.agg (dk (some true) x0))]=
    (br (br (pr.eq (pr.aX x0.nodes.length) 3) false true) (some ((.bool false),[.undef])) (J 0 (mT x0 (pr.aX x0.nodes.length) 0))):=by kernel_rfl
theorem Dv (x0:aB) (i0:Int) (i1:Int):bF pr cv J 74 Tryz.f74 [.undef] 0 (mT x0 i0 i1)=
    let y1:Int:=(pr.bm (ab (U (some true)) x0.nodes) (pr.idx 0 i1 16))
    let y2:Option Bool:=(some (pr.bD (ab (U (some true)) x0.nodes) ((pr.idx 0 i1 16)+3)))
    let y3:Nat:=(pr.aZ (ab (U (some true)) x0.nodes) ((pr.idx 0 i1 16)+3))
    let y4:List D:=(pr.ba (ab (U (some true)) x0.nodes) ((pr.idx 0 i1 16)+3))
    let y5:Int:=(pr.bm (ab (U (some true)) x0.nodes) ((pr.idx 0 i1 16)+9))
    let y6:Option (D × List D):=(some ((.bool false),[.undef]))
    (br (pr.lt i1 i0) (br (pr.bz i1 x0.nodes.length) (br (br (pr.cg .i64 (ab (U (some true)) x0.nodes) (pr.idx 0 i1 16)) (br (pr.cI (ab (U (some true)) x0.nodes) ((pr.idx 0 i1 16)+1)) (br (pr.cI (ab (U (some true)) x0.nodes) ((pr.idx 0 i1 16)+2)) (br (pr.bG 1 (ab (U (some true)) x0.nodes) ((pr.idx 0 i1 16)+3)) (br (pr.bG 1 (ab (U (some true)) x0.nodes) ((pr.idx 0 i1 16)+4)) (br (pr.bG 1 (ab (U (some true)) x0.nodes) ((pr.idx 0 i1 16)+5)) (br (pr.cI (ab (U (some true)) x0.nodes) ((pr.idx 0 i1 16)+6)) (br (pr.cI (ab (U (some true)) x0.nodes) ((pr.idx 0 i1 16)+7)) (br (pr.cI (ab (U (some true)) x0.nodes) ((pr.idx 0 i1 16)+8)) (br (pr.cg .i64 (ab (U (some true)) x0.nodes) ((pr.idx 0 i1 16)+9)) (br (pr.bG 1 (ab (U (some true)) x0.nodes) ((pr.idx 0 i1 16)+10)) (br (pr.bG 1 (ab (U (some true)) x0.nodes) ((pr.idx 0 i1 16)+11)) (br (pr.bG 1 (ab (U (some true)) x0.nodes) ((pr.idx 0 i1 16)+12)) (br (pr.bG 1 (ab (U (some true)) x0.nodes) ((pr.idx 0 i1 16)+13)) (br (pr.bG 1 (ab (U (some true)) x0.nodes) ((pr.idx 0 i1 16)+14)) (br (pr.bG 1 (ab (U (some true)) x0.nodes) ((pr.idx 0 i1 16)+15)) true false) false) false) false) false) false) false) false) false) false) false) false) false) false) false) false) (cv 48 [(.agg [(.int .i64 y1),(.bool (pr.bT (ab (U (some true)) x0.nodes) ((pr.idx 0 i1 16)+1))),(.bool (pr.bT (ab (U (some true)) x0.nodes) ((pr.idx 0 i1 16)+2))),(.sl y2 1 y3 y4),(.sl (some (pr.bD (ab (U (some true)) x0.nodes) ((pr.idx 0 i1 16)+4))) 1 (pr.aZ (ab (U (some true)) x0.nodes) ((pr.idx 0 i1 16)+4)) (pr.ba (ab (U (some true)) x0.nodes) ((pr.idx 0 i1 16)+4))),(.sl (some (pr.bD (ab (U (some true)) x0.nodes) ((pr.idx 0 i1 16)+5))) 1 (pr.aZ (ab (U (some true)) x0.nodes) ((pr.idx 0 i1 16)+5)) (pr.ba (ab (U (some true)) x0.nodes) ((pr.idx 0 i1 16)+5))),(.bool (pr.bT (ab (U (some true)) x0.nodes) ((pr.idx 0 i1 16)+6))),(.bool (pr.bT (ab (U (some true)) x0.nodes) ((pr.idx 0 i1 16)+7))),(.bool (pr.bT (ab (U (some true)) x0.nodes) ((pr.idx 0 i1 16)+8))),(.int .i64 y5),(.sl (some (pr.bD (ab (U (some true)) x0.nodes) ((pr.idx 0 i1 16)+10))) 1 (pr.aZ (ab (U (some true)) x0.nodes) ((pr.idx 0 i1 16)+10)) (pr.ba (ab (U (some true)) x0.nodes) ((pr.idx 0 i1 16)+10))),(.sl (some (pr.bD (ab (U (some true)) x0.nodes) ((pr.idx 0 i1 16)+11))) 1 (pr.aZ (ab (U (some true)) x0.nodes) ((pr.idx 0 i1 16)+11)) (pr.ba (ab (U (some true)) x0.nodes) ((pr.idx 0 i1 16)+11))),(.sl (some (pr.bD (ab (U (some true)) x0.nodes) ((pr.idx 0 i1 16)+12))) 1 (pr.aZ (ab (U (some true)) x0.nodes) ((pr.idx 0 i1 16)+12)) (pr.ba (ab (U (some true)) x0.nodes) ((pr.idx 0 i1 16)+12))),(.sl (some (pr.bD (ab (U (some true)) x0.nodes) ((pr.idx 0 i1 16)+13))) 1 (pr.aZ (ab (U (some true)) x0.nodes) ((pr.idx 0 i1 16)+13)) (pr.ba (ab (U (some true)) x0.nodes) ((pr.idx 0 i1 16)+13))),(.sl (some (pr.bD (ab (U (some true)) x0.nodes) ((pr.idx 0 i1 16)+14))) 1 (pr.aZ (ab (U (some true)) x0.nodes) ((pr.idx 0 i1 16)+14)) (pr.ba (ab (U (some true)) x0.nodes) ((pr.idx 0 i1 16)+14))),(.sl (some (pr.bD (ab (U (some true)) x0.nodes) ((pr.idx 0 i1 16)+15))) 1 (pr.aZ (ab (U (some true)) x0.nodes) ((pr.idx 0 i1 16)+15)) (pr.ba (ab (U (some true)) x0.nodes) ((pr.idx 0 i1 16)+15)))])] (.bool (fun bR=>(.done (br (br bR false true) y6 (br (br (pr.eq y1 i1) false true) y6 (br (pr.lt (pr.aX x0.log.length) y5) y6 (cv 124 [(.sl y2 1 y3 y4),(.fn 125 [(.cJ [(.sl (some true) 16 x0.nodes.length (ab (U (some true)) x0.nodes)),(.sl (some true) 3 x0.bV.length (ab (bd (some true)) x0.bV)),(.sl (some true) 2 x0.log.length (ab (cD (some true)) x0.log)),(sI (some true) x0.safe),(.int .i64 x0.gen)] 0)])] (.bool (fun eP=>(.done (br eP y6 (J 0 (mT x0 i0 (pr.ar .add .i64 i1 1))))))))))))))) none) none) (J 2 (kd x0 (pr.aX x0.nodes.length) 0))):=by kernel_rfl
theorem Dw (x0:aB) (i0:Int) (i1:Int):bF pr cv J 74 Tryz.f74 [.undef] 2 (kd x0 i0 i1)=
    (br (pr.lt i1 i0) (br (pr.bz i1 x0.nodes.length) (br (br (pr.cg .i64 (ab (U (some true)) x0.nodes) (pr.idx 0 i1 16)) (br (pr.cI (ab (U (some true)) x0.nodes) ((pr.idx 0 i1 16)+1)) (br (pr.cI (ab (U (some true)) x0.nodes) ((pr.idx 0 i1 16)+2)) (br (pr.bG 1 (ab (U (some true)) x0.nodes) ((pr.idx 0 i1 16)+3)) (br (pr.bG 1 (ab (U (some true)) x0.nodes) ((pr.idx 0 i1 16)+4)) (br (pr.bG 1 (ab (U (some true)) x0.nodes) ((pr.idx 0 i1 16)+5)) (br (pr.cI (ab (U (some true)) x0.nodes) ((pr.idx 0 i1 16)+6)) (br (pr.cI (ab (U (some true)) x0.nodes) ((pr.idx 0 i1 16)+7)) (br (pr.cI (ab (U (some true)) x0.nodes) ((pr.idx 0 i1 16)+8)) (br (pr.cg .i64 (ab (U (some true)) x0.nodes) ((pr.idx 0 i1 16)+9)) (br (pr.bG 1 (ab (U (some true)) x0.nodes) ((pr.idx 0 i1 16)+10)) (br (pr.bG 1 (ab (U (some true)) x0.nodes) ((pr.idx 0 i1 16)+11)) (br (pr.bG 1 (ab (U (some true)) x0.nodes) ((pr.idx 0 i1 16)+12)) (br (pr.bG 1 (ab (U (some true)) x0.nodes) ((pr.idx 0 i1 16)+13)) (br (pr.bG 1 (ab (U (some true)) x0.nodes) ((pr.idx 0 i1 16)+14)) (br (pr.bG 1 (ab (U (some true)) x0.nodes) ((pr.idx 0 i1 16)+15)) true false) false) false) false) false) false) false) false) false) false) false) false) false) false) false) false) (J 4 (mU x0 i1 i0 0 (pr.bm (ab (U (some true)) x0.nodes) (pr.idx 0 i1 16)) (pr.bT (ab (U (some true)) x0.nodes) ((pr.idx 0 i1 16)+1)) (pr.bT (ab (U (some true)) x0.nodes) ((pr.idx 0 i1 16)+2)) (pr.bD (ab (U (some true)) x0.nodes) ((pr.idx 0 i1 16)+3)) (pr.aZ (ab (U (some true)) x0.nodes) ((pr.idx 0 i1 16)+3)) (pr.ba (ab (U (some true)) x0.nodes) ((pr.idx 0 i1 16)+3)) (pr.bD (ab (U (some true)) x0.nodes) ((pr.idx 0 i1 16)+4)) (pr.aZ (ab (U (some true)) x0.nodes) ((pr.idx 0 i1 16)+4)) (pr.ba (ab (U (some true)) x0.nodes) ((pr.idx 0 i1 16)+4)) (pr.bD (ab (U (some true)) x0.nodes) ((pr.idx 0 i1 16)+5)) (pr.aZ (ab (U (some true)) x0.nodes) ((pr.idx 0 i1 16)+5)) (pr.ba (ab (U (some true)) x0.nodes) ((pr.idx 0 i1 16)+5)) (pr.bT (ab (U (some true)) x0.nodes) ((pr.idx 0 i1 16)+6)) (pr.bT (ab (U (some true)) x0.nodes) ((pr.idx 0 i1 16)+7)) (pr.bT (ab (U (some true)) x0.nodes) ((pr.idx 0 i1 16)+8)) (pr.bm (ab (U (some true)) x0.nodes) ((pr.idx 0 i1 16)+9)) (pr.bD (ab (U (some true)) x0.nodes) ((pr.idx 0 i1 16)+10)) (pr.aZ (ab (U (some true)) x0.nodes) ((pr.idx 0 i1 16)+10)) (pr.ba (ab (U (some true)) x0.nodes) ((pr.idx 0 i1 16)+10)) (pr.bD (ab (U (some true)) x0.nodes) ((pr.idx 0 i1 16)+11)) (pr.aZ (ab (U (some true)) x0.nodes) ((pr.idx 0 i1 16)+11)) (pr.ba (ab (U (some true)) x0.nodes) ((pr.idx 0 i1 16)+11)) (pr.bD (ab (U (some true)) x0.nodes) ((pr.idx 0 i1 16)+12)) (pr.aZ (ab (U (some true)) x0.nodes) ((pr.idx 0 i1 16)+12)) (pr.ba (ab (U (some true)) x0.nodes) ((pr.idx 0 i1 16)+12)) (pr.bD (ab (U (some true)) x0.nodes) ((pr.idx 0 i1 16)+13)) (pr.aZ (ab (U (some true)) x0.nodes) ((pr.idx 0 i1 16)+13)) (pr.ba (ab (U (some true)) x0.nodes) ((pr.idx 0 i1 16)+13)) (pr.bD (ab (U (some true)) x0.nodes) ((pr.idx 0 i1 16)+14)) (pr.aZ (ab (U (some true)) x0.nodes) ((pr.idx 0 i1 16)+14)) (pr.ba (ab (U (some true)) x0.nodes) ((pr.idx 0 i1 16)+14)) (pr.bD (ab (U (some true)) x0.nodes) ((pr.idx 0 i1 16)+15)) (pr.aZ (ab (U (some true)) x0.nodes) ((pr.idx 0 i1 16)+15)) (pr.ba (ab (U (some true)) x0.nodes) ((pr.idx 0 i1 16)+15)))) none) none) (some ((.bool true),[.undef]))):=by kernel_rfl
theorem Dx (x0:aB) (i0:Int) (i1:Int) (i2:Int) (i3:Int) (b4:Bool) (b5:Bool) (g6:Bool) (n7:Nat) (c8:List D) (g9:Bool) (nf:Nat) (ng:List D) (g12:Bool) (kO:Nat) (mo:List D) (gC:Bool) (j9:Bool) (rD:Bool) (i18:Int) (g19:Bool) (rj:Nat) (rk:List D) (g22:Bool) (n23:Nat) (c24:List D) (g25:Bool) (qw:Nat) (pA:List D) (Pz:Bool) (n29:Nat) (PB:List D) (PC:Bool) (n32:Nat) (c33:List D) (g34:Bool) (n35:Nat) (c36:List D):bF pr cv J 74 Tryz.f74 [.undef] 4 (mU x0 i0 i1 i2 i3 b4 b5 g6 n7 c8 g9 nf ng g12 kO mo gC j9 rD i18 g19 rj rk g22 n23 c24 g25 qw pA Pz n29 PB PC n32 c33 g34 n35 c36)=
    let y1:List D:=(pr.ba (ab (U (some true)) x0.nodes) ((pr.idx 0 i2 16)+12))
    let y2:Option Rz:=(J 4 (mU x0 i0 i1 (pr.ar .add .i64 i2 1) i3 b4 b5 g6 n7 c8 g9 nf ng g12 kO mo gC j9 rD i18 g19 rj rk g22 n23 c24 g25 qw pA Pz n29 PB PC n32 c33 g34 n35 c36))
    (br (pr.lt i2 3) (br (pr.bz i2 qw) (br (br (pr.cI pA (pr.idx 0 i2 1)) true false) (br (pr.bT pA (pr.idx 0 i2 1)) (br (pr.bz i2 x0.nodes.length) (br (br (pr.bG 1 (ab (U (some true)) x0.nodes) ((pr.idx 0 i2 16)+12)) true false) (br (pr.bz i0 (pr.aZ (ab (U (some true)) x0.nodes) ((pr.idx 0 i2 16)+12))) (br (br (pr.cI y1 (pr.idx 0 i0 1)) true false) (br (br (pr.bT y1 (pr.idx 0 i0 1)) false true) (some ((.bool false),[.undef])) y2) none) none) none) none) y2) none) none) (J 2 (kd x0 i1 (pr.ar .add .i64 i0 1)))):=by kernel_rfl
end
theorem FN (w:aB) (a:Int):Cm 125 [.int .i64 a,.cJ (dk (some true) w) 0] (.bool (decide ((w.log.length:Int) < a)),[.undef,.undef]):=by
  refine Cm.step FL [.undef,.undef] fun J hJ=>?_
  rw [FM]
  rfl
@[go_sem] theorem abW (w:aB) (g:Bool) (n:Nat) (xs:List Int) (hn:n=xs.length) (hb:xs.length < 4611686018427387904) (t:bE Rz):aL 124 [.sl (some g) 1 n (ints xs),.fn 125 [.cJ (dk (some true) w) 0]] t=feed t [.bool (xs.any fun a=>decide ((w.log.length:Int) < a))]:=by
  subst hn
  exact aW (Kk _ _ g xs _ hb fun i hi t=>aW (FN w _) (by kernel_rfl) t) (by kernel_rfl) t
structure Kn (w:aB) (i:Nat):Prop where
  ok:dI (w.nodes.getD i n0)=true
  id:(w.nodes.getD i n0).id=i
  last:(w.nodes.getD i n0).mt.last≤w.log.length
  cells:∀ x∈(w.nodes.getD i n0).image,x≤(w.log.length:Int)
def FO (w:aB) (i k:Nat):Prop:=(w.nodes.getD i n0).conn.getD k false=true→(w.nodes.getD k n0).conn.getD i false=true
structure Ko (w:aB):Prop where
  len:w.nodes.length=3
  nd:∀ i,i < 3→Kn w i
  sy:∀ i k,i < 3→k < 3→FO w i k
open Classical in
noncomputable def pR (w:aB):Bool:=decide (Ko w)
open Classical in
theorem agm {w:aB} (h:pR w=true):Ko w:=by unfold pR at h; exact of_decide_eq_true h
open Classical in
theorem Dn {w:aB} (h:¬Ko w):(some ((.bool false,[.undef]):Rz))=some (.bool (pR w),[.undef]):=by unfold pR; rw [decide_eq_false h]
open Classical in
theorem aeZ {w:aB} (h:Ko w):(some ((.bool true,[.undef]):Rz))=some (.bool (pR w),[.undef]):=by unfold pR; rw [decide_eq_true h]
theorem SV {l:Int} {xs:List Int}:(xs.any fun a=>decide (l < a))=true↔¬∀ x∈xs,x≤l:=by
  simp
theorem Kp (w:aB) (q0:dg w):Cm 74 [.agg (dk (some true) w)] (.bool (pR w),[.undef]):=by
  refine Cm.step Kl [.undef] fun J hJ=>?_
  rw [Km]
  have b1:=q0.nodes
  simp (disch:=first | assumption | omega) only [go_sem]
  refine bK (fun h3=>?_) (fun h=>Dn fun o=>h (by have:=o.len; omega))
  have Gs:w.nodes.length=3:=by omega
  refine hJ _ _ ?_
  have second:(∀ i,i < 3→Kn w i)→WP 74 Tryz.f74 [.undef] 2 (kd w w.nodes.length ((0:Nat):Int)) (.bool (pR w),[.undef]):=by
    intro nd
    refine WP.upw (H:=fun i:Nat=>kd w w.nodes.length (i:Int)) 3 (fun i=>∀ a,a < i→∀ k,k < 3→FO w a k) (fun i hi inv next=>?_) 0 (by omega) (fun a h=>absurd h (by omega))
    refine WP.step fun J hJ=>?_
    rw [Dw]
    simp (disch:=first | assumption | omega) only [go_sem]
    refine bK (fun hl=>?_) (fun hl=>aeZ ⟨Gs,nd,fun a k ha hk=>inv a (by omega) k hk⟩)
    simp (disch:=first | assumption | omega) only [go_sem]
    refine hJ _ _ ?_
    refine WP.up (H:=fun k:Nat=>mU w i w.nodes.length k _ _ _ _ _ _ _ _ _ _ _ _ _ _ _ _ _ _ _ _ _ _ _ _ _ _ _ _ _ _ _ _ _ _) 3 (fun k=>∀ b,b < k→FO w i b) (fun k hk inv2 J hJ xj=>?_) 0 (by omega) (fun a h=>absurd h (by omega))
    rw [Dx]
    have ci:=(iN (nd i (by omega)).ok).conn
    simp (disch:=first | assumption | omega) only [go_sem]
    refine bK (fun Gx=>?_) (fun Gx=>?_)
    · have ck:=(iN (nd k (by omega)).ok).conn
      simp (disch:=first | assumption | omega) only [go_sem]
      refine ie (fun hc=>?_) (fun hc=>?_)
      · simp (disch:=first | assumption | omega) only [go_sem]
        refine ie (fun hd=>?_) (fun hd=>Dn fun o=>hd (o.sy i k (by omega) (by omega) hc))
        simp (disch:=first | assumption | omega) only [go_sem]
        refine xj (by omega) fun b hb=>?_
        by_cases e:b=k
        · rw [e]; exact fun _=>hd
        · exact inv2 b (by omega)
      · simp (disch:=first | assumption | omega) only [go_sem]
        refine xj (by omega) fun b hb=>?_
        by_cases e:b=k
        · rw [e]; exact fun h=>absurd h hc
        · exact inv2 b (by omega)
    · refine hJ _ _ (next (by omega) fun a ha b hb=>?_)
      by_cases e:a=i
      · rw [e]; exact inv2 b (by omega)
      · exact inv a (by omega) b hb
  refine WP.up (H:=fun i:Nat=>mT w w.nodes.length (i:Int)) 3 (fun i=>∀ a,a < i→Kn w a) (fun i hi inv J hJ next=>?_) 0 (by omega) (fun a h=>absurd h (by omega))
  rw [Dv]
  simp (disch:=first | assumption | omega) only [go_sem]
  refine bK (fun hl=>?_) (fun hl=>hJ _ _ (second fun a ha=>inv a (by omega)))
  have oi:=okN q0 (show i < w.nodes.length by omega)
  have oim:=oi.image
  simp (disch:=first | assumption | omega) only [go_sem]
  refine ie (fun hn=>?_) (fun h=>Dn fun o=>h (o.nd i (by omega)).ok)
  simp (disch:=first | assumption | omega) only [go_sem]
  refine bK (fun hd=>?_) (fun h=>Dn fun o=>h (o.nd i (by omega)).id)
  simp (disch:=first | assumption | omega) only [go_sem]
  refine bK (fun h=>Dn fun o=>absurd (o.nd i (by omega)).last (by omega)) (fun hla=>?_)
  simp (disch:=first | assumption | omega) only [go_sem]
  refine ie (fun h=>Dn fun o=>SV.1 h (o.nd i (by omega)).cells) (fun hc=>?_)
  simp (disch:=first | assumption | omega) only [go_sem]
  refine next (by omega) fun a ha=>?_
  by_cases e:a=i
  · rw [e]; exact ⟨hn,hd,by omega,Classical.not_not.1 fun x=>hc (SV.2 x)⟩
  · exact inv a (by omega)
@[go_sem] theorem abX (w:aB) (q0:dg w) (t:bE Rz):aL 74 [.agg (gU (some true) w)] t=feed t [.bool (pR w)]:=by
  exact bH (r:=.bool (pR w)) (s:=.bool) (ss:=[.undef]) (Kp w q0) (by kernel_rfl) (by simp only [au,bq,aU,bt,bu,af,aj,Bool.and_self]) (by simp only [af,aF,au,aj,Bool.and_self]) (by first | rfl | simp only [aq,aS,aR,bn,bo,aT,bp,Bool.and_self]) (by first | rfl | simp only [List.all_cons,List.all_nil,aq,Bool.and_self]) t
end Go.Proofs.YtockoilcnmljiaaGreat
