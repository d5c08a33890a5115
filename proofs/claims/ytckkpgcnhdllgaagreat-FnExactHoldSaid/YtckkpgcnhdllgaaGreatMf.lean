/- What the proof of FnExactHold stands on, part 6: an abstract machine on plain data, its soundness, and the contracts of functions. -/
import Derived.Attr
import Derived.Test.YtckkpgcnhdllgaaGreatMe
set_option linter.all false
set_option linter.unusedSimpArgs false
set_option linter.unusedVariables false
set_option linter.unnecessarySimpa false
set_option linter.unusedSectionVars false
namespace Go.Proofs.YtckkpgcnhdllgaaGreat
set_option maxRecDepth 100000
section
variable (pr:ej) (cv:Cv Rz) (J:Nat->St->Option Rz)
def qZ (n0:Nat) (c1:List D) (i2:Int) (b3:Bool) (b4:Bool) (b5:Bool) (i6:Int) (n7:Nat) (c8:List D) (i9:Int) (jA:Bool) (eW:Nat) (fw:List D) (Gs:Bool) (ph:Bool) (j5:Bool) (i16:Int):St:=(St.mk [(0,(.sl (some true) 1 n0 c1)),(2,(.ptr 2 [] 0)),(4,(.ptr 11 [] 0)),(5,(.ptr 5 [] 0)),(6,(.int .i64 i2))] [(2,[(.nil 1),(.nil 1),(.bool b3),(.bool b4),(.bool b5),(.int .i64 i6)]),(11,[(.sl (some true) 1 n7 c8),(.int .i64 i9),(.bool jA)]),(5,[(.sl none 1 eW fw),(.nil 1),(.bool Gs),(.bool ph),(.bool j5),(.int .i64 i16)])] [] 0)
def gW (n0:Nat) (c1:List D) (i2:Int) (b3:Bool) (b4:Bool) (b5:Bool) (i6:Int) (n7:Nat) (c8:List D) (i9:Int) (jA:Bool) (eW:Nat) (fw:List D) (nb:Nat) (oB:List D) (j5:Bool) (pj:Bool) (wy:Bool) (i18:Int):St:=(St.mk [(0,(.sl (some true) 1 n0 c1)),(2,(.ptr 2 [] 0)),(4,(.ptr 11 [] 0)),(5,(.ptr 5 [] 0)),(6,(.int .i64 i2))] [(2,[(.nil 1),(.nil 1),(.bool b3),(.bool b4),(.bool b5),(.int .i64 i6)]),(11,[(.sl (some true) 1 n7 c8),(.int .i64 i9),(.bool jA)]),(5,[(.sl none 1 eW fw),(.sl none 1 nb oB),(.bool j5),(.bool pj),(.bool wy),(.int .i64 i18)])] [] 0)
theorem K9:Told cfg Tryz.prog 279 Tryz.f279:=⟨by kernel_rfl,Tryz.func279,by kernel_rfl⟩
theorem Lb (n0:Nat) (c0:List D):aU pr cv J 279 Tryz.f279 [(.sl (some true) 1 n0 c0)]=
 (cv 310 [(.aW [(.sl (some false) 1 n0 (ek false c0)),(.int .i64 0),(.bool true)])] (.sl (fun dU=>(fun dg=>(.cX (fun iy=>(fun zB=>(fun qR=>(.int (fun qd=>(.bool (fun mK=>(.done (br (br (br (pr.nl dg) true false) (br (br (pr.nl qR) true false) true false) false) (J 0 (qZ n0 c0 0 false false false 0 zB (ek true qR) qd mK dU (ek true dg) false false false 0)) none)))))))))))))):=by kernel_rfl
theorem DU (n0:Nat) (c1:List D) (i2:Int) (b3:Bool) (b4:Bool) (b5:Bool) (i6:Int) (n7:Nat) (c8:List D) (i9:Int) (jA:Bool) (eW:Nat) (fw:List D) (Gs:Bool) (ph:Bool) (j5:Bool) (i16:Int):cg pr cv J 279 Tryz.f279 [.undef] 0 (qZ n0 c1 i2 b3 b4 b5 i6 n7 c8 i9 jA eW fw Gs ph j5 i16)=
 let y1:List D:=[(.aW [(.sl (some false) 1 n7 (ek false c8)),(.int .i64 i9),(.bool jA)])]
 let y2:Option (D × List D):=(some ((.aG [(.agg [(.sl none 1 0 []),(.sl none 1 0 []),(.bool false),(.bool false),(.bool false),(.int .i64 0)]),(.bool false)]),[.undef]))
 (br (pr.lt i2 3) (cv 310 y1 (.sl (fun dU=>(fun dg=>(.cX (fun iy=>(fun zB=>(fun qR=>(.int (fun qd=>(.bool (fun mK=>(.done (br (br (br (pr.nl dg) true false) (br (br (pr.nl qR) true false) true false) false) (br (pr.fits 1 24) (J 0 (gW n0 c1 (pr.ar .add .i64 i2 1) b3 b4 b5 i6 zB (ek true qR) qd mK eW fw 1 [(.sl none 1 dU (ek true dg))] Gs ph j5 i16)) none) none)))))))))))))) (cv 311 y1 (.int (fun lY=>(.cX (fun Rp=>(fun O4=>(fun vE=>(.int (fun Bc=>(.bool (fun zi=>(.done (br (br (br (pr.nl vE) true false) true false) (cv 311 [(.aW [(.sl (some false) 1 O4 (ek false (ek true vE))),(.int .i64 Bc),(.bool zi)])] (.int (fun vF=>(.cX (fun O5=>(fun Io=>(fun wU=>(.int (fun O6=>(.bool (fun DV=>(.done (br (br (br (pr.nl wU) true false) true false) (br (br DV false true) y2 (br (pr.rY c1) (cv 282 [(.agg [(.sl (some true) 1 eW (bz true fw)),(.sl (some true) 1 0 []),(.bool (br (pr.eq (pr.ar .and .i64 lY 1) 0) false true)),(.bool (br (pr.eq (pr.ar .and .i64 lY 2) 0) false true)),(.bool (br (pr.eq (pr.ar .and .i64 lY 4) 0) false true)),(.int .i64 vF)])] (.sl (fun DW=>(fun se=>(.done (br (br (br (pr.nl se) true false) true false) (br (pr.rY se) (br (br (pr.seq (pr.AD se) (pr.AD c1)) false true) y2 (br (pr.eq (pr.ba n0) 0) y2 (some ((.aG [(.agg [(.sl none 1 eW fw),(.sl none 1 0 []),(.bool (br (pr.eq (pr.ar .and .i64 lY 1) 0) false true)),(.bool (br (pr.eq (pr.ar .and .i64 lY 2) 0) false true)),(.bool (br (pr.eq (pr.ar .and .i64 lY 4) 0) false true)),(.int .i64 vF)]),(.bool true)]),[.undef])))) none) none)))))) none)) none))))))))))))) none)))))))))))))):=by kernel_rfl
theorem nR (n0:Nat) (c1:List D) (i2:Int) (b3:Bool) (b4:Bool) (b5:Bool) (i6:Int) (n7:Nat) (c8:List D) (i9:Int) (jA:Bool) (eW:Nat) (fw:List D) (nb:Nat) (oB:List D) (j5:Bool) (pj:Bool) (wy:Bool) (i18:Int):cg pr cv J 279 Tryz.f279 [.undef] 0 (gW n0 c1 i2 b3 b4 b5 i6 n7 c8 i9 jA eW fw nb oB j5 pj wy i18)=
 let y1:List D:=[(.aW [(.sl (some false) 1 n7 (ek false c8)),(.int .i64 i9),(.bool jA)])]
 let y2:Option (D × List D):=(some ((.aG [(.agg [(.sl none 1 0 []),(.sl none 1 0 []),(.bool false),(.bool false),(.bool false),(.int .i64 0)]),(.bool false)]),[.undef]))
 (br (pr.lt i2 3) (cv 310 y1 (.sl (fun dU=>(fun dg=>(.cX (fun iy=>(fun zB=>(fun qR=>(.int (fun qd=>(.bool (fun mK=>(.done (br (br (br (pr.nl dg) true false) (br (br (pr.nl qR) true false) true false) false) (br (pr.fits (nb+1) 24) (J 0 (gW n0 c1 (pr.ar .add .i64 i2 1) b3 b4 b5 i6 zB (ek true qR) qd mK eW fw (nb+1) (List.append oB [(.sl none 1 dU (ek true dg))]) j5 pj wy i18)) none) none)))))))))))))) (cv 311 y1 (.int (fun lY=>(.cX (fun Rp=>(fun O4=>(fun vE=>(.int (fun Bc=>(.bool (fun zi=>(.done (br (br (br (pr.nl vE) true false) true false) (cv 311 [(.aW [(.sl (some false) 1 O4 (ek false (ek true vE))),(.int .i64 Bc),(.bool zi)])] (.int (fun vF=>(.cX (fun O5=>(fun Io=>(fun wU=>(.int (fun O6=>(.bool (fun DV=>(.done (br (br (br (pr.nl wU) true false) true false) (br (br DV false true) y2 (br (pr.rY c1) (cv 282 [(.agg [(.sl (some true) 1 eW (bz true fw)),(.sl (some true) 1 nb (bz true oB)),(.bool (br (pr.eq (pr.ar .and .i64 lY 1) 0) false true)),(.bool (br (pr.eq (pr.ar .and .i64 lY 2) 0) false true)),(.bool (br (pr.eq (pr.ar .and .i64 lY 4) 0) false true)),(.int .i64 vF)])] (.sl (fun DW=>(fun se=>(.done (br (br (br (pr.nl se) true false) true false) (br (pr.rY se) (br (br (pr.seq (pr.AD se) (pr.AD c1)) false true) y2 (br (pr.eq (pr.ba n0) 0) y2 (some ((.aG [(.agg [(.sl none 1 eW fw),(.sl none 1 nb oB),(.bool (br (pr.eq (pr.ar .and .i64 lY 1) 0) false true)),(.bool (br (pr.eq (pr.ar .and .i64 lY 2) 0) false true)),(.bool (br (pr.eq (pr.ar .and .i64 lY 4) 0) false true)),(.int .i64 vF)]),(.bool true)]),[.undef])))) none) none)))))) none)) none))))))))))))) none)))))))))))))):=by kernel_rfl
def q8 (n0:Nat) (c1:List D) (i2:Int) (b3:Bool) (b4:Bool) (b5:Bool) (i6:Int) (n7:Nat) (c8:List D) (i9:Int) (jA:Bool) (eW:Nat) (fw:List D) (Gs:Bool) (ph:Bool) (j5:Bool) (i16:Int):St:=(St.mk [(0,(.sl (some true) 1 n0 c1)),(2,(.ptr 2 [] 0)),(4,(.ptr 11 [] 0)),(5,(.ptr 5 [] 0)),(16,(.int .i64 i2))] [(2,[(.nil 1),(.nil 1),(.bool b3),(.bool b4),(.bool b5),(.int .i64 i6)]),(11,[(.sl (some true) 1 n7 c8),(.int .i64 i9),(.bool jA)]),(5,[(.sl none 1 eW fw),(.nil 1),(.bool Gs),(.bool ph),(.bool j5),(.int .i64 i16)])] [] 0)
def gX (n0:Nat) (c1:List D) (i2:Int) (b3:Bool) (b4:Bool) (b5:Bool) (i6:Int) (n7:Nat) (c8:List D) (i9:Int) (jA:Bool) (eW:Nat) (fw:List D) (nb:Nat) (oB:List D) (j5:Bool) (pj:Bool) (wy:Bool) (i18:Int):St:=(St.mk [(0,(.sl (some true) 1 n0 c1)),(2,(.ptr 2 [] 0)),(4,(.ptr 11 [] 0)),(5,(.ptr 5 [] 0)),(16,(.int .i64 i2))] [(2,[(.nil 1),(.nil 1),(.bool b3),(.bool b4),(.bool b5),(.int .i64 i6)]),(11,[(.sl (some true) 1 n7 c8),(.int .i64 i9),(.bool jA)]),(5,[(.sl none 1 eW fw),(.sl none 1 nb oB),(.bool j5),(.bool pj),(.bool wy),(.int .i64 i18)])] [] 0)
theorem Lc:Told cfg Tryz.prog 312 Tryz.f312:=⟨by kernel_rfl,Tryz.func312,by kernel_rfl⟩
theorem Ld (n0:Nat) (c0:List D):aU pr cv J 312 Tryz.f312 [(.sl (some true) 1 n0 c0)]=
 (cv 330 [(.aW [(.sl (some false) 1 n0 (ek false c0)),(.int .i64 0),(.bool true)])] (.sl (fun dU=>(fun dg=>(.cX (fun iy=>(fun zB=>(fun qR=>(.int (fun qd=>(.bool (fun mK=>(.done (br (br (br (pr.nl dg) true false) (br (br (pr.nl qR) true false) true false) false) (J 0 (q8 n0 c0 0 false false false 0 zB (ek true qR) qd mK dU (ek true dg) false false false 0)) none)))))))))))))):=by kernel_rfl
theorem DX (n0:Nat) (c1:List D) (i2:Int) (b3:Bool) (b4:Bool) (b5:Bool) (i6:Int) (n7:Nat) (c8:List D) (i9:Int) (jA:Bool) (eW:Nat) (fw:List D) (Gs:Bool) (ph:Bool) (j5:Bool) (i16:Int):cg pr cv J 312 Tryz.f312 [.undef] 0 (q8 n0 c1 i2 b3 b4 b5 i6 n7 c8 i9 jA eW fw Gs ph j5 i16)=
 let y1:List D:=[(.aW [(.sl (some false) 1 n7 (ek false c8)),(.int .i64 i9),(.bool jA)])]
 let y2:Option (D × List D):=(some ((.aG [(.agg [(.sl none 1 0 []),(.sl none 1 0 []),(.bool false),(.bool false),(.bool false),(.int .i64 0)]),(.bool false)]),[.undef]))
 (br (pr.lt i2 3) (cv 330 y1 (.sl (fun dU=>(fun dg=>(.cX (fun iy=>(fun zB=>(fun qR=>(.int (fun qd=>(.bool (fun mK=>(.done (br (br (br (pr.nl dg) true false) (br (br (pr.nl qR) true false) true false) false) (br (pr.fits 1 24) (J 0 (gX n0 c1 (pr.ar .add .i64 i2 1) b3 b4 b5 i6 zB (ek true qR) qd mK eW fw 1 [(.sl none 1 dU (ek true dg))] Gs ph j5 i16)) none) none)))))))))))))) (cv 331 y1 (.int (fun lY=>(.cX (fun Rp=>(fun O4=>(fun vE=>(.int (fun Bc=>(.bool (fun zi=>(.done (br (br (br (pr.nl vE) true false) true false) (cv 331 [(.aW [(.sl (some false) 1 O4 (ek false (ek true vE))),(.int .i64 Bc),(.bool zi)])] (.int (fun vF=>(.cX (fun O5=>(fun Io=>(fun wU=>(.int (fun O6=>(.bool (fun DV=>(.done (br (br (br (pr.nl wU) true false) true false) (cv 316 [(.agg [(.sl (some true) 1 eW (bz true fw)),(.sl (some true) 1 0 []),(.bool (br (pr.eq (pr.ar .and .i64 lY 1) 0) false true)),(.bool (br (pr.eq (pr.ar .and .i64 lY 2) 0) false true)),(.bool (br (pr.eq (pr.ar .and .i64 lY 4) 0) false true)),(.int .i64 vF)])] (.sl (fun DW=>(fun se=>(.done (br (br (br (pr.nl se) true false) true false) (br (br DV false true) y2 (br (pr.eq (pr.ba DW) 0) y2 (cv 313 [(.sl (some true) 1 DW (bz true se)),(.sl (some true) 1 n0 c1)] (.bool (fun Tg=>(.done (br (br Tg false true) y2 (some ((.aG [(.agg [(.sl none 1 eW fw),(.sl none 1 0 []),(.bool (br (pr.eq (pr.ar .and .i64 lY 1) 0) false true)),(.bool (br (pr.eq (pr.ar .and .i64 lY 2) 0) false true)),(.bool (br (pr.eq (pr.ar .and .i64 lY 4) 0) false true)),(.int .i64 vF)]),(.bool true)]),[.undef]))))))))) none)))))) none))))))))))))) none)))))))))))))):=by kernel_rfl
theorem nT (n0:Nat) (c1:List D) (i2:Int) (b3:Bool) (b4:Bool) (b5:Bool) (i6:Int) (n7:Nat) (c8:List D) (i9:Int) (jA:Bool) (eW:Nat) (fw:List D) (nb:Nat) (oB:List D) (j5:Bool) (pj:Bool) (wy:Bool) (i18:Int):cg pr cv J 312 Tryz.f312 [.undef] 0 (gX n0 c1 i2 b3 b4 b5 i6 n7 c8 i9 jA eW fw nb oB j5 pj wy i18)=
 let y1:List D:=[(.aW [(.sl (some false) 1 n7 (ek false c8)),(.int .i64 i9),(.bool jA)])]
 let y2:Option (D × List D):=(some ((.aG [(.agg [(.sl none 1 0 []),(.sl none 1 0 []),(.bool false),(.bool false),(.bool false),(.int .i64 0)]),(.bool false)]),[.undef]))
 (br (pr.lt i2 3) (cv 330 y1 (.sl (fun dU=>(fun dg=>(.cX (fun iy=>(fun zB=>(fun qR=>(.int (fun qd=>(.bool (fun mK=>(.done (br (br (br (pr.nl dg) true false) (br (br (pr.nl qR) true false) true false) false) (br (pr.fits (nb+1) 24) (J 0 (gX n0 c1 (pr.ar .add .i64 i2 1) b3 b4 b5 i6 zB (ek true qR) qd mK eW fw (nb+1) (List.append oB [(.sl none 1 dU (ek true dg))]) j5 pj wy i18)) none) none)))))))))))))) (cv 331 y1 (.int (fun lY=>(.cX (fun Rp=>(fun O4=>(fun vE=>(.int (fun Bc=>(.bool (fun zi=>(.done (br (br (br (pr.nl vE) true false) true false) (cv 331 [(.aW [(.sl (some false) 1 O4 (ek false (ek true vE))),(.int .i64 Bc),(.bool zi)])] (.int (fun vF=>(.cX (fun O5=>(fun Io=>(fun wU=>(.int (fun O6=>(.bool (fun DV=>(.done (br (br (br (pr.nl wU) true false) true false) (cv 316 [(.agg [(.sl (some true) 1 eW (bz true fw)),(.sl (some true) 1 nb (bz true oB)),(.bool (br (pr.eq (pr.ar .and .i64 lY 1) 0) false true)),(.bool (br (pr.eq (pr.ar .and .i64 lY 2) 0) false true)),(.bool (br (pr.eq (pr.ar .and .i64 lY 4) 0) false true)),(.int .i64 vF)])] (.sl (fun DW=>(fun se=>(.done (br (br (br (pr.nl se) true false) true false) (br (br DV false true) y2 (br (pr.eq (pr.ba DW) 0) y2 (cv 313 [(.sl (some true) 1 DW (bz true se)),(.sl (some true) 1 n0 c1)] (.bool (fun Tg=>(.done (br (br Tg false true) y2 (some ((.aG [(.agg [(.sl none 1 eW fw),(.sl none 1 nb oB),(.bool (br (pr.eq (pr.ar .and .i64 lY 1) 0) false true)),(.bool (br (pr.eq (pr.ar .and .i64 lY 2) 0) false true)),(.bool (br (pr.eq (pr.ar .and .i64 lY 4) 0) false true)),(.int .i64 vF)]),(.bool true)]),[.undef]))))))))) none)))))) none))))))))))))) none)))))))))))))):=by kernel_rfl
end
theorem O7 (x:UInt8):byteOf (dz x)=some x:=by
 have:=x.toNat_lt;simp [dz,byteOf]
theorem zj:∀ xs:List UInt8,lp byteOf (bytes xs)=some xs
 | []=>rfl
 | x::xs=>by
  have h:=zj xs;simp only [bytes] at h;simp only [bytes,ac6,lp,O7,h]
theorem DY {R:Type} {x y:R} (xs:List UInt8):br (ad.rY (bytes xs)) x y=x:=by
 have:ad.rY (bytes xs)=true:=by
  show (lp byteOf (bytes xs)).isSome=true;rw [zj];rfl
 rw [this,aN]
theorem O8 (xs:List UInt8):ad.AD (bytes xs)=bs xs:=by
 show (⟨((lp byteOf (bytes xs)).getD []).toArray⟩:ByteArray)=bs xs;rw [zj];rfl
theorem O9 (xs ys:List UInt8):ad.seq (bs xs) (bs ys)=decide (xs=ys):=by
 show ((bs xs).toList==(bs ys).toList)=_;rw [ByteArray.toList_eq,ByteArray.toList_eq];show (xs==ys)=_;by_cases h:xs=ys<;>simp [h]
theorem Pb (g h:Bool) (xs ys:List UInt8):Cm 313 [.sl (some g) 1 xs.length (bytes xs),.sl (some h) 1 ys.length (bytes ys)] (.bool (decide (xs=ys)),[.undef,.undef]):=by
 refine Cm.fin KS fun J=>?_;rw [KT];simp only [DY,O8,O9]
theorem Bd (g h:Bool) (xs ys:List UInt8) (t:bD Rz):aO 313 [.sl (some g) 1 xs.length (bytes xs),.sl (some h) 1 ys.length (bytes ys)] t=feed t [.bool (decide (xs=ys))]:=bc (Pb g h xs ys) (by kernel_rfl) t
theorem jD (b:Bool):∀ xs:List Int,ek b (ints xs)=ints xs
 | []=>rfl
 | x::xs=>by
  have h:=jD b xs;simp only [ints] at h;simp only [ints,ac6,ek,il,h]
theorem gl (b:Bool):∀ xs:List UInt8,ek b (bytes xs)=bytes xs
 | []=>rfl
 | x::xs=>by
  have h:=gl b xs;simp only [bytes] at h;simp only [bytes,ac6,ek,il,dz,h]
theorem JY (b:List UInt8) (p:Nat):∀ k i acc,(iN b p k i acc).2.2=false->iN b p k i acc=lK
 | 0,_,_,_=>rfl
 | k+1,i,acc,h=>by
  rw [iN] at h ⊢;split at h
  ·rename_i h1;rw [dif_pos h1];split at h
   ·rename_i h2;rw [if_pos h2];exact JY b p k _ _ h
   ·rename_i h2;rw [if_neg h2];split at h
    ·rename_i h3;rw [if_pos h3]
    ·simp at h
  ·rename_i h1;rw [dif_neg h1]
theorem Wl (b:List UInt8) (a:Int) (h:(hL b a).2.2=false):hL b a=lK:=by
 unfold hL at h ⊢;split at h
 ·rename_i h1;rw [if_pos h1]
 ·rename_i h1;rw [if_neg h1];exact JY b _ _ _ _ h
def Gt (c c':Int × Bool):Prop:=c.2=c'.2/\(c.2=true->c.1=c'.1)
theorem B7 (b:List UInt8) {c c':Int × Bool} (h:Gt c c'):(bF b c).1=(bI b c').1/\Gt (bF b c).2 (bI b c').2:=by
 obtain ⟨p,q⟩:=c;obtain ⟨p',q'⟩:=c';obtain ⟨h1,h2⟩:=h;simp only at h1 h2;subst h1;cases q with
 | false=>exact ⟨by simp [bF,bI],by simp [bF,bI,Gt]⟩
 | true=>
  have:=h2 rfl;subst this;cases hg:(hL b p).2.2 with
  | true=>exact ⟨by simp [bF,bI,hg],by simp [bF,bI,Gt,hg]⟩
  | false=>
   have:=Wl b p hg;exact ⟨by simp [bF,bI,this,lK],by simp [bF,bI,Gt,this,lK]⟩
theorem Wm (b:List UInt8):∀ (k:Nat) {c c':Int × Bool} (out:List Int),Gt c c'->(nP bF b k c out).1=(nP bI b k c' out).1/\Gt (nP bF b k c out).2 (nP bI b k c' out).2
 | 0,_,_,_,h=>⟨rfl,h⟩
 | k+1,c,c',out,h=>by
  simp only [nP];rw [<- h.1];cases hc:c.2 with
  | false=>exact ⟨rfl,h⟩
  | true=>
   have hn:=B7 b h;simp only [if_true];rw [hn.1];exact Wm b k _ hn.2
theorem zk (b:List UInt8) {c c':Int × Bool} (h:Gt c c'):(bg bF b c).1=(bg bI b c').1/\Gt (bg bF b c).2 (bg bI b c').2:=by
 have hn:=B7 b h;unfold bg;rw [hn.1];exact Wm b _ _ hn.2
def Wn (num:List UInt8->Int × Bool->Int × (Int × Bool)):Prop:=∀ b p q,(num b (p,q)).2.2=true->0<=p/\p < (num b (p,q)).2.1/\(num b (p,q)).2.1<=b.length
theorem aab:Wn bF:=by
 intro b p q h;unfold bF at h ⊢;split at h
 ·rename_i h1;rw [if_pos h1];simp only [wX] at h1;exact JU b p h1.1
 ·simp at h
theorem afE:Wn bI:=by
 intro b p q h;unfold bI at h ⊢;cases q with
 | true=>exact JU b p h
 | false=>simp at h
theorem JZ {num:List UInt8->Int × Bool->Int × (Int × Bool)} (hf:Wn num) (b:List UInt8):∀ (k:Nat) (p:Int) (q:Bool) (out:List Int),(nP num b k (p,q) out).1.length<=out.length+(if q then ((b.length:Int) - p).toNat+1 else 0)
 | 0,_,_,_=>by simp [nP]
 | k+1,p,q,out=>by
  cases q with
  | false=>simp [nP]
  | true=>
   simp only [nP,if_true];have ih:=JZ hf b k (num b (p,true)).2.1 (num b (p,true)).2.2 (out++[(num b (p,true)).1]);cases hq:(num b (p,true)).2.2 with
   | false=>
    rw [hq] at ih;simp only [aap,adB] at ih;have e:(num b (p,true)).2=((num b (p,true)).2.1,false):=Prod.ext rfl hq;rw [e];simp only [acq,if_false] at ih;omega
   | true=>
    have h:=hf b p true hq;rw [hq] at ih;simp only [aap,adB,if_true] at ih;have e:(num b (p,true)).2=((num b (p,true)).2.1,true):=Prod.ext rfl hq;rw [e];omega
theorem CW {num:List UInt8->Int × Bool->Int × (Int × Bool)} (hf:Wn num) (b:List UInt8) (c:Int × Bool):(bg num b c).1.length<=b.length+1:=by
 have h:=JZ hf b (num b c).1.toNat (num b c).2.1 (num b c).2.2 [];unfold bg;obtain ⟨p,q⟩:=c;cases hq:(num b (p,q)).2.2 with
 | false=>
  rw [hq] at h;have e:(num b (p,q)).2=((num b (p,q)).2.1,false):=Prod.ext rfl hq;rw [e];simp only [acq,if_false,aei] at h;omega
 | true=>
  have h1:=hf b p q hq;rw [hq] at h;have e:(num b (p,q)).2=((num b (p,q)).2.1,true):=Prod.ext rfl hq;rw [e];simp only [if_true,aei] at h;omega
def fU (x k:Int):Bool:=!(ad.eq (ad.ar .and .i64 x k) 0)
def mM (num:List UInt8->Int × Bool->Int × (Int × Bool)) (b:List UInt8):aB × Bool:=
 let r0:=bg num b (0,true)
 let r1:=bg num b r0.2
 let r2:=bg num b r1.2
 let r3:=bg num b r2.2
 let x:=num b r3.2
 let y:=num b x.2
 (⟨r0.1,[r1.1,r2.1,r3.1],fU x.1 1,fU x.1 2,fU x.1 4,y.1⟩,y.2.2)
def fH:aB:=⟨[],[],false,false,false,0⟩
def dR (b:List UInt8):aB × Bool:=if (mM bF b).2&&(decide (cy (mM bF b).1=b)&&!b.isEmpty) then ((mM bF b).1,true) else (fH,false)
theorem YB (b:List UInt8):mM bF b=mM bI b:=by
 have h0:=zk b (c:=(0,true)) (c':=(0,true)) ⟨rfl,fun _=>rfl⟩;have h1:=zk b h0.2;have h2:=zk b h1.2;have h3:=zk b h2.2;have h4:=B7 b h3.2;have h5:=B7 b h4.2;simp only [mM];rw [h0.1,h1.1,h2.1,h3.1,h4.1,h5.1,h5.2.1]
theorem DZ {num:List UInt8->Int × Bool->Int × (Int × Bool)} (hf:Wn num) (b:List UInt8) (hb:b.length<=1000000):bO (mM num b).1:=by
 refine ⟨?_,?_,?_⟩
 ·have:=CW hf b (0,true);simp only [mM];omega
 ·simp [mM]
 ·intro xs hx;simp only [mM,acK,List.not_mem_nil,or_false] at hx;rcases hx with rfl | rfl | rfl
  all_goals exact agf (CW hf b _) (by omega)
theorem Pc (x k:Int):(!(ad.eq (ad.ar .and .i64 x k) 0))=fU x k:=rfl
abbrev Gu (r:aB × Bool):Rz:=(.aG [.agg (bd none r.1),.bool r.2],[.undef])
theorem Le (b:List UInt8) (hb:b.length<=1000000):Cm 279 [.sl (some true) 1 b.length (bytes b)] (Gu (dR b)):=by
 have w3:∀ (c:Int × Bool) (av x1 x2 x3:List Int),mM bF b=(⟨av,[x1,x2,x3],fU (bF b c).1 1,fU (bF b c).1 2,fU (bF b c).1 4,(bF b (bF b c).2).1⟩,(bF b (bF b c).2).2.2)->WP 279 Tryz.f279 [.undef] 0 (gW b.length (bytes b) 3 false false false 0 b.length (bytes b) c.1 c.2 av.length (ints av) 3 (rows none [x1,x2,x3]) false false false 0) (Gu (dR b)):=by
  intro c av x1 x2 x3 hp;have cF:=DZ aab b hb;refine WP.fin fun J=>?_;rw [nR];unfold dR;rw [hp] at cF ⊢;have hv:=vC (g:=true) (m:=⟨av,[x1,x2,x3],fU (bF b c).1 1,fU (bF b c).1 2,fU (bF b c).1 4,(bF b (bF b c).2).1⟩) (hm:=cF);have lB:∀ t:bD Rz,aO 282 [.agg [.sl (some true) 1 av.length (ints av),.sl (some true) 1 3 (rows (some true) [x1,x2,x3]),.bool (fU (bF b c).1 1),.bool (fU (bF b c).1 2),.bool (fU (bF b c).1 4),.int .i64 (bF b (bF b c).2).1]] t=_:=hv;simp (disch:=first | omega | assumption) only [bu,gl,zg,bV,gR,aL,aq,eM,aN,bt,bG,Pc,hC,iM,DY,lB,dq,O8,O9]
  generalize (bF b (bF b c).2).2.2=q1;generalize cy _=l;cases q1 with
  | false=>rfl
  | true=>
   by_cases h1:l=b
   ·subst h1;cases l with
    | nil=>simp [br,ad,fH,rows,ints]
    | cons a l=>
     simp only [bU,aN,decide_true];rw [eh (by simp only [aF,adj]; omega)]
     simp [fH]
   ·simp [br,h1,fH,rows,ints]
 have w2:=WP.go (f:=279) (fn:=Tryz.f279) (sk:=[.undef]) (j:=0) (h:=gW b.length (bytes b) 2 false false false 0 b.length (bytes b) (bg bF b (bg bF b (bg bF b (0,true)).2).2).2.1 (bg bF b (bg bF b (bg bF b (0,true)).2).2).2.2 (bg bF b (0,true)).1.length (ints (bg bF b (0,true)).1) 2 (rows none [(bg bF b (bg bF b (0,true)).2).1,(bg bF b (bg bF b (bg bF b (0,true)).2).2).1]) false false false 0) _ (w3 (bg bF b (bg bF b (bg bF b (bg bF b (0,true)).2).2).2).2 (bg bF b (0,true)).1 (bg bF b (bg bF b (0,true)).2).1 (bg bF b (bg bF b (bg bF b (0,true)).2).2).1 (bg bF b (bg bF b (bg bF b (bg bF b (0,true)).2).2).2).1 rfl) fun J hJ=>by
  rw [nR];simp (disch:=first | omega | assumption) only [aZ,gl,jD,sx,dq,bV,gR,aL,aq,eM,jt,aN,bt,fv]
  exact hJ
 have w1:=WP.go (f:=279) (fn:=Tryz.f279) (sk:=[.undef]) (j:=0) (h:=gW b.length (bytes b) 1 false false false 0 b.length (bytes b) (bg bF b (bg bF b (0,true)).2).2.1 (bg bF b (bg bF b (0,true)).2).2.2 (bg bF b (0,true)).1.length (ints (bg bF b (0,true)).1) 1 (rows none [(bg bF b (bg bF b (0,true)).2).1]) false false false 0) _ w2 fun J hJ=>by
  rw [nR];simp (disch:=first | omega | assumption) only [aZ,gl,jD,sx,dq,bV,gR,aL,aq,eM,jt,aN,bt,fv]
  exact hJ
 have w0:=WP.go (f:=279) (fn:=Tryz.f279) (sk:=[.undef]) (j:=0) (h:=qZ b.length (bytes b) 0 false false false 0 b.length (bytes b) (bg bF b (0,true)).2.1 (bg bF b (0,true)).2.2 (bg bF b (0,true)).1.length (ints (bg bF b (0,true)).1) false false false 0) _ w1 fun J hJ=>by
  rw [DU];simp (disch:=first | omega | assumption) only [aZ,gl,jD,sx,dq,bV,gR,aL,aq,eM,jt,aN,bt,fv]
  exact hJ
 refine Cm.go K9 [.undef] 0 _ w0 fun J hJ=>?_;rw [Lb];simp (disch:=first | omega | assumption) only [gl,jD,sx,dq,bV,gR,aL,aq,eM,jt,aN,bt]
 exact hJ
theorem Lf (b:List UInt8) (hb:b.length<=1000000):Cm 312 [.sl (some true) 1 b.length (bytes b)] (Gu (dR b)):=by
 have w3:∀ (c:Int × Bool) (av x1 x2 x3:List Int),mM bI b=(⟨av,[x1,x2,x3],fU (bI b c).1 1,fU (bI b c).1 2,fU (bI b c).1 4,(bI b (bI b c).2).1⟩,(bI b (bI b c).2).2.2)->WP 312 Tryz.f312 [.undef] 0 (gX b.length (bytes b) 3 false false false 0 b.length (bytes b) c.1 c.2 av.length (ints av) 3 (rows none [x1,x2,x3]) false false false 0) (Gu (dR b)):=by
  intro c av x1 x2 x3 hp;have cF:=DZ afE b hb;refine WP.fin fun J=>?_;rw [nT];unfold dR;rw [YB,hp];rw [hp] at cF;have hv:=vD (g:=true) (m:=⟨av,[x1,x2,x3],fU (bI b c).1 1,fU (bI b c).1 2,fU (bI b c).1 4,(bI b (bI b c).2).1⟩) (hm:=cF);have lB:∀ t:bD Rz,aO 316 [.agg [.sl (some true) 1 av.length (ints av),.sl (some true) 1 3 (rows (some true) [x1,x2,x3]),.bool (fU (bI b c).1 1),.bool (fU (bI b c).1 2),.bool (fU (bI b c).1 4),.int .i64 (bI b (bI b c).2).1]] t=_:=hv;simp (disch:=first | omega | assumption) only [bu,gl,zh,bV,gR,aL,aq,eM,aN,bt,bG,Pc,hC,iM,iC,lB,dq,Bd]
  generalize (bI b (bI b c).2).2.2=q1;generalize cy _=l;cases q1 with
  | false=>rfl
  | true=>
   by_cases h1:l=b
   ·subst h1;cases l with
    | nil=>simp [br,ad,fH,rows,ints]
    | cons a l=>
     simp only [bU,aN,decide_true];rw [eh (by simp only [aF,adj]; omega)]
     simp [fH]
   ·cases ad.eq (ad.ba l.length) 0<;>simp [br,h1,fH,rows,ints]
 have w2:=WP.go (f:=312) (fn:=Tryz.f312) (sk:=[.undef]) (j:=0) (h:=gX b.length (bytes b) 2 false false false 0 b.length (bytes b) (bg bI b (bg bI b (bg bI b (0,true)).2).2).2.1 (bg bI b (bg bI b (bg bI b (0,true)).2).2).2.2 (bg bI b (0,true)).1.length (ints (bg bI b (0,true)).1) 2 (rows none [(bg bI b (bg bI b (0,true)).2).1,(bg bI b (bg bI b (bg bI b (0,true)).2).2).1]) false false false 0) _ (w3 (bg bI b (bg bI b (bg bI b (bg bI b (0,true)).2).2).2).2 (bg bI b (0,true)).1 (bg bI b (bg bI b (0,true)).2).1 (bg bI b (bg bI b (bg bI b (0,true)).2).2).1 (bg bI b (bg bI b (bg bI b (bg bI b (0,true)).2).2).2).1 rfl) fun J hJ=>by
  rw [nT];simp (disch:=first | omega | assumption) only [aZ,gl,jD,sy,dq,bV,gR,aL,aq,eM,jt,aN,bt,fv]
  exact hJ
 have w1:=WP.go (f:=312) (fn:=Tryz.f312) (sk:=[.undef]) (j:=0) (h:=gX b.length (bytes b) 1 false false false 0 b.length (bytes b) (bg bI b (bg bI b (0,true)).2).2.1 (bg bI b (bg bI b (0,true)).2).2.2 (bg bI b (0,true)).1.length (ints (bg bI b (0,true)).1) 1 (rows none [(bg bI b (bg bI b (0,true)).2).1]) false false false 0) _ w2 fun J hJ=>by
  rw [nT];simp (disch:=first | omega | assumption) only [aZ,gl,jD,sy,dq,bV,gR,aL,aq,eM,jt,aN,bt,fv]
  exact hJ
 have w0:=WP.go (f:=312) (fn:=Tryz.f312) (sk:=[.undef]) (j:=0) (h:=q8 b.length (bytes b) 0 false false false 0 b.length (bytes b) (bg bI b (0,true)).2.1 (bg bI b (0,true)).2.2 (bg bI b (0,true)).1.length (ints (bg bI b (0,true)).1) false false false 0) _ w1 fun J hJ=>by
  rw [DX];simp (disch:=first | omega | assumption) only [aZ,gl,jD,sy,dq,bV,gR,aL,aq,eM,jt,aN,bt,fv]
  exact hJ
 refine Cm.go Lc [.undef] 0 _ w0 fun J hJ=>?_;rw [Ld];simp (disch:=first | omega | assumption) only [gl,jD,sy,dq,bV,gR,aL,aq,eM,jt,aN,bt]
 exact hJ
theorem Be (b:List UInt8) (hb:b.length<=1000000):bO (dR b).1:=by
 unfold dR;split
 ·exact DZ aab b hb
 ·exact ⟨by simp [fH],by simp [fH],by simp [fH]⟩
set_option maxRecDepth 100000
theorem WP.step {f:FuncId} {fn:Func} {sk:List D} {j:Nat} {h:St} {r:Rz} (ht:∀ J:Nat->St->Option Rz,(∀ j' h',WP f fn sk j' h' r->J j' h'=some r)->cg ad aO J f fn sk j h=some r):WP f fn sk j h r:=W.step vj ht
theorem Cm.step {f:FuncId} {fn:Func} {r:Rz} (ok:Told cfg Tryz.prog f fn) (sk:List D) {args:List D} (ht:∀ J:Nat->St->Option Rz,(∀ j' h',WP f fn sk j' h' r->J j' h'=some r)->aU ad aO J f fn args=some r) (Nl:args.map qP=sk:=by rfl):Cm f args r:=by subst Nl; exact Comes.step vj ok ht
section
variable {R:Type} {x y:R}
def tick (n:Nat):Nat:=n+1
@[go_sem] theorem akV:tick 0=1:=by unfold tick; omega
@[congr] theorem ahR {c c':Bool} {z:Nat} (h:c=c') (_:tick 0=z):br c x y=br c' x y:=by rw [h]
@[congr] theorem ahS {g:FuncId} {ds ds':List D} {t:bD Rz} {z:Nat} (h:ds=ds') (_:tick 0=z):aO g ds t=aO g ds' t:=by rw [h]
@[congr] theorem afF {t:bD R} {l l':List D} {z:Nat} (h:l=l') (_:tick 0=z):feed t l=feed t l':=by rw [h]
attribute [go_sem ↓] aN bf
@[go_sem ↓] theorem akW (a b c:Bool) (x y:R):br (br a b c) x y=br a (br b x y) (br c x y):=by cases a<;>rfl
@[go_sem ↓] theorem alI (b:Bool) (x y:R):br (!b) x y=br b y x:=by cases b<;>rfl
@[go_sem] theorem ahT {p:Prop} [Decidable p] (h:p):br (decide p) x y=x:=by rw [decide_eq_true h]; rfl
@[go_sem] theorem ahU {p:Prop} [Decidable p] (h:¬p):br (decide p) x y=y:=by rw [decide_eq_false h]; rfl
theorem RA {b:Bool} {r:R} (h1:b=true->x=r) (h2:b=false->y=r):br b x y=r:=by cases b with | true=>exact h1 rfl | false=>exact h2 rfl
theorem dn {p:Prop} [Decidable p] {r:R} (h1:p->x=r) (h2:¬p->y=r):br (decide p) x y=r:=by
 by_cases h:p
 ·rw [ahT h]; exact h1 h
 ·rw [ahU h]; exact h2 h
theorem jE {b:Bool} {r:R} (h1:b=true->x=r) (h2:¬b=true->y=r):br b x y=r:=by cases b with | true=>exact h1 rfl | false=>exact h2 (by simp)
end
theorem WP.up {f:FuncId} {fn:Func} {sk:List D} {j:Nat} {r:Rz} {H:Nat->St} (n:Nat) (inv:Nat->Prop) (hs:∀ i,i<=n->inv i->∀ J:Nat->St->Option Rz,(∀ j' h',WP f fn sk j' h' r->J j' h'=some r)->(i < n->inv (i+1)->J j (H (i+1))=some r)->cg ad aO J f fn sk j (H i)=some r):∀ i,i<=n->inv i->WP f fn sk j (H i) r:=by
 have key:∀ k i,i+k=n->inv i->WP f fn sk j (H i) r:=by
  intro k
  induction k with
  | zero=>intro i hi hv; exact WP.step fun J hJ=>hs i (by omega) hv J hJ (fun h=>absurd h (by omega))
  | succ k ih=>intro i hi hv; exact WP.step fun J hJ=>hs i (by omega) hv J hJ (fun _ h=>hJ _ _ (ih (i+1) (by omega) h))
 exact fun i hi hv=>key (n - i) i (by omega) hv
section
variable {R:Type}
@[go_sem ↓] theorem akX (x:Option R) (l:List D):feed (.done x) l=x:=rfl
@[go_sem ↓] theorem alJ (f:Int->bD R) (k:IntKind) (n:Int) (l:List D):feed (.int f) (.int k n::l)=feed (f n) l:=rfl
@[go_sem ↓] theorem akY (f:Bool->bD R) (b:Bool) (l:List D):feed (.bool f) (.bool b::l)=feed (f b) l:=rfl
@[go_sem ↓] theorem alK (f:ByteArray->bD R) (s:ByteArray) (l:List D):feed (.str f) (.str s::l)=feed (f s) l:=rfl
@[go_sem ↓] theorem amw (f:Nat->List D->bD R) (s n:Nat) (cs l:List D):feed (.sl f) (.sl none s n cs::l)=feed (f n cs) l:=rfl
@[go_sem ↓] theorem alL (f:Bool->Nat->List D->bD R) (g:Bool) (s n:Nat) (cs l:List D):feed (.cX f) (.sl (some g) s n cs::l)=feed (f g n cs) l:=rfl
end
@[go_sem ↓] theorem amx (k:cJ) (f:k.T->bD Rz) (x:k.T) (l:List D):feed (.ty k f) (enc k x::l)=feed (f x) l:=Hl k f x l
attribute [go_sem] enc
@[go_sem ↓] theorem amy (ys:List D) (t:bD Rz):aO 999999 [.sl none 0 0 ys] t=feed t [.sl none 0 0 ys]:=xF ys t
@[go_sem] theorem aB.eta (m:aB):(⟨m.av,m.bits,m.cf,m.bB,m.held,m.last⟩:aB)=m:=rfl
@[go_sem] theorem aD.eta (s:aD):(⟨s.a,s.b⟩:aD)=s:=rfl
@[go_sem] theorem U.eta (n:U):(⟨n.id,n.up,n.bS,n.image,n.mt,n.aA,n.conn,n.sync,n.aH,n.wait⟩:U)=n:=rfl
@[go_sem] theorem vf.eta (n:vf):(⟨n.kind,n.cell,n.val,n.who,n.av⟩:vf)=n:=rfl
@[go_sem] theorem qL.eta (n:qL):(⟨n.kind,n.a,n.b⟩:qL)=n:=rfl
@[go_sem] theorem gO.eta (n:gO):(⟨n.nodes,n.wm,n.log,n.safe,n.gen⟩:gO)=n:=rfl
@[go_sem] theorem amz:Int.toNat 2=2:=rfl
@[go_sem] theorem amA:Int.toNat 3=3:=rfl
@[go_sem] theorem amB:Int.toNat 4=4:=rfl
@[go_sem] theorem amC:Int.toNat 5=5:=rfl
@[go_sem] theorem amD:Int.toNat 6=6:=rfl
@[go_sem] theorem amE:Int.toNat 7=7:=rfl
@[go_sem] theorem amF:Int.toNat 8=8:=rfl
@[go_sem] theorem amG:Int.toNat 9=9:=rfl
@[go_sem] theorem alM:Int.toNat 10=10:=rfl
@[go_sem] theorem alN:Int.toNat 11=11:=rfl
@[go_sem] theorem afG:Int.toNat 12=12:=rfl
@[go_sem] theorem alP:Int.toNat 13=13:=rfl
@[go_sem] theorem alQ:Int.toNat 14=14:=rfl
@[go_sem] theorem alR:Int.toNat 15=15:=rfl
@[go_sem] theorem alS:Int.toNat 16=16:=rfl
@[go_sem] theorem alT:Int.toNat 17=17:=rfl
attribute [go_sem] decide_true decide_false SX y8 aF aef Int.toNat_natCast Int.toNat_zero Int.toNat_one if_true
@[go_sem] theorem amH (a b:Int):ad.eq a b=decide (a=b):=by
 show (a==b)=_;rfl
@[go_sem] theorem alU (a b:Bool):ad.beq a b=decide (a=b):=by cases a<;>cases b<;>rfl
@[go_sem] theorem alV (i:Int) (n:Nat):ad.bR i n=decide (0<=i/\i < (n:Int)):=by simp [ad]
@[go_sem] theorem alW (l h:Int) (n:Nat):ad.rj l h n=decide (0<=l/\l<=h/\h<=(n:Int)):=by simp [ad,Bool.and_assoc]
@[go_sem] theorem akZ (n b:Nat):ad.fits n b=decide (n*b<=140737488355328):=rfl
@[go_sem] theorem ak0 (l c:Int) (b:Nat):ad.u7 l c b=decide (0<=l/\l<=c/\c*(b:Int)<=140737488355328):=by simp [ad,Bool.and_assoc]
@[go_sem] theorem alX (a b:Nat):ad.neq a b=decide (a=b):=rfl
@[go_sem] theorem alY (i:Int):ad.gF i=i.toNat:=rfl
@[go_sem] theorem ak1 (a b:Int):ad.hI a b=a.toNat - b.toNat:=rfl
@[go_sem] theorem ak2 (a:Nat) (i:Int):ad.idx a i 1=a+i.toNat:=by show (a+i.toNat)*1=_; omega
@[go_sem] theorem ak3 (n:Nat):Nat.mul n 1=n:=Nat.mul_one n
@[go_sem] theorem ak4 (n:Nat):Nat.mul 0 n=0:=Nat.zero_mul n
@[go_sem] theorem alZ (a b:Bool):br a b false=(a&&b):=by cases a<;>rfl
@[go_sem] theorem amI (a b:Bool):br a true b=(a||b):=by cases a<;>rfl
@[go_sem] theorem al0 (xs:List Int) (i:Nat):ad.da .i64 (ints xs) i=decide (i < xs.length):=by
 by_cases h:i < xs.length
 ·simp [ad,ints,h,fe]
 ·simp [ad,ints,ac3 (agm.1 h),h]
@[go_sem] theorem ak5 (xs:List Int) (i:Nat):ad.cd (ints xs) i=xs.getD i 0:=by
 by_cases h:i < xs.length
 ·simp [ad,ints,h,u9]
 ·simp [ad,ints,ac3 (agm.1 h),u9]
@[go_sem] theorem ak6 (xs:List UInt8) (i:Nat):ad.da .u8 (bytes xs) i=decide (i < xs.length):=by
 by_cases h:i < xs.length
 ·simp [ad,bytes,dz,h,fe]
 ·simp [ad,bytes,ac3 (agm.1 h),h]
@[go_sem] theorem ai2 (xs:List UInt8) (i:Nat):ad.cd (bytes xs) i=((xs.getD i 0).toNat:Int):=by
 by_cases h:i < xs.length
 ·simp [ad,bytes,dz,h,u9]
 ·simp [ad,bytes,ac3 (agm.1 h),u9]
@[go_sem] theorem al1 (xs:List Bool) (i:Nat):ad.eH (aE xs) i=decide (i < xs.length):=by
 by_cases h:i < xs.length
 ·simp [ad,aE,h]
 ·simp [ad,aE,ac3 (agm.1 h),h]
@[go_sem] theorem ak7 (xs:List Bool) (i:Nat):ad.df (aE xs) i=xs.getD i false:=by
 by_cases h:i < xs.length
 ·simp [ad,aE,h,BP]
 ·simp [ad,aE,ac3 (agm.1 h),BP]
@[go_sem] theorem al2 (g:Bool) (xs:List (List Int)) (i:Nat):ad.cZ 1 (rows (some g) xs) i=decide (i < xs.length):=by
 by_cases h:i < xs.length
 ·simp [ad,rows,h]
 ·simp [ad,rows,ac3 (agm.1 h),h]
@[go_sem] theorem ak8 {g:Bool} {xs:List (List Int)} {i:Nat} (h:i < xs.length):ad.cD (rows (some g) xs) i=g:=iI h
@[go_sem] theorem ak9 (xs:List (List Int)) (i:Nat):ad.jL 1 (rows none xs) i=decide (i < xs.length):=by
 by_cases h:i < xs.length
 ·simp [ad,rows,h]
 ·simp [ad,rows,ac3 (agm.1 h),h]
@[go_sem] theorem al3 (xs:List (List Int)) (i:Nat):ad.UZ (rows none xs) i=decide (i < xs.length):=by
 by_cases h:i < xs.length
 ·simp [ad,rows,h]
 ·simp [ad,rows,ac3 (agm.1 h),h]
@[go_sem] theorem ala (g:Option Bool) (xs:List (List Int)) (i:Nat):ad.bM (rows g xs) i=(xs.getD i []).length:=by
 by_cases h:i < xs.length
 ·simp [ad,rows,h,cN]
 ·simp [ad,rows,ac3 (agm.1 h),cN]
@[go_sem] theorem alb (g:Option Bool) (xs:List (List Int)) (i:Nat):ad.bP (rows g xs) i=ints (xs.getD i []):=by
 by_cases h:i < xs.length
 ·simp [ad,rows,h,cC]
 ·simp [ad,rows,ac3 (agm.1 h),cC,ints]
@[go_sem] theorem ai3 (xs:List Int) (i:Nat):ad.slot (ints xs) i=decide (i < xs.length):=by
 by_cases h:i < xs.length
 ·simp [ad,ints,h,gr]
 ·simp [ad,ints,ac3 (agm.1 h),h]
@[go_sem] theorem ai4 (xs:List UInt8) (i:Nat):ad.slot (bytes xs) i=decide (i < xs.length):=by
 by_cases h:i < xs.length
 ·simp [ad,bytes,dz,h,gr]
 ·simp [ad,bytes,ac3 (agm.1 h),h]
@[go_sem] theorem ai5 (xs:List Bool) (i:Nat):ad.slot (aE xs) i=decide (i < xs.length):=by
 by_cases h:i < xs.length
 ·simp [ad,aE,h,gr]
 ·simp [ad,aE,ac3 (agm.1 h),h]
@[go_sem] theorem al4 (xs:List (List Int)):ad.nl (rows none xs)=true:=Z2 (by simp) xs
attribute [go_sem] jt eM B3 ints_set AW AX tn gy iC kJ hC iM jD gl sd O8
@[go_sem] theorem alc (xs:List (List Int)) (i n:Nat) (l:List Int) (h:n=l.length):List.set (rows none xs) i (.sl none 1 n (ints l))=rows none (xs.set i l):=by subst h; exact DJ
@[go_sem] theorem ai6 (xs:List Int):ad.flat (ints xs)=true:=ab9.2 (by intro d hd; obtain ⟨a,_,rfl⟩:=acv.1 hd; rfl)
@[go_sem] theorem ai7 (xs:List UInt8):ad.flat (bytes xs)=true:=ab9.2 (by intro d hd; obtain ⟨a,_,rfl⟩:=acv.1 hd; rfl)
@[go_sem] theorem ai8 (xs:List Bool):ad.flat (aE xs)=true:=ab9.2 (by intro d hd; obtain ⟨a,_,rfl⟩:=acv.1 hd; rfl)
@[go_sem] theorem ald (xs:List UInt8):ad.rY (bytes xs)=true:=by
 have:=DY (x:=true) (y:=false) xs
 rwa [bt] at this
@[go_sem] theorem al5 (xs ys:List UInt8):ad.seq (bs xs) (bs ys)=decide (xs=ys):=O9 xs ys
@[go_sem] theorem aeC (xs:List Int) (i:Nat):List.drop i (ints xs)=ints (xs.drop i):=by simp [ints,ag5]
@[go_sem] theorem afH (xs ys:List Int):List.append (ints xs) (ints ys)=ints (xs++ys):=by simp [ints]
@[go_sem] theorem ai9 (xs:List Int) (x:Int):List.append (ints xs) [D.int .i64 x]=ints (xs++[x]):=by simp [ints]
@[go_sem] theorem ahV (xs:List UInt8) (x:UInt8):List.append (bytes xs) [dz x]=bytes (xs++[x]):=by simp [bytes]
@[go_sem] theorem ag1 (xs:List UInt8):List.append (bytes xs) [D.int .u8 0]=bytes (xs++[0]):=by simp [bytes,dz]
@[go_sem] theorem ahW (x:Int):List.append [] [D.int .i64 x]=ints [x]:=rfl
@[go_sem] theorem ag2 (x:UInt8):List.append [] [dz x]=bytes [x]:=rfl
@[go_sem] theorem aja (x:UInt8):ad.flat [dz x]=true:=rfl
@[go_sem] theorem ajb (k:IntKind) (x:Int):ad.flat [D.int k x]=true:=rfl
@[go_sem] theorem al6:ad.nl []=true:=rfl
@[go_sem] theorem ajc (n:Nat):fu n [.int .u8 0]=bytes (List.replicate n 0):=Vy n
@[go_sem] theorem ajd (n:Nat):fu n [.int .i64 0]=ints (List.replicate n 0):=Vx n
@[go_sem] theorem aje (n:Nat):fu n [.bool false]=aE (List.replicate n false):=Vz n
@[go_sem] theorem ajf (n:Nat):fu n [.nil 1]=rows none (List.replicate n []):=VH n
@[go_sem] theorem ajg (xs:List UInt8) (i:Nat):List.drop i (bytes xs)=bytes (xs.drop i):=by simp [bytes,ag5]
@[go_sem] theorem ajh (xs:List UInt8) (i:Nat):List.take i (bytes xs)=bytes (xs.take i):=by simp [bytes,ag6]
@[go_sem] theorem e_I (x:List Int):eb true (sI none x)=sI (some true) x:=by simp [eb,hC]
@[go_sem] theorem e_B (x:List UInt8):eb true (s8 none x)=s8 (some true) x:=by simp [eb,iC]
@[go_sem] theorem e_L (x:List Bool):eb true (sB none x)=sB (some true) x:=by simp [eb,kJ]
@[go_sem] theorem e_R (x:List (List Int)):eb true (sR none x)=sR (some true) x:=by simp [eb,iM]
@[go_sem] theorem ale (x:aB):bz true (bd none x)=bd (some true) x:=by simp [eb,bz,hC,iM]
@[go_sem] theorem aji (x:aD):bz true (bL none x)=bL (some true) x:=by simp [eb,bz,iC]
@[go_sem] theorem alf (x:U):bz true (ab none x)=ab (some true) x:=by simp [eb,bz,hC,iM,iC,kJ]
@[go_sem] theorem al7 {a b:Int} (h:-9223372036854775808<=a - b) (h':a - b < 9223372036854775808):ad.ar .sub .i64 a b=a - b:=iA h h'
@[go_sem] theorem aac {a b:Int} (h:-9223372036854775808<=a+b) (h':a+b < 9223372036854775808):ad.ar .add .i64 a b=a+b:=za h h'
@[go_sem] theorem ajj (x:UInt8):ad.wrap .i64 (x.toNat:Int)=x.toNat:=wrap64 (by omega) (by have:=x.toNat_lt; omega)set_option maxRecDepth 100000
set_option profiler true
set_option profiler.threshold 1000
section
variable (pr:ej) (cv:Cv Rz) (J:Nat->St->Option Rz)
theorem D0:Told cfg Tryz.prog 285 Tryz.f285:=⟨by kernel_rfl,Tryz.func285,by kernel_rfl⟩
theorem D1 (x0:aB) (x1:Int):aU pr cv J 285 Tryz.f285 [(.agg (bd (some true) x0)),(.int .i64 x1)]=
 (cv 316 [(.agg (bd (some true) x0))] (.sl (fun dU=>(fun dg=>(.done (br (br (br (pr.nl dg) true false) true false) (cv 317 [(.int .i64 x1)] (.ty cJ.B (fun (j6:List UInt8)=>(.done (br (br (pr.flat [(.int .u8 (pr.wrap .u8 (pr.ba dU)))]) (pr.fits (j6.length+1) 1) false) (br (br (pr.flat dg) (pr.fits ((j6.length+1)+dU) 1) false) (br (br (pr.le 0 (pr.ar .sub .i64 156 (pr.ba ((j6.length+1)+dU)))) (pr.fits (((j6.length+1)+dU)+(pr.gF (pr.ar .sub .i64 156 (pr.ba ((j6.length+1)+dU))))) 1) false) (cv 317 [(.int .i64 x1)] (.ty cJ.B (fun (lZ:List UInt8)=>(.done (br (br (pr.flat (bytes lZ)) (pr.fits ((((j6.length+1)+dU)+(pr.gF (pr.ar .sub .i64 156 (pr.ba ((j6.length+1)+dU)))))+lZ.length) 1) false) (some ((.sl none 1 ((((j6.length+1)+dU)+(pr.gF (pr.ar .sub .i64 156 (pr.ba ((j6.length+1)+dU)))))+lZ.length) (List.append (List.append (List.append (List.append (bytes j6) [(.int .u8 (pr.wrap .u8 (pr.ba dU)))]) dg) (fu (pr.gF (pr.ar .sub .i64 156 (pr.ba ((j6.length+1)+dU)))) [(.int .u8 0)])) (bytes lZ))),[.undef,.undef])) none))))) none) none) none))))) none)))))):=by kernel_rfl
def nh (x1:Int) (n0:Nat) (c1:List D):St:=(St.mk [(1,(.int .i64 x1)),(6,(.ref 10006 [] 0 none))] [(10006,[(.sl none 1 n0 c1)])] [] 0)
theorem Lg:Told cfg Tryz.prog 243 Tryz.f243:=⟨by kernel_rfl,Tryz.func243,by kernel_rfl⟩
theorem Lh (x0:aB) (x1:Int):aU pr cv J 243 Tryz.f243 [(.agg (bd (some true) x0)),(.int .i64 x1)]=
 (cv 282 [(.agg (bd (some true) x0))] (.sl (fun dU=>(fun dg=>(.done (br (br (br (pr.nl dg) true false) true false) (cv 283 [(.int .i64 x1)] (.ty cJ.B (fun (j6:List UInt8)=>(.done (br (br (pr.flat [(.int .u8 (pr.wrap .u8 (pr.ba dU)))]) (pr.fits (j6.length+1) 1) false) (br (br (pr.flat dg) (pr.fits ((j6.length+1)+dU) 1) false) (J 0 (nh x1 ((j6.length+1)+dU) (List.append (List.append (bytes j6) [(.int .u8 (pr.wrap .u8 (pr.ba dU)))]) dg))) none) none))))) none)))))):=by kernel_rfl
theorem vG (x1:Int) (n0:Nat) (c1:List D):cg pr cv J 243 Tryz.f243 [.undef,.undef] 0 (nh x1 n0 c1)=
 (br (pr.lt (pr.ba n0) 156) (br (br (pr.flat [(.int .u8 0)]) (pr.fits (n0+1) 1) false) (J 0 (nh x1 (n0+1) (List.append c1 [(.int .u8 0)]))) none) (cv 283 [(.int .i64 x1)] (.ty cJ.B (fun (au:List UInt8)=>(.done (br (br (pr.flat (bytes au)) (pr.fits (n0+au.length) 1) false) (some ((.sl none 1 (n0+au.length) (List.append c1 (bytes au))),[.undef,.undef])) none)))))):=by kernel_rfl
theorem Li:Told cfg Tryz.prog 281 Tryz.f281:=⟨by kernel_rfl,Tryz.func281,by kernel_rfl⟩
theorem Lj (x0:List UInt8):aU pr cv J 281 Tryz.f281 [(s8 (some true) x0)]=
 let y1:Option (D × List D):=(some ((.aG [(.agg [(.sl none 1 0 []),(.sl none 1 0 []),(.bool false),(.bool false),(.bool false),(.int .i64 0)]),(.int .i64 0),(.bool false)]),[.undef]))
 let y2:D:=(.int .i64 (pr.ar .or .i64 (pr.ar .or .i64 (pr.ar .or .i64 (pr.wrap .i64 (pr.cd (bytes x0) (pr.idx 0 0 1))) (pr.ar .shl .i64 (pr.wrap .i64 (pr.cd (bytes x0) (pr.idx 0 1 1))) 8)) (pr.ar .shl .i64 (pr.wrap .i64 (pr.cd (bytes x0) (pr.idx 0 2 1))) 16)) (pr.ar .shl .i64 (pr.wrap .i64 (pr.cd (bytes x0) (pr.idx 0 3 1))) 24)))
 let y3:Int:=(pr.ar .add .i64 5 (pr.wrap .i64 (pr.cd (bytes x0) (pr.idx 0 4 1))))
 let y4:Nat:=(pr.hI y3 5)
 (br (br (pr.eq (pr.ba x0.length) 160) false true) y1 (br (pr.bR 0 x0.length) (br (br (pr.da .u8 (bytes x0) (pr.idx 0 0 1)) true false) (br (pr.bR 1 x0.length) (br (br (pr.da .u8 (bytes x0) (pr.idx 0 1 1)) true false) (br (br (pr.lt 8 0) false true) (br (pr.bR 2 x0.length) (br (br (pr.da .u8 (bytes x0) (pr.idx 0 2 1)) true false) (br (br (pr.lt 16 0) false true) (br (pr.bR 3 x0.length) (br (br (pr.da .u8 (bytes x0) (pr.idx 0 3 1)) true false) (br (br (pr.lt 24 0) false true) (br (pr.bR 4 x0.length) (br (br (pr.da .u8 (bytes x0) (pr.idx 0 4 1)) true false) (cv 105 [y2,(.int .i64 1),(.int .i64 1000000)] (.bool (fun ct=>(.done (br (br ct false true) y1 (br (pr.lt 151 (pr.wrap .i64 (pr.cd (bytes x0) (pr.idx 0 4 1)))) y1 (br (pr.rj 5 y3 x0.length) (cv 312 [(.sl (some true) 1 y4 (List.take (Nat.mul y4 1) (List.drop (Nat.mul (pr.gF 5) 1) (bytes x0))))] (.ty cJ.mt (fun (ef:aB)=>(.bool (fun iy=>(.done (br (br iy false true) y1 (cv 285 [(.agg (bz true (bd none ef))),y2] (.ty cJ.B (fun (lZ:List UInt8)=>(.done (cv 313 [(eb true (s8 none lZ)),(s8 (some true) x0)] (.bool (fun AZ=>(.done (br (br AZ false true) y1 (some ((.aG [(.agg (bd none ef)),y2,(.bool true)]),[.undef])))))))))))))))))) none))))))) none) none) none) none) none) none) none) none) none) none) none) none) none)):=by kernel_rfl
theorem Ll:Told cfg Tryz.prog 235 Tryz.f235:=⟨by kernel_rfl,Tryz.func235,by kernel_rfl⟩
theorem Lm (x0:List UInt8):aU pr cv J 235 Tryz.f235 [(s8 (some true) x0)]=
 let y1:Option (D × List D):=(some ((.aG [(.agg [(.sl none 1 0 []),(.sl none 1 0 []),(.bool false),(.bool false),(.bool false),(.int .i64 0)]),(.int .i64 0),(.bool false)]),[.undef]))
 let y2:D:=(.int .i64 (pr.ar .add .i64 (pr.ar .add .i64 (pr.ar .add .i64 (pr.wrap .i64 (pr.cd (bytes x0) (pr.idx 0 0 1))) (pr.ar .shl .i64 (pr.wrap .i64 (pr.cd (bytes x0) (pr.idx 0 1 1))) 8)) (pr.ar .shl .i64 (pr.wrap .i64 (pr.cd (bytes x0) (pr.idx 0 2 1))) 16)) (pr.ar .shl .i64 (pr.wrap .i64 (pr.cd (bytes x0) (pr.idx 0 3 1))) 24)))
 let y3:Int:=(pr.ar .add .i64 5 (pr.wrap .i64 (pr.cd (bytes x0) (pr.idx 0 4 1))))
 let y4:Nat:=(pr.hI y3 5)
 (br (br (pr.eq (pr.ba x0.length) 160) false true) y1 (br (pr.bR 0 x0.length) (br (br (pr.da .u8 (bytes x0) (pr.idx 0 0 1)) true false) (br (pr.bR 1 x0.length) (br (br (pr.da .u8 (bytes x0) (pr.idx 0 1 1)) true false) (br (br (pr.lt 8 0) false true) (br (pr.bR 2 x0.length) (br (br (pr.da .u8 (bytes x0) (pr.idx 0 2 1)) true false) (br (br (pr.lt 16 0) false true) (br (pr.bR 3 x0.length) (br (br (pr.da .u8 (bytes x0) (pr.idx 0 3 1)) true false) (br (br (pr.lt 24 0) false true) (br (pr.bR 4 x0.length) (br (br (pr.da .u8 (bytes x0) (pr.idx 0 4 1)) true false) (cv 87 [y2,(.int .i64 1),(.int .i64 1000000)] (.bool (fun ct=>(.done (br (br ct false true) y1 (br (pr.lt 151 (pr.wrap .i64 (pr.cd (bytes x0) (pr.idx 0 4 1)))) y1 (br (pr.rj 5 y3 x0.length) (cv 279 [(.sl (some true) 1 y4 (List.take (Nat.mul y4 1) (List.drop (Nat.mul (pr.gF 5) 1) (bytes x0))))] (.ty cJ.mt (fun (ef:aB)=>(.bool (fun iy=>(.done (br (br iy false true) y1 (br (pr.rY (bytes x0)) (cv 243 [(.agg (bz true (bd none ef))),y2] (.ty cJ.B (fun (lZ:List UInt8)=>(.done (br (pr.rY (bytes lZ)) (br (br (pr.seq (pr.AD (bytes lZ)) (pr.AD (bytes x0))) false true) y1 (some ((.aG [(.agg (bd none ef)),y2,(.bool true)]),[.undef]))) none))))) none)))))))) none))))))) none) none) none) none) none) none) none) none) none) none) none) none) none)):=by kernel_rfl
theorem Ln:Told cfg Tryz.prog 240 Tryz.f240:=⟨by kernel_rfl,Tryz.func240,by kernel_rfl⟩
theorem Lo (x0:aD):aU pr cv J 240 Tryz.f240 [(.agg (bL (some true) x0))]=
 (cv 281 [(s8 (some true) x0.a)] (.ty cJ.mt (fun (au:aB)=>(.int (fun fk=>(.bool (fun iy=>(.done (cv 281 [(s8 (some true) x0.b)] (.ty cJ.mt (fun (lZ:aB)=>(.int (fun nL=>(.bool (fun vm=>(.done (br vm (br (br iy false true) (some ((.aG [(.agg (bd none lZ)),(.int .i64 nL),(.bool false)]),[.undef])) (br (pr.lt fk nL) (some ((.aG [(.agg (bd none lZ)),(.int .i64 nL),(.bool false)]),[.undef])) (some ((.aG [(.agg (bd none au)),(.int .i64 fk),(.bool iy)]),[.undef])))) (some ((.aG [(.agg (bd none au)),(.int .i64 fk),(.bool iy)]),[.undef]))))))))))))))))))):=by kernel_rfl
theorem Ip:Told cfg Tryz.prog 234 Tryz.f234:=⟨by kernel_rfl,Tryz.func234,by kernel_rfl⟩
theorem Iq (x0:aD):aU pr cv J 234 Tryz.f234 [(.agg (bL (some true) x0))]=
 let y1:Option (D × List D):=(some ((.int .i64 0),[.undef]))
 let y2:Option (D × List D):=(some ((.int .i64 1),[.undef]))
 let y3:Option (D × List D):=(some ((.int .i64 (-1)),[.undef]))
 (cv 235 [(s8 (some true) x0.a)] (.ty cJ.mt (fun (au:aB)=>(.int (fun fk=>(.bool (fun iy=>(.done (cv 235 [(s8 (some true) x0.b)] (.ty cJ.mt (fun (lZ:aB)=>(.int (fun nL=>(.bool (fun vm=>(.done (br iy (br (br vm false true) y1 (br (pr.le nL fk) y1 (br vm y2 y3))) (br vm y2 y3)))))))))))))))))):=by kernel_rfl
theorem Ir:Told cfg Tryz.prog 170 Tryz.f170:=⟨by kernel_rfl,Tryz.func170,by kernel_rfl⟩
theorem Is (x0:aD):aU pr cv J 170 Tryz.f170 [(.agg (bL (some true) x0))]=
 (cv 240 [(.agg (bL (some true) x0))] (.ty cJ.mt (fun (au:aB)=>(.int (fun fk=>(.bool (fun iy=>(.done (some ((.aG [(.agg (bd none au)),(.int .i64 fk),(.bool (pr.lt 0 fk))]),[.undef])))))))))):=by kernel_rfl
theorem It:Told cfg Tryz.prog 163 Tryz.f163:=⟨by kernel_rfl,Tryz.func163,by kernel_rfl⟩
theorem Iu (x0:aD):aU pr cv J 163 Tryz.f163 [(.agg (bL (some true) x0))]=
 let y1:bD Rz:=(.ty cJ.mt (fun (ef:aB)=>(.int (fun lU=>(.bool (fun rm=>(.done (some ((.aG [(.agg (bd none ef)),(.int .i64 lU),(.bool rm)]),[.undef])))))))))
 (cv 234 [(.agg (bL (some true) x0))] (.int (fun dj=>(.done (br (pr.eq dj 1) (cv 235 [(s8 (some true) x0.b)] y1) (cv 235 [(s8 (some true) x0.a)] y1)))))):=by kernel_rfl
end
@[go_sem] theorem nU (a:Nat):(qX a).length=4:=rfl
attribute [go_sem] Bd kI iB
@[go_sem] theorem abJ (b0:Nat) (b:List UInt8) (e0:b0=b.length) (q0:b.length<=1000000) (t:bD Rz):aO 312 [.sl (some true) 1 b0 (bytes b)] t=feed t [enc .mt ((dR b).1),.bool ((dR b).2)]:=by
 subst e0;exact bw (r:=.aG [enc .mt ((dR b).1),.bool ((dR b).2)]) (s:=.aG [.ty .mt,.bool]) (ss:=[.undef]) (Lf b q0) (by kernel_rfl) (by simp only [ao,bm,aT,bn,bo,ae,ai,sC]) (by simp only [ae,aI,ao,ai,sC]) (by first | rfl | simp only [ak,aR,aQ,bh,bj,aS,bl,sC]) (by first | rfl | simp only [TO,acd,ak,sC]) t
@[go_sem] theorem abK (b0:Nat) (b:List UInt8) (e0:b0=b.length) (q0:b.length<=1000000) (t:bD Rz):aO 279 [.sl (some true) 1 b0 (bytes b)] t=feed t [enc .mt ((dR b).1),.bool ((dR b).2)]:=by
 subst e0;exact bw (r:=.aG [enc .mt ((dR b).1),.bool ((dR b).2)]) (s:=.aG [.ty .mt,.bool]) (ss:=[.undef]) (Le b q0) (by kernel_rfl) (by simp only [ao,bm,aT,bn,bo,ae,ai,sC]) (by simp only [ae,aI,ao,ai,sC]) (by first | rfl | simp only [ak,aR,aQ,bh,bj,aS,bl,sC]) (by first | rfl | simp only [TO,acd,ak,sC]) t
@[go_sem] theorem aeD (a:Nat) (q0:a < 4611686018427387904) (t:bD Rz):aO 317 [.int .i64 (a:Int)] t=feed t [enc .B (qX a)]:=by
 exact bw (r:=enc .B (qX a)) (s:=.ty .B) (ss:=[.undef]) (ad2 a q0) (by kernel_rfl) (by simp only [ao,bm,aT,bn,bo,ae,ai,sC]) (by simp only [ae,aI,ao,ai,sC]) (by first | rfl | simp only [ak,aR,aQ,bh,bj,aS,bl,sC]) (by first | rfl | simp only [TO,acd,ak,sC]) t
@[go_sem] theorem ad5 (a:Nat) (q0:a < 4611686018427387904) (t:bD Rz):aO 283 [.int .i64 (a:Int)] t=feed t [enc .B (qX a)]:=by
 exact bw (r:=enc .B (qX a)) (s:=.ty .B) (ss:=[.undef]) (abf a q0) (by kernel_rfl) (by simp only [ao,bm,aT,bn,bo,ae,ai,sC]) (by simp only [ae,aI,ao,ai,sC]) (by first | rfl | simp only [ak,aR,aQ,bh,bj,aS,bl,sC]) (by first | rfl | simp only [TO,acd,ak,sC]) t
def kd (m:aB) (n:Nat):List UInt8:=qX n++[UInt8.ofNat (cy m).length]++cy m++List.replicate (151 - (cy m).length) 0++qX n
@[go_sem] theorem YC (n k:Nat) (a:List Int) (b:List (List Int)) (f o h:Bool) (l:Int) (e1:n=a.length) (e2:k=b.length) (q:bO ⟨a,b,f,o,h,l⟩) (t:bD Rz):aO 282 [.agg [.sl (some true) 1 n (ints a),.sl (some true) 1 k (rows (some true) b),.bool f,.bool o,.bool h,.int .i64 l]] t=feed t [s8 none (cy ⟨a,b,f,o,h,l⟩)]:=by
 subst e1;subst e2;exact vC (g:=true) (m:=⟨a,b,f,o,h,l⟩) (hm:=q) t
@[go_sem] theorem YD (n k:Nat) (a:List Int) (b:List (List Int)) (f o h:Bool) (l:Int) (e1:n=a.length) (e2:k=b.length) (q:bO ⟨a,b,f,o,h,l⟩) (t:bD Rz):aO 316 [.agg [.sl (some true) 1 n (ints a),.sl (some true) 1 k (rows (some true) b),.bool f,.bool o,.bool h,.int .i64 l]] t=feed t [s8 none (cy ⟨a,b,f,o,h,l⟩)]:=by
 subst e1;subst e2;exact vD (g:=true) (m:=⟨a,b,f,o,h,l⟩) (hm:=q) t
theorem vH (m:aB) (n:Nat) (q0:bO m) (q1:(cy m).length<=151) (q2:n < 4611686018427387904):Cm 285 [.agg (bd (some true) m),.int .i64 (n:Int)] (s8 none (kd m n),[.undef,.undef]):=by
 refine Cm.step D0 _ fun J _=>?_;rw [D1];unfold kd;simp (disch:=first | assumption | omega) only [go_sem,aF]
 have e:(156 - ((4+1+(cy m).length:Nat):Int)).toNat=151 - (cy m).length:=by omega
 rw [e];simp only [s8,aap,nU,List.length_replicate,adB]
@[go_sem] theorem YE (nV:Nat) (gi:List Int) (nW:Nat) (gj:List (List Int)) (ie:Bool) (ig:Bool) (ij:Bool) (ik:Int) (n:Nat) (e0:nV=gi.length) (e1:nW=gj.length) (q0:bO (⟨gi,gj,ie,ig,ij,ik⟩:aB)) (q1:(cy (⟨gi,gj,ie,ig,ij,ik⟩:aB)).length<=151) (q2:n < 4611686018427387904) (t:bD Rz):aO 285 [.agg [.sl (some true) 1 nV (ints gi),.sl (some true) 1 nW (rows (some true) gj),.bool ie,.bool ig,.bool ij,.int .i64 ik],.int .i64 (n:Int)] t=feed t [enc .B (kd (⟨gi,gj,ie,ig,ij,ik⟩:aB) n)]:=by
 subst e0;subst e1;exact bw (r:=enc .B (kd (⟨gi,gj,ie,ig,ij,ik⟩:aB) n)) (s:=.ty .B) (ss:=[.undef,.undef]) (vH (⟨gi,gj,ie,ig,ij,ik⟩:aB) n q0 q1 q2) (by kernel_rfl) (by simp only [ao,bm,aT,bn,bo,ae,ai,sC]) (by simp only [ae,aI,ao,ai,sC]) (by first | rfl | simp only [ak,aR,aQ,bh,bj,aS,bl,sC]) (by first | rfl | simp only [TO,acd,ak,sC]) t
theorem zS (m:aB) (n:Nat) (q0:bO m) (q1:(cy m).length<=151) (q2:n < 4611686018427387904):Cm 243 [.agg (bd (some true) m),.int .i64 (n:Int)] (s8 none (kd m n),[.undef,.undef]):=by
 have key:∀ k (o:List UInt8),o.length+k=156->WP 243 Tryz.f243 [.undef,.undef] 0 (nh (n:Int) o.length (bytes o)) (s8 none (o++List.replicate k 0++qX n),[.undef,.undef]):=by
  intro k
  induction k with
  | zero=>
   intro o ho;refine WP.step fun J _=>?_;rw [vG];simp (disch:=first | assumption | omega) only [go_sem]
   simp only [s8,af5,acg,aap,nU]
  | succ k ih=>
   intro o ho;refine WP.step fun J hJ=>?_;rw [vG];simp (disch:=first | assumption | omega) only [go_sem]
   have h:=ih (o++[0]) (by simp only [aap,adB]; omega)
   rw [aap,adB,acz o,aeg,<- aeh] at h;exact hJ _ _ h
 refine Cm.step Lg [.undef,.undef] fun J hJ=>?_;rw [Lh];simp (disch:=first | assumption | omega) only [go_sem]
 have h:=key (151 - (cy m).length) (qX n++[UInt8.ofNat (cy m).length]++cy m) (by simp only [aap,nU,adB]; omega)
 rw [aap,aap,nU,adB] at h;exact hJ _ _ h
@[go_sem] theorem abL (nV:Nat) (gi:List Int) (nW:Nat) (gj:List (List Int)) (ie:Bool) (ig:Bool) (ij:Bool) (ik:Int) (n:Nat) (e0:nV=gi.length) (e1:nW=gj.length) (q0:bO (⟨gi,gj,ie,ig,ij,ik⟩:aB)) (q1:(cy (⟨gi,gj,ie,ig,ij,ik⟩:aB)).length<=151) (q2:n < 4611686018427387904) (t:bD Rz):aO 243 [.agg [.sl (some true) 1 nV (ints gi),.sl (some true) 1 nW (rows (some true) gj),.bool ie,.bool ig,.bool ij,.int .i64 ik],.int .i64 (n:Int)] t=feed t [enc .B (kd (⟨gi,gj,ie,ig,ij,ik⟩:aB) n)]:=by
 subst e0;subst e1;exact bw (r:=enc .B (kd (⟨gi,gj,ie,ig,ij,ik⟩:aB) n)) (s:=.ty .B) (ss:=[.undef,.undef]) (zS (⟨gi,gj,ie,ig,ij,ik⟩:aB) n q0 q1 q2) (by kernel_rfl) (by simp only [ao,bm,aT,bn,bo,ae,ai,sC]) (by simp only [ae,aI,ao,ai,sC]) (by first | rfl | simp only [ak,aR,aQ,bh,bj,aS,bl,sC]) (by first | rfl | simp only [TO,acd,ak,sC]) t
def mE (b:List UInt8):Nat:=(b.getD 0 0).toNat+(b.getD 1 0).toNat*256+(b.getD 2 0).toNat*65536+(b.getD 3 0).toNat*16777216
def lL (b:List UInt8):List UInt8:=(b.drop 5).take (b.getD 4 0).toNat
def gz (b:List UInt8):Bool:=decide ((b.length:Int)=160)&&(decide (1<=(mE b:Int)/\(mE b:Int)<=1000000)&&(!decide (151 < ((b.getD 4 0).toNat:Int))&&((dR (lL b)).2&&decide (kd (dR (lL b)).1 (mE b)=b))))
def bT (b:List UInt8):aB × Int × Bool:=if gz b then ((dR (lL b)).1,(mE b:Int),true) else (fH,0,false)
theorem Gv {b:List UInt8} (h:(dR b).2=true):cy (dR b).1=b:=by
 unfold dR at h ⊢;split at h
 ·rename_i h1;rw [if_pos h1];simp only [wX,decide_eq_true_eq] at h1;exact h1.2.1
 ·simp at h
theorem gS {b:List UInt8} (h:gz b=false):bT b=(fH,0,false):=by unfold bT; rw [h]; rfl
theorem wV {b:List UInt8} (h:gz b=true):bT b=((dR (lL b)).1,(mE b:Int),true):=by unfold bT; rw [h]; rfl
theorem Pd {b:List UInt8} (h:b.length=160) (h4:(b.getD 4 0).toNat<=151):(lL b).length=(b.getD 4 0).toNat:=by simp only [lL,acG,af1]; omega
theorem RB (b:List UInt8):mE b < 4294967296:=by
 have:=(b.getD 0 0).toNat_lt; have:=(b.getD 1 0).toNat_lt; have:=(b.getD 2 0).toNat_lt; have:=(b.getD 3 0).toNat_lt;unfold mE; omega
theorem zl (b:List UInt8):ad.ar .add .i64 (ad.ar .add .i64 (ad.ar .add .i64 ((b.getD 0 0).toNat:Int) (ad.ar .shl .i64 ((b.getD 1 0).toNat:Int) 8)) (ad.ar .shl .i64 ((b.getD 2 0).toNat:Int) 16)) (ad.ar .shl .i64 ((b.getD 3 0).toNat:Int) 24)=((mE b:Nat):Int):=by
 have h0:=(b.getD 0 0).toNat_lt; have h1:=(b.getD 1 0).toNat_lt; have h2:=(b.getD 2 0).toNat_lt; have h3:=(b.getD 3 0).toNat_lt;have s1:ad.ar .shl .i64 ((b.getD 1 0).toNat:Int) 8=_:=vx (k:=8) (by omega) (by omega)
 have s2:ad.ar .shl .i64 ((b.getD 2 0).toNat:Int) 16=_:=vx (k:=16) (by omega) (by omega)
 have s3:ad.ar .shl .i64 ((b.getD 3 0).toNat:Int) 24=_:=vx (k:=24) (by omega) (by omega)
 rw [s1,s2,s3,tp (by omega),tp (by omega),tp (by omega)]
 rfl
theorem B8 (b:List UInt8):ad.ar .or .i64 (ad.ar .or .i64 (ad.ar .or .i64 ((b.getD 0 0).toNat:Int) (ad.ar .shl .i64 ((b.getD 1 0).toNat:Int) 8)) (ad.ar .shl .i64 ((b.getD 2 0).toNat:Int) 16)) (ad.ar .shl .i64 ((b.getD 3 0).toNat:Int) 24)=((mE b:Nat):Int):=by
 have h0:=(b.getD 0 0).toNat_lt; have h1:=(b.getD 1 0).toNat_lt; have h2:=(b.getD 2 0).toNat_lt; have h3:=(b.getD 3 0).toNat_lt;have s1:ad.ar .shl .i64 ((b.getD 1 0).toNat:Int) 8=_:=vx (k:=8) (by omega) (by omega)
 have s2:ad.ar .shl .i64 ((b.getD 2 0).toNat:Int) 16=_:=vx (k:=16) (by omega) (by omega)
 have s3:ad.ar .shl .i64 ((b.getD 3 0).toNat:Int) 24=_:=vx (k:=24) (by omega) (by omega)
 rw [s1,s2,s3,MA (by omega) (by omega),Gl (k:=8) h0,MA (by omega) (by omega),Gl (k:=16) (by omega),MA (by omega) (by omega),Gl (k:=24) (by omega)]
 rfl
theorem ad6 {b:List UInt8} (h:¬((b.length:Int)=160)):gz b=false:=by simp only [gz,h,decide_false,agj]
theorem ad7 {b:List UInt8} (h:¬(1<=(mE b:Int)/\(mE b:Int)<=1000000)):gz b=false:=by simp only [gz,h,decide_false,agj,agO]
theorem ad8 {b:List UInt8} (h:151 < ((b.getD 4 0).toNat:Int)):gz b=false:=by simp only [gz,h,decide_true,ahc,agj,agO]
theorem ad9 {b:List UInt8} (h:(dR (lL b)).2=false):gz b=false:=by simp only [gz,h,agj,agO]
theorem aea {b:List UInt8} (h:¬(kd (dR (lL b)).1 (mE b)=b)):gz b=false:=by simp only [gz,h,decide_false,agO]
theorem aeb {b:List UInt8} (h1:(b.length:Int)=160) (h2:1<=(mE b:Int)/\(mE b:Int)<=1000000) (h3:¬(151 < ((b.getD 4 0).toNat:Int))) (h4:(dR (lL b)).2=true) (h5:kd (dR (lL b)).1 (mE b)=b):gz b=true:=by simp only [gz,h1,h2,h3,h4,h5,and_self,decide_true,decide_false,Bool.not_false,sC]
theorem Lp (b:List UInt8) (q0:b.length<=1048576):Cm 235 [s8 (some true) b] (.aG [.agg (bd none ((bT b).1)),.int .i64 ((bT b).2.1),.bool ((bT b).2.2)],[.undef]):=by
 refine Cm.step Ll _ fun J _=>?_;rw [Lm];simp (disch:=first | assumption | omega) only [go_sem]
 refine dn (fun hl=>?_) (fun hl=>by rw [gS (ad6 hl)]; rfl)
 have h4:=(b.getD 4 0).toNat_lt;have hw:=RB b;simp (disch:=first | assumption | omega) only [go_sem,zl]
 refine dn (fun hn=>?_) (fun hn=>by rw [gS (ad7 hn)]; rfl)
 simp (disch:=first | assumption | omega) only [go_sem]
 refine dn (fun hs=>by rw [gS (ad8 hs)]; rfl) (fun hs=>?_)
 have hp:=Pd (b:=b) (by omega) (by omega)
 have ep:List.take (b.getD 4 0).toNat (List.drop 5 b)=lL b:=rfl;have cF:=Be (lL b) (by omega)
 have e5:(5+((b.getD 4 0).toNat:Int)).toNat - 5=(b.getD 4 0).toNat:=by omega
 simp (disch:=first | assumption | omega) only [go_sem,e5,ep,zl]
 refine RA (fun hq=>?_) (fun hq=>by rw [gS (ad9 hq)]; rfl)
 have hm:=Gv hq;simp (disch:=first | assumption | (rw [hm]; omega) | omega) only [go_sem,zl]
 refine dn (fun he=>?_) (fun he=>by rw [gS (aea he)]; rfl)
 simp (disch:=first | assumption | omega) only [go_sem,zl,wV (aeb hl hn hs hq he)]
@[go_sem] theorem abM (b0:Nat) (b:List UInt8) (e0:b0=b.length) (q0:b.length<=1048576) (t:bD Rz):aO 235 [.sl (some true) 1 b0 (bytes b)] t=feed t [enc .mt ((bT b).1),.int .i64 ((bT b).2.1),.bool ((bT b).2.2)]:=by
 subst e0;exact bw (r:=.aG [enc .mt ((bT b).1),.int .i64 ((bT b).2.1),.bool ((bT b).2.2)]) (s:=.aG [.ty .mt,.int .i64,.bool]) (ss:=[.undef]) (Lp b q0) (by kernel_rfl) (by simp only [ao,bm,aT,bn,bo,ae,ai,sC]) (by simp only [ae,aI,ao,ai,sC]) (by first | rfl | simp only [ak,aR,aQ,bh,bj,aS,bl,sC]) (by first | rfl | simp only [TO,acd,ak,sC]) t
theorem Lq (b:List UInt8) (q0:b.length<=1048576):Cm 281 [s8 (some true) b] (.aG [.agg (bd none ((bT b).1)),.int .i64 ((bT b).2.1),.bool ((bT b).2.2)],[.undef]):=by
 refine Cm.step Li _ fun J _=>?_;rw [Lj];simp (disch:=first | assumption | omega) only [go_sem]
 refine dn (fun hl=>?_) (fun hl=>by rw [gS (ad6 hl)]; rfl)
 have h4:=(b.getD 4 0).toNat_lt;have hw:=RB b;simp (disch:=first | assumption | omega) only [go_sem,B8]
 refine dn (fun hn=>?_) (fun hn=>by rw [gS (ad7 hn)]; rfl)
 simp (disch:=first | assumption | omega) only [go_sem]
 refine dn (fun hs=>by rw [gS (ad8 hs)]; rfl) (fun hs=>?_)
 have hp:=Pd (b:=b) (by omega) (by omega)
 have ep:List.take (b.getD 4 0).toNat (List.drop 5 b)=lL b:=rfl;have cF:=Be (lL b) (by omega)
 have e5:(5+((b.getD 4 0).toNat:Int)).toNat - 5=(b.getD 4 0).toNat:=by omega
 simp (disch:=first | assumption | omega) only [go_sem,e5,ep,B8]
 refine RA (fun hq=>?_) (fun hq=>by rw [gS (ad9 hq)]; rfl)
 have hm:=Gv hq;simp (disch:=first | assumption | (rw [hm]; omega) | omega) only [go_sem,B8]
 refine dn (fun he=>?_) (fun he=>by rw [gS (aea he)]; rfl)
 simp (disch:=first | assumption | omega) only [go_sem,B8,wV (aeb hl hn hs hq he)]
@[go_sem] theorem abN (b0:Nat) (b:List UInt8) (e0:b0=b.length) (q0:b.length<=1048576) (t:bD Rz):aO 281 [.sl (some true) 1 b0 (bytes b)] t=feed t [enc .mt ((bT b).1),.int .i64 ((bT b).2.1),.bool ((bT b).2.2)]:=by
 subst e0;exact bw (r:=.aG [enc .mt ((bT b).1),.int .i64 ((bT b).2.1),.bool ((bT b).2.2)]) (s:=.aG [.ty .mt,.int .i64,.bool]) (ss:=[.undef]) (Lq b q0) (by kernel_rfl) (by simp only [ao,bm,aT,bn,bo,ae,ai,sC]) (by simp only [ae,aI,ao,ai,sC]) (by first | rfl | simp only [ak,aR,aQ,bh,bj,aS,bl,sC]) (by first | rfl | simp only [TO,acd,ak,sC]) t
theorem J0 (b:List UInt8):bO (bT b).1:=by
 unfold bT;split
 ·exact Be (lL b) (by have:=(b.getD 4 0).toNat_lt; simp only [lL,acG,af1]; omega)
 ·exact ⟨by simp [fH],by simp [fH],by simp [fH]⟩
theorem zm (b:List UInt8):if (bT b).2.2 then 1<=(bT b).2.1/\(bT b).2.1<=1000000 else bT b=(fH,0,false):=by
 cases h:gz b with
 | false=>rw [gS h]; rfl
 | true=>
  rw [wV h];simp only [gz,wX,decide_eq_true_eq] at h;exact h.2.1
def B9 (s:aD):Bool:=(bT s.b).2.2&&(!(bT s.a).2.2||decide ((bT s.a).2.1 < (bT s.b).2.1))
def aK (s:aD):aB × Int × Bool:=if B9 s then bT s.b else bT s.a
def lv (s:aD):Bool:=!B9 s&&(bT s.a).2.2
theorem zT (s:aD) (q0:cT s):Cm 240 [.agg (bL (some true) s)] (.aG [.agg (bd none ((((aK s).1,(aK s).2.1,lv s)).1)),.int .i64 ((((aK s).1,(aK s).2.1,lv s)).2.1),.bool ((((aK s).1,(aK s).2.1,lv s)).2.2)],[.undef]):=by
 have qa:=q0.a;have qb:=q0.b;have h1:=zm s.a;refine Cm.step Ln _ fun J _=>?_;rw [Lo];simp (disch:=first | assumption | omega) only [go_sem]
 unfold aK lv B9;generalize bT s.a=a at*;generalize bT s.b=b at*;obtain ⟨a1,a2,a3⟩:=a;obtain ⟨b1,b2,b3⟩:=b;cases a3<;>cases b3<;>by_cases h:a2 < b2<;>simp [br,h,enc,SX]
@[go_sem] theorem abO (vI:Nat) (fb:List UInt8) (vJ:Nat) (fc:List UInt8) (e0:vI=fb.length) (e1:vJ=fc.length) (q0:cT (⟨fb,fc⟩:aD)) (t:bD Rz):aO 240 [.agg [.sl (some true) 1 vI (bytes fb),.sl (some true) 1 vJ (bytes fc)]] t=feed t [enc .mt ((((aK (⟨fb,fc⟩:aD)).1,(aK (⟨fb,fc⟩:aD)).2.1,lv (⟨fb,fc⟩:aD))).1),.int .i64 ((((aK (⟨fb,fc⟩:aD)).1,(aK (⟨fb,fc⟩:aD)).2.1,lv (⟨fb,fc⟩:aD))).2.1),.bool ((((aK (⟨fb,fc⟩:aD)).1,(aK (⟨fb,fc⟩:aD)).2.1,lv (⟨fb,fc⟩:aD))).2.2)]:=by
 subst e0;subst e1;exact bw (r:=.aG [enc .mt ((((aK (⟨fb,fc⟩:aD)).1,(aK (⟨fb,fc⟩:aD)).2.1,lv (⟨fb,fc⟩:aD))).1),.int .i64 ((((aK (⟨fb,fc⟩:aD)).1,(aK (⟨fb,fc⟩:aD)).2.1,lv (⟨fb,fc⟩:aD))).2.1),.bool ((((aK (⟨fb,fc⟩:aD)).1,(aK (⟨fb,fc⟩:aD)).2.1,lv (⟨fb,fc⟩:aD))).2.2)]) (s:=.aG [.ty .mt,.int .i64,.bool]) (ss:=[.undef]) (zT (⟨fb,fc⟩:aD) q0) (by kernel_rfl) (by simp only [ao,bm,aT,bn,bo,ae,ai,sC]) (by simp only [ae,aI,ao,ai,sC]) (by first | rfl | simp only [ak,aR,aQ,bh,bj,aS,bl,sC]) (by first | rfl | simp only [TO,acd,ak,sC]) t
def pk (s:aD):Int:=if (bT s.a).2.2&&(!(bT s.b).2.2||decide ((bT s.b).2.1<=(bT s.a).2.1)) then 0 else if (bT s.b).2.2 then 1 else -1
theorem yg (s:aD) (q0:cT s):Cm 234 [.agg (bL (some true) s)] (.int .i64 (pk s),[.undef]):=by
 have qa:=q0.a;have qb:=q0.b;refine Cm.step Ip _ fun J _=>?_;rw [Iq];simp (disch:=first | assumption | omega) only [go_sem]
 unfold pk;generalize bT s.a=a;generalize bT s.b=b;obtain ⟨a1,a2,a3⟩:=a;obtain ⟨b1,b2,b3⟩:=b;cases a3<;>cases b3<;>by_cases h:b2<=a2<;>simp [br,h,y8]
@[go_sem] theorem abi (vI:Nat) (fb:List UInt8) (vJ:Nat) (fc:List UInt8) (e0:vI=fb.length) (e1:vJ=fc.length) (q0:cT (⟨fb,fc⟩:aD)) (t:bD Rz):aO 234 [.agg [.sl (some true) 1 vI (bytes fb),.sl (some true) 1 vJ (bytes fc)]] t=feed t [.int .i64 (pk (⟨fb,fc⟩:aD))]:=by
 subst e0;subst e1;exact bw (r:=.int .i64 (pk (⟨fb,fc⟩:aD))) (s:=.int .i64) (ss:=[.undef]) (yg (⟨fb,fc⟩:aD) q0) (by kernel_rfl) (by simp only [ao,bm,aT,bn,bo,ae,ai,sC]) (by simp only [ae,aI,ao,ai,sC]) (by first | rfl | simp only [ak,aR,aQ,bh,bj,aS,bl,sC]) (by first | rfl | simp only [TO,acd,ak,sC]) t
theorem Th (s:aD):decide (pk s=1)=B9 s:=by
 unfold pk B9;generalize bT s.a=a;generalize bT s.b=b;obtain ⟨a1,a2,a3⟩:=a;obtain ⟨b1,b2,b3⟩:=b;cases a3<;>cases b3<;>by_cases h:b2<=a2<;>simp [h]<;>omega
theorem Qj (s:aD):decide (0 < (aK s).2.1)=(aK s).2.2:=by
 unfold aK;have key:∀ b,decide (0 < (bT b).2.1)=(bT b).2.2:=fun b=>by
  have h:=zm b;split at h
  ·rename_i h1;rw [h1,decide_eq_true (by omega)]
  ·rw [h]; rfl
 split<;>exact key _
theorem Gw (s:aD):bO (aK s).1:=by
 unfold aK;split
 ·exact J0 _
 ·exact J0 _
theorem yi (s:aD) (q0:cT s):Cm 170 [.agg (bL (some true) s)] (.aG [.agg (bd none ((aK s).1)),.int .i64 ((aK s).2.1),.bool ((aK s).2.2)],[.undef]):=by
 refine Cm.step Ir _ fun J _=>?_;rw [Is];simp (disch:=first | assumption | omega) only [go_sem,Qj]
@[go_sem] theorem abj (vI:Nat) (fb:List UInt8) (vJ:Nat) (fc:List UInt8) (e0:vI=fb.length) (e1:vJ=fc.length) (q0:cT (⟨fb,fc⟩:aD)) (t:bD Rz):aO 170 [.agg [.sl (some true) 1 vI (bytes fb),.sl (some true) 1 vJ (bytes fc)]] t=feed t [enc .mt ((aK (⟨fb,fc⟩:aD)).1),.int .i64 ((aK (⟨fb,fc⟩:aD)).2.1),.bool ((aK (⟨fb,fc⟩:aD)).2.2)]:=by
 subst e0;subst e1;exact bw (r:=.aG [enc .mt ((aK (⟨fb,fc⟩:aD)).1),.int .i64 ((aK (⟨fb,fc⟩:aD)).2.1),.bool ((aK (⟨fb,fc⟩:aD)).2.2)]) (s:=.aG [.ty .mt,.int .i64,.bool]) (ss:=[.undef]) (yi (⟨fb,fc⟩:aD) q0) (by kernel_rfl) (by simp only [ao,bm,aT,bn,bo,ae,ai,sC]) (by simp only [ae,aI,ao,ai,sC]) (by first | rfl | simp only [ak,aR,aQ,bh,bj,aS,bl,sC]) (by first | rfl | simp only [TO,acd,ak,sC]) t
theorem yj (s:aD) (q0:cT s):Cm 163 [.agg (bL (some true) s)] (.aG [.agg (bd none ((aK s).1)),.int .i64 ((aK s).2.1),.bool ((aK s).2.2)],[.undef]):=by
 have qa:=q0.a;have qb:=q0.b;refine Cm.step It _ fun J _=>?_;rw [Iu];simp (disch:=first | assumption | omega) only [go_sem,Th]
 unfold aK;refine jE (fun h=>?_) (fun h=>?_)
 ·simp (disch:=first | assumption | omega) only [go_sem,h]
 ·simp (disch:=first | assumption | omega) only [go_sem,if_neg h]
@[go_sem] theorem abk (vI:Nat) (fb:List UInt8) (vJ:Nat) (fc:List UInt8) (e0:vI=fb.length) (e1:vJ=fc.length) (q0:cT (⟨fb,fc⟩:aD)) (t:bD Rz):aO 163 [.agg [.sl (some true) 1 vI (bytes fb),.sl (some true) 1 vJ (bytes fc)]] t=feed t [enc .mt ((aK (⟨fb,fc⟩:aD)).1),.int .i64 ((aK (⟨fb,fc⟩:aD)).2.1),.bool ((aK (⟨fb,fc⟩:aD)).2.2)]:=by
 subst e0;subst e1;exact bw (r:=.aG [enc .mt ((aK (⟨fb,fc⟩:aD)).1),.int .i64 ((aK (⟨fb,fc⟩:aD)).2.1),.bool ((aK (⟨fb,fc⟩:aD)).2.2)]) (s:=.aG [.ty .mt,.int .i64,.bool]) (ss:=[.undef]) (yj (⟨fb,fc⟩:aD) q0) (by kernel_rfl) (by simp only [ao,bm,aT,bn,bo,ae,ai,sC]) (by simp only [ae,aI,ao,ai,sC]) (by first | rfl | simp only [ak,aR,aQ,bh,bj,aS,bl,sC]) (by first | rfl | simp only [TO,acd,ak,sC]) t
set_option maxRecDepth 100000
section
variable (pr:ej) (cv:Cv Rz) (J:Nat->St->Option Rz)
def iV (x0:U) (i0:Int):St:=(St.mk [(1,(.ptr 1 [] 0)),(85,(.int .i64 i0))] [(1,(ab (some true) x0))] [] 0)
def iW (x0:U) (i0:Int) (i1:Int):St:=(St.mk [(1,(.ptr 1 [] 0)),(139,(sI (some true) x0.wait)),(140,(.int .i64 i0)),(141,(.int .i64 i1))] [(1,(ab (some true) x0))] [] 0)
theorem Lr:Told cfg Tryz.prog 76 Tryz.f76:=⟨by kernel_rfl,Tryz.func76,by kernel_rfl⟩
theorem Ls (x0:U):aU pr cv J 76 Tryz.f76 [(.agg (ab (some true) x0))]=
 let y1:Option (D × List D):=(some ((.bool false),[.undef]))
 let y2:Option Rz:=(cv 170 [(.agg (bL (some true) x0.aA))] (.ty cJ.mt (fun (Pe:aB)=>(.int (fun qd=>(.bool (fun mK=>(.done (br (br mK false true) y1 (cv 171 [(.agg (bz true (bd none Pe))),(.agg (bd (some true) x0.mt))] (.bool (fun vb7=>(.done (br (br vb7 false true) y1 (J 0 (iV x0 0))))))))))))))))
 let y3:Option (D × List D):=(br (br x0.up false true) (br (pr.lt 0 (pr.ba x0.wait.length)) y1 y2) y2)
 (cv 92 [(.int .i64 x0.id)] (.bool (fun ct=>(.done (br (br ct false true) y1 (cv 167 [(sI (some true) x0.image)] (.bool (fun hZ=>(.done (br (br hZ false true) y1 (cv 168 [(.agg (bd (some true) x0.mt))] (.bool (fun iy=>(.done (br (br iy false true) y1 (br (br (pr.eq (pr.ba x0.conn.length) 3) false true) y1 (cv 169 [(sR (some true) x0.sync)] (.bool (fun rm=>(.done (br (br rm false true) y1 (br (br (pr.eq (pr.ba x0.aH.length) 3) false true) y1 (br x0.bS (br (br x0.up false true) y1 (br (pr.eq x0.id 2) y1 y3)) y3))))))))))))))))))))))):=by kernel_rfl
theorem D2 (x0:U) (i0:Int):cg pr cv J 76 Tryz.f76 [.undef] 0 (iV x0 i0)=
 let y1:Option (D × List D):=(some ((.bool false),[.undef]))
 let y2:Option Rz:=(J 0 (iV x0 (pr.ar .add .i64 i0 1)))
 let y3:Option (D × List D):=(br (pr.bR i0 x0.sync.length) (br (br (pr.cZ 1 (rows (some true) x0.sync) (pr.idx 0 i0 1)) true false) (br (pr.lt 0 (pr.ba (pr.bM (rows (some true) x0.sync) (pr.idx 0 i0 1)))) (br (pr.bR i0 x0.aH.length) (br (br (pr.eH (aE x0.aH) (pr.idx 0 i0 1)) true false) (br (br (pr.df (aE x0.aH) (pr.idx 0 i0 1)) false true) y1 y2) none) none) y2) none) none)
 let y4:Option (D × List D):=(br (pr.bR i0 x0.aH.length) (br (br (pr.eH (aE x0.aH) (pr.idx 0 i0 1)) true false) (br (pr.df (aE x0.aH) (pr.idx 0 i0 1)) (br (pr.bR i0 x0.conn.length) (br (br (pr.eH (aE x0.conn) (pr.idx 0 i0 1)) true false) (br (br (pr.df (aE x0.conn) (pr.idx 0 i0 1)) false true) y1 y3) none) none) y3) none) none)
 (br (pr.lt i0 3) (br x0.up (br (pr.bR i0 x0.conn.length) (br (br (pr.eH (aE x0.conn) (pr.idx 0 i0 1)) true false) (br (pr.df (aE x0.conn) (pr.idx 0 i0 1)) (br (br (br (pr.eq i0 x0.id) false true) false true) y1 y4) y4) none) none) (br (pr.bR i0 x0.conn.length) (br (br (pr.eH (aE x0.conn) (pr.idx 0 i0 1)) true false) (br (pr.df (aE x0.conn) (pr.idx 0 i0 1)) y1 y4) none) none)) (J 2 (iW x0 (pr.ba x0.wait.length) 0))):=by kernel_rfl
theorem D3 (x0:U) (i0:Int) (i1:Int):cg pr cv J 76 Tryz.f76 [.undef] 2 (iW x0 i0 i1)=
 let y1:Option (D × List D):=(some ((.bool false),[.undef]))
 let y2:Option Rz:=(J 2 (iW x0 i0 (pr.ar .add .i64 i1 1)))
 (br (pr.lt i1 i0) (br (pr.bR i1 x0.wait.length) (br (br (pr.da .i64 (ints x0.wait) (pr.idx 0 i1 1)) true false) (cv 172 [(.int .i64 (pr.cd (ints x0.wait) (pr.idx 0 i1 1)))] (.bool (fun ct=>(.done (br (br ct false true) y1 (br (pr.lt 0 i1) (br (pr.bR (pr.ar .sub .i64 i1 1) x0.wait.length) (br (br (pr.da .i64 (ints x0.wait) (pr.idx 0 (pr.ar .sub .i64 i1 1) 1)) true false) (br (pr.le (pr.cd (ints x0.wait) (pr.idx 0 i1 1)) (pr.cd (ints x0.wait) (pr.idx 0 (pr.ar .sub .i64 i1 1) 1))) y1 y2) none) none) y2)))))) none) none) (some ((.bool true),[.undef]))):=by kernel_rfl
def kZ (x0:U) (i0:Int):St:=(St.mk [(1,(.ptr 1 [] 0)),(3,(.int .i64 i0))] [(1,(ab (some true) x0))] [] 0)
theorem Lt:Told cfg Tryz.prog 69 Tryz.f69:=⟨by kernel_rfl,Tryz.func69,by kernel_rfl⟩
theorem Lu (x0:U):aU pr cv J 69 Tryz.f69 [(.agg (ab (some true) x0))]=
 let y1:Option (D × List D):=(some ((.bool false),[.undef]))
 let y2:Option Rz:=(J 0 (kZ x0 0))
 let y3:Option (D × List D):=(br (br x0.up false true) (br (pr.lt 0 (pr.ba x0.wait.length)) y1 y2) y2)
 (cv 87 [(.int .i64 x0.id),(.int .i64 0),(.int .i64 2)] (.bool (fun ct=>(.done (br (br ct false true) y1 (cv 160 [(sI (some true) x0.image)] (.bool (fun hZ=>(.done (br (br hZ false true) y1 (cv 161 [(.agg (bd (some true) x0.mt))] (.bool (fun iy=>(.done (br (br iy false true) y1 (cv 162 [(.agg (ab (some true) x0))] (.bool (fun rm=>(.done (br (br rm false true) y1 (br x0.bS (br (br x0.up false true) y1 (br (pr.eq x0.id 2) y1 y3)) y3))))))))))))))))))))):=by kernel_rfl
theorem D4 (x0:U) (i0:Int):cg pr cv J 69 Tryz.f69 [.undef] 0 (kZ x0 i0)=
 let y1:Bool:=(br (pr.da .i64 (ints x0.wait) (pr.idx 0 i0 1)) true false)
 let y2:Option (D × List D):=(some ((.bool false),[.undef]))
 let y3:Option Rz:=(J 0 (kZ x0 (pr.ar .add .i64 i0 1)))
 (br (pr.lt i0 (pr.ba x0.wait.length)) (br (pr.bR i0 x0.wait.length) (br y1 (cv 87 [(.int .i64 (pr.cd (ints x0.wait) (pr.idx 0 i0 1))),(.int .i64 1),(.int .i64 200)] (.bool (fun ct=>(.done (br (br ct false true) y2 (br (pr.lt 0 i0) (br (pr.bR (pr.ar .sub .i64 i0 1) x0.wait.length) (br (br (pr.da .i64 (ints x0.wait) (pr.idx 0 (pr.ar .sub .i64 i0 1) 1)) true false) (br (pr.bR i0 x0.wait.length) (br y1 (br (pr.le (pr.cd (ints x0.wait) (pr.idx 0 i0 1)) (pr.cd (ints x0.wait) (pr.idx 0 (pr.ar .sub .i64 i0 1) 1))) y2 y3) none) none) none) none) y3)))))) none) none) (cv 163 [(.agg (bL (some true) x0.aA))] (.ty cJ.mt (fun (ef:aB)=>(.int (fun lU=>(.bool (fun rm=>(.done (br rm (cv 164 [(.agg (bz true (bd none ef))),(.agg (bd (some true) x0.mt))] (.bool (fun AZ=>(.done (some ((.bool AZ),[.undef])))))) y2)))))))))):=by kernel_rfl
def iw (x0:U) (i0:Int):St:=(St.mk [(1,(.ptr 1 [] 0)),(3,(.int .i64 i0))] [(1,(ab (some true) x0))] [] 0)
theorem Iv:Told cfg Tryz.prog 162 Tryz.f162:=⟨by kernel_rfl,Tryz.func162,by kernel_rfl⟩
theorem Iw (x0:U):aU pr cv J 162 Tryz.f162 [(.agg (ab (some true) x0))]=
 let y1:Option (D × List D):=(some ((.bool false),[.undef]))
 (br (br (pr.eq (pr.ba x0.conn.length) 3) false true) y1 (br (br (pr.eq (pr.ba x0.sync.length) 3) false true) y1 (br (br (pr.eq (pr.ba x0.aH.length) 3) false true) y1 (J 0 (iw x0 0))))):=by kernel_rfl
theorem Ci (x0:U) (i0:Int):cg pr cv J 162 Tryz.f162 [.undef] 0 (iw x0 i0)=
 let y1:Bool:=(br (pr.cZ 1 (rows (some true) x0.sync) (pr.idx 0 i0 1)) true false)
 let y2:Option (D × List D):=(some ((.bool false),[.undef]))
 let y3:Option Rz:=(J 0 (iw x0 (pr.ar .add .i64 i0 1)))
 let y4:Option (D × List D):=(br (pr.bR i0 x0.conn.length) (br (br (pr.eH (aE x0.conn) (pr.idx 0 i0 1)) true false) (br (pr.df (aE x0.conn) (pr.idx 0 i0 1)) (br (br x0.up false true) y2 (br (pr.eq i0 x0.id) y2 y3)) y3) none) none)
 let y5:Option (D × List D):=(br (pr.bR i0 x0.aH.length) (br (br (pr.eH (aE x0.aH) (pr.idx 0 i0 1)) true false) (br (pr.df (aE x0.aH) (pr.idx 0 i0 1)) (br (pr.bR i0 x0.conn.length) (br (br (pr.eH (aE x0.conn) (pr.idx 0 i0 1)) true false) (br (br (pr.df (aE x0.conn) (pr.idx 0 i0 1)) false true) y2 y4) none) none) y4) none) none)
 (br (pr.lt i0 3) (br (pr.bR i0 x0.sync.length) (br y1 (cv 233 [(.sl (some (pr.cD (rows (some true) x0.sync) (pr.idx 0 i0 1))) 1 (pr.bM (rows (some true) x0.sync) (pr.idx 0 i0 1)) (pr.bP (rows (some true) x0.sync) (pr.idx 0 i0 1)))] (.bool (fun ct=>(.done (br (br ct false true) y2 (br (pr.bR i0 x0.sync.length) (br y1 (br (pr.lt 0 (pr.ba (pr.bM (rows (some true) x0.sync) (pr.idx 0 i0 1)))) (br (pr.bR i0 x0.aH.length) (br (br (pr.eH (aE x0.aH) (pr.idx 0 i0 1)) true false) (br (br (pr.df (aE x0.aH) (pr.idx 0 i0 1)) false true) y2 y5) none) none) y5) none) none)))))) none) none) (some ((.bool true),[.undef]))):=by kernel_rfl
end
@[go_sem] theorem abP (nV:Nat) (gi:List Int) (nW:Nat) (gj:List (List Int)) (ie:Bool) (ig:Bool) (ij:Bool) (ik:Int) (e0:nV=gi.length) (e1:nW=gj.length) (q0:bO (⟨gi,gj,ie,ig,ij,ik⟩:aB)) (t:bD Rz):aO 168 [.agg [.sl (some true) 1 nV (ints gi),.sl (some true) 1 nW (rows (some true) gj),.bool ie,.bool ig,.bool ij,.int .i64 ik]] t=feed t [.bool (ed (⟨gi,gj,ie,ig,ij,ik⟩:aB))]:=by
 subst e0;subst e1;exact bw (r:=.bool (ed (⟨gi,gj,ie,ig,ij,ik⟩:aB))) (s:=.bool) (ss:=[.undef]) (tH true (⟨gi,gj,ie,ig,ij,ik⟩:aB) q0) (by kernel_rfl) (by simp only [ao,bm,aT,bn,bo,ae,ai,sC]) (by simp only [ae,aI,ao,ai,sC]) (by first | rfl | simp only [ak,aR,aQ,bh,bj,aS,bl,sC]) (by first | rfl | simp only [TO,acd,ak,sC]) t
@[go_sem] theorem abQ (nV:Nat) (gi:List Int) (nW:Nat) (gj:List (List Int)) (ie:Bool) (ig:Bool) (ij:Bool) (ik:Int) (e0:nV=gi.length) (e1:nW=gj.length) (q0:bO (⟨gi,gj,ie,ig,ij,ik⟩:aB)) (t:bD Rz):aO 161 [.agg [.sl (some true) 1 nV (ints gi),.sl (some true) 1 nW (rows (some true) gj),.bool ie,.bool ig,.bool ij,.int .i64 ik]] t=feed t [.bool (ed (⟨gi,gj,ie,ig,ij,ik⟩:aB))]:=by
 subst e0;subst e1;exact bw (r:=.bool (ed (⟨gi,gj,ie,ig,ij,ik⟩:aB))) (s:=.bool) (ss:=[.undef]) (tG true (⟨gi,gj,ie,ig,ij,ik⟩:aB) q0) (by kernel_rfl) (by simp only [ao,bm,aT,bn,bo,ae,ai,sC]) (by simp only [ae,aI,ao,ai,sC]) (by first | rfl | simp only [ak,aR,aQ,bh,bj,aS,bl,sC]) (by first | rfl | simp only [TO,acd,ak,sC]) t
@[go_sem] theorem aad (nV:Nat) (gi:List Int) (nW:Nat) (gj:List (List Int)) (ie:Bool) (ig:Bool) (ij:Bool) (ik:Int) (Pf:Nat) (yk:List Int) (Pg:Nat) (ym:List (List Int)) (Bf:Bool) (Bg:Bool) (Bh:Bool) (Bi:Int) (e0:nV=gi.length) (e1:nW=gj.length) (e2:Pf=yk.length) (e3:Pg=ym.length) (q0:bO (⟨gi,gj,ie,ig,ij,ik⟩:aB)) (q1:bO (⟨yk,ym,Bf,Bg,Bh,Bi⟩:aB)) (t:bD Rz):aO 171 [.agg [.sl (some true) 1 nV (ints gi),.sl (some true) 1 nW (rows (some true) gj),.bool ie,.bool ig,.bool ij,.int .i64 ik],.agg [.sl (some true) 1 Pf (ints yk),.sl (some true) 1 Pg (rows (some true) ym),.bool Bf,.bool Bg,.bool Bh,.int .i64 Bi]] t=feed t [.bool (lJ (⟨gi,gj,ie,ig,ij,ik⟩:aB) (⟨yk,ym,Bf,Bg,Bh,Bi⟩:aB))]:=by
 subst e0;subst e1;subst e2;subst e3;exact bw (r:=.bool (lJ (⟨gi,gj,ie,ig,ij,ik⟩:aB) (⟨yk,ym,Bf,Bg,Bh,Bi⟩:aB))) (s:=.bool) (ss:=[.undef,.undef]) (Gj true true (⟨gi,gj,ie,ig,ij,ik⟩:aB) (⟨yk,ym,Bf,Bg,Bh,Bi⟩:aB) q0 q1) (by kernel_rfl) (by simp only [ao,bm,aT,bn,bo,ae,ai,sC]) (by simp only [ae,aI,ao,ai,sC]) (by first | rfl | simp only [ak,aR,aQ,bh,bj,aS,bl,sC]) (by first | rfl | simp only [TO,acd,ak,sC]) t
@[go_sem] theorem aae (nV:Nat) (gi:List Int) (nW:Nat) (gj:List (List Int)) (ie:Bool) (ig:Bool) (ij:Bool) (ik:Int) (Pf:Nat) (yk:List Int) (Pg:Nat) (ym:List (List Int)) (Bf:Bool) (Bg:Bool) (Bh:Bool) (Bi:Int) (e0:nV=gi.length) (e1:nW=gj.length) (e2:Pf=yk.length) (e3:Pg=ym.length) (q0:bO (⟨gi,gj,ie,ig,ij,ik⟩:aB)) (q1:bO (⟨yk,ym,Bf,Bg,Bh,Bi⟩:aB)) (t:bD Rz):aO 164 [.agg [.sl (some true) 1 nV (ints gi),.sl (some true) 1 nW (rows (some true) gj),.bool ie,.bool ig,.bool ij,.int .i64 ik],.agg [.sl (some true) 1 Pf (ints yk),.sl (some true) 1 Pg (rows (some true) ym),.bool Bf,.bool Bg,.bool Bh,.int .i64 Bi]] t=feed t [.bool (lJ (⟨gi,gj,ie,ig,ij,ik⟩:aB) (⟨yk,ym,Bf,Bg,Bh,Bi⟩:aB))]:=by
 subst e0;subst e1;subst e2;subst e3;exact bw (r:=.bool (lJ (⟨gi,gj,ie,ig,ij,ik⟩:aB) (⟨yk,ym,Bf,Bg,Bh,Bi⟩:aB))) (s:=.bool) (ss:=[.undef,.undef]) (Gk true true (⟨gi,gj,ie,ig,ij,ik⟩:aB) (⟨yk,ym,Bf,Bg,Bh,Bi⟩:aB) q0 q1) (by kernel_rfl) (by simp only [ao,bm,aT,bn,bo,ae,ai,sC]) (by simp only [ae,aI,ao,ai,sC]) (by first | rfl | simp only [ak,aR,aQ,bh,bj,aS,bl,sC]) (by first | rfl | simp only [TO,acd,ak,sC]) t
@[go_sem] theorem abl (m0:Nat) (m:List Int) (e0:m0=m.length) (q0:m.length < 4611686018427387904) (t:bD Rz):aO 167 [.sl (some true) 1 m0 (ints m)] t=feed t [.bool (mC m)]:=by
 subst e0;exact bw (r:=.bool (mC m)) (s:=.bool) (ss:=[.undef]) (Ig true m q0) (by kernel_rfl) (by simp only [ao,bm,aT,bn,bo,ae,ai,sC]) (by simp only [ae,aI,ao,ai,sC]) (by first | rfl | simp only [ak,aR,aQ,bh,bj,aS,bl,sC]) (by first | rfl | simp only [TO,acd,ak,sC]) t
@[go_sem] theorem abm (m0:Nat) (m:List Int) (e0:m0=m.length) (q0:m.length < 4611686018427387904) (t:bD Rz):aO 160 [.sl (some true) 1 m0 (ints m)] t=feed t [.bool (mC m)]:=by
 subst e0;exact bw (r:=.bool (mC m)) (s:=.bool) (ss:=[.undef]) (Ie true m q0) (by kernel_rfl) (by simp only [ao,bm,aT,bn,bo,ae,ai,sC]) (by simp only [ae,aI,ao,ai,sC]) (by first | rfl | simp only [ak,aR,aQ,bh,bj,aS,bl,sC]) (by first | rfl | simp only [TO,acd,ak,sC]) t
@[go_sem] theorem abn (m0:Nat) (m:List Int) (e0:m0=m.length) (q0:m.length < 4611686018427387904) (t:bD Rz):aO 239 [.sl (some true) 1 m0 (ints m)] t=feed t [.bool (eo m)]:=by
 subst e0;exact bw (r:=.bool (eo m)) (s:=.bool) (ss:=[.undef]) (yd true m q0) (by kernel_rfl) (by simp only [ao,bm,aT,bn,bo,ae,ai,sC]) (by simp only [ae,aI,ao,ai,sC]) (by first | rfl | simp only [ak,aR,aQ,bh,bj,aS,bl,sC]) (by first | rfl | simp only [TO,acd,ak,sC]) t
@[go_sem] theorem abo (m0:Nat) (m:List Int) (e0:m0=m.length) (q0:m.length < 4611686018427387904) (t:bD Rz):aO 233 [.sl (some true) 1 m0 (ints m)] t=feed t [.bool (eo m)]:=by
 subst e0;exact bw (r:=.bool (eo m)) (s:=.bool) (ss:=[.undef]) (yc true m q0) (by kernel_rfl) (by simp only [ao,bm,aT,bn,bo,ae,ai,sC]) (by simp only [ae,aI,ao,ai,sC]) (by first | rfl | simp only [ak,aR,aQ,bh,bj,aS,bl,sC]) (by first | rfl | simp only [TO,acd,ak,sC]) t
@[go_sem] theorem abR (m0:Nat) (m:List Int) (e0:m0=m.length) (q0:m.length < 4611686018427387904) (t:bD Rz):aO 189 [.sl (some true) 1 m0 (ints m)] t=feed t [.bool (fN m)]:=by
 subst e0;exact bw (r:=.bool (fN m)) (s:=.bool) (ss:=[.undef]) (zD true m q0) (by kernel_rfl) (by simp only [ao,bm,aT,bn,bo,ae,ai,sC]) (by simp only [ae,aI,ao,ai,sC]) (by first | rfl | simp only [ak,aR,aQ,bh,bj,aS,bl,sC]) (by first | rfl | simp only [TO,acd,ak,sC]) t
@[go_sem] theorem abS (m0:Nat) (m:List Int) (e0:m0=m.length) (q0:m.length < 4611686018427387904) (t:bD Rz):aO 186 [.sl (some true) 1 m0 (ints m)] t=feed t [.bool (fN m)]:=by
 subst e0;exact bw (r:=.bool (fN m)) (s:=.bool) (ss:=[.undef]) (zC true m q0) (by kernel_rfl) (by simp only [ao,bm,aT,bn,bo,ae,ai,sC]) (by simp only [ae,aI,ao,ai,sC]) (by first | rfl | simp only [ak,aR,aQ,bh,bj,aS,bl,sC]) (by first | rfl | simp only [TO,acd,ak,sC]) t
@[go_sem] theorem aaf (m0:Nat) (m:List (List Int)) (e0:m0=m.length) (q0:rp m) (t:bD Rz):aO 169 [.sl (some true) 1 m0 (rows (some true) m)] t=feed t [.bool ((((m.length:Int)==3)&&hD m))]:=by
 subst e0;exact bw (r:=.bool ((((m.length:Int)==3)&&hD m))) (s:=.bool) (ss:=[.undef]) (Gi true m q0) (by kernel_rfl) (by simp only [ao,bm,aT,bn,bo,ae,ai,sC]) (by simp only [ae,aI,ao,ai,sC]) (by first | rfl | simp only [ak,aR,aQ,bh,bj,aS,bl,sC]) (by first | rfl | simp only [TO,acd,ak,sC]) t
@[go_sem] theorem abT (a:Int) (t:bD Rz):aO 92 [.int .i64 a] t=feed t [.bool (decide (0<=a/\a<=2))]:=by
 exact bw (r:=.bool (decide (0<=a/\a<=2))) (s:=.bool) (ss:=[.undef]) (Yz a) (by kernel_rfl) (by simp only [ao,bm,aT,bn,bo,ae,ai,sC]) (by simp only [ae,aI,ao,ai,sC]) (by first | rfl | simp only [ak,aR,aQ,bh,bj,aS,bl,sC]) (by first | rfl | simp only [TO,acd,ak,sC]) t
@[go_sem] theorem abU (a:Int) (t:bD Rz):aO 93 [.int .i64 a] t=feed t [.bool (decide (0<=a/\a<=7))]:=by
 exact bw (r:=.bool (decide (0<=a/\a<=7))) (s:=.bool) (ss:=[.undef]) (OR a) (by kernel_rfl) (by simp only [ao,bm,aT,bn,bo,ae,ai,sC]) (by simp only [ae,aI,ao,ai,sC]) (by first | rfl | simp only [ak,aR,aQ,bh,bj,aS,bl,sC]) (by first | rfl | simp only [TO,acd,ak,sC]) t
@[go_sem] theorem abp (a:Int) (t:bD Rz):aO 172 [.int .i64 a] t=feed t [.bool (decide (1<=a/\a<=200))]:=by
 exact bw (r:=.bool (decide (1<=a/\a<=200))) (s:=.bool) (ss:=[.undef]) (Wg a) (by kernel_rfl) (by simp only [ao,bm,aT,bn,bo,ae,ai,sC]) (by simp only [ae,aI,ao,ai,sC]) (by first | rfl | simp only [ak,aR,aQ,bh,bj,aS,bl,sC]) (by first | rfl | simp only [TO,acd,ak,sC]) t
@[go_sem] theorem aeE (a:Int) (t:bD Rz):aO 111 [.int .i64 a] t=feed t [.int .i64 (lI a)]:=by
 exact bw (r:=.int .i64 (lI a)) (s:=.int .i64) (ss:=[.undef]) (Qb a) (by kernel_rfl) (by simp only [ao,bm,aT,bn,bo,ae,ai,sC]) (by simp only [ae,aI,ao,ai,sC]) (by first | rfl | simp only [ak,aR,aQ,bh,bj,aS,bl,sC]) (by first | rfl | simp only [TO,acd,ak,sC]) t
@[go_sem] theorem aeF (a:Int) (t:bD Rz):aO 109 [.int .i64 a] t=feed t [.int .i64 (lI a)]:=by
 exact bw (r:=.int .i64 (lI a)) (s:=.int .i64) (ss:=[.undef]) (Qc a) (by kernel_rfl) (by simp only [ao,bm,aT,bn,bo,ae,ai,sC]) (by simp only [ae,aI,ao,ai,sC]) (by first | rfl | simp only [ak,aR,aQ,bh,bj,aS,bl,sC]) (by first | rfl | simp only [TO,acd,ak,sC]) t
@[go_sem] theorem aec (m0:Nat) (m:List Int) (a:Int) (e0:m0=m.length) (q0:m.length < 4611686018427387904) (t:bD Rz):aO 102 [.sl (some true) 1 m0 (ints m),.int .i64 a] t=feed t [.bool (decide (a∈m))]:=by
 subst e0;exact bw (r:=.bool (decide (a∈m))) (s:=.bool) (ss:=[.undef,.undef]) (Ru true m a q0) (by kernel_rfl) (by simp only [ao,bm,aT,bn,bo,ae,ai,sC]) (by simp only [ae,aI,ao,ai,sC]) (by first | rfl | simp only [ak,aR,aQ,bh,bj,aS,bl,sC]) (by first | rfl | simp only [TO,acd,ak,sC]) t
@[go_sem] theorem Ph (m0:Nat) (m:List Int) (a:Int) (e0:m0=m.length) (q0:m.length < 4611686018427387904) (t:bD Rz):aO 106 [.sl (some true) 1 m0 (ints m),.int .i64 a] t=feed t [.bool (decide (a∈m))]:=by
 subst e0;exact bw (r:=.bool (decide (a∈m))) (s:=.bool) (ss:=[.undef,.undef]) (F9 true m a q0) (by kernel_rfl) (by simp only [ao,bm,aT,bn,bo,ae,ai,sC]) (by simp only [ae,aI,ao,ai,sC]) (by first | rfl | simp only [ak,aR,aQ,bh,bj,aS,bl,sC]) (by first | rfl | simp only [TO,acd,ak,sC]) t
@[go_sem] theorem abV (m0:Nat) (m:List Int) (k0:Nat) (k:List Int) (e0:m0=m.length) (e1:k0=k.length) (q0:m.length < 4611686018427387904) (q1:k.length < 4611686018427387904) (t:bD Rz):aO 193 [.sl (some true) 1 m0 (ints m),.sl (some true) 1 k0 (ints k)] t=feed t [.bool (decide (m=k))]:=by
 subst e0;subst e1;exact bw (r:=.bool (decide (m=k))) (s:=.bool) (ss:=[.undef,.undef]) (OV true true m k q0 q1) (by kernel_rfl) (by simp only [ao,bm,aT,bn,bo,ae,ai,sC]) (by simp only [ae,aI,ao,ai,sC]) (by first | rfl | simp only [ak,aR,aQ,bh,bj,aS,bl,sC]) (by first | rfl | simp only [TO,acd,ak,sC]) t
@[go_sem] theorem RC (m0:Nat) (m:List Int) (k0:Nat) (k:List Int) (e0:m0=m.length) (e1:k0=k.length) (q0:m.length < 4611686018427387904) (q1:k.length < 4611686018427387904) (t:bD Rz):aO 202 [.sl (some true) 1 m0 (ints m),.sl (some true) 1 k0 (ints k)] t=feed t [.bool (decide (m=k))]:=by
 subst e0;subst e1;exact bw (r:=.bool (decide (m=k))) (s:=.bool) (ss:=[.undef,.undef]) (Rw true true m k q0 q1) (by kernel_rfl) (by simp only [ao,bm,aT,bn,bo,ae,ai,sC]) (by simp only [ae,aI,ao,ai,sC]) (by first | rfl | simp only [ak,aR,aQ,bh,bj,aS,bl,sC]) (by first | rfl | simp only [TO,acd,ak,sC]) t
def q9 (n:U) (k:Nat):Prop:=(n.conn.getD k false=true->n.up=true/\¬(k:Int)=n.id)/\(n.aH.getD k false=true->n.conn.getD k false=true)/\(0 < ((n.sync.getD k []).length:Int)->n.aH.getD k false=true)
def Ti (w:List Int) (i:Nat):Prop:=(1<=w.getD i 0/\w.getD i 0<=200)/\(0 < (i:Int)->¬w.getD i 0<=w.getD (i - 1) 0)
structure ra (n:U):Prop where
 id:0<=n.id/\n.id<=2
 image:mC n.image=true
 mt:ed n.mt=true
 conn:(n.conn.length:Int)=3
 sync:(n.sync.length:Int)=3
 marks:∀ k,k < n.sync.length->eo (n.sync.getD k [])=true
 aH:(n.aH.length:Int)=3
 bS:n.bS=true->n.up=true/\¬n.id=2
 down:¬n.up=true->¬0 < (n.wait.length:Int)
 slot:(aK n.aA).2.2=true
 same:lJ (aK n.aA).1 n.mt=true
 link:∀ k,k < 3->q9 n k
 wait:∀ i,i < n.wait.length->Ti n.wait i
open Classical in
noncomputable def cU (n:U):Bool:=decide (ra n)
open Classical in
theorem Tj {n:U} (h:ra n):cU n=true:=by unfold cU; exact decide_eq_true h
open Classical in
theorem qg {n:U} (h:cU n=true):ra n:=by unfold cU at h; exact of_decide_eq_true h
open Classical in
theorem dP {n:U} (h:¬ra n):(some ((.bool false,[.undef]):Rz))=some (.bool (cU n),[.undef]):=by unfold cU; rw [decide_eq_false h]
theorem J1 {n:U} (h:ra n):(some ((.bool true,[.undef]):Rz))=some (.bool (cU n),[.undef]):=by rw [Tj h]
theorem Bj {xss:List (List Int)} (h:hD xss=true):∀ k,k < xss.length->eo (xss.getD k [])=true:=fun k hk=>by
 unfold hD at h;exact ab9.1 h k (agq.2 hk)
theorem CX {xss:List (List Int)} (h:∀ k,k < xss.length->eo (xss.getD k [])=true):hD xss=true:=by
 unfold hD;exact ab9.2 fun k hk=>h k (agq.1 hk)
theorem uA {xss:List (List Int)} (h:rp xss) (k:Nat):(xss.getD k []).length<=1048576:=by
 by_cases hk:k < xss.length
 ·rw [bJ hk];exact h.2 _ (acN hk)
 ·rw [af6,ac3 (agm.1 hk)];simp
theorem aed {R:Type} {p u b2 b3:Bool} {T F r:R} (hT:(p=true->u=true/\b2=false)->(u=false->b3=false)->T=r) (hF:((p=true->u=true/\b2=false)->(u=false->b3=false)->False)->F=r):br p (br (br u false true) F (br b2 F (br (br u false true) (br b3 F T) T))) (br (br u false true) (br b3 F T) T)=r:=by
 cases p<;>cases u<;>cases b2<;>cases b3<;>simp only [br]<;>first | exact hT (by simp) (by simp) | exact hF (by simp)
theorem zU (n:U) (q0:aV n):Cm 76 [.agg (ab (some true) n)] (.bool (cU n),[.undef]):=by
 have ok:=q0;have s1:=ok.image;have s2:=ok.conn;have s3:=ok.aH;have s4:=ok.wait;have s5:=ok.sync.1;have s6:=ok.mt;have s7:=ok.sync;have s8:=q0.aA;have s9:=Gw n.aA;refine Cm.step Lr [.undef] fun J hJ=>?_;rw [Ls];simp (disch:=first | assumption | omega) only [go_sem]
 refine dn (fun h1=>?_) (fun h=>dP fun o=>h o.id);simp (disch:=first | assumption | omega) only [go_sem]
 refine jE (fun h2=>?_) (fun h=>dP fun o=>h o.image);simp (disch:=first | assumption | omega) only [go_sem]
 refine jE (fun h3=>?_) (fun h=>dP fun o=>h o.mt);simp (disch:=first | assumption | omega) only [go_sem]
 refine dn (fun h4=>?_) (fun h=>dP fun o=>h o.conn);simp (disch:=first | assumption | omega) only [go_sem]
 refine jE (fun h5=>?_) (fun h=>dP fun o=>h (by simp only [o.sync,CX o.marks,ag7]; rfl))
 simp only [wX,beq_iff_eq] at h5;simp (disch:=first | assumption | omega) only [go_sem]
 refine dn (fun h6=>?_) (fun h=>dP fun o=>h o.aH);refine aed (fun h7 h8=>?_) (fun h=>dP fun o=>h (fun hp=>⟨(o.bS hp).1,decide_eq_false (o.bS hp).2⟩) fun hu=>decide_eq_false (o.down (by rw [hu]; simp)))
 have h7:n.bS=true->n.up=true/\¬n.id=2:=fun hp=>⟨(h7 hp).1,of_decide_eq_false (h7 hp).2⟩;have h8:¬n.up=true->¬0 < (n.wait.length:Int):=fun hu=>of_decide_eq_false (h8 (by simpa using hu))
 simp (disch:=first | assumption | omega) only [go_sem]
 refine jE (fun h9=>?_) (fun h=>dP fun o=>h o.slot);simp (disch:=first | assumption | omega) only [go_sem]
 refine jE (fun lz=>?_) (fun h=>dP fun o=>h o.same);have afI:(∀ k,k < 3->q9 n k)->WP 76 Tryz.f76 [.undef] 2 (iW n n.wait.length 0) (.bool (cU n),[.undef]):=by
  intro MP;refine WP.up (H:=fun i=>iW n n.wait.length i) n.wait.length (fun i=>∀ k,k < i->Ti n.wait k) (fun i hi inv J _ next=>?_) 0 (adt _) (fun k hk=>absurd hk (by omega))
  rw [D3];simp (disch:=first | assumption | omega) only [go_sem]
  refine dn (fun cK=>?_) (fun qv=>J1 ⟨h1,h2,h3,h4,h5.1,Bj h5.2,h6,h7,h8,h9,lz,MP,fun k hk=>inv k (by omega)⟩)
  simp (disch:=first | assumption | omega) only [go_sem]
  refine dn (fun ha=>?_) (fun h=>dP fun o=>h (o.wait i (by omega)).1)
  have go:(0 < (i:Int)->¬n.wait.getD i 0<=n.wait.getD (i - 1) 0)->J 2 (iW n n.wait.length ((i:Int)+1))=some (.bool (cU n),[.undef]):=fun hb=>next (by omega) fun k hk=>by
   by_cases e:k=i
   ·subst e; exact ⟨ha,hb⟩
   ·exact inv k (by omega)
  refine dn (fun oE=>?_) (fun hz=>?_)
  ·simp (disch:=first | assumption | omega) only [go_sem]
   have e1:((i:Int) - 1).toNat=i - 1:=by omega
   simp (disch:=first | assumption | omega) only [go_sem,e1]
   exact dn (fun h=>dP fun o=>(o.wait i (by omega)).2 oE h) (fun h=>go fun _=>h)
  ·simp (disch:=first | assumption | omega) only [go_sem]
   exact go fun h=>absurd h hz
 refine hJ _ _ ?_;refine WP.up (H:=fun i=>iV n i) 3 (fun i=>∀ k,k < i->q9 n k) (fun i hi inv J hJ next=>?_) 0 (adt _) (fun k hk=>absurd hk (by omega))
 rw [D2];dsimp only;simp (disch:=first | assumption | omega) only [go_sem]
 refine dn (fun cK=>?_) (fun qv=>hJ _ _ (afI fun k hk=>inv k (by omega)))
 have Uw:i < 3:=by omega
 have go:q9 n i->J 0 (iV n ((i:Int)+1))=some (.bool (cU n),[.undef]):=fun hb=>next (by omega) fun k hk=>by
   by_cases e:k=i
   ·subst e; exact hb
   ·exact inv k (by omega)
 have no:¬q9 n i->(some ((.bool false,[.undef]):Rz))=some (.bool (cU n),[.undef]):=fun h=>dP fun o=>h (o.link i Uw);have eJ:ad.ar .add .i64 (i:Int) 1=(i:Int)+1:=aac (by omega) (by omega)
 rw [eJ];generalize J 0 (iV n ((i:Int)+1))=z at go ⊢;unfold q9 at go no;cases hc:n.conn.getD i false<;>cases hk:n.aH.getD i false<;>cases hu:n.up<;>by_cases hs:0 < ((n.sync.getD i []).length:Int)<;>by_cases VU:(i:Int)=n.id<;>simp only [hc,hk,hu,hs,VU,not_true_eq_false,not_false_eq_true,false_and,and_false,and_true,true_and,forall_const,acq,false_implies,imp_self,true_implies,and_self] at go no<;>simp (disch:=first | assumption | omega) only [go_sem,hc,hk,hu]<;>first | exact no | exact go
@[go_sem] theorem abW (tq:Int) (tt:Bool) (tu:Bool) (wD:Nat) (ma:List Int) (tv:Nat) (iX:List Int) (tw:Nat) (iY:List (List Int)) (la:Bool) (ld:Bool) (lf:Bool) (lg:Int) (tA:Nat) (iZ:List UInt8) (tB:Nat) (ja:List UInt8) (Bk:Nat) (qh:List Bool) (Bl:Nat) (qi:List (List Int)) (Bm:Nat) (qj:List Bool) (Bn:Nat) (qk:List Int) (e0:wD=ma.length) (e1:tv=iX.length) (e2:tw=iY.length) (e3:tA=iZ.length) (e4:tB=ja.length) (e5:Bk=qh.length) (e6:Bl=qi.length) (e7:Bm=qj.length) (e8:Bn=qk.length) (q0:aV (⟨tq,tt,tu,ma,(⟨iX,iY,la,ld,lf,lg⟩:aB),(⟨iZ,ja⟩:aD),qh,qi,qj,qk⟩:U)) (t:bD Rz):aO 76 [.agg [.int .i64 tq,.bool tt,.bool tu,.sl (some true) 1 wD (ints ma),.sl (some true) 1 tv (ints iX),.sl (some true) 1 tw (rows (some true) iY),.bool la,.bool ld,.bool lf,.int .i64 lg,.sl (some true) 1 tA (bytes iZ),.sl (some true) 1 tB (bytes ja),.sl (some true) 1 Bk (aE qh),.sl (some true) 1 Bl (rows (some true) qi),.sl (some true) 1 Bm (aE qj),.sl (some true) 1 Bn (ints qk)]] t=feed t [.bool (cU (⟨tq,tt,tu,ma,(⟨iX,iY,la,ld,lf,lg⟩:aB),(⟨iZ,ja⟩:aD),qh,qi,qj,qk⟩:U))]:=by
 subst e0;subst e1;subst e2;subst e3;subst e4;subst e5;subst e6;subst e7;subst e8;exact bw (r:=.bool (cU (⟨tq,tt,tu,ma,(⟨iX,iY,la,ld,lf,lg⟩:aB),(⟨iZ,ja⟩:aD),qh,qi,qj,qk⟩:U))) (s:=.bool) (ss:=[.undef]) (zU (⟨tq,tt,tu,ma,(⟨iX,iY,la,ld,lf,lg⟩:aB),(⟨iZ,ja⟩:aD),qh,qi,qj,qk⟩:U) q0) (by kernel_rfl) (by simp only [ao,bm,aT,bn,bo,ae,ai,sC]) (by simp only [ae,aI,ao,ai,sC]) (by first | rfl | simp only [ak,aR,aQ,bh,bj,aS,bl,sC]) (by first | rfl | simp only [TO,acd,ak,sC]) t
set_option maxRecDepth 100000
section
variable (pr:ej) (cv:Cv Rz) (J:Nat->St->Option Rz)
theorem Gx:Told cfg Tryz.prog 294 Tryz.f294:=⟨by kernel_rfl,Tryz.func294,by kernel_rfl⟩
theorem Gy (x0:U):aU pr cv J 294 Tryz.f294 [(.agg (ab (some true) x0))]=
 let y1:Option (D × List D):=(some ((.bool false),[.undef]))
 (cv 76 [(.agg (ab (some true) x0))] (.bool (fun ct=>(.done (br ct (br x0.bS (cv 111 [(.int .i64 x0.id)] (.int (fun fk=>(.done (br (pr.bR fk x0.conn.length) (br (br (pr.eH (aE x0.conn) (pr.idx 0 fk 1)) true false) (br (pr.df (aE x0.conn) (pr.idx 0 fk 1)) (some ((.bool true),[.undef])) (some ((.bool x0.mt.held),[.undef]))) none) none))))) y1) y1))))):=by kernel_rfl
theorem Gz:Told cfg Tryz.prog 259 Tryz.f259:=⟨by kernel_rfl,Tryz.func259,by kernel_rfl⟩
theorem GA (x0:U):aU pr cv J 259 Tryz.f259 [(.agg (ab (some true) x0))]=
 let y1:Option (D × List D):=(some ((.bool false),[.undef]))
 (cv 69 [(.agg (ab (some true) x0))] (.bool (fun ct=>(.done (br ct (br x0.bS (cv 109 [(.int .i64 x0.id)] (.int (fun fk=>(.done (br (pr.bR fk x0.conn.length) (br (br (pr.eH (aE x0.conn) (pr.idx 0 fk 1)) true false) (br (pr.df (aE x0.conn) (pr.idx 0 fk 1)) (some ((.bool true),[.undef])) (some ((.bool x0.mt.held),[.undef]))) none) none))))) y1) y1))))):=by kernel_rfl
end
structure Ca (n:U):Prop where
 conn:(n.conn.length:Int)=3
 sync:(n.sync.length:Int)=3
 aH:(n.aH.length:Int)=3
 link:∀ k,k < 3->eo (n.sync.getD k [])=true/\q9 n k
open Classical in
noncomputable def nX (n:U):Bool:=decide (Ca n)
open Classical in
theorem YF {n:U} (h:nX n=true):Ca n:=by unfold nX at h; exact of_decide_eq_true h
open Classical in
theorem J2 {n:U} (h:Ca n):nX n=true:=by unfold nX; exact decide_eq_true h
open Classical in
theorem vK {n:U} (h:¬Ca n):(some ((.bool false,[.undef]):Rz))=some (.bool (nX n),[.undef]):=by unfold nX; rw [decide_eq_false h]
theorem Ix (n:U) (q0:aV n):Cm 162 [.agg (ab (some true) n)] (.bool (nX n),[.undef]):=by
 have ok:=q0;have s5:=ok.sync.1;have s7:=ok.sync;refine Cm.step Iv [.undef] fun J hJ=>?_;rw [Iw];simp (disch:=first | assumption | omega) only [go_sem]
 refine dn (fun h1=>?_) (fun h=>vK fun o=>h o.conn);simp (disch:=first | assumption | omega) only [go_sem]
 refine dn (fun h2=>?_) (fun h=>vK fun o=>h o.sync);simp (disch:=first | assumption | omega) only [go_sem]
 refine dn (fun h3=>?_) (fun h=>vK fun o=>h o.aH);refine hJ _ _ ?_;refine WP.up (H:=fun i=>iw n i) 3 (fun i=>∀ k,k < i->eo (n.sync.getD k [])=true/\q9 n k) (fun i hi inv J hJ next=>?_) 0 (adt _) (fun k hk=>absurd hk (by omega))
 rw [Ci];dsimp only;simp (disch:=first | assumption | omega) only [go_sem]
 refine dn (fun cK=>?_) (fun qv=>by rw [J2 ⟨h1,h2,h3,fun k hk=>inv k (by omega)⟩])
 have Uw:i < 3:=by omega
 have s8:=uA s7 i;simp (disch:=first | assumption | omega) only [go_sem]
 refine jE (fun hm=>?_) (fun h=>vK fun o=>h (o.link i Uw).1);have go:q9 n i->J 0 (iw n ((i:Int)+1))=some (.bool (nX n),[.undef]):=fun hb=>next (by omega) fun k hk=>by
  by_cases e:k=i
  ·subst e; exact ⟨hm,hb⟩
  ·exact inv k (by omega)
 have no:¬q9 n i->(some ((.bool false,[.undef]):Rz))=some (.bool (nX n),[.undef]):=fun h=>vK fun o=>h (o.link i Uw).2;have eJ:ad.ar .add .i64 (i:Int) 1=(i:Int)+1:=aac (by omega) (by omega)
 rw [eJ];generalize J 0 (iw n ((i:Int)+1))=z at go ⊢;unfold q9 at go no;cases hc:n.conn.getD i false<;>cases hk:n.aH.getD i false<;>cases hu:n.up<;>by_cases hs:0 < ((n.sync.getD i []).length:Int)<;>by_cases VU:(i:Int)=n.id<;>simp only [hc,hk,hu,hs,VU,not_true_eq_false,not_false_eq_true,false_and,and_false,and_true,true_and,forall_const,acq,false_implies,imp_self,true_implies,and_self] at go no<;>simp (disch:=first | assumption | omega) only [go_sem,hc,hk,hu]<;>first | exact no | exact go
@[go_sem] theorem abq (tq:Int) (tt:Bool) (tu:Bool) (wD:Nat) (ma:List Int) (tv:Nat) (iX:List Int) (tw:Nat) (iY:List (List Int)) (la:Bool) (ld:Bool) (lf:Bool) (lg:Int) (tA:Nat) (iZ:List UInt8) (tB:Nat) (ja:List UInt8) (Bk:Nat) (qh:List Bool) (Bl:Nat) (qi:List (List Int)) (Bm:Nat) (qj:List Bool) (Bn:Nat) (qk:List Int) (e0:wD=ma.length) (e1:tv=iX.length) (e2:tw=iY.length) (e3:tA=iZ.length) (e4:tB=ja.length) (e5:Bk=qh.length) (e6:Bl=qi.length) (e7:Bm=qj.length) (e8:Bn=qk.length) (q0:aV (⟨tq,tt,tu,ma,(⟨iX,iY,la,ld,lf,lg⟩:aB),(⟨iZ,ja⟩:aD),qh,qi,qj,qk⟩:U)) (t:bD Rz):aO 162 [.agg [.int .i64 tq,.bool tt,.bool tu,.sl (some true) 1 wD (ints ma),.sl (some true) 1 tv (ints iX),.sl (some true) 1 tw (rows (some true) iY),.bool la,.bool ld,.bool lf,.int .i64 lg,.sl (some true) 1 tA (bytes iZ),.sl (some true) 1 tB (bytes ja),.sl (some true) 1 Bk (aE qh),.sl (some true) 1 Bl (rows (some true) qi),.sl (some true) 1 Bm (aE qj),.sl (some true) 1 Bn (ints qk)]] t=feed t [.bool (nX (⟨tq,tt,tu,ma,(⟨iX,iY,la,ld,lf,lg⟩:aB),(⟨iZ,ja⟩:aD),qh,qi,qj,qk⟩:U))]:=by
 subst e0;subst e1;subst e2;subst e3;subst e4;subst e5;subst e6;subst e7;subst e8;exact bw (r:=.bool (nX (⟨tq,tt,tu,ma,(⟨iX,iY,la,ld,lf,lg⟩:aB),(⟨iZ,ja⟩:aD),qh,qi,qj,qk⟩:U))) (s:=.bool) (ss:=[.undef]) (Ix (⟨tq,tt,tu,ma,(⟨iX,iY,la,ld,lf,lg⟩:aB),(⟨iZ,ja⟩:aD),qh,qi,qj,qk⟩:U) q0) (by kernel_rfl) (by simp only [ao,bm,aT,bn,bo,ae,ai,sC]) (by simp only [ae,aI,ao,ai,sC]) (by first | rfl | simp only [ak,aR,aQ,bh,bj,aS,bl,sC]) (by first | rfl | simp only [TO,acd,ak,sC]) t
theorem zV (n:U) (q0:aV n):Cm 69 [.agg (ab (some true) n)] (.bool (cU n),[.undef]):=by
 have ok:=q0;have s1:=ok.image;have s2:=ok.conn;have s3:=ok.aH;have s4:=ok.wait;have s5:=ok.sync.1;have s6:=ok.mt;have s7:=ok.sync;have s8:=q0.aA;have s9:=Gw n.aA;refine Cm.step Lt [.undef] fun J hJ=>?_;rw [Lu];simp (disch:=first | assumption | omega) only [go_sem]
 refine dn (fun h1=>?_) (fun h=>dP fun o=>h o.id);simp (disch:=first | assumption | omega) only [go_sem]
 refine jE (fun h2=>?_) (fun h=>dP fun o=>h o.image);simp (disch:=first | assumption | omega) only [go_sem]
 refine jE (fun h3=>?_) (fun h=>dP fun o=>h o.mt);simp (disch:=first | assumption | omega) only [go_sem]
 refine jE (fun h4=>?_) (fun h=>dP fun o=>h (J2 ⟨o.conn,o.sync,o.aH,fun k hk=>⟨o.marks k (by have:=o.sync; omega),o.link k hk⟩⟩))
 have h4:=YF h4;have h5:=h4.sync;refine aed (fun h7 h8=>?_) (fun h=>dP fun o=>h (fun hp=>⟨(o.bS hp).1,decide_eq_false (o.bS hp).2⟩) fun hu=>decide_eq_false (o.down (by rw [hu]; simp)))
 have h7:n.bS=true->n.up=true/\¬n.id=2:=fun hp=>⟨(h7 hp).1,of_decide_eq_false (h7 hp).2⟩;have h8:¬n.up=true->¬0 < (n.wait.length:Int):=fun hu=>of_decide_eq_false (h8 (by simpa using hu))
 refine hJ _ _ ?_;refine WP.up (H:=fun i=>kZ n i) n.wait.length (fun i=>∀ k,k < i->Ti n.wait k) (fun i hi inv J _ next=>?_) 0 (adt _) (fun k hk=>absurd hk (by omega))
 rw [D4];simp (disch:=first | assumption | omega) only [go_sem]
 refine dn (fun cK=>?_) (fun qv=>?_)
 ·simp (disch:=first | assumption | omega) only [go_sem]
  refine dn (fun ha=>?_) (fun h=>dP fun o=>h (o.wait i (by omega)).1)
  simp (disch:=first | assumption | omega) only [go_sem]
  have go:(0 < (i:Int)->¬n.wait.getD i 0<=n.wait.getD (i - 1) 0)->J 0 (kZ n ((i:Int)+1))=some (.bool (cU n),[.undef]):=fun hb=>next (by omega) fun k hk=>by
   by_cases e:k=i
   ·subst e; exact ⟨ha,hb⟩
   ·exact inv k (by omega)
  refine dn (fun oE=>?_) (fun hz=>?_)
  ·have e1:((i:Int) - 1).toNat=i - 1:=by omega
   simp (disch:=first | assumption | omega) only [go_sem,e1]
   exact dn (fun h=>dP fun o=>(o.wait i (by omega)).2 oE h) (fun h=>go fun _=>h)
  ·exact go fun h=>absurd h hz
 ·have yes:(aK n.aA).2.2=true->lJ (aK n.aA).1 n.mt=true->ra n:=fun a b=>⟨h1,h2,h3,h4.conn,h4.sync,fun k hk=>(h4.link k (by omega)).1,h4.aH,h7,h8,a,b,fun k hk=>(h4.link k hk).2,fun k hk=>inv k (by omega)⟩
  simp (disch:=first | assumption | omega) only [go_sem]
  refine jE (fun h9=>?_) (fun h=>dP fun o=>h o.slot);simp (disch:=first | assumption | omega) only [go_sem]
  cases lz:lJ (aK n.aA).1 n.mt with
  | true=>exact J1 (yes h9 lz)
  | false=>exact dP fun o=>by have:=o.same; rw [lz] at this; simp at this
@[go_sem] theorem abX (tq:Int) (tt:Bool) (tu:Bool) (wD:Nat) (ma:List Int) (tv:Nat) (iX:List Int) (tw:Nat) (iY:List (List Int)) (la:Bool) (ld:Bool) (lf:Bool) (lg:Int) (tA:Nat) (iZ:List UInt8) (tB:Nat) (ja:List UInt8) (Bk:Nat) (qh:List Bool) (Bl:Nat) (qi:List (List Int)) (Bm:Nat) (qj:List Bool) (Bn:Nat) (qk:List Int) (e0:wD=ma.length) (e1:tv=iX.length) (e2:tw=iY.length) (e3:tA=iZ.length) (e4:tB=ja.length) (e5:Bk=qh.length) (e6:Bl=qi.length) (e7:Bm=qj.length) (e8:Bn=qk.length) (q0:aV (⟨tq,tt,tu,ma,(⟨iX,iY,la,ld,lf,lg⟩:aB),(⟨iZ,ja⟩:aD),qh,qi,qj,qk⟩:U)) (t:bD Rz):aO 69 [.agg [.int .i64 tq,.bool tt,.bool tu,.sl (some true) 1 wD (ints ma),.sl (some true) 1 tv (ints iX),.sl (some true) 1 tw (rows (some true) iY),.bool la,.bool ld,.bool lf,.int .i64 lg,.sl (some true) 1 tA (bytes iZ),.sl (some true) 1 tB (bytes ja),.sl (some true) 1 Bk (aE qh),.sl (some true) 1 Bl (rows (some true) qi),.sl (some true) 1 Bm (aE qj),.sl (some true) 1 Bn (ints qk)]] t=feed t [.bool (cU (⟨tq,tt,tu,ma,(⟨iX,iY,la,ld,lf,lg⟩:aB),(⟨iZ,ja⟩:aD),qh,qi,qj,qk⟩:U))]:=by
 subst e0;subst e1;subst e2;subst e3;subst e4;subst e5;subst e6;subst e7;subst e8;exact bw (r:=.bool (cU (⟨tq,tt,tu,ma,(⟨iX,iY,la,ld,lf,lg⟩:aB),(⟨iZ,ja⟩:aD),qh,qi,qj,qk⟩:U))) (s:=.bool) (ss:=[.undef]) (zV (⟨tq,tt,tu,ma,(⟨iX,iY,la,ld,lf,lg⟩:aB),(⟨iZ,ja⟩:aD),qh,qi,qj,qk⟩:U) q0) (by kernel_rfl) (by simp only [ao,bm,aT,bn,bo,ae,ai,sC]) (by simp only [ae,aI,ao,ai,sC]) (by first | rfl | simp only [ak,aR,aQ,bh,bj,aS,bl,sC]) (by first | rfl | simp only [TO,acd,ak,sC]) t
theorem RD {n:U} (h:ra n) (hp:n.bS=true):0<=lI n.id/\lI n.id<=1:=by
 have h1:=h.id;have h2:=(h.bS hp).2;unfold lI;split<;>omega
noncomputable def mh (n:U):Bool:=cU n&&(n.bS&&(n.conn.getD (lI n.id).toNat false||n.mt.held))
theorem GB (n:U) (q0:aV n):Cm 294 [.agg (ab (some true) n)] (.bool (mh n),[.undef]):=by
 refine Cm.step Gx _ fun J hJ=>?_;rw [Gy];unfold mh;simp (disch:=first | assumption | omega) only [go_sem]
 refine jE (fun h1=>?_) (fun h=>by rw [eq_false_of_ne_true h]; rfl)
 rw [h1];simp (disch:=first | assumption | omega) only [go_sem]
 refine jE (fun h2=>?_) (fun h=>by rw [eq_false_of_ne_true h]; rfl)
 have ok:=qg h1;have m:=RD ok h2;have c:=ok.conn;rw [h2];simp (disch:=first | assumption | omega) only [go_sem]
 refine jE (fun h3=>?_) (fun h3=>?_)
 ·rw [h3]; rfl
 ·rw [eq_false_of_ne_true h3]; rfl
theorem GC (n:U) (q0:aV n):Cm 259 [.agg (ab (some true) n)] (.bool (mh n),[.undef]):=by
 refine Cm.step Gz _ fun J hJ=>?_;rw [GA];unfold mh;simp (disch:=first | assumption | omega) only [go_sem]
 refine jE (fun h1=>?_) (fun h=>by rw [eq_false_of_ne_true h]; rfl)
 rw [h1];simp (disch:=first | assumption | omega) only [go_sem]
 refine jE (fun h2=>?_) (fun h=>by rw [eq_false_of_ne_true h]; rfl)
 have ok:=qg h1;have m:=RD ok h2;have c:=ok.conn;rw [h2];simp (disch:=first | assumption | omega) only [go_sem]
 refine jE (fun h3=>?_) (fun h3=>?_)
 ·rw [h3]; rfl
 ·rw [eq_false_of_ne_true h3]; rfl
set_option maxRecDepth 100000
section
variable {a b:Bool} {o:List D} {X:Option Rz}
theorem ki (h:a=true->X=some (.bool b,o)):br a X (some (.bool false,o))=some (.bool (a&&b),o):=by cases a with | true=>exact h rfl | false=>rfl
theorem nY (h:a=false->X=some (.bool b,o)):br a (some (.bool false,o)) X=some (.bool (!a&&b),o):=by cases a with | true=>rfl | false=>exact h rfl
theorem aee (h:a=false->X=some (.bool b,o)):br a (some (.bool true,o)) X=some (.bool (a||b),o):=by cases a with | true=>rfl | false=>exact h rfl
end
def lh (g:Option Bool) (x:aB):List D:=bd g x
@[go_sem] theorem ajk (g:Option Bool) (Wo:Nat) (xa:List Int) (J3:Nat) (xb:List (List Int)) (xf:Bool) (xo:Bool) (xh:Bool) (xl:Int) (xa1:Wo=xa.length) (Wp:J3=xb.length):D.agg [.sl g 1 Wo (ints xa),.sl g 1 J3 (rows g xb),.bool xf,.bool xo,.bool xh,.int .i64 xl]=.agg (lh g ⟨xa,xb,xf,xo,xh,xl⟩):=by
 subst xa1;subst Wp;rfl
@[go_sem] theorem ajl (x:aB):bz true (lh none x)=lh (some true) x:=by
 unfold lh
 first | rfl | simp only [go_sem,eb,bz,hC,iM,iC,kJ]
def j7 (g:Option Bool) (x:aD):List D:=bL g x
@[go_sem] theorem ahX (g:Option Bool) (Wo:Nat) (xa:List UInt8) (J3:Nat) (xb:List UInt8) (xa1:Wo=xa.length) (Wp:J3=xb.length):D.agg [.sl g 1 Wo (bytes xa),.sl g 1 J3 (bytes xb)]=.agg (j7 g ⟨xa,xb⟩):=by
 subst xa1;subst Wp;rfl
@[go_sem] theorem ahY (x:aD):bz true (j7 none x)=j7 (some true) x:=by
 unfold j7
 first | rfl | simp only [go_sem,eb,bz,hC,iM,iC,kJ]
def dD (g:Option Bool) (x:U):List D:=ab g x
@[go_sem] theorem ajm (g:Option Bool) (xi:Int) (xu:Bool) (xp:Bool) (Pj:Nat) (Pk:List Int) (Pl:Nat) (Pm:List Int) (Pn:Nat) (Po:List (List Int)) (Wq:Bool) (Wt:Bool) (Wu:Bool) (Wv:Int) (Pp:Nat) (Pq:List UInt8) (Pr:Nat) (Pt:List UInt8) (Ww:Nat) (xc:List Bool) (Wx:Nat) (xy:List (List Int)) (Wy:Nat) (xk:List Bool) (J4:Nat) (xw:List Int) (YG:Pj=Pk.length) (YH:Pl=Pm.length) (YI:Pn=Po.length) (YJ:Pp=Pq.length) (YK:Pr=Pt.length) (xc1:Ww=xc.length) (xy1:Wx=xy.length) (xk1:Wy=xk.length) (Wz:J4=xw.length):D.agg [.int .i64 xi,.bool xu,.bool xp,.sl g 1 Pj (ints Pk),.sl g 1 Pl (ints Pm),.sl g 1 Pn (rows g Po),.bool Wq,.bool Wt,.bool Wu,.int .i64 Wv,.sl g 1 Pp (bytes Pq),.sl g 1 Pr (bytes Pt),.sl g 1 Ww (aE xc),.sl g 1 Wx (rows g xy),.sl g 1 Wy (aE xk),.sl g 1 J4 (ints xw)]=.agg (dD g ⟨xi,xu,xp,Pk,⟨Pm,Po,Wq,Wt,Wu,Wv⟩,⟨Pq,Pt⟩,xc,xy,xk,xw⟩):=by
 subst YG;subst YH;subst YI;subst YJ;subst YK;subst xc1;subst xy1;subst xk1;subst Wz;rfl
@[go_sem] theorem ajn (x:U):bz true (dD none x)=dD (some true) x:=by
 unfold dD
 first | rfl | simp only [go_sem,eb,bz,hC,iM,iC,kJ]
def afJ (g:Option Bool) (x:dr):List D:=cS g x
@[go_sem] theorem ajo (g:Option Bool) (xf:Int) (xt:Int) (J3:Nat) (xb:List UInt8) (Wp:J3=xb.length):D.agg [.int .i64 xf,.int .i64 xt,.sl g 1 J3 (bytes xb)]=.agg (afJ g ⟨xf,xt,xb⟩):=by
 subst Wp;rfl
def yn (g:Option Bool) (x:gO):List D:=nG g x
@[go_sem] theorem ahZ (g:Option Bool) (WA:Nat) (xn:List U) (J4:Nat) (xw:List dr) (WB:Nat) (xl:List js) (WC:Nat) (xs:List Int) (xg:Int) (xn1:WA=xn.length) (Wz:J4=xw.length) (xl1:WB=xl.length) (xs1:WC=xs.length):D.agg [.sl g 16 WA (aM (ab g) xn),.sl g 3 J4 (aM (cS g) xw),.sl g 2 WB (aM (fY g) xl),.sl g 1 WC (ints xs),.int .i64 xg]=.agg (yn g ⟨xn,xw,xl,xs,xg⟩):=by
 subst xn1;subst Wz;subst xl1;subst xs1;rfl
@[go_sem] theorem ah0 (g:Option Bool) (WA:Nat) (xn:List U) (J4:Nat) (xw:List dr) (WB:Nat) (xl:List js) (WC:Nat) (xs:List Int) (xg:Int) (xn1:WA=xn.length) (Wz:J4=xw.length) (xl1:WB=xl.length) (xs1:WC=xs.length):D.aW [.sl g 16 WA (aM (ab g) xn),.sl g 3 J4 (aM (cS g) xw),.sl g 2 WB (aM (fY g) xl),.sl g 1 WC (ints xs),.int .i64 xg]=.aW (yn g ⟨xn,xw,xl,xs,xg⟩):=by
 subst xn1;subst Wz;subst xl1;subst xs1;rfl
def ah1 (g:Option Bool) (x:vf):List D:=Hj g x
@[go_sem] theorem alg (g:Option Bool) (xk:Int) (xc:Int) (xv:Int) (xw:Int) (xg0:Nat) (xg:List Int) (xg1:xg0=xg.length):D.agg [.int .i64 xk,.int .i64 xc,.int .i64 xv,.int .i64 xw,.sl g 1 xg0 (ints xg)]=.agg (ah1 g ⟨xk,xc,xv,xw,xg⟩):=by
 subst xg1;rfl
def afK (g:Option Bool) (x:yW):List D:=BT g x
@[go_sem] theorem ajp (g:Option Bool) (xf:Int) (xt:Int) (xmk:Int) (xmc:Int) (xmv:Int) (xmw:Int) (aem:Nat) (xmg:List Int) (ah2:aem=xmg.length):D.agg [.int .i64 xf,.int .i64 xt,.int .i64 xmk,.int .i64 xmc,.int .i64 xmv,.int .i64 xmw,.sl g 1 aem (ints xmg)]=.agg (afK g ⟨xf,xt,⟨xmk,xmc,xmv,xmw,xmg⟩⟩):=by
 subst ah2;rfl
def MC (g:Option Bool) (x:qL):List D:=BU g x
@[go_sem] theorem ajq (g:Option Bool) (xk:Int) (xa:Int) (xb:Int):D.agg [.int .i64 xk,.int .i64 xa,.int .i64 xb]=.agg (MC g ⟨xk,xa,xb⟩):=by
 rfl
@[go_sem] theorem ajr (x:qL):bz true (MC none x)=MC (some true) x:=by
 unfold MC
 first | rfl | simp only [go_sem,eb,bz,hC,iM,iC,kJ]
section
variable (t:bD Rz)
@[go_sem] theorem ah3 (g:Bool) (n:U) (h:aV n):aO 17 [.agg (dD (some g) n)] t=feed t [enc .node n]:=OD t g n h
@[go_sem] theorem ah4 (g h:Bool) (n:U) (ok:aV n):aO 20 [.agg (dD (some g) n),.agg (dD (some h) n)] t=feed t [.bool true]:=OE t g h n ok
@[go_sem] theorem ah5 (g:Bool) (n:U) (left:Int) (h0:0<=left) (h1:left<=1048576) (ln:qQ n):aO 15 [.agg (dD (some g) n),.int .i64 left] t=feed t [.int .i64 (eu n left)]:=DK t g n left h0 h1 ln
@[go_sem] theorem ag8 (g:Bool) (w:gO) (h:uz w):aO 36 [.agg (yn (some g) w)] t=feed t [enc .world w]:=Wc t g w h
@[go_sem] theorem ag9 (g h:Bool) (w:gO) (ok:uz w):aO 38 [.agg (yn (some g) w),.agg (yn (some h) w)] t=feed t [.bool true]:=Wd t g h w ok
@[go_sem] theorem aha (g:Bool) (w:gO) (left:Int) (h0:0<=left) (h1:left<=1048576) (ln:HZ w):aO 34 [.agg (yn (some g) w),.int .i64 left] t=feed t [.int .i64 (DN w left)]:=We t g w left h0 h1 ln
end
set_option maxRecDepth 100000
section
variable (pr:ej) (cv:Cv Rz) (J:Nat->St->Option Rz)
theorem Lv:Told cfg Tryz.prog 187 Tryz.f187:=⟨by kernel_rfl,Tryz.func187,by kernel_rfl⟩
theorem Lw (x0:U) (x1:U):aU pr cv J 187 Tryz.f187 [(.agg (ab (some true) x0)),(.agg (ab (some true) x1))]=
 let y1:Option (D × List D):=(some ((.bool false),[.undef,.undef]))
 (cv 76 [(.agg (ab (some true) x0))] (.bool (fun ct=>(.done (br ct (cv 76 [(.agg (ab (some true) x1))] (.bool (fun hZ=>(.done (br hZ (br (br (pr.eq x0.id 2) false true) (cv 111 [(.int .i64 x0.id)] (.int (fun lU=>(.done (some ((.bool (pr.eq x1.id lU)),[.undef,.undef])))))) y1) y1))))) y1))))):=by kernel_rfl
theorem Iy:Told cfg Tryz.prog 185 Tryz.f185:=⟨by kernel_rfl,Tryz.func185,by kernel_rfl⟩
theorem Iz (x0:U) (x1:U):aU pr cv J 185 Tryz.f185 [(.agg (ab (some true) x0)),(.agg (ab (some true) x1))]=
 let y1:Option (D × List D):=(some ((.bool false),[.undef,.undef]))
 (cv 69 [(.agg (ab (some true) x0))] (.bool (fun ct=>(.done (br ct (cv 69 [(.agg (ab (some true) x1))] (.bool (fun hZ=>(.done (br hZ (cv 109 [(.int .i64 x0.id)] (.int (fun lU=>(.done (some ((.bool (pr.eq lU x1.id)),[.undef,.undef])))))) y1))))) y1))))):=by kernel_rfl
theorem IA:Told cfg Tryz.prog 104 Tryz.f104:=⟨by kernel_rfl,Tryz.func104,by kernel_rfl⟩
theorem IB (x0:U) (x1:U):aU pr cv J 104 Tryz.f104 [(.agg (ab (some true) x0)),(.agg (ab (some true) x1))]=
 let y1:Option (D × List D):=(some ((.bool false),[.undef,.undef]))
 (cv 187 [(.agg (ab (some true) x0)),(.agg (ab (some true) x1))] (.bool (fun ct=>(.done (br ct (br x0.up (br x0.mt.cf (br (br x0.mt.bB false true) (br (br x0.mt.held false true) (br (pr.bR x1.id x0.conn.length) (br (br (pr.eH (aE x0.conn) (pr.idx 0 x1.id 1)) true false) (br (br (pr.df (aE x0.conn) (pr.idx 0 x1.id 1)) false true) (some ((.bool (br x1.bS false true)),[.undef,.undef])) y1) none) none) y1) y1) y1) y1) y1))))):=by kernel_rfl
theorem IC:Told cfg Tryz.prog 101 Tryz.f101:=⟨by kernel_rfl,Tryz.func101,by kernel_rfl⟩
theorem ID (x0:U) (x1:U):aU pr cv J 101 Tryz.f101 [(.agg (ab (some true) x0)),(.agg (ab (some true) x1))]=
 let y1:Option (D × List D):=(some ((.bool false),[.undef,.undef]))
 (cv 185 [(.agg (ab (some true) x0)),(.agg (ab (some true) x1))] (.bool (fun ct=>(.done (br ct (br x0.up (br x0.mt.cf (br (br x0.mt.bB false true) (br (br x0.mt.held false true) (br (pr.bR x1.id x0.conn.length) (br (br (pr.eH (aE x0.conn) (pr.idx 0 x1.id 1)) true false) (br (br (pr.df (aE x0.conn) (pr.idx 0 x1.id 1)) false true) (some ((.bool (br x1.bS false true)),[.undef,.undef])) y1) none) none) y1) y1) y1) y1) y1))))):=by kernel_rfl
theorem IE:Told cfg Tryz.prog 328 Tryz.f328:=⟨by kernel_rfl,Tryz.func328,by kernel_rfl⟩
theorem IF (x0:U) (x1:U) (x2:Bool):aU pr cv J 328 Tryz.f328 [(.agg (ab (some true) x0)),(.agg (ab (some true) x1)),(.bool x2)]=
 let y1:Option (D × List D):=(some ((.bool false),[.undef,.undef,.undef]))
 (cv 187 [(.agg (ab (some true) x0)),(.agg (ab (some true) x1))] (.bool (fun ct=>(.done (br (br ct false true) y1 (br (br x0.up false true) y1 (br (br x0.mt.cf false true) y1 (br x0.mt.bB y1 (br x0.bS y1 (br x0.mt.held (some ((.bool true),[.undef,.undef,.undef])) (br (pr.bR x1.id x0.conn.length) (br (br (pr.eH (aE x0.conn) (pr.idx 0 x1.id 1)) true false) (br (pr.df (aE x0.conn) (pr.idx 0 x1.id 1)) (br (pr.bR x0.id x1.conn.length) (br (br (pr.eH (aE x1.conn) (pr.idx 0 x0.id 1)) true false) (br (pr.df (aE x1.conn) (pr.idx 0 x0.id 1)) (br (pr.bR x1.id x0.aH.length) (br (br (pr.eH (aE x0.aH) (pr.idx 0 x1.id 1)) true false) (br (br (pr.df (aE x0.aH) (pr.idx 0 x1.id 1)) false true) (br (pr.bR x0.id x1.aH.length) (br (br (pr.eH (aE x1.aH) (pr.idx 0 x0.id 1)) true false) (br (br (pr.df (aE x1.aH) (pr.idx 0 x0.id 1)) false true) (br (br x1.bS false true) (br (pr.eq x0.mt.last x1.mt.last) (some ((.bool x2),[.undef,.undef,.undef])) y1) y1) y1) none) none) y1) none) none) y1) none) none) y1) none) none))))))))))):=by kernel_rfl
theorem IG:Told cfg Tryz.prog 293 Tryz.f293:=⟨by kernel_rfl,Tryz.func293,by kernel_rfl⟩
theorem IH (x0:U) (x1:U) (x2:Bool):aU pr cv J 293 Tryz.f293 [(.agg (ab (some true) x0)),(.agg (ab (some true) x1)),(.bool x2)]=
 let y1:Option (D × List D):=(some ((.bool false),[.undef,.undef,.undef]))
 (cv 185 [(.agg (ab (some true) x0)),(.agg (ab (some true) x1))] (.bool (fun ct=>(.done (br (br ct false true) y1 (br (br x0.up false true) y1 (br (br x0.mt.cf false true) y1 (br x0.mt.bB y1 (br x0.bS y1 (br x0.mt.held (some ((.bool true),[.undef,.undef,.undef])) (br (pr.bR x1.id x0.conn.length) (br (br (pr.eH (aE x0.conn) (pr.idx 0 x1.id 1)) true false) (br (pr.df (aE x0.conn) (pr.idx 0 x1.id 1)) (br (pr.bR x0.id x1.conn.length) (br (br (pr.eH (aE x1.conn) (pr.idx 0 x0.id 1)) true false) (br (pr.df (aE x1.conn) (pr.idx 0 x0.id 1)) (br (pr.bR x1.id x0.aH.length) (br (br (pr.eH (aE x0.aH) (pr.idx 0 x1.id 1)) true false) (br (br (pr.df (aE x0.aH) (pr.idx 0 x1.id 1)) false true) (br (pr.bR x0.id x1.aH.length) (br (br (pr.eH (aE x1.aH) (pr.idx 0 x0.id 1)) true false) (br (br (pr.df (aE x1.aH) (pr.idx 0 x0.id 1)) false true) (br (br x1.bS false true) (br (pr.eq x0.mt.last x1.mt.last) (some ((.bool x2),[.undef,.undef,.undef])) y1) y1) y1) none) none) y1) none) none) y1) none) none) y1) none) none))))))))))):=by kernel_rfl
end
@[go_sem] theorem abY (n:U) (q0:aV n) (t:bD Rz):aO 76 [.agg (dD (some true) n)] t=feed t [.bool (cU n)]:=by
 exact bw (r:=.bool (cU n)) (s:=.bool) (ss:=[.undef]) (zU n q0) (by kernel_rfl) (by simp only [ao,bm,aT,bn,bo,ae,ai,sC]) (by simp only [ae,aI,ao,ai,sC]) (by first | rfl | simp only [ak,aR,aQ,bh,bj,aS,bl,sC]) (by first | rfl | simp only [TO,acd,ak,sC]) t
@[go_sem] theorem abZ (n:U) (q0:aV n) (t:bD Rz):aO 69 [.agg (dD (some true) n)] t=feed t [.bool (cU n)]:=by
 exact bw (r:=.bool (cU n)) (s:=.bool) (ss:=[.undef]) (zV n q0) (by kernel_rfl) (by simp only [ao,bm,aT,bn,bo,ae,ai,sC]) (by simp only [ae,aI,ao,ai,sC]) (by first | rfl | simp only [ak,aR,aQ,bh,bj,aS,bl,sC]) (by first | rfl | simp only [TO,acd,ak,sC]) t
@[go_sem] theorem abr (s:aD) (q0:cT s) (t:bD Rz):aO 170 [.agg (j7 (some true) s)] t=feed t [enc .mt ((aK s).1),.int .i64 ((aK s).2.1),.bool ((aK s).2.2)]:=by
 exact bw (r:=.aG [enc .mt ((aK s).1),.int .i64 ((aK s).2.1),.bool ((aK s).2.2)]) (s:=.aG [.ty .mt,.int .i64,.bool]) (ss:=[.undef]) (yi s q0) (by kernel_rfl) (by simp only [ao,bm,aT,bn,bo,ae,ai,sC]) (by simp only [ae,aI,ao,ai,sC]) (by first | rfl | simp only [ak,aR,aQ,bh,bj,aS,bl,sC]) (by first | rfl | simp only [TO,acd,ak,sC]) t
@[go_sem] theorem abt (s:aD) (q0:cT s) (t:bD Rz):aO 163 [.agg (j7 (some true) s)] t=feed t [enc .mt ((aK s).1),.int .i64 ((aK s).2.1),.bool ((aK s).2.2)]:=by
 exact bw (r:=.aG [enc .mt ((aK s).1),.int .i64 ((aK s).2.1),.bool ((aK s).2.2)]) (s:=.aG [.ty .mt,.int .i64,.bool]) (ss:=[.undef]) (yj s q0) (by kernel_rfl) (by simp only [ao,bm,aT,bn,bo,ae,ai,sC]) (by simp only [ae,aI,ao,ai,sC]) (by first | rfl | simp only [ak,aR,aQ,bh,bj,aS,bl,sC]) (by first | rfl | simp only [TO,acd,ak,sC]) t
@[go_sem] theorem ab0 (s:aD) (q0:cT s) (t:bD Rz):aO 240 [.agg (j7 (some true) s)] t=feed t [enc .mt ((((aK s).1,(aK s).2.1,lv s)).1),.int .i64 ((((aK s).1,(aK s).2.1,lv s)).2.1),.bool ((((aK s).1,(aK s).2.1,lv s)).2.2)]:=by
 exact bw (r:=.aG [enc .mt ((((aK s).1,(aK s).2.1,lv s)).1),.int .i64 ((((aK s).1,(aK s).2.1,lv s)).2.1),.bool ((((aK s).1,(aK s).2.1,lv s)).2.2)]) (s:=.aG [.ty .mt,.int .i64,.bool]) (ss:=[.undef]) (zT s q0) (by kernel_rfl) (by simp only [ao,bm,aT,bn,bo,ae,ai,sC]) (by simp only [ae,aI,ao,ai,sC]) (by first | rfl | simp only [ak,aR,aQ,bh,bj,aS,bl,sC]) (by first | rfl | simp only [TO,acd,ak,sC]) t
@[go_sem] theorem abu (s:aD) (q0:cT s) (t:bD Rz):aO 234 [.agg (j7 (some true) s)] t=feed t [.int .i64 (pk s)]:=by
 exact bw (r:=.int .i64 (pk s)) (s:=.int .i64) (ss:=[.undef]) (yg s q0) (by kernel_rfl) (by simp only [ao,bm,aT,bn,bo,ae,ai,sC]) (by simp only [ae,aI,ao,ai,sC]) (by first | rfl | simp only [ak,aR,aQ,bh,bj,aS,bl,sC]) (by first | rfl | simp only [TO,acd,ak,sC]) t
@[go_sem] theorem YL (m:aB) (n:Nat) (q0:bO m) (q1:(cy m).length<=151) (q2:n < 4611686018427387904) (t:bD Rz):aO 285 [.agg (lh (some true) m),.int .i64 (n:Int)] t=feed t [enc .B (kd m n)]:=by
 exact bw (r:=enc .B (kd m n)) (s:=.ty .B) (ss:=[.undef,.undef]) (vH m n q0 q1 q2) (by kernel_rfl) (by simp only [ao,bm,aT,bn,bo,ae,ai,sC]) (by simp only [ae,aI,ao,ai,sC]) (by first | rfl | simp only [ak,aR,aQ,bh,bj,aS,bl,sC]) (by first | rfl | simp only [TO,acd,ak,sC]) t
@[go_sem] theorem ab1 (m:aB) (n:Nat) (q0:bO m) (q1:(cy m).length<=151) (q2:n < 4611686018427387904) (t:bD Rz):aO 243 [.agg (lh (some true) m),.int .i64 (n:Int)] t=feed t [enc .B (kd m n)]:=by
 exact bw (r:=enc .B (kd m n)) (s:=.ty .B) (ss:=[.undef,.undef]) (zS m n q0 q1 q2) (by kernel_rfl) (by simp only [ao,bm,aT,bn,bo,ae,ai,sC]) (by simp only [ae,aI,ao,ai,sC]) (by first | rfl | simp only [ak,aR,aQ,bh,bj,aS,bl,sC]) (by first | rfl | simp only [TO,acd,ak,sC]) t
@[go_sem] theorem aag (n:U) (q0:aV n) (t:bD Rz):aO 294 [.agg (dD (some true) n)] t=feed t [.bool (mh n)]:=by
 exact bw (r:=.bool (mh n)) (s:=.bool) (ss:=[.undef]) (GB n q0) (by kernel_rfl) (by simp only [ao,bm,aT,bn,bo,ae,ai,sC]) (by simp only [ae,aI,ao,ai,sC]) (by first | rfl | simp only [ak,aR,aQ,bh,bj,aS,bl,sC]) (by first | rfl | simp only [TO,acd,ak,sC]) t
@[go_sem] theorem aah (n:U) (q0:aV n) (t:bD Rz):aO 259 [.agg (dD (some true) n)] t=feed t [.bool (mh n)]:=by
 exact bw (r:=.bool (mh n)) (s:=.bool) (ss:=[.undef]) (GC n q0) (by kernel_rfl) (by simp only [ao,bm,aT,bn,bo,ae,ai,sC]) (by simp only [ae,aI,ao,ai,sC]) (by first | rfl | simp only [ak,aR,aQ,bh,bj,aS,bl,sC]) (by first | rfl | simp only [TO,acd,ak,sC]) t
noncomputable def py (x y:U):Bool:=cU x&&(cU y&&(!decide (x.id=2)&&decide (y.id=lI x.id)))
structure ah6 (x y:U):Prop where
 ox:ra x
 oy:ra y
 xl:0<=x.id
 xh:x.id<=1
 yl:0<=y.id
 yh:y.id<=1
 amJ:y.id=lI x.id
theorem Cb {x y:U} (h:py x y=true):ah6 x y:=by
 unfold py at h;simp only [wX,adv,decide_eq_true_eq,decide_eq_false_iff_not] at h;obtain ⟨h1,h2,h3,h4⟩:=h;have k1:=qg h1;have k2:=qg h2;have i1:=k1.id;have i2:=k2.id;have h5:=h4;unfold lI at h5;exact ⟨k1,k2,i1.1,by omega,i2.1,by split at h5<;>omega,h4⟩
theorem Lx (x:U) (y:U) (q0:aV x) (q1:aV y):Cm 187 [.agg (ab (some true) x),.agg (ab (some true) y)] (.bool (py x y),[.undef,.undef]):=by
 refine Cm.step Lv _ fun J _=>?_;rw [Lw];unfold py;simp (disch:=first | assumption | omega) only [go_sem]
 refine ki fun h1=>?_;simp (disch:=first | assumption | omega) only [go_sem]
 refine ki fun h2=>?_;simp (disch:=first | assumption | omega) only [go_sem]
 refine nY fun h3=>?_;simp (disch:=first | assumption | omega) only [go_sem]
@[go_sem] theorem ab2 (x:U) (y:U) (q0:aV x) (q1:aV y) (t:bD Rz):aO 187 [.agg (dD (some true) x),.agg (dD (some true) y)] t=feed t [.bool (py x y)]:=by
 exact bw (r:=.bool (py x y)) (s:=.bool) (ss:=[.undef,.undef]) (Lx x y q0 q1) (by kernel_rfl) (by simp only [ao,bm,aT,bn,bo,ae,ai,sC]) (by simp only [ae,aI,ao,ai,sC]) (by first | rfl | simp only [ak,aR,aQ,bh,bj,aS,bl,sC]) (by first | rfl | simp only [TO,acd,ak,sC]) t
theorem II (x:U) (y:U) (q0:aV x) (q1:aV y):Cm 185 [.agg (ab (some true) x),.agg (ab (some true) y)] (.bool (py x y),[.undef,.undef]):=by
 refine Cm.step Iy _ fun J _=>?_;rw [Iz];unfold py;simp (disch:=first | assumption | omega) only [go_sem]
 refine ki fun h1=>?_;simp (disch:=first | assumption | omega) only [go_sem]
 refine ki fun h2=>?_;simp (disch:=first | assumption | omega) only [go_sem]
 have i1:=(qg h1).id;have i2:=(qg h2).id;unfold lI;by_cases h:x.id=2
 ·rw [h]; simp; omega
 ·simp [h,eq_comm]
@[go_sem] theorem abv (x:U) (y:U) (q0:aV x) (q1:aV y) (t:bD Rz):aO 185 [.agg (dD (some true) x),.agg (dD (some true) y)] t=feed t [.bool (py x y)]:=by
 exact bw (r:=.bool (py x y)) (s:=.bool) (ss:=[.undef,.undef]) (II x y q0 q1) (by kernel_rfl) (by simp only [ao,bm,aT,bn,bo,ae,ai,sC]) (by simp only [ae,aI,ao,ai,sC]) (by first | rfl | simp only [ak,aR,aQ,bh,bj,aS,bl,sC]) (by first | rfl | simp only [TO,acd,ak,sC]) t
noncomputable def mF (x y:U):Bool:=py x y&&(x.up&&(x.mt.cf&&(!x.mt.bB&&(!x.mt.held&&(!x.conn.getD y.id.toNat false&&!y.bS)))))
theorem IJ (x:U) (y:U) (q0:aV x) (q1:aV y):Cm 104 [.agg (ab (some true) x),.agg (ab (some true) y)] (.bool (mF x y),[.undef,.undef]):=by
 refine Cm.step IA _ fun J _=>?_;rw [IB];unfold mF;simp (disch:=first | assumption | omega) only [go_sem]
 refine ki fun h1=>?_
 try simp (disch:=first | assumption | omega) only [go_sem]
 have p:=Cb h1;have:=p.xl; have:=p.xh; have:=p.yl; have:=p.yh; have:=p.ox.conn;simp (disch:=first | assumption | omega) only [go_sem]
 refine ki fun _=>?_
 try simp (disch:=first | assumption | omega) only [go_sem]
 refine ki fun _=>?_
 try simp (disch:=first | assumption | omega) only [go_sem]
 refine nY fun _=>?_
 try simp (disch:=first | assumption | omega) only [go_sem]
 refine nY fun _=>?_
 try simp (disch:=first | assumption | omega) only [go_sem]
 exact nY fun _=>rfl
@[go_sem] theorem abw (x:U) (y:U) (q0:aV x) (q1:aV y) (t:bD Rz):aO 104 [.agg (dD (some true) x),.agg (dD (some true) y)] t=feed t [.bool (mF x y)]:=by
 exact bw (r:=.bool (mF x y)) (s:=.bool) (ss:=[.undef,.undef]) (IJ x y q0 q1) (by kernel_rfl) (by simp only [ao,bm,aT,bn,bo,ae,ai,sC]) (by simp only [ae,aI,ao,ai,sC]) (by first | rfl | simp only [ak,aR,aQ,bh,bj,aS,bl,sC]) (by first | rfl | simp only [TO,acd,ak,sC]) t
theorem IK (x:U) (y:U) (q0:aV x) (q1:aV y):Cm 101 [.agg (ab (some true) x),.agg (ab (some true) y)] (.bool (mF x y),[.undef,.undef]):=by
 refine Cm.step IC _ fun J _=>?_;rw [ID];unfold mF;simp (disch:=first | assumption | omega) only [go_sem]
 refine ki fun h1=>?_
 try simp (disch:=first | assumption | omega) only [go_sem]
 have p:=Cb h1;have:=p.xl; have:=p.xh; have:=p.yl; have:=p.yh; have:=p.ox.conn;simp (disch:=first | assumption | omega) only [go_sem]
 refine ki fun _=>?_
 try simp (disch:=first | assumption | omega) only [go_sem]
 refine ki fun _=>?_
 try simp (disch:=first | assumption | omega) only [go_sem]
 refine nY fun _=>?_
 try simp (disch:=first | assumption | omega) only [go_sem]
 refine nY fun _=>?_
 try simp (disch:=first | assumption | omega) only [go_sem]
 exact nY fun _=>rfl
@[go_sem] theorem abx (x:U) (y:U) (q0:aV x) (q1:aV y) (t:bD Rz):aO 101 [.agg (dD (some true) x),.agg (dD (some true) y)] t=feed t [.bool (mF x y)]:=by
 exact bw (r:=.bool (mF x y)) (s:=.bool) (ss:=[.undef,.undef]) (IK x y q0 q1) (by kernel_rfl) (by simp only [ao,bm,aT,bn,bo,ae,ai,sC]) (by simp only [ae,aI,ao,ai,sC]) (by first | rfl | simp only [ak,aR,aQ,bh,bj,aS,bl,sC]) (by first | rfl | simp only [TO,acd,ak,sC]) t
noncomputable def ix (x y:U) (q:Bool):Bool:=py x y&&(x.up&&(x.mt.cf&&(!x.mt.bB&&(!x.bS&&(x.mt.held||(x.conn.getD y.id.toNat false&&(y.conn.getD x.id.toNat false&&(!x.aH.getD y.id.toNat false&&(!y.aH.getD x.id.toNat false&&(!y.bS&&(decide (x.mt.last=y.mt.last)&&q)))))))))))
theorem IL (x:U) (y:U) (q:Bool) (q0:aV x) (q1:aV y):Cm 328 [.agg (ab (some true) x),.agg (ab (some true) y),.bool q] (.bool (ix x y q),[.undef,.undef,.undef]):=by
 refine Cm.step IE _ fun J _=>?_;rw [IF];unfold ix;simp (disch:=first | assumption | omega) only [go_sem]
 refine ki fun h1=>?_
 try simp (disch:=first | assumption | omega) only [go_sem]
 have p:=Cb h1;have:=p.xl; have:=p.xh; have:=p.yl; have:=p.yh; have:=p.ox.conn; have:=p.oy.conn; have:=p.ox.aH; have:=p.oy.aH;simp (disch:=first | assumption | omega) only [go_sem]
 refine ki fun _=>?_
 try simp (disch:=first | assumption | omega) only [go_sem]
 refine ki fun _=>?_
 try simp (disch:=first | assumption | omega) only [go_sem]
 refine nY fun _=>?_
 try simp (disch:=first | assumption | omega) only [go_sem]
 refine nY fun _=>?_
 try simp (disch:=first | assumption | omega) only [go_sem]
 refine aee fun _=>?_
 try simp (disch:=first | assumption | omega) only [go_sem]
 refine ki fun _=>?_
 try simp (disch:=first | assumption | omega) only [go_sem]
 refine ki fun _=>?_
 try simp (disch:=first | assumption | omega) only [go_sem]
 refine nY fun _=>?_
 try simp (disch:=first | assumption | omega) only [go_sem]
 refine nY fun _=>?_
 try simp (disch:=first | assumption | omega) only [go_sem]
 refine nY fun _=>?_
 try simp (disch:=first | assumption | omega) only [go_sem]
 exact ki fun _=>rfl
@[go_sem] theorem aby (x:U) (y:U) (q:Bool) (q0:aV x) (q1:aV y) (t:bD Rz):aO 328 [.agg (dD (some true) x),.agg (dD (some true) y),.bool q] t=feed t [.bool (ix x y q)]:=by
 exact bw (r:=.bool (ix x y q)) (s:=.bool) (ss:=[.undef,.undef,.undef]) (IL x y q q0 q1) (by kernel_rfl) (by simp only [ao,bm,aT,bn,bo,ae,ai,sC]) (by simp only [ae,aI,ao,ai,sC]) (by first | rfl | simp only [ak,aR,aQ,bh,bj,aS,bl,sC]) (by first | rfl | simp only [TO,acd,ak,sC]) t
theorem IM (x:U) (y:U) (q:Bool) (q0:aV x) (q1:aV y):Cm 293 [.agg (ab (some true) x),.agg (ab (some true) y),.bool q] (.bool (ix x y q),[.undef,.undef,.undef]):=by
 refine Cm.step IG _ fun J _=>?_;rw [IH];unfold ix;simp (disch:=first | assumption | omega) only [go_sem]
 refine ki fun h1=>?_
 try simp (disch:=first | assumption | omega) only [go_sem]
 have p:=Cb h1;have:=p.xl; have:=p.xh; have:=p.yl; have:=p.yh; have:=p.ox.conn; have:=p.oy.conn; have:=p.ox.aH; have:=p.oy.aH;simp (disch:=first | assumption | omega) only [go_sem]
 refine ki fun _=>?_
 try simp (disch:=first | assumption | omega) only [go_sem]
 refine ki fun _=>?_
 try simp (disch:=first | assumption | omega) only [go_sem]
 refine nY fun _=>?_
 try simp (disch:=first | assumption | omega) only [go_sem]
 refine nY fun _=>?_
 try simp (disch:=first | assumption | omega) only [go_sem]
 refine aee fun _=>?_
 try simp (disch:=first | assumption | omega) only [go_sem]
 refine ki fun _=>?_
 try simp (disch:=first | assumption | omega) only [go_sem]
 refine ki fun _=>?_
 try simp (disch:=first | assumption | omega) only [go_sem]
 refine nY fun _=>?_
 try simp (disch:=first | assumption | omega) only [go_sem]
 refine nY fun _=>?_
 try simp (disch:=first | assumption | omega) only [go_sem]
 refine nY fun _=>?_
 try simp (disch:=first | assumption | omega) only [go_sem]
 exact ki fun _=>rfl
@[go_sem] theorem abz (x:U) (y:U) (q:Bool) (q0:aV x) (q1:aV y) (t:bD Rz):aO 293 [.agg (dD (some true) x),.agg (dD (some true) y),.bool q] t=feed t [.bool (ix x y q)]:=by
 exact bw (r:=.bool (ix x y q)) (s:=.bool) (ss:=[.undef,.undef,.undef]) (IM x y q q0 q1) (by kernel_rfl) (by simp only [ao,bm,aT,bn,bo,ae,ai,sC]) (by simp only [ae,aI,ao,ai,sC]) (by first | rfl | simp only [ak,aR,aQ,bh,bj,aS,bl,sC]) (by first | rfl | simp only [TO,acd,ak,sC]) t
set_option maxRecDepth 100000
section
variable (pr:ej) (cv:Cv Rz) (J:Nat->St->Option Rz)
def lj (x0:List (List Int)) (i0:Int) (i1:Int) (n2:Nat) (c3:List D):St:=(St.mk [(3,(.ref 10003 [] 0 none)),(7,(sR (some true) x0)),(8,(.int .i64 i0)),(9,(.int .i64 i1))] [(10003,[(.sl none 1 n2 c3)])] [] 0)
theorem D5:Told cfg Tryz.prog 181 Tryz.f181:=⟨by kernel_rfl,Tryz.func181,by kernel_rfl⟩
theorem D6 (x0:List (List Int)):aU pr cv J 181 Tryz.f181 [(sR (some true) x0)]=
 (J 0 (lj x0 (pr.ba x0.length) 0 0 [])):=by kernel_rfl
theorem zW (x0:List (List Int)) (i0:Int) (i1:Int) (n2:Nat) (c3:List D):cg pr cv J 181 Tryz.f181 [.undef] 0 (lj x0 i0 i1 n2 c3)=
 (br (pr.lt i1 i0) (br (pr.bR i1 x0.length) (br (br (pr.cZ 1 (rows (some true) x0) (pr.idx 0 i1 1)) true false) (cv 110 [(.sl (some (pr.cD (rows (some true) x0) (pr.idx 0 i1 1))) 1 (pr.bM (rows (some true) x0) (pr.idx 0 i1 1)) (pr.bP (rows (some true) x0) (pr.idx 0 i1 1)))] (.sl (fun dU=>(fun dg=>(.done (br (br (br (pr.nl dg) true false) true false) (br (pr.fits (n2+1) 24) (J 0 (lj x0 i0 (pr.ar .add .i64 i1 1) (n2+1) (List.append c3 [(.sl none 1 dU dg)]))) none) none)))))) none) none) (some ((.sl none 1 n2 c3),[.undef]))):=by kernel_rfl
theorem GD:Told cfg Tryz.prog 94 Tryz.f94:=⟨by kernel_rfl,Tryz.func94,by kernel_rfl⟩
theorem GF (x0:aB):aU pr cv J 94 Tryz.f94 [(.agg (bd (some true) x0))]=
 (cv 110 [(sI (some true) x0.av)] (.sl (fun dU=>(fun dg=>(.done (br (br (br (pr.nl dg) true false) true false) (cv 181 [(sR (some true) x0.bits)] (.ty cJ.R (fun (j6:List (List Int))=>(.done (some ((.agg [(.sl none 1 dU dg),(sR none j6),(.bool x0.cf),(.bool x0.bB),(.bool x0.held),(.int .i64 x0.last)]),[.undef])))))) none)))))):=by kernel_rfl
theorem D7:Told cfg Tryz.prog 179 Tryz.f179:=⟨by kernel_rfl,Tryz.func179,by kernel_rfl⟩
theorem D8 (x0:aD):aU pr cv J 179 Tryz.f179 [(.agg (bL (some true) x0))]=
 (cv 232 [(s8 (some true) x0.a)] (.ty cJ.B (fun (au:List UInt8)=>(.done (cv 232 [(s8 (some true) x0.b)] (.ty cJ.B (fun (ef:List UInt8)=>(.done (some ((.agg [(s8 none au),(s8 none ef)]),[.undef])))))))))):=by kernel_rfl
theorem GG:Told cfg Tryz.prog 91 Tryz.f91:=⟨by kernel_rfl,Tryz.func91,by kernel_rfl⟩
theorem GH (x0:U):aU pr cv J 91 Tryz.f91 [(.agg (ab (some true) x0))]=
 (cv 110 [(sI (some true) x0.image)] (.sl (fun dU=>(fun dg=>(.done (br (br (br (pr.nl dg) true false) true false) (cv 94 [(.agg (bd (some true) x0.mt))] (.ty cJ.mt (fun (j6:aB)=>(.done (cv 179 [(.agg (bL (some true) x0.aA))] (.ty cJ.aA (fun (lZ:aD)=>(.done (cv 180 [(sB (some true) x0.conn)] (.ty cJ.L (fun (Pe:List Bool)=>(.done (cv 181 [(sR (some true) x0.sync)] (.ty cJ.R (fun (J5:List (List Int))=>(.done (cv 180 [(sB (some true) x0.aH)] (.ty cJ.L (fun (WD:List Bool)=>(.done (cv 110 [(sI (some true) x0.wait)] (.sl (fun vn7=>(fun Ry=>(.done (br (br (br (pr.nl Ry) true false) true false) (some ((.agg [(.int .i64 x0.id),(.bool x0.up),(.bool x0.bS),(.sl none 1 dU dg),(sI none j6.av),(sR none j6.bits),(.bool j6.cf),(.bool j6.bB),(.bool j6.held),(.int .i64 j6.last),(s8 none lZ.a),(s8 none lZ.b),(sB none Pe),(sR none J5),(sB none WD),(.sl none 1 vn7 Ry)]),[.undef])) none)))))))))))))))))))))))))) none)))))):=by kernel_rfl
def wE (x0:aB) (i0:Int) (b1:Bool) (b2:Bool) (b3:Bool) (i4:Int) (n5:Nat) (c6:List D):St:=(St.mk [(1,(.ptr 1 [] 0)),(2,(.ptr 2 [] 0)),(3,(.ptr 3 [] 0)),(4,(.int .i64 i0))] [(1,(bd (some true) x0)),(2,[(.nil 1),(.nil 1),(.bool b1),(.bool b2),(.bool b3),(.int .i64 i4)]),(3,[(.sl none 1 n5 c6),(.nil 1),(.bool x0.cf),(.bool x0.bB),(.bool x0.held),(.int .i64 x0.last)])] [] 0)
def jl (x0:aB) (i0:Int) (b1:Bool) (b2:Bool) (b3:Bool) (i4:Int) (n5:Nat) (c6:List D) (n7:Nat) (c8:List D):St:=(St.mk [(1,(.ptr 1 [] 0)),(2,(.ptr 2 [] 0)),(3,(.ptr 3 [] 0)),(4,(.int .i64 i0))] [(1,(bd (some true) x0)),(2,[(.nil 1),(.nil 1),(.bool b1),(.bool b2),(.bool b3),(.int .i64 i4)]),(3,[(.sl none 1 n5 c6),(.sl none 1 n7 c8),(.bool x0.cf),(.bool x0.bB),(.bool x0.held),(.int .i64 x0.last)])] [] 0)
theorem Ly:Told cfg Tryz.prog 88 Tryz.f88:=⟨by kernel_rfl,Tryz.func88,by kernel_rfl⟩
theorem LA (x0:aB):aU pr cv J 88 Tryz.f88 [(.agg (bd (some true) x0))]=
 (br (br (pr.cell (ints x0.av)) (pr.fits (0+x0.av.length) 8) false) (J 0 (wE x0 0 false false false 0 (0+x0.av.length) (List.append [] (ints x0.av)))) none):=by kernel_rfl
theorem D9 (x0:aB) (i0:Int) (b1:Bool) (b2:Bool) (b3:Bool) (i4:Int) (n5:Nat) (c6:List D):cg pr cv J 88 Tryz.f88 [.undef] 0 (wE x0 i0 b1 b2 b3 i4 n5 c6)=
 let y1:Nat:=(0+(pr.bM (rows (some true) x0.bits) (pr.idx 0 i0 1)))
 (br (pr.lt i0 (pr.ba x0.bits.length)) (br (pr.bR i0 x0.bits.length) (br (br (pr.cZ 1 (rows (some true) x0.bits) (pr.idx 0 i0 1)) true false) (br (br (pr.cell (pr.bP (rows (some true) x0.bits) (pr.idx 0 i0 1))) (pr.fits y1 8) false) (br (pr.fits 1 24) (J 0 (jl x0 (pr.ar .add .i64 i0 1) b1 b2 b3 i4 n5 c6 1 [(.sl none 1 y1 (pr.bP (rows (some true) x0.bits) (pr.idx 0 i0 1)))])) none) none) none) none) (some ((.agg [(.sl none 1 n5 c6),(.sl none 1 0 []),(.bool x0.cf),(.bool x0.bB),(.bool x0.held),(.int .i64 x0.last)]),[.undef]))):=by kernel_rfl
theorem Bo (x0:aB) (i0:Int) (b1:Bool) (b2:Bool) (b3:Bool) (i4:Int) (n5:Nat) (c6:List D) (n7:Nat) (c8:List D):cg pr cv J 88 Tryz.f88 [.undef] 0 (jl x0 i0 b1 b2 b3 i4 n5 c6 n7 c8)=
 let y1:Nat:=(0+(pr.bM (rows (some true) x0.bits) (pr.idx 0 i0 1)))
 (br (pr.lt i0 (pr.ba x0.bits.length)) (br (pr.bR i0 x0.bits.length) (br (br (pr.cZ 1 (rows (some true) x0.bits) (pr.idx 0 i0 1)) true false) (br (br (pr.cell (pr.bP (rows (some true) x0.bits) (pr.idx 0 i0 1))) (pr.fits y1 8) false) (br (pr.fits (n7+1) 24) (J 0 (jl x0 (pr.ar .add .i64 i0 1) b1 b2 b3 i4 n5 c6 (n7+1) (List.append c8 [(.sl none 1 y1 (pr.bP (rows (some true) x0.bits) (pr.idx 0 i0 1)))]))) none) none) none) none) (some ((.agg [(.sl none 1 n5 c6),(.sl none 1 n7 c8),(.bool x0.cf),(.bool x0.bB),(.bool x0.held),(.int .i64 x0.last)]),[.undef]))):=by kernel_rfl
theorem LB:Told cfg Tryz.prog 177 Tryz.f177:=⟨by kernel_rfl,Tryz.func177,by kernel_rfl⟩
theorem LC (x0:aD):aU pr cv J 177 Tryz.f177 [(.agg (bL (some true) x0))]=
 (br (br (pr.cell (bytes x0.a)) (pr.fits (0+x0.a.length) 1) false) (br (br (pr.cell (bytes x0.b)) (pr.fits (0+x0.b.length) 1) false) (some ((.agg [(.sl none 1 (0+x0.a.length) (List.append [] (bytes x0.a))),(.sl none 1 (0+x0.b.length) (List.append [] (bytes x0.b)))]),[.undef])) none) none):=by kernel_rfl
def wF (x0:U) (i0:Int) (i1:Int) (b2:Bool) (b3:Bool) (b4:Bool) (b5:Bool) (b6:Bool) (i7:Int) (n8:Nat) (c9:List D) (p9:Nat) (qc:List D) (gG:Nat) (ia:List D) (ph:Bool) (j5:Bool) (pj:Bool) (i17:Int) (n18:Nat) (wu:List D) (n20:Nat) (wv:List D) (n22:Nat) (Bp:List D) (n24:Nat) (Bq:List D) (n26:Nat) (wx:List D):St:=(St.mk [(1,(.ptr 1 [] 0)),(2,(.ptr 2 [] 0)),(3,(.ptr 3 [] 0)),(4,(.int .i64 i0))] [(1,(ab (some true) x0)),(2,[(.int .i64 i1),(.bool b2),(.bool b3),(.nil 1),(.nil 1),(.nil 1),(.bool b4),(.bool b5),(.bool b6),(.int .i64 i7),(.nil 1),(.nil 1),(.nil 1),(.nil 1),(.nil 1),(.nil 1)]),(3,[(.int .i64 x0.id),(.bool x0.up),(.bool x0.bS),(.sl none 1 n8 c9),(.sl none 1 p9 qc),(.sl none 1 gG ia),(.bool ph),(.bool j5),(.bool pj),(.int .i64 i17),(.sl none 1 n18 wu),(.sl none 1 n20 wv),(.sl none 1 n22 Bp),(.nil 1),(.sl none 1 n24 Bq),(.sl none 1 n26 wx)])] [] 0)
def jm (x0:U) (i0:Int) (i1:Int) (b2:Bool) (b3:Bool) (b4:Bool) (b5:Bool) (b6:Bool) (i7:Int) (n8:Nat) (c9:List D) (p9:Nat) (qc:List D) (gG:Nat) (ia:List D) (ph:Bool) (j5:Bool) (pj:Bool) (i17:Int) (n18:Nat) (wu:List D) (n20:Nat) (wv:List D) (n22:Nat) (Bp:List D) (n24:Nat) (Bq:List D) (n26:Nat) (wx:List D) (n28:Nat) (JK:List D):St:=(St.mk [(1,(.ptr 1 [] 0)),(2,(.ptr 2 [] 0)),(3,(.ptr 3 [] 0)),(4,(.int .i64 i0))] [(1,(ab (some true) x0)),(2,[(.int .i64 i1),(.bool b2),(.bool b3),(.nil 1),(.nil 1),(.nil 1),(.bool b4),(.bool b5),(.bool b6),(.int .i64 i7),(.nil 1),(.nil 1),(.nil 1),(.nil 1),(.nil 1),(.nil 1)]),(3,[(.int .i64 x0.id),(.bool x0.up),(.bool x0.bS),(.sl none 1 n8 c9),(.sl none 1 p9 qc),(.sl none 1 gG ia),(.bool ph),(.bool j5),(.bool pj),(.int .i64 i17),(.sl none 1 n18 wu),(.sl none 1 n20 wv),(.sl none 1 n22 Bp),(.sl none 1 n24 Bq),(.sl none 1 n26 wx),(.sl none 1 n28 JK)])] [] 0)
theorem LD:Told cfg Tryz.prog 86 Tryz.f86:=⟨by kernel_rfl,Tryz.func86,by kernel_rfl⟩
theorem LF (x0:U):aU pr cv J 86 Tryz.f86 [(.agg (ab (some true) x0))]=
 (br (br (pr.cell (ints x0.image)) (pr.fits (0+x0.image.length) 8) false) (cv 88 [(.agg (bd (some true) x0.mt))] (.ty cJ.mt (fun (au:aB)=>(.done (cv 177 [(.agg (bL (some true) x0.aA))] (.ty cJ.aA (fun (ef:aD)=>(.done (br (br (pr.cell (aE x0.conn)) (pr.fits (0+x0.conn.length) 1) false) (br (br (pr.cell (aE x0.aH)) (pr.fits (0+x0.aH.length) 1) false) (br (br (pr.cell (ints x0.wait)) (pr.fits (0+x0.wait.length) 8) false) (J 0 (wF x0 0 0 false false false false false 0 (0+x0.image.length) (List.append [] (ints x0.image)) au.av.length (ints au.av) au.bits.length (rows none au.bits) au.cf au.bB au.held au.last ef.a.length (bytes ef.a) ef.b.length (bytes ef.b) (0+x0.conn.length) (List.append [] (aE x0.conn)) (0+x0.aH.length) (List.append [] (aE x0.aH)) (0+x0.wait.length) (List.append [] (ints x0.wait)))) none) none) none))))))))) none):=by kernel_rfl
theorem Eb (x0:U) (i0:Int) (i1:Int) (b2:Bool) (b3:Bool) (b4:Bool) (b5:Bool) (b6:Bool) (i7:Int) (n8:Nat) (c9:List D) (p9:Nat) (qc:List D) (gG:Nat) (ia:List D) (ph:Bool) (j5:Bool) (pj:Bool) (i17:Int) (n18:Nat) (wu:List D) (n20:Nat) (wv:List D) (n22:Nat) (Bp:List D) (n24:Nat) (Bq:List D) (n26:Nat) (wx:List D):cg pr cv J 86 Tryz.f86 [.undef] 0 (wF x0 i0 i1 b2 b3 b4 b5 b6 i7 n8 c9 p9 qc gG ia ph j5 pj i17 n18 wu n20 wv n22 Bp n24 Bq n26 wx)=
 let y1:Nat:=(0+(pr.bM (rows (some true) x0.sync) (pr.idx 0 i0 1)))
 (br (pr.lt i0 (pr.ba x0.sync.length)) (br (pr.bR i0 x0.sync.length) (br (br (pr.cZ 1 (rows (some true) x0.sync) (pr.idx 0 i0 1)) true false) (br (br (pr.cell (pr.bP (rows (some true) x0.sync) (pr.idx 0 i0 1))) (pr.fits y1 8) false) (br (pr.fits 1 24) (J 0 (jm x0 (pr.ar .add .i64 i0 1) i1 b2 b3 b4 b5 b6 i7 n8 c9 p9 qc gG ia ph j5 pj i17 n18 wu n20 wv n22 Bp 1 [(.sl none 1 y1 (pr.bP (rows (some true) x0.sync) (pr.idx 0 i0 1)))] n24 Bq n26 wx)) none) none) none) none) (some ((.agg [(.int .i64 x0.id),(.bool x0.up),(.bool x0.bS),(.sl none 1 n8 c9),(.sl none 1 p9 qc),(.sl none 1 gG ia),(.bool ph),(.bool j5),(.bool pj),(.int .i64 i17),(.sl none 1 n18 wu),(.sl none 1 n20 wv),(.sl none 1 n22 Bp),(.sl none 1 0 []),(.sl none 1 n24 Bq),(.sl none 1 n26 wx)]),[.undef]))):=by kernel_rfl
theorem Br (x0:U) (i0:Int) (i1:Int) (b2:Bool) (b3:Bool) (b4:Bool) (b5:Bool) (b6:Bool) (i7:Int) (n8:Nat) (c9:List D) (p9:Nat) (qc:List D) (gG:Nat) (ia:List D) (ph:Bool) (j5:Bool) (pj:Bool) (i17:Int) (n18:Nat) (wu:List D) (n20:Nat) (wv:List D) (n22:Nat) (Bp:List D) (n24:Nat) (Bq:List D) (n26:Nat) (wx:List D) (n28:Nat) (JK:List D):cg pr cv J 86 Tryz.f86 [.undef] 0 (jm x0 i0 i1 b2 b3 b4 b5 b6 i7 n8 c9 p9 qc gG ia ph j5 pj i17 n18 wu n20 wv n22 Bp n24 Bq n26 wx n28 JK)=
 let y1:Nat:=(0+(pr.bM (rows (some true) x0.sync) (pr.idx 0 i0 1)))
 (br (pr.lt i0 (pr.ba x0.sync.length)) (br (pr.bR i0 x0.sync.length) (br (br (pr.cZ 1 (rows (some true) x0.sync) (pr.idx 0 i0 1)) true false) (br (br (pr.cell (pr.bP (rows (some true) x0.sync) (pr.idx 0 i0 1))) (pr.fits y1 8) false) (br (pr.fits (n24+1) 24) (J 0 (jm x0 (pr.ar .add .i64 i0 1) i1 b2 b3 b4 b5 b6 i7 n8 c9 p9 qc gG ia ph j5 pj i17 n18 wu n20 wv n22 Bp (n24+1) (List.append Bq [(.sl none 1 y1 (pr.bP (rows (some true) x0.sync) (pr.idx 0 i0 1)))]) n26 wx n28 JK)) none) none) none) none) (some ((.agg [(.int .i64 x0.id),(.bool x0.up),(.bool x0.bS),(.sl none 1 n8 c9),(.sl none 1 p9 qc),(.sl none 1 gG ia),(.bool ph),(.bool j5),(.bool pj),(.int .i64 i17),(.sl none 1 n18 wu),(.sl none 1 n20 wv),(.sl none 1 n22 Bp),(.sl none 1 n24 Bq),(.sl none 1 n26 wx),(.sl none 1 n28 JK)]),[.undef]))):=by kernel_rfl
end
@[go_sem] theorem amK (xs:List Int):List.append [] (ints xs)=ints xs:=rfl
@[go_sem] theorem amL (xs:List UInt8):List.append [] (bytes xs)=bytes xs:=rfl
@[go_sem] theorem amM (xs:List Bool):List.append [] (aE xs)=aE xs:=rfl
@[go_sem] theorem amN (xs:List (List Int)):List.append [] (rows none xs)=rows none xs:=rfl
@[go_sem] theorem al8 (xs:List Int):[D.sl none 1 xs.length (ints xs)]=rows none [xs]:=rfl
@[go_sem] theorem ali (xs ys:List (List Int)):List.append (rows none xs) (rows none ys)=rows none (xs++ys):=by simp [rows]
@[go_sem] theorem alj (xs ys:List Bool):List.append (aE xs) (aE ys)=aE (xs++ys):=by simp [aE]
@[go_sem] theorem alk (xs ys:List UInt8):List.append (bytes xs) (bytes ys)=bytes (xs++ys):=by simp [bytes]
@[go_sem] theorem ajs (xs:List Int):ad.cell (ints xs)=true:=by simp [ad,ints,cM]
@[go_sem] theorem ajt (xs:List UInt8):ad.cell (bytes xs)=true:=by simp [ad,bytes,dz,cM]
@[go_sem] theorem aju (xs:List Bool):ad.cell (aE xs)=true:=by simp [ad,aE,cM]
theorem tC {α:Type} (xs:List α) (i:Nat) (d:α) (h:i < xs.length):xs.take i++[xs.getD i d]=xs.take (i+1):=by
 rw [List.take_succ_eq_append_getElem h,af6,ace h];rfl
theorem YM (g:Bool) (xs:List Int) (hb:xs.length<=17592186044416):Cm 110 [.sl (some g) 1 xs.length (ints xs)] (.sl none 1 xs.length (ints xs),[.undef]):=by
 refine yU (e:=jh 1 8) (by kernel_rfl) ?_
 have h:(ints xs).all dY=true:=by simp [ints,dY]
 simp only [jh,h];rw [if_pos (by refine ⟨?_,?_,?_,?_⟩<;>first | trivial | rfl | omega)]
@[go_sem] theorem ah7 (g:Bool) (n:Nat) (xs:List Int) (e:n=xs.length) (hb:xs.length<=17592186044416) (t:bD Rz):aO 110 [.sl (some g) 1 n (ints xs)] t=feed t [sI none xs]:=by
 subst e;exact bc (YM g xs hb) (by kernel_rfl) t
theorem YN (g:Bool) (xs:List Bool) (hb:xs.length<=17592186044416):Cm 180 [.sl (some g) 1 xs.length (aE xs)] (.sl none 1 xs.length (aE xs),[.undef]):=by
 refine yU (e:=jh 1 1) (by kernel_rfl) ?_
 have h:(aE xs).all dY=true:=by simp [aE,dY]
 simp only [jh,h];rw [if_pos (by refine ⟨?_,?_,?_,?_⟩<;>first | trivial | rfl | omega)]
theorem YO (g:Bool) (xs:List UInt8) (hb:xs.length<=17592186044416):Cm 232 [.sl (some g) 1 xs.length (bytes xs)] (.sl none 1 xs.length (bytes xs),[.undef]):=by
 refine yU (e:=jh 1 1) (by kernel_rfl) ?_
 have h:(bytes xs).all dY=true:=by simp [bytes,dz,dY]
 simp only [jh,h];rw [if_pos (by refine ⟨?_,?_,?_,?_⟩<;>first | trivial | rfl | omega)]
@[go_sem] theorem ah8 (g:Bool) (n:Nat) (xs:List Bool) (e:n=xs.length) (hb:xs.length<=17592186044416) (t:bD Rz):aO 180 [.sl (some g) 1 n (aE xs)] t=feed t [enc .L xs]:=by
 subst e;exact bw (r:=enc .L xs) (s:=.ty .L) (ss:=[.undef]) (YN g xs hb) (by kernel_rfl) (ao _ _) (by simp only [ae,aI,ai,sC]) (ak _ _) rfl t
@[go_sem] theorem ah9 (g:Bool) (n:Nat) (xs:List UInt8) (e:n=xs.length) (hb:xs.length<=17592186044416) (t:bD Rz):aO 232 [.sl (some g) 1 n (bytes xs)] t=feed t [enc .B xs]:=by
 subst e;exact bw (r:=enc .B xs) (s:=.ty .B) (ss:=[.undef]) (YO g xs hb) (by kernel_rfl) (ao _ _) (by simp only [ae,aI,ai,sC]) (ak _ _) rfl t
theorem Ec (x:List (List Int)) (q0:rp x):Cm 181 [sR (some true) x] (sR none (x),[.undef]):=by
 have hx:=q0.1;refine Cm.step D5 [.undef] fun J hJ=>?_;rw [D6];simp (disch:=first | assumption | omega) only [go_sem]
 refine hJ _ _ ?_;refine WP.up (H:=fun i=>lj x x.length i i (rows none (x.take i))) x.length (fun _=>True) (fun i hi _ J hJ next=>?_) 0 (adt _) trivial
 rw [zW];simp (disch:=first | assumption | omega) only [go_sem]
 refine dn (fun cK=>?_) (fun qv=>?_)
 ·have h2:=uA q0 i;simp (disch:=first | assumption | omega) only [go_sem]
  rw [tC x i [] (by omega)]
  exact next (by omega) trivial
 ·have e:i=x.length:=by omega
  subst e;rw [ac8]
@[go_sem] theorem YP (x0:Nat) (x:List (List Int)) (e0:x0=x.length) (q0:rp x) (t:bD Rz):aO 181 [.sl (some true) 1 x0 (rows (some true) x)] t=feed t [enc .R (x)]:=by
 subst e0;exact bw (r:=enc .R (x)) (s:=.ty .R) (ss:=[.undef]) (Ec x q0) (by kernel_rfl) (by simp only [ao,bm,aT,bn,bo,ae,ai,sC]) (by simp only [ae,aI,ao,ai,sC]) (by first | rfl | simp only [ak,aR,aQ,bh,bj,aS,bl,sC]) (by first | rfl | simp only [TO,acd,ak,sC]) t
theorem GI (m:aB) (q0:bO m):Cm 94 [.agg (bd (some true) m)] (.agg (bd none (m)),[.undef]):=by
 have h1:=q0.av;have h2:=q0.bits;refine Cm.step GD [.undef] fun J hJ=>?_;rw [GF];simp (disch:=first | assumption | omega) only [go_sem]
@[go_sem] theorem aai (m:aB) (q0:bO m) (t:bD Rz):aO 94 [.agg (lh (some true) m)] t=feed t [enc .mt (m)]:=by
 exact bw (r:=enc .mt (m)) (s:=.ty .mt) (ss:=[.undef]) (GI m q0) (by kernel_rfl) (by simp only [ao,bm,aT,bn,bo,ae,ai,sC]) (by simp only [ae,aI,ao,ai,sC]) (by first | rfl | simp only [ak,aR,aQ,bh,bj,aS,bl,sC]) (by first | rfl | simp only [TO,acd,ak,sC]) t
theorem Ed (m:aD) (q0:cT m):Cm 179 [.agg (bL (some true) m)] (.agg (bL none (m)),[.undef]):=by
 have h1:=q0.a;have h2:=q0.b;refine Cm.step D7 [.undef] fun J hJ=>?_;rw [D8];simp (disch:=first | assumption | omega) only [go_sem]
@[go_sem] theorem YQ (m:aD) (q0:cT m) (t:bD Rz):aO 179 [.agg (j7 (some true) m)] t=feed t [enc .aA (m)]:=by
 exact bw (r:=enc .aA (m)) (s:=.ty .aA) (ss:=[.undef]) (Ed m q0) (by kernel_rfl) (by simp only [ao,bm,aT,bn,bo,ae,ai,sC]) (by simp only [ae,aI,ao,ai,sC]) (by first | rfl | simp only [ak,aR,aQ,bh,bj,aS,bl,sC]) (by first | rfl | simp only [TO,acd,ak,sC]) t
theorem GJ (n:U) (q0:aV n):Cm 91 [.agg (ab (some true) n)] (.agg (ab none (n)),[.undef]):=by
 have h1:=q0.image;have h2:=q0.mt;have h3:=q0.aA;have h4:=q0.conn;have h5:=q0.sync;have h6:=q0.aH;have h7:=q0.wait;refine Cm.step GG [.undef] fun J hJ=>?_;rw [GH];simp (disch:=first | assumption | omega) only [go_sem]
 rfl
@[go_sem] theorem aaj (n:U) (q0:aV n) (t:bD Rz):aO 91 [.agg (dD (some true) n)] t=feed t [enc .node (n)]:=by
 exact bw (r:=enc .node (n)) (s:=.ty .node) (ss:=[.undef]) (GJ n q0) (by kernel_rfl) (by simp only [ao,bm,aT,bn,bo,ae,ai,sC]) (by simp only [ae,aI,ao,ai,sC]) (by first | rfl | simp only [ak,aR,aQ,bh,bj,aS,bl,sC]) (by first | rfl | simp only [TO,acd,ak,sC]) t
theorem LG (m:aD) (q0:cT m):Cm 177 [.agg (bL (some true) m)] (.agg (bL none (m)),[.undef]):=by
 have h1:=q0.a;have h2:=q0.b;refine Cm.step LB [.undef] fun J hJ=>?_;rw [LC];simp (disch:=first | assumption | omega) only [go_sem]
@[go_sem] theorem ab3 (m:aD) (q0:cT m) (t:bD Rz):aO 177 [.agg (j7 (some true) m)] t=feed t [enc .aA (m)]:=by
 exact bw (r:=enc .aA (m)) (s:=.ty .aA) (ss:=[.undef]) (LG m q0) (by kernel_rfl) (by simp only [ao,bm,aT,bn,bo,ae,ai,sC]) (by simp only [ae,aI,ao,ai,sC]) (by first | rfl | simp only [ak,aR,aQ,bh,bj,aS,bl,sC]) (by first | rfl | simp only [TO,acd,ak,sC]) t
theorem LH (m:aB) (q0:bO m):Cm 88 [.agg (bd (some true) m)] (.agg (bd none (m)),[.undef]):=by
 have h1:=q0.av;have h2:=q0.bits;have h3:=q0.bits.1;have key:∀ i,i<=m.bits.length->1<=i->WP 88 Tryz.f88 [.undef] 0 (jl m i false false false 0 m.av.length (ints m.av) i (rows none (m.bits.take i))) (.agg (bd none m),[.undef]):=by
  refine WP.up (H:=fun i=>jl m i false false false 0 m.av.length (ints m.av) i (rows none (m.bits.take i))) m.bits.length (fun i=>1<=i) (fun i hi h1i J hJ next=>?_)
  rw [Bo];simp (disch:=first | assumption | omega) only [go_sem]
  refine dn (fun cK=>?_) (fun qv=>?_)
  ·have h4:=uA h2 i;simp (disch:=first | assumption | omega) only [go_sem]
   rw [tC m.bits i [] (by omega)]
   exact next (by omega) (by omega)
  ·have e:i=m.bits.length:=by omega
   subst e;rw [ac8];simp (disch:=first | assumption | omega) only [go_sem]
 refine Cm.step Ly [.undef] fun J hJ=>?_;rw [LA];simp (disch:=first | assumption | omega) only [go_sem]
 refine hJ _ _ ?_;refine WP.step fun J hJ=>?_;rw [D9];simp (disch:=first | assumption | omega) only [go_sem]
 refine dn (fun cK=>?_) (fun qv=>?_)
 ·have h4:=uA h2 0;simp (disch:=first | assumption | omega) only [go_sem]
  have h5:=hJ _ _ (key 1 (by omega) (by omega))
  rw [<- tC m.bits 0 [] (by omega)] at h5
  exact h5
 ·have e:m.bits=[]:=ac9.1 (by omega)
  obtain ⟨a,b,f,o,h,l⟩:=m;dsimp only at e;subst e;rfl
@[go_sem] theorem ab4 (m:aB) (q0:bO m) (t:bD Rz):aO 88 [.agg (lh (some true) m)] t=feed t [enc .mt (m)]:=by
 exact bw (r:=enc .mt (m)) (s:=.ty .mt) (ss:=[.undef]) (LH m q0) (by kernel_rfl) (by simp only [ao,bm,aT,bn,bo,ae,ai,sC]) (by simp only [ae,aI,ao,ai,sC]) (by first | rfl | simp only [ak,aR,aQ,bh,bj,aS,bl,sC]) (by first | rfl | simp only [TO,acd,ak,sC]) t
theorem LI (n:U) (q0:aV n):Cm 86 [.agg (ab (some true) n)] (.agg (ab none (n)),[.undef]):=by
 have h1:=q0.image;have h2:=q0.mt;have h3:=q0.aA;have h4:=q0.conn;have h5:=q0.sync;have h6:=q0.aH;have h7:=q0.wait;have h8:=h5.1;have key:∀ i,i<=n.sync.length->1<=i->WP 86 Tryz.f86 [.undef] 0 (jm n i 0 false false false false false 0 n.image.length (ints n.image) n.mt.av.length (ints n.mt.av) n.mt.bits.length (rows none n.mt.bits) n.mt.cf n.mt.bB n.mt.held n.mt.last n.aA.a.length (bytes n.aA.a) n.aA.b.length (bytes n.aA.b) n.conn.length (aE n.conn) i (rows none (n.sync.take i)) n.aH.length (aE n.aH) n.wait.length (ints n.wait)) (.agg (ab none n),[.undef]):=by
  refine WP.up (H:=fun i=>jm n i 0 false false false false false 0 n.image.length (ints n.image) n.mt.av.length (ints n.mt.av) n.mt.bits.length (rows none n.mt.bits) n.mt.cf n.mt.bB n.mt.held n.mt.last n.aA.a.length (bytes n.aA.a) n.aA.b.length (bytes n.aA.b) n.conn.length (aE n.conn) i (rows none (n.sync.take i)) n.aH.length (aE n.aH) n.wait.length (ints n.wait)) n.sync.length (fun i=>1<=i) (fun i hi h1i J hJ next=>?_)
  rw [Br];simp (disch:=first | assumption | omega) only [go_sem]
  refine dn (fun cK=>?_) (fun qv=>?_)
  ·have h4:=uA h5 i;simp (disch:=first | assumption | omega) only [go_sem]
   rw [tC n.sync i [] (by omega)]
   exact next (by omega) (by omega)
  ·have e:i=n.sync.length:=by omega
   subst e;rw [ac8]
   first | rfl | (simp (disch:=first | assumption | omega) only [go_sem]; done) | (simp (disch:=first | assumption | omega) only [go_sem]; rfl)
 refine Cm.step LD [.undef] fun J hJ=>?_;rw [LF];simp (disch:=first | assumption | omega) only [go_sem]
 refine hJ _ _ ?_;refine WP.step fun J hJ=>?_;rw [Eb];simp (disch:=first | assumption | omega) only [go_sem]
 refine dn (fun cK=>?_) (fun qv=>?_)
 ·have h4:=uA h5 0;simp (disch:=first | assumption | omega) only [go_sem]
  have h5:=hJ _ _ (key 1 (by omega) (by omega))
  rw [<- tC n.sync 0 [] (by omega)] at h5
  exact h5
 ·have e:n.sync=[]:=ac9.1 (by omega)
  obtain ⟨a1,a2,a3,a4,a5,a6,a7,a8,a9,a10⟩:=n;dsimp only at e;subst e;rfl
@[go_sem] theorem ab5 (n:U) (q0:aV n) (t:bD Rz):aO 86 [.agg (dD (some true) n)] t=feed t [enc .node (n)]:=by
 exact bw (r:=enc .node (n)) (s:=.ty .node) (ss:=[.undef]) (LI n q0) (by kernel_rfl) (by simp only [ao,bm,aT,bn,bo,ae,ai,sC]) (by simp only [ae,aI,ao,ai,sC]) (by first | rfl | simp only [ak,aR,aQ,bh,bj,aS,bl,sC]) (by first | rfl | simp only [TO,acd,ak,sC]) t
set_option maxRecDepth 100000
section
variable (pr:ej) (cv:Cv Rz) (J:Nat->St->Option Rz)
theorem Pu:Told cfg Tryz.prog 309 Tryz.f309:=⟨by kernel_rfl,Tryz.func309,by kernel_rfl⟩
theorem Pv (x0:U):aU pr cv J 309 Tryz.f309 [(.agg (ab (some true) x0))]=
 (cv 91 [(.agg (ab (some true) x0))] (.ty cJ.node (fun (au:U)=>(.done (cv 76 [(.agg (bz true (ab none au)))] (.bool (fun hZ=>(.done (br (br hZ false true) (some ((.aG [(.agg (ab none au)),(.bool false)]),[.undef])) (br (br au.bS false true) (some ((.aG [(.agg (ab none au)),(.bool false)]),[.undef])) (some ((.aG [(.agg [(.int .i64 au.id),(.bool au.up),(.bool false),(sI none au.image),(sI none au.mt.av),(sR none au.mt.bits),(.bool au.mt.cf),(.bool au.mt.bB),(.bool au.mt.held),(.int .i64 au.mt.last),(s8 none au.aA.a),(s8 none au.aA.b),(sB none au.conn),(sR none au.sync),(sB none au.aH),(.sl none 1 0 [])]),(.bool true)]),[.undef])))))))))))):=by kernel_rfl
theorem Pw:Told cfg Tryz.prog 267 Tryz.f267:=⟨by kernel_rfl,Tryz.func267,by kernel_rfl⟩
theorem Px (x0:U):aU pr cv J 267 Tryz.f267 [(.agg (ab (some true) x0))]=
 (cv 86 [(.agg (ab (some true) x0))] (.ty cJ.node (fun (au:U)=>(.done (cv 69 [(.agg (ab (some true) x0))] (.bool (fun hZ=>(.done (br (br hZ false true) (some ((.aG [(.agg (ab none au)),(.bool false)]),[.undef])) (br (br x0.bS false true) (some ((.aG [(.agg (ab none au)),(.bool false)]),[.undef])) (some ((.aG [(.agg [(.int .i64 au.id),(.bool au.up),(.bool false),(sI none au.image),(sI none au.mt.av),(sR none au.mt.bits),(.bool au.mt.cf),(.bool au.mt.bB),(.bool au.mt.held),(.int .i64 au.mt.last),(s8 none au.aA.a),(s8 none au.aA.b),(sB none au.conn),(sR none au.sync),(sB none au.aH),(.sl none 1 0 [])]),(.bool true)]),[.undef])))))))))))):=by kernel_rfl
theorem Qk:Told cfg Tryz.prog 308 Tryz.f308:=⟨by kernel_rfl,Tryz.func308,by kernel_rfl⟩
theorem Ql (x0:U) (x1:U) (x2:Bool):aU pr cv J 308 Tryz.f308 [(.agg (ab (some true) x0)),(.agg (ab (some true) x1)),(.bool x2)]=
 (cv 328 [(.agg (ab (some true) x0)),(.agg (ab (some true) x1)),(.bool x2)] (.bool (fun ct=>(.done (cv 91 [(.agg (ab (some true) x0))] (.ty cJ.node (fun (ef:U)=>(.done (br ef.bS (some ((.aG [(.agg [(.int .i64 ef.id),(.bool ef.up),(.bool true),(sI none ef.image),(sI none ef.mt.av),(sR none ef.mt.bits),(.bool ef.mt.cf),(.bool ef.mt.bB),(.bool ef.mt.held),(.int .i64 ef.mt.last),(s8 none ef.aA.a),(s8 none ef.aA.b),(sB none ef.conn),(sR none ef.sync),(sB none ef.aH),(sI none ef.wait)]),(.bool ct)]),[.undef,.undef,.undef])) (some ((.aG [(.agg [(.int .i64 ef.id),(.bool ef.up),(.bool ct),(sI none ef.image),(sI none ef.mt.av),(sR none ef.mt.bits),(.bool ef.mt.cf),(.bool ef.mt.bB),(.bool ef.mt.held),(.int .i64 ef.mt.last),(s8 none ef.aA.a),(s8 none ef.aA.b),(sB none ef.conn),(sR none ef.sync),(sB none ef.aH),(sI none ef.wait)]),(.bool ct)]),[.undef,.undef,.undef]))))))))))):=by kernel_rfl
theorem Qm:Told cfg Tryz.prog 266 Tryz.f266:=⟨by kernel_rfl,Tryz.func266,by kernel_rfl⟩
theorem Qn (x0:U) (x1:U) (x2:Bool):aU pr cv J 266 Tryz.f266 [(.agg (ab (some true) x0)),(.agg (ab (some true) x1)),(.bool x2)]=
 (cv 86 [(.agg (ab (some true) x0))] (.ty cJ.node (fun (au:U)=>(.done (cv 293 [(.agg (ab (some true) x0)),(.agg (ab (some true) x1)),(.bool x2)] (.bool (fun hZ=>(.done (br (br hZ false true) (some ((.aG [(.agg (ab none au)),(.bool false)]),[.undef,.undef,.undef])) (some ((.aG [(.agg [(.int .i64 au.id),(.bool au.up),(.bool true),(sI none au.image),(sI none au.mt.av),(sR none au.mt.bits),(.bool au.mt.cf),(.bool au.mt.bB),(.bool au.mt.held),(.int .i64 au.mt.last),(s8 none au.aA.a),(s8 none au.aA.b),(sB none au.conn),(sR none au.sync),(sB none au.aH),(sI none au.wait)]),(.bool true)]),[.undef,.undef,.undef]))))))))))):=by kernel_rfl
end
noncomputable def ll (n:U):U × Bool:=if (cU n&&n.bS)=true then ({ n with bS:=false,wait:=[] },true) else (n,false)
theorem Py (n:U) (q0:aV n):Cm 309 [.agg (ab (some true) n)] (.aG [.agg (ab none ((ll n).1)),.bool ((ll n).2)],[.undef]):=by
 refine Cm.step Pu [.undef] fun J hJ=>?_;rw [Pv];unfold ll;simp (disch:=first | assumption | omega) only [go_sem]
 cases h1:cU n<;>cases h2:n.bS<;>rfl
@[go_sem] theorem aeo (n:U) (q0:aV n) (t:bD Rz):aO 309 [.agg (dD (some true) n)] t=feed t [enc .node ((ll n).1),.bool ((ll n).2)]:=by
 exact bw (r:=.aG [enc .node ((ll n).1),.bool ((ll n).2)]) (s:=.aG [.ty .node,.bool]) (ss:=[.undef]) (Py n q0) (by kernel_rfl) (by simp only [ao,bm,aT,bn,bo,ae,ai,sC]) (by simp only [ae,aI,ao,ai,sC]) (by first | rfl | simp only [ak,aR,aQ,bh,bj,aS,bl,sC]) (by first | rfl | simp only [TO,acd,ak,sC]) t
theorem Pz (n:U) (q0:aV n):Cm 267 [.agg (ab (some true) n)] (.aG [.agg (ab none ((ll n).1)),.bool ((ll n).2)],[.undef]):=by
 refine Cm.step Pw [.undef] fun J hJ=>?_;rw [Px];unfold ll;simp (disch:=first | assumption | omega) only [go_sem]
 cases h1:cU n<;>cases h2:n.bS<;>rfl
@[go_sem] theorem aep (n:U) (q0:aV n) (t:bD Rz):aO 267 [.agg (dD (some true) n)] t=feed t [enc .node ((ll n).1),.bool ((ll n).2)]:=by
 exact bw (r:=.aG [enc .node ((ll n).1),.bool ((ll n).2)]) (s:=.aG [.ty .node,.bool]) (ss:=[.undef]) (Pz n q0) (by kernel_rfl) (by simp only [ao,bm,aT,bn,bo,ae,ai,sC]) (by simp only [ae,aI,ao,ai,sC]) (by first | rfl | simp only [ak,aR,aQ,bh,bj,aS,bl,sC]) (by first | rfl | simp only [TO,acd,ak,sC]) t
noncomputable def ni (x y:U) (q:Bool):U × Bool:=if ix x y q=true then ({ x with bS:=true },true) else (x,false)
theorem Tk {x y:U} {q:Bool} (h:ix x y q=true):x.bS=false:=by
 unfold ix at h;simp only [wX,adv] at h;exact h.2.2.2.2.1
theorem Qo (x:U) (y:U) (q:Bool) (q0:aV x) (q1:aV y):Cm 308 [.agg (ab (some true) x),.agg (ab (some true) y),.bool q] (.aG [.agg (ab none ((ni x y q).1)),.bool ((ni x y q).2)],[.undef,.undef,.undef]):=by
 refine Cm.step Qk [.undef,.undef,.undef] fun J hJ=>?_;rw [Ql];have h3:=@Tk x y q;unfold ni;simp (disch:=first | assumption | omega) only [go_sem]
 generalize ix x y q=m at h3 ⊢;obtain ⟨a1,a2,a3,a4,a5,a6,a7,a8,a9,a10⟩:=x;cases m with
 | true=>
  have:=h3 rfl;dsimp only at this;subst this;rfl
 | false=>cases a3<;>rfl
@[go_sem] theorem aeG (x:U) (y:U) (q:Bool) (q0:aV x) (q1:aV y) (t:bD Rz):aO 308 [.agg (dD (some true) x),.agg (dD (some true) y),.bool q] t=feed t [enc .node ((ni x y q).1),.bool ((ni x y q).2)]:=by
 exact bw (r:=.aG [enc .node ((ni x y q).1),.bool ((ni x y q).2)]) (s:=.aG [.ty .node,.bool]) (ss:=[.undef,.undef,.undef]) (Qo x y q q0 q1) (by kernel_rfl) (by simp only [ao,bm,aT,bn,bo,ae,ai,sC]) (by simp only [ae,aI,ao,ai,sC]) (by first | rfl | simp only [ak,aR,aQ,bh,bj,aS,bl,sC]) (by first | rfl | simp only [TO,acd,ak,sC]) t
theorem Qp (x:U) (y:U) (q:Bool) (q0:aV x) (q1:aV y):Cm 266 [.agg (ab (some true) x),.agg (ab (some true) y),.bool q] (.aG [.agg (ab none ((ni x y q).1)),.bool ((ni x y q).2)],[.undef,.undef,.undef]):=by
 refine Cm.step Qm [.undef,.undef,.undef] fun J hJ=>?_;rw [Qn];unfold ni;simp (disch:=first | assumption | omega) only [go_sem]
 generalize ix x y q=m;cases m<;>rfl
@[go_sem] theorem aeH (x:U) (y:U) (q:Bool) (q0:aV x) (q1:aV y) (t:bD Rz):aO 266 [.agg (dD (some true) x),.agg (dD (some true) y),.bool q] t=feed t [enc .node ((ni x y q).1),.bool ((ni x y q).2)]:=by
 exact bw (r:=.aG [enc .node ((ni x y q).1),.bool ((ni x y q).2)]) (s:=.aG [.ty .node,.bool]) (ss:=[.undef,.undef,.undef]) (Qp x y q q0 q1) (by kernel_rfl) (by simp only [ao,bm,aT,bn,bo,ae,ai,sC]) (by simp only [ae,aI,ao,ai,sC]) (by first | rfl | simp only [ak,aR,aQ,bh,bj,aS,bl,sC]) (by first | rfl | simp only [TO,acd,ak,sC]) t
set_option maxRecDepth 100000
section
variable (pr:ej) (cv:Cv Rz) (J:Nat->St->Option Rz)
def Bs (g0:Bool) (x0:List UInt8) (x1:Int) (i0:Int):St:=(St.mk [(0,(s8 (some g0) x0)),(1,(.int .i64 x1)),(5,(.int .i64 i0))] [] [] 0)
def jv (g0:Bool) (x0:List UInt8) (i0:Int) (i1:Int):St:=(St.mk [(0,(s8 (some g0) x0)),(1,(.int .i64 i0)),(5,(.int .i64 i1))] [] [] 0)
theorem Ee:Told cfg Tryz.prog 184 Tryz.f184:=⟨by kernel_rfl,Tryz.func184,by kernel_rfl⟩
theorem Ef (g0:Bool) (x0:List UInt8) (x1:Int):aU pr cv J 184 Tryz.f184 [(s8 (some g0) x0),(.int .i64 x1)]=
 (J 0 (Bs g0 x0 x1 0)):=by kernel_rfl
theorem yo (g0:Bool) (x0:List UInt8) (i0:Int) (i1:Int):cg pr cv J 184 Tryz.f184 [.undef,.undef] 0 (jv g0 x0 i0 i1)=
 (br (pr.lt i1 (pr.ba x0.length)) (br (pr.bR i1 x0.length) (br (br (pr.da .u8 (bytes x0) (pr.idx 0 i1 1)) true false) (br (br (pr.eq (pr.cd (bytes x0) (pr.idx 0 i1 1)) (pr.wrap .u8 i0)) false true) (some ((.int .i64 (-1)),[.undef,.undef])) (J 0 (jv g0 x0 (pr.ar .add .i64 i0 1) (pr.ar .add .i64 i1 1)))) none) none) (some ((.int .i64 i0),[.undef,.undef]))):=by kernel_rfl
def Bt (g0:Bool) (x0:List Bool) (x1:Int) (i0:Int):St:=(St.mk [(0,(sB (some g0) x0)),(1,(.int .i64 x1)),(5,(.int .i64 i0))] [] [] 0)
def jw (g0:Bool) (x0:List Bool) (i0:Int) (i1:Int):St:=(St.mk [(0,(sB (some g0) x0)),(1,(.int .i64 i0)),(5,(.int .i64 i1))] [] [] 0)
theorem Eg:Told cfg Tryz.prog 99 Tryz.f99:=⟨by kernel_rfl,Tryz.func99,by kernel_rfl⟩
theorem Eh (g0:Bool) (x0:List Bool) (x1:Int):aU pr cv J 99 Tryz.f99 [(sB (some g0) x0),(.int .i64 x1)]=
 (J 0 (Bt g0 x0 x1 0)):=by kernel_rfl
theorem yp (g0:Bool) (x0:List Bool) (i0:Int) (i1:Int):cg pr cv J 99 Tryz.f99 [.undef,.undef] 0 (jw g0 x0 i0 i1)=
 (br (pr.lt i1 (pr.ba x0.length)) (br (pr.bR i1 x0.length) (br (br (pr.eH (aE x0) (pr.idx 0 i1 1)) true false) (br (br (pr.eq 3 0) false true) (br (br (pr.beq (pr.df (aE x0) (pr.idx 0 i1 1)) (pr.eq (pr.ar .rem .i64 i0 3) 0)) false true) (some ((.int .i64 (-1)),[.undef,.undef])) (J 0 (jw g0 x0 (pr.ar .add .i64 i0 1) (pr.ar .add .i64 i1 1)))) none) none) none) (some ((.int .i64 i0),[.undef,.undef]))):=by kernel_rfl
def Bu (g0:Bool) (x0:List (List Int)) (x1:Int) (i0:Int):St:=(St.mk [(0,(sR (some g0) x0)),(1,(.int .i64 x1)),(5,(.int .i64 i0))] [] [] 0)
def jx (g0:Bool) (x0:List (List Int)) (i0:Int) (i1:Int):St:=(St.mk [(0,(sR (some g0) x0)),(1,(.int .i64 i0)),(5,(.int .i64 i1))] [] [] 0)
theorem Ei:Told cfg Tryz.prog 100 Tryz.f100:=⟨by kernel_rfl,Tryz.func100,by kernel_rfl⟩
theorem Ej (g0:Bool) (x0:List (List Int)) (x1:Int):aU pr cv J 100 Tryz.f100 [(sR (some g0) x0),(.int .i64 x1)]=
 (J 0 (Bu g0 x0 x1 0)):=by kernel_rfl
theorem yq (g0:Bool) (x0:List (List Int)) (i0:Int) (i1:Int):cg pr cv J 100 Tryz.f100 [.undef,.undef] 0 (jx g0 x0 i0 i1)=
 (br (pr.lt i1 (pr.ba x0.length)) (br (pr.bR i1 x0.length) (br (br (pr.cZ 1 (rows (some g0) x0) (pr.idx 0 i1 1)) true false) (cv 23 [(.sl (some (pr.cD (rows (some g0) x0) (pr.idx 0 i1 1))) 1 (pr.bM (rows (some g0) x0) (pr.idx 0 i1 1)) (pr.bP (rows (some g0) x0) (pr.idx 0 i1 1))),(.int .i64 i0)] (.int (fun dj=>(.done (br (pr.lt dj 0) (some ((.int .i64 (-1)),[.undef,.undef])) (J 0 (jx g0 x0 dj (pr.ar .add .i64 i1 1)))))))) none) none) (some ((.int .i64 i0),[.undef,.undef]))):=by kernel_rfl
theorem GK:Told cfg Tryz.prog 82 Tryz.f82:=⟨by kernel_rfl,Tryz.func82,by kernel_rfl⟩
theorem GL (x0:aB) (x1:Int):aU pr cv J 82 Tryz.f82 [(.agg (bd none x0)),(.int .i64 x1)]=
 (br (br (br (pr.nl (ints x0.av)) true false) true false) (cv 22 [(sI none x0.av),(.int .i64 x1)] (.int (fun dj=>(.sl (fun rq=>(fun oD=>(.done (br (br (br (pr.nl oD) true false) true false) (br (br (br (pr.neq x0.av.length rq) true false) true false) (br (br (br (pr.nl (rows none x0.bits)) true false) true false) (cv 85 [(sR none x0.bits),(.int .i64 dj)] (.int (fun rn=>(.sl (fun xP=>(fun tP=>(.done (br (br (br (pr.nl tP) true false) true false) (br (br (br (pr.neq x0.bits.length xP) true false) true false) (some ((.int .i64 rn),[(.agg [(.sl none 1 rq oD),(.sl none 1 xP tP),(.bool x0.cf),(.bool x0.bB),(.bool x0.held),(.int .i64 x0.last)]),.undef])) none) none)))))))) none) none) none)))))))) none):=by kernel_rfl
theorem Ek:Told cfg Tryz.prog 83 Tryz.f83:=⟨by kernel_rfl,Tryz.func83,by kernel_rfl⟩
theorem El (x0:aD) (x1:Int):aU pr cv J 83 Tryz.f83 [(.agg (bL none x0)),(.int .i64 x1)]=
 (br (br (br (pr.nl (bytes x0.a)) true false) true false) (cv 176 [(s8 none x0.a),(.int .i64 x1)] (.int (fun dj=>(.sl (fun rq=>(fun oD=>(.done (br (br (br (pr.nl oD) true false) true false) (br (br (br (pr.neq x0.a.length rq) true false) true false) (br (br (br (pr.nl (bytes x0.b)) true false) true false) (cv 176 [(s8 none x0.b),(.int .i64 dj)] (.int (fun rn=>(.sl (fun xP=>(fun tP=>(.done (br (br (br (pr.nl tP) true false) true false) (br (br (br (pr.neq x0.b.length xP) true false) true false) (some ((.int .i64 rn),[(.agg [(.sl none 1 rq oD),(.sl none 1 xP tP)]),.undef])) none) none)))))))) none) none) none)))))))) none):=by kernel_rfl
theorem GM:Told cfg Tryz.prog 21 Tryz.f21:=⟨by kernel_rfl,Tryz.func21,by kernel_rfl⟩
theorem GN (x0:U) (x1:Int):aU pr cv J 21 Tryz.f21 [(.agg (ab none x0)),(.int .i64 x1)]=
 (br (br (br (pr.nl (ints x0.image)) true false) true false) (cv 22 [(sI none x0.image),(.int .i64 x1)] (.int (fun dj=>(.sl (fun rq=>(fun oD=>(.done (br (br (br (pr.nl oD) true false) true false) (br (br (br (pr.neq x0.image.length rq) true false) true false) (br (br (br (pr.nl (ints x0.mt.av)) (br (pr.nl (rows none x0.mt.bits)) true false) false) true false) (cv 82 [(.agg (bd none x0.mt)),(.int .i64 dj)] (.int (fun rn=>(.sl (fun xP=>(fun tP=>(.sl (fun Z3=>(fun VV=>(.bool (fun Rp=>(.bool (fun vb9=>(.bool (fun amO=>(.int (fun Bc=>(.done (br (br (br (pr.nl tP) (br (pr.nl VV) true false) false) true false) (br (br (br (pr.neq x0.mt.av.length xP) (br (pr.neq x0.mt.bits.length Z3) true false) false) true false) (br (br (br (pr.nl (bytes x0.aA.a)) (br (pr.nl (bytes x0.aA.b)) true false) false) true false) (cv 83 [(.agg (bL none x0.aA)),(.int .i64 rn)] (.int (fun aia=>(.sl (fun aeq=>(fun aer=>(.sl (fun Io=>(fun wU=>(.done (br (br (br (pr.nl aer) (br (pr.nl wU) true false) false) true false) (br (br (br (pr.neq x0.aA.a.length aeq) (br (pr.neq x0.aA.b.length Io) true false) false) true false) (br (br (br (pr.nl (aE x0.conn)) true false) true false) (cv 84 [(sB none x0.conn),(.int .i64 aia)] (.int (fun O6=>(.sl (fun S5=>(fun OA=>(.done (br (br (br (pr.nl OA) true false) true false) (br (br (br (pr.neq x0.conn.length S5) true false) true false) (br (br (br (pr.nl (rows none x0.sync)) true false) true false) (cv 85 [(sR none x0.sync),(.int .i64 O6)] (.int (fun aib=>(.sl (fun aes=>(fun aet=>(.done (br (br (br (pr.nl aet) true false) true false) (br (br (br (pr.neq x0.sync.length aes) true false) true false) (br (br (br (pr.nl (aE x0.aH)) true false) true false) (cv 84 [(sB none x0.aH),(.int .i64 aib)] (.int (fun aic=>(.sl (fun Tl=>(fun Tm=>(.done (br (br (br (pr.nl Tm) true false) true false) (br (br (br (pr.neq x0.aH.length Tl) true false) true false) (br (br (br (pr.nl (ints x0.wait)) true false) true false) (cv 22 [(sI none x0.wait),(.int .i64 aic)] (.int (fun aid=>(.sl (fun aeu=>(fun aev=>(.done (br (br (br (pr.nl aev) true false) true false) (br (br (br (pr.neq x0.wait.length aeu) true false) true false) (some ((.int .i64 aid),[(.agg [(.int .i64 x0.id),(.bool x0.up),(.bool x0.bS),(.sl none 1 rq oD),(.sl none 1 xP tP),(.sl none 1 Z3 VV),(.bool x0.mt.cf),(.bool x0.mt.bB),(.bool x0.mt.held),(.int .i64 x0.mt.last),(.sl none 1 aeq aer),(.sl none 1 Io wU),(.sl none 1 S5 OA),(.sl none 1 aes aet),(.sl none 1 Tl Tm),(.sl none 1 aeu aev)]),.undef])) none) none)))))))) none) none) none)))))))) none) none) none)))))))) none) none) none)))))))) none) none) none))))))))))) none) none) none))))))))))))))))))) none) none) none)))))))) none):=by kernel_rfl
theorem GO:Told cfg Tryz.prog 97 Tryz.f97:=⟨by kernel_rfl,Tryz.func97,by kernel_rfl⟩
theorem GP (g0:Bool) (x0:aB) (x1:Int):aU pr cv J 97 Tryz.f97 [(.agg (bd (some g0) x0)),(.int .i64 x1)]=
 let y1:Option (D × List D):=(some ((.int .i64 (-1)),[.undef,.undef]))
 (cv 23 [(sI (some g0) x0.av),(.int .i64 x1)] (.int (fun dj=>(.done (br (pr.lt dj 0) y1 (cv 100 [(sR (some g0) x0.bits),(.int .i64 dj)] (.int (fun fk=>(.done (br (pr.lt fk 0) y1 (some ((.int .i64 fk),[.undef,.undef])))))))))))):=by kernel_rfl
theorem Em:Told cfg Tryz.prog 98 Tryz.f98:=⟨by kernel_rfl,Tryz.func98,by kernel_rfl⟩
theorem En (g0:Bool) (x0:aD) (x1:Int):aU pr cv J 98 Tryz.f98 [(.agg (bL (some g0) x0)),(.int .i64 x1)]=
 let y1:Option (D × List D):=(some ((.int .i64 (-1)),[.undef,.undef]))
 (cv 184 [(s8 (some g0) x0.a),(.int .i64 x1)] (.int (fun dj=>(.done (br (pr.lt dj 0) y1 (cv 184 [(s8 (some g0) x0.b),(.int .i64 dj)] (.int (fun fk=>(.done (br (pr.lt fk 0) y1 (some ((.int .i64 fk),[.undef,.undef])))))))))))):=by kernel_rfl
theorem GQ:Told cfg Tryz.prog 26 Tryz.f26:=⟨by kernel_rfl,Tryz.func26,by kernel_rfl⟩
theorem GR (g0:Bool) (x0:U) (x1:Int):aU pr cv J 26 Tryz.f26 [(.agg (ab (some g0) x0)),(.int .i64 x1)]=
 let y1:Option (D × List D):=(some ((.int .i64 (-1)),[.undef,.undef]))
 (cv 23 [(sI (some g0) x0.image),(.int .i64 x1)] (.int (fun dj=>(.done (br (pr.lt dj 0) y1 (cv 97 [(.agg (bd (some g0) x0.mt)),(.int .i64 dj)] (.int (fun fk=>(.done (br (pr.lt fk 0) y1 (cv 98 [(.agg (bL (some g0) x0.aA)),(.int .i64 fk)] (.int (fun lU=>(.done (br (pr.lt lU 0) y1 (cv 99 [(sB (some g0) x0.conn),(.int .i64 lU)] (.int (fun rn=>(.done (br (pr.lt rn 0) y1 (cv 100 [(sR (some g0) x0.sync),(.int .i64 rn)] (.int (fun nL=>(.done (br (pr.lt nL 0) y1 (cv 99 [(sB (some g0) x0.aH),(.int .i64 nL)] (.int (fun qd=>(.done (br (pr.lt qd 0) y1 (cv 23 [(sI (some g0) x0.wait),(.int .i64 qd)] (.int (fun VG=>(.done (br (pr.lt VG 0) y1 (some ((.int .i64 VG),[.undef,.undef]))))))))))))))))))))))))))))))))))))):=by kernel_rfl
end
section
variable (t:bD Rz)
@[go_sem] theorem afL (n:Nat) (xs:List Int) (k:Int) (hn:n=xs.length) (h0:0<=k) (h1:k+xs.length < 9223372036854775807):aO 22 [.sl none 1 n (ints xs),.int .i64 k] t=feed t [.int .i64 (k+xs.length),.sl none 1 xs.length (ints (ji k xs.length))]:=F6 t n xs k hn h0 h1
@[go_sem] theorem aeI (n:Nat) (xs:List UInt8) (k:Int) (hn:n=xs.length) (h0:0<=k) (h1:k+xs.length < 9223372036854775807):aO 176 [.sl none 1 n (bytes xs),.int .i64 k] t=feed t [.int .i64 (k+xs.length),.sl none 1 xs.length (bytes (o6 k xs.length))]:=PZ t n xs k hn h0 h1
@[go_sem] theorem aeJ (n:Nat) (xs:List Bool) (k:Int) (hn:n=xs.length) (h0:0<=k) (h1:k+xs.length < 9223372036854775807):aO 84 [.sl none 1 n (aE xs),.int .i64 k] t=feed t [.int .i64 (k+xs.length),.sl none 1 xs.length (aE (nK k xs.length))]:=P2 t n xs k hn h0 h1
@[go_sem] theorem aeK (n:Nat) (xss:List (List Int)) (k:Int) (hn:n=xss.length) (h0:0<=k) (h1:k+dv xss < 9223372036854775807) (hs:xss.length < 9223372036854775807):aO 85 [.sl none 1 n (rows none xss),.int .i64 k] t=feed t [.int .i64 (k+dv xss),.sl none 1 xss.length (rows none (lV k xss))]:=P4 t n xss k hn h0 h1 hs
end
theorem uB {xss:List (List Int)} (h:rp xss):dv xss<=1048576*xss.length:=by
 have key:∀ l:List (List Int),(∀ x∈l,x.length<=1048576)->dv l<=1048576*l.length:=by
  intro l
  induction l with
  | nil=>intro _; simp [dv]
  | cons x l ih=>
   intro hl;have h1:=ih fun y hy=>hl y (by simp [hy])
   have h2:=hl x (by simp)
   simp only [dv,ac6,List.sum_cons,adj] at h1 ⊢;omega
 exact key xss h.2
theorem kp (k:Int) (n:Nat):(ji k n).length=n:=dB k n
theorem kq (k:Int) (n:Nat):(o6 k n).length=n:=dZ k n
theorem kr (k:Int) (n:Nat):(nK k n).length=n:=ea k n
theorem ks (k:Int) (x:List (List Int)):(lV k x).length=x.length:=eN k x
@[go_sem] theorem al9 (k:Int) (n:Nat):decide (n=(ji k n).length)=true:=by simp [dB]
@[go_sem] theorem ama (k:Int) (n:Nat):decide (n=(o6 k n).length)=true:=by simp [dZ]
@[go_sem] theorem amb (k:Int) (n:Nat):decide (n=(nK k n).length)=true:=by simp [ea]
@[go_sem] theorem amc (k:Int) (x:List (List Int)):decide (x.length=(lV k x).length)=true:=by simp [eN]
abbrev PA (k:Int) (m:aB):aB:=⟨ji k m.av.length,lV (k+m.av.length) m.bits,m.cf,m.bB,m.held,m.last⟩
abbrev PB (k:Int) (s:aD):aD:=⟨o6 k s.a.length,o6 (k+s.a.length) s.b.length⟩
def lM (m:aB):Nat:=m.av.length+dv m.bits
def mG (s:aD):Nat:=s.a.length+s.b.length
theorem Tn (m:aB) (k:Int) (h0:0<=k) (h1:k<=2305843009213693952) (ok:bO m):Cm 82 [.agg (bd none m),.int .i64 k] (.int .i64 (k+lM m),[.agg (bd none (PA k m)),.undef]):=by
 have a1:=ok.av;have a2:=ok.bits;have a3:=a2.1;have a4:=uB a2;refine Cm.step GK _ fun J _=>?_;rw [GL];unfold lM;rw [show k+((m.av.length+dv m.bits:Nat):Int)=k+m.av.length+dv m.bits by omega]
 simp (disch:=first | assumption | omega | (simp only [dB,dZ,ea,eN]; done)) only [go_sem,kp,kq,kr,ks]
theorem Qq (m:aD) (k:Int) (h0:0<=k) (h1:k<=2305843009213693952) (ok:cT m):Cm 83 [.agg (bL none m),.int .i64 k] (.int .i64 (k+mG m),[.agg (bL none (PB k m)),.undef]):=by
 have a1:=ok.a;have a2:=ok.b;refine Cm.step Ek _ fun J _=>?_;rw [El];unfold mG;rw [show k+((m.a.length+m.b.length:Nat):Int)=k+m.a.length+m.b.length by omega]
 simp (disch:=first | assumption | omega | (simp only [dB,dZ,ea,eN]; done)) only [go_sem,kp,kq,kr,ks]
section
variable (t:bD Rz)
@[go_sem] theorem afM (m:aB) (k:Int) (h0:0<=k) (h1:k<=2305843009213693952) (ok:bO m):aO 82 [.agg (lh none m),.int .i64 k] t=feed t (.int .i64 (k+lM m)::bd none (PA k m)):=bc (Tn m k h0 h1 ok) (by kernel_rfl) t
@[go_sem] theorem aeL (m:aD) (k:Int) (h0:0<=k) (h1:k<=2305843009213693952) (ok:cT m):aO 83 [.agg (j7 none m),.int .i64 k] t=feed t (.int .i64 (k+mG m)::bL none (PB k m)):=bc (Qq m k h0 h1 ok) (by kernel_rfl) t
end
theorem Eo {m:aB} (ok:bO m):lM m<=1099512676352:=by
 have a1:=ok.av;have a2:=uB ok.bits;have a3:=ok.bits.1;unfold lM;omega
theorem Ep {m:aD} (ok:cT m):mG m<=2097152:=by
 have a1:=ok.a;have a2:=ok.b;unfold mG;omega
abbrev To (k:Int) (n:U):U:=⟨n.id,n.up,n.bS,ji k n.image.length,PA (k+n.image.length) n.mt,PB (k+n.image.length+lM n.mt) n.aA,nK (k+n.image.length+lM n.mt+mG n.aA) n.conn.length,lV (k+n.image.length+lM n.mt+mG n.aA+n.conn.length) n.sync,nK (k+n.image.length+lM n.mt+mG n.aA+n.conn.length+dv n.sync) n.aH.length,ji (k+n.image.length+lM n.mt+mG n.aA+n.conn.length+dv n.sync+n.aH.length) n.wait.length⟩
def sA (n:U):Nat:=n.image.length+lM n.mt+mG n.aA+n.conn.length+dv n.sync+n.aH.length+n.wait.length
theorem zn {n:U} (ok:aV n):sA n<=4398046511104:=by
 have a1:=ok.image;have a2:=Eo ok.mt;have a3:=Ep ok.aA;have a4:=ok.conn;have a5:=uB ok.sync;have a6:=ok.sync.1;have a7:=ok.aH;have a8:=ok.wait;unfold sA;omega
theorem Tp (n:U) (k:Int) (h0:0<=k) (h1:k<=1152921504606846976) (ok:aV n):Cm 21 [.agg (ab none n),.int .i64 k] (.int .i64 (k+sA n),[.agg (ab none (To k n)),.undef]):=by
 have a1:=ok.image;have a2:=Eo ok.mt;have b2:=ok.mt;have a3:=Ep ok.aA;have b3:=ok.aA;have a4:=ok.conn;have a5:=uB ok.sync;have a6:=ok.sync.1;have a7:=ok.aH;have a8:=ok.wait;refine Cm.step GM _ fun J _=>?_;rw [GN];rw [show k+((sA n:Nat):Int)=k+n.image.length+lM n.mt+mG n.aA+n.conn.length+dv n.sync+n.aH.length+n.wait.length by unfold sA; omega]
 simp (disch:=first | assumption | omega | (simp only [dB,dZ,ea,eN]; done)) only [go_sem,kp,kq,kr,ks]
 first | done | rfl
@[go_sem] theorem afN (n:U) (k:Int) (h0:0<=k) (h1:k<=1152921504606846976) (ok:aV n) (t:bD Rz):aO 21 [.agg (dD none n),.int .i64 k] t=feed t (.int .i64 (k+sA n)::ab none (To k n)):=bc (Tp n k h0 h1 ok) (by kernel_rfl) t
@[go_sem] theorem afO (g:Bool) (n0:Nat) (k:Int) (n:Nat) (e:n0=n) (h0:0<=k) (h1:k+n < 9223372036854775807) (t:bD Rz):aO 23 [.sl (some g) 1 n0 (ints (ji k n)),.int .i64 k] t=feed t [.int .i64 (k+n)]:=by
 subst e;exact bc (SZ g k n0 h0 h1) (by kernel_rfl) t
theorem Qr (g:Bool) (k:Int) (n:Nat) (h0:0<=k) (h1:k+n < 4611686018427387904):Cm 184 [.sl (some g) 1 n (bytes (o6 k n)),.int .i64 k] (.int .i64 (k+n),[.undef,.undef]):=by
 have hl:=dZ k n;have hg:∀ i,i < n->(o6 k n).getD i 0=UInt8.ofNat ((k+(i:Int)) % 256).toNat:=fun i hi=>by
  rw [af6];simp [o6,hi]
 have key:∀ i,i<=n->True->WP 184 Tryz.f184 [.undef,.undef] 0 (jv g (o6 k n) (k+(i:Nat)) (i:Nat)) (.int .i64 (k+n),[.undef,.undef]):=by
  refine WP.up (H:=fun i=>jv g (o6 k n) (k+(i:Nat)) (i:Nat)) n (fun _=>True) (fun i hi _ J hJ next=>?_)
  rw [yo];simp (disch:=first | assumption | omega | (simp only [dB,dZ,ea,eN]; done)) only [go_sem,kp,kq,kr,ks]
  refine dn (fun cK=>?_) (fun qv=>?_)
  ·rw [show ad.wrap .u8 (k+(i:Int))=_ from Z1 (k+(i:Int))];simp (disch:=first | assumption | omega | (simp only [dB,dZ,ea,eN]; done)) only [go_sem,kp,kq,kr,ks,hg i (by omega)]
   have:=next (by omega) trivial
   rw [show k+((i+1:Nat):Int)=k+i+1 by omega] at this
   exact this
  ·rw [show (i:Int)=n by omega]
 refine Cm.step Ee [.undef,.undef] fun J hJ=>?_;have:=Ef ad aO J g (o6 k n) k;rw [s8,hl] at this;rw [this];refine hJ _ _ ?_;have h9:=key 0 (by omega) trivial
 rw [show k+((0:Nat):Int)=k by omega] at h9
 exact h9
@[go_sem] theorem aeM (g:Bool) (n0:Nat) (k:Int) (n:Nat) (e:n0=n) (h0:0<=k) (h1:k+n < 4611686018427387904) (t:bD Rz):aO 184 [.sl (some g) 1 n0 (bytes (o6 k n)),.int .i64 k] t=feed t [.int .i64 (k+n)]:=by
 subst e;exact bc (Qr g k n0 h0 h1) (by kernel_rfl) t
theorem abA (k:Int) (n i:Nat) (h:i < (nK k n).length):(nK k n)[i]=S8 (k+(i:Int)):=by simp [nK,S8]
theorem Qs (g:Bool) (k:Int) (n:Nat) (h0:0<=k) (h1:k+n < 4611686018427387904):Cm 99 [.sl (some g) 1 n (aE (nK k n)),.int .i64 k] (.int .i64 (k+n),[.undef,.undef]):=by
 have hl:=ea k n;have hg:∀ i,i < n->(nK k n).getD i false=S8 (k+(i:Int)):=fun i hi=>by
  rw [af6,ace (by omega)]
  exact abA k n i (by omega)
 have key:∀ i,i<=n->True->WP 99 Tryz.f99 [.undef,.undef] 0 (jw g (nK k n) (k+(i:Nat)) (i:Nat)) (.int .i64 (k+n),[.undef,.undef]):=by
  refine WP.up (H:=fun i=>jw g (nK k n) (k+(i:Nat)) (i:Nat)) n (fun _=>True) (fun i hi _ J hJ next=>?_)
  rw [yp];simp (disch:=first | assumption | omega | (simp only [dB,dZ,ea,eN]; done)) only [go_sem,kp,kq,kr,ks]
  refine dn (fun cK=>?_) (fun qv=>?_)
  ·simp (disch:=first | assumption | omega | (simp only [dB,dZ,ea,eN]; done)) only [go_sem,kp,kq,kr,ks,ahQ,hg i (by omega)]
   have:=next (by omega) trivial
   rw [show k+((i+1:Nat):Int)=k+i+1 by omega] at this
   exact this
  ·rw [show (i:Int)=n by omega]
 refine Cm.step Eg [.undef,.undef] fun J hJ=>?_;have:=Eh ad aO J g (nK k n) k;rw [sB,hl] at this;rw [this];refine hJ _ _ ?_;have h9:=key 0 (by omega) trivial
 rw [show k+((0:Nat):Int)=k by omega] at h9
 exact h9
@[go_sem] theorem aeN (g:Bool) (n0:Nat) (k:Int) (n:Nat) (e:n0=n) (h0:0<=k) (h1:k+n < 4611686018427387904) (t:bD Rz):aO 99 [.sl (some g) 1 n0 (aE (nK k n)),.int .i64 k] t=feed t [.int .i64 (k+n)]:=by
 subst e;exact bc (Qs g k n0 h0 h1) (by kernel_rfl) t
theorem RE:∀ (xss:List (List Int)) (k:Int) (i:Nat) (h:i < (lV k xss).length) (h2:i < xss.length),(lV k xss)[i]=ji (k+dv (xss.take i)) (xss[i]).length
 | [],_,_,h,_=>by simp [lV] at h
 | xs::r,k,0,_,_=>by simp [lV,dv]
 | xs::r,k,i+1,h,h2=>by
  simp only [lV,adj,Nat.add_lt_add_iff_right] at h h2;have:=RE r (k+xs.length) i h h2;simp only [lV,List.getElem_cons_succ,List.take_succ_cons];rw [this]
  congr 1
  simp only [dv,ac6,List.sum_cons];omega
theorem WE {xss:List (List Int)} {i:Nat} (h:i < xss.length):dv (xss.take (i+1))=dv (xss.take i)+(xss[i]).length:=by
 rw [List.take_succ_eq_append_getElem h];unfold dv;rw [agG,List.sum_append];simp only [ac6,agZ,List.sum_cons,List.sum_nil,agF]
theorem Bv (xss:List (List Int)) (i:Nat):dv (xss.take i)<=dv xss:=by
 have:dv xss=dv (xss.take i)+dv (xss.drop i):=by
  conv=>lhs; rw [<- agH i xss]
  unfold dv;rw [agG,List.sum_append]
 omega
theorem Qt (g:Bool) (k:Int) (xss:List (List Int)) (h0:0<=k) (h1:k+dv xss < 4611686018427387904) (hs:xss.length < 4611686018427387904):Cm 100 [.sl (some g) 1 xss.length (rows (some g) (lV k xss)),.int .i64 k] (.int .i64 (k+dv xss),[.undef,.undef]):=by
 have hl:=eN k xss;have key:∀ i,i<=xss.length->True->WP 100 Tryz.f100 [.undef,.undef] 0 (jx g (lV k xss) (k+dv (xss.take i)) (i:Nat)) (.int .i64 (k+dv xss),[.undef,.undef]):=by
  refine WP.up (H:=fun i=>jx g (lV k xss) (k+dv (xss.take i)) (i:Nat)) xss.length (fun _=>True) (fun i hi _ J hJ next=>?_)
  rw [yq];have a1:=Bv xss i;have a2:=Bv xss (i+1);simp (disch:=first | assumption | omega | (simp only [dB,dZ,ea,eN]; done)) only [go_sem,kp,kq,kr,ks]
  refine dn (fun cK=>?_) (fun qv=>?_)
  ·have QV:i < xss.length:=by omega
   have a3:=WE QV;have e1:(lV k xss).getD i []=ji (k+dv (xss.take i)) (xss[i]).length:=by
    rw [af6,ace (by omega)]
    exact RE xss k i (by omega) QV
   simp (disch:=first | assumption | omega | (simp only [dB,dZ,ea,eN]; done)) only [go_sem,kp,kq,kr,ks,e1]
   have:=next (by omega) trivial
   rw [a3,show k+((dv (xss.take i)+(xss[i]).length:Nat):Int)=k+dv (xss.take i)+(xss[i]).length by omega] at this
   exact this
  ·rw [show i=xss.length by omega,ac8]
 refine Cm.step Ei [.undef,.undef] fun J hJ=>?_;have:=Ej ad aO J g (lV k xss) k;rw [sR,hl] at this;rw [this];refine hJ _ _ ?_;have h9:=key 0 (by omega) trivial
 rw [List.take_zero,show k+((dv []:Nat):Int)=k by simp [dv]] at h9
 exact h9
@[go_sem] theorem aeO (g:Bool) (n0:Nat) (k:Int) (xss:List (List Int)) (e:n0=xss.length) (h0:0<=k) (h1:k+dv xss < 4611686018427387904) (hs:xss.length < 4611686018427387904) (t:bD Rz):aO 100 [.sl (some g) 1 n0 (rows (some g) (lV k xss)),.int .i64 k] t=feed t [.int .i64 (k+dv xss)]:=by
 subst e;exact bc (Qt g k xss h0 h1 hs) (by kernel_rfl) t
theorem Tq (g:Bool) (m:aB) (k:Int) (h0:0<=k) (h1:k<=2305843009213693952) (ok:bO m):Cm 97 [.agg (bd (some g) (PA k m)),.int .i64 k] (.int .i64 (k+lM m),[.undef,.undef]):=by
 have a1:=ok.av;have a2:=ok.bits;have a3:=a2.1;have a4:=uB a2;refine Cm.step GO _ fun J _=>?_;rw [GP];unfold lM;rw [show k+((m.av.length+dv m.bits:Nat):Int)=k+m.av.length+dv m.bits by omega]
 simp (disch:=first | assumption | omega | (simp only [dB,dZ,ea,eN]; done)) only [go_sem,kp,kq,kr,ks]
theorem Qu (g:Bool) (m:aD) (k:Int) (h0:0<=k) (h1:k<=2305843009213693952) (ok:cT m):Cm 98 [.agg (bL (some g) (PB k m)),.int .i64 k] (.int .i64 (k+mG m),[.undef,.undef]):=by
 have a1:=ok.a;have a2:=ok.b;refine Cm.step Em _ fun J _=>?_;rw [En];unfold mG;rw [show k+((m.a.length+m.b.length:Nat):Int)=k+m.a.length+m.b.length by omega]
 simp (disch:=first | assumption | omega | (simp only [dB,dZ,ea,eN]; done)) only [go_sem,kp,kq,kr,ks]
@[go_sem] theorem afP (g:Bool) (m:aB) (k:Int) (h0:0<=k) (h1:k<=2305843009213693952) (ok:bO m) (t:bD Rz):aO 97 [.agg (lh (some g) (PA k m)),.int .i64 k] t=feed t [.int .i64 (k+lM m)]:=bc (Tq g m k h0 h1 ok) (by kernel_rfl) t
@[go_sem] theorem aeP (g:Bool) (m:aD) (k:Int) (h0:0<=k) (h1:k<=2305843009213693952) (ok:cT m) (t:bD Rz):aO 98 [.agg (j7 (some g) (PB k m)),.int .i64 k] t=feed t [.int .i64 (k+mG m)]:=bc (Qu g m k h0 h1 ok) (by kernel_rfl) t
theorem Tr (g:Bool) (n:U) (k:Int) (h0:0<=k) (h1:k<=1152921504606846976) (ok:aV n):Cm 26 [.agg (ab (some g) (To k n)),.int .i64 k] (.int .i64 (k+sA n),[.undef,.undef]):=by
 have a1:=ok.image;have a2:=Eo ok.mt;have b2:=ok.mt;have a3:=Ep ok.aA;have b3:=ok.aA;have a4:=ok.conn;have a5:=uB ok.sync;have a6:=ok.sync.1;have a7:=ok.aH;have a8:=ok.wait;refine Cm.step GQ _ fun J _=>?_;rw [GR];rw [show k+((sA n:Nat):Int)=k+n.image.length+lM n.mt+mG n.aA+n.conn.length+dv n.sync+n.aH.length+n.wait.length by unfold sA; omega]
 simp (disch:=first | assumption | omega | (simp only [dB,dZ,ea,eN]; done)) only [go_sem,kp,kq,kr,ks]
@[go_sem] theorem afQ (g:Bool) (n:U) (k:Int) (h0:0<=k) (h1:k<=1152921504606846976) (ok:aV n) (t:bD Rz):aO 26 [.agg (dD (some g) (To k n)),.int .i64 k] t=feed t [.int .i64 (k+sA n)]:=bc (Tr g n k h0 h1 ok) (by kernel_rfl) t
set_option maxRecDepth 100000
section
variable (pr:ej) (cv:Cv Rz) (J:Nat->St->Option Rz)
def jd (x0:List UInt8) (x1:List UInt8) (i0:Int) (i1:Int) (i2:Int):St:=(St.mk [(0,(.sl (some true) 1 2 [(s8 (some true) x0),(s8 (some true) x1)])),(3,(.int .i64 i0)),(9,(.sl (some true) 1 2 [(s8 (some true) x0),(s8 (some true) x1)])),(10,(.int .i64 i1)),(11,(.int .i64 i2))] [] [] 0)
def je (x0:List UInt8) (x1:List UInt8) (i0:Int) (i1:Int) (n2:Nat) (c3:List D):St:=(St.mk [(6,(.ref 10006 [] 0 none)),(25,(.sl (some true) 1 2 [(s8 (some true) x0),(s8 (some true) x1)])),(26,(.int .i64 i0)),(27,(.int .i64 i1))] [(10006,[(.sl none 1 n2 c3)])] [] 0)
theorem vL:Told cfg Tryz.prog 284 Tryz.f284:=⟨by kernel_rfl,Tryz.func284,by kernel_rfl⟩
theorem vM (x0:List UInt8) (x1:List UInt8):aU pr cv J 284 Tryz.f284 [(.sl (some true) 1 2 [(s8 (some true) x0),(s8 (some true) x1)])]=
 (J 0 (jd x0 x1 0 (pr.ba 2) 0)):=by kernel_rfl
theorem iP (x0:List UInt8) (x1:List UInt8) (i0:Int) (i1:Int) (i2:Int):cg pr cv J 284 Tryz.f284 [.undef] 0 (jd x0 x1 i0 i1 i2)=
 let y1:Int:=(pr.ar .add .i64 i0 (pr.ba (pr.bM [(s8 (some true) x0),(s8 (some true) x1)] (pr.idx 0 i2 1))))
 (br (pr.lt i2 i1) (br (pr.bR i2 2) (br (br (pr.cZ 1 [(s8 (some true) x0),(s8 (some true) x1)] (pr.idx 0 i2 1)) true false) (br (pr.lt y1 0) none (J 0 (jd x0 x1 y1 i1 (pr.ar .add .i64 i2 1)))) none) none) (cv 315 [(.nil 1),(.int .i64 i0)] (.ty cJ.B (fun (au:List UInt8)=>(.done (J 2 (je x0 x1 (pr.ba 2) 0 au.length (bytes au)))))))):=by kernel_rfl
theorem iQ (x0:List UInt8) (x1:List UInt8) (i0:Int) (i1:Int) (n2:Nat) (c3:List D):cg pr cv J 284 Tryz.f284 [.undef] 2 (je x0 x1 i0 i1 n2 c3)=
 let y1:List D:=(pr.bP [(s8 (some true) x0),(s8 (some true) x1)] (pr.idx 0 i1 1))
 let y2:Nat:=(n2+(pr.bM [(s8 (some true) x0),(s8 (some true) x1)] (pr.idx 0 i1 1)))
 (br (pr.lt i1 i0) (br (pr.bR i1 2) (br (br (pr.cZ 1 [(s8 (some true) x0),(s8 (some true) x1)] (pr.idx 0 i1 1)) true false) (br (br (pr.cell y1) (pr.fits y2 1) false) (J 2 (je x0 x1 i0 (pr.ar .add .i64 i1 1) y2 (List.append c3 y1))) none) none) none) (some ((.sl none 1 n2 c3),[.undef]))):=by kernel_rfl
theorem Qv:Told cfg Tryz.prog 244 Tryz.f244:=⟨by kernel_rfl,Tryz.func244,by kernel_rfl⟩
theorem Qw (x0:aD) (x1:aB) (x2:Int):aU pr cv J 244 Tryz.f244 [(.agg (bL (some true) x0)),(.agg (bd (some true) x1)),(.int .i64 x2)]=
 let y1:Nat:=(Nat.mul (pr.hI (pr.mx 0 (pr.mn x2 160)) 0) 1)
 (cv 179 [(.agg (bL (some true) x0))] (.ty cJ.aA (fun (au:aD)=>(.done (cv 240 [(.agg (bz true (bL none au)))] (.ty cJ.mt (fun (ef:aB)=>(.int (fun lU=>(.bool (fun rm=>(.done (cv 168 [(.agg (bd (some true) x1))] (.bool (fun AZ=>(.done (br (br AZ false true) (some ((.agg (bL none au)),[.undef,.undef,.undef])) (br (pr.eq lU 1000000) (some ((.agg (bL none au)),[.undef,.undef,.undef])) (br rm (br (pr.rj (pr.mn (pr.mx 0 (pr.mn x2 160)) (pr.ba au.b.length)) (pr.ba au.b.length) au.b.length) (cv 285 [(.agg (bd (some true) x1)),(.int .i64 (pr.ar .add .i64 lU 1))] (.ty cJ.B (fun (J5:List UInt8)=>(.done (br (pr.rj 0 (pr.mx 0 (pr.mn x2 160)) J5.length) (cv 284 [(.sl (some true) 1 2 [(.sl (some true) 1 (pr.hI (pr.mx 0 (pr.mn x2 160)) 0) (bz true (List.take y1 (List.drop (Nat.mul (0+(pr.gF 0)) 1) (bytes J5))))),(.sl (some true) 1 (pr.hI (pr.ba au.b.length) (pr.mn (pr.mx 0 (pr.mn x2 160)) (pr.ba au.b.length))) (bz true (List.take (Nat.mul (pr.hI (pr.ba au.b.length) (pr.mn (pr.mx 0 (pr.mn x2 160)) (pr.ba au.b.length))) 1) (List.drop (Nat.mul (0+(pr.gF (pr.mn (pr.mx 0 (pr.mn x2 160)) (pr.ba au.b.length)))) 1) (bytes au.b)))))])] (.ty cJ.B (fun (WD:List UInt8)=>(.done (some ((.agg [(s8 none au.a),(s8 none WD)]),[.undef,.undef,.undef])))))) none))))) none) (br (pr.rj (pr.mn (pr.mx 0 (pr.mn x2 160)) (pr.ba au.a.length)) (pr.ba au.a.length) au.a.length) (cv 285 [(.agg (bd (some true) x1)),(.int .i64 (pr.ar .add .i64 lU 1))] (.ty cJ.B (fun (mi:List UInt8)=>(.done (br (pr.rj 0 (pr.mx 0 (pr.mn x2 160)) mi.length) (cv 284 [(.sl (some true) 1 2 [(.sl (some true) 1 (pr.hI (pr.mx 0 (pr.mn x2 160)) 0) (bz true (List.take y1 (List.drop (Nat.mul (0+(pr.gF 0)) 1) (bytes mi))))),(.sl (some true) 1 (pr.hI (pr.ba au.a.length) (pr.mn (pr.mx 0 (pr.mn x2 160)) (pr.ba au.a.length))) (bz true (List.take (Nat.mul (pr.hI (pr.ba au.a.length) (pr.mn (pr.mx 0 (pr.mn x2 160)) (pr.ba au.a.length))) 1) (List.drop (Nat.mul (0+(pr.gF (pr.mn (pr.mx 0 (pr.mn x2 160)) (pr.ba au.a.length)))) 1) (bytes au.a)))))])] (.ty cJ.B (fun (nZ:List UInt8)=>(.done (some ((.agg [(s8 none nZ),(s8 none au.b)]),[.undef,.undef,.undef])))))) none))))) none)))))))))))))))))))):=by kernel_rfl
theorem IN:Told cfg Tryz.prog 190 Tryz.f190:=⟨by kernel_rfl,Tryz.func190,by kernel_rfl⟩
theorem IP (x0:aD) (x1:aB):aU pr cv J 190 Tryz.f190 [(.agg (bL (some true) x0)),(.agg (bd (some true) x1))]=
 (cv 240 [(.agg (bL (some true) x0))] (.ty cJ.mt (fun (au:aB)=>(.int (fun fk=>(.bool (fun iy=>(.done (cv 244 [(.agg (bL (some true) x0)),(.agg (bd (some true) x1)),(.int .i64 160)] (.ty cJ.aA (fun (lZ:aD)=>(.done (cv 168 [(.agg (bd (some true) x1))] (.bool (fun AZ=>(.done (br (br AZ false true) (some ((.agg (bL none lZ)),[.undef,.undef])) (br (pr.eq fk 1000000) (some ((.agg (bL none lZ)),[.undef,.undef])) (br iy (br (pr.rj 0 160 lZ.b.length) (some ((.agg [(s8 none lZ.a),(.sl none 1 (pr.hI 160 0) (List.take (Nat.mul (pr.hI 160 0) 1) (List.drop (Nat.mul (0+(pr.gF 0)) 1) (bytes lZ.b))))]),[.undef,.undef])) none) (br (pr.rj 0 160 lZ.a.length) (some ((.agg [(.sl none 1 (pr.hI 160 0) (List.take (Nat.mul (pr.hI 160 0) 1) (List.drop (Nat.mul (0+(pr.gF 0)) 1) (bytes lZ.a)))),(s8 none lZ.b)]),[.undef,.undef])) none)))))))))))))))))))):=by kernel_rfl
theorem IQ:Told cfg Tryz.prog 178 Tryz.f178:=⟨by kernel_rfl,Tryz.func178,by kernel_rfl⟩
theorem IS (x0:aD) (x1:aB):aU pr cv J 178 Tryz.f178 [(.agg (bL (some true) x0)),(.agg (bd (some true) x1))]=
 (cv 177 [(.agg (bL (some true) x0))] (.ty cJ.aA (fun (au:aD)=>(.done (cv 163 [(.agg (bL (some true) x0))] (.ty cJ.mt (fun (ef:aB)=>(.int (fun lU=>(.bool (fun rm=>(.done (cv 161 [(.agg (bd (some true) x1))] (.bool (fun AZ=>(.done (br (br AZ false true) (some ((.agg (bL none au)),[.undef,.undef])) (br (pr.le 1000000 lU) (some ((.agg (bL none au)),[.undef,.undef])) (cv 234 [(.agg (bL (some true) x0))] (.int (fun qd=>(.done (br (pr.eq qd 0) (cv 243 [(.agg (bd (some true) x1)),(.int .i64 (pr.ar .add .i64 lU 1))] (.ty cJ.B (fun (WD:List UInt8)=>(.done (some ((.agg [(s8 none au.a),(s8 none WD)]),[.undef,.undef])))))) (cv 243 [(.agg (bd (some true) x1)),(.int .i64 (pr.ar .add .i64 lU 1))] (.ty cJ.B (fun (mi:List UInt8)=>(.done (some ((.agg [(s8 none mi),(s8 none au.b)]),[.undef,.undef]))))))))))))))))))))))))))))):=by kernel_rfl
end
theorem amd (g:Option Bool) (a:Int):D.sl g 1 1 [D.int .i64 a]=.sl g 1 [a].length (ints [a]):=rfl
theorem Cc {α β:Type} {f:α->List β} {c:Nat}:∀ {xs:List α},(∀ x∈xs,(f x).length<=c)->(xs.flatMap f).length<=c*xs.length
 | [],_=>by simp
 | x::xs,h=>by
  have h1:=Cc (f:=f) (c:=c) (xs:=xs) fun y hy=>h y (ag3 _ hy);have h2:=h x agE;rw [adL,aap,adj,Nat.mul_succ];omega
theorem PC {xs:List Int} (h:eo xs=true) {i:Nat} (hi:i < xs.length):pe xs i=true:=by
 unfold eo at h;exact ab9.1 h i (agq.2 hi)
theorem Er {xs:List Int} (h:eo xs=true):∀ i,i < xs.length->(i:Int)<=xs.getD i 0/\xs.getD i 0<=7
 | 0,hi=>by
  have:=PC h hi;simp only [pe,wX,decide_eq_true_eq] at this;exact this.1
 | i+1,hi=>by
  have h1:=Er h i (by omega)
  have:=PC h hi;simp only [pe,wX,decide_eq_true_eq,aej,agX] at this;omega
theorem WG {xs:List Int} (h:eo xs=true):xs.length<=8:=by
 by_cases hz:xs.length=0
 ·omega
 ·have:=Er h (xs.length - 1) (by omega)
  omega
theorem YR {xs:List Int} (h:eo xs=true) {x:Int} (hx:x∈xs):0<=x/\x<=7:=by
 obtain ⟨i,hi,rfl⟩:=List.getElem_of_mem hx;have:=Er h i hi;rw [bJ hi] at this;omega
theorem abB {xs:List Int} (h:fN xs=true) {x:Int} (hx:x∈xs):1<=x/\x<=100000:=by
 obtain ⟨i,hi,rfl⟩:=List.getElem_of_mem hx;unfold fN at h;rw [wX] at h;have:=ab9.1 h.1 i (agq.2 hi);simp only [wB,wX,decide_eq_true_eq] at this;rw [bJ hi] at this;exact this.1
theorem YS {xs:List Int} (h:fN xs=true):xs.length<=12:=by
 unfold fN at h;rw [wX,decide_eq_true_eq] at h;omega
theorem yr {a:Int} {k:Nat} (h:a < 128 ^ (k+1)):(db a).length<=k+1:=by
 unfold db;split
 ·refine pg k _ ?_;have:((128 ^ (k+1):Nat):Int)=128 ^ (k+1):=by norm_cast
  omega
 ·simp
structure aew (m:aB):Prop where
 marks:∀ k,k < m.bits.length->eo (m.bits.getD k [])=true
 av:fN m.av=true
 pos:0 < m.av.length
 bits:m.bits.length=3
 last:0<=m.last/\m.last<=200
 ame:¬(m.bB=true/\m.held=true)
theorem Ts {m:aB}:ed m=true↔aew m:=by
 simp only [ed,wX,beq_iff_eq,decide_eq_true_eq,adv,Bool.and_eq_false_iff];constructor
 ·rintro ⟨h1,h2,h3,h4,h5,h6⟩;exact ⟨Bj h1,h2,by omega,by omega,h5,by rintro ⟨a,b⟩; simp [a,b] at h6⟩
 ·rintro ⟨h1,h2,h3,h4,h5,h6⟩;refine ⟨CX h1,h2,by omega,by omega,h5,?_⟩
  cases ho:m.bB<;>cases hh:m.held<;>simp [ho,hh] at h6 ⊢
theorem vN (m:aB):(cy m).length<=151:=by
 unfold cy;split
 ·rename_i h;have h:=Ts.1 h;have g1:(eC m.av).length<=3*m.av.length:=Cc fun x hx=>yr (k:=2) (by have:=abB h.av hx; omega)
  have g2:=YS h.av;have g3:(db (m.av.length:Int)).length<=1:=yr (k:=0) (by omega)
  have b1:(fx m.bits).length<=9*m.bits.length:=Cc fun xs hx=>by
   obtain ⟨k,hk,rfl⟩:=List.getElem_of_mem hx;have hm:=h.marks k hk;rw [bJ hk] at hm;have l1:=WG hm;have l2:(eC m.bits[k]).length<=1*m.bits[k].length:=Cc fun x hx=>yr (k:=0) (by have:=YR hm hx; omega)
   have l3:(db (m.bits[k].length:Int)).length<=1:=yr (k:=0) (by omega)
   simp only [cP,aap];omega
  have f1:(db (kY m)).length<=1:=yr (k:=0) (by
   unfold kY qY;cases m.cf<;>cases m.bB<;>cases m.held<;>decide)
  have l1:(db m.last).length<=2:=yr (k:=1) (by have:=h.last; omega)
  have:=h.bits;simp only [cP,aap];omega
 ·simp
@[go_sem] theorem ab6 (m:aB) (q0:bO m) (t:bD Rz):aO 168 [.agg (lh (some true) m)] t=feed t [.bool (ed m)]:=by
 exact bw (r:=.bool (ed m)) (s:=.bool) (ss:=[.undef]) (tH true m q0) (by kernel_rfl) (by simp only [ao,bm,aT,bn,bo,ae,ai,sC]) (by simp only [ae,aI,ao,ai,sC]) (by first | rfl | simp only [ak,aR,aQ,bh,bj,aS,bl,sC]) (by first | rfl | simp only [TO,acd,ak,sC]) t
@[go_sem] theorem ab7 (m:aB) (q0:bO m) (t:bD Rz):aO 161 [.agg (lh (some true) m)] t=feed t [.bool (ed m)]:=by
 exact bw (r:=.bool (ed m)) (s:=.bool) (ss:=[.undef]) (tG true m q0) (by kernel_rfl) (by simp only [ao,bm,aT,bn,bo,ae,ai,sC]) (by simp only [ae,aI,ao,ai,sC]) (by first | rfl | simp only [ak,aR,aQ,bh,bj,aS,bl,sC]) (by first | rfl | simp only [TO,acd,ak,sC]) t
def aie (gen:Int):aB:=if ed ⟨[gen],[[],[],[]],true,false,false,0⟩ then ⟨[gen],[[],[],[]],true,false,false,0⟩ else fH
@[go_sem] theorem amP (a b:Int):ad.mn a b=min a b:=by show (if b < a then b else a)=_; omega
@[go_sem] theorem amQ (a b:Int):ad.mx a b=max a b:=by show (if b>a then b else a)=_; omega
section
variable (g h:Bool) (n m:Nat) (a b:List D)
@[go_sem] theorem amR:ad.cZ 1 [.sl (some g) 1 n a,.sl (some h) 1 m b] 0=true:=rfl
@[go_sem] theorem amS:ad.bM [.sl (some g) 1 n a,.sl (some h) 1 m b] 0=n:=rfl
@[go_sem] theorem amT:ad.bP [.sl (some g) 1 n a,.sl (some h) 1 m b] 0=a:=rfl
@[go_sem] theorem amU:ad.cZ 1 [.sl (some g) 1 n a,.sl (some h) 1 m b] 1=true:=rfl
@[go_sem] theorem amV:ad.bM [.sl (some g) 1 n a,.sl (some h) 1 m b] 1=m:=rfl
@[go_sem] theorem amW:ad.bP [.sl (some g) 1 n a,.sl (some h) 1 m b] 1=b:=rfl
end
theorem abC (k:Int) (h0:0<=k) (h1:k<=140737488355328):Cm 315 [.nil 1,.int .i64 k] (.sl none 1 0 [],[.undef,.undef]):=by
 refine yU (e:=wj 1 1) (by kernel_rfl) ?_
 simp only [wj];rw [if_pos (by refine ⟨?_,?_,?_,?_⟩<;>first | trivial | rfl | omega)]
@[go_sem] theorem ajv (k:Int) (h0:0<=k) (h1:k<=140737488355328) (t:bD Rz):aO 315 [.nil 1,.int .i64 k] t=feed t [enc .B []]:=by
 exact bw (r:=enc .B []) (s:=.ty .B) (ss:=[.undef,.undef]) (abC k h0 h1) (by kernel_rfl) (ao _ _) (by simp only [ae,aI,ai,sC]) (ak _ _) rfl t
theorem WH (a b:List UInt8) (ha:a.length<=1099511627776) (hb:b.length<=1099511627776):Cm 284 [.sl (some true) 1 2 [s8 (some true) a,s8 (some true) b]] (s8 none (a++b),[.undef]):=by
 refine Cm.step vL [.undef] fun J hJ=>?_;rw [vM];refine hJ _ _ (WP.step fun J hJ=>?_);rw [iP];simp (disch:=first | assumption | omega) only [go_sem,ajH,Int.reduceAdd,(rfl:((2:Nat):Int)=2),aei,acw,aap]
 refine hJ _ _ (WP.step fun J hJ=>?_);rw [iP];simp (disch:=first | assumption | omega) only [go_sem,ajH,Int.reduceAdd,(rfl:((2:Nat):Int)=2),aei,acw,aap]
 refine hJ _ _ (WP.step fun J hJ=>?_);rw [iP];simp (disch:=first | assumption | omega) only [go_sem,ajH,Int.reduceAdd,(rfl:((2:Nat):Int)=2),aei,acw,aap]
 refine hJ _ _ (WP.step fun J hJ=>?_);rw [iQ];simp (disch:=first | assumption | omega) only [go_sem,ajH,Int.reduceAdd,(rfl:((2:Nat):Int)=2),aei,acw,aap]
 refine hJ _ _ (WP.step fun J hJ=>?_);rw [iQ];simp (disch:=first | assumption | omega) only [go_sem,ajH,Int.reduceAdd,(rfl:((2:Nat):Int)=2),aei,acw,aap]
 refine hJ _ _ (WP.step fun J hJ=>?_);rw [iQ];simp (disch:=first | assumption | omega) only [go_sem,ajH,Int.reduceAdd,(rfl:((2:Nat):Int)=2),aei,acw,aap]
 simp only [s8,aap]
@[go_sem] theorem ahb (n m:Nat) (a b:List UInt8) (e1:n=a.length) (e2:m=b.length) (ha:a.length<=1099511627776) (hb:b.length<=1099511627776) (t:bD Rz):aO 284 [.sl (some true) 1 2 [.sl (some true) 1 n (bytes a),.sl (some true) 1 m (bytes b)]] t=feed t [enc .B (a++b)]:=by
 subst e1;subst e2;exact bw (r:=enc .B (a++b)) (s:=.ty .B) (ss:=[.undef]) (WH a b ha hb) (by kernel_rfl) (ao _ _) (by simp only [ae,aI,ai,sC]) (ak _ _) rfl t
theorem CY (s:aD):0<=(aK s).2.1/\(aK s).2.1<=1000000:=by
 have key:∀ b,0<=(bT b).2.1/\(bT b).2.1<=1000000:=fun b=>by
  have h:=zm b;split at h
  ·omega
  ·rw [h]; decide
 unfold aK;split<;>exact key _
def jb (s:aD) (m:aB):List UInt8:=kd m ((aK s).2.1.toNat+1)
def Cd (s:aD) (m:aB) (k:Int):aD:=if ed m=true/\¬(aK s).2.1=1000000 then
  (if lv s then ⟨s.a,(jb s m).take (max 0 (min k 160)).toNat++s.b.drop (min (max 0 (min k 160)).toNat s.b.length)⟩
   else ⟨(jb s m).take (max 0 (min k 160)).toNat++s.a.drop (min (max 0 (min k 160)).toNat s.a.length),s.b⟩)
 else s
theorem rb (m:aB) (n:Nat):(kd m n).length=160:=by
 have:=vN m;simp only [kd,aap,nU,List.length_replicate,adB];omega
theorem J6 {α:Type} {l:List α} {n k:Nat} (h:l.length - k<=n):(l.drop k).take n=l.drop k:=aek (by rw [af1]; exact h)
theorem Qx (s:aD) (m:aB) (k:Int) (q0:cT s) (q1:bO m):Cm 244 [.agg (bL (some true) s),.agg (bd (some true) m),.int .i64 k] (.agg (bL none (Cd s m k)),[.undef,.undef,.undef]):=by
 have n2:=CY s;have ml:=vN m;have sa:=q0.a;have sb:=q0.b;obtain ⟨q,hq⟩:∃ q:Nat,(aK s).2.1=q:=⟨(aK s).2.1.toNat,by omega⟩
 have e1:(q:Int)+1=((q+1:Nat):Int):=by omega
 have sl:=rb m (q+1);refine Cm.step Qv [.undef,.undef,.undef] fun J hJ=>?_;rw [Qw];obtain ⟨j,hj,hj2⟩:∃ j:Nat,max 0 (min k 160)=(j:Int)/\j<=160:=⟨(max 0 (min k 160)).toNat,by omega,by omega⟩
 have l1:j=(List.take j (kd m (q+1))).length:=by rw [acG]; omega
 have l2:s.b.length - min j s.b.length=(List.drop (min j s.b.length) s.b).length:=by rw [af1]
 have l3:s.a.length - min j s.a.length=(List.drop (min j s.a.length) s.a).length:=by rw [af1]
 have m2:min (j:Int) s.b.length=((min j s.b.length:Nat):Int):=by omega
 have m3:min (j:Int) s.a.length=((min j s.a.length:Nat):Int):=by omega
 unfold Cd jb;simp (disch:=first | assumption | omega) only [go_sem,hq,e1,hj]
 refine jE (fun hm=>?_) (fun hm=>?_)
 ·simp (disch:=first | assumption | omega) only [go_sem,hq,e1,hj]
  refine dn (fun h9=>by rw [if_neg fun h=>h.2 h9]; rfl) (fun h9=>?_)
  rw [if_pos ⟨hm,h9⟩];refine jE (fun ha=>?_) (fun ha=>?_)
  ·simp (disch:=first | assumption | omega) only [go_sem,hq,e1,hj,m2,agw,J6,af7]
   rw [if_pos ha]
  ·simp (disch:=first | assumption | omega) only [go_sem,hq,e1,hj,m3,agw,J6,af7]
   rw [if_neg ha]
 ·rw [if_neg fun h=>hm h.1];simp (disch:=first | assumption | omega) only [go_sem]
@[go_sem] theorem aeQ (s:aD) (m:aB) (k:Int) (q0:cT s) (q1:bO m) (t:bD Rz):aO 244 [.agg (j7 (some true) s),.agg (lh (some true) m),.int .i64 k] t=feed t [enc .aA (Cd s m k)]:=by
 exact bw (r:=enc .aA (Cd s m k)) (s:=.ty .aA) (ss:=[.undef,.undef,.undef]) (Qx s m k q0 q1) (by kernel_rfl) (by simp only [ao,bm,aT,bn,bo,ae,ai,sC]) (by simp only [ae,aI,ao,ai,sC]) (by first | rfl | simp only [ak,aR,aQ,bh,bj,aS,bl,sC]) (by first | rfl | simp only [TO,acd,ak,sC]) t
def jf (s:aD) (m:aB):aD:=if ed m=true/\¬(aK s).2.1=1000000 then (if lv s then ⟨s.a,jb s m⟩ else ⟨jb s m,s.b⟩) else s
theorem WI:Int.toNat 160=160:=rfl
theorem WJ (s:aD) (m:aB):Cd s m 160=if ed m=true/\¬(aK s).2.1=1000000 then (if lv s then ⟨s.a,jb s m++s.b.drop (min 160 s.b.length)⟩ else ⟨jb s m++s.a.drop (min 160 s.a.length),s.b⟩) else s:=by
 unfold Cd;rw [show (max 0 (min 160 160):Int).toNat=160 from rfl,aek (by rw [jb,rb]; omega)]
theorem IT (s:aD) (m:aB) (q0:cT s) (q1:bO m):Cm 190 [.agg (bL (some true) s),.agg (bd (some true) m)] (.agg (bL none (jf s m)),[.undef,.undef]):=by
 have sl:(jb s m).length=160:=rb m _;refine Cm.step IN [.undef,.undef] fun J hJ=>?_;rw [IP];unfold jf;simp (disch:=first | assumption | omega) only [go_sem]
 rw [WJ];generalize jb s m=l at sl ⊢;refine jE (fun hm=>?_) (fun hm=>?_)
 ·refine dn (fun h9=>by rw [if_neg fun h=>h.2 h9,if_neg fun h=>h.2 h9]; rfl) (fun h9=>?_)
  rw [if_pos ⟨hm,h9⟩];refine jE (fun ha=>?_) (fun ha=>?_)
  ·rw [if_pos ha];simp (disch:=first | assumption | omega) only [go_sem,WI,af7,aap,agw,List.take_left' sl]
   rw [if_pos ⟨hm,h9⟩,if_pos ha]
  ·rw [if_neg ha];simp (disch:=first | assumption | omega) only [go_sem,WI,af7,aap,agw,List.take_left' sl]
   rw [if_pos ⟨hm,h9⟩,if_neg ha]
 ·rw [if_neg fun h=>hm h.1,if_neg fun h=>hm h.1];simp (disch:=first | assumption | omega) only [go_sem]
@[go_sem] theorem abD (s:aD) (m:aB) (q0:cT s) (q1:bO m) (t:bD Rz):aO 190 [.agg (j7 (some true) s),.agg (lh (some true) m)] t=feed t [enc .aA (jf s m)]:=by
 exact bw (r:=enc .aA (jf s m)) (s:=.ty .aA) (ss:=[.undef,.undef]) (IT s m q0 q1) (by kernel_rfl) (by simp only [ao,bm,aT,bn,bo,ae,ai,sC]) (by simp only [ae,aI,ao,ai,sC]) (by first | rfl | simp only [ak,aR,aQ,bh,bj,aS,bl,sC]) (by first | rfl | simp only [TO,acd,ak,sC]) t
theorem Tt {s:aD} (o:cT s) (m:aB):cT (jf s m):=by
 have l:(jb s m).length=160:=rb m _;unfold jf;split
 ·split
  ·exact ⟨o.a,by show (jb s m).length<=_; omega⟩
  ·exact ⟨by show (jb s m).length<=_; omega,o.b⟩
 ·exact o
theorem abE (s:aD):decide (pk s=0)=lv s:=by
 unfold pk lv B9;generalize bT s.a=a;generalize bT s.b=b;obtain ⟨a1,a2,a3⟩:=a;obtain ⟨b1,b2,b3⟩:=b;cases a3<;>cases b3<;>by_cases h:b2<=a2<;>simp [h]<;>omega
theorem IU (s:aD) (m:aB) (q0:cT s) (q1:bO m):Cm 178 [.agg (bL (some true) s),.agg (bd (some true) m)] (.agg (bL none (jf s m)),[.undef,.undef]):=by
 have n2:=CY s;have ml:=vN m;obtain ⟨q,hq⟩:∃ q:Nat,(aK s).2.1=q:=⟨(aK s).2.1.toNat,by omega⟩
 have e1:(q:Int)+1=((q+1:Nat):Int):=by omega
 refine Cm.step IQ [.undef,.undef] fun J hJ=>?_;rw [IS];unfold jf jb;simp (disch:=first | assumption | omega) only [go_sem,hq,e1]
 refine jE (fun hm=>?_) (fun hm=>?_)
 ·simp (disch:=first | assumption | omega) only [go_sem,hq,e1]
  refine dn (fun h9=>by rw [if_neg fun h=>h.2 (by omega)]) (fun h9=>?_)
  rw [if_pos ⟨hm,by omega⟩]
  simp (disch:=first | assumption | omega) only [go_sem,hq,e1,abE]
  refine jE (fun ha=>?_) (fun ha=>?_)
  ·simp (disch:=first | assumption | omega) only [go_sem,hq,e1]
   rw [if_pos ha]
  ·simp (disch:=first | assumption | omega) only [go_sem,hq,e1]
   rw [if_neg ha]
 ·rw [if_neg fun h=>hm h.1];simp (disch:=first | assumption | omega) only [go_sem]
@[go_sem] theorem abF (s:aD) (m:aB) (q0:cT s) (q1:bO m) (t:bD Rz):aO 178 [.agg (j7 (some true) s),.agg (lh (some true) m)] t=feed t [enc .aA (jf s m)]:=by
 exact bw (r:=enc .aA (jf s m)) (s:=.ty .aA) (ss:=[.undef,.undef]) (IU s m q0 q1) (by kernel_rfl) (by simp only [ao,bm,aT,bn,bo,ae,ai,sC]) (by simp only [ae,aI,ao,ai,sC]) (by first | rfl | simp only [ak,aR,aQ,bh,bj,aS,bl,sC]) (by first | rfl | simp only [TO,acd,ak,sC]) t
end Go.Proofs.YtckkpgcnhdllgaaGreat
