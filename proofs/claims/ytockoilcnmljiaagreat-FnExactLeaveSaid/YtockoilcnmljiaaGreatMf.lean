/- What the proof of FnExactLeave stands on, part 6: an abstract machine on plain data, its soundness, and the contracts of functions. -/
import Derived.Attr
import Derived.Test.YtockoilcnmljiaaGreatMe
set_option linter.all false
set_option linter.unusedSimpArgs false
set_option linter.unusedVariables false
set_option linter.unnecessarySimpa false
set_option linter.unusedSectionVars false
namespace Go.Proofs.YtockoilcnmljiaaGreat
set_option maxRecDepth 100000
section
variable (pr:dT) (cv:Cv Rz) (J:Nat→St→Option Rz)
def qN (n0:Nat) (c1:List D) (i2:Int) (b3:Bool) (b4:Bool) (b5:Bool) (i6:Int) (n7:Nat) (c8:List D) (i9:Int) (jt:Bool) (eR:Nat) (fo:List D) (GS:Bool) (me:Bool) (gu:Bool) (i16:Int):St:=(St.mk [(0,(.sl (some true) 1 n0 c1)),(2,(.ptr 2 [] 0)),(4,(.ptr 11 [] 0)),(5,(.ptr 5 [] 0)),(6,(.int .i64 i2))] [(2,[(.nil 1),(.nil 1),(.bool b3),(.bool b4),(.bool b5),(.int .i64 i6)]),(11,[(.sl (some true) 1 n7 c8),(.int .i64 i9),(.bool jt)]),(5,[(.sl none 1 eR fo),(.nil 1),(.bool GS),(.bool me),(.bool gu),(.int .i64 i16)])] [] 0)
def gM (n0:Nat) (c1:List D) (i2:Int) (b3:Bool) (b4:Bool) (b5:Bool) (i6:Int) (n7:Nat) (c8:List D) (i9:Int) (jt:Bool) (eR:Nat) (fo:List D) (kC:Nat) (lU:List D) (gu:Bool) (jY:Bool) (qL:Bool) (i18:Int):St:=(St.mk [(0,(.sl (some true) 1 n0 c1)),(2,(.ptr 2 [] 0)),(4,(.ptr 11 [] 0)),(5,(.ptr 5 [] 0)),(6,(.int .i64 i2))] [(2,[(.nil 1),(.nil 1),(.bool b3),(.bool b4),(.bool b5),(.int .i64 i6)]),(11,[(.sl (some true) 1 n7 c8),(.int .i64 i9),(.bool jt)]),(5,[(.sl none 1 eR fo),(.sl none 1 kC lU),(.bool gu),(.bool jY),(.bool qL),(.int .i64 i18)])] [] 0)
theorem Li:Told cfg Tryz.prog 151 Tryz.f151:=⟨by kernel_rfl,Tryz.func151,by kernel_rfl⟩
theorem Lj (n0:Nat) (c0:List D):aQ pr cv J 151 Tryz.f151 [(.sl (some true) 1 n0 c0)]=
    (cv 155 [(.bf [(.sl (some false) 1 n0 (ef false c0)),(.int .i64 0),(.bool true)])] (.sl (fun dU=>(fun dp=>(.jD (fun iq=>(fun zb=>(fun qF=>(.int (fun q9=>(.bool (fun pQ=>(.done (br (br (br (pr.nl dp) true false) (br (br (pr.nl qF) true false) true false) false) (J 0 (qN n0 c0 0 false false false 0 zb (ef true qF) q9 pQ dU (ef true dp) false false false 0)) none)))))))))))))):=by kernel_rfl
theorem D8 (n0:Nat) (c1:List D) (i2:Int) (b3:Bool) (b4:Bool) (b5:Bool) (i6:Int) (n7:Nat) (c8:List D) (i9:Int) (jt:Bool) (eR:Nat) (fo:List D) (GS:Bool) (me:Bool) (gu:Bool) (i16:Int):bJ pr cv J 151 Tryz.f151 [.undef] 0 (qN n0 c1 i2 b3 b4 b5 i6 n7 c8 i9 jt eR fo GS me gu i16)=
    let y1:List D:=[(.bf [(.sl (some false) 1 n7 (ef false c8)),(.int .i64 i9),(.bool jt)])]
    let y2:Option (D × List D):=(some ((.aL [(.agg [(.sl none 1 0 []),(.sl none 1 0 []),(.bool false),(.bool false),(.bool false),(.int .i64 0)]),(.bool false)]),[.undef]))
    (br (pr.lt i2 3) (cv 155 y1 (.sl (fun dU=>(fun dp=>(.jD (fun iq=>(fun zb=>(fun qF=>(.int (fun q9=>(.bool (fun pQ=>(.done (br (br (br (pr.nl dp) true false) (br (br (pr.nl qF) true false) true false) false) (br (pr.fits 1 24) (J 0 (gM n0 c1 (pr.ar .add .i64 i2 1) b3 b4 b5 i6 zb (ef true qF) q9 pQ eR fo 1 [(.sl none 1 dU (ef true dp))] GS me gu i16)) none) none)))))))))))))) (cv 156 y1 (.int (fun lY=>(.jD (fun QL=>(fun OA=>(fun vB=>(.int (fun yN=>(.bool (fun Bk=>(.done (br (br (br (pr.nl vB) true false) true false) (cv 156 [(.bf [(.sl (some false) 1 OA (ef false (ef true vB))),(.int .i64 yN),(.bool Bk)])] (.int (fun vC=>(.jD (fun Xd=>(fun IK=>(fun wE=>(.int (fun OB=>(.bool (fun D9=>(.done (br (br (br (pr.nl wE) true false) true false) (br (br D9 false true) y2 (br (pr.rL c1) (cv 157 [(.agg [(.sl (some true) 1 eR (cA true fo)),(.nil 1),(.bool (br (pr.eq (pr.ar .and .i64 lY 1) 0) false true)),(.bool (br (pr.eq (pr.ar .and .i64 lY 2) 0) false true)),(.bool (br (pr.eq (pr.ar .and .i64 lY 4) 0) false true)),(.int .i64 vC)])] (.sl (fun Eb=>(fun rS=>(.done (br (br (br (pr.nl rS) true false) true false) (br (pr.rL rS) (br (br (pr.seq (pr.An rS) (pr.An c1)) false true) y2 (br (pr.eq (pr.aS n0) 0) y2 (some ((.aL [(.agg [(.sl none 1 eR fo),(.sl none 1 0 []),(.bool (br (pr.eq (pr.ar .and .i64 lY 1) 0) false true)),(.bool (br (pr.eq (pr.ar .and .i64 lY 2) 0) false true)),(.bool (br (pr.eq (pr.ar .and .i64 lY 4) 0) false true)),(.int .i64 vC)]),(.bool true)]),[.undef])))) none) none)))))) none)) none))))))))))))) none)))))))))))))):=by kernel_rfl
theorem nR (n0:Nat) (c1:List D) (i2:Int) (b3:Bool) (b4:Bool) (b5:Bool) (i6:Int) (n7:Nat) (c8:List D) (i9:Int) (jt:Bool) (eR:Nat) (fo:List D) (kC:Nat) (lU:List D) (gu:Bool) (jY:Bool) (qL:Bool) (i18:Int):bJ pr cv J 151 Tryz.f151 [.undef] 0 (gM n0 c1 i2 b3 b4 b5 i6 n7 c8 i9 jt eR fo kC lU gu jY qL i18)=
    let y1:List D:=[(.bf [(.sl (some false) 1 n7 (ef false c8)),(.int .i64 i9),(.bool jt)])]
    let y2:Option (D × List D):=(some ((.aL [(.agg [(.sl none 1 0 []),(.sl none 1 0 []),(.bool false),(.bool false),(.bool false),(.int .i64 0)]),(.bool false)]),[.undef]))
    (br (pr.lt i2 3) (cv 155 y1 (.sl (fun dU=>(fun dp=>(.jD (fun iq=>(fun zb=>(fun qF=>(.int (fun q9=>(.bool (fun pQ=>(.done (br (br (br (pr.nl dp) true false) (br (br (pr.nl qF) true false) true false) false) (br (pr.fits (kC+1) 24) (J 0 (gM n0 c1 (pr.ar .add .i64 i2 1) b3 b4 b5 i6 zb (ef true qF) q9 pQ eR fo (kC+1) (List.append lU [(.sl none 1 dU (ef true dp))]) gu jY qL i18)) none) none)))))))))))))) (cv 156 y1 (.int (fun lY=>(.jD (fun QL=>(fun OA=>(fun vB=>(.int (fun yN=>(.bool (fun Bk=>(.done (br (br (br (pr.nl vB) true false) true false) (cv 156 [(.bf [(.sl (some false) 1 OA (ef false (ef true vB))),(.int .i64 yN),(.bool Bk)])] (.int (fun vC=>(.jD (fun Xd=>(fun IK=>(fun wE=>(.int (fun OB=>(.bool (fun D9=>(.done (br (br (br (pr.nl wE) true false) true false) (br (br D9 false true) y2 (br (pr.rL c1) (cv 157 [(.agg [(.sl (some true) 1 eR (cA true fo)),(.sl (some true) 1 kC (cA true lU)),(.bool (br (pr.eq (pr.ar .and .i64 lY 1) 0) false true)),(.bool (br (pr.eq (pr.ar .and .i64 lY 2) 0) false true)),(.bool (br (pr.eq (pr.ar .and .i64 lY 4) 0) false true)),(.int .i64 vC)])] (.sl (fun Eb=>(fun rS=>(.done (br (br (br (pr.nl rS) true false) true false) (br (pr.rL rS) (br (br (pr.seq (pr.An rS) (pr.An c1)) false true) y2 (br (pr.eq (pr.aS n0) 0) y2 (some ((.aL [(.agg [(.sl none 1 eR fo),(.sl none 1 kC lU),(.bool (br (pr.eq (pr.ar .and .i64 lY 1) 0) false true)),(.bool (br (pr.eq (pr.ar .and .i64 lY 2) 0) false true)),(.bool (br (pr.eq (pr.ar .and .i64 lY 4) 0) false true)),(.int .i64 vC)]),(.bool true)]),[.undef])))) none) none)))))) none)) none))))))))))))) none)))))))))))))):=by kernel_rfl
def qO (n0:Nat) (c1:List D) (i2:Int) (b3:Bool) (b4:Bool) (b5:Bool) (i6:Int) (n7:Nat) (c8:List D) (i9:Int) (jt:Bool) (eR:Nat) (fo:List D) (GS:Bool) (me:Bool) (gu:Bool) (i16:Int):St:=(St.mk [(0,(.sl (some true) 1 n0 c1)),(2,(.ptr 2 [] 0)),(4,(.ptr 11 [] 0)),(5,(.ptr 5 [] 0)),(16,(.int .i64 i2))] [(2,[(.nil 1),(.nil 1),(.bool b3),(.bool b4),(.bool b5),(.int .i64 i6)]),(11,[(.sl (some true) 1 n7 c8),(.int .i64 i9),(.bool jt)]),(5,[(.sl none 1 eR fo),(.nil 1),(.bool GS),(.bool me),(.bool gu),(.int .i64 i16)])] [] 0)
def gN (n0:Nat) (c1:List D) (i2:Int) (b3:Bool) (b4:Bool) (b5:Bool) (i6:Int) (n7:Nat) (c8:List D) (i9:Int) (jt:Bool) (eR:Nat) (fo:List D) (kC:Nat) (lU:List D) (gu:Bool) (jY:Bool) (qL:Bool) (i18:Int):St:=(St.mk [(0,(.sl (some true) 1 n0 c1)),(2,(.ptr 2 [] 0)),(4,(.ptr 11 [] 0)),(5,(.ptr 5 [] 0)),(16,(.int .i64 i2))] [(2,[(.nil 1),(.nil 1),(.bool b3),(.bool b4),(.bool b5),(.int .i64 i6)]),(11,[(.sl (some true) 1 n7 c8),(.int .i64 i9),(.bool jt)]),(5,[(.sl none 1 eR fo),(.sl none 1 kC lU),(.bool gu),(.bool jY),(.bool qL),(.int .i64 i18)])] [] 0)
theorem Ll:Told cfg Tryz.prog 159 Tryz.f159:=⟨by kernel_rfl,Tryz.func159,by kernel_rfl⟩
theorem Lm (n0:Nat) (c0:List D):aQ pr cv J 159 Tryz.f159 [(.sl (some true) 1 n0 c0)]=
    (cv 164 [(.bf [(.sl (some false) 1 n0 (ef false c0)),(.int .i64 0),(.bool true)])] (.sl (fun dU=>(fun dp=>(.jD (fun iq=>(fun zb=>(fun qF=>(.int (fun q9=>(.bool (fun pQ=>(.done (br (br (br (pr.nl dp) true false) (br (br (pr.nl qF) true false) true false) false) (J 0 (qO n0 c0 0 false false false 0 zb (ef true qF) q9 pQ dU (ef true dp) false false false 0)) none)))))))))))))):=by kernel_rfl
theorem Ec (n0:Nat) (c1:List D) (i2:Int) (b3:Bool) (b4:Bool) (b5:Bool) (i6:Int) (n7:Nat) (c8:List D) (i9:Int) (jt:Bool) (eR:Nat) (fo:List D) (GS:Bool) (me:Bool) (gu:Bool) (i16:Int):bJ pr cv J 159 Tryz.f159 [.undef] 0 (qO n0 c1 i2 b3 b4 b5 i6 n7 c8 i9 jt eR fo GS me gu i16)=
    let y1:List D:=[(.bf [(.sl (some false) 1 n7 (ef false c8)),(.int .i64 i9),(.bool jt)])]
    let y2:Option (D × List D):=(some ((.aL [(.agg [(.sl none 1 0 []),(.sl none 1 0 []),(.bool false),(.bool false),(.bool false),(.int .i64 0)]),(.bool false)]),[.undef]))
    (br (pr.lt i2 3) (cv 164 y1 (.sl (fun dU=>(fun dp=>(.jD (fun iq=>(fun zb=>(fun qF=>(.int (fun q9=>(.bool (fun pQ=>(.done (br (br (br (pr.nl dp) true false) (br (br (pr.nl qF) true false) true false) false) (br (pr.fits 1 24) (J 0 (gN n0 c1 (pr.ar .add .i64 i2 1) b3 b4 b5 i6 zb (ef true qF) q9 pQ eR fo 1 [(.sl none 1 dU (ef true dp))] GS me gu i16)) none) none)))))))))))))) (cv 165 y1 (.int (fun lY=>(.jD (fun QL=>(fun OA=>(fun vB=>(.int (fun yN=>(.bool (fun Bk=>(.done (br (br (br (pr.nl vB) true false) true false) (cv 165 [(.bf [(.sl (some false) 1 OA (ef false (ef true vB))),(.int .i64 yN),(.bool Bk)])] (.int (fun vC=>(.jD (fun Xd=>(fun IK=>(fun wE=>(.int (fun OB=>(.bool (fun D9=>(.done (br (br (br (pr.nl wE) true false) true false) (cv 166 [(.agg [(.sl (some true) 1 eR (cA true fo)),(.nil 1),(.bool (br (pr.eq (pr.ar .and .i64 lY 1) 0) false true)),(.bool (br (pr.eq (pr.ar .and .i64 lY 2) 0) false true)),(.bool (br (pr.eq (pr.ar .and .i64 lY 4) 0) false true)),(.int .i64 vC)])] (.sl (fun Eb=>(fun rS=>(.done (br (br (br (pr.nl rS) true false) true false) (br (br D9 false true) y2 (br (pr.eq (pr.aS Eb) 0) y2 (cv 160 [(.sl (some true) 1 Eb (cA true rS)),(.sl (some true) 1 n0 c1)] (.bool (fun Sw=>(.done (br (br Sw false true) y2 (some ((.aL [(.agg [(.sl none 1 eR fo),(.sl none 1 0 []),(.bool (br (pr.eq (pr.ar .and .i64 lY 1) 0) false true)),(.bool (br (pr.eq (pr.ar .and .i64 lY 2) 0) false true)),(.bool (br (pr.eq (pr.ar .and .i64 lY 4) 0) false true)),(.int .i64 vC)]),(.bool true)]),[.undef]))))))))) none)))))) none))))))))))))) none)))))))))))))):=by kernel_rfl
theorem nT (n0:Nat) (c1:List D) (i2:Int) (b3:Bool) (b4:Bool) (b5:Bool) (i6:Int) (n7:Nat) (c8:List D) (i9:Int) (jt:Bool) (eR:Nat) (fo:List D) (kC:Nat) (lU:List D) (gu:Bool) (jY:Bool) (qL:Bool) (i18:Int):bJ pr cv J 159 Tryz.f159 [.undef] 0 (gN n0 c1 i2 b3 b4 b5 i6 n7 c8 i9 jt eR fo kC lU gu jY qL i18)=
    let y1:List D:=[(.bf [(.sl (some false) 1 n7 (ef false c8)),(.int .i64 i9),(.bool jt)])]
    let y2:Option (D × List D):=(some ((.aL [(.agg [(.sl none 1 0 []),(.sl none 1 0 []),(.bool false),(.bool false),(.bool false),(.int .i64 0)]),(.bool false)]),[.undef]))
    (br (pr.lt i2 3) (cv 164 y1 (.sl (fun dU=>(fun dp=>(.jD (fun iq=>(fun zb=>(fun qF=>(.int (fun q9=>(.bool (fun pQ=>(.done (br (br (br (pr.nl dp) true false) (br (br (pr.nl qF) true false) true false) false) (br (pr.fits (kC+1) 24) (J 0 (gN n0 c1 (pr.ar .add .i64 i2 1) b3 b4 b5 i6 zb (ef true qF) q9 pQ eR fo (kC+1) (List.append lU [(.sl none 1 dU (ef true dp))]) gu jY qL i18)) none) none)))))))))))))) (cv 165 y1 (.int (fun lY=>(.jD (fun QL=>(fun OA=>(fun vB=>(.int (fun yN=>(.bool (fun Bk=>(.done (br (br (br (pr.nl vB) true false) true false) (cv 165 [(.bf [(.sl (some false) 1 OA (ef false (ef true vB))),(.int .i64 yN),(.bool Bk)])] (.int (fun vC=>(.jD (fun Xd=>(fun IK=>(fun wE=>(.int (fun OB=>(.bool (fun D9=>(.done (br (br (br (pr.nl wE) true false) true false) (cv 166 [(.agg [(.sl (some true) 1 eR (cA true fo)),(.sl (some true) 1 kC (cA true lU)),(.bool (br (pr.eq (pr.ar .and .i64 lY 1) 0) false true)),(.bool (br (pr.eq (pr.ar .and .i64 lY 2) 0) false true)),(.bool (br (pr.eq (pr.ar .and .i64 lY 4) 0) false true)),(.int .i64 vC)])] (.sl (fun Eb=>(fun rS=>(.done (br (br (br (pr.nl rS) true false) true false) (br (br D9 false true) y2 (br (pr.eq (pr.aS Eb) 0) y2 (cv 160 [(.sl (some true) 1 Eb (cA true rS)),(.sl (some true) 1 n0 c1)] (.bool (fun Sw=>(.done (br (br Sw false true) y2 (some ((.aL [(.agg [(.sl none 1 eR fo),(.sl none 1 kC lU),(.bool (br (pr.eq (pr.ar .and .i64 lY 1) 0) false true)),(.bool (br (pr.eq (pr.ar .and .i64 lY 2) 0) false true)),(.bool (br (pr.eq (pr.ar .and .i64 lY 4) 0) false true)),(.int .i64 vC)]),(.bool true)]),[.undef]))))))))) none)))))) none))))))))))))) none)))))))))))))):=by kernel_rfl
end
theorem OC (x:UInt8):byteOf (dq x)=some x:=by
  have:=x.toNat_lt
  simp [dq,byteOf]
theorem yO:∀ xs:List UInt8,kZ byteOf (bytes xs)=some xs
  | []=>rfl
  | x::xs=>by
    have h:=yO xs
    simp only [bytes] at h
    simp only [bytes,List.map_cons,kZ,OC,h]
theorem Ed {R:Type} {x y:R} (xs:List UInt8):br (ad.rL (bytes xs)) x y=x:=by
  have:ad.rL (bytes xs)=true:=by
    show (kZ byteOf (bytes xs)).isSome=true
    rw [yO]
    rfl
  rw [this,aH]
theorem OD (xs:List UInt8):ad.An (bytes xs)=bs xs:=by
  show (⟨((kZ byteOf (bytes xs)).getD []).toArray⟩:ByteArray)=bs xs
  rw [yO]
  rfl
theorem OE (xs ys:List UInt8):ad.seq (bs xs) (bs ys)=decide (xs=ys):=by
  show ((bs xs).toList==(bs ys).toList)=_
  rw [ByteArray.toList_eq,ByteArray.toList_eq]
  show (xs==ys)=_
  by_cases h:xs=ys<;>simp [h]
theorem OF (g h:Bool) (xs ys:List UInt8):Cm 160 [.sl (some g) 1 xs.length (bytes xs),.sl (some h) 1 ys.length (bytes ys)] (.bool (decide (xs=ys)),[.undef,.undef]):=by
  refine Cm.fin K0 fun J=>?_
  rw [K1]
  simp only [Ed,OD,OE]
theorem Bl (g h:Bool) (xs ys:List UInt8) (t:bG Rz):aO 160 [.sl (some g) 1 xs.length (bytes xs),.sl (some h) 1 ys.length (bytes ys)] t=feed t [.bool (decide (xs=ys))]:=aT (OF g h xs ys) (by kernel_rfl) t
theorem jw (b:Bool):∀ xs:List Int,ef b (ints xs)=ints xs
  | []=>rfl
  | x::xs=>by
    have h:=jw b xs
    simp only [ints] at h
    simp only [ints,List.map_cons,ef,hM,h]
theorem gb (b:Bool):∀ xs:List UInt8,ef b (bytes xs)=bytes xs
  | []=>rfl
  | x::xs=>by
    have h:=gb b xs
    simp only [bytes] at h
    simp only [bytes,List.map_cons,ef,hM,dq,h]
theorem J9 (b:List UInt8) (p:Nat):∀ k i acc,(iE b p k i acc).2.2=false→iE b p k i acc=lA
  | 0,_,_,_=>rfl
  | k+1,i,acc,h=>by
    rw [iE] at h ⊢
    split at h
    · rename_i h1
      rw [dif_pos h1]
      split at h
      · rename_i h2
        rw [if_pos h2]
        exact J9 b p k _ _ h
      · rename_i h2
        rw [if_neg h2]
        split at h
        · rename_i h3
          rw [if_pos h3]
        · simp at h
    · rename_i h1
      rw [dif_neg h1]
theorem Vf (b:List UInt8) (a:Int) (h:(gU b a).2.2=false):gU b a=lA:=by
  unfold gU at h ⊢
  split at h
  · rename_i h1
    rw [if_pos h1]
  · rename_i h1
    rw [if_neg h1]
    exact J9 b _ _ _ _ h
def GU (c c':Int × Bool):Prop:=c.2=c'.2∧(c.2=true→c.1=c'.1)
theorem Ci (b:List UInt8) {c c':Int × Bool} (h:GU c c'):(bH b c).1=(bK b c').1∧GU (bH b c).2 (bK b c').2:=by
  obtain ⟨p,q⟩:=c
  obtain ⟨p',q'⟩:=c'
  obtain ⟨h1,h2⟩:=h
  simp only at h1 h2
  subst h1
  cases q with
  | false=>exact ⟨by simp [bH,bK],by simp [bH,bK,GU]⟩
  | true=>
    have:=h2 rfl
    subst this
    cases hg:(gU b p).2.2 with
    | true=>exact ⟨by simp [bH,bK,hg],by simp [bH,bK,GU,hg]⟩
    | false=>
      have:=Vf b p hg
      exact ⟨by simp [bH,bK,this,lA],by simp [bH,bK,GU,this,lA]⟩
theorem Vg (b:List UInt8):∀ (k:Nat) {c c':Int × Bool} (out:List Int),GU c c'→(nP bH b k c out).1=(nP bK b k c' out).1∧GU (nP bH b k c out).2 (nP bK b k c' out).2
  | 0,_,_,_,h=>⟨rfl,h⟩
  | k+1,c,c',out,h=>by
    simp only [nP]
    rw [← h.1]
    cases hc:c.2 with
    | false=>exact ⟨rfl,h⟩
    | true=>
      have hn:=Ci b h
      simp only [if_true]
      rw [hn.1]
      exact Vg b k _ hn.2
theorem yP (b:List UInt8) {c c':Int × Bool} (h:GU c c'):(bd bH b c).1=(bd bK b c').1∧GU (bd bH b c).2 (bd bK b c').2:=by
  have hn:=Ci b h
  unfold bd
  rw [hn.1]
  exact Vg b _ _ hn.2
def Vh (num:List UInt8→Int × Bool→Int × (Int × Bool)):Prop:=∀ b p q,(num b (p,q)).2.2=true→0≤p∧p < (num b (p,q)).2.1∧(num b (p,q)).2.1≤b.length
theorem YM:Vh bH:=by
  intro b p q h
  unfold bH at h ⊢
  split at h
  · rename_i h1
    rw [if_pos h1]
    simp only [Bool.and_eq_true] at h1
    exact J5 b p h1.1
  · simp at h
theorem aeq:Vh bK:=by
  intro b p q h
  unfold bK at h ⊢
  cases q with
  | true=>exact J5 b p h
  | false=>simp at h
theorem Ka {num:List UInt8→Int × Bool→Int × (Int × Bool)} (hf:Vh num) (b:List UInt8):∀ (k:Nat) (p:Int) (q:Bool) (out:List Int),(nP num b k (p,q) out).1.length≤out.length+(if q then ((b.length:Int) - p).toNat+1 else 0)
  | 0,_,_,_=>by simp [nP]
  | k+1,p,q,out=>by
    cases q with
    | false=>simp [nP]
    | true=>
      simp only [nP,if_true]
      have ih:=Ka hf b k (num b (p,true)).2.1 (num b (p,true)).2.2 (out++[(num b (p,true)).1])
      cases hq:(num b (p,true)).2.2 with
      | false=>
        rw [hq] at ih
        simp only [List.length_append,List.length_singleton] at ih
        have e:(num b (p,true)).2=((num b (p,true)).2.1,false):=Prod.ext rfl hq
        rw [e]
        simp only [Bool.false_eq_true,if_false] at ih
        omega
      | true=>
        have h:=hf b p true hq
        rw [hq] at ih
        simp only [List.length_append,List.length_singleton,if_true] at ih
        have e:(num b (p,true)).2=((num b (p,true)).2.1,true):=Prod.ext rfl hq
        rw [e]
        omega
theorem Dg {num:List UInt8→Int × Bool→Int × (Int × Bool)} (hf:Vh num) (b:List UInt8) (c:Int × Bool):(bd num b c).1.length≤b.length+1:=by
  have h:=Ka hf b (num b c).1.toNat (num b c).2.1 (num b c).2.2 []
  unfold bd
  obtain ⟨p,q⟩:=c
  cases hq:(num b (p,q)).2.2 with
  | false=>
    rw [hq] at h
    have e:(num b (p,q)).2=((num b (p,q)).2.1,false):=Prod.ext rfl hq
    rw [e]
    simp only [Bool.false_eq_true,if_false,List.length_nil] at h
    omega
  | true=>
    have h1:=hf b p q hq
    rw [hq] at h
    have e:(num b (p,q)).2=((num b (p,q)).2.1,true):=Prod.ext rfl hq
    rw [e]
    simp only [if_true,List.length_nil] at h
    omega
def fH (x k:Int):Bool:=!(ad.eq (ad.ar .and .i64 x k) 0)
def mP (num:List UInt8→Int × Bool→Int × (Int × Bool)) (b:List UInt8):aI × Bool:=
  let r0:=bd num b (0,true)
  let r1:=bd num b r0.2
  let r2:=bd num b r1.2
  let r3:=bd num b r2.2
  let x:=num b r3.2
  let y:=num b x.2
  (⟨r0.1,[r1.1,r2.1,r3.1],fH x.1 1,fH x.1 2,fH x.1 4,y.1⟩,y.2.2)
def fN:aI:=⟨[],[],false,false,false,0⟩
def dQ (b:List UInt8):aI × Bool:=if (mP bH b).2&&(decide (cH (mP bH b).1=b)&&!b.isEmpty) then ((mP bH b).1,true) else (fN,false)
theorem Xe (b:List UInt8):mP bH b=mP bK b:=by
  have h0:=yP b (c:=(0,true)) (c':=(0,true)) ⟨rfl,fun _=>rfl⟩
  have h1:=yP b h0.2
  have h2:=yP b h1.2
  have h3:=yP b h2.2
  have h4:=Ci b h3.2
  have h5:=Ci b h4.2
  simp only [mP]
  rw [h0.1,h1.1,h2.1,h3.1,h4.1,h5.1,h5.2.1]
theorem Ee {num:List UInt8→Int × Bool→Int × (Int × Bool)} (hf:Vh num) (b:List UInt8) (hb:b.length≤1000000):cJ (mP num b).1:=by
  refine ⟨?_,?_,?_⟩
  · have:=Dg hf b (0,true)
    simp only [mP]
    omega
  · simp [mP]
  · intro xs hx
    simp only [mP,List.mem_cons,List.not_mem_nil,or_false] at hx
    rcases hx with rfl | rfl | rfl
    all_goals exact Nat.le_trans (Dg hf b _) (by omega)
theorem OG (x k:Int):(!(ad.eq (ad.ar .and .i64 x k) 0))=fH x k:=rfl
abbrev GV (r:aI × Bool):Rz:=(.aL [.agg (bR none r.1),.bool r.2],[.undef])
theorem Ln (b:List UInt8) (hb:b.length≤1000000):Cm 151 [.sl (some true) 1 b.length (bytes b)] (GV (dQ b)):=by
  have w3:∀ (c:Int × Bool) (ay x1 x2 x3:List Int),mP bH b=(⟨ay,[x1,x2,x3],fH (bH b c).1 1,fH (bH b c).1 2,fH (bH b c).1 4,(bH b (bH b c).2).1⟩,(bH b (bH b c).2).2.2)→WP 151 Tryz.f151 [.undef] 0 (gM b.length (bytes b) 3 false false false 0 b.length (bytes b) c.1 c.2 ay.length (ints ay) 3 (rows none [x1,x2,x3]) false false false 0) (GV (dQ b)):=by
    intro c ay x1 x2 x3 hp
    have cL:=Ee YM b hb
    refine WP.fin fun J=>?_
    rw [nR]
    unfold dQ
    rw [hp] at cL ⊢
    have hv:=vz (g:=true) (m:=⟨ay,[x1,x2,x3],fH (bH b c).1 1,fH (bH b c).1 2,fH (bH b c).1 4,(bH b (bH b c).2).1⟩) (hm:=cL)
    have ll:∀ t:bG Rz,aO 157 [.agg [.sl (some true) 1 ay.length (ints ay),.sl (some true) 1 3 (rows (some true) [x1,x2,x3]),.bool (fH (bH b c).1 1),.bool (fH (bH b c).1 2),.bool (fH (bH b c).1 4),.int .i64 (bH b (bH b c).2).1]] t=_:=hv
    simp (disch:=first | omega | assumption) only [bm,gb,yL,bX,gI,aF,ao,eB,aH,bl,bI,OG,gQ,iD,Ed,ll,dt,OD,OE]
    generalize (bH b (bH b c).2).2.2=q1
    generalize cH _=l
    cases q1 with
    | false=>rfl
    | true=>
      by_cases h1:l=b
      · subst h1
        cases l with
        | nil=>simp [br,ad,fN,rows,ints]
        | cons a l=>
          simp only [bW,aH,decide_true]
          rw [ec (by simp only [aA,List.length_cons]; omega)]
          simp [fN]
      · simp [br,h1,fN,rows,ints]
  have w2:=WP.go (f:=151) (fn:=Tryz.f151) (sk:=[.undef]) (j:=0) (h:=gM b.length (bytes b) 2 false false false 0 b.length (bytes b) (bd bH b (bd bH b (bd bH b (0,true)).2).2).2.1 (bd bH b (bd bH b (bd bH b (0,true)).2).2).2.2 (bd bH b (0,true)).1.length (ints (bd bH b (0,true)).1) 2 (rows none [(bd bH b (bd bH b (0,true)).2).1,(bd bH b (bd bH b (bd bH b (0,true)).2).2).1]) false false false 0) _ (w3 (bd bH b (bd bH b (bd bH b (bd bH b (0,true)).2).2).2).2 (bd bH b (0,true)).1 (bd bH b (bd bH b (0,true)).2).1 (bd bH b (bd bH b (bd bH b (0,true)).2).2).1 (bd bH b (bd bH b (bd bH b (bd bH b (0,true)).2).2).2).1 rfl) fun J hJ=>by
    rw [nR]
    simp (disch:=first | omega | assumption) only [aU,gb,jw,sa,dt,bX,gI,aF,ao,eB,jl,aH,bl,fm]
    exact hJ
  have w1:=WP.go (f:=151) (fn:=Tryz.f151) (sk:=[.undef]) (j:=0) (h:=gM b.length (bytes b) 1 false false false 0 b.length (bytes b) (bd bH b (bd bH b (0,true)).2).2.1 (bd bH b (bd bH b (0,true)).2).2.2 (bd bH b (0,true)).1.length (ints (bd bH b (0,true)).1) 1 (rows none [(bd bH b (bd bH b (0,true)).2).1]) false false false 0) _ w2 fun J hJ=>by
    rw [nR]
    simp (disch:=first | omega | assumption) only [aU,gb,jw,sa,dt,bX,gI,aF,ao,eB,jl,aH,bl,fm]
    exact hJ
  have w0:=WP.go (f:=151) (fn:=Tryz.f151) (sk:=[.undef]) (j:=0) (h:=qN b.length (bytes b) 0 false false false 0 b.length (bytes b) (bd bH b (0,true)).2.1 (bd bH b (0,true)).2.2 (bd bH b (0,true)).1.length (ints (bd bH b (0,true)).1) false false false 0) _ w1 fun J hJ=>by
    rw [D8]
    simp (disch:=first | omega | assumption) only [aU,gb,jw,sa,dt,bX,gI,aF,ao,eB,jl,aH,bl,fm]
    exact hJ
  refine Cm.go Li [.undef] 0 _ w0 fun J hJ=>?_
  rw [Lj]
  simp (disch:=first | omega | assumption) only [gb,jw,sa,dt,bX,gI,aF,ao,eB,jl,aH,bl]
  exact hJ
theorem Lo (b:List UInt8) (hb:b.length≤1000000):Cm 159 [.sl (some true) 1 b.length (bytes b)] (GV (dQ b)):=by
  have w3:∀ (c:Int × Bool) (ay x1 x2 x3:List Int),mP bK b=(⟨ay,[x1,x2,x3],fH (bK b c).1 1,fH (bK b c).1 2,fH (bK b c).1 4,(bK b (bK b c).2).1⟩,(bK b (bK b c).2).2.2)→WP 159 Tryz.f159 [.undef] 0 (gN b.length (bytes b) 3 false false false 0 b.length (bytes b) c.1 c.2 ay.length (ints ay) 3 (rows none [x1,x2,x3]) false false false 0) (GV (dQ b)):=by
    intro c ay x1 x2 x3 hp
    have cL:=Ee aeq b hb
    refine WP.fin fun J=>?_
    rw [nT]
    unfold dQ
    rw [Xe,hp]
    rw [hp] at cL
    have hv:=vA (g:=true) (m:=⟨ay,[x1,x2,x3],fH (bK b c).1 1,fH (bK b c).1 2,fH (bK b c).1 4,(bK b (bK b c).2).1⟩) (hm:=cL)
    have ll:∀ t:bG Rz,aO 166 [.agg [.sl (some true) 1 ay.length (ints ay),.sl (some true) 1 3 (rows (some true) [x1,x2,x3]),.bool (fH (bK b c).1 1),.bool (fH (bK b c).1 2),.bool (fH (bK b c).1 4),.int .i64 (bK b (bK b c).2).1]] t=_:=hv
    simp (disch:=first | omega | assumption) only [bm,gb,yM,bX,gI,aF,ao,eB,aH,bl,bI,OG,gQ,iD,iv,ll,dt,Bl]
    generalize (bK b (bK b c).2).2.2=q1
    generalize cH _=l
    cases q1 with
    | false=>rfl
    | true=>
      by_cases h1:l=b
      · subst h1
        cases l with
        | nil=>simp [br,ad,fN,rows,ints]
        | cons a l=>
          simp only [bW,aH,decide_true]
          rw [ec (by simp only [aA,List.length_cons]; omega)]
          simp [fN]
      · cases ad.eq (ad.aS l.length) 0<;>simp [br,h1,fN,rows,ints]
  have w2:=WP.go (f:=159) (fn:=Tryz.f159) (sk:=[.undef]) (j:=0) (h:=gN b.length (bytes b) 2 false false false 0 b.length (bytes b) (bd bK b (bd bK b (bd bK b (0,true)).2).2).2.1 (bd bK b (bd bK b (bd bK b (0,true)).2).2).2.2 (bd bK b (0,true)).1.length (ints (bd bK b (0,true)).1) 2 (rows none [(bd bK b (bd bK b (0,true)).2).1,(bd bK b (bd bK b (bd bK b (0,true)).2).2).1]) false false false 0) _ (w3 (bd bK b (bd bK b (bd bK b (bd bK b (0,true)).2).2).2).2 (bd bK b (0,true)).1 (bd bK b (bd bK b (0,true)).2).1 (bd bK b (bd bK b (bd bK b (0,true)).2).2).1 (bd bK b (bd bK b (bd bK b (bd bK b (0,true)).2).2).2).1 rfl) fun J hJ=>by
    rw [nT]
    simp (disch:=first | omega | assumption) only [aU,gb,jw,sb,dt,bX,gI,aF,ao,eB,jl,aH,bl,fm]
    exact hJ
  have w1:=WP.go (f:=159) (fn:=Tryz.f159) (sk:=[.undef]) (j:=0) (h:=gN b.length (bytes b) 1 false false false 0 b.length (bytes b) (bd bK b (bd bK b (0,true)).2).2.1 (bd bK b (bd bK b (0,true)).2).2.2 (bd bK b (0,true)).1.length (ints (bd bK b (0,true)).1) 1 (rows none [(bd bK b (bd bK b (0,true)).2).1]) false false false 0) _ w2 fun J hJ=>by
    rw [nT]
    simp (disch:=first | omega | assumption) only [aU,gb,jw,sb,dt,bX,gI,aF,ao,eB,jl,aH,bl,fm]
    exact hJ
  have w0:=WP.go (f:=159) (fn:=Tryz.f159) (sk:=[.undef]) (j:=0) (h:=qO b.length (bytes b) 0 false false false 0 b.length (bytes b) (bd bK b (0,true)).2.1 (bd bK b (0,true)).2.2 (bd bK b (0,true)).1.length (ints (bd bK b (0,true)).1) false false false 0) _ w1 fun J hJ=>by
    rw [Ec]
    simp (disch:=first | omega | assumption) only [aU,gb,jw,sb,dt,bX,gI,aF,ao,eB,jl,aH,bl,fm]
    exact hJ
  refine Cm.go Ll [.undef] 0 _ w0 fun J hJ=>?_
  rw [Lm]
  simp (disch:=first | omega | assumption) only [gb,jw,sb,dt,bX,gI,aF,ao,eB,jl,aH,bl]
  exact hJ
theorem Bm (b:List UInt8) (hb:b.length≤1000000):cJ (dQ b).1:=by
  unfold dQ
  split
  · exact Ee YM b hb
  · exact ⟨by simp [fN],by simp [fN],by simp [fN]⟩
end Go.Proofs.YtockoilcnmljiaaGreat
namespace Go.Proofs.YtockoilcnmljiaaGreat
set_option maxRecDepth 100000
theorem WP.step {f:FuncId} {fn:Func} {sk:List D} {j:Nat} {h:St} {r:Rz} (ht:∀ J:Nat→St→Option Rz,(∀ j' h',WP f fn sk j' h' r→J j' h'=some r)→bJ ad aO J f fn sk j h=some r):WP f fn sk j h r:=W.step vd ht
theorem Cm.step {f:FuncId} {fn:Func} {r:Rz} (ok:Told cfg Tryz.prog f fn) (sk:List D) {args:List D} (ht:∀ J:Nat→St→Option Rz,(∀ j' h',WP f fn sk j' h' r→J j' h'=some r)→aQ ad aO J f fn args=some r) (yU:args.map qA=sk:=by rfl):Cm f args r:=by subst yU; exact Comes.step vd ok ht
section
variable {R:Type} {x y:R}
def tick (n:Nat):Nat:=n+1
@[go_sem] theorem aja:tick 0=1:=by unfold tick; omega
@[congr] theorem agD {c c':Bool} {z:Nat} (h:c=c') (_:tick 0=z):br c x y=br c' x y:=by rw [h]
@[congr] theorem agE {g:FuncId} {ds ds':List D} {t:bG Rz} {z:Nat} (h:ds=ds') (_:tick 0=z):aO g ds t=aO g ds' t:=by rw [h]
@[congr] theorem aer {t:bG R} {l l':List D} {z:Nat} (h:l=l') (_:tick 0=z):feed t l=feed t l':=by rw [h]
attribute [go_sem ↓] aH bc
@[go_sem ↓] theorem ajb (a b c:Bool) (x y:R):br (br a b c) x y=br a (br b x y) (br c x y):=by cases a<;>rfl
@[go_sem ↓] theorem aks (b:Bool) (x y:R):br (!b) x y=br b y x:=by cases b<;>rfl
@[go_sem] theorem agF {p:Prop} [Decidable p] (h:p):br (decide p) x y=x:=by rw [decide_eq_true h]; rfl
@[go_sem] theorem agG {p:Prop} [Decidable p] (h:¬p):br (decide p) x y=y:=by rw [decide_eq_false h]; rfl
theorem QU {b:Bool} {r:R} (h1:b=true→x=r) (h2:b=false→y=r):br b x y=r:=by cases b with | true=>exact h1 rfl | false=>exact h2 rfl
theorem bM {p:Prop} [Decidable p] {r:R} (h1:p→x=r) (h2:¬p→y=r):br (decide p) x y=r:=by
  by_cases h:p
  · rw [agF h]; exact h1 h
  · rw [agG h]; exact h2 h
theorem nU {b:Bool} {r:R} (h1:b=true→x=r) (h2:¬b=true→y=r):br b x y=r:=by cases b with | true=>exact h1 rfl | false=>exact h2 (by simp)
end
theorem WP.up {f:FuncId} {fn:Func} {sk:List D} {j:Nat} {r:Rz} {H:Nat→St} (n:Nat) (inv:Nat→Prop) (hs:∀ i,i≤n→inv i→∀ J:Nat→St→Option Rz,(∀ j' h',WP f fn sk j' h' r→J j' h'=some r)→(i < n→inv (i+1)→J j (H (i+1))=some r)→bJ ad aO J f fn sk j (H i)=some r):∀ i,i≤n→inv i→WP f fn sk j (H i) r:=by
  have key:∀ k i,i+k=n→inv i→WP f fn sk j (H i) r:=by
    intro k
    induction k with
    | zero=>intro i hi hv; exact WP.step fun J hJ=>hs i (by omega) hv J hJ (fun h=>absurd h (by omega))
    | succ k ih=>intro i hi hv; exact WP.step fun J hJ=>hs i (by omega) hv J hJ (fun _ h=>hJ _ _ (ih (i+1) (by omega) h))
  exact fun i hi hv=>key (n - i) i (by omega) hv
section
variable {R:Type}
@[go_sem ↓] theorem ajc (x:Option R) (l:List D):feed (.done x) l=x:=rfl
@[go_sem ↓] theorem akt (f:Int→bG R) (k:IntKind) (n:Int) (l:List D):feed (.int f) (.int k n::l)=feed (f n) l:=rfl
@[go_sem ↓] theorem ajd (f:Bool→bG R) (b:Bool) (l:List D):feed (.bool f) (.bool b::l)=feed (f b) l:=rfl
@[go_sem ↓] theorem aku (f:ByteArray→bG R) (s:ByteArray) (l:List D):feed (.str f) (.str s::l)=feed (f s) l:=rfl
@[go_sem ↓] theorem alM (f:Nat→List D→bG R) (s n:Nat) (cs l:List D):feed (.sl f) (.sl none s n cs::l)=feed (f n cs) l:=rfl
@[go_sem ↓] theorem akv (f:Bool→Nat→List D→bG R) (g:Bool) (s n:Nat) (cs l:List D):feed (.jD f) (.sl (some g) s n cs::l)=feed (f g n cs) l:=rfl
end
@[go_sem ↓] theorem alN (k:fk) (f:k.T→bG Rz) (x:k.T) (l:List D):feed (.ty k f) (enc k x::l)=feed (f x) l:=HG k f x l
attribute [go_sem] enc
@[go_sem ↓] theorem alP (ys:List D) (t:bG Rz):aO 999999 [.sl none 0 0 ys] t=feed t [.sl none 0 0 ys]:=wY ys t
@[go_sem] theorem aI.eta (m:aI):(⟨m.ay,m.bits,m.cI,m.bN,m.held,m.last⟩:aI)=m:=rfl
@[go_sem] theorem aG.eta (s:aG):(⟨s.a,s.b⟩:aG)=s:=rfl
@[go_sem] theorem ae.eta (n:ae):(⟨n.id,n.up,n.cE,n.image,n.mt,n.aM,n.conn,n.sync,n.aK,n.wait⟩:ae)=n:=rfl
@[go_sem] theorem u9.eta (n:u9):(⟨n.kind,n.cell,n.val,n.who,n.ay⟩:u9)=n:=rfl
@[go_sem] theorem qw.eta (n:qw):(⟨n.kind,n.a,n.b⟩:qw)=n:=rfl
@[go_sem] theorem aW.eta (n:aW):(⟨n.nodes,n.cz,n.log,n.safe,n.gen⟩:aW)=n:=rfl
@[go_sem] theorem alQ:Int.toNat 2=2:=rfl
@[go_sem] theorem alR:Int.toNat 3=3:=rfl
@[go_sem] theorem alS:Int.toNat 4=4:=rfl
@[go_sem] theorem alT:Int.toNat 5=5:=rfl
@[go_sem] theorem alU:Int.toNat 6=6:=rfl
@[go_sem] theorem alV:Int.toNat 7=7:=rfl
@[go_sem] theorem alW:Int.toNat 8=8:=rfl
@[go_sem] theorem alX:Int.toNat 9=9:=rfl
@[go_sem] theorem akw:Int.toNat 10=10:=rfl
@[go_sem] theorem akx:Int.toNat 11=11:=rfl
@[go_sem] theorem aky:Int.toNat 12=12:=rfl
@[go_sem] theorem akz:Int.toNat 13=13:=rfl
@[go_sem] theorem akA:Int.toNat 14=14:=rfl
@[go_sem] theorem akB:Int.toNat 15=15:=rfl
@[go_sem] theorem akC:Int.toNat 16=16:=rfl
@[go_sem] theorem akD:Int.toNat 17=17:=rfl
attribute [go_sem] decide_true decide_false Sa yD aA Nat.zero_add Int.toNat_natCast Int.toNat_zero Int.toNat_one if_true
@[go_sem] theorem alY (a b:Int):ad.eq a b=decide (a=b):=by
  show (a==b)=_
  rfl
@[go_sem] theorem akE (a b:Bool):ad.beq a b=decide (a=b):=by cases a<;>cases b<;>rfl
@[go_sem] theorem akF (i:Int) (n:Nat):ad.bD i n=decide (0≤i∧i < (n:Int)):=by simp [ad]
@[go_sem] theorem akG (l h:Int) (n:Nat):ad.wS l h n=decide (0≤l∧l≤h∧h≤(n:Int)):=by simp [ad,Bool.and_assoc]
@[go_sem] theorem aje (n b:Nat):ad.fits n b=decide (n*b≤140737488355328):=rfl
@[go_sem] theorem ajf (l c:Int) (b:Nat):ad.u3 l c b=decide (0≤l∧l≤c∧c*(b:Int)≤140737488355328):=by simp [ad,Bool.and_assoc]
@[go_sem] theorem akH (a b:Nat):ad.neq a b=decide (a=b):=rfl
@[go_sem] theorem akI (i:Int):ad.js i=i.toNat:=rfl
@[go_sem] theorem ajg (a b:Int):ad.tv a b=a.toNat - b.toNat:=rfl
@[go_sem] theorem ajh (a:Nat) (i:Int):ad.idx a i 1=a+i.toNat:=by show (a+i.toNat)*1=_; omega
@[go_sem] theorem aji (n:Nat):Nat.mul n 1=n:=Nat.mul_one n
@[go_sem] theorem ajj (n:Nat):Nat.mul 0 n=0:=Nat.zero_mul n
@[go_sem] theorem akJ (a b:Bool):br a b false=(a&&b):=by cases a<;>rfl
@[go_sem] theorem alZ (a b:Bool):br a true b=(a||b):=by cases a<;>rfl
@[go_sem] theorem akK (xs:List Int) (i:Nat):ad.cw .i64 (ints xs) i=decide (i < xs.length):=by
  by_cases h:i < xs.length
  · simp [ad,ints,h,eY]
  · simp [ad,ints,List.getElem?_eq_none (Nat.not_lt.1 h),h]
@[go_sem] theorem ajk (xs:List Int) (i:Nat):ad.bn (ints xs) i=xs.getD i 0:=by
  by_cases h:i < xs.length
  · simp [ad,ints,h,u4]
  · simp [ad,ints,List.getElem?_eq_none (Nat.not_lt.1 h),u4]
@[go_sem] theorem ajl (xs:List UInt8) (i:Nat):ad.cw .u8 (bytes xs) i=decide (i < xs.length):=by
  by_cases h:i < xs.length
  · simp [ad,bytes,dq,h,eY]
  · simp [ad,bytes,List.getElem?_eq_none (Nat.not_lt.1 h),h]
@[go_sem] theorem ahn (xs:List UInt8) (i:Nat):ad.bn (bytes xs) i=((xs.getD i 0).toNat:Int):=by
  by_cases h:i < xs.length
  · simp [ad,bytes,dq,h,u4]
  · simp [ad,bytes,List.getElem?_eq_none (Nat.not_lt.1 h),u4]
@[go_sem] theorem akL (xs:List Bool) (i:Nat):ad.df (aD xs) i=decide (i < xs.length):=by
  by_cases h:i < xs.length
  · simp [ad,aD,h]
  · simp [ad,aD,List.getElem?_eq_none (Nat.not_lt.1 h),h]
@[go_sem] theorem ajm (xs:List Bool) (i:Nat):ad.cg (aD xs) i=xs.getD i false:=by
  by_cases h:i < xs.length
  · simp [ad,aD,h,B4]
  · simp [ad,aD,List.getElem?_eq_none (Nat.not_lt.1 h),B4]
@[go_sem] theorem akM (g:Bool) (xs:List (List Int)) (i:Nat):ad.bU 1 (rows (some g) xs) i=decide (i < xs.length):=by
  by_cases h:i < xs.length
  · simp [ad,rows,h]
  · simp [ad,rows,List.getElem?_eq_none (Nat.not_lt.1 h),h]
@[go_sem] theorem ajn {g:Bool} {xs:List (List Int)} {i:Nat} (h:i < xs.length):ad.bo (rows (some g) xs) i=g:=iz h
@[go_sem] theorem ajo (xs:List (List Int)) (i:Nat):ad.jC 1 (rows none xs) i=decide (i < xs.length):=by
  by_cases h:i < xs.length
  · simp [ad,rows,h]
  · simp [ad,rows,List.getElem?_eq_none (Nat.not_lt.1 h),h]
@[go_sem] theorem akN (xs:List (List Int)) (i:Nat):ad.TW (rows none xs) i=decide (i < xs.length):=by
  by_cases h:i < xs.length
  · simp [ad,rows,h]
  · simp [ad,rows,List.getElem?_eq_none (Nat.not_lt.1 h),h]
@[go_sem] theorem ajp (g:Option Bool) (xs:List (List Int)) (i:Nat):ad.aR (rows g xs) i=(xs.getD i []).length:=by
  by_cases h:i < xs.length
  · simp [ad,rows,h,cN]
  · simp [ad,rows,List.getElem?_eq_none (Nat.not_lt.1 h),cN]
@[go_sem] theorem ajq (g:Option Bool) (xs:List (List Int)) (i:Nat):ad.aV (rows g xs) i=ints (xs.getD i []):=by
  by_cases h:i < xs.length
  · simp [ad,rows,h,cC]
  · simp [ad,rows,List.getElem?_eq_none (Nat.not_lt.1 h),cC,ints]
@[go_sem] theorem aho (xs:List Int) (i:Nat):ad.slot (ints xs) i=decide (i < xs.length):=by
  by_cases h:i < xs.length
  · simp [ad,ints,h,gA]
  · simp [ad,ints,List.getElem?_eq_none (Nat.not_lt.1 h),h]
@[go_sem] theorem ahp (xs:List UInt8) (i:Nat):ad.slot (bytes xs) i=decide (i < xs.length):=by
  by_cases h:i < xs.length
  · simp [ad,bytes,dq,h,gA]
  · simp [ad,bytes,List.getElem?_eq_none (Nat.not_lt.1 h),h]
@[go_sem] theorem ahq (xs:List Bool) (i:Nat):ad.slot (aD xs) i=decide (i < xs.length):=by
  by_cases h:i < xs.length
  · simp [ad,aD,h,gA]
  · simp [ad,aD,List.getElem?_eq_none (Nat.not_lt.1 h),h]
@[go_sem] theorem akO (xs:List (List Int)):ad.nl (rows none xs)=true:=YH (by simp) xs
attribute [go_sem] jl eB Cf ints_set AH AI tb gr iv kE gQ iD jw gb rQ OD
@[go_sem] theorem ajr (xs:List (List Int)) (i n:Nat) (l:List Int) (h:n=l.length):List.set (rows none xs) i (.sl none 1 n (ints l))=rows none (xs.set i l):=by subst h; exact DX
@[go_sem] theorem ahr (xs:List Int):ad.flat (ints xs)=true:=List.all_eq_true.2 (by intro d hd; obtain ⟨a,_,rfl⟩:=List.mem_map.1 hd; rfl)
@[go_sem] theorem ahs (xs:List UInt8):ad.flat (bytes xs)=true:=List.all_eq_true.2 (by intro d hd; obtain ⟨a,_,rfl⟩:=List.mem_map.1 hd; rfl)
@[go_sem] theorem aht (xs:List Bool):ad.flat (aD xs)=true:=List.all_eq_true.2 (by intro d hd; obtain ⟨a,_,rfl⟩:=List.mem_map.1 hd; rfl)
@[go_sem] theorem ajs (xs:List UInt8):ad.rL (bytes xs)=true:=by
  have:=Ed (x:=true) (y:=false) xs
  rwa [bl] at this
@[go_sem] theorem akP (xs ys:List UInt8):ad.seq (bs xs) (bs ys)=decide (xs=ys):=OE xs ys
@[go_sem] theorem ads (xs:List Int) (i:Nat):List.drop i (ints xs)=ints (xs.drop i):=by simp [ints,List.map_drop]
@[go_sem] theorem aes (xs ys:List Int):List.append (ints xs) (ints ys)=ints (xs++ys):=by simp [ints]
@[go_sem] theorem ahu (xs:List Int) (x:Int):List.append (ints xs) [D.int .i64 x]=ints (xs++[x]):=by simp [ints]
@[go_sem] theorem agH (xs:List UInt8) (x:UInt8):List.append (bytes xs) [dq x]=bytes (xs++[x]):=by simp [bytes]
@[go_sem] theorem afs (xs:List UInt8):List.append (bytes xs) [D.int .u8 0]=bytes (xs++[0]):=by simp [bytes,dq]
@[go_sem] theorem agI (x:Int):List.append [] [D.int .i64 x]=ints [x]:=rfl
@[go_sem] theorem aft (x:UInt8):List.append [] [dq x]=bytes [x]:=rfl
@[go_sem] theorem ahv (x:UInt8):ad.flat [dq x]=true:=rfl
@[go_sem] theorem ahw (k:IntKind) (x:Int):ad.flat [D.int k x]=true:=rfl
@[go_sem] theorem akQ:ad.nl []=true:=rfl
@[go_sem] theorem ahx (n:Nat):fA n [.int .u8 0]=bytes (List.replicate n 0):=Uo n
@[go_sem] theorem ahy (n:Nat):fA n [.int .i64 0]=ints (List.replicate n 0):=Un n
@[go_sem] theorem ahz (n:Nat):fA n [.bool false]=aD (List.replicate n false):=Up n
@[go_sem] theorem ahA (n:Nat):fA n [.nil 1]=rows none (List.replicate n []):=Uz n
@[go_sem] theorem ahB (xs:List UInt8) (i:Nat):List.drop i (bytes xs)=bytes (xs.drop i):=by simp [bytes,List.map_drop]
@[go_sem] theorem ahC (xs:List UInt8) (i:Nat):List.take i (bytes xs)=bytes (xs.take i):=by simp [bytes,List.map_take]
@[go_sem] theorem e_I (x:List Int):iw true (sI none x)=sI (some true) x:=by simp [iw,gQ]
@[go_sem] theorem e_B (x:List UInt8):iw true (s8 none x)=s8 (some true) x:=by simp [iw,iv]
@[go_sem] theorem e_L (x:List Bool):iw true (sB none x)=sB (some true) x:=by simp [iw,kE]
@[go_sem] theorem e_R (x:List (List Int)):iw true (sR none x)=sR (some true) x:=by simp [iw,iD]
@[go_sem] theorem ajt (x:aI):cA true (bR none x)=bR (some true) x:=by simp [iw,cA,gQ,iD]
@[go_sem] theorem ahD (x:aG):cA true (cO none x)=cO (some true) x:=by simp [iw,cA,iv]
@[go_sem] theorem aju (x:ae):cA true (U none x)=U (some true) x:=by simp [iw,cA,gQ,iD,iv,kE]
@[go_sem] theorem akR {a b:Int} (h:-9223372036854775808≤a - b) (h':a - b < 9223372036854775808):ad.ar .sub .i64 a b=a - b:=ir h h'
@[go_sem] theorem YN {a b:Int} (h:-9223372036854775808≤a+b) (h':a+b < 9223372036854775808):ad.ar .add .i64 a b=a+b:=yF h h'
@[go_sem] theorem ahE (x:UInt8):ad.wrap .i64 (x.toNat:Int)=x.toNat:=wrap64 (by omega) (by have:=x.toNat_lt; omega)end Go.Proofs.YtockoilcnmljiaaGreat
namespace Go.Proofs.YtockoilcnmljiaaGreat
set_option maxRecDepth 100000
set_option profiler true
set_option profiler.threshold 1000
section
variable (pr:dT) (cv:Cv Rz) (J:Nat→St→Option Rz)
theorem Ef:Told cfg Tryz.prog 161 Tryz.f161:=⟨by kernel_rfl,Tryz.func161,by kernel_rfl⟩
theorem Eg (x0:aI) (x1:Int):aQ pr cv J 161 Tryz.f161 [(.agg (bR (some true) x0)),(.int .i64 x1)]=
    (cv 166 [(.agg (bR (some true) x0))] (.sl (fun dU=>(fun dp=>(.done (br (br (br (pr.nl dp) true false) true false) (cv 167 [(.int .i64 x1)] (.ty fk.B (fun (kS:List UInt8)=>(.done (br (br (pr.flat [(.int .u8 (pr.wrap .u8 (pr.aS dU)))]) (pr.fits (kS.length+1) 1) false) (br (br (pr.flat dp) (pr.fits ((kS.length+1)+dU) 1) false) (br (br (pr.le 0 (pr.ar .sub .i64 156 (pr.aS ((kS.length+1)+dU)))) (pr.fits (((kS.length+1)+dU)+(pr.js (pr.ar .sub .i64 156 (pr.aS ((kS.length+1)+dU))))) 1) false) (cv 167 [(.int .i64 x1)] (.ty fk.B (fun (tM:List UInt8)=>(.done (br (br (pr.flat (bytes tM)) (pr.fits ((((kS.length+1)+dU)+(pr.js (pr.ar .sub .i64 156 (pr.aS ((kS.length+1)+dU)))))+tM.length) 1) false) (some ((.sl none 1 ((((kS.length+1)+dU)+(pr.js (pr.ar .sub .i64 156 (pr.aS ((kS.length+1)+dU)))))+tM.length) (List.append (List.append (List.append (List.append (bytes kS) [(.int .u8 (pr.wrap .u8 (pr.aS dU)))]) dp) (fA (pr.js (pr.ar .sub .i64 156 (pr.aS ((kS.length+1)+dU)))) [(.int .u8 0)])) (bytes tM))),[.undef,.undef])) none))))) none) none) none))))) none)))))):=by kernel_rfl
def nk (x1:Int) (n0:Nat) (c1:List D):St:=(St.mk [(1,(.int .i64 x1)),(6,(.ref 10006 [] 0 none))] [(10006,[(.sl none 1 n0 c1)])] [] 0)
theorem Lp:Told cfg Tryz.prog 152 Tryz.f152:=⟨by kernel_rfl,Tryz.func152,by kernel_rfl⟩
theorem Lq (x0:aI) (x1:Int):aQ pr cv J 152 Tryz.f152 [(.agg (bR (some true) x0)),(.int .i64 x1)]=
    (cv 157 [(.agg (bR (some true) x0))] (.sl (fun dU=>(fun dp=>(.done (br (br (br (pr.nl dp) true false) true false) (cv 158 [(.int .i64 x1)] (.ty fk.B (fun (kS:List UInt8)=>(.done (br (br (pr.flat [(.int .u8 (pr.wrap .u8 (pr.aS dU)))]) (pr.fits (kS.length+1) 1) false) (br (br (pr.flat dp) (pr.fits ((kS.length+1)+dU) 1) false) (J 0 (nk x1 ((kS.length+1)+dU) (List.append (List.append (bytes kS) [(.int .u8 (pr.wrap .u8 (pr.aS dU)))]) dp))) none) none))))) none)))))):=by kernel_rfl
theorem vD (x1:Int) (n0:Nat) (c1:List D):bJ pr cv J 152 Tryz.f152 [.undef,.undef] 0 (nk x1 n0 c1)=
    (br (pr.lt (pr.aS n0) 156) (br (br (pr.flat [(.int .u8 0)]) (pr.fits (n0+1) 1) false) (J 0 (nk x1 (n0+1) (List.append c1 [(.int .u8 0)]))) none) (cv 158 [(.int .i64 x1)] (.ty fk.B (fun (ax:List UInt8)=>(.done (br (br (pr.flat (bytes ax)) (pr.fits (n0+ax.length) 1) false) (some ((.sl none 1 (n0+ax.length) (List.append c1 (bytes ax))),[.undef,.undef])) none)))))):=by kernel_rfl
theorem Lr:Told cfg Tryz.prog 154 Tryz.f154:=⟨by kernel_rfl,Tryz.func154,by kernel_rfl⟩
theorem Ls (x0:List UInt8):aQ pr cv J 154 Tryz.f154 [(s8 (some true) x0)]=
    let y1:Option (D × List D):=(some ((.aL [(.agg [(.sl none 1 0 []),(.sl none 1 0 []),(.bool false),(.bool false),(.bool false),(.int .i64 0)]),(.int .i64 0),(.bool false)]),[.undef]))
    let y2:D:=(.int .i64 (pr.ar .or .i64 (pr.ar .or .i64 (pr.ar .or .i64 (pr.wrap .i64 (pr.bn (bytes x0) (pr.idx 0 0 1))) (pr.ar .shl .i64 (pr.wrap .i64 (pr.bn (bytes x0) (pr.idx 0 1 1))) 8)) (pr.ar .shl .i64 (pr.wrap .i64 (pr.bn (bytes x0) (pr.idx 0 2 1))) 16)) (pr.ar .shl .i64 (pr.wrap .i64 (pr.bn (bytes x0) (pr.idx 0 3 1))) 24)))
    let y3:Int:=(pr.ar .add .i64 5 (pr.wrap .i64 (pr.bn (bytes x0) (pr.idx 0 4 1))))
    let y4:Nat:=(pr.tv y3 5)
    (br (br (pr.eq (pr.aS x0.length) 160) false true) y1 (br (pr.bD 0 x0.length) (br (br (pr.cw .u8 (bytes x0) (pr.idx 0 0 1)) true false) (br (pr.bD 1 x0.length) (br (br (pr.cw .u8 (bytes x0) (pr.idx 0 1 1)) true false) (br (br (pr.lt 8 0) false true) (br (pr.bD 2 x0.length) (br (br (pr.cw .u8 (bytes x0) (pr.idx 0 2 1)) true false) (br (br (pr.lt 16 0) false true) (br (pr.bD 3 x0.length) (br (br (pr.cw .u8 (bytes x0) (pr.idx 0 3 1)) true false) (br (br (pr.lt 24 0) false true) (br (pr.bD 4 x0.length) (br (br (pr.cw .u8 (bytes x0) (pr.idx 0 4 1)) true false) (cv 75 [y2,(.int .i64 1),(.int .i64 1000000)] (.bool (fun cf=>(.done (br (br cf false true) y1 (br (pr.lt 151 (pr.wrap .i64 (pr.bn (bytes x0) (pr.idx 0 4 1)))) y1 (br (pr.wS 5 y3 x0.length) (cv 159 [(.sl (some true) 1 y4 (List.take (Nat.mul y4 1) (List.drop (Nat.mul (pr.js 5) 1) (bytes x0))))] (.ty fk.mt (fun (ff:aI)=>(.bool (fun iq=>(.done (br (br iq false true) y1 (cv 161 [(.agg (cA true (bR none ff))),y2] (.ty fk.B (fun (tM:List UInt8)=>(.done (cv 160 [(iw true (s8 none tM)),(s8 (some true) x0)] (.bool (fun Ux=>(.done (br (br Ux false true) y1 (some ((.aL [(.agg (bR none ff)),y2,(.bool true)]),[.undef])))))))))))))))))) none))))))) none) none) none) none) none) none) none) none) none) none) none) none) none)):=by kernel_rfl
theorem Lt:Told cfg Tryz.prog 139 Tryz.f139:=⟨by kernel_rfl,Tryz.func139,by kernel_rfl⟩
theorem Lu (x0:List UInt8):aQ pr cv J 139 Tryz.f139 [(s8 (some true) x0)]=
    let y1:Option (D × List D):=(some ((.aL [(.agg [(.sl none 1 0 []),(.sl none 1 0 []),(.bool false),(.bool false),(.bool false),(.int .i64 0)]),(.int .i64 0),(.bool false)]),[.undef]))
    let y2:D:=(.int .i64 (pr.ar .add .i64 (pr.ar .add .i64 (pr.ar .add .i64 (pr.wrap .i64 (pr.bn (bytes x0) (pr.idx 0 0 1))) (pr.ar .shl .i64 (pr.wrap .i64 (pr.bn (bytes x0) (pr.idx 0 1 1))) 8)) (pr.ar .shl .i64 (pr.wrap .i64 (pr.bn (bytes x0) (pr.idx 0 2 1))) 16)) (pr.ar .shl .i64 (pr.wrap .i64 (pr.bn (bytes x0) (pr.idx 0 3 1))) 24)))
    let y3:Int:=(pr.ar .add .i64 5 (pr.wrap .i64 (pr.bn (bytes x0) (pr.idx 0 4 1))))
    let y4:Nat:=(pr.tv y3 5)
    (br (br (pr.eq (pr.aS x0.length) 160) false true) y1 (br (pr.bD 0 x0.length) (br (br (pr.cw .u8 (bytes x0) (pr.idx 0 0 1)) true false) (br (pr.bD 1 x0.length) (br (br (pr.cw .u8 (bytes x0) (pr.idx 0 1 1)) true false) (br (br (pr.lt 8 0) false true) (br (pr.bD 2 x0.length) (br (br (pr.cw .u8 (bytes x0) (pr.idx 0 2 1)) true false) (br (br (pr.lt 16 0) false true) (br (pr.bD 3 x0.length) (br (br (pr.cw .u8 (bytes x0) (pr.idx 0 3 1)) true false) (br (br (pr.lt 24 0) false true) (br (pr.bD 4 x0.length) (br (br (pr.cw .u8 (bytes x0) (pr.idx 0 4 1)) true false) (cv 69 [y2,(.int .i64 1),(.int .i64 1000000)] (.bool (fun cf=>(.done (br (br cf false true) y1 (br (pr.lt 151 (pr.wrap .i64 (pr.bn (bytes x0) (pr.idx 0 4 1)))) y1 (br (pr.wS 5 y3 x0.length) (cv 151 [(.sl (some true) 1 y4 (List.take (Nat.mul y4 1) (List.drop (Nat.mul (pr.js 5) 1) (bytes x0))))] (.ty fk.mt (fun (ff:aI)=>(.bool (fun iq=>(.done (br (br iq false true) y1 (br (pr.rL (bytes x0)) (cv 152 [(.agg (cA true (bR none ff))),y2] (.ty fk.B (fun (tM:List UInt8)=>(.done (br (pr.rL (bytes tM)) (br (br (pr.seq (pr.An (bytes tM)) (pr.An (bytes x0))) false true) y1 (some ((.aL [(.agg (bR none ff)),y2,(.bool true)]),[.undef]))) none))))) none)))))))) none))))))) none) none) none) none) none) none) none) none) none) none) none) none) none)):=by kernel_rfl
theorem Lv:Told cfg Tryz.prog 146 Tryz.f146:=⟨by kernel_rfl,Tryz.func146,by kernel_rfl⟩
theorem Lw (x0:aG):aQ pr cv J 146 Tryz.f146 [(.agg (cO (some true) x0))]=
    (cv 154 [(s8 (some true) x0.a)] (.ty fk.mt (fun (ax:aI)=>(.int (fun gP=>(.bool (fun iq=>(.done (cv 154 [(s8 (some true) x0.b)] (.ty fk.mt (fun (tM:aI)=>(.int (fun nL=>(.bool (fun vi=>(.done (br vi (br (br iq false true) (some ((.aL [(.agg (bR none tM)),(.int .i64 nL),(.bool false)]),[.undef])) (br (pr.lt gP nL) (some ((.aL [(.agg (bR none tM)),(.int .i64 nL),(.bool false)]),[.undef])) (some ((.aL [(.agg (bR none ax)),(.int .i64 gP),(.bool iq)]),[.undef])))) (some ((.aL [(.agg (bR none ax)),(.int .i64 gP),(.bool iq)]),[.undef]))))))))))))))))))):=by kernel_rfl
theorem IL:Told cfg Tryz.prog 138 Tryz.f138:=⟨by kernel_rfl,Tryz.func138,by kernel_rfl⟩
theorem IM (x0:aG):aQ pr cv J 138 Tryz.f138 [(.agg (cO (some true) x0))]=
    let y1:Option (D × List D):=(some ((.int .i64 0),[.undef]))
    let y2:Option (D × List D):=(some ((.int .i64 1),[.undef]))
    let y3:Option (D × List D):=(some ((.int .i64 (-1)),[.undef]))
    (cv 139 [(s8 (some true) x0.a)] (.ty fk.mt (fun (ax:aI)=>(.int (fun gP=>(.bool (fun iq=>(.done (cv 139 [(s8 (some true) x0.b)] (.ty fk.mt (fun (tM:aI)=>(.int (fun nL=>(.bool (fun vi=>(.done (br iq (br (br vi false true) y1 (br (pr.le nL gP) y1 (br vi y2 y3))) (br vi y2 y3)))))))))))))))))):=by kernel_rfl
theorem IN:Told cfg Tryz.prog 113 Tryz.f113:=⟨by kernel_rfl,Tryz.func113,by kernel_rfl⟩
theorem IP (x0:aG):aQ pr cv J 113 Tryz.f113 [(.agg (cO (some true) x0))]=
    (cv 146 [(.agg (cO (some true) x0))] (.ty fk.mt (fun (ax:aI)=>(.int (fun gP=>(.bool (fun iq=>(.done (some ((.aL [(.agg (bR none ax)),(.int .i64 gP),(.bool (pr.lt 0 gP))]),[.undef])))))))))):=by kernel_rfl
theorem IQ:Told cfg Tryz.prog 102 Tryz.f102:=⟨by kernel_rfl,Tryz.func102,by kernel_rfl⟩
theorem IS (x0:aG):aQ pr cv J 102 Tryz.f102 [(.agg (cO (some true) x0))]=
    let y1:bG Rz:=(.ty fk.mt (fun (ff:aI)=>(.int (fun qD=>(.bool (fun vh=>(.done (some ((.aL [(.agg (bR none ff)),(.int .i64 qD),(.bool vh)]),[.undef])))))))))
    (cv 138 [(.agg (cO (some true) x0))] (.int (fun dm=>(.done (br (pr.eq dm 1) (cv 139 [(s8 (some true) x0.b)] y1) (cv 139 [(s8 (some true) x0.a)] y1)))))):=by kernel_rfl
end
@[go_sem] theorem qP (a:Nat):(qM a).length=4:=rfl
attribute [go_sem] Bl kD iu
@[go_sem] theorem aam (b0:Nat) (b:List UInt8) (e0:b0=b.length) (q0:b.length≤1000000) (t:bG Rz):aO 159 [.sl (some true) 1 b0 (bytes b)] t=feed t [enc .mt ((dQ b).1),.bool ((dQ b).2)]:=by
  subst e0
  exact bO (r:=.aL [enc .mt ((dQ b).1),.bool ((dQ b).2)]) (s:=.aL [.ty .mt,.bool]) (ss:=[.undef]) (Lo b q0) (by kernel_rfl) (by simp only [av,bA,ba,bB,bC,ai,aj,Bool.and_self]) (by simp only [ai,aJ,av,aj,Bool.and_self]) (by first | rfl | simp only [au,aY,aX,bu,bw,aZ,bz,Bool.and_self]) (by first | rfl | simp only [List.all_cons,List.all_nil,au,Bool.and_self]) t
@[go_sem] theorem aan (b0:Nat) (b:List UInt8) (e0:b0=b.length) (q0:b.length≤1000000) (t:bG Rz):aO 151 [.sl (some true) 1 b0 (bytes b)] t=feed t [enc .mt ((dQ b).1),.bool ((dQ b).2)]:=by
  subst e0
  exact bO (r:=.aL [enc .mt ((dQ b).1),.bool ((dQ b).2)]) (s:=.aL [.ty .mt,.bool]) (ss:=[.undef]) (Ln b q0) (by kernel_rfl) (by simp only [av,bA,ba,bB,bC,ai,aj,Bool.and_self]) (by simp only [ai,aJ,av,aj,Bool.and_self]) (by first | rfl | simp only [au,aY,aX,bu,bw,aZ,bz,Bool.and_self]) (by first | rfl | simp only [List.all_cons,List.all_nil,au,Bool.and_self]) t
@[go_sem] theorem adt (a:Nat) (q0:a < 4611686018427387904) (t:bG Rz):aO 167 [.int .i64 (a:Int)] t=feed t [enc .B (qM a)]:=by
  exact bO (r:=enc .B (qM a)) (s:=.ty .B) (ss:=[.undef]) (acC a q0) (by kernel_rfl) (by simp only [av,bA,ba,bB,bC,ai,aj,Bool.and_self]) (by simp only [ai,aJ,av,aj,Bool.and_self]) (by first | rfl | simp only [au,aY,aX,bu,bw,aZ,bz,Bool.and_self]) (by first | rfl | simp only [List.all_cons,List.all_nil,au,Bool.and_self]) t
@[go_sem] theorem acF (a:Nat) (q0:a < 4611686018427387904) (t:bG Rz):aO 158 [.int .i64 (a:Int)] t=feed t [enc .B (qM a)]:=by
  exact bO (r:=enc .B (qM a)) (s:=.ty .B) (ss:=[.undef]) (ZY a q0) (by kernel_rfl) (by simp only [av,bA,ba,bB,bC,ai,aj,Bool.and_self]) (by simp only [ai,aJ,av,aj,Bool.and_self]) (by first | rfl | simp only [au,aY,aX,bu,bw,aZ,bz,Bool.and_self]) (by first | rfl | simp only [List.all_cons,List.all_nil,au,Bool.and_self]) t
def nn (m:aI) (n:Nat):List UInt8:=qM n++[UInt8.ofNat (cH m).length]++cH m++List.replicate (151 - (cH m).length) 0++qM n
@[go_sem] theorem Xf (n k:Nat) (a:List Int) (b:List (List Int)) (f o h:Bool) (l:Int) (e1:n=a.length) (e2:k=b.length) (q:cJ ⟨a,b,f,o,h,l⟩) (t:bG Rz):aO 157 [.agg [.sl (some true) 1 n (ints a),.sl (some true) 1 k (rows (some true) b),.bool f,.bool o,.bool h,.int .i64 l]] t=feed t [s8 none (cH ⟨a,b,f,o,h,l⟩)]:=by
  subst e1
  subst e2
  exact vz (g:=true) (m:=⟨a,b,f,o,h,l⟩) (hm:=q) t
@[go_sem] theorem Xg (n k:Nat) (a:List Int) (b:List (List Int)) (f o h:Bool) (l:Int) (e1:n=a.length) (e2:k=b.length) (q:cJ ⟨a,b,f,o,h,l⟩) (t:bG Rz):aO 166 [.agg [.sl (some true) 1 n (ints a),.sl (some true) 1 k (rows (some true) b),.bool f,.bool o,.bool h,.int .i64 l]] t=feed t [s8 none (cH ⟨a,b,f,o,h,l⟩)]:=by
  subst e1
  subst e2
  exact vA (g:=true) (m:=⟨a,b,f,o,h,l⟩) (hm:=q) t
theorem vE (m:aI) (n:Nat) (q0:cJ m) (q1:(cH m).length≤151) (q2:n < 4611686018427387904):Cm 161 [.agg (bR (some true) m),.int .i64 (n:Int)] (s8 none (nn m n),[.undef,.undef]):=by
  refine Cm.step Ef _ fun J _=>?_
  rw [Eg]
  unfold nn
  simp (disch:=first | assumption | omega) only [go_sem,aA]
  have e:(156 - ((4+1+(cH m).length:Nat):Int)).toNat=151 - (cH m).length:=by omega
  rw [e]
  simp only [s8,List.length_append,qP,List.length_replicate,List.length_singleton]
@[go_sem] theorem Xh (nV:Nat) (fX:List Int) (nW:Nat) (fY:List (List Int)) (gY:Bool) (gZ:Bool) (hC:Bool) (hD:Int) (n:Nat) (e0:nV=fX.length) (e1:nW=fY.length) (q0:cJ (⟨fX,fY,gY,gZ,hC,hD⟩:aI)) (q1:(cH (⟨fX,fY,gY,gZ,hC,hD⟩:aI)).length≤151) (q2:n < 4611686018427387904) (t:bG Rz):aO 161 [.agg [.sl (some true) 1 nV (ints fX),.sl (some true) 1 nW (rows (some true) fY),.bool gY,.bool gZ,.bool hC,.int .i64 hD],.int .i64 (n:Int)] t=feed t [enc .B (nn (⟨fX,fY,gY,gZ,hC,hD⟩:aI) n)]:=by
  subst e0
  subst e1
  exact bO (r:=enc .B (nn (⟨fX,fY,gY,gZ,hC,hD⟩:aI) n)) (s:=.ty .B) (ss:=[.undef,.undef]) (vE (⟨fX,fY,gY,gZ,hC,hD⟩:aI) n q0 q1 q2) (by kernel_rfl) (by simp only [av,bA,ba,bB,bC,ai,aj,Bool.and_self]) (by simp only [ai,aJ,av,aj,Bool.and_self]) (by first | rfl | simp only [au,aY,aX,bu,bw,aZ,bz,Bool.and_self]) (by first | rfl | simp only [List.all_cons,List.all_nil,au,Bool.and_self]) t
theorem zx (m:aI) (n:Nat) (q0:cJ m) (q1:(cH m).length≤151) (q2:n < 4611686018427387904):Cm 152 [.agg (bR (some true) m),.int .i64 (n:Int)] (s8 none (nn m n),[.undef,.undef]):=by
  have key:∀ k (o:List UInt8),o.length+k=156→WP 152 Tryz.f152 [.undef,.undef] 0 (nk (n:Int) o.length (bytes o)) (s8 none (o++List.replicate k 0++qM n),[.undef,.undef]):=by
    intro k
    induction k with
    | zero=>
      intro o ho
      refine WP.step fun J _=>?_
      rw [vD]
      simp (disch:=first | assumption | omega) only [go_sem]
      simp only [s8,List.replicate_zero,List.append_nil,List.length_append,qP]
    | succ k ih=>
      intro o ho
      refine WP.step fun J hJ=>?_
      rw [vD]
      simp (disch:=first | assumption | omega) only [go_sem]
      have h:=ih (o++[0]) (by simp only [List.length_append,List.length_singleton]; omega)
      rw [List.length_append,List.length_singleton,List.append_assoc o,List.singleton_append,← List.replicate_succ] at h
      exact hJ _ _ h
  refine Cm.step Lp [.undef,.undef] fun J hJ=>?_
  rw [Lq]
  simp (disch:=first | assumption | omega) only [go_sem]
  have h:=key (151 - (cH m).length) (qM n++[UInt8.ofNat (cH m).length]++cH m) (by simp only [List.length_append,qP,List.length_singleton]; omega)
  rw [List.length_append,List.length_append,qP,List.length_singleton] at h
  exact hJ _ _ h
@[go_sem] theorem aao (nV:Nat) (fX:List Int) (nW:Nat) (fY:List (List Int)) (gY:Bool) (gZ:Bool) (hC:Bool) (hD:Int) (n:Nat) (e0:nV=fX.length) (e1:nW=fY.length) (q0:cJ (⟨fX,fY,gY,gZ,hC,hD⟩:aI)) (q1:(cH (⟨fX,fY,gY,gZ,hC,hD⟩:aI)).length≤151) (q2:n < 4611686018427387904) (t:bG Rz):aO 152 [.agg [.sl (some true) 1 nV (ints fX),.sl (some true) 1 nW (rows (some true) fY),.bool gY,.bool gZ,.bool hC,.int .i64 hD],.int .i64 (n:Int)] t=feed t [enc .B (nn (⟨fX,fY,gY,gZ,hC,hD⟩:aI) n)]:=by
  subst e0
  subst e1
  exact bO (r:=enc .B (nn (⟨fX,fY,gY,gZ,hC,hD⟩:aI) n)) (s:=.ty .B) (ss:=[.undef,.undef]) (zx (⟨fX,fY,gY,gZ,hC,hD⟩:aI) n q0 q1 q2) (by kernel_rfl) (by simp only [av,bA,ba,bB,bC,ai,aj,Bool.and_self]) (by simp only [ai,aJ,av,aj,Bool.and_self]) (by first | rfl | simp only [au,aY,aX,bu,bw,aZ,bz,Bool.and_self]) (by first | rfl | simp only [List.all_cons,List.all_nil,au,Bool.and_self]) t
def my (b:List UInt8):Nat:=(b.getD 0 0).toNat+(b.getD 1 0).toNat*256+(b.getD 2 0).toNat*65536+(b.getD 3 0).toNat*16777216
def lB (b:List UInt8):List UInt8:=(b.drop 5).take (b.getD 4 0).toNat
def gv (b:List UInt8):Bool:=decide ((b.length:Int)=160)&&(decide (1≤(my b:Int)∧(my b:Int)≤1000000)&&(!decide (151 < ((b.getD 4 0).toNat:Int))&&((dQ (lB b)).2&&decide (nn (dQ (lB b)).1 (my b)=b))))
def cm (b:List UInt8):aI × Int × Bool:=if gv b then ((dQ (lB b)).1,(my b:Int),true) else (fN,0,false)
theorem GW {b:List UInt8} (h:(dQ b).2=true):cH (dQ b).1=b:=by
  unfold dQ at h ⊢
  split at h
  · rename_i h1
    rw [if_pos h1]
    simp only [Bool.and_eq_true,decide_eq_true_eq] at h1
    exact h1.2.1
  · simp at h
theorem gJ {b:List UInt8} (h:gv b=false):cm b=(fN,0,false):=by unfold cm; rw [h]; rfl
theorem wF {b:List UInt8} (h:gv b=true):cm b=((dQ (lB b)).1,(my b:Int),true):=by unfold cm; rw [h]; rfl
theorem OI {b:List UInt8} (h:b.length=160) (h4:(b.getD 4 0).toNat≤151):(lB b).length=(b.getD 4 0).toNat:=by simp only [lB,List.length_take,List.length_drop]; omega
theorem QV (b:List UInt8):my b < 4294967296:=by
  have:=(b.getD 0 0).toNat_lt; have:=(b.getD 1 0).toNat_lt; have:=(b.getD 2 0).toNat_lt; have:=(b.getD 3 0).toNat_lt
  unfold my; omega
theorem yQ (b:List UInt8):ad.ar .add .i64 (ad.ar .add .i64 (ad.ar .add .i64 ((b.getD 0 0).toNat:Int) (ad.ar .shl .i64 ((b.getD 1 0).toNat:Int) 8)) (ad.ar .shl .i64 ((b.getD 2 0).toNat:Int) 16)) (ad.ar .shl .i64 ((b.getD 3 0).toNat:Int) 24)=((my b:Nat):Int):=by
  have h0:=(b.getD 0 0).toNat_lt; have h1:=(b.getD 1 0).toNat_lt; have h2:=(b.getD 2 0).toNat_lt; have h3:=(b.getD 3 0).toNat_lt
  have s1:ad.ar .shl .i64 ((b.getD 1 0).toNat:Int) 8=_:=vu (k:=8) (by omega) (by omega)
  have s2:ad.ar .shl .i64 ((b.getD 2 0).toNat:Int) 16=_:=vu (k:=16) (by omega) (by omega)
  have s3:ad.ar .shl .i64 ((b.getD 3 0).toNat:Int) 24=_:=vu (k:=24) (by omega) (by omega)
  rw [s1,s2,s3,tc (by omega),tc (by omega),tc (by omega)]
  rfl
theorem Cj (b:List UInt8):ad.ar .or .i64 (ad.ar .or .i64 (ad.ar .or .i64 ((b.getD 0 0).toNat:Int) (ad.ar .shl .i64 ((b.getD 1 0).toNat:Int) 8)) (ad.ar .shl .i64 ((b.getD 2 0).toNat:Int) 16)) (ad.ar .shl .i64 ((b.getD 3 0).toNat:Int) 24)=((my b:Nat):Int):=by
  have h0:=(b.getD 0 0).toNat_lt; have h1:=(b.getD 1 0).toNat_lt; have h2:=(b.getD 2 0).toNat_lt; have h3:=(b.getD 3 0).toNat_lt
  have s1:ad.ar .shl .i64 ((b.getD 1 0).toNat:Int) 8=_:=vu (k:=8) (by omega) (by omega)
  have s2:ad.ar .shl .i64 ((b.getD 2 0).toNat:Int) 16=_:=vu (k:=16) (by omega) (by omega)
  have s3:ad.ar .shl .i64 ((b.getD 3 0).toNat:Int) 24=_:=vu (k:=24) (by omega) (by omega)
  rw [s1,s2,s3,L4 (by omega) (by omega),GM (k:=8) h0,L4 (by omega) (by omega),GM (k:=16) (by omega),L4 (by omega) (by omega),GM (k:=24) (by omega)]
  rfl
theorem acG {b:List UInt8} (h:¬((b.length:Int)=160)):gv b=false:=by simp only [gv,h,decide_false,Bool.false_and]
theorem acH {b:List UInt8} (h:¬(1≤(my b:Int)∧(my b:Int)≤1000000)):gv b=false:=by simp only [gv,h,decide_false,Bool.false_and,Bool.and_false]
theorem acI {b:List UInt8} (h:151 < ((b.getD 4 0).toNat:Int)):gv b=false:=by simp only [gv,h,decide_true,Bool.not_true,Bool.false_and,Bool.and_false]
theorem acJ {b:List UInt8} (h:(dQ (lB b)).2=false):gv b=false:=by simp only [gv,h,Bool.false_and,Bool.and_false]
theorem acK {b:List UInt8} (h:¬(nn (dQ (lB b)).1 (my b)=b)):gv b=false:=by simp only [gv,h,decide_false,Bool.and_false]
theorem acL {b:List UInt8} (h1:(b.length:Int)=160) (h2:1≤(my b:Int)∧(my b:Int)≤1000000) (h3:¬(151 < ((b.getD 4 0).toNat:Int))) (h4:(dQ (lB b)).2=true) (h5:nn (dQ (lB b)).1 (my b)=b):gv b=true:=by simp only [gv,h1,h2,h3,h4,h5,and_self,decide_true,decide_false,Bool.not_false,Bool.and_self]
theorem Lx (b:List UInt8) (q0:b.length≤1048576):Cm 139 [s8 (some true) b] (.aL [.agg (bR none ((cm b).1)),.int .i64 ((cm b).2.1),.bool ((cm b).2.2)],[.undef]):=by
  refine Cm.step Lt _ fun J _=>?_
  rw [Lu]
  simp (disch:=first | assumption | omega) only [go_sem]
  refine bM (fun hl=>?_) (fun hl=>by rw [gJ (acG hl)]; rfl)
  have h4:=(b.getD 4 0).toNat_lt
  have hw:=QV b
  simp (disch:=first | assumption | omega) only [go_sem,yQ]
  refine bM (fun hn=>?_) (fun hn=>by rw [gJ (acH hn)]; rfl)
  simp (disch:=first | assumption | omega) only [go_sem]
  refine bM (fun hs=>by rw [gJ (acI hs)]; rfl) (fun hs=>?_)
  have hp:=OI (b:=b) (by omega) (by omega)
  have ep:List.take (b.getD 4 0).toNat (List.drop 5 b)=lB b:=rfl
  have cL:=Bm (lB b) (by omega)
  have e5:(5+((b.getD 4 0).toNat:Int)).toNat - 5=(b.getD 4 0).toNat:=by omega
  simp (disch:=first | assumption | omega) only [go_sem,e5,ep,yQ]
  refine QU (fun hq=>?_) (fun hq=>by rw [gJ (acJ hq)]; rfl)
  have hm:=GW hq
  simp (disch:=first | assumption | (rw [hm]; omega) | omega) only [go_sem,yQ]
  refine bM (fun he=>?_) (fun he=>by rw [gJ (acK he)]; rfl)
  simp (disch:=first | assumption | omega) only [go_sem,yQ,wF (acL hl hn hs hq he)]
@[go_sem] theorem aap (b0:Nat) (b:List UInt8) (e0:b0=b.length) (q0:b.length≤1048576) (t:bG Rz):aO 139 [.sl (some true) 1 b0 (bytes b)] t=feed t [enc .mt ((cm b).1),.int .i64 ((cm b).2.1),.bool ((cm b).2.2)]:=by
  subst e0
  exact bO (r:=.aL [enc .mt ((cm b).1),.int .i64 ((cm b).2.1),.bool ((cm b).2.2)]) (s:=.aL [.ty .mt,.int .i64,.bool]) (ss:=[.undef]) (Lx b q0) (by kernel_rfl) (by simp only [av,bA,ba,bB,bC,ai,aj,Bool.and_self]) (by simp only [ai,aJ,av,aj,Bool.and_self]) (by first | rfl | simp only [au,aY,aX,bu,bw,aZ,bz,Bool.and_self]) (by first | rfl | simp only [List.all_cons,List.all_nil,au,Bool.and_self]) t
theorem Ly (b:List UInt8) (q0:b.length≤1048576):Cm 154 [s8 (some true) b] (.aL [.agg (bR none ((cm b).1)),.int .i64 ((cm b).2.1),.bool ((cm b).2.2)],[.undef]):=by
  refine Cm.step Lr _ fun J _=>?_
  rw [Ls]
  simp (disch:=first | assumption | omega) only [go_sem]
  refine bM (fun hl=>?_) (fun hl=>by rw [gJ (acG hl)]; rfl)
  have h4:=(b.getD 4 0).toNat_lt
  have hw:=QV b
  simp (disch:=first | assumption | omega) only [go_sem,Cj]
  refine bM (fun hn=>?_) (fun hn=>by rw [gJ (acH hn)]; rfl)
  simp (disch:=first | assumption | omega) only [go_sem]
  refine bM (fun hs=>by rw [gJ (acI hs)]; rfl) (fun hs=>?_)
  have hp:=OI (b:=b) (by omega) (by omega)
  have ep:List.take (b.getD 4 0).toNat (List.drop 5 b)=lB b:=rfl
  have cL:=Bm (lB b) (by omega)
  have e5:(5+((b.getD 4 0).toNat:Int)).toNat - 5=(b.getD 4 0).toNat:=by omega
  simp (disch:=first | assumption | omega) only [go_sem,e5,ep,Cj]
  refine QU (fun hq=>?_) (fun hq=>by rw [gJ (acJ hq)]; rfl)
  have hm:=GW hq
  simp (disch:=first | assumption | (rw [hm]; omega) | omega) only [go_sem,Cj]
  refine bM (fun he=>?_) (fun he=>by rw [gJ (acK he)]; rfl)
  simp (disch:=first | assumption | omega) only [go_sem,Cj,wF (acL hl hn hs hq he)]
@[go_sem] theorem aaq (b0:Nat) (b:List UInt8) (e0:b0=b.length) (q0:b.length≤1048576) (t:bG Rz):aO 154 [.sl (some true) 1 b0 (bytes b)] t=feed t [enc .mt ((cm b).1),.int .i64 ((cm b).2.1),.bool ((cm b).2.2)]:=by
  subst e0
  exact bO (r:=.aL [enc .mt ((cm b).1),.int .i64 ((cm b).2.1),.bool ((cm b).2.2)]) (s:=.aL [.ty .mt,.int .i64,.bool]) (ss:=[.undef]) (Ly b q0) (by kernel_rfl) (by simp only [av,bA,ba,bB,bC,ai,aj,Bool.and_self]) (by simp only [ai,aJ,av,aj,Bool.and_self]) (by first | rfl | simp only [au,aY,aX,bu,bw,aZ,bz,Bool.and_self]) (by first | rfl | simp only [List.all_cons,List.all_nil,au,Bool.and_self]) t
theorem Kb (b:List UInt8):cJ (cm b).1:=by
  unfold cm
  split
  · exact Bm (lB b) (by have:=(b.getD 4 0).toNat_lt; simp only [lB,List.length_take,List.length_drop]; omega)
  · exact ⟨by simp [fN],by simp [fN],by simp [fN]⟩
theorem GX (b:List UInt8):if (cm b).2.2 then 1≤(cm b).2.1∧(cm b).2.1≤1000000 else cm b=(fN,0,false):=by
  cases h:gv b with
  | false=>rw [gJ h]; rfl
  | true=>
    rw [wF h]
    simp only [gv,Bool.and_eq_true,decide_eq_true_eq] at h
    exact h.2.1
def GY (s:aG):Bool:=(cm s.b).2.2&&(!(cm s.a).2.2||decide ((cm s.a).2.1 < (cm s.b).2.1))
def aP (s:aG):aI × Int × Bool:=if GY s then cm s.b else cm s.a
def oK (s:aG):Bool:=!GY s&&(cm s.a).2.2
theorem zy (s:aG) (q0:dJ s):Cm 146 [.agg (cO (some true) s)] (.aL [.agg (bR none ((((aP s).1,(aP s).2.1,oK s)).1)),.int .i64 ((((aP s).1,(aP s).2.1,oK s)).2.1),.bool ((((aP s).1,(aP s).2.1,oK s)).2.2)],[.undef]):=by
  have qa:=q0.a
  have qb:=q0.b
  have h1:=GX s.a
  refine Cm.step Lv _ fun J _=>?_
  rw [Lw]
  simp (disch:=first | assumption | omega) only [go_sem]
  unfold aP oK GY
  generalize cm s.a=a at*
  generalize cm s.b=b at*
  obtain ⟨a1,a2,a3⟩:=a
  obtain ⟨b1,b2,b3⟩:=b
  cases a3<;>cases b3<;>by_cases h:a2 < b2<;>simp [br,h,enc,Sa]
@[go_sem] theorem aar (vF:Nat) (eW:List UInt8) (vG:Nat) (eX:List UInt8) (e0:vF=eW.length) (e1:vG=eX.length) (q0:dJ (⟨eW,eX⟩:aG)) (t:bG Rz):aO 146 [.agg [.sl (some true) 1 vF (bytes eW),.sl (some true) 1 vG (bytes eX)]] t=feed t [enc .mt ((((aP (⟨eW,eX⟩:aG)).1,(aP (⟨eW,eX⟩:aG)).2.1,oK (⟨eW,eX⟩:aG))).1),.int .i64 ((((aP (⟨eW,eX⟩:aG)).1,(aP (⟨eW,eX⟩:aG)).2.1,oK (⟨eW,eX⟩:aG))).2.1),.bool ((((aP (⟨eW,eX⟩:aG)).1,(aP (⟨eW,eX⟩:aG)).2.1,oK (⟨eW,eX⟩:aG))).2.2)]:=by
  subst e0
  subst e1
  exact bO (r:=.aL [enc .mt ((((aP (⟨eW,eX⟩:aG)).1,(aP (⟨eW,eX⟩:aG)).2.1,oK (⟨eW,eX⟩:aG))).1),.int .i64 ((((aP (⟨eW,eX⟩:aG)).1,(aP (⟨eW,eX⟩:aG)).2.1,oK (⟨eW,eX⟩:aG))).2.1),.bool ((((aP (⟨eW,eX⟩:aG)).1,(aP (⟨eW,eX⟩:aG)).2.1,oK (⟨eW,eX⟩:aG))).2.2)]) (s:=.aL [.ty .mt,.int .i64,.bool]) (ss:=[.undef]) (zy (⟨eW,eX⟩:aG) q0) (by kernel_rfl) (by simp only [av,bA,ba,bB,bC,ai,aj,Bool.and_self]) (by simp only [ai,aJ,av,aj,Bool.and_self]) (by first | rfl | simp only [au,aY,aX,bu,bw,aZ,bz,Bool.and_self]) (by first | rfl | simp only [List.all_cons,List.all_nil,au,Bool.and_self]) t
def td (s:aG):Int:=if (cm s.a).2.2&&(!(cm s.b).2.2||decide ((cm s.b).2.1≤(cm s.a).2.1)) then 0 else if (cm s.b).2.2 then 1 else -1
theorem xP (s:aG) (q0:dJ s):Cm 138 [.agg (cO (some true) s)] (.int .i64 (td s),[.undef]):=by
  have qa:=q0.a
  have qb:=q0.b
  refine Cm.step IL _ fun J _=>?_
  rw [IM]
  simp (disch:=first | assumption | omega) only [go_sem]
  unfold td
  generalize cm s.a=a
  generalize cm s.b=b
  obtain ⟨a1,a2,a3⟩:=a
  obtain ⟨b1,b2,b3⟩:=b
  cases a3<;>cases b3<;>by_cases h:b2≤a2<;>simp [br,h,yD]
@[go_sem] theorem Z1 (vF:Nat) (eW:List UInt8) (vG:Nat) (eX:List UInt8) (e0:vF=eW.length) (e1:vG=eX.length) (q0:dJ (⟨eW,eX⟩:aG)) (t:bG Rz):aO 138 [.agg [.sl (some true) 1 vF (bytes eW),.sl (some true) 1 vG (bytes eX)]] t=feed t [.int .i64 (td (⟨eW,eX⟩:aG))]:=by
  subst e0
  subst e1
  exact bO (r:=.int .i64 (td (⟨eW,eX⟩:aG))) (s:=.int .i64) (ss:=[.undef]) (xP (⟨eW,eX⟩:aG) q0) (by kernel_rfl) (by simp only [av,bA,ba,bB,bC,ai,aj,Bool.and_self]) (by simp only [ai,aJ,av,aj,Bool.and_self]) (by first | rfl | simp only [au,aY,aX,bu,bw,aZ,bz,Bool.and_self]) (by first | rfl | simp only [List.all_cons,List.all_nil,au,Bool.and_self]) t
theorem Sx (s:aG):decide (td s=1)=GY s:=by
  unfold td GY
  generalize cm s.a=a
  generalize cm s.b=b
  obtain ⟨a1,a2,a3⟩:=a
  obtain ⟨b1,b2,b3⟩:=b
  cases a3<;>cases b3<;>by_cases h:b2≤a2<;>simp [h]<;>omega
theorem PG (s:aG):decide (0 < (aP s).2.1)=(aP s).2.2:=by
  unfold aP
  have key:∀ b,decide (0 < (cm b).2.1)=(cm b).2.2:=fun b=>by
    have h:=GX b
    split at h
    · rename_i h1
      rw [h1,decide_eq_true (by omega)]
    · rw [h]; rfl
  split<;>exact key _
theorem GZ (s:aG):cJ (aP s).1:=by
  unfold aP
  split
  · exact Kb _
  · exact Kb _
theorem xQ (s:aG) (q0:dJ s):Cm 113 [.agg (cO (some true) s)] (.aL [.agg (bR none ((aP s).1)),.int .i64 ((aP s).2.1),.bool ((aP s).2.2)],[.undef]):=by
  refine Cm.step IN _ fun J _=>?_
  rw [IP]
  simp (disch:=first | assumption | omega) only [go_sem,PG]
@[go_sem] theorem Z2 (vF:Nat) (eW:List UInt8) (vG:Nat) (eX:List UInt8) (e0:vF=eW.length) (e1:vG=eX.length) (q0:dJ (⟨eW,eX⟩:aG)) (t:bG Rz):aO 113 [.agg [.sl (some true) 1 vF (bytes eW),.sl (some true) 1 vG (bytes eX)]] t=feed t [enc .mt ((aP (⟨eW,eX⟩:aG)).1),.int .i64 ((aP (⟨eW,eX⟩:aG)).2.1),.bool ((aP (⟨eW,eX⟩:aG)).2.2)]:=by
  subst e0
  subst e1
  exact bO (r:=.aL [enc .mt ((aP (⟨eW,eX⟩:aG)).1),.int .i64 ((aP (⟨eW,eX⟩:aG)).2.1),.bool ((aP (⟨eW,eX⟩:aG)).2.2)]) (s:=.aL [.ty .mt,.int .i64,.bool]) (ss:=[.undef]) (xQ (⟨eW,eX⟩:aG) q0) (by kernel_rfl) (by simp only [av,bA,ba,bB,bC,ai,aj,Bool.and_self]) (by simp only [ai,aJ,av,aj,Bool.and_self]) (by first | rfl | simp only [au,aY,aX,bu,bw,aZ,bz,Bool.and_self]) (by first | rfl | simp only [List.all_cons,List.all_nil,au,Bool.and_self]) t
theorem xR (s:aG) (q0:dJ s):Cm 102 [.agg (cO (some true) s)] (.aL [.agg (bR none ((aP s).1)),.int .i64 ((aP s).2.1),.bool ((aP s).2.2)],[.undef]):=by
  have qa:=q0.a
  have qb:=q0.b
  refine Cm.step IQ _ fun J _=>?_
  rw [IS]
  simp (disch:=first | assumption | omega) only [go_sem,Sx]
  unfold aP
  refine nU (fun h=>?_) (fun h=>?_)
  · simp (disch:=first | assumption | omega) only [go_sem,h]
  · simp (disch:=first | assumption | omega) only [go_sem,if_neg h]
@[go_sem] theorem Z3 (vF:Nat) (eW:List UInt8) (vG:Nat) (eX:List UInt8) (e0:vF=eW.length) (e1:vG=eX.length) (q0:dJ (⟨eW,eX⟩:aG)) (t:bG Rz):aO 102 [.agg [.sl (some true) 1 vF (bytes eW),.sl (some true) 1 vG (bytes eX)]] t=feed t [enc .mt ((aP (⟨eW,eX⟩:aG)).1),.int .i64 ((aP (⟨eW,eX⟩:aG)).2.1),.bool ((aP (⟨eW,eX⟩:aG)).2.2)]:=by
  subst e0
  subst e1
  exact bO (r:=.aL [enc .mt ((aP (⟨eW,eX⟩:aG)).1),.int .i64 ((aP (⟨eW,eX⟩:aG)).2.1),.bool ((aP (⟨eW,eX⟩:aG)).2.2)]) (s:=.aL [.ty .mt,.int .i64,.bool]) (ss:=[.undef]) (xR (⟨eW,eX⟩:aG) q0) (by kernel_rfl) (by simp only [av,bA,ba,bB,bC,ai,aj,Bool.and_self]) (by simp only [ai,aJ,av,aj,Bool.and_self]) (by first | rfl | simp only [au,aY,aX,bu,bw,aZ,bz,Bool.and_self]) (by first | rfl | simp only [List.all_cons,List.all_nil,au,Bool.and_self]) t
end Go.Proofs.YtockoilcnmljiaaGreat
namespace Go.Proofs.YtockoilcnmljiaaGreat
set_option maxRecDepth 100000
section
variable (pr:dT) (cv:Cv Rz) (J:Nat→St→Option Rz)
def iL (x0:ae) (i0:Int):St:=(St.mk [(1,(.ptr 1 [] 0)),(85,(.int .i64 i0))] [(1,(U (some true) x0))] [] 0)
def iM (x0:ae) (i0:Int) (i1:Int):St:=(St.mk [(1,(.ptr 1 [] 0)),(139,(sI (some true) x0.wait)),(140,(.int .i64 i0)),(141,(.int .i64 i1))] [(1,(U (some true) x0))] [] 0)
theorem Lz:Told cfg Tryz.prog 48 Tryz.f48:=⟨by kernel_rfl,Tryz.func48,by kernel_rfl⟩
theorem LA (x0:ae):aQ pr cv J 48 Tryz.f48 [(.agg (U (some true) x0))]=
    let y1:Option (D × List D):=(some ((.bool false),[.undef]))
    let y2:Option Rz:=(cv 113 [(.agg (cO (some true) x0.aM))] (.ty fk.mt (fun (mQ:aI)=>(.int (fun q9=>(.bool (fun pQ=>(.done (br (br pQ false true) y1 (cv 114 [(.agg (cA true (bR none mQ))),(.agg (bR (some true) x0.mt))] (.bool (fun Uw=>(.done (br (br Uw false true) y1 (J 0 (iL x0 0))))))))))))))))
    let y3:Option (D × List D):=(br (br x0.up false true) (br (pr.lt 0 (pr.aS x0.wait.length)) y1 y2) y2)
    (cv 76 [(.int .i64 x0.id)] (.bool (fun cf=>(.done (br (br cf false true) y1 (cv 110 [(sI (some true) x0.image)] (.bool (fun eN=>(.done (br (br eN false true) y1 (cv 111 [(.agg (bR (some true) x0.mt))] (.bool (fun iq=>(.done (br (br iq false true) y1 (br (br (pr.eq (pr.aS x0.conn.length) 3) false true) y1 (cv 112 [(sR (some true) x0.sync)] (.bool (fun vh=>(.done (br (br vh false true) y1 (br (br (pr.eq (pr.aS x0.aK.length) 3) false true) y1 (br x0.cE (br (br x0.up false true) y1 (br (pr.eq x0.id 2) y1 y3)) y3))))))))))))))))))))))):=by kernel_rfl
theorem Eh (x0:ae) (i0:Int):bJ pr cv J 48 Tryz.f48 [.undef] 0 (iL x0 i0)=
    let y1:Option (D × List D):=(some ((.bool false),[.undef]))
    let y2:Option Rz:=(J 0 (iL x0 (pr.ar .add .i64 i0 1)))
    let y3:Option (D × List D):=(br (pr.bD i0 x0.sync.length) (br (br (pr.bU 1 (rows (some true) x0.sync) (pr.idx 0 i0 1)) true false) (br (pr.lt 0 (pr.aS (pr.aR (rows (some true) x0.sync) (pr.idx 0 i0 1)))) (br (pr.bD i0 x0.aK.length) (br (br (pr.df (aD x0.aK) (pr.idx 0 i0 1)) true false) (br (br (pr.cg (aD x0.aK) (pr.idx 0 i0 1)) false true) y1 y2) none) none) y2) none) none)
    let y4:Option (D × List D):=(br (pr.bD i0 x0.aK.length) (br (br (pr.df (aD x0.aK) (pr.idx 0 i0 1)) true false) (br (pr.cg (aD x0.aK) (pr.idx 0 i0 1)) (br (pr.bD i0 x0.conn.length) (br (br (pr.df (aD x0.conn) (pr.idx 0 i0 1)) true false) (br (br (pr.cg (aD x0.conn) (pr.idx 0 i0 1)) false true) y1 y3) none) none) y3) none) none)
    (br (pr.lt i0 3) (br x0.up (br (pr.bD i0 x0.conn.length) (br (br (pr.df (aD x0.conn) (pr.idx 0 i0 1)) true false) (br (pr.cg (aD x0.conn) (pr.idx 0 i0 1)) (br (br (br (pr.eq i0 x0.id) false true) false true) y1 y4) y4) none) none) (br (pr.bD i0 x0.conn.length) (br (br (pr.df (aD x0.conn) (pr.idx 0 i0 1)) true false) (br (pr.cg (aD x0.conn) (pr.idx 0 i0 1)) y1 y4) none) none)) (J 2 (iM x0 (pr.aS x0.wait.length) 0))):=by kernel_rfl
theorem Ei (x0:ae) (i0:Int) (i1:Int):bJ pr cv J 48 Tryz.f48 [.undef] 2 (iM x0 i0 i1)=
    let y1:Option (D × List D):=(some ((.bool false),[.undef]))
    let y2:Option Rz:=(J 2 (iM x0 i0 (pr.ar .add .i64 i1 1)))
    (br (pr.lt i1 i0) (br (pr.bD i1 x0.wait.length) (br (br (pr.cw .i64 (ints x0.wait) (pr.idx 0 i1 1)) true false) (cv 115 [(.int .i64 (pr.bn (ints x0.wait) (pr.idx 0 i1 1)))] (.bool (fun cf=>(.done (br (br cf false true) y1 (br (pr.lt 0 i1) (br (pr.bD (pr.ar .sub .i64 i1 1) x0.wait.length) (br (br (pr.cw .i64 (ints x0.wait) (pr.idx 0 (pr.ar .sub .i64 i1 1) 1)) true false) (br (pr.le (pr.bn (ints x0.wait) (pr.idx 0 i1 1)) (pr.bn (ints x0.wait) (pr.idx 0 (pr.ar .sub .i64 i1 1) 1))) y1 y2) none) none) y2)))))) none) none) (some ((.bool true),[.undef]))):=by kernel_rfl
def kT (x0:ae) (i0:Int):St:=(St.mk [(1,(.ptr 1 [] 0)),(3,(.int .i64 i0))] [(1,(U (some true) x0))] [] 0)
theorem LB:Told cfg Tryz.prog 41 Tryz.f41:=⟨by kernel_rfl,Tryz.func41,by kernel_rfl⟩
theorem LC (x0:ae):aQ pr cv J 41 Tryz.f41 [(.agg (U (some true) x0))]=
    let y1:Option (D × List D):=(some ((.bool false),[.undef]))
    let y2:Option Rz:=(J 0 (kT x0 0))
    let y3:Option (D × List D):=(br (br x0.up false true) (br (pr.lt 0 (pr.aS x0.wait.length)) y1 y2) y2)
    (cv 69 [(.int .i64 x0.id),(.int .i64 0),(.int .i64 2)] (.bool (fun cf=>(.done (br (br cf false true) y1 (cv 99 [(sI (some true) x0.image)] (.bool (fun eN=>(.done (br (br eN false true) y1 (cv 100 [(.agg (bR (some true) x0.mt))] (.bool (fun iq=>(.done (br (br iq false true) y1 (cv 101 [(.agg (U (some true) x0))] (.bool (fun vh=>(.done (br (br vh false true) y1 (br x0.cE (br (br x0.up false true) y1 (br (pr.eq x0.id 2) y1 y3)) y3))))))))))))))))))))):=by kernel_rfl
theorem Ej (x0:ae) (i0:Int):bJ pr cv J 41 Tryz.f41 [.undef] 0 (kT x0 i0)=
    let y1:Bool:=(br (pr.cw .i64 (ints x0.wait) (pr.idx 0 i0 1)) true false)
    let y2:Option (D × List D):=(some ((.bool false),[.undef]))
    let y3:Option Rz:=(J 0 (kT x0 (pr.ar .add .i64 i0 1)))
    (br (pr.lt i0 (pr.aS x0.wait.length)) (br (pr.bD i0 x0.wait.length) (br y1 (cv 69 [(.int .i64 (pr.bn (ints x0.wait) (pr.idx 0 i0 1))),(.int .i64 1),(.int .i64 200)] (.bool (fun cf=>(.done (br (br cf false true) y2 (br (pr.lt 0 i0) (br (pr.bD (pr.ar .sub .i64 i0 1) x0.wait.length) (br (br (pr.cw .i64 (ints x0.wait) (pr.idx 0 (pr.ar .sub .i64 i0 1) 1)) true false) (br (pr.bD i0 x0.wait.length) (br y1 (br (pr.le (pr.bn (ints x0.wait) (pr.idx 0 i0 1)) (pr.bn (ints x0.wait) (pr.idx 0 (pr.ar .sub .i64 i0 1) 1))) y2 y3) none) none) none) none) y3)))))) none) none) (cv 102 [(.agg (cO (some true) x0.aM))] (.ty fk.mt (fun (ff:aI)=>(.int (fun qD=>(.bool (fun vh=>(.done (br vh (cv 103 [(.agg (cA true (bR none ff))),(.agg (bR (some true) x0.mt))] (.bool (fun Ux=>(.done (some ((.bool Ux),[.undef])))))) y2)))))))))):=by kernel_rfl
def il (x0:ae) (i0:Int):St:=(St.mk [(1,(.ptr 1 [] 0)),(3,(.int .i64 i0))] [(1,(U (some true) x0))] [] 0)
theorem IT:Told cfg Tryz.prog 101 Tryz.f101:=⟨by kernel_rfl,Tryz.func101,by kernel_rfl⟩
theorem IU (x0:ae):aQ pr cv J 101 Tryz.f101 [(.agg (U (some true) x0))]=
    let y1:Option (D × List D):=(some ((.bool false),[.undef]))
    (br (br (pr.eq (pr.aS x0.conn.length) 3) false true) y1 (br (br (pr.eq (pr.aS x0.sync.length) 3) false true) y1 (br (br (pr.eq (pr.aS x0.aK.length) 3) false true) y1 (J 0 (il x0 0))))):=by kernel_rfl
theorem Cs (x0:ae) (i0:Int):bJ pr cv J 101 Tryz.f101 [.undef] 0 (il x0 i0)=
    let y1:Bool:=(br (pr.bU 1 (rows (some true) x0.sync) (pr.idx 0 i0 1)) true false)
    let y2:Option (D × List D):=(some ((.bool false),[.undef]))
    let y3:Option Rz:=(J 0 (il x0 (pr.ar .add .i64 i0 1)))
    let y4:Option (D × List D):=(br (pr.bD i0 x0.conn.length) (br (br (pr.df (aD x0.conn) (pr.idx 0 i0 1)) true false) (br (pr.cg (aD x0.conn) (pr.idx 0 i0 1)) (br (br x0.up false true) y2 (br (pr.eq i0 x0.id) y2 y3)) y3) none) none)
    let y5:Option (D × List D):=(br (pr.bD i0 x0.aK.length) (br (br (pr.df (aD x0.aK) (pr.idx 0 i0 1)) true false) (br (pr.cg (aD x0.aK) (pr.idx 0 i0 1)) (br (pr.bD i0 x0.conn.length) (br (br (pr.df (aD x0.conn) (pr.idx 0 i0 1)) true false) (br (br (pr.cg (aD x0.conn) (pr.idx 0 i0 1)) false true) y2 y4) none) none) y4) none) none)
    (br (pr.lt i0 3) (br (pr.bD i0 x0.sync.length) (br y1 (cv 136 [(.sl (some (pr.bo (rows (some true) x0.sync) (pr.idx 0 i0 1))) 1 (pr.aR (rows (some true) x0.sync) (pr.idx 0 i0 1)) (pr.aV (rows (some true) x0.sync) (pr.idx 0 i0 1)))] (.bool (fun cf=>(.done (br (br cf false true) y2 (br (pr.bD i0 x0.sync.length) (br y1 (br (pr.lt 0 (pr.aS (pr.aR (rows (some true) x0.sync) (pr.idx 0 i0 1)))) (br (pr.bD i0 x0.aK.length) (br (br (pr.df (aD x0.aK) (pr.idx 0 i0 1)) true false) (br (br (pr.cg (aD x0.aK) (pr.idx 0 i0 1)) false true) y2 y5) none) none) y5) none) none)))))) none) none) (some ((.bool true),[.undef]))):=by kernel_rfl
end
@[go_sem] theorem aas (nV:Nat) (fX:List Int) (nW:Nat) (fY:List (List Int)) (gY:Bool) (gZ:Bool) (hC:Bool) (hD:Int) (e0:nV=fX.length) (e1:nW=fY.length) (q0:cJ (⟨fX,fY,gY,gZ,hC,hD⟩:aI)) (t:bG Rz):aO 111 [.agg [.sl (some true) 1 nV (ints fX),.sl (some true) 1 nW (rows (some true) fY),.bool gY,.bool gZ,.bool hC,.int .i64 hD]] t=feed t [.bool (gL (⟨fX,fY,gY,gZ,hC,hD⟩:aI))]:=by
  subst e0
  subst e1
  exact bO (r:=.bool (gL (⟨fX,fY,gY,gZ,hC,hD⟩:aI))) (s:=.bool) (ss:=[.undef]) (zf true (⟨fX,fY,gY,gZ,hC,hD⟩:aI) q0) (by kernel_rfl) (by simp only [av,bA,ba,bB,bC,ai,aj,Bool.and_self]) (by simp only [ai,aJ,av,aj,Bool.and_self]) (by first | rfl | simp only [au,aY,aX,bu,bw,aZ,bz,Bool.and_self]) (by first | rfl | simp only [List.all_cons,List.all_nil,au,Bool.and_self]) t
@[go_sem] theorem aat (nV:Nat) (fX:List Int) (nW:Nat) (fY:List (List Int)) (gY:Bool) (gZ:Bool) (hC:Bool) (hD:Int) (e0:nV=fX.length) (e1:nW=fY.length) (q0:cJ (⟨fX,fY,gY,gZ,hC,hD⟩:aI)) (t:bG Rz):aO 100 [.agg [.sl (some true) 1 nV (ints fX),.sl (some true) 1 nW (rows (some true) fY),.bool gY,.bool gZ,.bool hC,.int .i64 hD]] t=feed t [.bool (gL (⟨fX,fY,gY,gZ,hC,hD⟩:aI))]:=by
  subst e0
  subst e1
  exact bO (r:=.bool (gL (⟨fX,fY,gY,gZ,hC,hD⟩:aI))) (s:=.bool) (ss:=[.undef]) (ze true (⟨fX,fY,gY,gZ,hC,hD⟩:aI) q0) (by kernel_rfl) (by simp only [av,bA,ba,bB,bC,ai,aj,Bool.and_self]) (by simp only [ai,aJ,av,aj,Bool.and_self]) (by first | rfl | simp only [au,aY,aX,bu,bw,aZ,bz,Bool.and_self]) (by first | rfl | simp only [List.all_cons,List.all_nil,au,Bool.and_self]) t
@[go_sem] theorem YO (nV:Nat) (fX:List Int) (nW:Nat) (fY:List (List Int)) (gY:Bool) (gZ:Bool) (hC:Bool) (hD:Int) (OJ:Nat) (xS:List Int) (OK:Nat) (xT:List (List Int)) (Bn:Bool) (Bo:Bool) (Bp:Bool) (Bq:Int) (e0:nV=fX.length) (e1:nW=fY.length) (e2:OJ=xS.length) (e3:OK=xT.length) (q0:cJ (⟨fX,fY,gY,gZ,hC,hD⟩:aI)) (q1:cJ (⟨xS,xT,Bn,Bo,Bp,Bq⟩:aI)) (t:bG Rz):aO 114 [.agg [.sl (some true) 1 nV (ints fX),.sl (some true) 1 nW (rows (some true) fY),.bool gY,.bool gZ,.bool hC,.int .i64 hD],.agg [.sl (some true) 1 OJ (ints xS),.sl (some true) 1 OK (rows (some true) xT),.bool Bn,.bool Bo,.bool Bp,.int .i64 Bq]] t=feed t [.bool (lz (⟨fX,fY,gY,gZ,hC,hD⟩:aI) (⟨xS,xT,Bn,Bo,Bp,Bq⟩:aI))]:=by
  subst e0
  subst e1
  subst e2
  subst e3
  exact bO (r:=.bool (lz (⟨fX,fY,gY,gZ,hC,hD⟩:aI) (⟨xS,xT,Bn,Bo,Bp,Bq⟩:aI))) (s:=.bool) (ss:=[.undef,.undef]) (GK true true (⟨fX,fY,gY,gZ,hC,hD⟩:aI) (⟨xS,xT,Bn,Bo,Bp,Bq⟩:aI) q0 q1) (by kernel_rfl) (by simp only [av,bA,ba,bB,bC,ai,aj,Bool.and_self]) (by simp only [ai,aJ,av,aj,Bool.and_self]) (by first | rfl | simp only [au,aY,aX,bu,bw,aZ,bz,Bool.and_self]) (by first | rfl | simp only [List.all_cons,List.all_nil,au,Bool.and_self]) t
@[go_sem] theorem YP (nV:Nat) (fX:List Int) (nW:Nat) (fY:List (List Int)) (gY:Bool) (gZ:Bool) (hC:Bool) (hD:Int) (OJ:Nat) (xS:List Int) (OK:Nat) (xT:List (List Int)) (Bn:Bool) (Bo:Bool) (Bp:Bool) (Bq:Int) (e0:nV=fX.length) (e1:nW=fY.length) (e2:OJ=xS.length) (e3:OK=xT.length) (q0:cJ (⟨fX,fY,gY,gZ,hC,hD⟩:aI)) (q1:cJ (⟨xS,xT,Bn,Bo,Bp,Bq⟩:aI)) (t:bG Rz):aO 103 [.agg [.sl (some true) 1 nV (ints fX),.sl (some true) 1 nW (rows (some true) fY),.bool gY,.bool gZ,.bool hC,.int .i64 hD],.agg [.sl (some true) 1 OJ (ints xS),.sl (some true) 1 OK (rows (some true) xT),.bool Bn,.bool Bo,.bool Bp,.int .i64 Bq]] t=feed t [.bool (lz (⟨fX,fY,gY,gZ,hC,hD⟩:aI) (⟨xS,xT,Bn,Bo,Bp,Bq⟩:aI))]:=by
  subst e0
  subst e1
  subst e2
  subst e3
  exact bO (r:=.bool (lz (⟨fX,fY,gY,gZ,hC,hD⟩:aI) (⟨xS,xT,Bn,Bo,Bp,Bq⟩:aI))) (s:=.bool) (ss:=[.undef,.undef]) (GL true true (⟨fX,fY,gY,gZ,hC,hD⟩:aI) (⟨xS,xT,Bn,Bo,Bp,Bq⟩:aI) q0 q1) (by kernel_rfl) (by simp only [av,bA,ba,bB,bC,ai,aj,Bool.and_self]) (by simp only [ai,aJ,av,aj,Bool.and_self]) (by first | rfl | simp only [au,aY,aX,bu,bw,aZ,bz,Bool.and_self]) (by first | rfl | simp only [List.all_cons,List.all_nil,au,Bool.and_self]) t
@[go_sem] theorem Z4 (m0:Nat) (m:List Int) (e0:m0=m.length) (q0:m.length < 4611686018427387904) (t:bG Rz):aO 110 [.sl (some true) 1 m0 (ints m)] t=feed t [.bool (jV m)]:=by
  subst e0
  exact bO (r:=.bool (jV m)) (s:=.bool) (ss:=[.undef]) (ID true m q0) (by kernel_rfl) (by simp only [av,bA,ba,bB,bC,ai,aj,Bool.and_self]) (by simp only [ai,aJ,av,aj,Bool.and_self]) (by first | rfl | simp only [au,aY,aX,bu,bw,aZ,bz,Bool.and_self]) (by first | rfl | simp only [List.all_cons,List.all_nil,au,Bool.and_self]) t
@[go_sem] theorem Z5 (m0:Nat) (m:List Int) (e0:m0=m.length) (q0:m.length < 4611686018427387904) (t:bG Rz):aO 99 [.sl (some true) 1 m0 (ints m)] t=feed t [.bool (jV m)]:=by
  subst e0
  exact bO (r:=.bool (jV m)) (s:=.bool) (ss:=[.undef]) (IC true m q0) (by kernel_rfl) (by simp only [av,bA,ba,bB,bC,ai,aj,Bool.and_self]) (by simp only [ai,aJ,av,aj,Bool.and_self]) (by first | rfl | simp only [au,aY,aX,bu,bw,aZ,bz,Bool.and_self]) (by first | rfl | simp only [List.all_cons,List.all_nil,au,Bool.and_self]) t
@[go_sem] theorem Z6 (m0:Nat) (m:List Int) (e0:m0=m.length) (q0:m.length < 4611686018427387904) (t:bG Rz):aO 145 [.sl (some true) 1 m0 (ints m)] t=feed t [.bool (fM m)]:=by
  subst e0
  exact bO (r:=.bool (fM m)) (s:=.bool) (ss:=[.undef]) (xM true m q0) (by kernel_rfl) (by simp only [av,bA,ba,bB,bC,ai,aj,Bool.and_self]) (by simp only [ai,aJ,av,aj,Bool.and_self]) (by first | rfl | simp only [au,aY,aX,bu,bw,aZ,bz,Bool.and_self]) (by first | rfl | simp only [List.all_cons,List.all_nil,au,Bool.and_self]) t
@[go_sem] theorem Z7 (m0:Nat) (m:List Int) (e0:m0=m.length) (q0:m.length < 4611686018427387904) (t:bG Rz):aO 136 [.sl (some true) 1 m0 (ints m)] t=feed t [.bool (fM m)]:=by
  subst e0
  exact bO (r:=.bool (fM m)) (s:=.bool) (ss:=[.undef]) (xL true m q0) (by kernel_rfl) (by simp only [av,bA,ba,bB,bC,ai,aj,Bool.and_self]) (by simp only [ai,aJ,av,aj,Bool.and_self]) (by first | rfl | simp only [au,aY,aX,bu,bw,aZ,bz,Bool.and_self]) (by first | rfl | simp only [List.all_cons,List.all_nil,au,Bool.and_self]) t
@[go_sem] theorem aau (m0:Nat) (m:List Int) (e0:m0=m.length) (q0:m.length < 4611686018427387904) (t:bG Rz):aO 142 [.sl (some true) 1 m0 (ints m)] t=feed t [.bool (jx m)]:=by
  subst e0
  exact bO (r:=.bool (jx m)) (s:=.bool) (ss:=[.undef]) (zd true m q0) (by kernel_rfl) (by simp only [av,bA,ba,bB,bC,ai,aj,Bool.and_self]) (by simp only [ai,aJ,av,aj,Bool.and_self]) (by first | rfl | simp only [au,aY,aX,bu,bw,aZ,bz,Bool.and_self]) (by first | rfl | simp only [List.all_cons,List.all_nil,au,Bool.and_self]) t
@[go_sem] theorem aav (m0:Nat) (m:List Int) (e0:m0=m.length) (q0:m.length < 4611686018427387904) (t:bG Rz):aO 137 [.sl (some true) 1 m0 (ints m)] t=feed t [.bool (jx m)]:=by
  subst e0
  exact bO (r:=.bool (jx m)) (s:=.bool) (ss:=[.undef]) (zc true m q0) (by kernel_rfl) (by simp only [av,bA,ba,bB,bC,ai,aj,Bool.and_self]) (by simp only [ai,aJ,av,aj,Bool.and_self]) (by first | rfl | simp only [au,aY,aX,bu,bw,aZ,bz,Bool.and_self]) (by first | rfl | simp only [List.all_cons,List.all_nil,au,Bool.and_self]) t
@[go_sem] theorem YQ (m0:Nat) (m:List (List Int)) (e0:m0=m.length) (q0:ra m) (t:bG Rz):aO 112 [.sl (some true) 1 m0 (rows (some true) m)] t=feed t [.bool ((((m.length:Int)==3)&&gR m))]:=by
  subst e0
  exact bO (r:=.bool ((((m.length:Int)==3)&&gR m))) (s:=.bool) (ss:=[.undef]) (GJ true m q0) (by kernel_rfl) (by simp only [av,bA,ba,bB,bC,ai,aj,Bool.and_self]) (by simp only [ai,aJ,av,aj,Bool.and_self]) (by first | rfl | simp only [au,aY,aX,bu,bw,aZ,bz,Bool.and_self]) (by first | rfl | simp only [List.all_cons,List.all_nil,au,Bool.and_self]) t
@[go_sem] theorem aaw (a:Int) (t:bG Rz):aO 76 [.int .i64 a] t=feed t [.bool (decide (0≤a∧a≤2))]:=by
  exact bO (r:=.bool (decide (0≤a∧a≤2))) (s:=.bool) (ss:=[.undef]) (Xb a) (by kernel_rfl) (by simp only [av,bA,ba,bB,bC,ai,aj,Bool.and_self]) (by simp only [ai,aJ,av,aj,Bool.and_self]) (by first | rfl | simp only [au,aY,aX,bu,bw,aZ,bz,Bool.and_self]) (by first | rfl | simp only [List.all_cons,List.all_nil,au,Bool.and_self]) t
@[go_sem] theorem aax (a:Int) (t:bG Rz):aO 77 [.int .i64 a] t=feed t [.bool (decide (0≤a∧a≤7))]:=by
  exact bO (r:=.bool (decide (0≤a∧a≤7))) (s:=.bool) (ss:=[.undef]) (Ol a) (by kernel_rfl) (by simp only [av,bA,ba,bB,bC,ai,aj,Bool.and_self]) (by simp only [ai,aJ,av,aj,Bool.and_self]) (by first | rfl | simp only [au,aY,aX,bu,bw,aZ,bz,Bool.and_self]) (by first | rfl | simp only [List.all_cons,List.all_nil,au,Bool.and_self]) t
@[go_sem] theorem Z8 (a:Int) (t:bG Rz):aO 115 [.int .i64 a] t=feed t [.bool (decide (1≤a∧a≤200))]:=by
  exact bO (r:=.bool (decide (1≤a∧a≤200))) (s:=.bool) (ss:=[.undef]) (Va a) (by kernel_rfl) (by simp only [av,bA,ba,bB,bC,ai,aj,Bool.and_self]) (by simp only [ai,aJ,av,aj,Bool.and_self]) (by first | rfl | simp only [au,aY,aX,bu,bw,aZ,bz,Bool.and_self]) (by first | rfl | simp only [List.all_cons,List.all_nil,au,Bool.and_self]) t
@[go_sem] theorem adu (a:Int) (t:bG Rz):aO 149 [.int .i64 a] t=feed t [.int .i64 (ly a)]:=by
  exact bO (r:=.int .i64 (ly a)) (s:=.int .i64) (ss:=[.undef]) (Py a) (by kernel_rfl) (by simp only [av,bA,ba,bB,bC,ai,aj,Bool.and_self]) (by simp only [ai,aJ,av,aj,Bool.and_self]) (by first | rfl | simp only [au,aY,aX,bu,bw,aZ,bz,Bool.and_self]) (by first | rfl | simp only [List.all_cons,List.all_nil,au,Bool.and_self]) t
@[go_sem] theorem adv (a:Int) (t:bG Rz):aO 148 [.int .i64 a] t=feed t [.int .i64 (ly a)]:=by
  exact bO (r:=.int .i64 (ly a)) (s:=.int .i64) (ss:=[.undef]) (Pz a) (by kernel_rfl) (by simp only [av,bA,ba,bB,bC,ai,aj,Bool.and_self]) (by simp only [ai,aJ,av,aj,Bool.and_self]) (by first | rfl | simp only [au,aY,aX,bu,bw,aZ,bz,Bool.and_self]) (by first | rfl | simp only [List.all_cons,List.all_nil,au,Bool.and_self]) t
@[go_sem] theorem acM (m0:Nat) (m:List Int) (a:Int) (e0:m0=m.length) (q0:m.length < 4611686018427387904) (t:bG Rz):aO 84 [.sl (some true) 1 m0 (ints m),.int .i64 a] t=feed t [.bool (decide (a∈m))]:=by
  subst e0
  exact bO (r:=.bool (decide (a∈m))) (s:=.bool) (ss:=[.undef,.undef]) (QP true m a q0) (by kernel_rfl) (by simp only [av,bA,ba,bB,bC,ai,aj,Bool.and_self]) (by simp only [ai,aJ,av,aj,Bool.and_self]) (by first | rfl | simp only [au,aY,aX,bu,bw,aZ,bz,Bool.and_self]) (by first | rfl | simp only [List.all_cons,List.all_nil,au,Bool.and_self]) t
@[go_sem] theorem OL (m0:Nat) (m:List Int) (a:Int) (e0:m0=m.length) (q0:m.length < 4611686018427387904) (t:bG Rz):aO 86 [.sl (some true) 1 m0 (ints m),.int .i64 a] t=feed t [.bool (decide (a∈m))]:=by
  subst e0
  exact bO (r:=.bool (decide (a∈m))) (s:=.bool) (ss:=[.undef,.undef]) (Gz true m a q0) (by kernel_rfl) (by simp only [av,bA,ba,bB,bC,ai,aj,Bool.and_self]) (by simp only [ai,aJ,av,aj,Bool.and_self]) (by first | rfl | simp only [au,aY,aX,bu,bw,aZ,bz,Bool.and_self]) (by first | rfl | simp only [List.all_cons,List.all_nil,au,Bool.and_self]) t
@[go_sem] theorem aay (m0:Nat) (m:List Int) (k0:Nat) (k:List Int) (e0:m0=m.length) (e1:k0=k.length) (q0:m.length < 4611686018427387904) (q1:k.length < 4611686018427387904) (t:bG Rz):aO 90 [.sl (some true) 1 m0 (ints m),.sl (some true) 1 k0 (ints k)] t=feed t [.bool (decide (m=k))]:=by
  subst e0
  subst e1
  exact bO (r:=.bool (decide (m=k))) (s:=.bool) (ss:=[.undef,.undef]) (Oo true true m k q0 q1) (by kernel_rfl) (by simp only [av,bA,ba,bB,bC,ai,aj,Bool.and_self]) (by simp only [ai,aJ,av,aj,Bool.and_self]) (by first | rfl | simp only [au,aY,aX,bu,bw,aZ,bz,Bool.and_self]) (by first | rfl | simp only [List.all_cons,List.all_nil,au,Bool.and_self]) t
@[go_sem] theorem QW (m0:Nat) (m:List Int) (k0:Nat) (k:List Int) (e0:m0=m.length) (e1:k0=k.length) (q0:m.length < 4611686018427387904) (q1:k.length < 4611686018427387904) (t:bG Rz):aO 94 [.sl (some true) 1 m0 (ints m),.sl (some true) 1 k0 (ints k)] t=feed t [.bool (decide (m=k))]:=by
  subst e0
  subst e1
  exact bO (r:=.bool (decide (m=k))) (s:=.bool) (ss:=[.undef,.undef]) (QR true true m k q0 q1) (by kernel_rfl) (by simp only [av,bA,ba,bB,bC,ai,aj,Bool.and_self]) (by simp only [ai,aJ,av,aj,Bool.and_self]) (by first | rfl | simp only [au,aY,aX,bu,bw,aZ,bz,Bool.and_self]) (by first | rfl | simp only [List.all_cons,List.all_nil,au,Bool.and_self]) t
def qQ (n:ae) (k:Nat):Prop:=(n.conn.getD k false=true→n.up=true∧¬(k:Int)=n.id)∧(n.aK.getD k false=true→n.conn.getD k false=true)∧(0 < ((n.sync.getD k []).length:Int)→n.aK.getD k false=true)
def Sy (w:List Int) (i:Nat):Prop:=(1≤w.getD i 0∧w.getD i 0≤200)∧(0 < (i:Int)→¬w.getD i 0≤w.getD (i - 1) 0)
structure qR (n:ae):Prop where
  id:0≤n.id∧n.id≤2
  image:jV n.image=true
  mt:gL n.mt=true
  conn:(n.conn.length:Int)=3
  sync:(n.sync.length:Int)=3
  marks:∀ k,k < n.sync.length→fM (n.sync.getD k [])=true
  aK:(n.aK.length:Int)=3
  cE:n.cE=true→n.up=true∧¬n.id=2
  down:¬n.up=true→¬0 < (n.wait.length:Int)
  slot:(aP n.aM).2.2=true
  same:lz (aP n.aM).1 n.mt=true
  link:∀ k,k < 3→qQ n k
  wait:∀ i,i < n.wait.length→Sy n.wait i
open Classical in
noncomputable def dC (n:ae):Bool:=decide (qR n)
open Classical in
theorem Sz {n:ae} (h:qR n):dC n=true:=by unfold dC; exact decide_eq_true h
open Classical in
theorem iG {n:ae} (h:dC n=true):qR n:=by unfold dC at h; exact of_decide_eq_true h
open Classical in
theorem dO {n:ae} (h:¬qR n):(some ((.bool false,[.undef]):Rz))=some (.bool (dC n),[.undef]):=by unfold dC; rw [decide_eq_false h]
theorem Kc {n:ae} (h:qR n):(some ((.bool true,[.undef]):Rz))=some (.bool (dC n),[.undef]):=by rw [Sz h]
theorem OM {xss:List (List Int)} (h:gR xss=true):∀ k,k < xss.length→fM (xss.getD k [])=true:=fun k hk=>by
  unfold gR at h
  exact List.all_eq_true.1 h k (List.mem_range.2 hk)
theorem PH {xss:List (List Int)} (h:∀ k,k < xss.length→fM (xss.getD k [])=true):gR xss=true:=by
  unfold gR
  exact List.all_eq_true.2 fun k hk=>h k (List.mem_range.1 hk)
theorem uq {xss:List (List Int)} (h:ra xss) (k:Nat):(xss.getD k []).length≤1048576:=by
  by_cases hk:k < xss.length
  · rw [bQ hk]
    exact h.2 _ (List.getElem_mem hk)
  · rw [List.getD_eq_getElem?_getD,List.getElem?_eq_none (Nat.not_lt.1 hk)]
    simp
theorem acN {R:Type} {p u b2 b3:Bool} {T F r:R} (hT:(p=true→u=true∧b2=false)→(u=false→b3=false)→T=r) (hF:((p=true→u=true∧b2=false)→(u=false→b3=false)→False)→F=r):br p (br (br u false true) F (br b2 F (br (br u false true) (br b3 F T) T))) (br (br u false true) (br b3 F T) T)=r:=by
  cases p<;>cases u<;>cases b2<;>cases b3<;>simp only [br]<;>first | exact hT (by simp) (by simp) | exact hF (by simp)
theorem zA (n:ae) (q0:bS n):Cm 48 [.agg (U (some true) n)] (.bool (dC n),[.undef]):=by
  have ok:=q0
  have s1:=ok.image
  have s2:=ok.conn
  have s3:=ok.aK
  have s4:=ok.wait
  have s5:=ok.sync.1
  have s6:=ok.mt
  have s7:=ok.sync
  have s8:=q0.aM
  have s9:=GZ n.aM
  refine Cm.step Lz [.undef] fun J hJ=>?_
  rw [LA]
  simp (disch:=first | assumption | omega) only [go_sem]
  refine bM (fun h1=>?_) (fun h=>dO fun o=>h o.id)
  simp (disch:=first | assumption | omega) only [go_sem]
  refine nU (fun h2=>?_) (fun h=>dO fun o=>h o.image)
  simp (disch:=first | assumption | omega) only [go_sem]
  refine nU (fun h3=>?_) (fun h=>dO fun o=>h o.mt)
  simp (disch:=first | assumption | omega) only [go_sem]
  refine bM (fun h4=>?_) (fun h=>dO fun o=>h o.conn)
  simp (disch:=first | assumption | omega) only [go_sem]
  refine nU (fun h5=>?_) (fun h=>dO fun o=>h (by simp only [o.sync,PH o.marks,Bool.and_true]; rfl))
  simp only [Bool.and_eq_true,beq_iff_eq] at h5
  simp (disch:=first | assumption | omega) only [go_sem]
  refine bM (fun h6=>?_) (fun h=>dO fun o=>h o.aK)
  refine acN (fun h7 h8=>?_) (fun h=>dO fun o=>h (fun hp=>⟨(o.cE hp).1,decide_eq_false (o.cE hp).2⟩) fun hu=>decide_eq_false (o.down (by rw [hu]; simp)))
  have h7:n.cE=true→n.up=true∧¬n.id=2:=fun hp=>⟨(h7 hp).1,of_decide_eq_false (h7 hp).2⟩
  have h8:¬n.up=true→¬0 < (n.wait.length:Int):=fun hu=>of_decide_eq_false (h8 (by simpa using hu))
  simp (disch:=first | assumption | omega) only [go_sem]
  refine nU (fun h9=>?_) (fun h=>dO fun o=>h o.slot)
  simp (disch:=first | assumption | omega) only [go_sem]
  refine nU (fun mG=>?_) (fun h=>dO fun o=>h o.same)
  have aet:(∀ k,k < 3→qQ n k)→WP 48 Tryz.f48 [.undef] 2 (iM n n.wait.length 0) (.bool (dC n),[.undef]):=by
    intro Mn
    refine WP.up (H:=fun i=>iM n n.wait.length i) n.wait.length (fun i=>∀ k,k < i→Sy n.wait k) (fun i hi inv J _ next=>?_) 0 (Nat.zero_le _) (fun k hk=>absurd hk (by omega))
    rw [Ei]
    simp (disch:=first | assumption | omega) only [go_sem]
    refine bM (fun cT=>?_) (fun qg=>Kc ⟨h1,h2,h3,h4,h5.1,OM h5.2,h6,h7,h8,h9,mG,Mn,fun k hk=>inv k (by omega)⟩)
    simp (disch:=first | assumption | omega) only [go_sem]
    refine bM (fun ha=>?_) (fun h=>dO fun o=>h (o.wait i (by omega)).1)
    have go:(0 < (i:Int)→¬n.wait.getD i 0≤n.wait.getD (i - 1) 0)→J 2 (iM n n.wait.length ((i:Int)+1))=some (.bool (dC n),[.undef]):=fun hb=>next (by omega) fun k hk=>by
      by_cases e:k=i
      · subst e; exact ⟨ha,hb⟩
      · exact inv k (by omega)
    refine bM (fun qe=>?_) (fun hz=>?_)
    · simp (disch:=first | assumption | omega) only [go_sem]
      have e1:((i:Int) - 1).toNat=i - 1:=by omega
      simp (disch:=first | assumption | omega) only [go_sem,e1]
      exact bM (fun h=>dO fun o=>(o.wait i (by omega)).2 qe h) (fun h=>go fun _=>h)
    · simp (disch:=first | assumption | omega) only [go_sem]
      exact go fun h=>absurd h hz
  refine hJ _ _ ?_
  refine WP.up (H:=fun i=>iL n i) 3 (fun i=>∀ k,k < i→qQ n k) (fun i hi inv J hJ next=>?_) 0 (Nat.zero_le _) (fun k hk=>absurd hk (by omega))
  rw [Eh]
  dsimp only
  simp (disch:=first | assumption | omega) only [go_sem]
  refine bM (fun cT=>?_) (fun qg=>hJ _ _ (aet fun k hk=>inv k (by omega)))
  have YR:i < 3:=by omega
  have go:qQ n i→J 0 (iL n ((i:Int)+1))=some (.bool (dC n),[.undef]):=fun hb=>next (by omega) fun k hk=>by
      by_cases e:k=i
      · subst e; exact hb
      · exact inv k (by omega)
  have no:¬qQ n i→(some ((.bool false,[.undef]):Rz))=some (.bool (dC n),[.undef]):=fun h=>dO fun o=>h (o.link i YR)
  have eJ:ad.ar .add .i64 (i:Int) 1=(i:Int)+1:=YN (by omega) (by omega)
  rw [eJ]
  generalize J 0 (iL n ((i:Int)+1))=z at go ⊢
  unfold qQ at go no
  cases hc:n.conn.getD i false<;>cases hk:n.aK.getD i false<;>cases hu:n.up<;>by_cases hs:0 < ((n.sync.getD i []).length:Int)<;>by_cases UN:(i:Int)=n.id<;>simp only [hc,hk,hu,hs,UN,not_true_eq_false,not_false_eq_true,false_and,and_false,and_true,true_and,forall_const,Bool.false_eq_true,false_implies,imp_self,true_implies,and_self] at go no<;>simp (disch:=first | assumption | omega) only [go_sem,hc,hk,hu]<;>first | exact no | exact go
@[go_sem] theorem aaz (te:Int) (tf:Bool) (tg:Bool) (wh:Nat) (lZ:List Int) (th:Nat) (iN:List Int) (tj:Nat) (iO:List (List Int)) (kU:Bool) (kV:Bool) (kW:Bool) (kX:Int) (tk:Nat) (iP:List UInt8) (tl:Nat) (iQ:List UInt8) (Br:Nat) (pU:List Bool) (Bs:Nat) (pV:List (List Int)) (Bt:Nat) (pW:List Bool) (Bu:Nat) (pX:List Int) (e0:wh=lZ.length) (e1:th=iN.length) (e2:tj=iO.length) (e3:tk=iP.length) (e4:tl=iQ.length) (e5:Br=pU.length) (e6:Bs=pV.length) (e7:Bt=pW.length) (e8:Bu=pX.length) (q0:bS (⟨te,tf,tg,lZ,(⟨iN,iO,kU,kV,kW,kX⟩:aI),(⟨iP,iQ⟩:aG),pU,pV,pW,pX⟩:ae)) (t:bG Rz):aO 48 [.agg [.int .i64 te,.bool tf,.bool tg,.sl (some true) 1 wh (ints lZ),.sl (some true) 1 th (ints iN),.sl (some true) 1 tj (rows (some true) iO),.bool kU,.bool kV,.bool kW,.int .i64 kX,.sl (some true) 1 tk (bytes iP),.sl (some true) 1 tl (bytes iQ),.sl (some true) 1 Br (aD pU),.sl (some true) 1 Bs (rows (some true) pV),.sl (some true) 1 Bt (aD pW),.sl (some true) 1 Bu (ints pX)]] t=feed t [.bool (dC (⟨te,tf,tg,lZ,(⟨iN,iO,kU,kV,kW,kX⟩:aI),(⟨iP,iQ⟩:aG),pU,pV,pW,pX⟩:ae))]:=by
  subst e0
  subst e1
  subst e2
  subst e3
  subst e4
  subst e5
  subst e6
  subst e7
  subst e8
  exact bO (r:=.bool (dC (⟨te,tf,tg,lZ,(⟨iN,iO,kU,kV,kW,kX⟩:aI),(⟨iP,iQ⟩:aG),pU,pV,pW,pX⟩:ae))) (s:=.bool) (ss:=[.undef]) (zA (⟨te,tf,tg,lZ,(⟨iN,iO,kU,kV,kW,kX⟩:aI),(⟨iP,iQ⟩:aG),pU,pV,pW,pX⟩:ae) q0) (by kernel_rfl) (by simp only [av,bA,ba,bB,bC,ai,aj,Bool.and_self]) (by simp only [ai,aJ,av,aj,Bool.and_self]) (by first | rfl | simp only [au,aY,aX,bu,bw,aZ,bz,Bool.and_self]) (by first | rfl | simp only [List.all_cons,List.all_nil,au,Bool.and_self]) t
end Go.Proofs.YtockoilcnmljiaaGreat
namespace Go.Proofs.YtockoilcnmljiaaGreat
set_option maxRecDepth 100000
section
variable (pr:dT) (cv:Cv Rz) (J:Nat→St→Option Rz)
end
structure Ck (n:ae):Prop where
  conn:(n.conn.length:Int)=3
  sync:(n.sync.length:Int)=3
  aK:(n.aK.length:Int)=3
  link:∀ k,k < 3→fM (n.sync.getD k [])=true∧qQ n k
open Classical in
noncomputable def nX (n:ae):Bool:=decide (Ck n)
open Classical in
theorem Xi {n:ae} (h:nX n=true):Ck n:=by unfold nX at h; exact of_decide_eq_true h
open Classical in
theorem Kd {n:ae} (h:Ck n):nX n=true:=by unfold nX; exact decide_eq_true h
open Classical in
theorem vH {n:ae} (h:¬Ck n):(some ((.bool false,[.undef]):Rz))=some (.bool (nX n),[.undef]):=by unfold nX; rw [decide_eq_false h]
theorem IV (n:ae) (q0:bS n):Cm 101 [.agg (U (some true) n)] (.bool (nX n),[.undef]):=by
  have ok:=q0
  have s5:=ok.sync.1
  have s7:=ok.sync
  refine Cm.step IT [.undef] fun J hJ=>?_
  rw [IU]
  simp (disch:=first | assumption | omega) only [go_sem]
  refine bM (fun h1=>?_) (fun h=>vH fun o=>h o.conn)
  simp (disch:=first | assumption | omega) only [go_sem]
  refine bM (fun h2=>?_) (fun h=>vH fun o=>h o.sync)
  simp (disch:=first | assumption | omega) only [go_sem]
  refine bM (fun h3=>?_) (fun h=>vH fun o=>h o.aK)
  refine hJ _ _ ?_
  refine WP.up (H:=fun i=>il n i) 3 (fun i=>∀ k,k < i→fM (n.sync.getD k [])=true∧qQ n k) (fun i hi inv J hJ next=>?_) 0 (Nat.zero_le _) (fun k hk=>absurd hk (by omega))
  rw [Cs]
  dsimp only
  simp (disch:=first | assumption | omega) only [go_sem]
  refine bM (fun cT=>?_) (fun qg=>by rw [Kd ⟨h1,h2,h3,fun k hk=>inv k (by omega)⟩])
  have YR:i < 3:=by omega
  have s8:=uq s7 i
  simp (disch:=first | assumption | omega) only [go_sem]
  refine nU (fun hm=>?_) (fun h=>vH fun o=>h (o.link i YR).1)
  have go:qQ n i→J 0 (il n ((i:Int)+1))=some (.bool (nX n),[.undef]):=fun hb=>next (by omega) fun k hk=>by
      by_cases e:k=i
      · subst e; exact ⟨hm,hb⟩
      · exact inv k (by omega)
  have no:¬qQ n i→(some ((.bool false,[.undef]):Rz))=some (.bool (nX n),[.undef]):=fun h=>vH fun o=>h (o.link i YR).2
  have eJ:ad.ar .add .i64 (i:Int) 1=(i:Int)+1:=YN (by omega) (by omega)
  rw [eJ]
  generalize J 0 (il n ((i:Int)+1))=z at go ⊢
  unfold qQ at go no
  cases hc:n.conn.getD i false<;>cases hk:n.aK.getD i false<;>cases hu:n.up<;>by_cases hs:0 < ((n.sync.getD i []).length:Int)<;>by_cases UN:(i:Int)=n.id<;>simp only [hc,hk,hu,hs,UN,not_true_eq_false,not_false_eq_true,false_and,and_false,and_true,true_and,forall_const,Bool.false_eq_true,false_implies,imp_self,true_implies,and_self] at go no<;>simp (disch:=first | assumption | omega) only [go_sem,hc,hk,hu]<;>first | exact no | exact go
@[go_sem] theorem Z9 (te:Int) (tf:Bool) (tg:Bool) (wh:Nat) (lZ:List Int) (th:Nat) (iN:List Int) (tj:Nat) (iO:List (List Int)) (kU:Bool) (kV:Bool) (kW:Bool) (kX:Int) (tk:Nat) (iP:List UInt8) (tl:Nat) (iQ:List UInt8) (Br:Nat) (pU:List Bool) (Bs:Nat) (pV:List (List Int)) (Bt:Nat) (pW:List Bool) (Bu:Nat) (pX:List Int) (e0:wh=lZ.length) (e1:th=iN.length) (e2:tj=iO.length) (e3:tk=iP.length) (e4:tl=iQ.length) (e5:Br=pU.length) (e6:Bs=pV.length) (e7:Bt=pW.length) (e8:Bu=pX.length) (q0:bS (⟨te,tf,tg,lZ,(⟨iN,iO,kU,kV,kW,kX⟩:aI),(⟨iP,iQ⟩:aG),pU,pV,pW,pX⟩:ae)) (t:bG Rz):aO 101 [.agg [.int .i64 te,.bool tf,.bool tg,.sl (some true) 1 wh (ints lZ),.sl (some true) 1 th (ints iN),.sl (some true) 1 tj (rows (some true) iO),.bool kU,.bool kV,.bool kW,.int .i64 kX,.sl (some true) 1 tk (bytes iP),.sl (some true) 1 tl (bytes iQ),.sl (some true) 1 Br (aD pU),.sl (some true) 1 Bs (rows (some true) pV),.sl (some true) 1 Bt (aD pW),.sl (some true) 1 Bu (ints pX)]] t=feed t [.bool (nX (⟨te,tf,tg,lZ,(⟨iN,iO,kU,kV,kW,kX⟩:aI),(⟨iP,iQ⟩:aG),pU,pV,pW,pX⟩:ae))]:=by
  subst e0
  subst e1
  subst e2
  subst e3
  subst e4
  subst e5
  subst e6
  subst e7
  subst e8
  exact bO (r:=.bool (nX (⟨te,tf,tg,lZ,(⟨iN,iO,kU,kV,kW,kX⟩:aI),(⟨iP,iQ⟩:aG),pU,pV,pW,pX⟩:ae))) (s:=.bool) (ss:=[.undef]) (IV (⟨te,tf,tg,lZ,(⟨iN,iO,kU,kV,kW,kX⟩:aI),(⟨iP,iQ⟩:aG),pU,pV,pW,pX⟩:ae) q0) (by kernel_rfl) (by simp only [av,bA,ba,bB,bC,ai,aj,Bool.and_self]) (by simp only [ai,aJ,av,aj,Bool.and_self]) (by first | rfl | simp only [au,aY,aX,bu,bw,aZ,bz,Bool.and_self]) (by first | rfl | simp only [List.all_cons,List.all_nil,au,Bool.and_self]) t
theorem zB (n:ae) (q0:bS n):Cm 41 [.agg (U (some true) n)] (.bool (dC n),[.undef]):=by
  have ok:=q0
  have s1:=ok.image
  have s2:=ok.conn
  have s3:=ok.aK
  have s4:=ok.wait
  have s5:=ok.sync.1
  have s6:=ok.mt
  have s7:=ok.sync
  have s8:=q0.aM
  have s9:=GZ n.aM
  refine Cm.step LB [.undef] fun J hJ=>?_
  rw [LC]
  simp (disch:=first | assumption | omega) only [go_sem]
  refine bM (fun h1=>?_) (fun h=>dO fun o=>h o.id)
  simp (disch:=first | assumption | omega) only [go_sem]
  refine nU (fun h2=>?_) (fun h=>dO fun o=>h o.image)
  simp (disch:=first | assumption | omega) only [go_sem]
  refine nU (fun h3=>?_) (fun h=>dO fun o=>h o.mt)
  simp (disch:=first | assumption | omega) only [go_sem]
  refine nU (fun h4=>?_) (fun h=>dO fun o=>h (Kd ⟨o.conn,o.sync,o.aK,fun k hk=>⟨o.marks k (by have:=o.sync; omega),o.link k hk⟩⟩))
  have h4:=Xi h4
  have h5:=h4.sync
  refine acN (fun h7 h8=>?_) (fun h=>dO fun o=>h (fun hp=>⟨(o.cE hp).1,decide_eq_false (o.cE hp).2⟩) fun hu=>decide_eq_false (o.down (by rw [hu]; simp)))
  have h7:n.cE=true→n.up=true∧¬n.id=2:=fun hp=>⟨(h7 hp).1,of_decide_eq_false (h7 hp).2⟩
  have h8:¬n.up=true→¬0 < (n.wait.length:Int):=fun hu=>of_decide_eq_false (h8 (by simpa using hu))
  refine hJ _ _ ?_
  refine WP.up (H:=fun i=>kT n i) n.wait.length (fun i=>∀ k,k < i→Sy n.wait k) (fun i hi inv J _ next=>?_) 0 (Nat.zero_le _) (fun k hk=>absurd hk (by omega))
  rw [Ej]
  simp (disch:=first | assumption | omega) only [go_sem]
  refine bM (fun cT=>?_) (fun qg=>?_)
  · simp (disch:=first | assumption | omega) only [go_sem]
    refine bM (fun ha=>?_) (fun h=>dO fun o=>h (o.wait i (by omega)).1)
    simp (disch:=first | assumption | omega) only [go_sem]
    have go:(0 < (i:Int)→¬n.wait.getD i 0≤n.wait.getD (i - 1) 0)→J 0 (kT n ((i:Int)+1))=some (.bool (dC n),[.undef]):=fun hb=>next (by omega) fun k hk=>by
      by_cases e:k=i
      · subst e; exact ⟨ha,hb⟩
      · exact inv k (by omega)
    refine bM (fun qe=>?_) (fun hz=>?_)
    · have e1:((i:Int) - 1).toNat=i - 1:=by omega
      simp (disch:=first | assumption | omega) only [go_sem,e1]
      exact bM (fun h=>dO fun o=>(o.wait i (by omega)).2 qe h) (fun h=>go fun _=>h)
    · exact go fun h=>absurd h hz
  · have yes:(aP n.aM).2.2=true→lz (aP n.aM).1 n.mt=true→qR n:=fun a b=>⟨h1,h2,h3,h4.conn,h4.sync,fun k hk=>(h4.link k (by omega)).1,h4.aK,h7,h8,a,b,fun k hk=>(h4.link k hk).2,fun k hk=>inv k (by omega)⟩
    simp (disch:=first | assumption | omega) only [go_sem]
    refine nU (fun h9=>?_) (fun h=>dO fun o=>h o.slot)
    simp (disch:=first | assumption | omega) only [go_sem]
    cases mG:lz (aP n.aM).1 n.mt with
    | true=>exact Kc (yes h9 mG)
    | false=>exact dO fun o=>by have:=o.same; rw [mG] at this; simp at this
@[go_sem] theorem aaA (te:Int) (tf:Bool) (tg:Bool) (wh:Nat) (lZ:List Int) (th:Nat) (iN:List Int) (tj:Nat) (iO:List (List Int)) (kU:Bool) (kV:Bool) (kW:Bool) (kX:Int) (tk:Nat) (iP:List UInt8) (tl:Nat) (iQ:List UInt8) (Br:Nat) (pU:List Bool) (Bs:Nat) (pV:List (List Int)) (Bt:Nat) (pW:List Bool) (Bu:Nat) (pX:List Int) (e0:wh=lZ.length) (e1:th=iN.length) (e2:tj=iO.length) (e3:tk=iP.length) (e4:tl=iQ.length) (e5:Br=pU.length) (e6:Bs=pV.length) (e7:Bt=pW.length) (e8:Bu=pX.length) (q0:bS (⟨te,tf,tg,lZ,(⟨iN,iO,kU,kV,kW,kX⟩:aI),(⟨iP,iQ⟩:aG),pU,pV,pW,pX⟩:ae)) (t:bG Rz):aO 41 [.agg [.int .i64 te,.bool tf,.bool tg,.sl (some true) 1 wh (ints lZ),.sl (some true) 1 th (ints iN),.sl (some true) 1 tj (rows (some true) iO),.bool kU,.bool kV,.bool kW,.int .i64 kX,.sl (some true) 1 tk (bytes iP),.sl (some true) 1 tl (bytes iQ),.sl (some true) 1 Br (aD pU),.sl (some true) 1 Bs (rows (some true) pV),.sl (some true) 1 Bt (aD pW),.sl (some true) 1 Bu (ints pX)]] t=feed t [.bool (dC (⟨te,tf,tg,lZ,(⟨iN,iO,kU,kV,kW,kX⟩:aI),(⟨iP,iQ⟩:aG),pU,pV,pW,pX⟩:ae))]:=by
  subst e0
  subst e1
  subst e2
  subst e3
  subst e4
  subst e5
  subst e6
  subst e7
  subst e8
  exact bO (r:=.bool (dC (⟨te,tf,tg,lZ,(⟨iN,iO,kU,kV,kW,kX⟩:aI),(⟨iP,iQ⟩:aG),pU,pV,pW,pX⟩:ae))) (s:=.bool) (ss:=[.undef]) (zB (⟨te,tf,tg,lZ,(⟨iN,iO,kU,kV,kW,kX⟩:aI),(⟨iP,iQ⟩:aG),pU,pV,pW,pX⟩:ae) q0) (by kernel_rfl) (by simp only [av,bA,ba,bB,bC,ai,aj,Bool.and_self]) (by simp only [ai,aJ,av,aj,Bool.and_self]) (by first | rfl | simp only [au,aY,aX,bu,bw,aZ,bz,Bool.and_self]) (by first | rfl | simp only [List.all_cons,List.all_nil,au,Bool.and_self]) t
theorem ahF {n:ae} (h:qR n) (hp:n.cE=true):0≤ly n.id∧ly n.id≤1:=by
  have h1:=h.id
  have h2:=(h.cE hp).2
  unfold ly
  split<;>omega
noncomputable def afu (n:ae):Bool:=dC n&&(n.cE&&(n.conn.getD (ly n.id).toNat false||n.mt.held))
end Go.Proofs.YtockoilcnmljiaaGreat
namespace Go.Proofs.YtockoilcnmljiaaGreat
set_option maxRecDepth 100000
section
variable {a b:Bool} {o:List D} {X:Option Rz}
theorem oL (h:a=true→X=some (.bool b,o)):br a X (some (.bool false,o))=some (.bool (a&&b),o):=by cases a with | true=>exact h rfl | false=>rfl
theorem vI (h:a=false→X=some (.bool b,o)):br a (some (.bool false,o)) X=some (.bool (!a&&b),o):=by cases a with | true=>rfl | false=>exact h rfl
theorem acO (h:a=false→X=some (.bool b,o)):br a (some (.bool true,o)) X=some (.bool (a||b),o):=by cases a with | true=>rfl | false=>exact h rfl
end
def sc (g:Option Bool) (x:aI):List D:=bR g x
@[go_sem] theorem ahG (g:Option Bool) (Vi:Nat) (xa:List Int) (Ke:Nat) (xb:List (List Int)) (xf:Bool) (xo:Bool) (xh:Bool) (xl:Int) (xa1:Vi=xa.length) (Vj:Ke=xb.length):D.agg [.sl g 1 Vi (ints xa),.sl g 1 Ke (rows g xb),.bool xf,.bool xo,.bool xh,.int .i64 xl]=.agg (sc g ⟨xa,xb,xf,xo,xh,xl⟩):=by
  subst xa1
  subst Vj
  rfl
@[go_sem] theorem ahH (x:aI):cA true (sc none x)=sc (some true) x:=by
  unfold sc
  first | rfl | simp only [go_sem,iw,cA,gQ,iD,iv,kE]
def mR (g:Option Bool) (x:aG):List D:=cO g x
@[go_sem] theorem agJ (g:Option Bool) (Vi:Nat) (xa:List UInt8) (Ke:Nat) (xb:List UInt8) (xa1:Vi=xa.length) (Vj:Ke=xb.length):D.agg [.sl g 1 Vi (bytes xa),.sl g 1 Ke (bytes xb)]=.agg (mR g ⟨xa,xb⟩):=by
  subst xa1
  subst Vj
  rfl
@[go_sem] theorem agK (x:aG):cA true (mR none x)=mR (some true) x:=by
  unfold mR
  first | rfl | simp only [go_sem,iw,cA,gQ,iD,iv,kE]
def fq (g:Option Bool) (x:ae):List D:=U g x
@[go_sem] theorem ahI (g:Option Bool) (xi:Int) (xu:Bool) (xp:Bool) (acQ:Nat) (xim:List Int) (acS:Nat) (xma:List Int) (acU:Nat) (xmb:List (List Int)) (xmf:Bool) (xmo:Bool) (xmh:Bool) (xml:Int) (acW:Nat) (xsa:List UInt8) (acY:Nat) (xsb:List UInt8) (xc0:Nat) (xc:List Bool) (xy0:Nat) (xy:List (List Int)) (xk0:Nat) (xk:List Bool) (Kf:Nat) (xw:List Int) (agL:acQ=xim.length) (agM:acS=xma.length) (agN:acU=xmb.length) (agO:acW=xsa.length) (agP:acY=xsb.length) (xc1:xc0=xc.length) (xy1:xy0=xy.length) (xk1:xk0=xk.length) (Vk:Kf=xw.length):D.agg [.int .i64 xi,.bool xu,.bool xp,.sl g 1 acQ (ints xim),.sl g 1 acS (ints xma),.sl g 1 acU (rows g xmb),.bool xmf,.bool xmo,.bool xmh,.int .i64 xml,.sl g 1 acW (bytes xsa),.sl g 1 acY (bytes xsb),.sl g 1 xc0 (aD xc),.sl g 1 xy0 (rows g xy),.sl g 1 xk0 (aD xk),.sl g 1 Kf (ints xw)]=.agg (fq g ⟨xi,xu,xp,xim,⟨xma,xmb,xmf,xmo,xmh,xml⟩,⟨xsa,xsb⟩,xc,xy,xk,xw⟩):=by
  subst agL
  subst agM
  subst agN
  subst agO
  subst agP
  subst xc1
  subst xy1
  subst xk1
  subst Vk
  rfl
@[go_sem] theorem ahJ (x:ae):cA true (fq none x)=fq (some true) x:=by
  unfold fq
  first | rfl | simp only [go_sem,iw,cA,gQ,iD,iv,kE]
def aeu (g:Option Bool) (x:dn):List D:=bp g x
@[go_sem] theorem ahK (g:Option Bool) (xf:Int) (xt:Int) (Ke:Nat) (xb:List UInt8) (Vj:Ke=xb.length):D.agg [.int .i64 xf,.int .i64 xt,.sl g 1 Ke (bytes xb)]=.agg (aeu g ⟨xf,xt,xb⟩):=by
  subst Vj
  rfl
def mS (g:Option Bool) (x:aW):List D:=eM g x
@[go_sem] theorem agQ (g:Option Bool) (Vl:Nat) (xn:List ae) (Kf:Nat) (xw:List dn) (Vm:Nat) (xl:List ik) (Vn:Nat) (xs:List Int) (xg:Int) (xn1:Vl=xn.length) (Vk:Kf=xw.length) (xl1:Vm=xl.length) (xs1:Vn=xs.length):D.agg [.sl g 16 Vl (ab (U g) xn),.sl g 3 Kf (ab (bp g) xw),.sl g 2 Vm (ab (cP g) xl),.sl g 1 Vn (ints xs),.int .i64 xg]=.agg (mS g ⟨xn,xw,xl,xs,xg⟩):=by
  subst xn1
  subst Vk
  subst xl1
  subst xs1
  rfl
@[go_sem] theorem agR (g:Option Bool) (Vl:Nat) (xn:List ae) (Kf:Nat) (xw:List dn) (Vm:Nat) (xl:List ik) (Vn:Nat) (xs:List Int) (xg:Int) (xn1:Vl=xn.length) (Vk:Kf=xw.length) (xl1:Vm=xl.length) (xs1:Vn=xs.length):D.bf [.sl g 16 Vl (ab (U g) xn),.sl g 3 Kf (ab (bp g) xw),.sl g 2 Vm (ab (cP g) xl),.sl g 1 Vn (ints xs),.int .i64 xg]=.bf (mS g ⟨xn,xw,xl,xs,xg⟩):=by
  subst xn1
  subst Vk
  subst xl1
  subst xs1
  rfl
def agS (g:Option Bool) (x:u9):List D:=HF g x
@[go_sem] theorem ajy (g:Option Bool) (xk:Int) (xc:Int) (xv:Int) (xw:Int) (xg0:Nat) (xg:List Int) (xg1:xg0=xg.length):D.agg [.int .i64 xk,.int .i64 xc,.int .i64 xv,.int .i64 xw,.sl g 1 xg0 (ints xg)]=.agg (agS g ⟨xk,xc,xv,xw,xg⟩):=by
  subst xg1
  rfl
def aev (g:Option Bool) (x:yy):List D:=B8 g x
@[go_sem] theorem ahL (g:Option Bool) (xf:Int) (xt:Int) (xmk:Int) (xmc:Int) (xmv:Int) (xmw:Int) (ac3:Nat) (xmg:List Int) (agT:ac3=xmg.length):D.agg [.int .i64 xf,.int .i64 xt,.int .i64 xmk,.int .i64 xmc,.int .i64 xmv,.int .i64 xmw,.sl g 1 ac3 (ints xmg)]=.agg (aev g ⟨xf,xt,⟨xmk,xmc,xmv,xmw,xmg⟩⟩):=by
  subst agT
  rfl
def L6 (g:Option Bool) (x:qw):List D:=B9 g x
@[go_sem] theorem ahM (g:Option Bool) (xk:Int) (xa:Int) (xb:Int):D.agg [.int .i64 xk,.int .i64 xa,.int .i64 xb]=.agg (L6 g ⟨xk,xa,xb⟩):=by
  rfl
@[go_sem] theorem ahN (x:qw):cA true (L6 none x)=L6 (some true) x:=by
  unfold L6
  first | rfl | simp only [go_sem,iw,cA,gQ,iD,iv,kE]
section
variable (t:bG Rz)
@[go_sem] theorem agU (g:Bool) (n:ae) (h:bS n):aO 13 [.agg (fq (some g) n)] t=feed t [enc .node n]:=N8 t g n h
@[go_sem] theorem agV (g h:Bool) (n:ae) (ok:bS n):aO 15 [.agg (fq (some g) n),.agg (fq (some h) n)] t=feed t [.bool true]:=N9 t g h n ok
@[go_sem] theorem agW (g:Bool) (n:ae) (left:Int) (h0:0≤left) (h1:left≤1048576) (ln:ta n):aO 11 [.agg (fq (some g) n),.int .i64 left] t=feed t [.int .i64 (ew n left)]:=DY t g n left h0 h1 ln
@[go_sem] theorem afH (g:Bool) (w:aW) (h:fp w):aO 22 [.agg (mS (some g) w)] t=feed t [enc .world w]:=U6 t g w h
@[go_sem] theorem afI (g h:Bool) (w:aW) (ok:fp w):aO 24 [.agg (mS (some g) w),.agg (mS (some h) w)] t=feed t [.bool true]:=U7 t g h w ok
@[go_sem] theorem afJ (g:Bool) (w:aW) (left:Int) (h0:0≤left) (h1:left≤1048576) (ln:Iq w):aO 20 [.agg (mS (some g) w),.int .i64 left] t=feed t [.int .i64 (D1 w left)]:=U8 t g w left h0 h1 ln
end
end Go.Proofs.YtockoilcnmljiaaGreat
namespace Go.Proofs.YtockoilcnmljiaaGreat
set_option maxRecDepth 100000
section
variable (pr:dT) (cv:Cv Rz) (J:Nat→St→Option Rz)
theorem LD:Told cfg Tryz.prog 120 Tryz.f120:=⟨by kernel_rfl,Tryz.func120,by kernel_rfl⟩
theorem LF (x0:ae) (x1:ae):aQ pr cv J 120 Tryz.f120 [(.agg (U (some true) x0)),(.agg (U (some true) x1))]=
    let y1:Option (D × List D):=(some ((.bool false),[.undef,.undef]))
    (cv 48 [(.agg (U (some true) x0))] (.bool (fun cf=>(.done (br cf (cv 48 [(.agg (U (some true) x1))] (.bool (fun eN=>(.done (br eN (br (br (pr.eq x0.id 2) false true) (cv 149 [(.int .i64 x0.id)] (.int (fun qD=>(.done (some ((.bool (pr.eq x1.id qD)),[.undef,.undef])))))) y1) y1))))) y1))))):=by kernel_rfl
theorem IW:Told cfg Tryz.prog 119 Tryz.f119:=⟨by kernel_rfl,Tryz.func119,by kernel_rfl⟩
theorem IX (x0:ae) (x1:ae):aQ pr cv J 119 Tryz.f119 [(.agg (U (some true) x0)),(.agg (U (some true) x1))]=
    let y1:Option (D × List D):=(some ((.bool false),[.undef,.undef]))
    (cv 41 [(.agg (U (some true) x0))] (.bool (fun cf=>(.done (br cf (cv 41 [(.agg (U (some true) x1))] (.bool (fun eN=>(.done (br eN (cv 148 [(.int .i64 x0.id)] (.int (fun qD=>(.done (some ((.bool (pr.eq qD x1.id)),[.undef,.undef])))))) y1))))) y1))))):=by kernel_rfl
theorem IY:Told cfg Tryz.prog 65 Tryz.f65:=⟨by kernel_rfl,Tryz.func65,by kernel_rfl⟩
theorem IZ (x0:ae) (x1:ae) (x2:Bool):aQ pr cv J 65 Tryz.f65 [(.agg (U (some true) x0)),(.agg (U (some true) x1)),(.bool x2)]=
    let y1:Option (D × List D):=(some ((.bool false),[.undef,.undef,.undef]))
    (cv 120 [(.agg (U (some true) x0)),(.agg (U (some true) x1))] (.bool (fun cf=>(.done (br (br cf false true) y1 (br (br x0.up false true) y1 (br (br x0.mt.cI false true) y1 (br x0.mt.bN y1 (br x0.cE y1 (br x0.mt.held (some ((.bool true),[.undef,.undef,.undef])) (br (pr.bD x1.id x0.conn.length) (br (br (pr.df (aD x0.conn) (pr.idx 0 x1.id 1)) true false) (br (pr.cg (aD x0.conn) (pr.idx 0 x1.id 1)) (br (pr.bD x0.id x1.conn.length) (br (br (pr.df (aD x1.conn) (pr.idx 0 x0.id 1)) true false) (br (pr.cg (aD x1.conn) (pr.idx 0 x0.id 1)) (br (pr.bD x1.id x0.aK.length) (br (br (pr.df (aD x0.aK) (pr.idx 0 x1.id 1)) true false) (br (br (pr.cg (aD x0.aK) (pr.idx 0 x1.id 1)) false true) (br (pr.bD x0.id x1.aK.length) (br (br (pr.df (aD x1.aK) (pr.idx 0 x0.id 1)) true false) (br (br (pr.cg (aD x1.aK) (pr.idx 0 x0.id 1)) false true) (br (br x1.cE false true) (br (pr.eq x0.mt.last x1.mt.last) (some ((.bool x2),[.undef,.undef,.undef])) y1) y1) y1) none) none) y1) none) none) y1) none) none) y1) none) none))))))))))):=by kernel_rfl
theorem I0:Told cfg Tryz.prog 64 Tryz.f64:=⟨by kernel_rfl,Tryz.func64,by kernel_rfl⟩
theorem I1 (x0:ae) (x1:ae) (x2:Bool):aQ pr cv J 64 Tryz.f64 [(.agg (U (some true) x0)),(.agg (U (some true) x1)),(.bool x2)]=
    let y1:Option (D × List D):=(some ((.bool false),[.undef,.undef,.undef]))
    (cv 119 [(.agg (U (some true) x0)),(.agg (U (some true) x1))] (.bool (fun cf=>(.done (br (br cf false true) y1 (br (br x0.up false true) y1 (br (br x0.mt.cI false true) y1 (br x0.mt.bN y1 (br x0.cE y1 (br x0.mt.held (some ((.bool true),[.undef,.undef,.undef])) (br (pr.bD x1.id x0.conn.length) (br (br (pr.df (aD x0.conn) (pr.idx 0 x1.id 1)) true false) (br (pr.cg (aD x0.conn) (pr.idx 0 x1.id 1)) (br (pr.bD x0.id x1.conn.length) (br (br (pr.df (aD x1.conn) (pr.idx 0 x0.id 1)) true false) (br (pr.cg (aD x1.conn) (pr.idx 0 x0.id 1)) (br (pr.bD x1.id x0.aK.length) (br (br (pr.df (aD x0.aK) (pr.idx 0 x1.id 1)) true false) (br (br (pr.cg (aD x0.aK) (pr.idx 0 x1.id 1)) false true) (br (pr.bD x0.id x1.aK.length) (br (br (pr.df (aD x1.aK) (pr.idx 0 x0.id 1)) true false) (br (br (pr.cg (aD x1.aK) (pr.idx 0 x0.id 1)) false true) (br (br x1.cE false true) (br (pr.eq x0.mt.last x1.mt.last) (some ((.bool x2),[.undef,.undef,.undef])) y1) y1) y1) none) none) y1) none) none) y1) none) none) y1) none) none))))))))))):=by kernel_rfl
end
@[go_sem] theorem aaB (n:ae) (q0:bS n) (t:bG Rz):aO 48 [.agg (fq (some true) n)] t=feed t [.bool (dC n)]:=by
  exact bO (r:=.bool (dC n)) (s:=.bool) (ss:=[.undef]) (zA n q0) (by kernel_rfl) (by simp only [av,bA,ba,bB,bC,ai,aj,Bool.and_self]) (by simp only [ai,aJ,av,aj,Bool.and_self]) (by first | rfl | simp only [au,aY,aX,bu,bw,aZ,bz,Bool.and_self]) (by first | rfl | simp only [List.all_cons,List.all_nil,au,Bool.and_self]) t
@[go_sem] theorem aaC (n:ae) (q0:bS n) (t:bG Rz):aO 41 [.agg (fq (some true) n)] t=feed t [.bool (dC n)]:=by
  exact bO (r:=.bool (dC n)) (s:=.bool) (ss:=[.undef]) (zB n q0) (by kernel_rfl) (by simp only [av,bA,ba,bB,bC,ai,aj,Bool.and_self]) (by simp only [ai,aJ,av,aj,Bool.and_self]) (by first | rfl | simp only [au,aY,aX,bu,bw,aZ,bz,Bool.and_self]) (by first | rfl | simp only [List.all_cons,List.all_nil,au,Bool.and_self]) t
@[go_sem] theorem aaa (s:aG) (q0:dJ s) (t:bG Rz):aO 113 [.agg (mR (some true) s)] t=feed t [enc .mt ((aP s).1),.int .i64 ((aP s).2.1),.bool ((aP s).2.2)]:=by
  exact bO (r:=.aL [enc .mt ((aP s).1),.int .i64 ((aP s).2.1),.bool ((aP s).2.2)]) (s:=.aL [.ty .mt,.int .i64,.bool]) (ss:=[.undef]) (xQ s q0) (by kernel_rfl) (by simp only [av,bA,ba,bB,bC,ai,aj,Bool.and_self]) (by simp only [ai,aJ,av,aj,Bool.and_self]) (by first | rfl | simp only [au,aY,aX,bu,bw,aZ,bz,Bool.and_self]) (by first | rfl | simp only [List.all_cons,List.all_nil,au,Bool.and_self]) t
@[go_sem] theorem aab (s:aG) (q0:dJ s) (t:bG Rz):aO 102 [.agg (mR (some true) s)] t=feed t [enc .mt ((aP s).1),.int .i64 ((aP s).2.1),.bool ((aP s).2.2)]:=by
  exact bO (r:=.aL [enc .mt ((aP s).1),.int .i64 ((aP s).2.1),.bool ((aP s).2.2)]) (s:=.aL [.ty .mt,.int .i64,.bool]) (ss:=[.undef]) (xR s q0) (by kernel_rfl) (by simp only [av,bA,ba,bB,bC,ai,aj,Bool.and_self]) (by simp only [ai,aJ,av,aj,Bool.and_self]) (by first | rfl | simp only [au,aY,aX,bu,bw,aZ,bz,Bool.and_self]) (by first | rfl | simp only [List.all_cons,List.all_nil,au,Bool.and_self]) t
@[go_sem] theorem aaD (s:aG) (q0:dJ s) (t:bG Rz):aO 146 [.agg (mR (some true) s)] t=feed t [enc .mt ((((aP s).1,(aP s).2.1,oK s)).1),.int .i64 ((((aP s).1,(aP s).2.1,oK s)).2.1),.bool ((((aP s).1,(aP s).2.1,oK s)).2.2)]:=by
  exact bO (r:=.aL [enc .mt ((((aP s).1,(aP s).2.1,oK s)).1),.int .i64 ((((aP s).1,(aP s).2.1,oK s)).2.1),.bool ((((aP s).1,(aP s).2.1,oK s)).2.2)]) (s:=.aL [.ty .mt,.int .i64,.bool]) (ss:=[.undef]) (zy s q0) (by kernel_rfl) (by simp only [av,bA,ba,bB,bC,ai,aj,Bool.and_self]) (by simp only [ai,aJ,av,aj,Bool.and_self]) (by first | rfl | simp only [au,aY,aX,bu,bw,aZ,bz,Bool.and_self]) (by first | rfl | simp only [List.all_cons,List.all_nil,au,Bool.and_self]) t
@[go_sem] theorem aac (s:aG) (q0:dJ s) (t:bG Rz):aO 138 [.agg (mR (some true) s)] t=feed t [.int .i64 (td s)]:=by
  exact bO (r:=.int .i64 (td s)) (s:=.int .i64) (ss:=[.undef]) (xP s q0) (by kernel_rfl) (by simp only [av,bA,ba,bB,bC,ai,aj,Bool.and_self]) (by simp only [ai,aJ,av,aj,Bool.and_self]) (by first | rfl | simp only [au,aY,aX,bu,bw,aZ,bz,Bool.and_self]) (by first | rfl | simp only [List.all_cons,List.all_nil,au,Bool.and_self]) t
@[go_sem] theorem Xj (m:aI) (n:Nat) (q0:cJ m) (q1:(cH m).length≤151) (q2:n < 4611686018427387904) (t:bG Rz):aO 161 [.agg (sc (some true) m),.int .i64 (n:Int)] t=feed t [enc .B (nn m n)]:=by
  exact bO (r:=enc .B (nn m n)) (s:=.ty .B) (ss:=[.undef,.undef]) (vE m n q0 q1 q2) (by kernel_rfl) (by simp only [av,bA,ba,bB,bC,ai,aj,Bool.and_self]) (by simp only [ai,aJ,av,aj,Bool.and_self]) (by first | rfl | simp only [au,aY,aX,bu,bw,aZ,bz,Bool.and_self]) (by first | rfl | simp only [List.all_cons,List.all_nil,au,Bool.and_self]) t
@[go_sem] theorem aaE (m:aI) (n:Nat) (q0:cJ m) (q1:(cH m).length≤151) (q2:n < 4611686018427387904) (t:bG Rz):aO 152 [.agg (sc (some true) m),.int .i64 (n:Int)] t=feed t [enc .B (nn m n)]:=by
  exact bO (r:=enc .B (nn m n)) (s:=.ty .B) (ss:=[.undef,.undef]) (zx m n q0 q1 q2) (by kernel_rfl) (by simp only [av,bA,ba,bB,bC,ai,aj,Bool.and_self]) (by simp only [ai,aJ,av,aj,Bool.and_self]) (by first | rfl | simp only [au,aY,aX,bu,bw,aZ,bz,Bool.and_self]) (by first | rfl | simp only [List.all_cons,List.all_nil,au,Bool.and_self]) t
noncomputable def pf (x y:ae):Bool:=dC x&&(dC y&&(!decide (x.id=2)&&decide (y.id=ly x.id)))
structure agX (x y:ae):Prop where
  ox:qR x
  oy:qR y
  xl:0≤x.id
  xh:x.id≤1
  yl:0≤y.id
  yh:y.id≤1
  al0:y.id=ly x.id
theorem QX {x y:ae} (h:pf x y=true):agX x y:=by
  unfold pf at h
  simp only [Bool.and_eq_true,Bool.not_eq_true',decide_eq_true_eq,decide_eq_false_iff_not] at h
  obtain ⟨h1,h2,h3,h4⟩:=h
  have k1:=iG h1
  have k2:=iG h2
  have i1:=k1.id
  have i2:=k2.id
  have h5:=h4
  unfold ly at h5
  exact ⟨k1,k2,i1.1,by omega,i2.1,by split at h5<;>omega,h4⟩
theorem LG (x:ae) (y:ae) (q0:bS x) (q1:bS y):Cm 120 [.agg (U (some true) x),.agg (U (some true) y)] (.bool (pf x y),[.undef,.undef]):=by
  refine Cm.step LD _ fun J _=>?_
  rw [LF]
  unfold pf
  simp (disch:=first | assumption | omega) only [go_sem]
  refine oL fun h1=>?_
  simp (disch:=first | assumption | omega) only [go_sem]
  refine oL fun h2=>?_
  simp (disch:=first | assumption | omega) only [go_sem]
  refine vI fun h3=>?_
  simp (disch:=first | assumption | omega) only [go_sem]
@[go_sem] theorem aaF (x:ae) (y:ae) (q0:bS x) (q1:bS y) (t:bG Rz):aO 120 [.agg (fq (some true) x),.agg (fq (some true) y)] t=feed t [.bool (pf x y)]:=by
  exact bO (r:=.bool (pf x y)) (s:=.bool) (ss:=[.undef,.undef]) (LG x y q0 q1) (by kernel_rfl) (by simp only [av,bA,ba,bB,bC,ai,aj,Bool.and_self]) (by simp only [ai,aJ,av,aj,Bool.and_self]) (by first | rfl | simp only [au,aY,aX,bu,bw,aZ,bz,Bool.and_self]) (by first | rfl | simp only [List.all_cons,List.all_nil,au,Bool.and_self]) t
theorem I2 (x:ae) (y:ae) (q0:bS x) (q1:bS y):Cm 119 [.agg (U (some true) x),.agg (U (some true) y)] (.bool (pf x y),[.undef,.undef]):=by
  refine Cm.step IW _ fun J _=>?_
  rw [IX]
  unfold pf
  simp (disch:=first | assumption | omega) only [go_sem]
  refine oL fun h1=>?_
  simp (disch:=first | assumption | omega) only [go_sem]
  refine oL fun h2=>?_
  simp (disch:=first | assumption | omega) only [go_sem]
  have i1:=(iG h1).id
  have i2:=(iG h2).id
  unfold ly
  by_cases h:x.id=2
  · rw [h]; simp; omega
  · simp [h,eq_comm]
@[go_sem] theorem aad (x:ae) (y:ae) (q0:bS x) (q1:bS y) (t:bG Rz):aO 119 [.agg (fq (some true) x),.agg (fq (some true) y)] t=feed t [.bool (pf x y)]:=by
  exact bO (r:=.bool (pf x y)) (s:=.bool) (ss:=[.undef,.undef]) (I2 x y q0 q1) (by kernel_rfl) (by simp only [av,bA,ba,bB,bC,ai,aj,Bool.and_self]) (by simp only [ai,aJ,av,aj,Bool.and_self]) (by first | rfl | simp only [au,aY,aX,bu,bw,aZ,bz,Bool.and_self]) (by first | rfl | simp only [List.all_cons,List.all_nil,au,Bool.and_self]) t
noncomputable def agY (x y:ae):Bool:=pf x y&&(x.up&&(x.mt.cI&&(!x.mt.bN&&(!x.mt.held&&(!x.conn.getD y.id.toNat false&&!y.cE)))))
noncomputable def im (x y:ae) (q:Bool):Bool:=pf x y&&(x.up&&(x.mt.cI&&(!x.mt.bN&&(!x.cE&&(x.mt.held||(x.conn.getD y.id.toNat false&&(y.conn.getD x.id.toNat false&&(!x.aK.getD y.id.toNat false&&(!y.aK.getD x.id.toNat false&&(!y.cE&&(decide (x.mt.last=y.mt.last)&&q)))))))))))
theorem I3 (x:ae) (y:ae) (q:Bool) (q0:bS x) (q1:bS y):Cm 65 [.agg (U (some true) x),.agg (U (some true) y),.bool q] (.bool (im x y q),[.undef,.undef,.undef]):=by
  refine Cm.step IY _ fun J _=>?_
  rw [IZ]
  unfold im
  simp (disch:=first | assumption | omega) only [go_sem]
  refine oL fun h1=>?_
  try simp (disch:=first | assumption | omega) only [go_sem]
  have p:=QX h1
  have:=p.xl; have:=p.xh; have:=p.yl; have:=p.yh; have:=p.ox.conn; have:=p.oy.conn; have:=p.ox.aK; have:=p.oy.aK
  simp (disch:=first | assumption | omega) only [go_sem]
  refine oL fun _=>?_
  try simp (disch:=first | assumption | omega) only [go_sem]
  refine oL fun _=>?_
  try simp (disch:=first | assumption | omega) only [go_sem]
  refine vI fun _=>?_
  try simp (disch:=first | assumption | omega) only [go_sem]
  refine vI fun _=>?_
  try simp (disch:=first | assumption | omega) only [go_sem]
  refine acO fun _=>?_
  try simp (disch:=first | assumption | omega) only [go_sem]
  refine oL fun _=>?_
  try simp (disch:=first | assumption | omega) only [go_sem]
  refine oL fun _=>?_
  try simp (disch:=first | assumption | omega) only [go_sem]
  refine vI fun _=>?_
  try simp (disch:=first | assumption | omega) only [go_sem]
  refine vI fun _=>?_
  try simp (disch:=first | assumption | omega) only [go_sem]
  refine vI fun _=>?_
  try simp (disch:=first | assumption | omega) only [go_sem]
  exact oL fun _=>rfl
@[go_sem] theorem aae (x:ae) (y:ae) (q:Bool) (q0:bS x) (q1:bS y) (t:bG Rz):aO 65 [.agg (fq (some true) x),.agg (fq (some true) y),.bool q] t=feed t [.bool (im x y q)]:=by
  exact bO (r:=.bool (im x y q)) (s:=.bool) (ss:=[.undef,.undef,.undef]) (I3 x y q q0 q1) (by kernel_rfl) (by simp only [av,bA,ba,bB,bC,ai,aj,Bool.and_self]) (by simp only [ai,aJ,av,aj,Bool.and_self]) (by first | rfl | simp only [au,aY,aX,bu,bw,aZ,bz,Bool.and_self]) (by first | rfl | simp only [List.all_cons,List.all_nil,au,Bool.and_self]) t
theorem I4 (x:ae) (y:ae) (q:Bool) (q0:bS x) (q1:bS y):Cm 64 [.agg (U (some true) x),.agg (U (some true) y),.bool q] (.bool (im x y q),[.undef,.undef,.undef]):=by
  refine Cm.step I0 _ fun J _=>?_
  rw [I1]
  unfold im
  simp (disch:=first | assumption | omega) only [go_sem]
  refine oL fun h1=>?_
  try simp (disch:=first | assumption | omega) only [go_sem]
  have p:=QX h1
  have:=p.xl; have:=p.xh; have:=p.yl; have:=p.yh; have:=p.ox.conn; have:=p.oy.conn; have:=p.ox.aK; have:=p.oy.aK
  simp (disch:=first | assumption | omega) only [go_sem]
  refine oL fun _=>?_
  try simp (disch:=first | assumption | omega) only [go_sem]
  refine oL fun _=>?_
  try simp (disch:=first | assumption | omega) only [go_sem]
  refine vI fun _=>?_
  try simp (disch:=first | assumption | omega) only [go_sem]
  refine vI fun _=>?_
  try simp (disch:=first | assumption | omega) only [go_sem]
  refine acO fun _=>?_
  try simp (disch:=first | assumption | omega) only [go_sem]
  refine oL fun _=>?_
  try simp (disch:=first | assumption | omega) only [go_sem]
  refine oL fun _=>?_
  try simp (disch:=first | assumption | omega) only [go_sem]
  refine vI fun _=>?_
  try simp (disch:=first | assumption | omega) only [go_sem]
  refine vI fun _=>?_
  try simp (disch:=first | assumption | omega) only [go_sem]
  refine vI fun _=>?_
  try simp (disch:=first | assumption | omega) only [go_sem]
  exact oL fun _=>rfl
@[go_sem] theorem aaf (x:ae) (y:ae) (q:Bool) (q0:bS x) (q1:bS y) (t:bG Rz):aO 64 [.agg (fq (some true) x),.agg (fq (some true) y),.bool q] t=feed t [.bool (im x y q)]:=by
  exact bO (r:=.bool (im x y q)) (s:=.bool) (ss:=[.undef,.undef,.undef]) (I4 x y q q0 q1) (by kernel_rfl) (by simp only [av,bA,ba,bB,bC,ai,aj,Bool.and_self]) (by simp only [ai,aJ,av,aj,Bool.and_self]) (by first | rfl | simp only [au,aY,aX,bu,bw,aZ,bz,Bool.and_self]) (by first | rfl | simp only [List.all_cons,List.all_nil,au,Bool.and_self]) t
end Go.Proofs.YtockoilcnmljiaaGreat
namespace Go.Proofs.YtockoilcnmljiaaGreat
set_option maxRecDepth 100000
section
variable (pr:dT) (cv:Cv Rz) (J:Nat→St→Option Rz)
def kY (x0:List (List Int)) (i0:Int) (i1:Int) (n2:Nat) (c3:List D):St:=(St.mk [(3,(.ref 10003 [] 0 none)),(7,(sR (some true) x0)),(8,(.int .i64 i0)),(9,(.int .i64 i1))] [(10003,[(.sl none 1 n2 c3)])] [] 0)
theorem Ek:Told cfg Tryz.prog 109 Tryz.f109:=⟨by kernel_rfl,Tryz.func109,by kernel_rfl⟩
theorem El (x0:List (List Int)):aQ pr cv J 109 Tryz.f109 [(sR (some true) x0)]=
    (J 0 (kY x0 (pr.aS x0.length) 0 0 [])):=by kernel_rfl
theorem zD (x0:List (List Int)) (i0:Int) (i1:Int) (n2:Nat) (c3:List D):bJ pr cv J 109 Tryz.f109 [.undef] 0 (kY x0 i0 i1 n2 c3)=
    (br (pr.lt i1 i0) (br (pr.bD i1 x0.length) (br (br (pr.bU 1 (rows (some true) x0) (pr.idx 0 i1 1)) true false) (cv 105 [(.sl (some (pr.bo (rows (some true) x0) (pr.idx 0 i1 1))) 1 (pr.aR (rows (some true) x0) (pr.idx 0 i1 1)) (pr.aV (rows (some true) x0) (pr.idx 0 i1 1)))] (.sl (fun dU=>(fun dp=>(.done (br (br (br (pr.nl dp) true false) true false) (br (pr.fits (n2+1) 24) (J 0 (kY x0 i0 (pr.ar .add .i64 i1 1) (n2+1) (List.append c3 [(.sl none 1 dU dp)]))) none) none)))))) none) none) (some ((.sl none 1 n2 c3),[.undef]))):=by kernel_rfl
theorem G0:Told cfg Tryz.prog 106 Tryz.f106:=⟨by kernel_rfl,Tryz.func106,by kernel_rfl⟩
theorem G1 (x0:aI):aQ pr cv J 106 Tryz.f106 [(.agg (bR (some true) x0))]=
    (cv 105 [(sI (some true) x0.ay)] (.sl (fun dU=>(fun dp=>(.done (br (br (br (pr.nl dp) true false) true false) (cv 109 [(sR (some true) x0.bits)] (.ty fk.R (fun (kS:List (List Int))=>(.done (some ((.agg [(.sl none 1 dU dp),(sR none kS),(.bool x0.cI),(.bool x0.bN),(.bool x0.held),(.int .i64 x0.last)]),[.undef])))))) none)))))):=by kernel_rfl
theorem Em:Told cfg Tryz.prog 107 Tryz.f107:=⟨by kernel_rfl,Tryz.func107,by kernel_rfl⟩
theorem En (x0:aG):aQ pr cv J 107 Tryz.f107 [(.agg (cO (some true) x0))]=
    (cv 140 [(s8 (some true) x0.a)] (.ty fk.B (fun (ax:List UInt8)=>(.done (cv 140 [(s8 (some true) x0.b)] (.ty fk.B (fun (ff:List UInt8)=>(.done (some ((.agg [(s8 none ax),(s8 none ff)]),[.undef])))))))))):=by kernel_rfl
theorem G2:Told cfg Tryz.prog 47 Tryz.f47:=⟨by kernel_rfl,Tryz.func47,by kernel_rfl⟩
theorem G3 (x0:ae):aQ pr cv J 47 Tryz.f47 [(.agg (U (some true) x0))]=
    (cv 105 [(sI (some true) x0.image)] (.sl (fun dU=>(fun dp=>(.done (br (br (br (pr.nl dp) true false) true false) (cv 106 [(.agg (bR (some true) x0.mt))] (.ty fk.mt (fun (kS:aI)=>(.done (cv 107 [(.agg (cO (some true) x0.aM))] (.ty fk.aM (fun (tM:aG)=>(.done (cv 108 [(sB (some true) x0.conn)] (.ty fk.L (fun (mQ:List Bool)=>(.done (cv 109 [(sR (some true) x0.sync)] (.ty fk.R (fun (hI:List (List Int))=>(.done (cv 108 [(sB (some true) x0.aK)] (.ty fk.L (fun (vm6:List Bool)=>(.done (cv 105 [(sI (some true) x0.wait)] (.sl (fun YL=>(fun QT=>(.done (br (br (br (pr.nl QT) true false) true false) (some ((.agg [(.int .i64 x0.id),(.bool x0.up),(.bool x0.cE),(.sl none 1 dU dp),(sI none kS.ay),(sR none kS.bits),(.bool kS.cI),(.bool kS.bN),(.bool kS.held),(.int .i64 kS.last),(s8 none tM.a),(s8 none tM.b),(sB none mQ),(sR none hI),(sB none vm6),(.sl none 1 YL QT)]),[.undef])) none)))))))))))))))))))))))))) none)))))):=by kernel_rfl
def wi (x0:aI) (i0:Int) (b1:Bool) (b2:Bool) (b3:Bool) (i4:Int) (n5:Nat) (c6:List D):St:=(St.mk [(1,(.ptr 1 [] 0)),(2,(.ptr 2 [] 0)),(3,(.ptr 3 [] 0)),(4,(.int .i64 i0))] [(1,(bR (some true) x0)),(2,[(.nil 1),(.nil 1),(.bool b1),(.bool b2),(.bool b3),(.int .i64 i4)]),(3,[(.sl none 1 n5 c6),(.nil 1),(.bool x0.cI),(.bool x0.bN),(.bool x0.held),(.int .i64 x0.last)])] [] 0)
def jc (x0:aI) (i0:Int) (b1:Bool) (b2:Bool) (b3:Bool) (i4:Int) (n5:Nat) (c6:List D) (n7:Nat) (c8:List D):St:=(St.mk [(1,(.ptr 1 [] 0)),(2,(.ptr 2 [] 0)),(3,(.ptr 3 [] 0)),(4,(.int .i64 i0))] [(1,(bR (some true) x0)),(2,[(.nil 1),(.nil 1),(.bool b1),(.bool b2),(.bool b3),(.int .i64 i4)]),(3,[(.sl none 1 n5 c6),(.sl none 1 n7 c8),(.bool x0.cI),(.bool x0.bN),(.bool x0.held),(.int .i64 x0.last)])] [] 0)
theorem LH:Told cfg Tryz.prog 97 Tryz.f97:=⟨by kernel_rfl,Tryz.func97,by kernel_rfl⟩
theorem LI (x0:aI):aQ pr cv J 97 Tryz.f97 [(.agg (bR (some true) x0))]=
    (br (br (pr.cell (ints x0.ay)) (pr.fits (0+x0.ay.length) 8) false) (J 0 (wi x0 0 false false false 0 (0+x0.ay.length) (List.append [] (ints x0.ay)))) none):=by kernel_rfl
theorem Eo (x0:aI) (i0:Int) (b1:Bool) (b2:Bool) (b3:Bool) (i4:Int) (n5:Nat) (c6:List D):bJ pr cv J 97 Tryz.f97 [.undef] 0 (wi x0 i0 b1 b2 b3 i4 n5 c6)=
    let y1:Nat:=(0+(pr.aR (rows (some true) x0.bits) (pr.idx 0 i0 1)))
    (br (pr.lt i0 (pr.aS x0.bits.length)) (br (pr.bD i0 x0.bits.length) (br (br (pr.bU 1 (rows (some true) x0.bits) (pr.idx 0 i0 1)) true false) (br (br (pr.cell (pr.aV (rows (some true) x0.bits) (pr.idx 0 i0 1))) (pr.fits y1 8) false) (br (pr.fits 1 24) (J 0 (jc x0 (pr.ar .add .i64 i0 1) b1 b2 b3 i4 n5 c6 1 [(.sl none 1 y1 (pr.aV (rows (some true) x0.bits) (pr.idx 0 i0 1)))])) none) none) none) none) (some ((.agg [(.sl none 1 n5 c6),(.sl none 1 0 []),(.bool x0.cI),(.bool x0.bN),(.bool x0.held),(.int .i64 x0.last)]),[.undef]))):=by kernel_rfl
theorem Bv (x0:aI) (i0:Int) (b1:Bool) (b2:Bool) (b3:Bool) (i4:Int) (n5:Nat) (c6:List D) (n7:Nat) (c8:List D):bJ pr cv J 97 Tryz.f97 [.undef] 0 (jc x0 i0 b1 b2 b3 i4 n5 c6 n7 c8)=
    let y1:Nat:=(0+(pr.aR (rows (some true) x0.bits) (pr.idx 0 i0 1)))
    (br (pr.lt i0 (pr.aS x0.bits.length)) (br (pr.bD i0 x0.bits.length) (br (br (pr.bU 1 (rows (some true) x0.bits) (pr.idx 0 i0 1)) true false) (br (br (pr.cell (pr.aV (rows (some true) x0.bits) (pr.idx 0 i0 1))) (pr.fits y1 8) false) (br (pr.fits (n7+1) 24) (J 0 (jc x0 (pr.ar .add .i64 i0 1) b1 b2 b3 i4 n5 c6 (n7+1) (List.append c8 [(.sl none 1 y1 (pr.aV (rows (some true) x0.bits) (pr.idx 0 i0 1)))]))) none) none) none) none) (some ((.agg [(.sl none 1 n5 c6),(.sl none 1 n7 c8),(.bool x0.cI),(.bool x0.bN),(.bool x0.held),(.int .i64 x0.last)]),[.undef]))):=by kernel_rfl
theorem LJ:Told cfg Tryz.prog 98 Tryz.f98:=⟨by kernel_rfl,Tryz.func98,by kernel_rfl⟩
theorem LK (x0:aG):aQ pr cv J 98 Tryz.f98 [(.agg (cO (some true) x0))]=
    (br (br (pr.cell (bytes x0.a)) (pr.fits (0+x0.a.length) 1) false) (br (br (pr.cell (bytes x0.b)) (pr.fits (0+x0.b.length) 1) false) (some ((.agg [(.sl none 1 (0+x0.a.length) (List.append [] (bytes x0.a))),(.sl none 1 (0+x0.b.length) (List.append [] (bytes x0.b)))]),[.undef])) none) none):=by kernel_rfl
def wj (x0:ae) (i0:Int) (i1:Int) (b2:Bool) (b3:Bool) (b4:Bool) (b5:Bool) (b6:Bool) (i7:Int) (n8:Nat) (c9:List D) (mL:Nat) (mM:List D) (fE:Nat) (gg:List D) (me:Bool) (gu:Bool) (jY:Bool) (i17:Int) (Bw:Nat) (wb:List D) (qB:Nat) (qC:List D) (tN:Nat) (tO:List D) (zC:Nat) (Bx:List D) (pR:Nat) (oY:List D):St:=(St.mk [(1,(.ptr 1 [] 0)),(2,(.ptr 2 [] 0)),(3,(.ptr 3 [] 0)),(4,(.int .i64 i0))] [(1,(U (some true) x0)),(2,[(.int .i64 i1),(.bool b2),(.bool b3),(.nil 1),(.nil 1),(.nil 1),(.bool b4),(.bool b5),(.bool b6),(.int .i64 i7),(.nil 1),(.nil 1),(.nil 1),(.nil 1),(.nil 1),(.nil 1)]),(3,[(.int .i64 x0.id),(.bool x0.up),(.bool x0.cE),(.sl none 1 n8 c9),(.sl none 1 mL mM),(.sl none 1 fE gg),(.bool me),(.bool gu),(.bool jY),(.int .i64 i17),(.sl none 1 Bw wb),(.sl none 1 qB qC),(.sl none 1 tN tO),(.nil 1),(.sl none 1 zC Bx),(.sl none 1 pR oY)])] [] 0)
def jd (x0:ae) (i0:Int) (i1:Int) (b2:Bool) (b3:Bool) (b4:Bool) (b5:Bool) (b6:Bool) (i7:Int) (n8:Nat) (c9:List D) (mL:Nat) (mM:List D) (fE:Nat) (gg:List D) (me:Bool) (gu:Bool) (jY:Bool) (i17:Int) (Bw:Nat) (wb:List D) (qB:Nat) (qC:List D) (tN:Nat) (tO:List D) (zC:Nat) (Bx:List D) (pR:Nat) (oY:List D) (xr:Nat) (xx:List D):St:=(St.mk [(1,(.ptr 1 [] 0)),(2,(.ptr 2 [] 0)),(3,(.ptr 3 [] 0)),(4,(.int .i64 i0))] [(1,(U (some true) x0)),(2,[(.int .i64 i1),(.bool b2),(.bool b3),(.nil 1),(.nil 1),(.nil 1),(.bool b4),(.bool b5),(.bool b6),(.int .i64 i7),(.nil 1),(.nil 1),(.nil 1),(.nil 1),(.nil 1),(.nil 1)]),(3,[(.int .i64 x0.id),(.bool x0.up),(.bool x0.cE),(.sl none 1 n8 c9),(.sl none 1 mL mM),(.sl none 1 fE gg),(.bool me),(.bool gu),(.bool jY),(.int .i64 i17),(.sl none 1 Bw wb),(.sl none 1 qB qC),(.sl none 1 tN tO),(.sl none 1 zC Bx),(.sl none 1 pR oY),(.sl none 1 xr xx)])] [] 0)
theorem LL:Told cfg Tryz.prog 40 Tryz.f40:=⟨by kernel_rfl,Tryz.func40,by kernel_rfl⟩
theorem LM (x0:ae):aQ pr cv J 40 Tryz.f40 [(.agg (U (some true) x0))]=
    (br (br (pr.cell (ints x0.image)) (pr.fits (0+x0.image.length) 8) false) (cv 97 [(.agg (bR (some true) x0.mt))] (.ty fk.mt (fun (ax:aI)=>(.done (cv 98 [(.agg (cO (some true) x0.aM))] (.ty fk.aM (fun (ff:aG)=>(.done (br (br (pr.cell (aD x0.conn)) (pr.fits (0+x0.conn.length) 1) false) (br (br (pr.cell (aD x0.aK)) (pr.fits (0+x0.aK.length) 1) false) (br (br (pr.cell (ints x0.wait)) (pr.fits (0+x0.wait.length) 8) false) (J 0 (wj x0 0 0 false false false false false 0 (0+x0.image.length) (List.append [] (ints x0.image)) ax.ay.length (ints ax.ay) ax.bits.length (rows none ax.bits) ax.cI ax.bN ax.held ax.last ff.a.length (bytes ff.a) ff.b.length (bytes ff.b) (0+x0.conn.length) (List.append [] (aD x0.conn)) (0+x0.aK.length) (List.append [] (aD x0.aK)) (0+x0.wait.length) (List.append [] (ints x0.wait)))) none) none) none))))))))) none):=by kernel_rfl
theorem Ep (x0:ae) (i0:Int) (i1:Int) (b2:Bool) (b3:Bool) (b4:Bool) (b5:Bool) (b6:Bool) (i7:Int) (n8:Nat) (c9:List D) (mL:Nat) (mM:List D) (fE:Nat) (gg:List D) (me:Bool) (gu:Bool) (jY:Bool) (i17:Int) (Bw:Nat) (wb:List D) (qB:Nat) (qC:List D) (tN:Nat) (tO:List D) (zC:Nat) (Bx:List D) (pR:Nat) (oY:List D):bJ pr cv J 40 Tryz.f40 [.undef] 0 (wj x0 i0 i1 b2 b3 b4 b5 b6 i7 n8 c9 mL mM fE gg me gu jY i17 Bw wb qB qC tN tO zC Bx pR oY)=
    let y1:Nat:=(0+(pr.aR (rows (some true) x0.sync) (pr.idx 0 i0 1)))
    (br (pr.lt i0 (pr.aS x0.sync.length)) (br (pr.bD i0 x0.sync.length) (br (br (pr.bU 1 (rows (some true) x0.sync) (pr.idx 0 i0 1)) true false) (br (br (pr.cell (pr.aV (rows (some true) x0.sync) (pr.idx 0 i0 1))) (pr.fits y1 8) false) (br (pr.fits 1 24) (J 0 (jd x0 (pr.ar .add .i64 i0 1) i1 b2 b3 b4 b5 b6 i7 n8 c9 mL mM fE gg me gu jY i17 Bw wb qB qC tN tO 1 [(.sl none 1 y1 (pr.aV (rows (some true) x0.sync) (pr.idx 0 i0 1)))] zC Bx pR oY)) none) none) none) none) (some ((.agg [(.int .i64 x0.id),(.bool x0.up),(.bool x0.cE),(.sl none 1 n8 c9),(.sl none 1 mL mM),(.sl none 1 fE gg),(.bool me),(.bool gu),(.bool jY),(.int .i64 i17),(.sl none 1 Bw wb),(.sl none 1 qB qC),(.sl none 1 tN tO),(.sl none 1 0 []),(.sl none 1 zC Bx),(.sl none 1 pR oY)]),[.undef]))):=by kernel_rfl
theorem By (x0:ae) (i0:Int) (i1:Int) (b2:Bool) (b3:Bool) (b4:Bool) (b5:Bool) (b6:Bool) (i7:Int) (n8:Nat) (c9:List D) (mL:Nat) (mM:List D) (fE:Nat) (gg:List D) (me:Bool) (gu:Bool) (jY:Bool) (i17:Int) (Bw:Nat) (wb:List D) (qB:Nat) (qC:List D) (tN:Nat) (tO:List D) (zC:Nat) (Bx:List D) (pR:Nat) (oY:List D) (xr:Nat) (xx:List D):bJ pr cv J 40 Tryz.f40 [.undef] 0 (jd x0 i0 i1 b2 b3 b4 b5 b6 i7 n8 c9 mL mM fE gg me gu jY i17 Bw wb qB qC tN tO zC Bx pR oY xr xx)=
    let y1:Nat:=(0+(pr.aR (rows (some true) x0.sync) (pr.idx 0 i0 1)))
    (br (pr.lt i0 (pr.aS x0.sync.length)) (br (pr.bD i0 x0.sync.length) (br (br (pr.bU 1 (rows (some true) x0.sync) (pr.idx 0 i0 1)) true false) (br (br (pr.cell (pr.aV (rows (some true) x0.sync) (pr.idx 0 i0 1))) (pr.fits y1 8) false) (br (pr.fits (zC+1) 24) (J 0 (jd x0 (pr.ar .add .i64 i0 1) i1 b2 b3 b4 b5 b6 i7 n8 c9 mL mM fE gg me gu jY i17 Bw wb qB qC tN tO (zC+1) (List.append Bx [(.sl none 1 y1 (pr.aV (rows (some true) x0.sync) (pr.idx 0 i0 1)))]) pR oY xr xx)) none) none) none) none) (some ((.agg [(.int .i64 x0.id),(.bool x0.up),(.bool x0.cE),(.sl none 1 n8 c9),(.sl none 1 mL mM),(.sl none 1 fE gg),(.bool me),(.bool gu),(.bool jY),(.int .i64 i17),(.sl none 1 Bw wb),(.sl none 1 qB qC),(.sl none 1 tN tO),(.sl none 1 zC Bx),(.sl none 1 pR oY),(.sl none 1 xr xx)]),[.undef]))):=by kernel_rfl
end
@[go_sem] theorem al1 (xs:List Int):List.append [] (ints xs)=ints xs:=rfl
@[go_sem] theorem al2 (xs:List UInt8):List.append [] (bytes xs)=bytes xs:=rfl
@[go_sem] theorem al3 (xs:List Bool):List.append [] (aD xs)=aD xs:=rfl
@[go_sem] theorem al4 (xs:List (List Int)):List.append [] (rows none xs)=rows none xs:=rfl
@[go_sem] theorem akS (xs:List Int):[D.sl none 1 xs.length (ints xs)]=rows none [xs]:=rfl
@[go_sem] theorem ajB (xs ys:List (List Int)):List.append (rows none xs) (rows none ys)=rows none (xs++ys):=by simp [rows]
@[go_sem] theorem ajC (xs ys:List Bool):List.append (aD xs) (aD ys)=aD (xs++ys):=by simp [aD]
@[go_sem] theorem ajD (xs ys:List UInt8):List.append (bytes xs) (bytes ys)=bytes (xs++ys):=by simp [bytes]
@[go_sem] theorem ahO (xs:List Int):ad.cell (ints xs)=true:=by simp [ad,ints,cW]
@[go_sem] theorem ahP (xs:List UInt8):ad.cell (bytes xs)=true:=by simp [ad,bytes,dq,cW]
@[go_sem] theorem ahQ (xs:List Bool):ad.cell (aD xs)=true:=by simp [ad,aD,cW]
theorem tn {α:Type} (xs:List α) (i:Nat) (d:α) (h:i < xs.length):xs.take i++[xs.getD i d]=xs.take (i+1):=by
  rw [List.take_succ_eq_append_getElem h,List.getD_eq_getElem?_getD,List.getElem?_eq_getElem h]
  rfl
theorem Xk (g:Bool) (xs:List Int) (hb:xs.length≤17592186044416):Cm 105 [.sl (some g) 1 xs.length (ints xs)] (.sl none 1 xs.length (ints xs),[.undef]):=by
  refine DM (e:=ky 1 8) (by kernel_rfl) ?_
  have h:(ints xs).all gC=true:=by simp [ints,gC]
  simp only [ky,h]
  rw [if_pos (by refine ⟨?_,?_,?_,?_⟩<;>first | trivial | rfl | omega)]
@[go_sem] theorem agZ (g:Bool) (n:Nat) (xs:List Int) (e:n=xs.length) (hb:xs.length≤17592186044416) (t:bG Rz):aO 105 [.sl (some g) 1 n (ints xs)] t=feed t [sI none xs]:=by
  subst e
  exact aT (Xk g xs hb) (by kernel_rfl) t
theorem Xl (g:Bool) (xs:List Bool) (hb:xs.length≤17592186044416):Cm 108 [.sl (some g) 1 xs.length (aD xs)] (.sl none 1 xs.length (aD xs),[.undef]):=by
  refine DM (e:=ky 1 1) (by kernel_rfl) ?_
  have h:(aD xs).all gC=true:=by simp [aD,gC]
  simp only [ky,h]
  rw [if_pos (by refine ⟨?_,?_,?_,?_⟩<;>first | trivial | rfl | omega)]
theorem Xm (g:Bool) (xs:List UInt8) (hb:xs.length≤17592186044416):Cm 140 [.sl (some g) 1 xs.length (bytes xs)] (.sl none 1 xs.length (bytes xs),[.undef]):=by
  refine DM (e:=ky 1 1) (by kernel_rfl) ?_
  have h:(bytes xs).all gC=true:=by simp [bytes,dq,gC]
  simp only [ky,h]
  rw [if_pos (by refine ⟨?_,?_,?_,?_⟩<;>first | trivial | rfl | omega)]
@[go_sem] theorem ag0 (g:Bool) (n:Nat) (xs:List Bool) (e:n=xs.length) (hb:xs.length≤17592186044416) (t:bG Rz):aO 108 [.sl (some g) 1 n (aD xs)] t=feed t [enc .L xs]:=by
  subst e
  exact bO (r:=enc .L xs) (s:=.ty .L) (ss:=[.undef]) (Xl g xs hb) (by kernel_rfl) (av _ _) (by simp only [ai,aJ,aj,Bool.and_self]) (au _ _) rfl t
@[go_sem] theorem ag1 (g:Bool) (n:Nat) (xs:List UInt8) (e:n=xs.length) (hb:xs.length≤17592186044416) (t:bG Rz):aO 140 [.sl (some g) 1 n (bytes xs)] t=feed t [enc .B xs]:=by
  subst e
  exact bO (r:=enc .B xs) (s:=.ty .B) (ss:=[.undef]) (Xm g xs hb) (by kernel_rfl) (av _ _) (by simp only [ai,aJ,aj,Bool.and_self]) (au _ _) rfl t
theorem Er (x:List (List Int)) (q0:ra x):Cm 109 [sR (some true) x] (sR none (x),[.undef]):=by
  have hx:=q0.1
  refine Cm.step Ek [.undef] fun J hJ=>?_
  rw [El]
  simp (disch:=first | assumption | omega) only [go_sem]
  refine hJ _ _ ?_
  refine WP.up (H:=fun i=>kY x x.length i i (rows none (x.take i))) x.length (fun _=>True) (fun i hi _ J hJ next=>?_) 0 (Nat.zero_le _) trivial
  rw [zD]
  simp (disch:=first | assumption | omega) only [go_sem]
  refine bM (fun cT=>?_) (fun qg=>?_)
  · have h2:=uq q0 i
    simp (disch:=first | assumption | omega) only [go_sem]
    rw [tn x i [] (by omega)]
    exact next (by omega) trivial
  · have e:i=x.length:=by omega
    subst e
    rw [List.take_length]
@[go_sem] theorem Xn (x0:Nat) (x:List (List Int)) (e0:x0=x.length) (q0:ra x) (t:bG Rz):aO 109 [.sl (some true) 1 x0 (rows (some true) x)] t=feed t [enc .R (x)]:=by
  subst e0
  exact bO (r:=enc .R (x)) (s:=.ty .R) (ss:=[.undef]) (Er x q0) (by kernel_rfl) (by simp only [av,bA,ba,bB,bC,ai,aj,Bool.and_self]) (by simp only [ai,aJ,av,aj,Bool.and_self]) (by first | rfl | simp only [au,aY,aX,bu,bw,aZ,bz,Bool.and_self]) (by first | rfl | simp only [List.all_cons,List.all_nil,au,Bool.and_self]) t
theorem G4 (m:aI) (q0:cJ m):Cm 106 [.agg (bR (some true) m)] (.agg (bR none (m)),[.undef]):=by
  have h1:=q0.ay
  have h2:=q0.bits
  refine Cm.step G0 [.undef] fun J hJ=>?_
  rw [G1]
  simp (disch:=first | assumption | omega) only [go_sem]
@[go_sem] theorem YS (m:aI) (q0:cJ m) (t:bG Rz):aO 106 [.agg (sc (some true) m)] t=feed t [enc .mt (m)]:=by
  exact bO (r:=enc .mt (m)) (s:=.ty .mt) (ss:=[.undef]) (G4 m q0) (by kernel_rfl) (by simp only [av,bA,ba,bB,bC,ai,aj,Bool.and_self]) (by simp only [ai,aJ,av,aj,Bool.and_self]) (by first | rfl | simp only [au,aY,aX,bu,bw,aZ,bz,Bool.and_self]) (by first | rfl | simp only [List.all_cons,List.all_nil,au,Bool.and_self]) t
theorem Es (m:aG) (q0:dJ m):Cm 107 [.agg (cO (some true) m)] (.agg (cO none (m)),[.undef]):=by
  have h1:=q0.a
  have h2:=q0.b
  refine Cm.step Em [.undef] fun J hJ=>?_
  rw [En]
  simp (disch:=first | assumption | omega) only [go_sem]
@[go_sem] theorem Xp (m:aG) (q0:dJ m) (t:bG Rz):aO 107 [.agg (mR (some true) m)] t=feed t [enc .aM (m)]:=by
  exact bO (r:=enc .aM (m)) (s:=.ty .aM) (ss:=[.undef]) (Es m q0) (by kernel_rfl) (by simp only [av,bA,ba,bB,bC,ai,aj,Bool.and_self]) (by simp only [ai,aJ,av,aj,Bool.and_self]) (by first | rfl | simp only [au,aY,aX,bu,bw,aZ,bz,Bool.and_self]) (by first | rfl | simp only [List.all_cons,List.all_nil,au,Bool.and_self]) t
theorem G5 (n:ae) (q0:bS n):Cm 47 [.agg (U (some true) n)] (.agg (U none (n)),[.undef]):=by
  have h1:=q0.image
  have h2:=q0.mt
  have h3:=q0.aM
  have h4:=q0.conn
  have h5:=q0.sync
  have h6:=q0.aK
  have h7:=q0.wait
  refine Cm.step G2 [.undef] fun J hJ=>?_
  rw [G3]
  simp (disch:=first | assumption | omega) only [go_sem]
  rfl
@[go_sem] theorem YT (n:ae) (q0:bS n) (t:bG Rz):aO 47 [.agg (fq (some true) n)] t=feed t [enc .node (n)]:=by
  exact bO (r:=enc .node (n)) (s:=.ty .node) (ss:=[.undef]) (G5 n q0) (by kernel_rfl) (by simp only [av,bA,ba,bB,bC,ai,aj,Bool.and_self]) (by simp only [ai,aJ,av,aj,Bool.and_self]) (by first | rfl | simp only [au,aY,aX,bu,bw,aZ,bz,Bool.and_self]) (by first | rfl | simp only [List.all_cons,List.all_nil,au,Bool.and_self]) t
theorem LN (m:aG) (q0:dJ m):Cm 98 [.agg (cO (some true) m)] (.agg (cO none (m)),[.undef]):=by
  have h1:=q0.a
  have h2:=q0.b
  refine Cm.step LJ [.undef] fun J hJ=>?_
  rw [LK]
  simp (disch:=first | assumption | omega) only [go_sem]
@[go_sem] theorem aaG (m:aG) (q0:dJ m) (t:bG Rz):aO 98 [.agg (mR (some true) m)] t=feed t [enc .aM (m)]:=by
  exact bO (r:=enc .aM (m)) (s:=.ty .aM) (ss:=[.undef]) (LN m q0) (by kernel_rfl) (by simp only [av,bA,ba,bB,bC,ai,aj,Bool.and_self]) (by simp only [ai,aJ,av,aj,Bool.and_self]) (by first | rfl | simp only [au,aY,aX,bu,bw,aZ,bz,Bool.and_self]) (by first | rfl | simp only [List.all_cons,List.all_nil,au,Bool.and_self]) t
theorem LO (m:aI) (q0:cJ m):Cm 97 [.agg (bR (some true) m)] (.agg (bR none (m)),[.undef]):=by
  have h1:=q0.ay
  have h2:=q0.bits
  have h3:=q0.bits.1
  have key:∀ i,i≤m.bits.length→1≤i→WP 97 Tryz.f97 [.undef] 0 (jc m i false false false 0 m.ay.length (ints m.ay) i (rows none (m.bits.take i))) (.agg (bR none m),[.undef]):=by
    refine WP.up (H:=fun i=>jc m i false false false 0 m.ay.length (ints m.ay) i (rows none (m.bits.take i))) m.bits.length (fun i=>1≤i) (fun i hi h1i J hJ next=>?_)
    rw [Bv]
    simp (disch:=first | assumption | omega) only [go_sem]
    refine bM (fun cT=>?_) (fun qg=>?_)
    · have h4:=uq h2 i
      simp (disch:=first | assumption | omega) only [go_sem]
      rw [tn m.bits i [] (by omega)]
      exact next (by omega) (by omega)
    · have e:i=m.bits.length:=by omega
      subst e
      rw [List.take_length]
      simp (disch:=first | assumption | omega) only [go_sem]
  refine Cm.step LH [.undef] fun J hJ=>?_
  rw [LI]
  simp (disch:=first | assumption | omega) only [go_sem]
  refine hJ _ _ ?_
  refine WP.step fun J hJ=>?_
  rw [Eo]
  simp (disch:=first | assumption | omega) only [go_sem]
  refine bM (fun cT=>?_) (fun qg=>?_)
  · have h4:=uq h2 0
    simp (disch:=first | assumption | omega) only [go_sem]
    have h5:=hJ _ _ (key 1 (by omega) (by omega))
    rw [← tn m.bits 0 [] (by omega)] at h5
    exact h5
  · have e:m.bits=[]:=List.length_eq_zero_iff.1 (by omega)
    obtain ⟨a,b,f,o,h,l⟩:=m
    dsimp only at e
    subst e
    rfl
@[go_sem] theorem aaH (m:aI) (q0:cJ m) (t:bG Rz):aO 97 [.agg (sc (some true) m)] t=feed t [enc .mt (m)]:=by
  exact bO (r:=enc .mt (m)) (s:=.ty .mt) (ss:=[.undef]) (LO m q0) (by kernel_rfl) (by simp only [av,bA,ba,bB,bC,ai,aj,Bool.and_self]) (by simp only [ai,aJ,av,aj,Bool.and_self]) (by first | rfl | simp only [au,aY,aX,bu,bw,aZ,bz,Bool.and_self]) (by first | rfl | simp only [List.all_cons,List.all_nil,au,Bool.and_self]) t
theorem LP (n:ae) (q0:bS n):Cm 40 [.agg (U (some true) n)] (.agg (U none (n)),[.undef]):=by
  have h1:=q0.image
  have h2:=q0.mt
  have h3:=q0.aM
  have h4:=q0.conn
  have h5:=q0.sync
  have h6:=q0.aK
  have h7:=q0.wait
  have h8:=h5.1
  have key:∀ i,i≤n.sync.length→1≤i→WP 40 Tryz.f40 [.undef] 0 (jd n i 0 false false false false false 0 n.image.length (ints n.image) n.mt.ay.length (ints n.mt.ay) n.mt.bits.length (rows none n.mt.bits) n.mt.cI n.mt.bN n.mt.held n.mt.last n.aM.a.length (bytes n.aM.a) n.aM.b.length (bytes n.aM.b) n.conn.length (aD n.conn) i (rows none (n.sync.take i)) n.aK.length (aD n.aK) n.wait.length (ints n.wait)) (.agg (U none n),[.undef]):=by
    refine WP.up (H:=fun i=>jd n i 0 false false false false false 0 n.image.length (ints n.image) n.mt.ay.length (ints n.mt.ay) n.mt.bits.length (rows none n.mt.bits) n.mt.cI n.mt.bN n.mt.held n.mt.last n.aM.a.length (bytes n.aM.a) n.aM.b.length (bytes n.aM.b) n.conn.length (aD n.conn) i (rows none (n.sync.take i)) n.aK.length (aD n.aK) n.wait.length (ints n.wait)) n.sync.length (fun i=>1≤i) (fun i hi h1i J hJ next=>?_)
    rw [By]
    simp (disch:=first | assumption | omega) only [go_sem]
    refine bM (fun cT=>?_) (fun qg=>?_)
    · have h4:=uq h5 i
      simp (disch:=first | assumption | omega) only [go_sem]
      rw [tn n.sync i [] (by omega)]
      exact next (by omega) (by omega)
    · have e:i=n.sync.length:=by omega
      subst e
      rw [List.take_length]
      first | rfl | (simp (disch:=first | assumption | omega) only [go_sem]; done) | (simp (disch:=first | assumption | omega) only [go_sem]; rfl)
  refine Cm.step LL [.undef] fun J hJ=>?_
  rw [LM]
  simp (disch:=first | assumption | omega) only [go_sem]
  refine hJ _ _ ?_
  refine WP.step fun J hJ=>?_
  rw [Ep]
  simp (disch:=first | assumption | omega) only [go_sem]
  refine bM (fun cT=>?_) (fun qg=>?_)
  · have h4:=uq h5 0
    simp (disch:=first | assumption | omega) only [go_sem]
    have h5:=hJ _ _ (key 1 (by omega) (by omega))
    rw [← tn n.sync 0 [] (by omega)] at h5
    exact h5
  · have e:n.sync=[]:=List.length_eq_zero_iff.1 (by omega)
    obtain ⟨a1,a2,a3,a4,a5,a6,a7,a8,a9,a10⟩:=n
    dsimp only at e
    subst e
    rfl
@[go_sem] theorem aaI (n:ae) (q0:bS n) (t:bG Rz):aO 40 [.agg (fq (some true) n)] t=feed t [enc .node (n)]:=by
  exact bO (r:=enc .node (n)) (s:=.ty .node) (ss:=[.undef]) (LP n q0) (by kernel_rfl) (by simp only [av,bA,ba,bB,bC,ai,aj,Bool.and_self]) (by simp only [ai,aJ,av,aj,Bool.and_self]) (by first | rfl | simp only [au,aY,aX,bu,bw,aZ,bz,Bool.and_self]) (by first | rfl | simp only [List.all_cons,List.all_nil,au,Bool.and_self]) t
end Go.Proofs.YtockoilcnmljiaaGreat
namespace Go.Proofs.YtockoilcnmljiaaGreat
set_option maxRecDepth 100000
section
variable (pr:dT) (cv:Cv Rz) (J:Nat→St→Option Rz)
theorem ON:Told cfg Tryz.prog 14 Tryz.f14:=⟨by kernel_rfl,Tryz.func14,by kernel_rfl⟩
theorem OO (x0:ae):aQ pr cv J 14 Tryz.f14 [(.agg (U (some true) x0))]=
    (cv 47 [(.agg (U (some true) x0))] (.ty fk.node (fun (ax:ae)=>(.done (cv 48 [(.agg (cA true (U none ax)))] (.bool (fun eN=>(.done (br (br eN false true) (some ((.aL [(.agg (U none ax)),(.bool false)]),[.undef])) (br (br ax.cE false true) (some ((.aL [(.agg (U none ax)),(.bool false)]),[.undef])) (some ((.aL [(.agg [(.int .i64 ax.id),(.bool ax.up),(.bool false),(sI none ax.image),(sI none ax.mt.ay),(sR none ax.mt.bits),(.bool ax.mt.cI),(.bool ax.mt.bN),(.bool ax.mt.held),(.int .i64 ax.mt.last),(s8 none ax.aM.a),(s8 none ax.aM.b),(sB none ax.conn),(sR none ax.sync),(sB none ax.aK),(.sl none 1 0 [])]),(.bool true)]),[.undef])))))))))))):=by kernel_rfl
theorem OP:Told cfg Tryz.prog 12 Tryz.f12:=⟨by kernel_rfl,Tryz.func12,by kernel_rfl⟩
theorem OQ (x0:ae):aQ pr cv J 12 Tryz.f12 [(.agg (U (some true) x0))]=
    (cv 40 [(.agg (U (some true) x0))] (.ty fk.node (fun (ax:ae)=>(.done (cv 41 [(.agg (U (some true) x0))] (.bool (fun eN=>(.done (br (br eN false true) (some ((.aL [(.agg (U none ax)),(.bool false)]),[.undef])) (br (br x0.cE false true) (some ((.aL [(.agg (U none ax)),(.bool false)]),[.undef])) (some ((.aL [(.agg [(.int .i64 ax.id),(.bool ax.up),(.bool false),(sI none ax.image),(sI none ax.mt.ay),(sR none ax.mt.bits),(.bool ax.mt.cI),(.bool ax.mt.bN),(.bool ax.mt.held),(.int .i64 ax.mt.last),(s8 none ax.aM.a),(s8 none ax.aM.b),(sB none ax.conn),(sR none ax.sync),(sB none ax.aK),(.sl none 1 0 [])]),(.bool true)]),[.undef])))))))))))):=by kernel_rfl
theorem PI:Told cfg Tryz.prog 19 Tryz.f19:=⟨by kernel_rfl,Tryz.func19,by kernel_rfl⟩
theorem PJ (x0:ae) (x1:ae) (x2:Bool):aQ pr cv J 19 Tryz.f19 [(.agg (U (some true) x0)),(.agg (U (some true) x1)),(.bool x2)]=
    (cv 65 [(.agg (U (some true) x0)),(.agg (U (some true) x1)),(.bool x2)] (.bool (fun cf=>(.done (cv 47 [(.agg (U (some true) x0))] (.ty fk.node (fun (ff:ae)=>(.done (br ff.cE (some ((.aL [(.agg [(.int .i64 ff.id),(.bool ff.up),(.bool true),(sI none ff.image),(sI none ff.mt.ay),(sR none ff.mt.bits),(.bool ff.mt.cI),(.bool ff.mt.bN),(.bool ff.mt.held),(.int .i64 ff.mt.last),(s8 none ff.aM.a),(s8 none ff.aM.b),(sB none ff.conn),(sR none ff.sync),(sB none ff.aK),(sI none ff.wait)]),(.bool cf)]),[.undef,.undef,.undef])) (some ((.aL [(.agg [(.int .i64 ff.id),(.bool ff.up),(.bool cf),(sI none ff.image),(sI none ff.mt.ay),(sR none ff.mt.bits),(.bool ff.mt.cI),(.bool ff.mt.bN),(.bool ff.mt.held),(.int .i64 ff.mt.last),(s8 none ff.aM.a),(s8 none ff.aM.b),(sB none ff.conn),(sR none ff.sync),(sB none ff.aK),(sI none ff.wait)]),(.bool cf)]),[.undef,.undef,.undef]))))))))))):=by kernel_rfl
theorem PK:Told cfg Tryz.prog 18 Tryz.f18:=⟨by kernel_rfl,Tryz.func18,by kernel_rfl⟩
theorem PL (x0:ae) (x1:ae) (x2:Bool):aQ pr cv J 18 Tryz.f18 [(.agg (U (some true) x0)),(.agg (U (some true) x1)),(.bool x2)]=
    (cv 40 [(.agg (U (some true) x0))] (.ty fk.node (fun (ax:ae)=>(.done (cv 64 [(.agg (U (some true) x0)),(.agg (U (some true) x1)),(.bool x2)] (.bool (fun eN=>(.done (br (br eN false true) (some ((.aL [(.agg (U none ax)),(.bool false)]),[.undef,.undef,.undef])) (some ((.aL [(.agg [(.int .i64 ax.id),(.bool ax.up),(.bool true),(sI none ax.image),(sI none ax.mt.ay),(sR none ax.mt.bits),(.bool ax.mt.cI),(.bool ax.mt.bN),(.bool ax.mt.held),(.int .i64 ax.mt.last),(s8 none ax.aM.a),(s8 none ax.aM.b),(sB none ax.conn),(sR none ax.sync),(sB none ax.aK),(sI none ax.wait)]),(.bool true)]),[.undef,.undef,.undef]))))))))))):=by kernel_rfl
end
noncomputable def je (n:ae):ae × Bool:=if (dC n&&n.cE)=true then ({ n with cE:=false,wait:=[] },true) else (n,false)
theorem OR (n:ae) (q0:bS n):Cm 14 [.agg (U (some true) n)] (.aL [.agg (U none ((je n).1)),.bool ((je n).2)],[.undef]):=by
  refine Cm.step ON [.undef] fun J hJ=>?_
  rw [OO]
  unfold je
  simp (disch:=first | assumption | omega) only [go_sem]
  cases h1:dC n<;>cases h2:n.cE<;>rfl
@[go_sem] theorem ac5 (n:ae) (q0:bS n) (t:bG Rz):aO 14 [.agg (fq (some true) n)] t=feed t [enc .node ((je n).1),.bool ((je n).2)]:=by
  exact bO (r:=.aL [enc .node ((je n).1),.bool ((je n).2)]) (s:=.aL [.ty .node,.bool]) (ss:=[.undef]) (OR n q0) (by kernel_rfl) (by simp only [av,bA,ba,bB,bC,ai,aj,Bool.and_self]) (by simp only [ai,aJ,av,aj,Bool.and_self]) (by first | rfl | simp only [au,aY,aX,bu,bw,aZ,bz,Bool.and_self]) (by first | rfl | simp only [List.all_cons,List.all_nil,au,Bool.and_self]) t
theorem OT (n:ae) (q0:bS n):Cm 12 [.agg (U (some true) n)] (.aL [.agg (U none ((je n).1)),.bool ((je n).2)],[.undef]):=by
  refine Cm.step OP [.undef] fun J hJ=>?_
  rw [OQ]
  unfold je
  simp (disch:=first | assumption | omega) only [go_sem]
  cases h1:dC n<;>cases h2:n.cE<;>rfl
@[go_sem] theorem ac6 (n:ae) (q0:bS n) (t:bG Rz):aO 12 [.agg (fq (some true) n)] t=feed t [enc .node ((je n).1),.bool ((je n).2)]:=by
  exact bO (r:=.aL [enc .node ((je n).1),.bool ((je n).2)]) (s:=.aL [.ty .node,.bool]) (ss:=[.undef]) (OT n q0) (by kernel_rfl) (by simp only [av,bA,ba,bB,bC,ai,aj,Bool.and_self]) (by simp only [ai,aJ,av,aj,Bool.and_self]) (by first | rfl | simp only [au,aY,aX,bu,bw,aZ,bz,Bool.and_self]) (by first | rfl | simp only [List.all_cons,List.all_nil,au,Bool.and_self]) t
noncomputable def np (x y:ae) (q:Bool):ae × Bool:=if im x y q=true then ({ x with cE:=true },true) else (x,false)
theorem SA {x y:ae} {q:Bool} (h:im x y q=true):x.cE=false:=by
  unfold im at h
  simp only [Bool.and_eq_true,Bool.not_eq_true'] at h
  exact h.2.2.2.2.1
theorem PM (x:ae) (y:ae) (q:Bool) (q0:bS x) (q1:bS y):Cm 19 [.agg (U (some true) x),.agg (U (some true) y),.bool q] (.aL [.agg (U none ((np x y q).1)),.bool ((np x y q).2)],[.undef,.undef,.undef]):=by
  refine Cm.step PI [.undef,.undef,.undef] fun J hJ=>?_
  rw [PJ]
  have h3:=@SA x y q
  unfold np
  simp (disch:=first | assumption | omega) only [go_sem]
  generalize im x y q=m at h3 ⊢
  obtain ⟨a1,a2,a3,a4,a5,a6,a7,a8,a9,a10⟩:=x
  cases m with
  | true=>
    have:=h3 rfl
    dsimp only at this
    subst this
    rfl
  | false=>cases a3<;>rfl
@[go_sem] theorem adw (x:ae) (y:ae) (q:Bool) (q0:bS x) (q1:bS y) (t:bG Rz):aO 19 [.agg (fq (some true) x),.agg (fq (some true) y),.bool q] t=feed t [enc .node ((np x y q).1),.bool ((np x y q).2)]:=by
  exact bO (r:=.aL [enc .node ((np x y q).1),.bool ((np x y q).2)]) (s:=.aL [.ty .node,.bool]) (ss:=[.undef,.undef,.undef]) (PM x y q q0 q1) (by kernel_rfl) (by simp only [av,bA,ba,bB,bC,ai,aj,Bool.and_self]) (by simp only [ai,aJ,av,aj,Bool.and_self]) (by first | rfl | simp only [au,aY,aX,bu,bw,aZ,bz,Bool.and_self]) (by first | rfl | simp only [List.all_cons,List.all_nil,au,Bool.and_self]) t
theorem PN (x:ae) (y:ae) (q:Bool) (q0:bS x) (q1:bS y):Cm 18 [.agg (U (some true) x),.agg (U (some true) y),.bool q] (.aL [.agg (U none ((np x y q).1)),.bool ((np x y q).2)],[.undef,.undef,.undef]):=by
  refine Cm.step PK [.undef,.undef,.undef] fun J hJ=>?_
  rw [PL]
  unfold np
  simp (disch:=first | assumption | omega) only [go_sem]
  generalize im x y q=m
  cases m<;>rfl
@[go_sem] theorem adx (x:ae) (y:ae) (q:Bool) (q0:bS x) (q1:bS y) (t:bG Rz):aO 18 [.agg (fq (some true) x),.agg (fq (some true) y),.bool q] t=feed t [enc .node ((np x y q).1),.bool ((np x y q).2)]:=by
  exact bO (r:=.aL [enc .node ((np x y q).1),.bool ((np x y q).2)]) (s:=.aL [.ty .node,.bool]) (ss:=[.undef,.undef,.undef]) (PN x y q q0 q1) (by kernel_rfl) (by simp only [av,bA,ba,bB,bC,ai,aj,Bool.and_self]) (by simp only [ai,aJ,av,aj,Bool.and_self]) (by first | rfl | simp only [au,aY,aX,bu,bw,aZ,bz,Bool.and_self]) (by first | rfl | simp only [List.all_cons,List.all_nil,au,Bool.and_self]) t
end Go.Proofs.YtockoilcnmljiaaGreat
namespace Go.Proofs.YtockoilcnmljiaaGreat
set_option maxRecDepth 100000
section
variable (pr:dT) (cv:Cv Rz) (J:Nat→St→Option Rz)
def Bz (g0:Bool) (x0:List UInt8) (x1:Int) (i0:Int):St:=(St.mk [(0,(s8 (some g0) x0)),(1,(.int .i64 x1)),(5,(.int .i64 i0))] [] [] 0)
def jn (g0:Bool) (x0:List UInt8) (i0:Int) (i1:Int):St:=(St.mk [(0,(s8 (some g0) x0)),(1,(.int .i64 i0)),(5,(.int .i64 i1))] [] [] 0)
theorem Et:Told cfg Tryz.prog 118 Tryz.f118:=⟨by kernel_rfl,Tryz.func118,by kernel_rfl⟩
theorem Eu (g0:Bool) (x0:List UInt8) (x1:Int):aQ pr cv J 118 Tryz.f118 [(s8 (some g0) x0),(.int .i64 x1)]=
    (J 0 (Bz g0 x0 x1 0)):=by kernel_rfl
theorem xU (g0:Bool) (x0:List UInt8) (i0:Int) (i1:Int):bJ pr cv J 118 Tryz.f118 [.undef,.undef] 0 (jn g0 x0 i0 i1)=
    (br (pr.lt i1 (pr.aS x0.length)) (br (pr.bD i1 x0.length) (br (br (pr.cw .u8 (bytes x0) (pr.idx 0 i1 1)) true false) (br (br (pr.eq (pr.bn (bytes x0) (pr.idx 0 i1 1)) (pr.wrap .u8 i0)) false true) (some ((.int .i64 (-1)),[.undef,.undef])) (J 0 (jn g0 x0 (pr.ar .add .i64 i0 1) (pr.ar .add .i64 i1 1)))) none) none) (some ((.int .i64 i0),[.undef,.undef]))):=by kernel_rfl
def BA (g0:Bool) (x0:List Bool) (x1:Int) (i0:Int):St:=(St.mk [(0,(sB (some g0) x0)),(1,(.int .i64 x1)),(5,(.int .i64 i0))] [] [] 0)
def jo (g0:Bool) (x0:List Bool) (i0:Int) (i1:Int):St:=(St.mk [(0,(sB (some g0) x0)),(1,(.int .i64 i0)),(5,(.int .i64 i1))] [] [] 0)
theorem Ew:Told cfg Tryz.prog 62 Tryz.f62:=⟨by kernel_rfl,Tryz.func62,by kernel_rfl⟩
theorem Ex (g0:Bool) (x0:List Bool) (x1:Int):aQ pr cv J 62 Tryz.f62 [(sB (some g0) x0),(.int .i64 x1)]=
    (J 0 (BA g0 x0 x1 0)):=by kernel_rfl
theorem xV (g0:Bool) (x0:List Bool) (i0:Int) (i1:Int):bJ pr cv J 62 Tryz.f62 [.undef,.undef] 0 (jo g0 x0 i0 i1)=
    (br (pr.lt i1 (pr.aS x0.length)) (br (pr.bD i1 x0.length) (br (br (pr.df (aD x0) (pr.idx 0 i1 1)) true false) (br (br (pr.eq 3 0) false true) (br (br (pr.beq (pr.cg (aD x0) (pr.idx 0 i1 1)) (pr.eq (pr.ar .rem .i64 i0 3) 0)) false true) (some ((.int .i64 (-1)),[.undef,.undef])) (J 0 (jo g0 x0 (pr.ar .add .i64 i0 1) (pr.ar .add .i64 i1 1)))) none) none) none) (some ((.int .i64 i0),[.undef,.undef]))):=by kernel_rfl
def BB (g0:Bool) (x0:List (List Int)) (x1:Int) (i0:Int):St:=(St.mk [(0,(sR (some g0) x0)),(1,(.int .i64 x1)),(5,(.int .i64 i0))] [] [] 0)
def jq (g0:Bool) (x0:List (List Int)) (i0:Int) (i1:Int):St:=(St.mk [(0,(sR (some g0) x0)),(1,(.int .i64 i0)),(5,(.int .i64 i1))] [] [] 0)
theorem Ey:Told cfg Tryz.prog 63 Tryz.f63:=⟨by kernel_rfl,Tryz.func63,by kernel_rfl⟩
theorem Ez (g0:Bool) (x0:List (List Int)) (x1:Int):aQ pr cv J 63 Tryz.f63 [(sR (some g0) x0),(.int .i64 x1)]=
    (J 0 (BB g0 x0 x1 0)):=by kernel_rfl
theorem xW (g0:Bool) (x0:List (List Int)) (i0:Int) (i1:Int):bJ pr cv J 63 Tryz.f63 [.undef,.undef] 0 (jq g0 x0 i0 i1)=
    (br (pr.lt i1 (pr.aS x0.length)) (br (pr.bD i1 x0.length) (br (br (pr.bU 1 (rows (some g0) x0) (pr.idx 0 i1 1)) true false) (cv 59 [(.sl (some (pr.bo (rows (some g0) x0) (pr.idx 0 i1 1))) 1 (pr.aR (rows (some g0) x0) (pr.idx 0 i1 1)) (pr.aV (rows (some g0) x0) (pr.idx 0 i1 1))),(.int .i64 i0)] (.int (fun dm=>(.done (br (pr.lt dm 0) (some ((.int .i64 (-1)),[.undef,.undef])) (J 0 (jq g0 x0 dm (pr.ar .add .i64 i1 1)))))))) none) none) (some ((.int .i64 i0),[.undef,.undef]))):=by kernel_rfl
theorem G6:Told cfg Tryz.prog 55 Tryz.f55:=⟨by kernel_rfl,Tryz.func55,by kernel_rfl⟩
theorem G7 (x0:aI) (x1:Int):aQ pr cv J 55 Tryz.f55 [(.agg (bR none x0)),(.int .i64 x1)]=
    (br (br (br (pr.nl (ints x0.ay)) true false) true false) (cv 54 [(sI none x0.ay),(.int .i64 x1)] (.int (fun dm=>(.sl (fun tH=>(fun qE=>(.done (br (br (br (pr.nl qE) true false) true false) (br (br (br (pr.neq x0.ay.length tH) true false) true false) (br (br (br (pr.nl (rows none x0.bits)) true false) true false) (cv 58 [(sR none x0.bits),(.int .i64 dm)] (.int (fun q8=>(.sl (fun xq=>(fun tF=>(.done (br (br (br (pr.nl tF) true false) true false) (br (br (br (pr.neq x0.bits.length xq) true false) true false) (some ((.int .i64 q8),[(.agg [(.sl none 1 tH qE),(.sl none 1 xq tF),(.bool x0.cI),(.bool x0.bN),(.bool x0.held),(.int .i64 x0.last)]),.undef])) none) none)))))))) none) none) none)))))))) none):=by kernel_rfl
theorem EA:Told cfg Tryz.prog 56 Tryz.f56:=⟨by kernel_rfl,Tryz.func56,by kernel_rfl⟩
theorem EB (x0:aG) (x1:Int):aQ pr cv J 56 Tryz.f56 [(.agg (cO none x0)),(.int .i64 x1)]=
    (br (br (br (pr.nl (bytes x0.a)) true false) true false) (cv 117 [(s8 none x0.a),(.int .i64 x1)] (.int (fun dm=>(.sl (fun tH=>(fun qE=>(.done (br (br (br (pr.nl qE) true false) true false) (br (br (br (pr.neq x0.a.length tH) true false) true false) (br (br (br (pr.nl (bytes x0.b)) true false) true false) (cv 117 [(s8 none x0.b),(.int .i64 dm)] (.int (fun q8=>(.sl (fun xq=>(fun tF=>(.done (br (br (br (pr.nl tF) true false) true false) (br (br (br (pr.neq x0.b.length xq) true false) true false) (some ((.int .i64 q8),[(.agg [(.sl none 1 tH qE),(.sl none 1 xq tF)]),.undef])) none) none)))))))) none) none) none)))))))) none):=by kernel_rfl
theorem G8:Told cfg Tryz.prog 16 Tryz.f16:=⟨by kernel_rfl,Tryz.func16,by kernel_rfl⟩
theorem G9 (x0:ae) (x1:Int):aQ pr cv J 16 Tryz.f16 [(.agg (U none x0)),(.int .i64 x1)]=
    (br (br (br (pr.nl (ints x0.image)) true false) true false) (cv 54 [(sI none x0.image),(.int .i64 x1)] (.int (fun dm=>(.sl (fun tH=>(fun qE=>(.done (br (br (br (pr.nl qE) true false) true false) (br (br (br (pr.neq x0.image.length tH) true false) true false) (br (br (br (pr.nl (ints x0.mt.ay)) (br (pr.nl (rows none x0.mt.bits)) true false) false) true false) (cv 55 [(.agg (bR none x0.mt)),(.int .i64 dm)] (.int (fun q8=>(.sl (fun xq=>(fun tF=>(.sl (fun YI=>(fun UO=>(.bool (fun QL=>(.bool (fun vb9=>(.bool (fun al5=>(.int (fun yN=>(.done (br (br (br (pr.nl tF) (br (pr.nl UO) true false) false) true false) (br (br (br (pr.neq x0.mt.ay.length xq) (br (pr.neq x0.mt.bits.length YI) true false) false) true false) (br (br (br (pr.nl (bytes x0.aM.a)) (br (pr.nl (bytes x0.aM.b)) true false) false) true false) (cv 56 [(.agg (cO none x0.aM)),(.int .i64 q8)] (.int (fun ag2=>(.sl (fun ac7=>(fun ac8=>(.sl (fun IK=>(fun wE=>(.done (br (br (br (pr.nl ac8) (br (pr.nl wE) true false) false) true false) (br (br (br (pr.neq x0.aM.a.length ac7) (br (pr.neq x0.aM.b.length IK) true false) false) true false) (br (br (br (pr.nl (aD x0.conn)) true false) true false) (cv 57 [(sB none x0.conn),(.int .i64 ag2)] (.int (fun OB=>(.sl (fun HY=>(fun DW=>(.done (br (br (br (pr.nl DW) true false) true false) (br (br (br (pr.neq x0.conn.length HY) true false) true false) (br (br (br (pr.nl (rows none x0.sync)) true false) true false) (cv 58 [(sR none x0.sync),(.int .i64 OB)] (.int (fun ag3=>(.sl (fun ac9=>(fun ada=>(.done (br (br (br (pr.nl ada) true false) true false) (br (br (br (pr.neq x0.sync.length ac9) true false) true false) (br (br (br (pr.nl (aD x0.aK)) true false) true false) (cv 57 [(sB none x0.aK),(.int .i64 ag3)] (.int (fun adb=>(.sl (fun SB=>(fun SC=>(.done (br (br (br (pr.nl SC) true false) true false) (br (br (br (pr.neq x0.aK.length SB) true false) true false) (br (br (br (pr.nl (ints x0.wait)) true false) true false) (cv 54 [(sI none x0.wait),(.int .i64 adb)] (.int (fun ag4=>(.sl (fun ade=>(fun adf=>(.done (br (br (br (pr.nl adf) true false) true false) (br (br (br (pr.neq x0.wait.length ade) true false) true false) (some ((.int .i64 ag4),[(.agg [(.int .i64 x0.id),(.bool x0.up),(.bool x0.cE),(.sl none 1 tH qE),(.sl none 1 xq tF),(.sl none 1 YI UO),(.bool x0.mt.cI),(.bool x0.mt.bN),(.bool x0.mt.held),(.int .i64 x0.mt.last),(.sl none 1 ac7 ac8),(.sl none 1 IK wE),(.sl none 1 HY DW),(.sl none 1 ac9 ada),(.sl none 1 SB SC),(.sl none 1 ade adf)]),.undef])) none) none)))))))) none) none) none)))))))) none) none) none)))))))) none) none) none)))))))) none) none) none))))))))))) none) none) none))))))))))))))))))) none) none) none)))))))) none):=by kernel_rfl
theorem Ha:Told cfg Tryz.prog 60 Tryz.f60:=⟨by kernel_rfl,Tryz.func60,by kernel_rfl⟩
theorem Hb (g0:Bool) (x0:aI) (x1:Int):aQ pr cv J 60 Tryz.f60 [(.agg (bR (some g0) x0)),(.int .i64 x1)]=
    let y1:Option (D × List D):=(some ((.int .i64 (-1)),[.undef,.undef]))
    (cv 59 [(sI (some g0) x0.ay),(.int .i64 x1)] (.int (fun dm=>(.done (br (pr.lt dm 0) y1 (cv 63 [(sR (some g0) x0.bits),(.int .i64 dm)] (.int (fun gP=>(.done (br (pr.lt gP 0) y1 (some ((.int .i64 gP),[.undef,.undef])))))))))))):=by kernel_rfl
theorem EC:Told cfg Tryz.prog 61 Tryz.f61:=⟨by kernel_rfl,Tryz.func61,by kernel_rfl⟩
theorem ED (g0:Bool) (x0:aG) (x1:Int):aQ pr cv J 61 Tryz.f61 [(.agg (cO (some g0) x0)),(.int .i64 x1)]=
    let y1:Option (D × List D):=(some ((.int .i64 (-1)),[.undef,.undef]))
    (cv 118 [(s8 (some g0) x0.a),(.int .i64 x1)] (.int (fun dm=>(.done (br (pr.lt dm 0) y1 (cv 118 [(s8 (some g0) x0.b),(.int .i64 dm)] (.int (fun gP=>(.done (br (pr.lt gP 0) y1 (some ((.int .i64 gP),[.undef,.undef])))))))))))):=by kernel_rfl
theorem Hc:Told cfg Tryz.prog 17 Tryz.f17:=⟨by kernel_rfl,Tryz.func17,by kernel_rfl⟩
theorem Hd (g0:Bool) (x0:ae) (x1:Int):aQ pr cv J 17 Tryz.f17 [(.agg (U (some g0) x0)),(.int .i64 x1)]=
    let y1:Option (D × List D):=(some ((.int .i64 (-1)),[.undef,.undef]))
    (cv 59 [(sI (some g0) x0.image),(.int .i64 x1)] (.int (fun dm=>(.done (br (pr.lt dm 0) y1 (cv 60 [(.agg (bR (some g0) x0.mt)),(.int .i64 dm)] (.int (fun gP=>(.done (br (pr.lt gP 0) y1 (cv 61 [(.agg (cO (some g0) x0.aM)),(.int .i64 gP)] (.int (fun qD=>(.done (br (pr.lt qD 0) y1 (cv 62 [(sB (some g0) x0.conn),(.int .i64 qD)] (.int (fun q8=>(.done (br (pr.lt q8 0) y1 (cv 63 [(sR (some g0) x0.sync),(.int .i64 q8)] (.int (fun nL=>(.done (br (pr.lt nL 0) y1 (cv 62 [(sB (some g0) x0.aK),(.int .i64 nL)] (.int (fun q9=>(.done (br (pr.lt q9 0) y1 (cv 59 [(sI (some g0) x0.wait),(.int .i64 q9)] (.int (fun Uy=>(.done (br (pr.lt Uy 0) y1 (some ((.int .i64 Uy),[.undef,.undef]))))))))))))))))))))))))))))))))))))):=by kernel_rfl
end
section
variable (t:bG Rz)
@[go_sem] theorem aew (n:Nat) (xs:List Int) (k:Int) (hn:n=xs.length) (h0:0≤k) (h1:k+xs.length < 9223372036854775807):aO 54 [.sl none 1 n (ints xs),.int .i64 k] t=feed t [.int .i64 (k+xs.length),.sl none 1 xs.length (ints (iZ k xs.length))]:=Gw t n xs k hn h0 h1
@[go_sem] theorem ady (n:Nat) (xs:List UInt8) (k:Int) (hn:n=xs.length) (h0:0≤k) (h1:k+xs.length < 9223372036854775807):aO 117 [.sl none 1 n (bytes xs),.int .i64 k] t=feed t [.int .i64 (k+xs.length),.sl none 1 xs.length (bytes (oX k xs.length))]:=Pn t n xs k hn h0 h1
@[go_sem] theorem adz (n:Nat) (xs:List Bool) (k:Int) (hn:n=xs.length) (h0:0≤k) (h1:k+xs.length < 9223372036854775807):aO 57 [.sl none 1 n (aD xs),.int .i64 k] t=feed t [.int .i64 (k+xs.length),.sl none 1 xs.length (aD (nK k xs.length))]:=Po t n xs k hn h0 h1
@[go_sem] theorem adA (n:Nat) (xss:List (List Int)) (k:Int) (hn:n=xss.length) (h0:0≤k) (h1:k+dw xss < 9223372036854775807) (hs:xss.length < 9223372036854775807):aO 58 [.sl none 1 n (rows none xss),.int .i64 k] t=feed t [.int .i64 (k+dw xss),.sl none 1 xss.length (rows none (lV k xss))]:=Pq t n xss k hn h0 h1 hs
end
theorem ur {xss:List (List Int)} (h:ra xss):dw xss≤1048576*xss.length:=by
  have key:∀ l:List (List Int),(∀ x∈l,x.length≤1048576)→dw l≤1048576*l.length:=by
    intro l
    induction l with
    | nil=>intro _; simp [dw]
    | cons x l ih=>
      intro hl
      have h1:=ih fun y hy=>hl y (by simp [hy])
      have h2:=hl x (by simp)
      simp only [dw,List.map_cons,List.sum_cons,List.length_cons] at h1 ⊢
      omega
  exact key xss h.2
theorem kf (k:Int) (n:Nat):(iZ k n).length=n:=dA k n
theorem kg (k:Int) (n:Nat):(oX k n).length=n:=dZ k n
theorem kh (k:Int) (n:Nat):(nK k n).length=n:=ea k n
theorem ki (k:Int) (x:List (List Int)):(lV k x).length=x.length:=eC k x
@[go_sem] theorem akT (k:Int) (n:Nat):decide (n=(iZ k n).length)=true:=by simp [dA]
@[go_sem] theorem akU (k:Int) (n:Nat):decide (n=(oX k n).length)=true:=by simp [dZ]
@[go_sem] theorem akV (k:Int) (n:Nat):decide (n=(nK k n).length)=true:=by simp [ea]
@[go_sem] theorem akW (k:Int) (x:List (List Int)):decide (x.length=(lV k x).length)=true:=by simp [eC]
abbrev OU (k:Int) (m:aI):aI:=⟨iZ k m.ay.length,lV (k+m.ay.length) m.bits,m.cI,m.bN,m.held,m.last⟩
abbrev OV (k:Int) (s:aG):aG:=⟨oX k s.a.length,oX (k+s.a.length) s.b.length⟩
def lC (m:aI):Nat:=m.ay.length+dw m.bits
def mz (s:aG):Nat:=s.a.length+s.b.length
theorem SD (m:aI) (k:Int) (h0:0≤k) (h1:k≤2305843009213693952) (ok:cJ m):Cm 55 [.agg (bR none m),.int .i64 k] (.int .i64 (k+lC m),[.agg (bR none (OU k m)),.undef]):=by
  have a1:=ok.ay
  have a2:=ok.bits
  have a3:=a2.1
  have a4:=ur a2
  refine Cm.step G6 _ fun J _=>?_
  rw [G7]
  unfold lC
  rw [show k+((m.ay.length+dw m.bits:Nat):Int)=k+m.ay.length+dw m.bits by omega]
  simp (disch:=first | assumption | omega | (simp only [dA,dZ,ea,eC]; done)) only [go_sem,kf,kg,kh,ki]
theorem PO (m:aG) (k:Int) (h0:0≤k) (h1:k≤2305843009213693952) (ok:dJ m):Cm 56 [.agg (cO none m),.int .i64 k] (.int .i64 (k+mz m),[.agg (cO none (OV k m)),.undef]):=by
  have a1:=ok.a
  have a2:=ok.b
  refine Cm.step EA _ fun J _=>?_
  rw [EB]
  unfold mz
  rw [show k+((m.a.length+m.b.length:Nat):Int)=k+m.a.length+m.b.length by omega]
  simp (disch:=first | assumption | omega | (simp only [dA,dZ,ea,eC]; done)) only [go_sem,kf,kg,kh,ki]
section
variable (t:bG Rz)
@[go_sem] theorem aex (m:aI) (k:Int) (h0:0≤k) (h1:k≤2305843009213693952) (ok:cJ m):aO 55 [.agg (sc none m),.int .i64 k] t=feed t (.int .i64 (k+lC m)::bR none (OU k m)):=aT (SD m k h0 h1 ok) (by kernel_rfl) t
@[go_sem] theorem adB (m:aG) (k:Int) (h0:0≤k) (h1:k≤2305843009213693952) (ok:dJ m):aO 56 [.agg (mR none m),.int .i64 k] t=feed t (.int .i64 (k+mz m)::cO none (OV k m)):=aT (PO m k h0 h1 ok) (by kernel_rfl) t
end
theorem EE {m:aI} (ok:cJ m):lC m≤1099512676352:=by
  have a1:=ok.ay
  have a2:=ur ok.bits
  have a3:=ok.bits.1
  unfold lC
  omega
theorem EF {m:aG} (ok:dJ m):mz m≤2097152:=by
  have a1:=ok.a
  have a2:=ok.b
  unfold mz
  omega
abbrev SE (k:Int) (n:ae):ae:=⟨n.id,n.up,n.cE,iZ k n.image.length,OU (k+n.image.length) n.mt,OV (k+n.image.length+lC n.mt) n.aM,nK (k+n.image.length+lC n.mt+mz n.aM) n.conn.length,lV (k+n.image.length+lC n.mt+mz n.aM+n.conn.length) n.sync,nK (k+n.image.length+lC n.mt+mz n.aM+n.conn.length+dw n.sync) n.aK.length,iZ (k+n.image.length+lC n.mt+mz n.aM+n.conn.length+dw n.sync+n.aK.length) n.wait.length⟩
def sd (n:ae):Nat:=n.image.length+lC n.mt+mz n.aM+n.conn.length+dw n.sync+n.aK.length+n.wait.length
theorem OW {n:ae} (ok:bS n):sd n≤4398046511104:=by
  have a1:=ok.image
  have a2:=EE ok.mt
  have a3:=EF ok.aM
  have a4:=ok.conn
  have a5:=ur ok.sync
  have a6:=ok.sync.1
  have a7:=ok.aK
  have a8:=ok.wait
  unfold sd
  omega
theorem SF (n:ae) (k:Int) (h0:0≤k) (h1:k≤1152921504606846976) (ok:bS n):Cm 16 [.agg (U none n),.int .i64 k] (.int .i64 (k+sd n),[.agg (U none (SE k n)),.undef]):=by
  have a1:=ok.image
  have a2:=EE ok.mt
  have b2:=ok.mt
  have a3:=EF ok.aM
  have b3:=ok.aM
  have a4:=ok.conn
  have a5:=ur ok.sync
  have a6:=ok.sync.1
  have a7:=ok.aK
  have a8:=ok.wait
  refine Cm.step G8 _ fun J _=>?_
  rw [G9]
  rw [show k+((sd n:Nat):Int)=k+n.image.length+lC n.mt+mz n.aM+n.conn.length+dw n.sync+n.aK.length+n.wait.length by unfold sd; omega]
  simp (disch:=first | assumption | omega | (simp only [dA,dZ,ea,eC]; done)) only [go_sem,kf,kg,kh,ki]
  first | done | rfl
@[go_sem] theorem aey (n:ae) (k:Int) (h0:0≤k) (h1:k≤1152921504606846976) (ok:bS n) (t:bG Rz):aO 16 [.agg (fq none n),.int .i64 k] t=feed t (.int .i64 (k+sd n)::U none (SE k n)):=aT (SF n k h0 h1 ok) (by kernel_rfl) t
@[go_sem] theorem aez (g:Bool) (n0:Nat) (k:Int) (n:Nat) (e:n0=n) (h0:0≤k) (h1:k+n < 9223372036854775807) (t:bG Rz):aO 59 [.sl (some g) 1 n0 (ints (iZ k n)),.int .i64 k] t=feed t [.int .i64 (k+n)]:=by
  subst e
  exact aT (Sc g k n0 h0 h1) (by kernel_rfl) t
theorem PQ (g:Bool) (k:Int) (n:Nat) (h0:0≤k) (h1:k+n < 4611686018427387904):Cm 118 [.sl (some g) 1 n (bytes (oX k n)),.int .i64 k] (.int .i64 (k+n),[.undef,.undef]):=by
  have hl:=dZ k n
  have hg:∀ i,i < n→(oX k n).getD i 0=UInt8.ofNat ((k+(i:Int)) % 256).toNat:=fun i hi=>by
    rw [List.getD_eq_getElem?_getD]
    simp [oX,hi]
  have key:∀ i,i≤n→True→WP 118 Tryz.f118 [.undef,.undef] 0 (jn g (oX k n) (k+(i:Nat)) (i:Nat)) (.int .i64 (k+n),[.undef,.undef]):=by
    refine WP.up (H:=fun i=>jn g (oX k n) (k+(i:Nat)) (i:Nat)) n (fun _=>True) (fun i hi _ J hJ next=>?_)
    rw [xU]
    simp (disch:=first | assumption | omega | (simp only [dA,dZ,ea,eC]; done)) only [go_sem,kf,kg,kh,ki]
    refine bM (fun cT=>?_) (fun qg=>?_)
    · rw [show ad.wrap .u8 (k+(i:Int))=_ from YG (k+(i:Int))]
      simp (disch:=first | assumption | omega | (simp only [dA,dZ,ea,eC]; done)) only [go_sem,kf,kg,kh,ki,hg i (by omega)]
      have:=next (by omega) trivial
      rw [show k+((i+1:Nat):Int)=k+i+1 by omega] at this
      exact this
    · rw [show (i:Int)=n by omega]
  refine Cm.step Et [.undef,.undef] fun J hJ=>?_
  have:=Eu ad aO J g (oX k n) k
  rw [s8,hl] at this
  rw [this]
  refine hJ _ _ ?_
  have h9:=key 0 (by omega) trivial
  rw [show k+((0:Nat):Int)=k by omega] at h9
  exact h9
@[go_sem] theorem adC (g:Bool) (n0:Nat) (k:Int) (n:Nat) (e:n0=n) (h0:0≤k) (h1:k+n < 4611686018427387904) (t:bG Rz):aO 118 [.sl (some g) 1 n0 (bytes (oX k n)),.int .i64 k] t=feed t [.int .i64 (k+n)]:=by
  subst e
  exact aT (PQ g k n0 h0 h1) (by kernel_rfl) t
theorem aag (k:Int) (n i:Nat) (h:i < (nK k n).length):(nK k n)[i]=Sn (k+(i:Int)):=by simp [nK,Sn]
theorem PR (g:Bool) (k:Int) (n:Nat) (h0:0≤k) (h1:k+n < 4611686018427387904):Cm 62 [.sl (some g) 1 n (aD (nK k n)),.int .i64 k] (.int .i64 (k+n),[.undef,.undef]):=by
  have hl:=ea k n
  have hg:∀ i,i < n→(nK k n).getD i false=Sn (k+(i:Int)):=fun i hi=>by
    rw [List.getD_eq_getElem?_getD,List.getElem?_eq_getElem (by omega)]
    exact aag k n i (by omega)
  have key:∀ i,i≤n→True→WP 62 Tryz.f62 [.undef,.undef] 0 (jo g (nK k n) (k+(i:Nat)) (i:Nat)) (.int .i64 (k+n),[.undef,.undef]):=by
    refine WP.up (H:=fun i=>jo g (nK k n) (k+(i:Nat)) (i:Nat)) n (fun _=>True) (fun i hi _ J hJ next=>?_)
    rw [xV]
    simp (disch:=first | assumption | omega | (simp only [dA,dZ,ea,eC]; done)) only [go_sem,kf,kg,kh,ki]
    refine bM (fun cT=>?_) (fun qg=>?_)
    · simp (disch:=first | assumption | omega | (simp only [dA,dZ,ea,eC]; done)) only [go_sem,kf,kg,kh,ki,agC,hg i (by omega)]
      have:=next (by omega) trivial
      rw [show k+((i+1:Nat):Int)=k+i+1 by omega] at this
      exact this
    · rw [show (i:Int)=n by omega]
  refine Cm.step Ew [.undef,.undef] fun J hJ=>?_
  have:=Ex ad aO J g (nK k n) k
  rw [sB,hl] at this
  rw [this]
  refine hJ _ _ ?_
  have h9:=key 0 (by omega) trivial
  rw [show k+((0:Nat):Int)=k by omega] at h9
  exact h9
@[go_sem] theorem adD (g:Bool) (n0:Nat) (k:Int) (n:Nat) (e:n0=n) (h0:0≤k) (h1:k+n < 4611686018427387904) (t:bG Rz):aO 62 [.sl (some g) 1 n0 (aD (nK k n)),.int .i64 k] t=feed t [.int .i64 (k+n)]:=by
  subst e
  exact aT (PR g k n0 h0 h1) (by kernel_rfl) t
theorem QY:∀ (xss:List (List Int)) (k:Int) (i:Nat) (h:i < (lV k xss).length) (h2:i < xss.length),(lV k xss)[i]=iZ (k+dw (xss.take i)) (xss[i]).length
  | [],_,_,h,_=>by simp [lV] at h
  | xs::r,k,0,_,_=>by simp [lV,dw]
  | xs::r,k,i+1,h,h2=>by
    simp only [lV,List.length_cons,Nat.add_lt_add_iff_right] at h h2
    have:=QY r (k+xs.length) i h h2
    simp only [lV,List.getElem_cons_succ,List.take_succ_cons]
    rw [this]
    congr 1
    simp only [dw,List.map_cons,List.sum_cons]
    omega
theorem Vo {xss:List (List Int)} {i:Nat} (h:i < xss.length):dw (xss.take (i+1))=dw (xss.take i)+(xss[i]).length:=by
  rw [List.take_succ_eq_append_getElem h]
  unfold dw
  rw [List.map_append,List.sum_append]
  simp only [List.map_cons,List.map_nil,List.sum_cons,List.sum_nil,Nat.add_zero]
theorem BC (xss:List (List Int)) (i:Nat):dw (xss.take i)≤dw xss:=by
  have:dw xss=dw (xss.take i)+dw (xss.drop i):=by
    conv=>lhs; rw [← List.take_append_drop i xss]
    unfold dw
    rw [List.map_append,List.sum_append]
  omega
theorem PS (g:Bool) (k:Int) (xss:List (List Int)) (h0:0≤k) (h1:k+dw xss < 4611686018427387904) (hs:xss.length < 4611686018427387904):Cm 63 [.sl (some g) 1 xss.length (rows (some g) (lV k xss)),.int .i64 k] (.int .i64 (k+dw xss),[.undef,.undef]):=by
  have hl:=eC k xss
  have key:∀ i,i≤xss.length→True→WP 63 Tryz.f63 [.undef,.undef] 0 (jq g (lV k xss) (k+dw (xss.take i)) (i:Nat)) (.int .i64 (k+dw xss),[.undef,.undef]):=by
    refine WP.up (H:=fun i=>jq g (lV k xss) (k+dw (xss.take i)) (i:Nat)) xss.length (fun _=>True) (fun i hi _ J hJ next=>?_)
    rw [xW]
    have a1:=BC xss i
    have a2:=BC xss (i+1)
    simp (disch:=first | assumption | omega | (simp only [dA,dZ,ea,eC]; done)) only [go_sem,kf,kg,kh,ki]
    refine bM (fun cT=>?_) (fun qg=>?_)
    · have TT:i < xss.length:=by omega
      have a3:=Vo TT
      have e1:(lV k xss).getD i []=iZ (k+dw (xss.take i)) (xss[i]).length:=by
        rw [List.getD_eq_getElem?_getD,List.getElem?_eq_getElem (by omega)]
        exact QY xss k i (by omega) TT
      simp (disch:=first | assumption | omega | (simp only [dA,dZ,ea,eC]; done)) only [go_sem,kf,kg,kh,ki,e1]
      have:=next (by omega) trivial
      rw [a3,show k+((dw (xss.take i)+(xss[i]).length:Nat):Int)=k+dw (xss.take i)+(xss[i]).length by omega] at this
      exact this
    · rw [show i=xss.length by omega,List.take_length]
  refine Cm.step Ey [.undef,.undef] fun J hJ=>?_
  have:=Ez ad aO J g (lV k xss) k
  rw [sR,hl] at this
  rw [this]
  refine hJ _ _ ?_
  have h9:=key 0 (by omega) trivial
  rw [List.take_zero,show k+((dw []:Nat):Int)=k by simp [dw]] at h9
  exact h9
@[go_sem] theorem adE (g:Bool) (n0:Nat) (k:Int) (xss:List (List Int)) (e:n0=xss.length) (h0:0≤k) (h1:k+dw xss < 4611686018427387904) (hs:xss.length < 4611686018427387904) (t:bG Rz):aO 63 [.sl (some g) 1 n0 (rows (some g) (lV k xss)),.int .i64 k] t=feed t [.int .i64 (k+dw xss)]:=by
  subst e
  exact aT (PS g k xss h0 h1 hs) (by kernel_rfl) t
theorem SG (g:Bool) (m:aI) (k:Int) (h0:0≤k) (h1:k≤2305843009213693952) (ok:cJ m):Cm 60 [.agg (bR (some g) (OU k m)),.int .i64 k] (.int .i64 (k+lC m),[.undef,.undef]):=by
  have a1:=ok.ay
  have a2:=ok.bits
  have a3:=a2.1
  have a4:=ur a2
  refine Cm.step Ha _ fun J _=>?_
  rw [Hb]
  unfold lC
  rw [show k+((m.ay.length+dw m.bits:Nat):Int)=k+m.ay.length+dw m.bits by omega]
  simp (disch:=first | assumption | omega | (simp only [dA,dZ,ea,eC]; done)) only [go_sem,kf,kg,kh,ki]
theorem PT (g:Bool) (m:aG) (k:Int) (h0:0≤k) (h1:k≤2305843009213693952) (ok:dJ m):Cm 61 [.agg (cO (some g) (OV k m)),.int .i64 k] (.int .i64 (k+mz m),[.undef,.undef]):=by
  have a1:=ok.a
  have a2:=ok.b
  refine Cm.step EC _ fun J _=>?_
  rw [ED]
  unfold mz
  rw [show k+((m.a.length+m.b.length:Nat):Int)=k+m.a.length+m.b.length by omega]
  simp (disch:=first | assumption | omega | (simp only [dA,dZ,ea,eC]; done)) only [go_sem,kf,kg,kh,ki]
@[go_sem] theorem aeA (g:Bool) (m:aI) (k:Int) (h0:0≤k) (h1:k≤2305843009213693952) (ok:cJ m) (t:bG Rz):aO 60 [.agg (sc (some g) (OU k m)),.int .i64 k] t=feed t [.int .i64 (k+lC m)]:=aT (SG g m k h0 h1 ok) (by kernel_rfl) t
@[go_sem] theorem adF (g:Bool) (m:aG) (k:Int) (h0:0≤k) (h1:k≤2305843009213693952) (ok:dJ m) (t:bG Rz):aO 61 [.agg (mR (some g) (OV k m)),.int .i64 k] t=feed t [.int .i64 (k+mz m)]:=aT (PT g m k h0 h1 ok) (by kernel_rfl) t
theorem SI (g:Bool) (n:ae) (k:Int) (h0:0≤k) (h1:k≤1152921504606846976) (ok:bS n):Cm 17 [.agg (U (some g) (SE k n)),.int .i64 k] (.int .i64 (k+sd n),[.undef,.undef]):=by
  have a1:=ok.image
  have a2:=EE ok.mt
  have b2:=ok.mt
  have a3:=EF ok.aM
  have b3:=ok.aM
  have a4:=ok.conn
  have a5:=ur ok.sync
  have a6:=ok.sync.1
  have a7:=ok.aK
  have a8:=ok.wait
  refine Cm.step Hc _ fun J _=>?_
  rw [Hd]
  rw [show k+((sd n:Nat):Int)=k+n.image.length+lC n.mt+mz n.aM+n.conn.length+dw n.sync+n.aK.length+n.wait.length by unfold sd; omega]
  simp (disch:=first | assumption | omega | (simp only [dA,dZ,ea,eC]; done)) only [go_sem,kf,kg,kh,ki]
@[go_sem] theorem aeB (g:Bool) (n:ae) (k:Int) (h0:0≤k) (h1:k≤1152921504606846976) (ok:bS n) (t:bG Rz):aO 17 [.agg (fq (some g) (SE k n)),.int .i64 k] t=feed t [.int .i64 (k+sd n)]:=aT (SI g n k h0 h1 ok) (by kernel_rfl) t
end Go.Proofs.YtockoilcnmljiaaGreat
namespace Go.Proofs.YtockoilcnmljiaaGreat
set_option maxRecDepth 100000
def n0:ae:=⟨0,false,false,[],⟨[],[],false,false,false,0⟩,⟨[],[]⟩,[],[],[],[]⟩
def w0:dn:=⟨0,0,[]⟩
def r0:ik:=⟨0,0⟩
@[go_sem] theorem ahR (i:Int):ad.idx 0 i 16=i.toNat*16:=by show (0+i.toNat)*16=_; omega
@[go_sem] theorem ajF (i:Int):ad.idx 0 i 3=i.toNat*3:=by show (0+i.toNat)*3=_; omega
@[go_sem] theorem ajG (i:Int):ad.idx 0 i 2=i.toNat*2:=by show (0+i.toNat)*2=_; omega
theorem ed {α:Type} {xs:List α} {i:Nat} {d:α} (h:i < xs.length):xs.getD i d=xs[i]:=by rw [List.getD_eq_getElem?_getD,List.getElem?_eq_getElem h]; rfl
section
variable {g:Bool} {xs:List ae} {i:Nat} (h:i < xs.length)
include h
@[go_sem] theorem akX:ad.cw .i64 (ab (U (some g)) xs) (i*16)=true:=FT h
@[go_sem] theorem akY:ad.bn (ab (U (some g)) xs) (i*16)=(xs.getD i n0).id:=(FU (g:=g) h).trans (by rw [ed h])
@[go_sem] theorem akZ:ad.df (ab (U (some g)) xs) (i*16+1)=true:=FV h
@[go_sem] theorem ak0:ad.cg (ab (U (some g)) xs) (i*16+1)=(xs.getD i n0).up:=(FW (g:=g) h).trans (by rw [ed h])
@[go_sem] theorem ak1:ad.df (ab (U (some g)) xs) (i*16+2)=true:=FX h
@[go_sem] theorem ak2:ad.cg (ab (U (some g)) xs) (i*16+2)=(xs.getD i n0).cE:=(FY (g:=g) h).trans (by rw [ed h])
@[go_sem] theorem ak3:ad.bU 1 (ab (U (some g)) xs) (i*16+3)=true:=FZ h
@[go_sem] theorem ak4:ad.bo (ab (U (some g)) xs) (i*16+3)=g:=F0 h
@[go_sem] theorem ak5:ad.aR (ab (U (some g)) xs) (i*16+3)=(xs.getD i n0).image.length:=(F1 (g:=g) h).trans (by rw [ed h])
@[go_sem] theorem ak6:ad.aV (ab (U (some g)) xs) (i*16+3)=ints (xs.getD i n0).image:=(F2 (g:=g) h).trans (by rw [ed h])
@[go_sem] theorem ak7:ad.bU 1 (ab (U (some g)) xs) (i*16+4)=true:=F3 h
@[go_sem] theorem ak8:ad.bo (ab (U (some g)) xs) (i*16+4)=g:=F4 h
@[go_sem] theorem ak9:ad.aR (ab (U (some g)) xs) (i*16+4)=(xs.getD i n0).mt.ay.length:=(F5 (g:=g) h).trans (by rw [ed h])
@[go_sem] theorem ala:ad.aV (ab (U (some g)) xs) (i*16+4)=ints (xs.getD i n0).mt.ay:=(F6 (g:=g) h).trans (by rw [ed h])
@[go_sem] theorem alb:ad.bU 1 (ab (U (some g)) xs) (i*16+5)=true:=F7 h
@[go_sem] theorem alc:ad.bo (ab (U (some g)) xs) (i*16+5)=g:=F8 h
@[go_sem] theorem ald:ad.aR (ab (U (some g)) xs) (i*16+5)=(xs.getD i n0).mt.bits.length:=(F9 (g:=g) h).trans (by rw [ed h])
@[go_sem] theorem ale:ad.aV (ab (U (some g)) xs) (i*16+5)=rows (some g) (xs.getD i n0).mt.bits:=(Ga (g:=g) h).trans (by rw [ed h])
@[go_sem] theorem alf:ad.df (ab (U (some g)) xs) (i*16+6)=true:=Gb h
@[go_sem] theorem alg:ad.cg (ab (U (some g)) xs) (i*16+6)=(xs.getD i n0).mt.cI:=(Gc (g:=g) h).trans (by rw [ed h])
@[go_sem] theorem alh:ad.df (ab (U (some g)) xs) (i*16+7)=true:=Gd h
@[go_sem] theorem ali:ad.cg (ab (U (some g)) xs) (i*16+7)=(xs.getD i n0).mt.bN:=(Ge (g:=g) h).trans (by rw [ed h])
@[go_sem] theorem alj:ad.df (ab (U (some g)) xs) (i*16+8)=true:=Gf h
@[go_sem] theorem alk:ad.cg (ab (U (some g)) xs) (i*16+8)=(xs.getD i n0).mt.held:=(Gg (g:=g) h).trans (by rw [ed h])
@[go_sem] theorem alm:ad.cw .i64 (ab (U (some g)) xs) (i*16+9)=true:=Gh h
@[go_sem] theorem aln:ad.bn (ab (U (some g)) xs) (i*16+9)=(xs.getD i n0).mt.last:=(Gi (g:=g) h).trans (by rw [ed h])
@[go_sem] theorem ajH:ad.bU 1 (ab (U (some g)) xs) (i*16+10)=true:=AM h
@[go_sem] theorem ajI:ad.bo (ab (U (some g)) xs) (i*16+10)=g:=AN h
@[go_sem] theorem ajJ:ad.aR (ab (U (some g)) xs) (i*16+10)=(xs.getD i n0).aM.a.length:=(AO (g:=g) h).trans (by rw [ed h])
@[go_sem] theorem ajK:ad.aV (ab (U (some g)) xs) (i*16+10)=bytes (xs.getD i n0).aM.a:=(AP (g:=g) h).trans (by rw [ed h])
@[go_sem] theorem ajL:ad.bU 1 (ab (U (some g)) xs) (i*16+11)=true:=AQ h
@[go_sem] theorem ajM:ad.bo (ab (U (some g)) xs) (i*16+11)=g:=AR h
@[go_sem] theorem ajN:ad.aR (ab (U (some g)) xs) (i*16+11)=(xs.getD i n0).aM.b.length:=(AS (g:=g) h).trans (by rw [ed h])
@[go_sem] theorem ajO:ad.aV (ab (U (some g)) xs) (i*16+11)=bytes (xs.getD i n0).aM.b:=(AT (g:=g) h).trans (by rw [ed h])
@[go_sem] theorem ajP:ad.bU 1 (ab (U (some g)) xs) (i*16+12)=true:=AU h
@[go_sem] theorem ajQ:ad.bo (ab (U (some g)) xs) (i*16+12)=g:=AV h
@[go_sem] theorem ajR:ad.aR (ab (U (some g)) xs) (i*16+12)=(xs.getD i n0).conn.length:=(AW (g:=g) h).trans (by rw [ed h])
@[go_sem] theorem ajS:ad.aV (ab (U (some g)) xs) (i*16+12)=aD (xs.getD i n0).conn:=(AX (g:=g) h).trans (by rw [ed h])
@[go_sem] theorem ajT:ad.bU 1 (ab (U (some g)) xs) (i*16+13)=true:=AY h
@[go_sem] theorem ajU:ad.bo (ab (U (some g)) xs) (i*16+13)=g:=AZ h
@[go_sem] theorem ajV:ad.aR (ab (U (some g)) xs) (i*16+13)=(xs.getD i n0).sync.length:=(A3 (g:=g) h).trans (by rw [ed h])
@[go_sem] theorem ajW:ad.aV (ab (U (some g)) xs) (i*16+13)=rows (some g) (xs.getD i n0).sync:=(A4 (g:=g) h).trans (by rw [ed h])
@[go_sem] theorem ajX:ad.bU 1 (ab (U (some g)) xs) (i*16+14)=true:=A5 h
@[go_sem] theorem ajY:ad.bo (ab (U (some g)) xs) (i*16+14)=g:=A6 h
@[go_sem] theorem ajZ:ad.aR (ab (U (some g)) xs) (i*16+14)=(xs.getD i n0).aK.length:=(A7 (g:=g) h).trans (by rw [ed h])
@[go_sem] theorem aj0:ad.aV (ab (U (some g)) xs) (i*16+14)=aD (xs.getD i n0).aK:=(A8 (g:=g) h).trans (by rw [ed h])
@[go_sem] theorem aj1:ad.bU 1 (ab (U (some g)) xs) (i*16+15)=true:=A9 h
@[go_sem] theorem aj2:ad.bo (ab (U (some g)) xs) (i*16+15)=g:=Ba h
@[go_sem] theorem aj3:ad.aR (ab (U (some g)) xs) (i*16+15)=(xs.getD i n0).wait.length:=(Bb (g:=g) h).trans (by rw [ed h])
@[go_sem] theorem aj4:ad.aV (ab (U (some g)) xs) (i*16+15)=ints (xs.getD i n0).wait:=(Bc (g:=g) h).trans (by rw [ed h])
end
section
variable {g:Bool} {xs:List dn} {i:Nat} (h:i < xs.length)
include h
@[go_sem] theorem alo:ad.cw .i64 (ab (bp (some g)) xs) (i*3)=true:=Gj h
@[go_sem] theorem alp:ad.bn (ab (bp (some g)) xs) (i*3)=(xs.getD i w0).src:=(Gk (g:=g) h).trans (by rw [ed h])
@[go_sem] theorem alq:ad.cw .i64 (ab (bp (some g)) xs) (i*3+1)=true:=Gl h
@[go_sem] theorem alr:ad.bn (ab (bp (some g)) xs) (i*3+1)=(xs.getD i w0).dst:=(Gm (g:=g) h).trans (by rw [ed h])
@[go_sem] theorem als:ad.bU 1 (ab (bp (some g)) xs) (i*3+2)=true:=Gn h
@[go_sem] theorem alu:ad.bo (ab (bp (some g)) xs) (i*3+2)=g:=Gp h
@[go_sem] theorem alv:ad.aR (ab (bp (some g)) xs) (i*3+2)=(xs.getD i w0).bytes.length:=(Gq (g:=g) h).trans (by rw [ed h])
@[go_sem] theorem alw:ad.aV (ab (bp (some g)) xs) (i*3+2)=bytes (xs.getD i w0).bytes:=(Gr (g:=g) h).trans (by rw [ed h])
end
section
variable {g:Bool} {xs:List ik} {i:Nat} (h:i < xs.length)
include h
@[go_sem] theorem alx:ad.cw .i64 (ab (cP (some g)) xs) (i*2)=true:=Si h
@[go_sem] theorem aly:ad.bn (ab (cP (some g)) xs) (i*2)=(xs.getD i r0).cell:=(Sj (g:=g) h).trans (by rw [ed h])
@[go_sem] theorem alz:ad.cw .i64 (ab (cP (some g)) xs) (i*2+1)=true:=Sk h
@[go_sem] theorem alA:ad.bn (ab (cP (some g)) xs) (i*2+1)=(xs.getD i r0).up:=(Sl (g:=g) h).trans (by rw [ed h])
end
end Go.Proofs.YtockoilcnmljiaaGreat
namespace Go.Proofs.YtockoilcnmljiaaGreat
set_option maxRecDepth 100000
section
variable {α:Type} {p:α→Bool} {xs:List α} {d:α}
def yR (p:α→Bool) (xs:List α):Int:=match xs.findIdx? p with | some i=>(i:Int) | none=>-1
theorem aah:decide (0≤yR p xs)=xs.any p:=by
  unfold yR
  cases h:xs.findIdx? p with
  | none=>
    have:=List.findIdx?_eq_none_iff.1 h
    symm
    simpa using this
  | some i=>
    obtain ⟨hi,h2,_⟩:=List.findIdx?_eq_some_iff_getElem.1 h
    have h3:xs.any p=true:=List.any_eq_true.2 ⟨xs[i],List.getElem_mem hi,h2⟩
    rw [h3]
    simp
theorem Xq {i:Nat} (hi:i < xs.length) (inv:∀ j,j < i→p (xs.getD j d)=false) (h:p (xs.getD i d)=true):yR p xs=i:=by
  unfold yR
  have:xs.findIdx? p=some i:=List.findIdx?_eq_some_iff_getElem.2 ⟨hi,by rw [← ed (d:=d) hi]; exact h,fun j hj=>by
    have:=inv j hj
    rw [ed (d:=d) (by omega)] at this
    simp [this]⟩
  rw [this]
theorem Vp (inv:∀ j,j < xs.length→p (xs.getD j d)=false):yR p xs=-1:=by
  unfold yR
  have:xs.findIdx? p=none:=List.findIdx?_eq_none_iff.2 fun x hx=>by
    obtain ⟨i,hi,rfl⟩:=List.getElem_of_mem hx
    have:=inv i hi
    rwa [ed (d:=d) hi] at this
  rw [this]
end
theorem Xr {α:Type} {p:α→Bool} {xs:List α} {d:α} {f:FuncId} {fn:Func} {sk:List D} {j:Nat} {H:Nat→St}
    (h1:∀ i,i < xs.length→∀ J:Nat→St→Option Rz,bJ ad aO J f fn sk j (H i)=br (p (xs.getD i d)) (some (.int .i64 (i:Int),sk)) (J j (H (i+1))))
    (h2:∀ J:Nat→St→Option Rz,bJ ad aO J f fn sk j (H xs.length)=some (.int .i64 (-1),sk)):WP f fn sk j (H 0) (.int .i64 (yR p xs),sk):=by
  refine WP.up (H:=H) xs.length (fun i=>∀ j,j < i→p (xs.getD j d)=false) (fun i hi inv J _ next=>?_) 0 (Nat.zero_le _) (fun j hj=>absurd hj (by omega))
  by_cases hl:i < xs.length
  · rw [h1 i hl J]
    cases hp:p (xs.getD i d) with
    | true=>rw [Xq hl inv hp]; rfl
    | false=>
      refine next hl fun k hk=>?_
      by_cases e:k=i
      · rw [e]; exact hp
      · exact inv k (by omega)
  · rw [show i=xs.length by omega,h2 J,Vp fun j hj=>inv j (by omega)]
theorem WP.upw {f:FuncId} {fn:Func} {sk:List D} {j:Nat} {r:Rz} {H:Nat→St} (n:Nat) (inv:Nat→Prop) (hs:∀ i,i≤n→inv i→(i < n→inv (i+1)→WP f fn sk j (H (i+1)) r)→WP f fn sk j (H i) r):∀ i,i≤n→inv i→WP f fn sk j (H i) r:=by
  have key:∀ k i,i+k=n→inv i→WP f fn sk j (H i) r:=by
    intro k
    induction k with
    | zero=>intro i hi hv; exact hs i (by omega) hv (fun h=>absurd h (by omega))
    | succ k ih=>intro i hi hv; exact hs i (by omega) hv (fun _ h=>ih (i+1) (by omega) h)
  exact fun i hi hv=>key (n - i) i (by omega) hv
theorem I5 {α:Type} {xs:List α} {i:Nat} {d:α} (h:i < xs.length):xs.getD i d∈xs:=by rw [ed h]; exact List.getElem_mem h
theorem okN {w:aW} (ok:fp w) {i:Nat} (h:i < w.nodes.length):bS (w.nodes.getD i n0):=ok.node _ (I5 h)
section
variable (pr:dT) (cv:Cv Rz) (J:Nat→St→Option Rz)
def eZ (g:Bool) (xs:List Int) (c0:List D) (n1:Nat) (i2:Int) (i3:Int):St:=(St.mk [(0,(sI (some g) xs)),(1,(.fn 125 [(.da c0 n1)])),(7,(.int .i64 i2)),(8,(.int .i64 i3))] [] [] 0)
theorem qS:Told cfg Tryz.prog 150 Tryz.f150:=⟨by kernel_rfl,Tryz.func150,by kernel_rfl⟩
theorem qT (u0:List D) (v0:Nat) (g:Bool) (xs:List Int):aQ pr cv J 150 Tryz.f150 [(sI (some g) xs),(.fn 125 [(.da u0 v0)])]=
    (J 0 (eZ g xs u0 v0 (pr.aS xs.length) 0)):=by kernel_rfl
theorem jZ (g:Bool) (xs:List Int) (c0:List D) (n1:Nat) (i2:Int) (i3:Int):bJ pr cv J 150 Tryz.f150 [.undef,.undef] 0 (eZ g xs c0 n1 i2 i3)=
    (br (pr.lt i3 i2) (br (pr.bD i3 xs.length) (br (br (pr.cw .i64 (ints xs) (pr.idx 0 i3 1)) true false) (cv 125 [(.int .i64 (pr.bn (ints xs) (pr.idx 0 i3 1))),(.da c0 n1)] (.bool (fun cf=>(.done (br cf (some ((.int .i64 i3),[.undef,.undef])) (J 0 (eZ g xs c0 n1 i2 (pr.ar .add .i64 i3 1)))))))) none) none) (some ((.int .i64 (-1)),[.undef,.undef]))):=by kernel_rfl
theorem pA:Told cfg Tryz.prog 124 Tryz.f124:=⟨by kernel_rfl,Tryz.func124,by kernel_rfl⟩
theorem pB (u0:List D) (v0:Nat) (g:Bool) (xs:List Int):aQ pr cv J 124 Tryz.f124 [(sI (some g) xs),(.fn 125 [(.da u0 v0)])]=
    (cv 150 [(sI (some g) xs),(.fn 125 [(.da u0 v0)])] (.int (fun dm=>(.done (some ((.bool (pr.le 0 dm)),[.undef,.undef])))))):=by kernel_rfl
end
theorem PU (u0:List D) (v0:Nat) (g:Bool) (xs:List Int) (p:Int→Bool) (hb:xs.length < 4611686018427387904) (hc:∀ i,i < xs.length→∀ t:bG Rz,aO 125 [.int .i64 (xs.getD i 0),.da u0 v0] t=feed t [.bool (p (xs.getD i 0))]):Cm 150 [.sl (some g) 1 xs.length (ints xs),.fn 125 [.da u0 v0]] (.int .i64 (yR p xs),[.undef,.undef]):=by
  refine Cm.step qS [.undef,.undef] fun J hJ=>?_
  rw [qT]
  refine hJ _ _ ?_
  refine Xr (d:=0) (H:=fun i=>eZ g xs u0 v0 xs.length (i:Nat)) (fun i hi J=>?_) (fun J=>?_)
  · rw [jZ]
    simp (disch:=first | assumption | omega) only [go_sem,hc i hi]
    cases p (xs.getD i 0) with
    | true=>rfl
    | false=>
      simp (disch:=first | assumption | omega) only [go_sem]
      rfl
  · rw [jZ]
    simp (disch:=first | assumption | omega) only [go_sem]
theorem I6 (u0:List D) (v0:Nat) (g:Bool) (xs:List Int) (p:Int→Bool) (hb:xs.length < 4611686018427387904) (hc:∀ i,i < xs.length→∀ t:bG Rz,aO 125 [.int .i64 (xs.getD i 0),.da u0 v0] t=feed t [.bool (p (xs.getD i 0))]):Cm 124 [.sl (some g) 1 xs.length (ints xs),.fn 125 [.da u0 v0]] (.bool (xs.any p),[.undef,.undef]):=by
  refine Cm.step pA [.undef,.undef] fun J hJ=>?_
  rw [pB]
  have:=aT (PU u0 v0 g xs p hb hc) (by kernel_rfl)
  rw [this]
  show some ((.bool (decide (0≤yR p xs)),[.undef,.undef]):Rz)=_
  rw [aah]
section
variable (pr:dT) (cv:Cv Rz) (J:Nat→St→Option Rz)
theorem EG:Told cfg Tryz.prog 125 Tryz.f125:=⟨by kernel_rfl,Tryz.func125,by kernel_rfl⟩
theorem EH (w:aW) (a:Int):aQ pr cv J 125 Tryz.f125 [(.int .i64 a),(.da (eM (some true) w) 0)]=
    (br (br (pr.bU 2 [(.sl (some true) 16 w.nodes.length (ab (U (some true)) w.nodes)),(.sl (some true) 3 w.cz.length (ab (bp (some true)) w.cz)),(.sl (some true) 2 w.log.length (ab (cP (some true)) w.log)),(sI (some true) w.safe),(.int .i64 w.gen)] 2) true false) (some ((.bool (pr.lt (pr.aS (pr.aR [(.sl (some true) 16 w.nodes.length (ab (U (some true)) w.nodes)),(.sl (some true) 3 w.cz.length (ab (bp (some true)) w.cz)),(.sl (some true) 2 w.log.length (ab (cP (some true)) w.log)),(sI (some true) w.safe),(.int .i64 w.gen)] 2)) a)),[.undef,.undef])) none):=by kernel_rfl
def mA (x0:aW) (i0:Int) (i1:Int):St:=(St.mk [(1,(.ptr 1 [] 0)),(13,(.sl (some true) 16 x0.nodes.length (ab (U (some true)) x0.nodes))),(14,(.int .i64 i0)),(15,(.int .i64 i1))] [(1,[(.sl (some true) 16 x0.nodes.length (ab (U (some true)) x0.nodes)),(.sl (some true) 3 x0.cz.length (ab (bp (some true)) x0.cz)),(.sl (some true) 2 x0.log.length (ab (cP (some true)) x0.log)),(sI (some true) x0.safe),(.int .i64 x0.gen)])] [] 0)
def j0 (x0:aW) (i0:Int) (i1:Int):St:=(St.mk [(1,(.ptr 1 [] 0)),(46,(.sl (some true) 16 x0.nodes.length (ab (U (some true)) x0.nodes))),(47,(.int .i64 i0)),(48,(.int .i64 i1))] [(1,[(.sl (some true) 16 x0.nodes.length (ab (U (some true)) x0.nodes)),(.sl (some true) 3 x0.cz.length (ab (bp (some true)) x0.cz)),(.sl (some true) 2 x0.log.length (ab (cP (some true)) x0.log)),(sI (some true) x0.safe),(.int .i64 x0.gen)])] [] 0)
def mB (x0:aW) (i0:Int) (i1:Int) (i2:Int) (i3:Int) (b4:Bool) (b5:Bool) (g6:Bool) (n7:Nat) (c8:List D) (g9:Bool) (mL:Nat) (mM:List D) (g12:Bool) (kC:Nat) (lU:List D) (gu:Bool) (jY:Bool) (qL:Bool) (i18:Int) (g19:Bool) (qB:Nat) (qC:List D) (g22:Bool) (YU:Nat) (YV:List D) (YW:Bool) (pR:Nat) (oY:List D) (N2:Bool) (n29:Nat) (N4:List D) (N5:Bool) (n32:Nat) (YX:List D) (YY:Bool) (n35:Nat) (YZ:List D):St:=(St.mk [(1,(.ptr 1 [] 0)),(5,(.int .i64 i0)),(6,(.ptr 6 [] 0)),(46,(.sl (some true) 16 x0.nodes.length (ab (U (some true)) x0.nodes))),(47,(.int .i64 i1)),(48,(.int .i64 i0)),(53,(.int .i64 i2))] [(1,[(.sl (some true) 16 x0.nodes.length (ab (U (some true)) x0.nodes)),(.sl (some true) 3 x0.cz.length (ab (bp (some true)) x0.cz)),(.sl (some true) 2 x0.log.length (ab (cP (some true)) x0.log)),(sI (some true) x0.safe),(.int .i64 x0.gen)]),(6,[(.int .i64 i3),(.bool b4),(.bool b5),(.sl (some g6) 1 n7 c8),(.sl (some g9) 1 mL mM),(.sl (some g12) 1 kC lU),(.bool gu),(.bool jY),(.bool qL),(.int .i64 i18),(.sl (some g19) 1 qB qC),(.sl (some g22) 1 YU YV),(.sl (some YW) 1 pR oY),(.sl (some N2) 1 n29 N4),(.sl (some N5) 1 n32 YX),(.sl (some YY) 1 n35 YZ)])] [] 0)
theorem I7:Told cfg Tryz.prog 74 Tryz.f74:=⟨by kernel_rfl,Tryz.func74,by kernel_rfl⟩
theorem I8 (x0:aW):aQ pr cv J 74 Tryz.f74 [(.agg (eM (some true) x0))]=
    (br (br (pr.eq (pr.aS x0.nodes.length) 3) false true) (some ((.bool false),[.undef])) (J 0 (mA x0 (pr.aS x0.nodes.length) 0))):=by kernel_rfl
theorem Ct (x0:aW) (i0:Int) (i1:Int):bJ pr cv J 74 Tryz.f74 [.undef] 0 (mA x0 i0 i1)=
    let y1:Int:=(pr.bn (ab (U (some true)) x0.nodes) (pr.idx 0 i1 16))
    let y2:Option Bool:=(some (pr.bo (ab (U (some true)) x0.nodes) ((pr.idx 0 i1 16)+3)))
    let y3:Nat:=(pr.aR (ab (U (some true)) x0.nodes) ((pr.idx 0 i1 16)+3))
    let y4:List D:=(pr.aV (ab (U (some true)) x0.nodes) ((pr.idx 0 i1 16)+3))
    let y5:Int:=(pr.bn (ab (U (some true)) x0.nodes) ((pr.idx 0 i1 16)+9))
    let y6:Option (D × List D):=(some ((.bool false),[.undef]))
    (br (pr.lt i1 i0) (br (pr.bD i1 x0.nodes.length) (br (br (pr.cw .i64 (ab (U (some true)) x0.nodes) (pr.idx 0 i1 16)) (br (pr.df (ab (U (some true)) x0.nodes) ((pr.idx 0 i1 16)+1)) (br (pr.df (ab (U (some true)) x0.nodes) ((pr.idx 0 i1 16)+2)) (br (pr.bU 1 (ab (U (some true)) x0.nodes) ((pr.idx 0 i1 16)+3)) (br (pr.bU 1 (ab (U (some true)) x0.nodes) ((pr.idx 0 i1 16)+4)) (br (pr.bU 1 (ab (U (some true)) x0.nodes) ((pr.idx 0 i1 16)+5)) (br (pr.df (ab (U (some true)) x0.nodes) ((pr.idx 0 i1 16)+6)) (br (pr.df (ab (U (some true)) x0.nodes) ((pr.idx 0 i1 16)+7)) (br (pr.df (ab (U (some true)) x0.nodes) ((pr.idx 0 i1 16)+8)) (br (pr.cw .i64 (ab (U (some true)) x0.nodes) ((pr.idx 0 i1 16)+9)) (br (pr.bU 1 (ab (U (some true)) x0.nodes) ((pr.idx 0 i1 16)+10)) (br (pr.bU 1 (ab (U (some true)) x0.nodes) ((pr.idx 0 i1 16)+11)) (br (pr.bU 1 (ab (U (some true)) x0.nodes) ((pr.idx 0 i1 16)+12)) (br (pr.bU 1 (ab (U (some true)) x0.nodes) ((pr.idx 0 i1 16)+13)) (br (pr.bU 1 (ab (U (some true)) x0.nodes) ((pr.idx 0 i1 16)+14)) (br (pr.bU 1 (ab (U (some true)) x0.nodes) ((pr.idx 0 i1 16)+15)) true false) false) false) false) false) false) false) false) false) false) false) false) false) false) false) false) (cv 48 [(.agg [(.int .i64 y1),(.bool (pr.cg (ab (U (some true)) x0.nodes) ((pr.idx 0 i1 16)+1))),(.bool (pr.cg (ab (U (some true)) x0.nodes) ((pr.idx 0 i1 16)+2))),(.sl y2 1 y3 y4),(.sl (some (pr.bo (ab (U (some true)) x0.nodes) ((pr.idx 0 i1 16)+4))) 1 (pr.aR (ab (U (some true)) x0.nodes) ((pr.idx 0 i1 16)+4)) (pr.aV (ab (U (some true)) x0.nodes) ((pr.idx 0 i1 16)+4))),(.sl (some (pr.bo (ab (U (some true)) x0.nodes) ((pr.idx 0 i1 16)+5))) 1 (pr.aR (ab (U (some true)) x0.nodes) ((pr.idx 0 i1 16)+5)) (pr.aV (ab (U (some true)) x0.nodes) ((pr.idx 0 i1 16)+5))),(.bool (pr.cg (ab (U (some true)) x0.nodes) ((pr.idx 0 i1 16)+6))),(.bool (pr.cg (ab (U (some true)) x0.nodes) ((pr.idx 0 i1 16)+7))),(.bool (pr.cg (ab (U (some true)) x0.nodes) ((pr.idx 0 i1 16)+8))),(.int .i64 y5),(.sl (some (pr.bo (ab (U (some true)) x0.nodes) ((pr.idx 0 i1 16)+10))) 1 (pr.aR (ab (U (some true)) x0.nodes) ((pr.idx 0 i1 16)+10)) (pr.aV (ab (U (some true)) x0.nodes) ((pr.idx 0 i1 16)+10))),(.sl (some (pr.bo (ab (U (some true)) x0.nodes) ((pr.idx 0 i1 16)+11))) 1 (pr.aR (ab (U (some true)) x0.nodes) ((pr.idx 0 i1 16)+11)) (pr.aV (ab (U (some true)) x0.nodes) ((pr.idx 0 i1 16)+11))),(.sl (some (pr.bo (ab (U (some true)) x0.nodes) ((pr.idx 0 i1 16)+12))) 1 (pr.aR (ab (U (some true)) x0.nodes) ((pr.idx 0 i1 16)+12)) (pr.aV (ab (U (some true)) x0.nodes) ((pr.idx 0 i1 16)+12))),(.sl (some (pr.bo (ab (U (some true)) x0.nodes) ((pr.idx 0 i1 16)+13))) 1 (pr.aR (ab (U (some true)) x0.nodes) ((pr.idx 0 i1 16)+13)) (pr.aV (ab (U (some true)) x0.nodes) ((pr.idx 0 i1 16)+13))),(.sl (some (pr.bo (ab (U (some true)) x0.nodes) ((pr.idx 0 i1 16)+14))) 1 (pr.aR (ab (U (some true)) x0.nodes) ((pr.idx 0 i1 16)+14)) (pr.aV (ab (U (some true)) x0.nodes) ((pr.idx 0 i1 16)+14))),(.sl (some (pr.bo (ab (U (some true)) x0.nodes) ((pr.idx 0 i1 16)+15))) 1 (pr.aR (ab (U (some true)) x0.nodes) ((pr.idx 0 i1 16)+15)) (pr.aV (ab (U (some true)) x0.nodes) ((pr.idx 0 i1 16)+15)))])] (.bool (fun cf=>(.done (br (br cf false true) y6 (br (br (pr.eq y1 i1) false true) y6 (br (pr.lt (pr.aS x0.log.length) y5) y6 (cv 124 [(.sl y2 1 y3 y4),(.fn 125 [(.da [(.sl (some true) 16 x0.nodes.length (ab (U (some true)) x0.nodes)),(.sl (some true) 3 x0.cz.length (ab (bp (some true)) x0.cz)),(.sl (some true) 2 x0.log.length (ab (cP (some true)) x0.log)),(sI (some true) x0.safe),(.int .i64 x0.gen)] 0)])] (.bool (fun eN=>(.done (br eN y6 (J 0 (mA x0 i0 (pr.ar .add .i64 i1 1))))))))))))))) none) none) (J 2 (j0 x0 (pr.aS x0.nodes.length) 0))):=by kernel_rfl
theorem Cu (x0:aW) (i0:Int) (i1:Int):bJ pr cv J 74 Tryz.f74 [.undef] 2 (j0 x0 i0 i1)=
    (br (pr.lt i1 i0) (br (pr.bD i1 x0.nodes.length) (br (br (pr.cw .i64 (ab (U (some true)) x0.nodes) (pr.idx 0 i1 16)) (br (pr.df (ab (U (some true)) x0.nodes) ((pr.idx 0 i1 16)+1)) (br (pr.df (ab (U (some true)) x0.nodes) ((pr.idx 0 i1 16)+2)) (br (pr.bU 1 (ab (U (some true)) x0.nodes) ((pr.idx 0 i1 16)+3)) (br (pr.bU 1 (ab (U (some true)) x0.nodes) ((pr.idx 0 i1 16)+4)) (br (pr.bU 1 (ab (U (some true)) x0.nodes) ((pr.idx 0 i1 16)+5)) (br (pr.df (ab (U (some true)) x0.nodes) ((pr.idx 0 i1 16)+6)) (br (pr.df (ab (U (some true)) x0.nodes) ((pr.idx 0 i1 16)+7)) (br (pr.df (ab (U (some true)) x0.nodes) ((pr.idx 0 i1 16)+8)) (br (pr.cw .i64 (ab (U (some true)) x0.nodes) ((pr.idx 0 i1 16)+9)) (br (pr.bU 1 (ab (U (some true)) x0.nodes) ((pr.idx 0 i1 16)+10)) (br (pr.bU 1 (ab (U (some true)) x0.nodes) ((pr.idx 0 i1 16)+11)) (br (pr.bU 1 (ab (U (some true)) x0.nodes) ((pr.idx 0 i1 16)+12)) (br (pr.bU 1 (ab (U (some true)) x0.nodes) ((pr.idx 0 i1 16)+13)) (br (pr.bU 1 (ab (U (some true)) x0.nodes) ((pr.idx 0 i1 16)+14)) (br (pr.bU 1 (ab (U (some true)) x0.nodes) ((pr.idx 0 i1 16)+15)) true false) false) false) false) false) false) false) false) false) false) false) false) false) false) false) false) (J 4 (mB x0 i1 i0 0 (pr.bn (ab (U (some true)) x0.nodes) (pr.idx 0 i1 16)) (pr.cg (ab (U (some true)) x0.nodes) ((pr.idx 0 i1 16)+1)) (pr.cg (ab (U (some true)) x0.nodes) ((pr.idx 0 i1 16)+2)) (pr.bo (ab (U (some true)) x0.nodes) ((pr.idx 0 i1 16)+3)) (pr.aR (ab (U (some true)) x0.nodes) ((pr.idx 0 i1 16)+3)) (pr.aV (ab (U (some true)) x0.nodes) ((pr.idx 0 i1 16)+3)) (pr.bo (ab (U (some true)) x0.nodes) ((pr.idx 0 i1 16)+4)) (pr.aR (ab (U (some true)) x0.nodes) ((pr.idx 0 i1 16)+4)) (pr.aV (ab (U (some true)) x0.nodes) ((pr.idx 0 i1 16)+4)) (pr.bo (ab (U (some true)) x0.nodes) ((pr.idx 0 i1 16)+5)) (pr.aR (ab (U (some true)) x0.nodes) ((pr.idx 0 i1 16)+5)) (pr.aV (ab (U (some true)) x0.nodes) ((pr.idx 0 i1 16)+5)) (pr.cg (ab (U (some true)) x0.nodes) ((pr.idx 0 i1 16)+6)) (pr.cg (ab (U (some true)) x0.nodes) ((pr.idx 0 i1 16)+7)) (pr.cg (ab (U (some true)) x0.nodes) ((pr.idx 0 i1 16)+8)) (pr.bn (ab (U (some true)) x0.nodes) ((pr.idx 0 i1 16)+9)) (pr.bo (ab (U (some true)) x0.nodes) ((pr.idx 0 i1 16)+10)) (pr.aR (ab (U (some true)) x0.nodes) ((pr.idx 0 i1 16)+10)) (pr.aV (ab (U (some true)) x0.nodes) ((pr.idx 0 i1 16)+10)) (pr.bo (ab (U (some true)) x0.nodes) ((pr.idx 0 i1 16)+11)) (pr.aR (ab (U (some true)) x0.nodes) ((pr.idx 0 i1 16)+11)) (pr.aV (ab (U (some true)) x0.nodes) ((pr.idx 0 i1 16)+11)) (pr.bo (ab (U (some true)) x0.nodes) ((pr.idx 0 i1 16)+12)) (pr.aR (ab (U (some true)) x0.nodes) ((pr.idx 0 i1 16)+12)) (pr.aV (ab (U (some true)) x0.nodes) ((pr.idx 0 i1 16)+12)) (pr.bo (ab (U (some true)) x0.nodes) ((pr.idx 0 i1 16)+13)) (pr.aR (ab (U (some true)) x0.nodes) ((pr.idx 0 i1 16)+13)) (pr.aV (ab (U (some true)) x0.nodes) ((pr.idx 0 i1 16)+13)) (pr.bo (ab (U (some true)) x0.nodes) ((pr.idx 0 i1 16)+14)) (pr.aR (ab (U (some true)) x0.nodes) ((pr.idx 0 i1 16)+14)) (pr.aV (ab (U (some true)) x0.nodes) ((pr.idx 0 i1 16)+14)) (pr.bo (ab (U (some true)) x0.nodes) ((pr.idx 0 i1 16)+15)) (pr.aR (ab (U (some true)) x0.nodes) ((pr.idx 0 i1 16)+15)) (pr.aV (ab (U (some true)) x0.nodes) ((pr.idx 0 i1 16)+15)))) none) none) (some ((.bool true),[.undef]))):=by kernel_rfl
theorem Cw (x0:aW) (i0:Int) (i1:Int) (i2:Int) (i3:Int) (b4:Bool) (b5:Bool) (g6:Bool) (n7:Nat) (c8:List D) (g9:Bool) (mL:Nat) (mM:List D) (g12:Bool) (kC:Nat) (lU:List D) (gu:Bool) (jY:Bool) (qL:Bool) (i18:Int) (g19:Bool) (qB:Nat) (qC:List D) (g22:Bool) (YU:Nat) (YV:List D) (YW:Bool) (pR:Nat) (oY:List D) (N2:Bool) (n29:Nat) (N4:List D) (N5:Bool) (n32:Nat) (YX:List D) (YY:Bool) (n35:Nat) (YZ:List D):bJ pr cv J 74 Tryz.f74 [.undef] 4 (mB x0 i0 i1 i2 i3 b4 b5 g6 n7 c8 g9 mL mM g12 kC lU gu jY qL i18 g19 qB qC g22 YU YV YW pR oY N2 n29 N4 N5 n32 YX YY n35 YZ)=
    let y1:List D:=(pr.aV (ab (U (some true)) x0.nodes) ((pr.idx 0 i2 16)+12))
    let y2:Option Rz:=(J 4 (mB x0 i0 i1 (pr.ar .add .i64 i2 1) i3 b4 b5 g6 n7 c8 g9 mL mM g12 kC lU gu jY qL i18 g19 qB qC g22 YU YV YW pR oY N2 n29 N4 N5 n32 YX YY n35 YZ))
    (br (pr.lt i2 3) (br (pr.bD i2 pR) (br (br (pr.df oY (pr.idx 0 i2 1)) true false) (br (pr.cg oY (pr.idx 0 i2 1)) (br (pr.bD i2 x0.nodes.length) (br (br (pr.bU 1 (ab (U (some true)) x0.nodes) ((pr.idx 0 i2 16)+12)) true false) (br (pr.bD i0 (pr.aR (ab (U (some true)) x0.nodes) ((pr.idx 0 i2 16)+12))) (br (br (pr.df y1 (pr.idx 0 i0 1)) true false) (br (br (pr.cg y1 (pr.idx 0 i0 1)) false true) (some ((.bool false),[.undef])) y2) none) none) none) none) y2) none) none) (J 2 (j0 x0 i1 (pr.ar .add .i64 i0 1)))):=by kernel_rfl
end
theorem EI (w:aW) (a:Int):Cm 125 [.int .i64 a,.da (eM (some true) w) 0] (.bool (decide ((w.log.length:Int) < a)),[.undef,.undef]):=by
  refine Cm.step EG [.undef,.undef] fun J hJ=>?_
  rw [EH]
  rfl
@[go_sem] theorem aai (w:aW) (g:Bool) (n:Nat) (xs:List Int) (hn:n=xs.length) (hb:xs.length < 4611686018427387904) (t:bG Rz):aO 124 [.sl (some g) 1 n (ints xs),.fn 125 [.da (eM (some true) w) 0]] t=feed t [.bool (xs.any fun a=>decide ((w.log.length:Int) < a))]:=by
  subst hn
  exact aT (I6 _ _ g xs _ hb fun i hi t=>aT (EI w _) (by kernel_rfl) t) (by kernel_rfl) t
structure I9 (w:aW) (i:Nat):Prop where
  ok:dC (w.nodes.getD i n0)=true
  id:(w.nodes.getD i n0).id=i
  last:(w.nodes.getD i n0).mt.last≤w.log.length
  cells:∀ x∈(w.nodes.getD i n0).image,x≤(w.log.length:Int)
def EJ (w:aW) (i k:Nat):Prop:=(w.nodes.getD i n0).conn.getD k false=true→(w.nodes.getD k n0).conn.getD i false=true
structure Ja (w:aW):Prop where
  len:w.nodes.length=3
  nd:∀ i,i < 3→I9 w i
  sy:∀ i k,i < 3→k < 3→EJ w i k
open Classical in
noncomputable def pg (w:aW):Bool:=decide (Ja w)
open Classical in
theorem aeC {w:aW} (h:pg w=true):Ja w:=by unfold pg at h; exact of_decide_eq_true h
open Classical in
theorem Cl {w:aW} (h:¬Ja w):(some ((.bool false,[.undef]):Rz))=some (.bool (pg w),[.undef]):=by unfold pg; rw [decide_eq_false h]
open Classical in
theorem adh {w:aW} (h:Ja w):(some ((.bool true,[.undef]):Rz))=some (.bool (pg w),[.undef]):=by unfold pg; rw [decide_eq_true h]
theorem QZ {l:Int} {xs:List Int}:(xs.any fun a=>decide (l < a))=true↔¬∀ x∈xs,x≤l:=by
  simp
theorem Jb (w:aW) (q0:fp w):Cm 74 [.agg (eM (some true) w)] (.bool (pg w),[.undef]):=by
  refine Cm.step I7 [.undef] fun J hJ=>?_
  rw [I8]
  have b1:=q0.nodes
  simp (disch:=first | assumption | omega) only [go_sem]
  refine bM (fun h3=>?_) (fun h=>Cl fun o=>h (by have:=o.len; omega))
  have Fg:w.nodes.length=3:=by omega
  refine hJ _ _ ?_
  have second:(∀ i,i < 3→I9 w i)→WP 74 Tryz.f74 [.undef] 2 (j0 w w.nodes.length ((0:Nat):Int)) (.bool (pg w),[.undef]):=by
    intro nd
    refine WP.upw (H:=fun i:Nat=>j0 w w.nodes.length (i:Int)) 3 (fun i=>∀ a,a < i→∀ k,k < 3→EJ w a k) (fun i hi inv next=>?_) 0 (by omega) (fun a h=>absurd h (by omega))
    refine WP.step fun J hJ=>?_
    rw [Cu]
    simp (disch:=first | assumption | omega) only [go_sem]
    refine bM (fun hl=>?_) (fun hl=>adh ⟨Fg,nd,fun a k ha hk=>inv a (by omega) k hk⟩)
    simp (disch:=first | assumption | omega) only [go_sem]
    refine hJ _ _ ?_
    refine WP.up (H:=fun k:Nat=>mB w i w.nodes.length k _ _ _ _ _ _ _ _ _ _ _ _ _ _ _ _ _ _ _ _ _ _ _ _ _ _ _ _ _ _ _ _ _ _) 3 (fun k=>∀ b,b < k→EJ w i b) (fun k hk inv2 J hJ Cn=>?_) 0 (by omega) (fun a h=>absurd h (by omega))
    rw [Cw]
    have ci:=(iG (nd i (by omega)).ok).conn
    simp (disch:=first | assumption | omega) only [go_sem]
    refine bM (fun Fl=>?_) (fun Fl=>?_)
    · have ck:=(iG (nd k (by omega)).ok).conn
      simp (disch:=first | assumption | omega) only [go_sem]
      refine nU (fun hc=>?_) (fun hc=>?_)
      · simp (disch:=first | assumption | omega) only [go_sem]
        refine nU (fun hd=>?_) (fun hd=>Cl fun o=>hd (o.sy i k (by omega) (by omega) hc))
        simp (disch:=first | assumption | omega) only [go_sem]
        refine Cn (by omega) fun b hb=>?_
        by_cases e:b=k
        · rw [e]; exact fun _=>hd
        · exact inv2 b (by omega)
      · simp (disch:=first | assumption | omega) only [go_sem]
        refine Cn (by omega) fun b hb=>?_
        by_cases e:b=k
        · rw [e]; exact fun h=>absurd h hc
        · exact inv2 b (by omega)
    · refine hJ _ _ (next (by omega) fun a ha b hb=>?_)
      by_cases e:a=i
      · rw [e]; exact inv2 b (by omega)
      · exact inv a (by omega) b hb
  refine WP.up (H:=fun i:Nat=>mA w w.nodes.length (i:Int)) 3 (fun i=>∀ a,a < i→I9 w a) (fun i hi inv J hJ next=>?_) 0 (by omega) (fun a h=>absurd h (by omega))
  rw [Ct]
  simp (disch:=first | assumption | omega) only [go_sem]
  refine bM (fun hl=>?_) (fun hl=>hJ _ _ (second fun a ha=>inv a (by omega)))
  have oi:=okN q0 (show i < w.nodes.length by omega)
  have oim:=oi.image
  simp (disch:=first | assumption | omega) only [go_sem]
  refine nU (fun hn=>?_) (fun h=>Cl fun o=>h (o.nd i (by omega)).ok)
  simp (disch:=first | assumption | omega) only [go_sem]
  refine bM (fun hd=>?_) (fun h=>Cl fun o=>h (o.nd i (by omega)).id)
  simp (disch:=first | assumption | omega) only [go_sem]
  refine bM (fun h=>Cl fun o=>absurd (o.nd i (by omega)).last (by omega)) (fun hla=>?_)
  simp (disch:=first | assumption | omega) only [go_sem]
  refine nU (fun h=>Cl fun o=>QZ.1 h (o.nd i (by omega)).cells) (fun hc=>?_)
  simp (disch:=first | assumption | omega) only [go_sem]
  refine next (by omega) fun a ha=>?_
  by_cases e:a=i
  · rw [e]; exact ⟨hn,hd,by omega,Classical.not_not.1 fun x=>hc (QZ.2 x)⟩
  · exact inv a (by omega)
@[go_sem] theorem aaj (w:aW) (q0:fp w) (t:bG Rz):aO 74 [.agg (mS (some true) w)] t=feed t [.bool (pg w)]:=by
  exact bO (r:=.bool (pg w)) (s:=.bool) (ss:=[.undef]) (Jb w q0) (by kernel_rfl) (by simp only [av,bA,ba,bB,bC,ai,aj,Bool.and_self]) (by simp only [ai,aJ,av,aj,Bool.and_self]) (by first | rfl | simp only [au,aY,aX,bu,bw,aZ,bz,Bool.and_self]) (by first | rfl | simp only [List.all_cons,List.all_nil,au,Bool.and_self]) t
end Go.Proofs.YtockoilcnmljiaaGreat
