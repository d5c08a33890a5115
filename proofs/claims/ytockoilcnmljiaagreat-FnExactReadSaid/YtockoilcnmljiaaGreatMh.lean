/- FnExactRead: the program's Read returns what the reference's returns, for all arguments (a world, a number, a number). No condition. -/
import Derived.Test.YtockoilcnmljiaaGreatRows
import Derived.WalkKit
import Derived.ProofKit
import Derived.OpenShut
import Derived.ShutString
import Derived.ChangeOld
import Derived.ChangeSame
import Derived.Below
import Derived.Carry
import Derived.SizedLaws
import Derived.Test.YtockoilcnmljiaaGreatMg
set_option linter.all false
set_option linter.unusedSimpArgs false
set_option linter.unusedVariables false
set_option linter.unnecessarySimpa false
set_option linter.unusedSectionVars false
namespace Go.Proofs.YtockoilcnmljiaaGreat
set_option maxRecDepth 100000
section
variable (pr:dr) (cv:Cv Rz) (J:Nat→St→Option Rz)
theorem Du:Told cfg Tryz.prog 6 Tryz.f6:=⟨by kernel_rfl,Tryz.func6,by kernel_rfl⟩
theorem Dv (g0:Bool) (x0:ai) (x1:Int) (x2:Int):aR pr cv J 6 Tryz.f6 [(.agg (bn (some g0) x0)),(.int .i64 x1),(.int .i64 x2)]=
    let y1:Option (D × List D):=(some ((.bool true),[.undef,.undef,.undef]))
    let y2:Option (D × List D):=(some ((.bool false),[.undef,.undef,.undef]))
    (cv 20 [(.agg [(.sl (some g0) 16 x0.nodes.length (U (ab (some g0)) x0.nodes)),(.sl (some g0) 3 x0.ay.length (U (aw (some g0)) x0.ay)),(.sl (some g0) 2 x0.log.length (U (aK (some g0)) x0.log)),(sI (some g0) x0.safe),(.int .i64 x0.gen)]),(.int .i64 1048576)] (.int (fun dA=>(.done (br (pr.lt dA 0) y1 (cv 22 [(.agg [(.sl (some g0) 16 x0.nodes.length (U (ab (some g0)) x0.nodes)),(.sl (some g0) 3 x0.ay.length (U (aw (some g0)) x0.ay)),(.sl (some g0) 2 x0.log.length (U (aK (some g0)) x0.log)),(sI (some g0) x0.safe),(.int .i64 x0.gen)])] (.ty eO.world (fun (dK:ai)=>(.done (cv 25 [(.agg [(.sl (some true) 16 dK.nodes.length (ba true (U (ab none) dK.nodes))),(.sl (some true) 3 dK.ay.length (ba true (U (aw none) dK.ay))),(.sl (some true) 2 dK.log.length (ba true (U (aK none) dK.log))),(dN true (sI none dK.safe)),(.int .i64 dK.gen)]),(.int .i64 x1),(.int .i64 x2)] (.int (fun sb=>(.int (fun Ck=>(.done (cv 22 [(.agg [(.sl (some g0) 16 x0.nodes.length (U (ab (some g0)) x0.nodes)),(.sl (some g0) 3 x0.ay.length (U (aw (some g0)) x0.ay)),(.sl (some g0) 2 x0.log.length (U (aK (some g0)) x0.log)),(sI (some g0) x0.safe),(.int .i64 x0.gen)])] (.ty eO.world (fun (sm:ai)=>(.done (cv 26 [(.agg [(.sl (some true) 16 sm.nodes.length (ba true (U (ab none) sm.nodes))),(.sl (some true) 3 sm.ay.length (ba true (U (aw none) sm.ay))),(.sl (some true) 2 sm.log.length (ba true (U (aK none) sm.log))),(dN true (sI none sm.safe)),(.int .i64 sm.gen)]),(.int .i64 x1),(.int .i64 x2)] (.int (fun ui=>(.int (fun vx6=>(.done (br (br (pr.eq ui sb) false true) y2 (br (br (pr.eq vx6 Ck) false true) y2 (cv 22 [(.agg [(.sl (some g0) 16 x0.nodes.length (U (ab (some g0)) x0.nodes)),(.sl (some g0) 3 x0.ay.length (U (aw (some g0)) x0.ay)),(.sl (some g0) 2 x0.log.length (U (aK (some g0)) x0.log)),(sI (some g0) x0.safe),(.int .i64 x0.gen)])] (.ty eO.world (fun (Mc:ai)=>(.done (cv 24 [(.agg [(.sl (some true) 16 sm.nodes.length (ba true (U (ab none) sm.nodes))),(.sl (some true) 3 sm.ay.length (ba true (U (aw none) sm.ay))),(.sl (some true) 2 sm.log.length (ba true (U (aK none) sm.log))),(dN true (sI none sm.safe)),(.int .i64 sm.gen)]),(.agg [(.sl (some true) 16 Mc.nodes.length (ba true (U (ab none) Mc.nodes))),(.sl (some true) 3 Mc.ay.length (ba true (U (aw none) Mc.ay))),(.sl (some true) 2 Mc.log.length (ba true (U (aK none) Mc.log))),(dN true (sI none Mc.safe)),(.int .i64 Mc.gen)])] (.bool (fun P7=>(.done (br (br P7 false true) y2 y1)))))))))))))))))))))))))))))))))))):=by kernel_rfl
end
theorem N0 (w:ai) (lw:nB w) (iw:tf w) (a:Int) (ia:oG a=true) (c:Int) (ic:oG c=true):Cm 6 [.agg (bn (some false) w),.int .i64 a,.int .i64 c] (.bool true,[.undef,.undef,.undef]):=by
  have _:=iw
  have _:=ia
  have _:=ic
  refine Cm.step Du _ fun J _=>?_
  rw [Dv]
  have a1:=nD (w:=w) (l:=1048576) (by omega) (by omega)
  simp (disch:=first | assumption | omega) only [go_sem]
  refine bq (fun _=>rfl) (fun hv=>?_)
  have ok:bW w:=a1.2.2 (by omega)
  simp (disch:=first | assumption | omega) only [go_sem]
end Go.Proofs.YtockoilcnmljiaaGreat
namespace Go.Proofs.YtockoilcnmljiaaGreat.fnExactRead
open Go.ChangeShapes Go.WideShapes Go.ChangeAt Go.RowKit
set_option maxRecDepth 100000
theorem own:ownKnob Tryz.prog.godebug=none:=by kernel_rfl
theorem laidOut:laidOutB Tryz.prog=true:=by kernel_rfl
theorem lifted (os:Os) (started:os.Started) (H:Type) (enc:TypeId × Value→H):
    ReturnsInHanded {} Tryz.checked os 6 .any (Rows.fnExactReadSpec.pre6 enc Tryz.prog Tryz.f6 Rows.fnExactReadRow.domain false) (Rows.fnExactReadSpec.post enc Tryz.prog Tryz.f6 false true false false):=by
  refine returnsInHanded_of_change_sized (C:=Tryz.checked) own started (by kernel_rfl) Tryz.func6
    (ChangeSpec.witness6 (enc:=enc) (C:=Tryz.checked) false ⟨#[],#[.agg #[.slice none 0 0,.slice none 0 0,.slice none 0 0,.slice none 0 0,.int .i64 0],.int .i64 0,.int .i64 0],[]⟩ 8 (by kernel_rfl) (by kernel_rfl) (by kernel_rfl) (by kernel_rfl)) ?_
  intro W base args ds gs before lF hW Q6 oV _
  have cE:(DataW.weightsEach Tryz.prog (Tryz.f6.params.toList++Rows.fnExactReadSpec.plain.varTypes Tryz.prog) (ds++gs)).all (·≤reachBytes)=true:=oV
  have jP:∀ (j:Nat) t v,Tryz.f6.params[j]?=some t→args[j]?=some v→Value.okWide Tryz.prog W .any base t v:=lF
  have Dk:=hW
  obtain ⟨p,q,qD,hV,rfl,Xn,eU⟩:=hW
  have hA:DataW.TrodAll enc Tryz.prog W 0 (fun _=>true) true Tryz.f6.params.toList args.toList ds p:=qD
  rw [Tryz.params6] at hA jP cE
  obtain ⟨v0,Xp,d0,Xq,p0,q0,Dl,rfl,rfl,h0,r0⟩:=trodAll_cons hA
  obtain ⟨v1,vs1,d1,gv,p1,q1,ama,rfl,rfl,h1,r1⟩:=trodAll_cons r0
  obtain ⟨v2,vs2,d2,tG,p2,q2,amb,rfl,rfl,h2,r2⟩:=trodAll_cons r1
  obtain ⟨rfl,rfl,rfl⟩:=trodAll_nil r2
  obtain rfl:args=#[v0,v1,v2]:=by cases args; simp_all
  obtain ⟨rfl,rfl⟩:=trodVars_none hV
  have k0:=h0
  have Dm:∀ x∈p0,x.block < W.heap.size:=by obtain ⟨m,hm⟩:=k0; exact DataW.trod_lt m _ _ _ hm
  obtain ⟨Dn,rfl,_⟩:=okWide_struct Tryz.underlying49 (jP 0 49 v0 rfl rfl)
  obtain ⟨Jf,Dp⟩:=h0
  have uJ:∀ z∈d0.weights Tryz.prog 49,z≤reachBytes:=fun z hz=>by
    have:=List.all_eq_true.1 cE z (DataW.weights_mem_each (j:=0) (t:=49) (d:=d0) rfl rfl z hz)
    simpa using this
  obtain ⟨Dq,w7,rU⟩:=nu (X:=Lk W [] (fun _=>True)) ud te Dp (by kernel_rfl) uJ
  obtain ⟨w0,rfl,Dr,Dt⟩:=tg w7
  have k1:=h1
  have lt1:∀ x∈p1,x.block < W.heap.size:=by obtain ⟨m,hm⟩:=k1; exact DataW.trod_lt m _ _ _ hm
  obtain ⟨x1,rfl,_⟩:=okWide_int Tryz.underlying3 (jP 1 3 v1 rfl rfl)
  obtain ⟨anE,VB⟩:=h1
  have SC:∀ z∈d1.weights Tryz.prog 3,z≤reachBytes:=fun z hz=>by
    have:=List.all_eq_true.1 cE z (DataW.weights_mem_each (j:=1) (t:=3) (d:=d1) rfl rfl z hz)
    simpa using this
  obtain ⟨amd,aje,agN⟩:=nu (X:=Lk W [] (fun _=>True)) ud (.int .i64) VB (by kernel_rfl) SC
  obtain ⟨y1,rfl,hy1⟩:=aje
  have k2:=h2
  have lt2:∀ x∈p2,x.block < W.heap.size:=by obtain ⟨m,hm⟩:=k2; exact DataW.trod_lt m _ _ _ hm
  obtain ⟨x2,rfl,_⟩:=okWide_int Tryz.underlying3 (jP 2 3 v2 rfl rfl)
  obtain ⟨anF,VC⟩:=h2
  have SD:∀ z∈d2.weights Tryz.prog 3,z≤reachBytes:=fun z hz=>by
    have:=List.all_eq_true.1 cE z (DataW.weights_mem_each (j:=2) (t:=3) (d:=d2) rfl rfl z hz)
    simpa using this
  obtain ⟨amg,ajf,agO⟩:=nu (X:=Lk W [] (fun _=>True)) ud (.int .i64) VC (by kernel_rfl) SD
  obtain ⟨y2,rfl,hy2⟩:=ajf
  clear qD lF oV cE
  refine (qJ rE (f:=6) (vs:=#[.agg Dn,.int .i64 x1,.int .i64 x2]) (by kernel_rfl) (N0 w0 Dr Dt y1 (nw hy1) y2 (nw hy2)) (by simp [dG,bY,cY,eD,bZ]) (.cons (vw rU) (.cons (SL agN (by simp) (by simp)) (.cons (SL agO (by simp) (by simp)) .nil)))).mono fun e W' ⟨he,rV⟩=>?_
  subst he
  exact ⟨_,rfl,_,_,_,[],_,[],Dk,trodAll_mk1 (shut_bool Tryz.underlying4 _),trodAll_mk3 (Below.trod laidOut (by kernel_rfl) (of_decide_eq_true (by kernel_rfl)) k0 rV Dm) (Below.trod laidOut (by kernel_rfl) (of_decide_eq_true (by kernel_rfl)) k1 rV lt1) (Below.trod laidOut (by kernel_rfl) (of_decide_eq_true (by kernel_rfl)) k2 rV lt2),rfl,rV.frame _,fun h=>by cases h⟩
theorem over:Rows.fnExactReadRow.holds Tryz.pinned (OpenSpec.ofChange Rows.fnExactReadSpec):=
  OpenClaim.holds_of_wide 6 Tryz.f6 rfl rfl rfl rfl rfl rfl rfl ⟨rfl,rfl,rfl,rfl,rfl⟩ rfl rfl rfl rfl rfl (by kernel_rfl) Tryz.func6 (by kernel_rfl)
    (of_decide_eq_true (by kernel_rfl)) (by unfold Func.isWrapper; first | (rw [if_pos (by decide+kernel)]; kernel_rfl) | (rw [if_neg (by decide+kernel)]; exact ⟨rfl,rfl⟩))
    (fun os started H enc _=>lifted os started H enc)
theorem proved:Rows.FnExactReadSaid:=over
#print axioms proved
end Go.Proofs.YtockoilcnmljiaaGreat.fnExactRead
namespace Go.Proofs.YtockoilcnmljiaaGreat
theorem fnExactRead_holds:Rows.FnExactReadSaid:=fnExactRead.proved
end Go.Proofs.YtockoilcnmljiaaGreat
