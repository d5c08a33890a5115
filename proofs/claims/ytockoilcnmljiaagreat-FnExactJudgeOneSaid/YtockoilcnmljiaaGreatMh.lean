/- FnExactJudgeOne: the program's JudgeOne returns what the reference's returns, for all arguments (a world). No condition. -/
import Derived.Test.YtockoilcnmljiaaGreatRows
import Derived.WalkKit
import Derived.ProofKit
import Derived.OpenShut
import Derived.ShutString
import Derived.ChangeOld
import Derived.ChangeSame
import Derived.Below
import Derived.Carry
import Derived.SizedLaws
import Derived.Test.YtockoilcnmljiaaGreatMg
set_option linter.all false
set_option linter.unusedSimpArgs false
set_option linter.unusedVariables false
set_option linter.unnecessarySimpa false
set_option linter.unusedSectionVars false
namespace Go.Proofs.YtockoilcnmljiaaGreat
set_option maxRecDepth 100000
section
variable (pr:dr) (cv:Cv Rz) (J:Nat→St→Option Rz)
theorem yp:Told cfg Tryz.prog 7 Tryz.f7:=⟨by kernel_rfl,Tryz.func7,by kernel_rfl⟩
theorem yq (g0:Bool) (x0:ai):aR pr cv J 7 Tryz.f7 [(.agg (bn (some g0) x0))]=
    let y1:Option (D × List D):=(some ((.bool true),[.undef]))
    let y2:Option (D × List D):=(some ((.bool false),[.undef]))
    (cv 20 [(.agg [(.sl (some g0) 16 x0.nodes.length (U (ab (some g0)) x0.nodes)),(.sl (some g0) 3 x0.ay.length (U (aw (some g0)) x0.ay)),(.sl (some g0) 2 x0.log.length (U (aK (some g0)) x0.log)),(sI (some g0) x0.safe),(.int .i64 x0.gen)]),(.int .i64 1048576)] (.int (fun dA=>(.done (br (pr.lt dA 0) y1 (cv 22 [(.agg [(.sl (some g0) 16 x0.nodes.length (U (ab (some g0)) x0.nodes)),(.sl (some g0) 3 x0.ay.length (U (aw (some g0)) x0.ay)),(.sl (some g0) 2 x0.log.length (U (aK (some g0)) x0.log)),(sI (some g0) x0.safe),(.int .i64 x0.gen)])] (.ty eO.world (fun (dK:ai)=>(.done (cv 27 [(.agg [(.sl (some true) 16 dK.nodes.length (ba true (U (ab none) dK.nodes))),(.sl (some true) 3 dK.ay.length (ba true (U (aw none) dK.ay))),(.sl (some true) 2 dK.log.length (ba true (U (aK none) dK.log))),(dN true (sI none dK.safe)),(.int .i64 dK.gen)])] (.bool (fun fb=>(.done (cv 22 [(.agg [(.sl (some g0) 16 x0.nodes.length (U (ab (some g0)) x0.nodes)),(.sl (some g0) 3 x0.ay.length (U (aw (some g0)) x0.ay)),(.sl (some g0) 2 x0.log.length (U (aK (some g0)) x0.log)),(sI (some g0) x0.safe),(.int .i64 x0.gen)])] (.ty eO.world (fun (cK:ai)=>(.done (cv 28 [(.agg [(.sl (some true) 16 cK.nodes.length (ba true (U (ab none) cK.nodes))),(.sl (some true) 3 cK.ay.length (ba true (U (aw none) cK.ay))),(.sl (some true) 2 cK.log.length (ba true (U (aK none) cK.log))),(dN true (sI none cK.safe)),(.int .i64 cK.gen)])] (.bool (fun wu=>(.done (br (br (pr.beq wu fb) false true) y2 (cv 22 [(.agg [(.sl (some g0) 16 x0.nodes.length (U (ab (some g0)) x0.nodes)),(.sl (some g0) 3 x0.ay.length (U (aw (some g0)) x0.ay)),(.sl (some g0) 2 x0.log.length (U (aK (some g0)) x0.log)),(sI (some g0) x0.safe),(.int .i64 x0.gen)])] (.ty eO.world (fun (gd:ai)=>(.done (cv 24 [(.agg [(.sl (some true) 16 cK.nodes.length (ba true (U (ab none) cK.nodes))),(.sl (some true) 3 cK.ay.length (ba true (U (aw none) cK.ay))),(.sl (some true) 2 cK.log.length (ba true (U (aK none) cK.log))),(dN true (sI none cK.safe)),(.int .i64 cK.gen)]),(.agg [(.sl (some true) 16 gd.nodes.length (ba true (U (ab none) gd.nodes))),(.sl (some true) 3 gd.ay.length (ba true (U (aw none) gd.ay))),(.sl (some true) 2 gd.log.length (ba true (U (aK none) gd.log))),(dN true (sI none gd.safe)),(.int .i64 gd.gen)])] (.bool (fun mw=>(.done (br (br mw false true) y2 y1))))))))))))))))))))))))))))))):=by kernel_rfl
end
theorem EF (w:ai) (lw:nB w) (iw:tf w):Cm 7 [.agg (bn (some false) w)] (.bool true,[.undef]):=by
  have _:=iw
  refine Cm.step yp _ fun J _=>?_
  rw [yq]
  have a1:=nD (w:=w) (l:=1048576) (by omega) (by omega)
  simp (disch:=first | assumption | omega) only [go_sem]
  refine bq (fun _=>rfl) (fun hv=>?_)
  have ok:bW w:=a1.2.2 (by omega)
  simp (disch:=first | assumption | omega) only [go_sem]
end Go.Proofs.YtockoilcnmljiaaGreat
namespace Go.Proofs.YtockoilcnmljiaaGreat.fnExactJudgeOne
open Go.ChangeShapes Go.WideShapes Go.ChangeAt Go.RowKit
set_option maxRecDepth 100000
theorem own:ownKnob Tryz.prog.godebug=none:=by kernel_rfl
theorem laidOut:laidOutB Tryz.prog=true:=by kernel_rfl
theorem lifted (os:Os) (started:os.Started) (H:Type) (enc:TypeId × Value→H):
    ReturnsInHanded {} Tryz.checked os 7 .any (Rows.fnExactJudgeOneSpec.pre6 enc Tryz.prog Tryz.f7 Rows.fnExactJudgeOneRow.domain false) (Rows.fnExactJudgeOneSpec.post enc Tryz.prog Tryz.f7 false true false false):=by
  refine returnsInHanded_of_change_sized (C:=Tryz.checked) own started (by kernel_rfl) Tryz.func7
    (ChangeSpec.witness6 (enc:=enc) (C:=Tryz.checked) false ⟨#[],#[.agg #[.slice none 0 0,.slice none 0 0,.slice none 0 0,.slice none 0 0,.int .i64 0]],[]⟩ 8 (by kernel_rfl) (by kernel_rfl) (by kernel_rfl) (by kernel_rfl)) ?_
  intro W base args ds gs before lF hW Q6 oV _
  have cE:(DataW.weightsEach Tryz.prog (Tryz.f7.params.toList++Rows.fnExactJudgeOneSpec.plain.varTypes Tryz.prog) (ds++gs)).all (·≤reachBytes)=true:=oV
  have jP:∀ (j:Nat) t v,Tryz.f7.params[j]?=some t→args[j]?=some v→Value.okWide Tryz.prog W .any base t v:=lF
  have Dk:=hW
  obtain ⟨p,q,qD,hV,rfl,Xn,eU⟩:=hW
  have hA:DataW.TrodAll enc Tryz.prog W 0 (fun _=>true) true Tryz.f7.params.toList args.toList ds p:=qD
  rw [Tryz.params7] at hA jP cE
  obtain ⟨v0,Xp,d0,Xq,p0,q0,Dl,rfl,rfl,h0,r0⟩:=trodAll_cons hA
  obtain ⟨rfl,rfl,rfl⟩:=trodAll_nil r0
  obtain rfl:args=#[v0]:=by cases args; simp_all
  obtain ⟨rfl,rfl⟩:=trodVars_none hV
  have k0:=h0
  have Dm:∀ x∈p0,x.block < W.heap.size:=by obtain ⟨m,hm⟩:=k0; exact DataW.trod_lt m _ _ _ hm
  obtain ⟨Dn,rfl,_⟩:=okWide_struct Tryz.underlying49 (jP 0 49 v0 rfl rfl)
  obtain ⟨Jf,Dp⟩:=h0
  have uJ:∀ z∈d0.weights Tryz.prog 49,z≤reachBytes:=fun z hz=>by
    have:=List.all_eq_true.1 cE z (DataW.weights_mem_each (j:=0) (t:=49) (d:=d0) rfl rfl z hz)
    simpa using this
  obtain ⟨Dq,w7,rU⟩:=nu (X:=Lk W [] (fun _=>True)) ud te Dp (by kernel_rfl) uJ
  obtain ⟨w0,rfl,Dr,Dt⟩:=tg w7
  clear qD lF oV cE
  refine (qJ rE (f:=7) (vs:=#[.agg Dn]) (by kernel_rfl) (EF w0 Dr Dt) (by simp [dG,bY,cY,eD,bZ]) (.cons (vw rU) .nil)).mono fun e W' ⟨he,rV⟩=>?_
  subst he
  exact ⟨_,rfl,_,_,_,[],_,[],Dk,trodAll_mk1 (shut_bool Tryz.underlying4 _),trodAll_mk1 (Below.trod laidOut (by kernel_rfl) (of_decide_eq_true (by kernel_rfl)) k0 rV Dm),rfl,rV.frame _,fun h=>by cases h⟩
theorem over:Rows.fnExactJudgeOneRow.holds Tryz.pinned (OpenSpec.ofChange Rows.fnExactJudgeOneSpec):=
  OpenClaim.holds_of_wide 7 Tryz.f7 rfl rfl rfl rfl rfl rfl rfl ⟨rfl,rfl,rfl,rfl,rfl⟩ rfl rfl rfl rfl rfl (by kernel_rfl) Tryz.func7 (by kernel_rfl)
    (of_decide_eq_true (by kernel_rfl)) (by unfold Func.isWrapper; first | (rw [if_pos (by decide+kernel)]; kernel_rfl) | (rw [if_neg (by decide+kernel)]; exact ⟨rfl,rfl⟩))
    (fun os started H enc _=>lifted os started H enc)
theorem proved:Rows.FnExactJudgeOneSaid:=over
#print axioms proved
end Go.Proofs.YtockoilcnmljiaaGreat.fnExactJudgeOne
namespace Go.Proofs.YtockoilcnmljiaaGreat
theorem fnExactJudgeOne_holds:Rows.FnExactJudgeOneSaid:=fnExactJudgeOne.proved
end Go.Proofs.YtockoilcnmljiaaGreat
