/- DisputeMore: for every input the law returns true, and each argument reads behind the call as it read before. No condition. -/
import Derived.Test.YtkdggbfknlcdaaaL4
set_option linter.unusedVariables false
set_option linter.unusedSimpArgs false
set_option linter.deprecated false
set_option linter.all false

namespace Go.Proofs.Ytkdggbfknlcdaaa.disputeMore
open Go Go.Eng Go.Proofs Go.ChangeShapes Go.WideShapes Go.ChangeAt Go.RowKit
set_option maxRecDepth 100000 in
theorem lifted (os:Os)(started:os.Started)(H:Type)(enc:TypeId×Value→H):
    ReturnsInHanded {} Try.checked os 4 .any (Rows.disputeMoreSpec.pre6 enc Try.prog Try.f4 Rows.disputeMoreRow.domain false) (Rows.disputeMoreSpec.post enc Try.prog Try.f4 false true false false):=by
  refine returnsInHanded_of_change_sized (C:=Try.checked) own4 started (by kernel_rfl) Try.func4
    (ChangeSpec.witness6 (enc:=enc) (C:=Try.checked) false ⟨#[],#[.agg #[.slice none 0 0,.slice none 0 0,.slice none 0 0,.int .i64 0,.int .i64 0,.slice none 0 0,.slice none 0 0],.agg #[.int .i64 0,.int .i64 0,.int .i64 0,.int .i64 0,.int .i64 0,.int .i64 0]],[]⟩ 8 (by kernel_rfl) (by kernel_rfl) (by kernel_rfl) (by kernel_rfl)) ?_
  intro W base args ds gs before hval0 hW hcnd hz _
  have hval:∀(j:Nat) t v,Try.f4.params[j]? =some t→args[j]? =some v→Value.okWide Try.prog W .any base t v:=hval0
  have hW':=hW
  obtain⟨p,q,hA0,hV,rfl,_,_⟩:=hW
  have hA:DataW.TrodAll enc Try.prog W 0 (fun _=>true) true Try.f4.params.toList args.toList ds p:=hA0
  have hpar:Try.f4.params = #[29,50]:=by kernel_rfl
  rw [hpar]at hA hval
  obtain⟨v0,vs0,d0,ds0,p0,q0,hargs,rfl,rfl,h0,r0⟩:=trodAll_cons hA
  obtain⟨v1,vs1,d1,ds1,p1,q1,rfl,rfl,rfl,h1,r1⟩:=trodAll_cons r0
  obtain⟨rfl,rfl,rfl⟩:=trodAll_nil r1
  obtain rfl:args = #[v0,v1]:=by cases args;simp_all
  obtain⟨rfl,rfl⟩:=trodVars_none hV
  obtain⟨a0,w0,g0⟩:=argZ_str u29 (hval 0 29 v0 rfl rfl) h0 dec29Z hz (j:=0) (by rw [hpar];rfl) rfl
  obtain⟨a1,w1,g1⟩:=arg_str u50 (hval 1 50 v1 rfl rfl) h1 dec50
  refine(calls_true (law4 a0 a1 w0) (.tcons _ _ _ _ _ (g0 _) (.tcons _ _ _ _ _ (g1 _) (.tnil _)))).mono fun e W' ⟨he,hL⟩=> ?_
  subst he
  exact⟨_,rfl,post_true (s:=Rows.disputeMoreSpec) kids4 full4 (by rw [hpar];decide) (by kernel_rfl) u4 rfl hW' hL rfl rfl rfl⟩
theorem proved :Rows.DisputeMoreSaid:=
  OpenClaim.holds_of_wide 4 Try.f4 rfl rfl rfl rfl rfl rfl rfl ⟨rfl,rfl,rfl,rfl,rfl⟩ rfl rfl rfl rfl rfl (by kernel_rfl) Try.func4 (by kernel_rfl)
    (of_decide_eq_true (by kernel_rfl)) (by unfold Func.isWrapper;first|(rw [if_pos (by decide +kernel)];kernel_rfl)|(rw [if_neg (by decide +kernel)];exact⟨rfl,rfl⟩))
    (fun os started H enc _=>lifted os started H enc)
end Go.Proofs.Ytkdggbfknlcdaaa.disputeMore
