/- DisputeNames: for every input the law returns true, and each argument reads behind the call as it read before. No condition. -/
import Derived.Test.YtkdggbfknlcdaaaL10
set_option linter.unusedVariables false
set_option linter.unusedSimpArgs false
set_option linter.deprecated false
set_option linter.all false

namespace Go.Proofs.Ytkdggbfknlcdaaa.disputeNames
open Go Go.Eng Go.Proofs Go.ChangeShapes Go.WideShapes Go.ChangeAt Go.RowKit
set_option maxRecDepth 100000 in
theorem lifted (os:Os)(started:os.Started)(H:Type)(enc:TypeId×Value→H):
    ReturnsInHanded {} Try.checked os 10 .any (Rows.disputeNamesSpec.pre6 enc Try.prog Try.f10 Rows.disputeNamesRow.domain false) (Rows.disputeNamesSpec.post enc Try.prog Try.f10 false true false false):=by
  refine returnsInHanded_of_change (C:=Try.checked) own4 started (by kernel_rfl) Try.func10
    (ChangeSpec.witness6 (enc:=enc) (C:=Try.checked) false ⟨#[],#[],[]⟩ 8 (by kernel_rfl) (by kernel_rfl) (by kernel_rfl) (by kernel_rfl)) ?_
  intro W base args ds gs before hval0 hW hcnd _
  have hval:∀(j:Nat) t v,Try.f10.params[j]? =some t→args[j]? =some v→Value.okWide Try.prog W .any base t v:=hval0
  have hW':=hW
  obtain⟨p,q,hA0,hV,rfl,_,_⟩:=hW
  have hA:DataW.TrodAll enc Try.prog W 0 (fun _=>true) true Try.f10.params.toList args.toList ds p:=hA0
  have hpar:Try.f10.params = #[]:=by kernel_rfl
  rw [hpar]at hA hval
  obtain⟨hargs,rfl,rfl⟩:=trodAll_nil hA
  obtain rfl:args = #[]:=by cases args;simp_all
  obtain⟨rfl,rfl⟩:=trodVars_none hV
  refine(calls_true (law10) (.tnil _)).mono fun e W' ⟨he,hL⟩=> ?_
  subst he
  exact⟨_,rfl,post_true (s:=Rows.disputeNamesSpec) kids4 full4 (by rw [hpar];decide) (by kernel_rfl) u4 rfl hW' hL rfl rfl rfl⟩
theorem proved :Rows.DisputeNamesSaid:=
  OpenClaim.holds_of_wide 10 Try.f10 rfl rfl rfl rfl rfl rfl rfl ⟨rfl,rfl,rfl,rfl,rfl⟩ rfl rfl rfl rfl rfl (by kernel_rfl) Try.func10 (by kernel_rfl)
    (of_decide_eq_true (by kernel_rfl)) (by unfold Func.isWrapper;first|(rw [if_pos (by decide +kernel)];kernel_rfl)|(rw [if_neg (by decide +kernel)];exact⟨rfl,rfl⟩))
    (fun os started H enc _=>lifted os started H enc)
end Go.Proofs.Ytkdggbfknlcdaaa.disputeNames
