/- DisputeWider: for every input the law returns true, and each argument reads behind the call as it read before. No condition. -/
import Derived.Test.YtkdggbfknlcdaaaL5
set_option linter.unusedVariables false
set_option linter.unusedSimpArgs false
set_option linter.deprecated false
set_option linter.all false

namespace Go.Proofs.Ytkdggbfknlcdaaa.disputeWider
open Go Go.Eng Go.Proofs Go.ChangeShapes Go.WideShapes Go.ChangeAt Go.RowKit
set_option maxRecDepth 100000 in
theorem lifted (os:Os)(started:os.Started)(H:Type)(enc:TypeId×Value→H):
    ReturnsInHanded {} Try.checked os 5 .any (Rows.disputeWiderSpec.pre6 enc Try.prog Try.f5 Rows.disputeWiderRow.domain false) (Rows.disputeWiderSpec.post enc Try.prog Try.f5 false true false false):=by
  refine returnsInHanded_of_change_sized (C:=Try.checked) own4 started (by kernel_rfl) Try.func5
    (ChangeSpec.witness6 (enc:=enc) (C:=Try.checked) false ⟨#[],#[.agg #[.slice none 0 0,.slice none 0 0,.slice none 0 0,.int .i64 0,.int .i64 0,.slice none 0 0,.slice none 0 0],.int .u8 0,.int .u8 0],[]⟩ 8 (by kernel_rfl) (by kernel_rfl) (by kernel_rfl) (by kernel_rfl)) ?_
  intro W base args ds gs before hval0 hW hcnd hz _
  have hval:∀(j:Nat) t v,Try.f5.params[j]? =some t→args[j]? =some v→Value.okWide Try.prog W .any base t v:=hval0
  have hW':=hW
  obtain⟨p,q,hA0,hV,rfl,_,_⟩:=hW
  have hA:DataW.TrodAll enc Try.prog W 0 (fun _=>true) true Try.f5.params.toList args.toList ds p:=hA0
  have hpar:Try.f5.params = #[29,5,5]:=by kernel_rfl
  rw [hpar]at hA hval
  obtain⟨v0,vs0,d0,ds0,p0,q0,hargs,rfl,rfl,h0,r0⟩:=trodAll_cons hA
  obtain⟨v1,vs1,d1,ds1,p1,q1,rfl,rfl,rfl,h1,r1⟩:=trodAll_cons r0
  obtain⟨v2,vs2,d2,ds2,p2,q2,rfl,rfl,rfl,h2,r2⟩:=trodAll_cons r1
  obtain⟨rfl,rfl,rfl⟩:=trodAll_nil r2
  obtain rfl:args = #[v0,v1,v2]:=by cases args;simp_all
  obtain⟨rfl,rfl⟩:=trodVars_none hV
  obtain⟨a0,w0,g0⟩:=uqB u29 (hval 0 29 v0 rfl rfl) h0 uuU hz (j:=0) (by rw [hpar];rfl) rfl
  obtain⟨a1,w1,g1⟩:=uo9 u5 (hval 1 5 v1 rfl rfl) h1
  obtain⟨a2,w2,g2⟩:=uo9 u5 (hval 2 5 v2 rfl rfl) h2
  refine(umO (law5 a0 a1 a2 (uuK w1) (uuK w2) w0) (.tcons _ _ _ _ _ (g0 _) (.tcons _ _ _ _ _ (g1 _) (.tcons _ _ _ _ _ (g2 _) (.tnil _))))).mono fun e W' ⟨he,hL⟩=> ?_
  subst he
  exact⟨_,rfl,uot (s:=Rows.disputeWiderSpec) uvP uwe (by rw [hpar];decide) (by kernel_rfl) u4 rfl hW' hL rfl rfl rfl⟩
theorem proved :Rows.DisputeWiderSaid:=
  OpenClaim.holds_of_wide 5 Try.f5 rfl rfl rfl rfl rfl rfl rfl ⟨rfl,rfl,rfl,rfl,rfl⟩ rfl rfl rfl rfl rfl (by kernel_rfl) Try.func5 (by kernel_rfl)
    (of_decide_eq_true (by kernel_rfl)) (by unfold Func.isWrapper;first|(rw [if_pos (by decide +kernel)];kernel_rfl)|(rw [if_neg (by decide +kernel)];exact⟨rfl,rfl⟩))
    (fun os started H enc _=>lifted os started H enc)
end Go.Proofs.Ytkdggbfknlcdaaa.disputeWider
