/- CaskGauges: for every input the law returns true, and each argument reads behind the call as it read before. No condition. -/
import Derived.Test.YtpkgnhcfmpbidaaL3
set_option linter.unusedVariables false
set_option linter.unusedSimpArgs false
set_option linter.deprecated false
set_option linter.all false

namespace Go.Proofs.Ytpkgnhcfmpbidaa.caskGauges
open Go Go.Eng Go.Proofs Go.ChangeShapes Go.WideShapes Go.ChangeAt Go.RowKit
set_option maxRecDepth 100000 in
theorem lifted (os:Os)(started:os.Started)(H:Type)(enc:TypeId×Value→H):
 ReturnsInHanded {} Try.checked os 3 .any (Rows.caskGaugesSpec.pre6 enc Try.prog Try.f3 Rows.caskGaugesRow.domain false) (Rows.caskGaugesSpec.post enc Try.prog Try.f3 false true false false):=by
 refine returnsInHanded_of_change (C:=Try.checked) uyN started (by kernel_rfl) Try.func3
  (ChangeSpec.witness6 (enc:=enc) (C:=Try.checked) false ⟨#[],#[.agg #[.slice none 0 0,.slice none 0 0,.slice none 0 0],.int .i64 0,.int .i64 0,.int .i64 0,.int .i64 0],[]⟩ 8 (by kernel_rfl) (by kernel_rfl) (by kernel_rfl) (by kernel_rfl)) ?_
 intro W base args ds gs before hval0 hW hcnd _
 have hval:∀(j:Nat) t v,Try.f3.params[j]? =some t→args[j]? =some v→Value.okWide Try.prog W .any base t v:=hval0
 have hW':=hW
 obtain⟨p,q,hA0,hV,rfl,_,_⟩:=hW
 have hA:DataW.TrodAll enc Try.prog W 0 (fun _=>true) true Try.f3.params.toList args.toList ds p:=hA0
 have hpar:Try.f3.params = #[26,3,3,3,3]:=by kernel_rfl
 rw [hpar]at hA hval
 obtain⟨v0,vs0,d0,ds0,p0,q0,hargs,rfl,rfl,h0,r0⟩:=trodAll_cons hA
 obtain⟨v1,vs1,d1,ds1,p1,q1,rfl,rfl,rfl,h1,r1⟩:=trodAll_cons r0
 obtain⟨v2,vs2,d2,ds2,p2,q2,rfl,rfl,rfl,h2,r2⟩:=trodAll_cons r1
 obtain⟨v3,vs3,d3,ds3,p3,q3,rfl,rfl,rfl,h3,r3⟩:=trodAll_cons r2
 obtain⟨v4,vs4,d4,ds4,p4,q4,rfl,rfl,rfl,h4,r4⟩:=trodAll_cons r3
 obtain⟨rfl,rfl,rfl⟩:=trodAll_nil r4
 obtain rfl:args = #[v0,v1,v2,v3,v4]:=by cases args;simp_all
 obtain⟨rfl,rfl⟩:=trodVars_none hV
 obtain⟨a0,w0,g0⟩:=urK u26 (hval 0 26 v0 rfl rfl) h0 uwZ
 obtain⟨a1,w1,g1⟩:=ui3 u3 (hval 1 3 v1 rfl rfl) h1
 obtain⟨a2,w2,g2⟩:=ui3 u3 (hval 2 3 v2 rfl rfl) h2
 obtain⟨a3,w3,g3⟩:=ui3 u3 (hval 3 3 v3 rfl rfl) h3
 obtain⟨a4,w4,g4⟩:=ui3 u3 (hval 4 3 v4 rfl rfl) h4
 refine(ulZ (uy9 a0 a1 a2 a3 a4) (.tcons _ _ _ _ _ (g0 _) (.tcons _ _ _ _ _ (g1 _) (.tcons _ _ _ _ _ (g2 _) (.tcons _ _ _ _ _ (g3 _) (.tcons _ _ _ _ _ (g4 _) (.tnil _))))))).mono fun e W' ⟨he,hL⟩=> ?_
 subst he
 exact⟨_,rfl,unl (s:=Rows.caskGaugesSpec) uvO uwi (by rw [hpar];decide) (by kernel_rfl) u4 rfl hW' hL rfl rfl rfl⟩
theorem proved :Rows.CaskGaugesSaid:=
 OpenClaim.holds_of_wide 3 Try.f3 rfl rfl rfl rfl rfl rfl rfl ⟨rfl,rfl,rfl,rfl,rfl⟩ rfl rfl rfl rfl rfl (by kernel_rfl) Try.func3 (by kernel_rfl)
  (of_decide_eq_true (by kernel_rfl)) (by unfold Func.isWrapper;first|(rw [if_pos (by decide +kernel)];kernel_rfl)|(rw [if_neg (by decide +kernel)];exact⟨rfl,rfl⟩))
  (fun os started H enc _=>lifted os started H enc)
end Go.Proofs.Ytpkgnhcfmpbidaa.caskGauges
