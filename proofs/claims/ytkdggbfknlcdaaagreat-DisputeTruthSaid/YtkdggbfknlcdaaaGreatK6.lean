/- DisputeTruth: for every input the law returns true, and each argument reads behind the call as it read before. No condition. -/
import Derived.Test.YtkdggbfknlcdaaaGreatL6
set_option linter.unusedVariables false
set_option linter.unusedSimpArgs false
set_option linter.deprecated false
set_option linter.all false

namespace Go.Proofs.YtkdggbfknlcdaaaGreat.disputeTruth
open Go Go.Eng Go.Proofs Go.ChangeShapes Go.WideShapes Go.ChangeAt Go.RowKit
set_option maxRecDepth 100000 in
theorem lifted (os:Os)(started:os.Started)(H:Type)(enc:TypeId×Value→H):
 ReturnsInHanded {} Tryz.checked os 6 .any (Rows.disputeTruthSpec.pre6 enc Tryz.prog Tryz.f6 Rows.disputeTruthRow.domain false) (Rows.disputeTruthSpec.post enc Tryz.prog Tryz.f6 false true false false):=by
 refine returnsInHanded_of_change (C:=Tryz.checked) uBz started (by kernel_rfl) Tryz.func6
  (ChangeSpec.witness6 (enc:=enc) (C:=Tryz.checked) false ⟨#[],#[.agg #[.slice none 0 0,.slice none 0 0,.slice none 0 0,.int .i64 0,.int .i64 0,.slice none 0 0,.slice none 0 0],.slice none 0 0,.int .u16 0],[]⟩ 8 (by kernel_rfl) (by kernel_rfl) (by kernel_rfl) (by kernel_rfl)) ?_
 intro W base args ds gs before hval0 hW hcnd _
 have hval:∀(j:Nat) t v,Tryz.f6.params[j]? =some t→args[j]? =some v→Value.okWide Tryz.prog W .any base t v:=hval0
 have hW':=hW
 obtain⟨p,q,hA0,hV,rfl,_,_⟩:=hW
 have hA:DataW.TrodAll enc Tryz.prog W 0 (fun _=>true) true Tryz.f6.params.toList args.toList ds p:=hA0
 have hpar:Tryz.f6.params = #[29,68,69]:=by kernel_rfl
 rw [hpar]at hA hval
 obtain⟨v0,vs0,d0,ds0,p0,q0,hargs,rfl,rfl,h0,r0⟩:=trodAll_cons hA
 obtain⟨v1,vs1,d1,ds1,p1,q1,rfl,rfl,rfl,h1,r1⟩:=trodAll_cons r0
 obtain⟨v2,vs2,d2,ds2,p2,q2,rfl,rfl,rfl,h2,r2⟩:=trodAll_cons r1
 obtain⟨rfl,rfl,rfl⟩:=trodAll_nil r2
 obtain rfl:args = #[v0,v1,v2]:=by cases args;simp_all
 obtain⟨rfl,rfl⟩:=trodVars_none hV
 obtain⟨a0,w0,g0⟩:=uvc u29 (hval 0 29 v0 rfl rfl) h0 uz8
 obtain⟨a1,w1,g1⟩:=uwq u68 (hval 1 68 v1 rfl rfl) h1 uyb
 obtain⟨a2,w2,g2⟩:=uv3 u69 (hval 2 69 v2 rfl rfl) h2
 refine(uni (uAa a0 a1 a2 (fun k hk=>ut9 (w1.1 _ (by rw [List.getD_eq_getElem?_getD,List.getElem?_eq_getElem hk];exact List.getElem_mem hk))) (by have:=w1.2;simp only [maxLen]at this;omega) (ut9 w2)) (.tcons _ _ _ _ _ (g0 _) (.tcons _ _ _ _ _ (g1 _) (.tcons _ _ _ _ _ (g2 _) (.tnil _))))).mono fun e W' ⟨he,hL⟩=> ?_
 subst he
 exact⟨_,rfl,uq4 (s:=Rows.disputeTruthSpec) uyT uyG (by rw [hpar];decide) (by kernel_rfl) u4 rfl hW' hL rfl rfl rfl⟩
theorem proved :Rows.DisputeTruthSaid:=
 OpenClaim.holds_of_wide 6 Tryz.f6 rfl rfl rfl rfl rfl rfl rfl ⟨rfl,rfl,rfl,rfl,rfl⟩ rfl rfl rfl rfl rfl (by kernel_rfl) Tryz.func6 (by kernel_rfl)
  (of_decide_eq_true (by kernel_rfl)) (by unfold Func.isWrapper;first|(rw [if_pos (by decide +kernel)];kernel_rfl)|(rw [if_neg (by decide +kernel)];exact⟨rfl,rfl⟩))
  (fun os started H enc _=>lifted os started H enc)
end Go.Proofs.YtkdggbfknlcdaaaGreat.disputeTruth
