/- Contracts of the functions that the laws come to. No condition. -/
import Derived.Test.YtkdgpdlfakcgdaaT5
set_option linter.unusedVariables false
set_option linter.unusedSimpArgs false
set_option linter.deprecated false
set_option linter.all false

namespace Go.Proofs.Ytkdgpdlfakcgdaa
open Go Go.Eng Go.Proofs
set_option maxRecDepth 10000
set_option maxHeartbeats 1000000 in
theorem awake21 :FSpec Try.prog 21 [] [] (fun r _=>r=(.bool (.lit true))):=by
  have kthree56:=three56
  have kten3:=ten3
  have kduty3:=duty3
  have kduties3:=duties3
  have kblend3:=blend3
  have kwater3:=water3
  have kprove3:=prove3
  have kfewest3:=fewest3
  have kfalse3:=false3
  have ksame3a:=same3a
  have ksame3b:=same3b
  have ksame3c:=same3c
  have c47:= @between47
  have h35:=eqOk35
  refine FSpec.is fun R hR=>qW (sc:=sc21) tyok mix Try.func21 rfl Try.call21 (by kernel_rfl) (by kernel_rfl) ?_
  generalize Try.prog=P at kthree56 kten3 kduty3 kduties3 kblend3 kwater3 kprove3 kfewest3 kfalse3 ksame3a ksame3b ksame3c c47 h35⊢
  cbv
  repeat' (first
      |with_reducible refine hold ?_ ?_
      |with_reducible refine And.intro ?_ ?_
      | (with_reducible refine qS ?_ ?_ ?_
         try cbv)
      | (with_reducible refine qT ?_ ?_
         try cbv)
      |(with_reducible intro hcd;(try simp only [zA,zB,zC,zD,zE,zF,zG,zH,zI,zJ,zK,zL,zM,zN,zO,zP]at hcd);try cbv)
      | (refine qP ?_ (c47 _ _) (by(repeat' (first|exact qB|refine qD ?_ ?_|exact qE (by rfl)|exact qF (by rfl)|exact Fit.refl _|exact qA|refine qC ?_ rfl ?_)))
         try cbv)
      | (refine qP ?_ (kthree56) ?hfit
         case hfit=>((repeat' (first|exact qA|exact qB|refine qC ?_ rfl ?_|refine qD ?_ ?_|exact qE (by rfl)|exact qF (by rfl)|exact Fit.refl _|(first|(refine fit_sl (by rfl) (fun ix h0 h1=> ?_);(have h2:ix.den<2:=h1);(have hx:ix.den.toNat=0∨ix.den.toNat=1:=by omega);(rcases hx with hx|hx<;>simp only [hx]))|(refine fit_sl (by rfl) (fun ix h0 h1=> ?_);(have h2:ix.den<3:=h1);(have hx:ix.den.toNat=0∨ix.den.toNat=1∨ix.den.toNat=2:=by omega);(rcases hx with hx|hx|hx<;>simp only [hx]))|(refine fit_sl (by rfl) (fun ix h0 h1=> ?_);(have h2:ix.den<4:=h1);(have hx:ix.den.toNat=0∨ix.den.toNat=1∨ix.den.toNat=2∨ix.den.toNat=3:=by omega);(rcases hx with hx|hx|hx|hx<;>simp only [hx])))));done)
         try cbv)
      | (refine qP ?_ (kten3) ?hfit
         case hfit=>((repeat' (first|exact qA|exact qB|refine qC ?_ rfl ?_|refine qD ?_ ?_|exact qE (by rfl)|exact qF (by rfl)|exact Fit.refl _|(first|(refine fit_sl (by rfl) (fun ix h0 h1=> ?_);(have h2:ix.den<2:=h1);(have hx:ix.den.toNat=0∨ix.den.toNat=1:=by omega);(rcases hx with hx|hx<;>simp only [hx]))|(refine fit_sl (by rfl) (fun ix h0 h1=> ?_);(have h2:ix.den<3:=h1);(have hx:ix.den.toNat=0∨ix.den.toNat=1∨ix.den.toNat=2:=by omega);(rcases hx with hx|hx|hx<;>simp only [hx]))|(refine fit_sl (by rfl) (fun ix h0 h1=> ?_);(have h2:ix.den<4:=h1);(have hx:ix.den.toNat=0∨ix.den.toNat=1∨ix.den.toNat=2∨ix.den.toNat=3:=by omega);(rcases hx with hx|hx|hx|hx<;>simp only [hx])))));done)
         try cbv)
      | (refine qP ?_ (kduty3) ?hfit
         case hfit=>((repeat' (first|exact qA|exact qB|refine qC ?_ rfl ?_|refine qD ?_ ?_|exact qE (by rfl)|exact qF (by rfl)|exact Fit.refl _|(first|(refine fit_sl (by rfl) (fun ix h0 h1=> ?_);(have h2:ix.den<2:=h1);(have hx:ix.den.toNat=0∨ix.den.toNat=1:=by omega);(rcases hx with hx|hx<;>simp only [hx]))|(refine fit_sl (by rfl) (fun ix h0 h1=> ?_);(have h2:ix.den<3:=h1);(have hx:ix.den.toNat=0∨ix.den.toNat=1∨ix.den.toNat=2:=by omega);(rcases hx with hx|hx|hx<;>simp only [hx]))|(refine fit_sl (by rfl) (fun ix h0 h1=> ?_);(have h2:ix.den<4:=h1);(have hx:ix.den.toNat=0∨ix.den.toNat=1∨ix.den.toNat=2∨ix.den.toNat=3:=by omega);(rcases hx with hx|hx|hx|hx<;>simp only [hx])))));done)
         try cbv)
      | (refine qP ?_ (kduties3) ?hfit
         case hfit=>((repeat' (first|exact qA|exact qB|refine qC ?_ rfl ?_|refine qD ?_ ?_|exact qE (by rfl)|exact qF (by rfl)|exact Fit.refl _|(first|(refine fit_sl (by rfl) (fun ix h0 h1=> ?_);(have h2:ix.den<2:=h1);(have hx:ix.den.toNat=0∨ix.den.toNat=1:=by omega);(rcases hx with hx|hx<;>simp only [hx]))|(refine fit_sl (by rfl) (fun ix h0 h1=> ?_);(have h2:ix.den<3:=h1);(have hx:ix.den.toNat=0∨ix.den.toNat=1∨ix.den.toNat=2:=by omega);(rcases hx with hx|hx|hx<;>simp only [hx]))|(refine fit_sl (by rfl) (fun ix h0 h1=> ?_);(have h2:ix.den<4:=h1);(have hx:ix.den.toNat=0∨ix.den.toNat=1∨ix.den.toNat=2∨ix.den.toNat=3:=by omega);(rcases hx with hx|hx|hx|hx<;>simp only [hx])))));done)
         try cbv)
      | (refine qP ?_ (kblend3) ?hfit
         case hfit=>((repeat' (first|exact qA|exact qB|refine qC ?_ rfl ?_|refine qD ?_ ?_|exact qE (by rfl)|exact qF (by rfl)|exact Fit.refl _|(first|(refine fit_sl (by rfl) (fun ix h0 h1=> ?_);(have h2:ix.den<2:=h1);(have hx:ix.den.toNat=0∨ix.den.toNat=1:=by omega);(rcases hx with hx|hx<;>simp only [hx]))|(refine fit_sl (by rfl) (fun ix h0 h1=> ?_);(have h2:ix.den<3:=h1);(have hx:ix.den.toNat=0∨ix.den.toNat=1∨ix.den.toNat=2:=by omega);(rcases hx with hx|hx|hx<;>simp only [hx]))|(refine fit_sl (by rfl) (fun ix h0 h1=> ?_);(have h2:ix.den<4:=h1);(have hx:ix.den.toNat=0∨ix.den.toNat=1∨ix.den.toNat=2∨ix.den.toNat=3:=by omega);(rcases hx with hx|hx|hx|hx<;>simp only [hx])))));done)
         try cbv)
      | (refine qP ?_ (kwater3) ?hfit
         case hfit=>((repeat' (first|exact qA|exact qB|refine qC ?_ rfl ?_|refine qD ?_ ?_|exact qE (by rfl)|exact qF (by rfl)|exact Fit.refl _|(first|(refine fit_sl (by rfl) (fun ix h0 h1=> ?_);(have h2:ix.den<2:=h1);(have hx:ix.den.toNat=0∨ix.den.toNat=1:=by omega);(rcases hx with hx|hx<;>simp only [hx]))|(refine fit_sl (by rfl) (fun ix h0 h1=> ?_);(have h2:ix.den<3:=h1);(have hx:ix.den.toNat=0∨ix.den.toNat=1∨ix.den.toNat=2:=by omega);(rcases hx with hx|hx|hx<;>simp only [hx]))|(refine fit_sl (by rfl) (fun ix h0 h1=> ?_);(have h2:ix.den<4:=h1);(have hx:ix.den.toNat=0∨ix.den.toNat=1∨ix.den.toNat=2∨ix.den.toNat=3:=by omega);(rcases hx with hx|hx|hx|hx<;>simp only [hx])))));done)
         try cbv)
      | (refine qP ?_ (kprove3) ?hfit
         case hfit=>((repeat' (first|exact qA|exact qB|refine qC ?_ rfl ?_|refine qD ?_ ?_|exact qE (by rfl)|exact qF (by rfl)|exact Fit.refl _|(first|(refine fit_sl (by rfl) (fun ix h0 h1=> ?_);(have h2:ix.den<2:=h1);(have hx:ix.den.toNat=0∨ix.den.toNat=1:=by omega);(rcases hx with hx|hx<;>simp only [hx]))|(refine fit_sl (by rfl) (fun ix h0 h1=> ?_);(have h2:ix.den<3:=h1);(have hx:ix.den.toNat=0∨ix.den.toNat=1∨ix.den.toNat=2:=by omega);(rcases hx with hx|hx|hx<;>simp only [hx]))|(refine fit_sl (by rfl) (fun ix h0 h1=> ?_);(have h2:ix.den<4:=h1);(have hx:ix.den.toNat=0∨ix.den.toNat=1∨ix.den.toNat=2∨ix.den.toNat=3:=by omega);(rcases hx with hx|hx|hx|hx<;>simp only [hx])))));done)
         try cbv)
      | (refine qP ?_ (kfewest3) ?hfit
         case hfit=>((repeat' (first|exact qA|exact qB|refine qC ?_ rfl ?_|refine qD ?_ ?_|exact qE (by rfl)|exact qF (by rfl)|exact Fit.refl _|(first|(refine fit_sl (by rfl) (fun ix h0 h1=> ?_);(have h2:ix.den<2:=h1);(have hx:ix.den.toNat=0∨ix.den.toNat=1:=by omega);(rcases hx with hx|hx<;>simp only [hx]))|(refine fit_sl (by rfl) (fun ix h0 h1=> ?_);(have h2:ix.den<3:=h1);(have hx:ix.den.toNat=0∨ix.den.toNat=1∨ix.den.toNat=2:=by omega);(rcases hx with hx|hx|hx<;>simp only [hx]))|(refine fit_sl (by rfl) (fun ix h0 h1=> ?_);(have h2:ix.den<4:=h1);(have hx:ix.den.toNat=0∨ix.den.toNat=1∨ix.den.toNat=2∨ix.den.toNat=3:=by omega);(rcases hx with hx|hx|hx|hx<;>simp only [hx])))));done)
         try cbv)
      | (refine qP ?_ (kfalse3) ?hfit
         case hfit=>((repeat' (first|exact qA|exact qB|refine qC ?_ rfl ?_|refine qD ?_ ?_|exact qE (by rfl)|exact qF (by rfl)|exact Fit.refl _|(first|(refine fit_sl (by rfl) (fun ix h0 h1=> ?_);(have h2:ix.den<2:=h1);(have hx:ix.den.toNat=0∨ix.den.toNat=1:=by omega);(rcases hx with hx|hx<;>simp only [hx]))|(refine fit_sl (by rfl) (fun ix h0 h1=> ?_);(have h2:ix.den<3:=h1);(have hx:ix.den.toNat=0∨ix.den.toNat=1∨ix.den.toNat=2:=by omega);(rcases hx with hx|hx|hx<;>simp only [hx]))|(refine fit_sl (by rfl) (fun ix h0 h1=> ?_);(have h2:ix.den<4:=h1);(have hx:ix.den.toNat=0∨ix.den.toNat=1∨ix.den.toNat=2∨ix.den.toNat=3:=by omega);(rcases hx with hx|hx|hx|hx<;>simp only [hx])))));done)
         try cbv)
      | (refine qP ?_ (ksame3a) ?hfit
         case hfit=>((repeat' (first|exact qA|exact qB|refine qC ?_ rfl ?_|refine qD ?_ ?_|exact qE (by rfl)|exact qF (by rfl)|exact Fit.refl _|(first|(refine fit_sl (by rfl) (fun ix h0 h1=> ?_);(have h2:ix.den<2:=h1);(have hx:ix.den.toNat=0∨ix.den.toNat=1:=by omega);(rcases hx with hx|hx<;>simp only [hx]))|(refine fit_sl (by rfl) (fun ix h0 h1=> ?_);(have h2:ix.den<3:=h1);(have hx:ix.den.toNat=0∨ix.den.toNat=1∨ix.den.toNat=2:=by omega);(rcases hx with hx|hx|hx<;>simp only [hx]))|(refine fit_sl (by rfl) (fun ix h0 h1=> ?_);(have h2:ix.den<4:=h1);(have hx:ix.den.toNat=0∨ix.den.toNat=1∨ix.den.toNat=2∨ix.den.toNat=3:=by omega);(rcases hx with hx|hx|hx|hx<;>simp only [hx])))));done)
         try cbv)
      | (refine qP ?_ (ksame3b) ?hfit
         case hfit=>((repeat' (first|exact qA|exact qB|refine qC ?_ rfl ?_|refine qD ?_ ?_|exact qE (by rfl)|exact qF (by rfl)|exact Fit.refl _|(first|(refine fit_sl (by rfl) (fun ix h0 h1=> ?_);(have h2:ix.den<2:=h1);(have hx:ix.den.toNat=0∨ix.den.toNat=1:=by omega);(rcases hx with hx|hx<;>simp only [hx]))|(refine fit_sl (by rfl) (fun ix h0 h1=> ?_);(have h2:ix.den<3:=h1);(have hx:ix.den.toNat=0∨ix.den.toNat=1∨ix.den.toNat=2:=by omega);(rcases hx with hx|hx|hx<;>simp only [hx]))|(refine fit_sl (by rfl) (fun ix h0 h1=> ?_);(have h2:ix.den<4:=h1);(have hx:ix.den.toNat=0∨ix.den.toNat=1∨ix.den.toNat=2∨ix.den.toNat=3:=by omega);(rcases hx with hx|hx|hx|hx<;>simp only [hx])))));done)
         try cbv)
      | (refine qP ?_ (ksame3c) ?hfit
         case hfit=>((repeat' (first|exact qA|exact qB|refine qC ?_ rfl ?_|refine qD ?_ ?_|exact qE (by rfl)|exact qF (by rfl)|exact Fit.refl _|(first|(refine fit_sl (by rfl) (fun ix h0 h1=> ?_);(have h2:ix.den<2:=h1);(have hx:ix.den.toNat=0∨ix.den.toNat=1:=by omega);(rcases hx with hx|hx<;>simp only [hx]))|(refine fit_sl (by rfl) (fun ix h0 h1=> ?_);(have h2:ix.den<3:=h1);(have hx:ix.den.toNat=0∨ix.den.toNat=1∨ix.den.toNat=2:=by omega);(rcases hx with hx|hx|hx<;>simp only [hx]))|(refine fit_sl (by rfl) (fun ix h0 h1=> ?_);(have h2:ix.den<4:=h1);(have hx:ix.den.toNat=0∨ix.den.toNat=1∨ix.den.toNat=2∨ix.den.toNat=3:=by omega);(rcases hx with hx|hx|hx|hx<;>simp only [hx])))));done)
         try cbv)
      | (refine qR ?_ (kten3) rfl ?hfit
         case hfit=>(cbv;(repeat' (first|exact qA|exact qB|refine qC ?_ rfl ?_|refine qD ?_ ?_|exact qE (by rfl)|exact qF (by rfl)|exact Fit.refl _|(first|(refine fit_sl (by rfl) (fun ix h0 h1=> ?_);(have h2:ix.den<2:=h1);(have hx:ix.den.toNat=0∨ix.den.toNat=1:=by omega);(rcases hx with hx|hx<;>simp only [hx]))|(refine fit_sl (by rfl) (fun ix h0 h1=> ?_);(have h2:ix.den<3:=h1);(have hx:ix.den.toNat=0∨ix.den.toNat=1∨ix.den.toNat=2:=by omega);(rcases hx with hx|hx|hx<;>simp only [hx]))|(refine fit_sl (by rfl) (fun ix h0 h1=> ?_);(have h2:ix.den<4:=h1);(have hx:ix.den.toNat=0∨ix.den.toNat=1∨ix.den.toNat=2∨ix.den.toNat=3:=by omega);(rcases hx with hx|hx|hx|hx<;>simp only [hx])))));done)
         try cbv)
      | (refine⟨none,?_⟩
         refine qR ?_ (kten3) rfl ?hfit
         case hfit=>(cbv;(repeat' (first|exact qA|exact qB|refine qC ?_ rfl ?_|refine qD ?_ ?_|exact qE (by rfl)|exact qF (by rfl)|exact Fit.refl _|(first|(refine fit_sl (by rfl) (fun ix h0 h1=> ?_);(have h2:ix.den<2:=h1);(have hx:ix.den.toNat=0∨ix.den.toNat=1:=by omega);(rcases hx with hx|hx<;>simp only [hx]))|(refine fit_sl (by rfl) (fun ix h0 h1=> ?_);(have h2:ix.den<3:=h1);(have hx:ix.den.toNat=0∨ix.den.toNat=1∨ix.den.toNat=2:=by omega);(rcases hx with hx|hx|hx<;>simp only [hx]))|(refine fit_sl (by rfl) (fun ix h0 h1=> ?_);(have h2:ix.den<4:=h1);(have hx:ix.den.toNat=0∨ix.den.toNat=1∨ix.den.toNat=2∨ix.den.toNat=3:=by omega);(rcases hx with hx|hx|hx|hx<;>simp only [hx])))));done)
         try cbv)
      | (refine qR ?_ (kduty3) rfl ?hfit
         case hfit=>(cbv;(repeat' (first|exact qA|exact qB|refine qC ?_ rfl ?_|refine qD ?_ ?_|exact qE (by rfl)|exact qF (by rfl)|exact Fit.refl _|(first|(refine fit_sl (by rfl) (fun ix h0 h1=> ?_);(have h2:ix.den<2:=h1);(have hx:ix.den.toNat=0∨ix.den.toNat=1:=by omega);(rcases hx with hx|hx<;>simp only [hx]))|(refine fit_sl (by rfl) (fun ix h0 h1=> ?_);(have h2:ix.den<3:=h1);(have hx:ix.den.toNat=0∨ix.den.toNat=1∨ix.den.toNat=2:=by omega);(rcases hx with hx|hx|hx<;>simp only [hx]))|(refine fit_sl (by rfl) (fun ix h0 h1=> ?_);(have h2:ix.den<4:=h1);(have hx:ix.den.toNat=0∨ix.den.toNat=1∨ix.den.toNat=2∨ix.den.toNat=3:=by omega);(rcases hx with hx|hx|hx|hx<;>simp only [hx])))));done)
         try cbv)
      | (refine⟨none,?_⟩
         refine qR ?_ (kduty3) rfl ?hfit
         case hfit=>(cbv;(repeat' (first|exact qA|exact qB|refine qC ?_ rfl ?_|refine qD ?_ ?_|exact qE (by rfl)|exact qF (by rfl)|exact Fit.refl _|(first|(refine fit_sl (by rfl) (fun ix h0 h1=> ?_);(have h2:ix.den<2:=h1);(have hx:ix.den.toNat=0∨ix.den.toNat=1:=by omega);(rcases hx with hx|hx<;>simp only [hx]))|(refine fit_sl (by rfl) (fun ix h0 h1=> ?_);(have h2:ix.den<3:=h1);(have hx:ix.den.toNat=0∨ix.den.toNat=1∨ix.den.toNat=2:=by omega);(rcases hx with hx|hx|hx<;>simp only [hx]))|(refine fit_sl (by rfl) (fun ix h0 h1=> ?_);(have h2:ix.den<4:=h1);(have hx:ix.den.toNat=0∨ix.den.toNat=1∨ix.den.toNat=2∨ix.den.toNat=3:=by omega);(rcases hx with hx|hx|hx|hx<;>simp only [hx])))));done)
         try cbv)
      | (refine qR ?_ (kduties3) rfl ?hfit
         case hfit=>(cbv;(repeat' (first|exact qA|exact qB|refine qC ?_ rfl ?_|refine qD ?_ ?_|exact qE (by rfl)|exact qF (by rfl)|exact Fit.refl _|(first|(refine fit_sl (by rfl) (fun ix h0 h1=> ?_);(have h2:ix.den<2:=h1);(have hx:ix.den.toNat=0∨ix.den.toNat=1:=by omega);(rcases hx with hx|hx<;>simp only [hx]))|(refine fit_sl (by rfl) (fun ix h0 h1=> ?_);(have h2:ix.den<3:=h1);(have hx:ix.den.toNat=0∨ix.den.toNat=1∨ix.den.toNat=2:=by omega);(rcases hx with hx|hx|hx<;>simp only [hx]))|(refine fit_sl (by rfl) (fun ix h0 h1=> ?_);(have h2:ix.den<4:=h1);(have hx:ix.den.toNat=0∨ix.den.toNat=1∨ix.den.toNat=2∨ix.den.toNat=3:=by omega);(rcases hx with hx|hx|hx|hx<;>simp only [hx])))));done)
         try cbv)
      | (refine⟨none,?_⟩
         refine qR ?_ (kduties3) rfl ?hfit
         case hfit=>(cbv;(repeat' (first|exact qA|exact qB|refine qC ?_ rfl ?_|refine qD ?_ ?_|exact qE (by rfl)|exact qF (by rfl)|exact Fit.refl _|(first|(refine fit_sl (by rfl) (fun ix h0 h1=> ?_);(have h2:ix.den<2:=h1);(have hx:ix.den.toNat=0∨ix.den.toNat=1:=by omega);(rcases hx with hx|hx<;>simp only [hx]))|(refine fit_sl (by rfl) (fun ix h0 h1=> ?_);(have h2:ix.den<3:=h1);(have hx:ix.den.toNat=0∨ix.den.toNat=1∨ix.den.toNat=2:=by omega);(rcases hx with hx|hx|hx<;>simp only [hx]))|(refine fit_sl (by rfl) (fun ix h0 h1=> ?_);(have h2:ix.den<4:=h1);(have hx:ix.den.toNat=0∨ix.den.toNat=1∨ix.den.toNat=2∨ix.den.toNat=3:=by omega);(rcases hx with hx|hx|hx|hx<;>simp only [hx])))));done)
         try cbv)
      | (refine qR ?_ (kblend3) rfl ?hfit
         case hfit=>(cbv;(repeat' (first|exact qA|exact qB|refine qC ?_ rfl ?_|refine qD ?_ ?_|exact qE (by rfl)|exact qF (by rfl)|exact Fit.refl _|(first|(refine fit_sl (by rfl) (fun ix h0 h1=> ?_);(have h2:ix.den<2:=h1);(have hx:ix.den.toNat=0∨ix.den.toNat=1:=by omega);(rcases hx with hx|hx<;>simp only [hx]))|(refine fit_sl (by rfl) (fun ix h0 h1=> ?_);(have h2:ix.den<3:=h1);(have hx:ix.den.toNat=0∨ix.den.toNat=1∨ix.den.toNat=2:=by omega);(rcases hx with hx|hx|hx<;>simp only [hx]))|(refine fit_sl (by rfl) (fun ix h0 h1=> ?_);(have h2:ix.den<4:=h1);(have hx:ix.den.toNat=0∨ix.den.toNat=1∨ix.den.toNat=2∨ix.den.toNat=3:=by omega);(rcases hx with hx|hx|hx|hx<;>simp only [hx])))));done)
         try cbv)
      | (refine⟨none,?_⟩
         refine qR ?_ (kblend3) rfl ?hfit
         case hfit=>(cbv;(repeat' (first|exact qA|exact qB|refine qC ?_ rfl ?_|refine qD ?_ ?_|exact qE (by rfl)|exact qF (by rfl)|exact Fit.refl _|(first|(refine fit_sl (by rfl) (fun ix h0 h1=> ?_);(have h2:ix.den<2:=h1);(have hx:ix.den.toNat=0∨ix.den.toNat=1:=by omega);(rcases hx with hx|hx<;>simp only [hx]))|(refine fit_sl (by rfl) (fun ix h0 h1=> ?_);(have h2:ix.den<3:=h1);(have hx:ix.den.toNat=0∨ix.den.toNat=1∨ix.den.toNat=2:=by omega);(rcases hx with hx|hx|hx<;>simp only [hx]))|(refine fit_sl (by rfl) (fun ix h0 h1=> ?_);(have h2:ix.den<4:=h1);(have hx:ix.den.toNat=0∨ix.den.toNat=1∨ix.den.toNat=2∨ix.den.toNat=3:=by omega);(rcases hx with hx|hx|hx|hx<;>simp only [hx])))));done)
         try cbv)
      | (refine qR ?_ (kwater3) rfl ?hfit
         case hfit=>(cbv;(repeat' (first|exact qA|exact qB|refine qC ?_ rfl ?_|refine qD ?_ ?_|exact qE (by rfl)|exact qF (by rfl)|exact Fit.refl _|(first|(refine fit_sl (by rfl) (fun ix h0 h1=> ?_);(have h2:ix.den<2:=h1);(have hx:ix.den.toNat=0∨ix.den.toNat=1:=by omega);(rcases hx with hx|hx<;>simp only [hx]))|(refine fit_sl (by rfl) (fun ix h0 h1=> ?_);(have h2:ix.den<3:=h1);(have hx:ix.den.toNat=0∨ix.den.toNat=1∨ix.den.toNat=2:=by omega);(rcases hx with hx|hx|hx<;>simp only [hx]))|(refine fit_sl (by rfl) (fun ix h0 h1=> ?_);(have h2:ix.den<4:=h1);(have hx:ix.den.toNat=0∨ix.den.toNat=1∨ix.den.toNat=2∨ix.den.toNat=3:=by omega);(rcases hx with hx|hx|hx|hx<;>simp only [hx])))));done)
         try cbv)
      | (refine⟨none,?_⟩
         refine qR ?_ (kwater3) rfl ?hfit
         case hfit=>(cbv;(repeat' (first|exact qA|exact qB|refine qC ?_ rfl ?_|refine qD ?_ ?_|exact qE (by rfl)|exact qF (by rfl)|exact Fit.refl _|(first|(refine fit_sl (by rfl) (fun ix h0 h1=> ?_);(have h2:ix.den<2:=h1);(have hx:ix.den.toNat=0∨ix.den.toNat=1:=by omega);(rcases hx with hx|hx<;>simp only [hx]))|(refine fit_sl (by rfl) (fun ix h0 h1=> ?_);(have h2:ix.den<3:=h1);(have hx:ix.den.toNat=0∨ix.den.toNat=1∨ix.den.toNat=2:=by omega);(rcases hx with hx|hx|hx<;>simp only [hx]))|(refine fit_sl (by rfl) (fun ix h0 h1=> ?_);(have h2:ix.den<4:=h1);(have hx:ix.den.toNat=0∨ix.den.toNat=1∨ix.den.toNat=2∨ix.den.toNat=3:=by omega);(rcases hx with hx|hx|hx|hx<;>simp only [hx])))));done)
         try cbv)
      | (refine qR ?_ (kprove3) rfl ?hfit
         case hfit=>(cbv;(repeat' (first|exact qA|exact qB|refine qC ?_ rfl ?_|refine qD ?_ ?_|exact qE (by rfl)|exact qF (by rfl)|exact Fit.refl _|(first|(refine fit_sl (by rfl) (fun ix h0 h1=> ?_);(have h2:ix.den<2:=h1);(have hx:ix.den.toNat=0∨ix.den.toNat=1:=by omega);(rcases hx with hx|hx<;>simp only [hx]))|(refine fit_sl (by rfl) (fun ix h0 h1=> ?_);(have h2:ix.den<3:=h1);(have hx:ix.den.toNat=0∨ix.den.toNat=1∨ix.den.toNat=2:=by omega);(rcases hx with hx|hx|hx<;>simp only [hx]))|(refine fit_sl (by rfl) (fun ix h0 h1=> ?_);(have h2:ix.den<4:=h1);(have hx:ix.den.toNat=0∨ix.den.toNat=1∨ix.den.toNat=2∨ix.den.toNat=3:=by omega);(rcases hx with hx|hx|hx|hx<;>simp only [hx])))));done)
         try cbv)
      | (refine⟨none,?_⟩
         refine qR ?_ (kprove3) rfl ?hfit
         case hfit=>(cbv;(repeat' (first|exact qA|exact qB|refine qC ?_ rfl ?_|refine qD ?_ ?_|exact qE (by rfl)|exact qF (by rfl)|exact Fit.refl _|(first|(refine fit_sl (by rfl) (fun ix h0 h1=> ?_);(have h2:ix.den<2:=h1);(have hx:ix.den.toNat=0∨ix.den.toNat=1:=by omega);(rcases hx with hx|hx<;>simp only [hx]))|(refine fit_sl (by rfl) (fun ix h0 h1=> ?_);(have h2:ix.den<3:=h1);(have hx:ix.den.toNat=0∨ix.den.toNat=1∨ix.den.toNat=2:=by omega);(rcases hx with hx|hx|hx<;>simp only [hx]))|(refine fit_sl (by rfl) (fun ix h0 h1=> ?_);(have h2:ix.den<4:=h1);(have hx:ix.den.toNat=0∨ix.den.toNat=1∨ix.den.toNat=2∨ix.den.toNat=3:=by omega);(rcases hx with hx|hx|hx|hx<;>simp only [hx])))));done)
         try cbv)
      | (refine qR ?_ (kfewest3) rfl ?hfit
         case hfit=>(cbv;(repeat' (first|exact qA|exact qB|refine qC ?_ rfl ?_|refine qD ?_ ?_|exact qE (by rfl)|exact qF (by rfl)|exact Fit.refl _|(first|(refine fit_sl (by rfl) (fun ix h0 h1=> ?_);(have h2:ix.den<2:=h1);(have hx:ix.den.toNat=0∨ix.den.toNat=1:=by omega);(rcases hx with hx|hx<;>simp only [hx]))|(refine fit_sl (by rfl) (fun ix h0 h1=> ?_);(have h2:ix.den<3:=h1);(have hx:ix.den.toNat=0∨ix.den.toNat=1∨ix.den.toNat=2:=by omega);(rcases hx with hx|hx|hx<;>simp only [hx]))|(refine fit_sl (by rfl) (fun ix h0 h1=> ?_);(have h2:ix.den<4:=h1);(have hx:ix.den.toNat=0∨ix.den.toNat=1∨ix.den.toNat=2∨ix.den.toNat=3:=by omega);(rcases hx with hx|hx|hx|hx<;>simp only [hx])))));done)
         try cbv)
      | (refine⟨none,?_⟩
         refine qR ?_ (kfewest3) rfl ?hfit
         case hfit=>(cbv;(repeat' (first|exact qA|exact qB|refine qC ?_ rfl ?_|refine qD ?_ ?_|exact qE (by rfl)|exact qF (by rfl)|exact Fit.refl _|(first|(refine fit_sl (by rfl) (fun ix h0 h1=> ?_);(have h2:ix.den<2:=h1);(have hx:ix.den.toNat=0∨ix.den.toNat=1:=by omega);(rcases hx with hx|hx<;>simp only [hx]))|(refine fit_sl (by rfl) (fun ix h0 h1=> ?_);(have h2:ix.den<3:=h1);(have hx:ix.den.toNat=0∨ix.den.toNat=1∨ix.den.toNat=2:=by omega);(rcases hx with hx|hx|hx<;>simp only [hx]))|(refine fit_sl (by rfl) (fun ix h0 h1=> ?_);(have h2:ix.den<4:=h1);(have hx:ix.den.toNat=0∨ix.den.toNat=1∨ix.den.toNat=2∨ix.den.toNat=3:=by omega);(rcases hx with hx|hx|hx|hx<;>simp only [hx])))));done)
         try cbv)
      | (refine qR ?_ (kfalse3) rfl ?hfit
         case hfit=>(cbv;(repeat' (first|exact qA|exact qB|refine qC ?_ rfl ?_|refine qD ?_ ?_|exact qE (by rfl)|exact qF (by rfl)|exact Fit.refl _|(first|(refine fit_sl (by rfl) (fun ix h0 h1=> ?_);(have h2:ix.den<2:=h1);(have hx:ix.den.toNat=0∨ix.den.toNat=1:=by omega);(rcases hx with hx|hx<;>simp only [hx]))|(refine fit_sl (by rfl) (fun ix h0 h1=> ?_);(have h2:ix.den<3:=h1);(have hx:ix.den.toNat=0∨ix.den.toNat=1∨ix.den.toNat=2:=by omega);(rcases hx with hx|hx|hx<;>simp only [hx]))|(refine fit_sl (by rfl) (fun ix h0 h1=> ?_);(have h2:ix.den<4:=h1);(have hx:ix.den.toNat=0∨ix.den.toNat=1∨ix.den.toNat=2∨ix.den.toNat=3:=by omega);(rcases hx with hx|hx|hx|hx<;>simp only [hx])))));done)
         try cbv)
      | (refine⟨none,?_⟩
         refine qR ?_ (kfalse3) rfl ?hfit
         case hfit=>(cbv;(repeat' (first|exact qA|exact qB|refine qC ?_ rfl ?_|refine qD ?_ ?_|exact qE (by rfl)|exact qF (by rfl)|exact Fit.refl _|(first|(refine fit_sl (by rfl) (fun ix h0 h1=> ?_);(have h2:ix.den<2:=h1);(have hx:ix.den.toNat=0∨ix.den.toNat=1:=by omega);(rcases hx with hx|hx<;>simp only [hx]))|(refine fit_sl (by rfl) (fun ix h0 h1=> ?_);(have h2:ix.den<3:=h1);(have hx:ix.den.toNat=0∨ix.den.toNat=1∨ix.den.toNat=2:=by omega);(rcases hx with hx|hx|hx<;>simp only [hx]))|(refine fit_sl (by rfl) (fun ix h0 h1=> ?_);(have h2:ix.den<4:=h1);(have hx:ix.den.toNat=0∨ix.den.toNat=1∨ix.den.toNat=2∨ix.den.toNat=3:=by omega);(rcases hx with hx|hx|hx|hx<;>simp only [hx])))));done)
         try cbv)
      | (refine qR ?_ (ksame3a) rfl ?hfit
         case hfit=>(cbv;(repeat' (first|exact qA|exact qB|refine qC ?_ rfl ?_|refine qD ?_ ?_|exact qE (by rfl)|exact qF (by rfl)|exact Fit.refl _|(first|(refine fit_sl (by rfl) (fun ix h0 h1=> ?_);(have h2:ix.den<2:=h1);(have hx:ix.den.toNat=0∨ix.den.toNat=1:=by omega);(rcases hx with hx|hx<;>simp only [hx]))|(refine fit_sl (by rfl) (fun ix h0 h1=> ?_);(have h2:ix.den<3:=h1);(have hx:ix.den.toNat=0∨ix.den.toNat=1∨ix.den.toNat=2:=by omega);(rcases hx with hx|hx|hx<;>simp only [hx]))|(refine fit_sl (by rfl) (fun ix h0 h1=> ?_);(have h2:ix.den<4:=h1);(have hx:ix.den.toNat=0∨ix.den.toNat=1∨ix.den.toNat=2∨ix.den.toNat=3:=by omega);(rcases hx with hx|hx|hx|hx<;>simp only [hx])))));done)
         try cbv)
      | (refine⟨none,?_⟩
         refine qR ?_ (ksame3a) rfl ?hfit
         case hfit=>(cbv;(repeat' (first|exact qA|exact qB|refine qC ?_ rfl ?_|refine qD ?_ ?_|exact qE (by rfl)|exact qF (by rfl)|exact Fit.refl _|(first|(refine fit_sl (by rfl) (fun ix h0 h1=> ?_);(have h2:ix.den<2:=h1);(have hx:ix.den.toNat=0∨ix.den.toNat=1:=by omega);(rcases hx with hx|hx<;>simp only [hx]))|(refine fit_sl (by rfl) (fun ix h0 h1=> ?_);(have h2:ix.den<3:=h1);(have hx:ix.den.toNat=0∨ix.den.toNat=1∨ix.den.toNat=2:=by omega);(rcases hx with hx|hx|hx<;>simp only [hx]))|(refine fit_sl (by rfl) (fun ix h0 h1=> ?_);(have h2:ix.den<4:=h1);(have hx:ix.den.toNat=0∨ix.den.toNat=1∨ix.den.toNat=2∨ix.den.toNat=3:=by omega);(rcases hx with hx|hx|hx|hx<;>simp only [hx])))));done)
         try cbv)
      | (refine qR ?_ (ksame3b) rfl ?hfit
         case hfit=>(cbv;(repeat' (first|exact qA|exact qB|refine qC ?_ rfl ?_|refine qD ?_ ?_|exact qE (by rfl)|exact qF (by rfl)|exact Fit.refl _|(first|(refine fit_sl (by rfl) (fun ix h0 h1=> ?_);(have h2:ix.den<2:=h1);(have hx:ix.den.toNat=0∨ix.den.toNat=1:=by omega);(rcases hx with hx|hx<;>simp only [hx]))|(refine fit_sl (by rfl) (fun ix h0 h1=> ?_);(have h2:ix.den<3:=h1);(have hx:ix.den.toNat=0∨ix.den.toNat=1∨ix.den.toNat=2:=by omega);(rcases hx with hx|hx|hx<;>simp only [hx]))|(refine fit_sl (by rfl) (fun ix h0 h1=> ?_);(have h2:ix.den<4:=h1);(have hx:ix.den.toNat=0∨ix.den.toNat=1∨ix.den.toNat=2∨ix.den.toNat=3:=by omega);(rcases hx with hx|hx|hx|hx<;>simp only [hx])))));done)
         try cbv)
      | (refine⟨none,?_⟩
         refine qR ?_ (ksame3b) rfl ?hfit
         case hfit=>(cbv;(repeat' (first|exact qA|exact qB|refine qC ?_ rfl ?_|refine qD ?_ ?_|exact qE (by rfl)|exact qF (by rfl)|exact Fit.refl _|(first|(refine fit_sl (by rfl) (fun ix h0 h1=> ?_);(have h2:ix.den<2:=h1);(have hx:ix.den.toNat=0∨ix.den.toNat=1:=by omega);(rcases hx with hx|hx<;>simp only [hx]))|(refine fit_sl (by rfl) (fun ix h0 h1=> ?_);(have h2:ix.den<3:=h1);(have hx:ix.den.toNat=0∨ix.den.toNat=1∨ix.den.toNat=2:=by omega);(rcases hx with hx|hx|hx<;>simp only [hx]))|(refine fit_sl (by rfl) (fun ix h0 h1=> ?_);(have h2:ix.den<4:=h1);(have hx:ix.den.toNat=0∨ix.den.toNat=1∨ix.den.toNat=2∨ix.den.toNat=3:=by omega);(rcases hx with hx|hx|hx|hx<;>simp only [hx])))));done)
         try cbv)
      | (refine qR ?_ (ksame3c) rfl ?hfit
         case hfit=>(cbv;(repeat' (first|exact qA|exact qB|refine qC ?_ rfl ?_|refine qD ?_ ?_|exact qE (by rfl)|exact qF (by rfl)|exact Fit.refl _|(first|(refine fit_sl (by rfl) (fun ix h0 h1=> ?_);(have h2:ix.den<2:=h1);(have hx:ix.den.toNat=0∨ix.den.toNat=1:=by omega);(rcases hx with hx|hx<;>simp only [hx]))|(refine fit_sl (by rfl) (fun ix h0 h1=> ?_);(have h2:ix.den<3:=h1);(have hx:ix.den.toNat=0∨ix.den.toNat=1∨ix.den.toNat=2:=by omega);(rcases hx with hx|hx|hx<;>simp only [hx]))|(refine fit_sl (by rfl) (fun ix h0 h1=> ?_);(have h2:ix.den<4:=h1);(have hx:ix.den.toNat=0∨ix.den.toNat=1∨ix.den.toNat=2∨ix.den.toNat=3:=by omega);(rcases hx with hx|hx|hx|hx<;>simp only [hx])))));done)
         try cbv)
      | (refine⟨none,?_⟩
         refine qR ?_ (ksame3c) rfl ?hfit
         case hfit=>(cbv;(repeat' (first|exact qA|exact qB|refine qC ?_ rfl ?_|refine qD ?_ ?_|exact qE (by rfl)|exact qF (by rfl)|exact Fit.refl _|(first|(refine fit_sl (by rfl) (fun ix h0 h1=> ?_);(have h2:ix.den<2:=h1);(have hx:ix.den.toNat=0∨ix.den.toNat=1:=by omega);(rcases hx with hx|hx<;>simp only [hx]))|(refine fit_sl (by rfl) (fun ix h0 h1=> ?_);(have h2:ix.den<3:=h1);(have hx:ix.den.toNat=0∨ix.den.toNat=1∨ix.den.toNat=2:=by omega);(rcases hx with hx|hx|hx<;>simp only [hx]))|(refine fit_sl (by rfl) (fun ix h0 h1=> ?_);(have h2:ix.den<4:=h1);(have hx:ix.den.toNat=0∨ix.den.toNat=1∨ix.den.toNat=2∨ix.den.toNat=3:=by omega);(rcases hx with hx|hx|hx|hx<;>simp only [hx])))));done)
         try cbv)
      |fail)
  all_goals first
    |trivial
    |((try simp only [qV]at *);(try simp only [zQ,zA,zB,zC,zD,zE,zF,zG,zH,zI,zJ,zK,zL,zM,zN,zO,zP,zR,zS]at *);first|(refine qN ?_;omega)|(simp only [Hold];omega))
    |(subst hR;(repeat' (first|exact qA|exact qB|refine qC ?_ rfl ?_|refine qD ?_ ?_|exact qE (by rfl)|exact qF (by rfl)|exact Fit.refl _|exact qG _|(refine qE ?_;(try simp only [qV]at *);simp only [zQ,zA,zB,zC,zD,zE,zF,zG,zH,zI,zJ,zK,zL,zM,zN,zO,zP,zR,zS]at *;omega)));done)
    |(simp only [Hold];exact⟨h35,rfl⟩)
    |(exact(hcd rfl).elim)
    |(simp only [Hold];decide)
    |skip
end Go.Proofs.Ytkdgpdlfakcgdaa

namespace Go.Proofs.Ytkdgpdlfakcgdaa
def subL (n:Nat):Nat→List Int→Nat→List (List Int)
  |0,l,_=>[l]
  |m+1,l,i=>(List.range' i (n-m-i)).flatMap fun (j:Nat)=>subL n m (l++[(j:Int)]) (j+1)
def allL (n:Nat):List (List Int):=(List.range' 0 n).flatMap fun m=>subL n (m+1) [] 0
end Go.Proofs.Ytkdgpdlfakcgdaa

namespace Go.Proofs.Ytkdgpdlfakcgdaa
def memB (n:Nat):Bool:=((List.range (2^n-1)).all fun i=>(allL n).contains (bitsL ((i:Int)+1) 16))&&(allL n).all fun a=>(List.range (2^n-1)).any fun i=>bitsL ((i:Int)+1) 16==a
end Go.Proofs.Ytkdgpdlfakcgdaa

namespace Go.Proofs.Ytkdgpdlfakcgdaa
open Go Go.Eng Go.Proofs
def prD (d:Dcl):Int×Int:=(d.c,d.t)
theorem prD_get (ds:List Dcl)(k:Nat):(ds.map prD).getD k (0,0)=((ds.getD k dc0).c,(ds.getD k dc0).t):=by
  rw [List.getD_eq_getElem?_getD,List.getElem?_map,List.getD_eq_getElem?_getD]
  cases ds[k]? with
  |none=>rfl
  |some d=>rfl
end Go.Proofs.Ytkdgpdlfakcgdaa
