/- DisputeFirst: what the law computes. No condition. -/
import Derived.Test.YtkdggbfknlcdaaaT7
set_option linter.unusedVariables false
set_option linter.unusedSimpArgs false
set_option linter.deprecated false
set_option linter.all false

namespace Go.Proofs.Ytkdggbfknlcdaaa
open Go.Eng.Dif Go.Eng.Few
def readyD (d:Dsp):Bool:=thinD d&&decide (faultD d=0)
theorem readyD_t {d:Dsp}:readyD d=true↔thinD d=true∧faultD d=0:=by
  unfold readyD
  rw [Bool.and_eq_true,decide_eq_true_eq]
theorem firmE_9 {d:Dsp}(hF:faultD d=0)(h:¬firmE d=0):firmE d=9:=by
  cases hl:linksB d with
  |true=>exact absurd (firmE_yes hF hl) h
  |false=>exact firmE_no hF hl
theorem fir_law {d:Dsp}(h:firmE d=0) {r:Nat}(hr:firO d=some r):r<d.fs.length∧bndE (withF d (d.fs.take r))=0∧bndE (withF d (d.fs.take (r+1)))=11∧0<(leaL d).length:=by
  have hF:=(firmE_ok h).1
  have hd:=faultD_iff.1 hF
  have hl:canD (SN d) (LO d) []=true:=(firmE_ok h).2
  have hr':firN (SN d) (LO d) (FO d d.fs) (FO d d.fs).length 0=some r:=by rw [FO_len];exact hr
  have q:=fir_some (okk hd hd.f) hl hr'
  rw [FO_len]at q
  have e:leaL d=fewL d.fs.length (okFa d):=if_pos h
  refine⟨q.1,(bndE_yes (faultD_iff.2 (take_ok hd r)) ?_).1,(bndE_no (faultD_iff.2 (take_ok hd (r+1))) ?_).1,?_⟩
  · rw [can_take];exact q.2.1
  · rw [can_take];exact q.2.2.1
  · rw [e,okFa_is];exact q.2.2.2
theorem fir_law0 {d:Dsp}(h:firmE d=0)(hr:firO d=none):leaL d=[]:=by
  have hd:=faultD_iff.1 (firmE_ok h).1
  have hr':firN (SN d) (LO d) (FO d d.fs) (FO d d.fs).length 0=none:=by rw [FO_len];exact hr
  have q:=(fir_none (okk hd hd.f) (firmE_ok h).2 hr').2
  rw [FO_len]at q
  have e:leaL d=fewL d.fs.length (okFa d):=if_pos h
  rw [e,okFa_is];exact q
end Go.Proofs.Ytkdggbfknlcdaaa

namespace Go.Proofs.Ytkdggbfknlcdaaa
open Go Go.Eng Go.Proofs Go.Eng.Dif Go.Eng.Few
set_option maxRecDepth 10000
theorem ready20 (d:Dsp):FSpec Try.prog 20 [(dspS d)] [] (fun r _=>r=(.bool (.sym fun _=>readyD d))):=by
  have c11:=thin11 d
  have c47:=fault47 d
  refine FSpec.is fun R hR=>qW (sc:=sc20) tyok mix Try.func20 rfl Try.call20 (by kernel_rfl) (by kernel_rfl) ?_
  generalize Try.prog=P at c11 c47⊢
  cbv
  repeat' (first
      |with_reducible refine And.intro ?_ ?_
      |(with_reducible intro hcd;(try simp only [zA,zB,zC,zD,zE,zF,zG,zH,zI,zJ,zK,zL,zM,zN,zO,zP]at hcd);try cbv)
      | (refine qP ?_ (c11) ?hfit
         case hfit=>((repeat' (first|exact qB|refine qD ?_ ?_|exact qE (by rfl)|exact qF (by rfl)|exact Fit.refl _|exact qA|refine qC ?_ rfl ?_));done)
         try cbv)
      | (refine qP ?_ (c47) ?hfit
         case hfit=>((repeat' (first|exact qB|refine qD ?_ ?_|exact qE (by rfl)|exact qF (by rfl)|exact Fit.refl _|exact qA|refine qC ?_ rfl ?_));done)
         try cbv)
      |fail)
  all_goals first
    |(subst hR;(refine qF ?_;(try simp only [qV]at *);(try simp only [zQ,zA,zB,zC,zD,zE,zF,zG,zH,zI,zJ,zK,zL,zM,zN,zO,zP,zR,zS]at *);first|(unfold readyD;simp_all;done)|(unfold readyD;rw [show thinD d=true by assumption,Bool.true_and];first|rfl|(apply Bool.eq_iff_iff.2;simp only [decide_eq_true_eq])));done)
    |skip
theorem law6t (d:Dsp)(h:readyD d=false):FSpec Try.prog 6 [(dspS d)] [] (fun r _=>r=(.bool (.lit true))):=by
  have c20:=ready20 d
  have c12:=awake12
  refine FSpec.is fun R hR=>qW (sc:=sc6) tyok mix Try.func6 rfl Try.call6 (by kernel_rfl) (by kernel_rfl) ?_
  generalize Try.prog=P at c20 c12⊢
  cbv
  repeat' (first
      |with_reducible refine And.intro ?_ ?_
      |(with_reducible intro hcd;(try simp only [zA,zB,zC,zD,zE,zF,zG,zH,zI,zJ,zK,zL,zM,zN,zO,zP]at hcd);try cbv)
      | (refine qP ?_ (c20) ?hfit
         case hfit=>((repeat' (first|exact qB|refine qD ?_ ?_|exact qE (by rfl)|exact qF (by rfl)|exact Fit.refl _|exact qA|refine qC ?_ rfl ?_));done)
         try cbv)
      | (refine qP ?_ (c12) ?hfit
         case hfit=>((repeat' (first|exact qB|refine qD ?_ ?_|exact qE (by rfl)|exact qF (by rfl)|exact Fit.refl _|exact qA|refine qC ?_ rfl ?_));done)
         try cbv)
      |fail)
  all_goals first
    |(subst hR;(repeat' (first|exact qA|exact qB|refine qC ?_ rfl ?_|refine qD ?_ ?_|exact qE (by rfl)|exact qF (by rfl)|exact Fit.refl _|exact qG _|(refine qE ?_;(try simp only [qV]at *);simp only [zQ,zA,zB,zC,zD,zE,zF,zG,zH,zI,zJ,zK,zL,zM,zN,zO,zP,zR,zS]at *;omega)));done)
    |(exfalso;rw [h]at hcd;cases hcd;done)
    |skip
theorem law6b (d:Dsp)(h:readyD d=true)(hf:¬firmE d=0):FSpec Try.prog 6 [(dspS d)] [] (fun r _=>r=(.bool (.lit true))):=by
  have c20:=ready20 d
  have c12:=awake12
  have hth:=thinD_t.1 (readyD_t.1 h).1
  have hF:=(readyD_t.1 h).2
  have hd:=faultD_iff.1 hF
  have f6:=hd.f6
  have c14:=dispute14 d hth.1 (by omega) (by omega)
  have c27:=first27 d
  have c22:=leave22 d
  have hz:=firE_bad hf
  rw [hz.1,hz.2,firmE_9 hF hf]at c27
  rw [firmE_9 hF hf]at c22
  refine FSpec.is fun R hR=>qW (sc:=sc6) tyok mix Try.func6 rfl Try.call6 (by kernel_rfl) (by kernel_rfl) ?_
  generalize Try.prog=P at c20 c12 c14 c27 c22⊢
  cbv
  repeat' (first
      |with_reducible refine And.intro ?_ ?_
      |(with_reducible intro hcd;(try simp only [zA,zB,zC,zD,zE,zF,zG,zH,zI,zJ,zK,zL,zM,zN,zO,zP]at hcd);try cbv)
      | (refine qP ?_ (c20) ?hfit
         case hfit=>((repeat' (first|exact qB|refine qD ?_ ?_|exact qE (by rfl)|exact qF (by rfl)|exact Fit.refl _|exact qA|refine qC ?_ rfl ?_));done)
         try cbv)
      | (refine qP ?_ (c12) ?hfit
         case hfit=>((repeat' (first|exact qB|refine qD ?_ ?_|exact qE (by rfl)|exact qF (by rfl)|exact Fit.refl _|exact qA|refine qC ?_ rfl ?_));done)
         try cbv)
      | (refine qP ?_ (c14) ?hfit
         case hfit=>((repeat' (first|exact qB|refine qD ?_ ?_|exact qE (by rfl)|exact qF (by rfl)|exact Fit.refl _|exact qA|refine qC ?_ rfl ?_));done)
         try cbv)
      | (refine qP ?_ (c27) ?hfit
         case hfit=>((repeat' (first|exact qB|refine qD ?_ ?_|exact qE (by rfl)|exact qF (by rfl)|exact Fit.refl _|exact qA|refine qC ?_ rfl ?_));done)
         try cbv)
      | (refine qP ?_ (c22) ?hfit
         case hfit=>((repeat' (first|exact qB|refine qD ?_ ?_|exact qE (by rfl)|exact qF (by rfl)|exact Fit.refl _|exact qA|refine qC ?_ rfl ?_));done)
         try cbv)
      |fail)
  all_goals first
    |trivial
    |(subst hR;(repeat' (first|exact qA|exact qB|refine qC ?_ rfl ?_|refine qD ?_ ?_|exact qE (by rfl)|exact qF (by rfl)|exact Fit.refl _|exact qG _|(refine qE ?_;(try simp only [qV]at *);simp only [zQ,zA,zB,zC,zD,zE,zF,zG,zH,zI,zJ,zK,zL,zM,zN,zO,zP,zR,zS]at *;omega)));done)
    |skip
theorem law6n (d:Dsp)(h:readyD d=true)(hf:firmE d=0)(hr:firO d=none):FSpec Try.prog 6 [(dspS d)] [] (fun r _=>r=(.bool (.lit true))):=by
  have c20:=ready20 d
  have c12:=awake12
  have hth:=thinD_t.1 (readyD_t.1 h).1
  have hF:=(readyD_t.1 h).2
  have hd:=faultD_iff.1 hF
  have f6:=hd.f6
  have c14:=dispute14 d hth.1 (by omega) (by omega)
  have c27:=first27 d
  have c22:=leave22 d
  have hz:=firE_none hf hr
  rw [hz.1,hz.2]at c27
  rw [hf,fir_law0 hf hr]at c22
  refine FSpec.is fun R hR=>qW (sc:=sc6) tyok mix Try.func6 rfl Try.call6 (by kernel_rfl) (by kernel_rfl) ?_
  generalize Try.prog=P at c20 c12 c14 c27 c22⊢
  cbv
  repeat' (first
      |with_reducible refine And.intro ?_ ?_
      |(with_reducible intro hcd;(try simp only [zA,zB,zC,zD,zE,zF,zG,zH,zI,zJ,zK,zL,zM,zN,zO,zP]at hcd);try cbv)
      | (refine qP ?_ (c20) ?hfit
         case hfit=>((repeat' (first|exact qB|refine qD ?_ ?_|exact qE (by rfl)|exact qF (by rfl)|exact Fit.refl _|exact qA|refine qC ?_ rfl ?_));done)
         try cbv)
      | (refine qP ?_ (c12) ?hfit
         case hfit=>((repeat' (first|exact qB|refine qD ?_ ?_|exact qE (by rfl)|exact qF (by rfl)|exact Fit.refl _|exact qA|refine qC ?_ rfl ?_));done)
         try cbv)
      | (refine qP ?_ (c14) ?hfit
         case hfit=>((repeat' (first|exact qB|refine qD ?_ ?_|exact qE (by rfl)|exact qF (by rfl)|exact Fit.refl _|exact qA|refine qC ?_ rfl ?_));done)
         try cbv)
      | (refine qP ?_ (c27) ?hfit
         case hfit=>((repeat' (first|exact qB|refine qD ?_ ?_|exact qE (by rfl)|exact qF (by rfl)|exact Fit.refl _|exact qA|refine qC ?_ rfl ?_));done)
         try cbv)
      | (refine qP ?_ (c22) ?hfit
         case hfit=>((repeat' (first|exact qB|refine qD ?_ ?_|exact qE (by rfl)|exact qF (by rfl)|exact Fit.refl _|exact qA|refine qC ?_ rfl ?_));done)
         try cbv)
      |fail)
  all_goals first
    |trivial
    |(subst hR;(repeat' (first|exact qA|exact qB|refine qC ?_ rfl ?_|refine qD ?_ ?_|exact qE (by rfl)|exact qF (by rfl)|exact Fit.refl _|exact qG _|(refine qE ?_;(try simp only [qV]at *);simp only [zQ,zA,zB,zC,zD,zE,zF,zG,zH,zI,zJ,zK,zL,zM,zN,zO,zP,zR,zS]at *;omega)));done)
    |skip
theorem law6y (d:Dsp)(u:Nat)(h:readyD d=true)(hf:firmE d=0)(hr:firO d=some u):FSpec Try.prog 6 [(dspS d)] [] (fun r _=>r=(.bool (.lit true))):=by
  have c20:=ready20 d
  have c12:=awake12
  have hth:=thinD_t.1 (readyD_t.1 h).1
  have hF:=(readyD_t.1 h).2
  have hd:=faultD_iff.1 hF
  have f6:=hd.f6
  have c14:=dispute14 d hth.1 (by omega) (by omega)
  have c27:=first27 d
  have c22:=leave22 d
  have hz:=firE_some hf hr
  have hq:=fir_law hf hr
  rw [hz.1,hz.2]at c27
  rw [hf]at c22
  have hq1:=hq.1
  have hq4:=hq.2.2.2
  have c14x:FSpec Try.prog 14 [(.agg [(.sl 1 (.sym fun _=>zi ((withF d (d.fs.take u)).tw).length) (fun ix=>[.int .i64 (.sym fun _=>((withF d (d.fs.take u)).tw).getD ix.den.toNat 0)])),(.sl 1 (.sym fun _=>zi ((withF d (d.fs.take u)).tm).length) (fun ix=>[.int .i64 (.sym fun _=>((withF d (d.fs.take u)).tm).getD ix.den.toNat 0)])),(.sl 1 (.sym fun _=>zi ((withF d (d.fs.take u)).tv).length) (fun ix=>[(.sl 1 (.sym fun _=>zi (((withF d (d.fs.take u)).tv).getD ix.den.toNat []).length) (fun jx=>[.int .i64 (.sym fun _=>(((withF d (d.fs.take u)).tv).getD ix.den.toNat []).getD jx.den.toNat 0)]))])),(.int .i64 (.sym fun _=>(withF d (d.fs.take u)).sn)),(.int .i64 (.sym fun _=>(withF d (d.fs.take u)).pn)),(.sl 4 (.sym fun _=>zi ((withF d (d.fs.take u)).ls).length) (fun ix=>[(.int .i64 (.sym fun _=>(((withF d (d.fs.take u)).ls).getD ix.den.toNat l0T).a)),(.int .i64 (.sym fun _=>(((withF d (d.fs.take u)).ls).getD ix.den.toNat l0T).b)),(.int .i64 (.sym fun _=>(((withF d (d.fs.take u)).ls).getD ix.den.toNat l0T).lo)),(.int .i64 (.sym fun _=>(((withF d (d.fs.take u)).ls).getD ix.den.toNat l0T).hi))])),(.sl 6 (.sym fun _=>zi ((d.fs.take u)).length) (fun ix=>[(.int .i64 (.sym fun _=>(((d.fs.take u)).getD ix.den.toNat f0T).p)),(.int .i64 (.sym fun _=>(((d.fs.take u)).getD ix.den.toNat f0T).s)),(.int .i64 (.sym fun _=>(((d.fs.take u)).getD ix.den.toNat f0T).wl)),(.int .i64 (.sym fun _=>(((d.fs.take u)).getD ix.den.toNat f0T).wh)),(.int .i64 (.sym fun _=>(((d.fs.take u)).getD ix.den.toNat f0T).ml)),(.int .i64 (.sym fun _=>(((d.fs.take u)).getD ix.den.toNat f0T).mh))]))])] [] (fun r _=>r=(.agg [(.sl 1 (.sym fun _=>zi ((withF d (d.fs.take u)).tw).length) (fun ix=>[.int .i64 (.sym fun _=>((withF d (d.fs.take u)).tw).getD ix.den.toNat 0)])),(.sl 1 (.sym fun _=>zi ((withF d (d.fs.take u)).tm).length) (fun ix=>[.int .i64 (.sym fun _=>((withF d (d.fs.take u)).tm).getD ix.den.toNat 0)])),(.sl 1 (.sym fun _=>zi ((withF d (d.fs.take u)).tv).length) (fun ix=>[(.sl 1 (.sym fun _=>zi (((withF d (d.fs.take u)).tv).getD ix.den.toNat []).length) (fun jx=>[.int .i64 (.sym fun _=>(((withF d (d.fs.take u)).tv).getD ix.den.toNat []).getD jx.den.toNat 0)]))])),(.int .i64 (.sym fun _=>(withF d (d.fs.take u)).sn)),(.int .i64 (.sym fun _=>(withF d (d.fs.take u)).pn)),(.sl 4 (.sym fun _=>zi ((withF d (d.fs.take u)).ls).length) (fun ix=>[(.int .i64 (.sym fun _=>(((withF d (d.fs.take u)).ls).getD ix.den.toNat l0T).a)),(.int .i64 (.sym fun _=>(((withF d (d.fs.take u)).ls).getD ix.den.toNat l0T).b)),(.int .i64 (.sym fun _=>(((withF d (d.fs.take u)).ls).getD ix.den.toNat l0T).lo)),(.int .i64 (.sym fun _=>(((withF d (d.fs.take u)).ls).getD ix.den.toNat l0T).hi))])),(.sl 6 (.sym fun _=>zi ((withF d (d.fs.take u)).fs).length) (fun ix=>[(.int .i64 (.sym fun _=>(((withF d (d.fs.take u)).fs).getD ix.den.toNat f0T).p)),(.int .i64 (.sym fun _=>(((withF d (d.fs.take u)).fs).getD ix.den.toNat f0T).s)),(.int .i64 (.sym fun _=>(((withF d (d.fs.take u)).fs).getD ix.den.toNat f0T).wl)),(.int .i64 (.sym fun _=>(((withF d (d.fs.take u)).fs).getD ix.den.toNat f0T).wh)),(.int .i64 (.sym fun _=>(((withF d (d.fs.take u)).fs).getD ix.den.toNat f0T).ml)),(.int .i64 (.sym fun _=>(((withF d (d.fs.take u)).fs).getD ix.den.toNat f0T).mh))]))])):=dispute14 (withF d (d.fs.take u)) hth.1 (by show d.ls.length≤1000;omega) (by show(d.fs.take u).length≤1000;rw [List.length_take];omega)
  have c14y:FSpec Try.prog 14 [(.agg [(.sl 1 (.sym fun _=>zi ((withF d (d.fs.take (u+1))).tw).length) (fun ix=>[.int .i64 (.sym fun _=>((withF d (d.fs.take (u+1))).tw).getD ix.den.toNat 0)])),(.sl 1 (.sym fun _=>zi ((withF d (d.fs.take (u+1))).tm).length) (fun ix=>[.int .i64 (.sym fun _=>((withF d (d.fs.take (u+1))).tm).getD ix.den.toNat 0)])),(.sl 1 (.sym fun _=>zi ((withF d (d.fs.take (u+1))).tv).length) (fun ix=>[(.sl 1 (.sym fun _=>zi (((withF d (d.fs.take (u+1))).tv).getD ix.den.toNat []).length) (fun jx=>[.int .i64 (.sym fun _=>(((withF d (d.fs.take (u+1))).tv).getD ix.den.toNat []).getD jx.den.toNat 0)]))])),(.int .i64 (.sym fun _=>(withF d (d.fs.take (u+1))).sn)),(.int .i64 (.sym fun _=>(withF d (d.fs.take (u+1))).pn)),(.sl 4 (.sym fun _=>zi ((withF d (d.fs.take (u+1))).ls).length) (fun ix=>[(.int .i64 (.sym fun _=>(((withF d (d.fs.take (u+1))).ls).getD ix.den.toNat l0T).a)),(.int .i64 (.sym fun _=>(((withF d (d.fs.take (u+1))).ls).getD ix.den.toNat l0T).b)),(.int .i64 (.sym fun _=>(((withF d (d.fs.take (u+1))).ls).getD ix.den.toNat l0T).lo)),(.int .i64 (.sym fun _=>(((withF d (d.fs.take (u+1))).ls).getD ix.den.toNat l0T).hi))])),(.sl 6 (.sym fun _=>zi ((d.fs.take (u+1))).length) (fun ix=>[(.int .i64 (.sym fun _=>(((d.fs.take (u+1))).getD ix.den.toNat f0T).p)),(.int .i64 (.sym fun _=>(((d.fs.take (u+1))).getD ix.den.toNat f0T).s)),(.int .i64 (.sym fun _=>(((d.fs.take (u+1))).getD ix.den.toNat f0T).wl)),(.int .i64 (.sym fun _=>(((d.fs.take (u+1))).getD ix.den.toNat f0T).wh)),(.int .i64 (.sym fun _=>(((d.fs.take (u+1))).getD ix.den.toNat f0T).ml)),(.int .i64 (.sym fun _=>(((d.fs.take (u+1))).getD ix.den.toNat f0T).mh))]))])] [] (fun r _=>r=(.agg [(.sl 1 (.sym fun _=>zi ((withF d (d.fs.take (u+1))).tw).length) (fun ix=>[.int .i64 (.sym fun _=>((withF d (d.fs.take (u+1))).tw).getD ix.den.toNat 0)])),(.sl 1 (.sym fun _=>zi ((withF d (d.fs.take (u+1))).tm).length) (fun ix=>[.int .i64 (.sym fun _=>((withF d (d.fs.take (u+1))).tm).getD ix.den.toNat 0)])),(.sl 1 (.sym fun _=>zi ((withF d (d.fs.take (u+1))).tv).length) (fun ix=>[(.sl 1 (.sym fun _=>zi (((withF d (d.fs.take (u+1))).tv).getD ix.den.toNat []).length) (fun jx=>[.int .i64 (.sym fun _=>(((withF d (d.fs.take (u+1))).tv).getD ix.den.toNat []).getD jx.den.toNat 0)]))])),(.int .i64 (.sym fun _=>(withF d (d.fs.take (u+1))).sn)),(.int .i64 (.sym fun _=>(withF d (d.fs.take (u+1))).pn)),(.sl 4 (.sym fun _=>zi ((withF d (d.fs.take (u+1))).ls).length) (fun ix=>[(.int .i64 (.sym fun _=>(((withF d (d.fs.take (u+1))).ls).getD ix.den.toNat l0T).a)),(.int .i64 (.sym fun _=>(((withF d (d.fs.take (u+1))).ls).getD ix.den.toNat l0T).b)),(.int .i64 (.sym fun _=>(((withF d (d.fs.take (u+1))).ls).getD ix.den.toNat l0T).lo)),(.int .i64 (.sym fun _=>(((withF d (d.fs.take (u+1))).ls).getD ix.den.toNat l0T).hi))])),(.sl 6 (.sym fun _=>zi ((withF d (d.fs.take (u+1))).fs).length) (fun ix=>[(.int .i64 (.sym fun _=>(((withF d (d.fs.take (u+1))).fs).getD ix.den.toNat f0T).p)),(.int .i64 (.sym fun _=>(((withF d (d.fs.take (u+1))).fs).getD ix.den.toNat f0T).s)),(.int .i64 (.sym fun _=>(((withF d (d.fs.take (u+1))).fs).getD ix.den.toNat f0T).wl)),(.int .i64 (.sym fun _=>(((withF d (d.fs.take (u+1))).fs).getD ix.den.toNat f0T).wh)),(.int .i64 (.sym fun _=>(((withF d (d.fs.take (u+1))).fs).getD ix.den.toNat f0T).ml)),(.int .i64 (.sym fun _=>(((withF d (d.fs.take (u+1))).fs).getD ix.den.toNat f0T).mh))]))])):=dispute14 (withF d (d.fs.take (u+1))) hth.1 (by show d.ls.length≤1000;omega) (by show(d.fs.take (u+1)).length≤1000;rw [List.length_take];omega)
  have c21x:=bounds21 (withF d (d.fs.take u))
  have c21y:=bounds21 (withF d (d.fs.take (u+1)))
  rw [hq.2.1]at c21x
  rw [hq.2.2.1]at c21y
  refine FSpec.is fun R hR=>qW (sc:=sc6) tyok mix Try.func6 rfl Try.call6 (by kernel_rfl) (by kernel_rfl) ?_
  generalize Try.prog=P at c20 c12 c14 c27 c22 c14x c14y c21x c21y⊢
  cbv
  repeat' (first
      |with_reducible refine hold ?_ ?_
      |with_reducible refine And.intro ?_ ?_
      |(with_reducible intro hcd;(try simp only [zA,zB,zC,zD,zE,zF,zG,zH,zI,zJ,zK,zL,zM,zN,zO,zP]at hcd);try cbv)
      | (refine qP ?_ (c20) ?hfit
         case hfit=>((repeat' (first|exact qB|refine qD ?_ ?_|exact qE (by rfl)|exact qF (by rfl)|exact Fit.refl _|exact qA|refine qC ?_ rfl ?_));done)
         try cbv)
      | (refine qP ?_ (c12) ?hfit
         case hfit=>((repeat' (first|exact qB|refine qD ?_ ?_|exact qE (by rfl)|exact qF (by rfl)|exact Fit.refl _|exact qA|refine qC ?_ rfl ?_));done)
         try cbv)
      | (refine qP ?_ (c14) ?hfit
         case hfit=>((repeat' (first|exact qB|refine qD ?_ ?_|exact qE (by rfl)|exact qF (by rfl)|exact Fit.refl _|exact qA|refine qC ?_ rfl ?_));done)
         try cbv)
      | (refine qP ?_ (c27) ?hfit
         case hfit=>((repeat' (first|exact qB|refine qD ?_ ?_|exact qE (by rfl)|exact qF (by rfl)|exact Fit.refl _|exact qA|refine qC ?_ rfl ?_));done)
         try cbv)
      | (refine qP ?_ (c22) ?hfit
         case hfit=>((repeat' (first|exact qB|refine qD ?_ ?_|exact qE (by rfl)|exact qF (by rfl)|exact Fit.refl _|exact qA|refine qC ?_ rfl ?_));done)
         try cbv)
      | (refine qP ?_ (c21x) ?hfit
         case hfit=>((repeat' (first|exact qB|refine qD ?_ ?_|exact qE (by rfl)|exact qF (by rfl)|exact Fit.refl _|exact qA|refine qC ?_ rfl ?_));done)
         try cbv)
      | (refine qP ?_ (c21y) ?hfit
         case hfit=>((repeat' (first|exact qB|refine qD ?_ ?_|exact qE (by rfl)|exact qF (by rfl)|exact Fit.refl _|exact qA|refine qC ?_ rfl ?_));done)
         try cbv)
      | (refine qP ?_ (c14x) ?hfit
         case hfit=>((refine qD (qC (Fit.refl _) rfl (qC (Fit.refl _) rfl (qC (Fit.refl _) rfl (qC (Fit.refl _) rfl (qC (Fit.refl _) rfl (qC (Fit.refl _) rfl (qC ?_ rfl qA))))))) qB;refine fit_sl ?_ (fun ix h0 h1=>fact_take _ ?_ ?_)<;>((try simp only [qV]at *);(try simp only [zQ,zA,zB,zC,zD,zE,zF,zG,zH,zI,zJ,zK,zL,zM,zN,zO,zP,zR,zS]at *);first|omega|(rw [List.length_take];(try simp only [zi_den]);omega)));done)
         try cbv)
      | (refine qP ?_ (c14y) ?hfit
         case hfit=>((refine qD (qC (Fit.refl _) rfl (qC (Fit.refl _) rfl (qC (Fit.refl _) rfl (qC (Fit.refl _) rfl (qC (Fit.refl _) rfl (qC (Fit.refl _) rfl (qC ?_ rfl qA))))))) qB;refine fit_sl ?_ (fun ix h0 h1=>fact_take _ ?_ ?_)<;>((try simp only [qV]at *);(try simp only [zQ,zA,zB,zC,zD,zE,zF,zG,zH,zI,zJ,zK,zL,zM,zN,zO,zP,zR,zS]at *);first|omega|(rw [List.length_take];(try simp only [zi_den]);omega)));done)
         try cbv)
      | (refine Exists.intro (α:=Nat) 43 ?_
         cbv)
      |fail)
  all_goals first
    |trivial
    |((try simp only [qV]at *);(try simp only [zQ,zA,zB,zC,zD,zE,zF,zG,zH,zI,zJ,zK,zL,zM,zN,zO,zP,zR,zS]at *);first|(refine qN ?_;omega)|(simp only [Hold];omega))
    |(subst hR;(repeat' (first|exact qA|exact qB|refine qC ?_ rfl ?_|refine qD ?_ ?_|exact qE (by rfl)|exact qF (by rfl)|exact Fit.refl _|exact qG _|(refine qE ?_;(try simp only [qV]at *);simp only [zQ,zA,zB,zC,zD,zE,zF,zG,zH,zI,zJ,zK,zL,zM,zN,zO,zP,zR,zS]at *;omega)));done)
    |(exfalso;(try simp only [qV]at *);(try simp only [zQ,zA,zB,zC,zD,zE,zF,zG,zH,zI,zJ,zK,zL,zM,zN,zO,zP,zR,zS]at *);(try simp only [allB_t,allB_f,inB_t,inB_f,ofB_t,ofB_f,linkB_t,linkB_f,factB_t,factB_f]at *);omega)
    |skip
theorem law6 (d:Dsp):FSpec Try.prog 6 [(dspS d)] [] (fun r _=>r = .bool (.lit true)):=by
  cases h:readyD d with
  |false=>exact law6t d h
  | true=>
    by_cases hf:firmE d=0
    · cases hr:firO d with
      |none=>exact law6n d h hf hr
      |some u=>exact law6y d u h hf hr
    · exact law6b d h hf
end Go.Proofs.Ytkdggbfknlcdaaa
