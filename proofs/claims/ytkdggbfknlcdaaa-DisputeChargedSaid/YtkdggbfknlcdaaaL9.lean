/- DisputeCharged: what the law computes. No condition. -/
import Derived.Test.YtkdggbfknlcdaaaT7
set_option linter.unusedVariables false
set_option linter.unusedSimpArgs false
set_option linter.deprecated false
set_option linter.all false

namespace Go.Proofs.Ytkdggbfknlcdaaa
open Go.Eng.Dif Go.Eng.Few
def readyD (d:Dsp):Bool:=thinD d&&decide (faultD d=0)
theorem readyD_t {d:Dsp}:readyD d=true↔thinD d=true∧faultD d=0:=by
  unfold readyD
  rw [Bool.and_eq_true,decide_eq_true_eq]
theorem firmE_9 {d:Dsp}(hF:faultD d=0)(h:¬firmE d=0):firmE d=9:=by
  cases hl:linksB d with
  |true=>exact absurd (firmE_yes hF hl) h
  |false=>exact firmE_no hF hl
end Go.Proofs.Ytkdggbfknlcdaaa

namespace Go.Proofs.Ytkdggbfknlcdaaa
open Go Go.Eng Go.Proofs Go.Eng.Dif Go.Eng.Few
set_option maxRecDepth 10000
theorem ready20 (d:Dsp):FSpec Try.prog 20 [(dspS d)] [] (fun r _=>r=(.bool (.sym fun _=>readyD d))):=by
  have c11:=thin11 d
  have c47:=fault47 d
  refine FSpec.is fun R hR=>qW (sc:=sc20) tyok mix Try.func20 rfl Try.call20 (by kernel_rfl) (by kernel_rfl) ?_
  generalize Try.prog=P at c11 c47⊢
  cbv
  repeat' (first
      |with_reducible refine And.intro ?_ ?_
      |(with_reducible intro hcd;(try simp only [zA,zB,zC,zD,zE,zF,zG,zH,zI,zJ,zK,zL,zM,zN,zO,zP]at hcd);try cbv)
      | (refine qP ?_ (c11) ?hfit
         case hfit=>((repeat' (first|exact qB|refine qD ?_ ?_|exact qE (by rfl)|exact qF (by rfl)|exact Fit.refl _|exact qA|refine qC ?_ rfl ?_));done)
         try cbv)
      | (refine qP ?_ (c47) ?hfit
         case hfit=>((repeat' (first|exact qB|refine qD ?_ ?_|exact qE (by rfl)|exact qF (by rfl)|exact Fit.refl _|exact qA|refine qC ?_ rfl ?_));done)
         try cbv)
      |fail)
  all_goals first
    |(subst hR;(refine qF ?_;(try simp only [qV]at *);(try simp only [zQ,zA,zB,zC,zD,zE,zF,zG,zH,zI,zJ,zK,zL,zM,zN,zO,zP,zR,zS]at *);first|(unfold readyD;simp_all;done)|(unfold readyD;rw [show thinD d=true by assumption,Bool.true_and];first|rfl|(apply Bool.eq_iff_iff.2;simp only [decide_eq_true_eq])));done)
    |skip
end Go.Proofs.Ytkdggbfknlcdaaa

namespace Go.Proofs.Ytkdggbfknlcdaaa
open Go.Eng.Dif Go.Eng.Few
theorem out_bd {d:Dsp}(hd:DOk d) {o:List Int}(hc:canT d d.fs o=true) {s:Nat}(hs:s<SN d):0≤loT d o s∧loT d o s≤hiT d o s∧hiT d o s≤2000:=end_bd (okk hd (kept_ok hd.f o)) hc hs
theorem tdiv_pos {a:Int}(h:0≤a):a.tdiv 1000=a/1000:=Int.tdiv_eq_ediv_of_nonneg h
theorem ch_law {d:Dsp}(hf:firmE d=0) {s g m:Int}(hs:0≤s∧s≤d.sn-1)(h0:0≤g)(h1:g≤m)(h2:m≤100000):
    (chE d s g=0∧chE d s m=0)∧0≤chL d s g∧chL d s g≤chH d s g∧chH d s g≤2*g∧chL d s g≤chL d s m∧chH d s g≤chH d s m∧chH d s m≤2*m:=by
  have hF:=(firmE_ok hf).1
  have hd:=faultD_iff.1 hF
  have ea:=chE_yes (s:=s) (g:=g) hF ⟨hs,h0,by omega⟩ hf
  have eb:=chE_yes (s:=s) (g:=m) hF ⟨hs,by omega,h2⟩ hf
  have b:=out_bd hd (lea_can hf) (s:=s.toNat) (by unfold SN;omega)
  refine⟨⟨ea.1,eb.1⟩,?_⟩
  rw [ea.2.1,ea.2.2,eb.2.1,eb.2.2]
  have q1:=charge_mono (m:=g) (n:=g) b.1 b.2.1 b.2.2 h0 (Int.le_refl g)
  have q2:=charge_mono b.1 b.2.1 b.2.2 h0 h1
  have q3:=charge_mono (m:=m) (n:=m) b.1 b.2.1 b.2.2 (by omega) (Int.le_refl m)
  have p1:0≤g*loT d (leaL d) s.toNat:=Int.mul_nonneg h0 b.1
  have p2:0≤g*hiT d (leaL d) s.toNat:=Int.mul_nonneg h0 (by omega)
  have p3:0≤m*loT d (leaL d) s.toNat:=Int.mul_nonneg (by omega) b.1
  have p4:0≤m*hiT d (leaL d) s.toNat:=Int.mul_nonneg (by omega) (by omega)
  rw [tdiv_pos p1,tdiv_pos p2,tdiv_pos p3,tdiv_pos p4]
  omega
theorem ch_fail {d:Dsp}(hF:faultD d=0)(hf:¬firmE d=0) {s g:Int}(hs:0≤s∧s≤d.sn-1)(h0:0≤g)(h2:g≤100000):chE d s g=9∧chL d s g=0∧chH d s g=0:=by
  have e:=chE_fail (s:=s) (g:=g) hF ⟨hs,h0,h2⟩ hf
  rw [firmE_9 hF hf]at e
  exact e
theorem mod_in {w n:Int}(h0:0≤w)(hn:1≤n):0≤w.tmod n∧w.tmod n≤n-1:=by
  have a:=Int.tmod_nonneg n h0
  have b:=Int.tmod_lt_of_pos w (show 0<n by omega)
  omega
end Go.Proofs.Ytkdggbfknlcdaaa

namespace Go.Proofs.Ytkdggbfknlcdaaa
open Go Go.Eng Go.Proofs Go.Eng.Dif Go.Eng.Few
set_option maxRecDepth 10000
theorem law9t (d:Dsp)(w g k:Int)(h:readyD d=false):FSpec Try.prog 9 [(dspS d),(.int .u8 (.sym fun _=>w)),(.int .u16 (.sym fun _=>g)),(.int .u16 (.sym fun _=>k))] [] (fun r _=>r=(.bool (.lit true))):=by
  have c20:=ready20 d
  have c12:=awake12
  refine FSpec.is fun R hR=>qW (sc:=sc9) tyok mix Try.func9 rfl Try.call9 (by kernel_rfl) (by kernel_rfl) ?_
  generalize Try.prog=P at c20 c12⊢
  cbv
  repeat' (first
      |with_reducible refine hold ?_ ?_
      |with_reducible refine And.intro ?_ ?_
      | (with_reducible refine qT ?_ ?_
         try cbv)
      |(with_reducible intro hcd;(try simp only [zA,zB,zC,zD,zE,zF,zG,zH,zI,zJ,zK,zL,zM,zN,zO,zP]at hcd);try cbv)
      | (refine qP ?_ (c20) ?hfit
         case hfit=>((repeat' (first|exact qB|refine qD ?_ ?_|exact qE (by rfl)|exact qF (by rfl)|exact Fit.refl _|exact qA|refine qC ?_ rfl ?_));done)
         try cbv)
      | (refine qP ?_ (c12) ?hfit
         case hfit=>((repeat' (first|exact qB|refine qD ?_ ?_|exact qE (by rfl)|exact qF (by rfl)|exact Fit.refl _|exact qA|refine qC ?_ rfl ?_));done)
         try cbv)
      |fail)
  all_goals first
    |(subst hR;(repeat' (first|exact qA|exact qB|refine qC ?_ rfl ?_|refine qD ?_ ?_|exact qE (by rfl)|exact qF (by rfl)|exact Fit.refl _|exact qG _|(refine qE ?_;(try simp only [qV]at *);simp only [zQ,zA,zB,zC,zD,zE,zF,zG,zH,zI,zJ,zK,zL,zM,zN,zO,zP,zR,zS]at *;omega)));done)
    |(exfalso;rw [h]at hcd;cases hcd;done)
    |skip
theorem law9b (d:Dsp)(w g k:Int)(hw:0≤w∧w≤255)(hg:0≤g∧g≤65535)(hk:0≤k∧k≤65535)(h:readyD d=true)(hf:¬firmE d=0):FSpec Try.prog 9 [(dspS d),(.int .u8 (.sym fun _=>w)),(.int .u16 (.sym fun _=>g)),(.int .u16 (.sym fun _=>k))] [] (fun r _=>r=(.bool (.lit true))):=by
  have c20:=ready20 d
  have c12:=awake12
  have hth:=thinD_t.1 (readyD_t.1 h).1
  have hF:=(readyD_t.1 h).2
  have hd:=faultD_iff.1 hF
  have f6:=hd.f6
  have s1:=hd.s1
  have s3:=hd.s3
  have c14:=dispute14 d hth.1 (by omega) (by omega)
  obtain⟨m,hm⟩:∃m,m=min 100000 (g+k):=⟨_,rfl⟩
  have hmg:g≤m∧m≤100000:=by omega
  have hs:=mod_in (w:=w) hw.1 s1
  have c36a:=charge36 d (w.tmod d.sn) g
  have c36b:=charge36 d (w.tmod d.sn) m
  have hz:=ch_fail hF hf hs hg.1 (by omega)
  have hz2:=ch_fail (g:=m) hF hf hs (by omega) hmg.2
  rw [hz.1,hz.2.1,hz.2.2]at c36a
  rw [hz2.1,hz2.2.1,hz2.2.2]at c36b
  refine FSpec.is fun R hR=>qW (sc:=sc9) tyok mix Try.func9 rfl Try.call9 (by kernel_rfl) (by kernel_rfl) ?_
  generalize Try.prog=P at c20 c12 c14 c36a c36b⊢
  cbv
  repeat' (first
      |with_reducible refine hold ?_ ?_
      |with_reducible refine And.intro ?_ ?_
      | (with_reducible refine qT ?_ ?_
         try cbv)
      |(with_reducible intro hcd;(try simp only [zA,zB,zC,zD,zE,zF,zG,zH,zI,zJ,zK,zL,zM,zN,zO,zP]at hcd);try cbv)
      | (refine qP ?_ (c20) ?hfit
         case hfit=>((repeat' (first|exact qB|refine qD ?_ ?_|exact qE (by rfl)|exact qF (by rfl)|exact Fit.refl _|exact qA|refine qC ?_ rfl ?_));done)
         try cbv)
      | (refine qP ?_ (c12) ?hfit
         case hfit=>((repeat' (first|exact qB|refine qD ?_ ?_|exact qE (by rfl)|exact qF (by rfl)|exact Fit.refl _|exact qA|refine qC ?_ rfl ?_));done)
         try cbv)
      | (refine qP ?_ (c14) ?hfit
         case hfit=>((repeat' (first|exact qB|refine qD ?_ ?_|exact qE (by rfl)|exact qF (by rfl)|exact Fit.refl _|exact qA|refine qC ?_ rfl ?_));done)
         try cbv)
      | (refine qP ?_ (c36a) ?hfit
         case hfit=>((repeat' (first|exact qB|refine qD ?_ ?_|exact qE (by rfl)|exact qF (by rfl)|exact Fit.refl _|exact qA|refine qC ?_ rfl ?_));done)
         try cbv)
      | (refine qP ?_ (c36b) ?hfit
         case hfit=>((refine qD (Fit.refl _) (qD (qE ?_) (qD (qE ?_) qB))<;>(first|rfl|((try simp only [qV]at *);(try simp only [zQ,zA,zB,zC,zD,zE,zF,zG,zH,zI,zJ,zK,zL,zM,zN,zO,zP,zR,zS]at *);(try simp only [minIx]at *);omega)));done)
         try cbv)
      |fail)
  all_goals first
    |trivial
    |((try simp only [qV]at *);(try simp only [zQ,zA,zB,zC,zD,zE,zF,zG,zH,zI,zJ,zK,zL,zM,zN,zO,zP,zR,zS]at *);first|(refine qN ?_;omega)|(simp only [Hold];omega))
    |(subst hR;(repeat' (first|exact qA|exact qB|refine qC ?_ rfl ?_|refine qD ?_ ?_|exact qE (by rfl)|exact qF (by rfl)|exact Fit.refl _|exact qG _|(refine qE ?_;(try simp only [qV]at *);simp only [zQ,zA,zB,zC,zD,zE,zF,zG,zH,zI,zJ,zK,zL,zM,zN,zO,zP,zR,zS]at *;omega)));done)
    |(exfalso;(try simp only [qV]at *);(try simp only [zQ,zA,zB,zC,zD,zE,zF,zG,zH,zI,zJ,zK,zL,zM,zN,zO,zP,zR,zS]at *);(try simp only [allB_t,allB_f,inB_t,inB_f,ofB_t,ofB_f,linkB_t,linkB_f,factB_t,factB_f]at *);omega)
    |skip
theorem law9y (d:Dsp)(w g k:Int)(hw:0≤w∧w≤255)(hg:0≤g∧g≤65535)(hk:0≤k∧k≤65535)(h:readyD d=true)(hf:firmE d=0):FSpec Try.prog 9 [(dspS d),(.int .u8 (.sym fun _=>w)),(.int .u16 (.sym fun _=>g)),(.int .u16 (.sym fun _=>k))] [] (fun r _=>r=(.bool (.lit true))):=by
  have c20:=ready20 d
  have c12:=awake12
  have hth:=thinD_t.1 (readyD_t.1 h).1
  have hF:=(readyD_t.1 h).2
  have hd:=faultD_iff.1 hF
  have f6:=hd.f6
  have s1:=hd.s1
  have s3:=hd.s3
  have c14:=dispute14 d hth.1 (by omega) (by omega)
  obtain⟨m,hm⟩:∃m,m=min 100000 (g+k):=⟨_,rfl⟩
  have hmg:g≤m∧m≤100000:=by omega
  have hs:=mod_in (w:=w) hw.1 s1
  have c36a:=charge36 d (w.tmod d.sn) g
  have c36b:=charge36 d (w.tmod d.sn) m
  have hz:=ch_law (g:=g) (m:=m) hf hs hg.1 hmg.1 hmg.2
  rw [hz.1.1]at c36a
  rw [hz.1.2]at c36b
  have hz1:=hz.2
  refine FSpec.is fun R hR=>qW (sc:=sc9) tyok mix Try.func9 rfl Try.call9 (by kernel_rfl) (by kernel_rfl) ?_
  generalize Try.prog=P at c20 c12 c14 c36a c36b⊢
  cbv
  repeat' (first
      |with_reducible refine hold ?_ ?_
      |with_reducible refine And.intro ?_ ?_
      | (with_reducible refine qT ?_ ?_
         try cbv)
      |(with_reducible intro hcd;(try simp only [zA,zB,zC,zD,zE,zF,zG,zH,zI,zJ,zK,zL,zM,zN,zO,zP]at hcd);try cbv)
      | (refine qP ?_ (c20) ?hfit
         case hfit=>((repeat' (first|exact qB|refine qD ?_ ?_|exact qE (by rfl)|exact qF (by rfl)|exact Fit.refl _|exact qA|refine qC ?_ rfl ?_));done)
         try cbv)
      | (refine qP ?_ (c12) ?hfit
         case hfit=>((repeat' (first|exact qB|refine qD ?_ ?_|exact qE (by rfl)|exact qF (by rfl)|exact Fit.refl _|exact qA|refine qC ?_ rfl ?_));done)
         try cbv)
      | (refine qP ?_ (c14) ?hfit
         case hfit=>((repeat' (first|exact qB|refine qD ?_ ?_|exact qE (by rfl)|exact qF (by rfl)|exact Fit.refl _|exact qA|refine qC ?_ rfl ?_));done)
         try cbv)
      | (refine qP ?_ (c36a) ?hfit
         case hfit=>((repeat' (first|exact qB|refine qD ?_ ?_|exact qE (by rfl)|exact qF (by rfl)|exact Fit.refl _|exact qA|refine qC ?_ rfl ?_));done)
         try cbv)
      | (refine qP ?_ (c36b) ?hfit
         case hfit=>((refine qD (Fit.refl _) (qD (qE ?_) (qD (qE ?_) qB))<;>(first|rfl|((try simp only [qV]at *);(try simp only [zQ,zA,zB,zC,zD,zE,zF,zG,zH,zI,zJ,zK,zL,zM,zN,zO,zP,zR,zS]at *);(try simp only [minIx]at *);omega)));done)
         try cbv)
      |fail)
  all_goals first
    |trivial
    |((try simp only [qV]at *);(try simp only [zQ,zA,zB,zC,zD,zE,zF,zG,zH,zI,zJ,zK,zL,zM,zN,zO,zP,zR,zS]at *);first|(refine qN ?_;omega)|(simp only [Hold];omega))
    |(subst hR;(repeat' (first|exact qA|exact qB|refine qC ?_ rfl ?_|refine qD ?_ ?_|exact qE (by rfl)|exact qF (by rfl)|exact Fit.refl _|exact qG _|(refine qE ?_;(try simp only [qV]at *);simp only [zQ,zA,zB,zC,zD,zE,zF,zG,zH,zI,zJ,zK,zL,zM,zN,zO,zP,zR,zS]at *;omega)));done)
    |(exfalso;(try simp only [qV]at *);(try simp only [zQ,zA,zB,zC,zD,zE,zF,zG,zH,zI,zJ,zK,zL,zM,zN,zO,zP,zR,zS]at *);(try simp only [allB_t,allB_f,inB_t,inB_f,ofB_t,ofB_f,linkB_t,linkB_f,factB_t,factB_f]at *);omega)
    |skip
theorem law9 (d:Dsp)(w g k:Int)(hw:0≤w∧w≤255)(hg:0≤g∧g≤65535)(hk:0≤k∧k≤65535):FSpec Try.prog 9 [(dspS d),(.int .u8 (.sym fun _=>w)),(.int .u16 (.sym fun _=>g)),(.int .u16 (.sym fun _=>k))] [] (fun r _=>r = .bool (.lit true)):=by
  cases h:readyD d with
  |false=>exact law9t d w g k h
  | true=>
    by_cases hf:firmE d=0
    · exact law9y d w g k hw hg hk h hf
    · exact law9b d w g k hw hg hk h hf
end Go.Proofs.Ytkdggbfknlcdaaa
