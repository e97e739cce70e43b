/- DisputeLeaves: what the law computes. No condition. -/
import Derived.Test.YtkdggbfknlcdaaaGreatT7
set_option linter.unusedVariables false
set_option linter.unusedSimpArgs false
set_option linter.deprecated false
set_option linter.all false

namespace Go.Proofs.YtkdggbfknlcdaaaGreat
open Go Go.Eng Go.Proofs Go.Eng.Dif Go.Eng.Few
set_option maxRecDepth 10000
theorem uv1 {f:FuncId} {args:List SV} {b:Bool}(h:ua0 Tryz.prog f args [] (fun r _=>r = .bool (.sym fun _=>b)))(hb:b=false):ua0 Tryz.prog f args [] (fun r _=>r = .bool (.lit false)):=h.post fun r bs q=>⟨_,by subst q;exact qF hb,rfl⟩
theorem uhh {f:FuncId} {args:List SV} {b:Bool}(h:ua0 Tryz.prog f args [] (fun r _=>r = .bool (.sym fun _=>b)))(hb:b=true):ua0 Tryz.prog f args [] (fun r _=>r = .bool (.lit true)):=h.post fun r bs q=>⟨_,by subst q;exact qF hb,rfl⟩
theorem ufj {d:Dsp}(h:¬ua8 d=0):firV d=0∧firE d=ua8 d∧leaL d=[]:=⟨if_neg h,if_neg h,if_neg h⟩
theorem ulU {d:Dsp}(h:¬ua6 d=0):ua8 d=ua6 d:=if_neg h
theorem uoX {d:Dsp}(h:ua8 d=0)(ho:firO d=none):firV d=0∧firE d=7:=by
  constructor
  · unfold firV;rw [if_pos h,ho]
  · unfold firE;rw [if_pos h,ho]
theorem uoI {d:Dsp} {r:Nat}(h:ua8 d=0)(ho:firO d=some r):firV d=zi r∧firE d=0:=by
  constructor
  · unfold firV;rw [if_pos h,ho];rfl
  · unfold firE;rw [if_pos h,ho]
theorem upR {d:Dsp}(hd:DOk d):udo (SN d) (LO d) (FO d d.fs) d.fs.length 0=firO d:=by
  have hl:=ucm d d.fs
  have f6:=hd.f6
  exact uo0 (okk hd hd.f) (by rw [hl];exact f6) (by rw [hl];omega)
theorem uno {d:Dsp}(h:ua8 d=0) {N:Nat}(hN:N=2^d.fs.length):uas (lvB d.fs.length (ubb (SN d) (LO d) (FO d d.fs)) N) 16=leaL d:=by
  have hF:=(uar h).1
  have hd:=ua3.1 hF
  have hl:=ucm d d.fs
  have f6:=hd.f6
  subst hN
  have q:=ukm (okk hd hd.f) (by rw [hl];omega) (by rw [←ueq];exact(uar h).2)
  rw [hl]at q
  rw [q]
  show _=if ua8 d=0 then fewL d.fs.length (okFa d)else []
  rw [if_pos h]
  rw [ukC]
theorem uws (d:Dsp)(h:uef d=false):ua0 Tryz.prog 3 [(dspS d)] [] (fun r _=>r=(.bool (.lit true))):=by
  have c9:=uv1 (ujc d) h
  have c10:=ugE
  refine ua0.is fun R hR=>qW (sc:=sc3) tyok mix Tryz.func3 rfl Tryz.call3 (by kernel_rfl) (by kernel_rfl) ?_
  generalize Tryz.prog=P at c9 c10⊢
  cbv
  repeat' (first
      | (refine qP ?_ (c9) ?hfit
         case hfit=>((repeat' (first|exact qB|refine qD ?_ ?_|exact qE (by rfl)|exact qF (by rfl)|exact Fit.refl _|exact qA|refine qC ?_ rfl ?_));done)
         try cbv)
      | (refine qP ?_ (c10) ?hfit
         case hfit=>((repeat' (first|exact qB|refine qD ?_ ?_|exact qE (by rfl)|exact qF (by rfl)|exact Fit.refl _|exact qA|refine qC ?_ rfl ?_));done)
         try cbv)
      |fail)
  all_goals first
    |(subst hR;(repeat' (first|exact qA|exact qB|refine qC ?_ rfl ?_|refine qD ?_ ?_|exact qE (by rfl)|exact qF (by rfl)|exact Fit.refl _|exact qG _|(refine qE ?_;(try simp only [qV]at *);simp only [zQ,zA,zB,zC,zD,zE,zF,zG,zH,zI,zJ,zK,zL,zM,zN,zO,zP,zR,zS]at *;omega)));done)
    |skip
theorem uxe (d:Dsp)(h:uef d=true)(hF:¬ua6 d=0):ua0 Tryz.prog 3 [(dspS d)] [] (fun r _=>r=(.bool (.lit true))):=by
  have c10:=ugE
  have hth:=ui4.1 h
  have c9:=uhh (ujc d) h
  have c12:=ueA d hth.1 (by omega) (by omega)
  have c11:=ugo d
  have c13:=uf0 d
  have hE:¬ua8 d=0:=by rw [ulU hF];exact hF
  have c14:=utz d hF
  rw [←ulU hF]at c14
  obtain⟨e,he⟩:∃e,e=ua8 d:=⟨_,rfl⟩
  rw [(ufj hE).1,(ufj hE).2.1,←he]at c11
  rw [(ufj hE).2.2,←he]at c13
  rw [←he]at hE
  rw [←he]at c14
  clear he h hth hF
  refine ua0.is fun R hR=>qW (sc:=sc3) tyok mix Tryz.func3 rfl Tryz.call3 (by kernel_rfl) (by kernel_rfl) ?_
  generalize Tryz.prog=P at c10 c9 c12 c11 c13 c14⊢
  cbv
  repeat' (first
      |(with_reducible intro hcd;exfalso;(try simp only [zQ,zA,zB,zC,zD,zE,zF,zG,zH,zI,zJ,zK,zL,zM,zN,zO,zP,zR,zS]at hcd);omega)
      |with_reducible refine And.intro ?_ ?_
      |(with_reducible intro hcd;(try simp only [zA,zB,zC,zD,zE,zF,zG,zH,zI,zJ,zK,zL,zM,zN,zO,zP]at hcd);try cbv)
      | (refine qP ?_ (c9) ?hfit
         case hfit=>((repeat' (first|exact qB|refine qD ?_ ?_|exact qE (by rfl)|exact qF (by rfl)|exact Fit.refl _|exact qA|refine qC ?_ rfl ?_));done)
         try cbv)
      | (refine qP ?_ (c10) ?hfit
         case hfit=>((repeat' (first|exact qB|refine qD ?_ ?_|exact qE (by rfl)|exact qF (by rfl)|exact Fit.refl _|exact qA|refine qC ?_ rfl ?_));done)
         try cbv)
      | (refine qP ?_ (c12) ?hfit
         case hfit=>((repeat' (first|exact qB|refine qD ?_ ?_|exact qE (by rfl)|exact qF (by rfl)|exact Fit.refl _|exact qA|refine qC ?_ rfl ?_));done)
         try cbv)
      | (refine qP ?_ (c11) ?hfit
         case hfit=>((repeat' (first|exact qB|refine qD ?_ ?_|exact qE (by rfl)|exact qF (by rfl)|exact Fit.refl _|exact qA|refine qC ?_ rfl ?_));done)
         try cbv)
      | (refine qP ?_ (c13) ?hfit
         case hfit=>((repeat' (first|exact qB|refine qD ?_ ?_|exact qE (by rfl)|exact qF (by rfl)|exact Fit.refl _|exact qA|refine qC ?_ rfl ?_));done)
         try cbv)
      | (refine qP ?_ (c14) ?hfit
         case hfit=>((repeat' (first|exact qB|refine qD ?_ ?_|exact qE (by rfl)|exact qF (by rfl)|exact Fit.refl _|exact qA|refine qC ?_ rfl ?_));done)
         try cbv)
      |fail)
  all_goals first
    |trivial
    |(subst hR;(repeat' (first|exact qA|exact qB|refine qC ?_ rfl ?_|refine qD ?_ ?_|exact qE (by rfl)|exact qF (by rfl)|exact Fit.refl _|exact qG _|(refine qE ?_;(try simp only [qV]at *);simp only [zQ,zA,zB,zC,zD,zE,zF,zG,zH,zI,zJ,zK,zL,zM,zN,zO,zP,zR,zS]at *;omega)));done)
    |skip
theorem uwI (d:Dsp)(h:uef d=true)(hF:ua6 d=0)(hE:¬ua8 d=0):ua0 Tryz.prog 3 [(dspS d)] [] (fun r _=>r=(.bool (.lit true))):=by
  have c10:=ugE
  have hth:=ui4.1 h
  have c9:=uhh (ujc d) h
  have c12:=ueA d hth.1 (by omega) (by omega)
  have c11:=ugo d
  have c13:=uf0 d
  have c14:=ujN d hF
  obtain⟨e,he⟩:∃e,e=ua8 d:=⟨_,rfl⟩
  rw [(ufj hE).1,(ufj hE).2.1,←he]at c11
  rw [(ufj hE).2.2,←he]at c13
  rw [←he]at hE
  rw [←he]at c14
  clear he h hth hF
  refine ua0.is fun R hR=>qW (sc:=sc3) tyok mix Tryz.func3 rfl Tryz.call3 (by kernel_rfl) (by kernel_rfl) ?_
  generalize Tryz.prog=P at c10 c9 c12 c11 c13 c14⊢
  cbv
  repeat' (first
      |(with_reducible intro hcd;exfalso;(try simp only [zQ,zA,zB,zC,zD,zE,zF,zG,zH,zI,zJ,zK,zL,zM,zN,zO,zP,zR,zS]at hcd);omega)
      |with_reducible refine And.intro ?_ ?_
      |(with_reducible intro hcd;(try simp only [zA,zB,zC,zD,zE,zF,zG,zH,zI,zJ,zK,zL,zM,zN,zO,zP]at hcd);try cbv)
      | (refine qP ?_ (c9) ?hfit
         case hfit=>((repeat' (first|exact qB|refine qD ?_ ?_|exact qE (by rfl)|exact qF (by rfl)|exact Fit.refl _|exact qA|refine qC ?_ rfl ?_));done)
         try cbv)
      | (refine qP ?_ (c10) ?hfit
         case hfit=>((repeat' (first|exact qB|refine qD ?_ ?_|exact qE (by rfl)|exact qF (by rfl)|exact Fit.refl _|exact qA|refine qC ?_ rfl ?_));done)
         try cbv)
      | (refine qP ?_ (c12) ?hfit
         case hfit=>((repeat' (first|exact qB|refine qD ?_ ?_|exact qE (by rfl)|exact qF (by rfl)|exact Fit.refl _|exact qA|refine qC ?_ rfl ?_));done)
         try cbv)
      | (refine qP ?_ (c11) ?hfit
         case hfit=>((repeat' (first|exact qB|refine qD ?_ ?_|exact qE (by rfl)|exact qF (by rfl)|exact Fit.refl _|exact qA|refine qC ?_ rfl ?_));done)
         try cbv)
      | (refine qP ?_ (c13) ?hfit
         case hfit=>((repeat' (first|exact qB|refine qD ?_ ?_|exact qE (by rfl)|exact qF (by rfl)|exact Fit.refl _|exact qA|refine qC ?_ rfl ?_));done)
         try cbv)
      | (refine qP ?_ (c14) ?hfit
         case hfit=>((repeat' (first|exact qB|refine qD ?_ ?_|exact qE (by rfl)|exact qF (by rfl)|exact Fit.refl _|exact qA|refine qC ?_ rfl ?_));done)
         try cbv)
      |fail)
  all_goals first
    |trivial
    |(subst hR;(repeat' (first|exact qA|exact qB|refine qC ?_ rfl ?_|refine qD ?_ ?_|exact qE (by rfl)|exact qF (by rfl)|exact Fit.refl _|exact qG _|(refine qE ?_;(try simp only [qV]at *);simp only [zQ,zA,zB,zC,zD,zE,zF,zG,zH,zI,zJ,zK,zL,zM,zN,zO,zP,zR,zS]at *;omega)));done)
    |skip
theorem uxj (d:Dsp)(h:uef d=true)(hE:ua8 d=0)(ho:firO d=none):ua0 Tryz.prog 3 [(dspS d)] [] (fun r _=>r=(.bool (.lit true))):=by
  have c10:=ugE
  have hth:=ui4.1 h
  have c9:=uhh (ujc d) h
  have c12:=ueA d hth.1 (by omega) (by omega)
  have c11:=ugo d
  have c13:=uf0 d
  have hF:=(uar hE).1
  have hd:=ua3.1 hF
  have hlen:=uka d hF
  have c14:=ujN d hF
  have c16:=upG d _ hd rfl
  have c17:=uoe d hd
  rw [uno hE rfl]at c16
  rw [upR hd,ho,show firI none = -1 from rfl]at c17
  rw [(uoX hE ho).1,(uoX hE ho).2]at c11
  rw [hE]at c13 c14
  obtain⟨L,hL⟩:∃L,L=leaL d:=⟨_,rfl⟩
  rw [←hL]at c13 c16 hlen
  have c15:=uhh (uiA L.length L.length (fun n=>L.getD n 0) (fun n=>L.getD n 0) (by omega) (by omega)) (ujK rfl fun _ _=>rfl)
  clear hL h hth hF hE hd ho
  refine ua0.is fun R hR=>qW (sc:=sc3) tyok mix Tryz.func3 rfl Tryz.call3 (by kernel_rfl) (by kernel_rfl) ?_
  generalize Tryz.prog=P at c10 c9 c12 c11 c13 c14 c16 c17 c15⊢
  cbv
  repeat' (first
      |(with_reducible intro hcd;exfalso;(try simp only [zQ,zA,zB,zC,zD,zE,zF,zG,zH,zI,zJ,zK,zL,zM,zN,zO,zP,zR,zS]at hcd);omega)
      |with_reducible refine And.intro ?_ ?_
      |(with_reducible intro hcd;(try simp only [zA,zB,zC,zD,zE,zF,zG,zH,zI,zJ,zK,zL,zM,zN,zO,zP]at hcd);try cbv)
      | (refine qP ?_ (c9) ?hfit
         case hfit=>((repeat' (first|exact qB|refine qD ?_ ?_|exact qE (by rfl)|exact qF (by rfl)|exact Fit.refl _|exact qA|refine qC ?_ rfl ?_));done)
         try cbv)
      | (refine qP ?_ (c10) ?hfit
         case hfit=>((repeat' (first|exact qB|refine qD ?_ ?_|exact qE (by rfl)|exact qF (by rfl)|exact Fit.refl _|exact qA|refine qC ?_ rfl ?_));done)
         try cbv)
      | (refine qP ?_ (c12) ?hfit
         case hfit=>((repeat' (first|exact qB|refine qD ?_ ?_|exact qE (by rfl)|exact qF (by rfl)|exact Fit.refl _|exact qA|refine qC ?_ rfl ?_));done)
         try cbv)
      | (refine qP ?_ (c11) ?hfit
         case hfit=>((repeat' (first|exact qB|refine qD ?_ ?_|exact qE (by rfl)|exact qF (by rfl)|exact Fit.refl _|exact qA|refine qC ?_ rfl ?_));done)
         try cbv)
      | (refine qP ?_ (c13) ?hfit
         case hfit=>((repeat' (first|exact qB|refine qD ?_ ?_|exact qE (by rfl)|exact qF (by rfl)|exact Fit.refl _|exact qA|refine qC ?_ rfl ?_));done)
         try cbv)
      | (refine qP ?_ (c14) ?hfit
         case hfit=>((repeat' (first|exact qB|refine qD ?_ ?_|exact qE (by rfl)|exact qF (by rfl)|exact Fit.refl _|exact qA|refine qC ?_ rfl ?_));done)
         try cbv)
      | (refine qP ?_ (c16) ?hfit
         case hfit=>((repeat' (first|exact qB|refine qD ?_ ?_|exact qE (by rfl)|exact qF (by rfl)|exact Fit.refl _|exact qA|refine qC ?_ rfl ?_));done)
         try cbv)
      | (refine qP ?_ (c17) ?hfit
         case hfit=>((repeat' (first|exact qB|refine qD ?_ ?_|exact qE (by rfl)|exact qF (by rfl)|exact Fit.refl _|exact qA|refine qC ?_ rfl ?_));done)
         try cbv)
      | (refine qP ?_ (c15) ?hfit
         case hfit=>((repeat' (first|exact qB|refine qD ?_ ?_|exact qE (by rfl)|exact qF (by rfl)|exact Fit.refl _|exact qA|refine qC ?_ rfl ?_));done)
         try cbv)
      |fail)
  all_goals first
    |trivial
    |(subst hR;(repeat' (first|exact qA|exact qB|refine qC ?_ rfl ?_|refine qD ?_ ?_|exact qE (by rfl)|exact qF (by rfl)|exact Fit.refl _|exact qG _|(refine qE ?_;(try simp only [qV]at *);simp only [zQ,zA,zB,zC,zD,zE,zF,zG,zH,zI,zJ,zK,zL,zM,zN,zO,zP,zR,zS]at *;omega)));done)
    |skip
theorem uwT (d:Dsp)(r:Nat)(h:uef d=true)(hE:ua8 d=0)(ho:firO d=some r):ua0 Tryz.prog 3 [(dspS d)] [] (fun r _=>r=(.bool (.lit true))):=by
  have c10:=ugE
  have hth:=ui4.1 h
  have c9:=uhh (ujc d) h
  have c12:=ueA d hth.1 (by omega) (by omega)
  have c11:=ugo d
  have c13:=uf0 d
  have hF:=(uar hE).1
  have hd:=ua3.1 hF
  have hlen:=uka d hF
  have c14:=ujN d hF
  have c16:=upG d _ hd rfl
  have c17:=uoe d hd
  rw [uno hE rfl]at c16
  rw [upR hd,ho,show firI (some r)=zi r from rfl]at c17
  rw [(uoI hE ho).1,(uoI hE ho).2]at c11
  rw [hE]at c13 c14
  obtain⟨L,hL⟩:∃L,L=leaL d:=⟨_,rfl⟩
  rw [←hL]at c13 c16 hlen
  have c15:=uhh (uiA L.length L.length (fun n=>L.getD n 0) (fun n=>L.getD n 0) (by omega) (by omega)) (ujK rfl fun _ _=>rfl)
  clear hL h hth hF hE hd ho
  refine ua0.is fun R hR=>qW (sc:=sc3) tyok mix Tryz.func3 rfl Tryz.call3 (by kernel_rfl) (by kernel_rfl) ?_
  generalize Tryz.prog=P at c10 c9 c12 c11 c13 c14 c16 c17 c15⊢
  cbv
  repeat' (first
      |(with_reducible intro hcd;exfalso;(try simp only [zQ,zA,zB,zC,zD,zE,zF,zG,zH,zI,zJ,zK,zL,zM,zN,zO,zP,zR,zS]at hcd);omega)
      |with_reducible refine And.intro ?_ ?_
      |(with_reducible intro hcd;(try simp only [zA,zB,zC,zD,zE,zF,zG,zH,zI,zJ,zK,zL,zM,zN,zO,zP]at hcd);try cbv)
      | (refine qP ?_ (c9) ?hfit
         case hfit=>((repeat' (first|exact qB|refine qD ?_ ?_|exact qE (by rfl)|exact qF (by rfl)|exact Fit.refl _|exact qA|refine qC ?_ rfl ?_));done)
         try cbv)
      | (refine qP ?_ (c10) ?hfit
         case hfit=>((repeat' (first|exact qB|refine qD ?_ ?_|exact qE (by rfl)|exact qF (by rfl)|exact Fit.refl _|exact qA|refine qC ?_ rfl ?_));done)
         try cbv)
      | (refine qP ?_ (c12) ?hfit
         case hfit=>((repeat' (first|exact qB|refine qD ?_ ?_|exact qE (by rfl)|exact qF (by rfl)|exact Fit.refl _|exact qA|refine qC ?_ rfl ?_));done)
         try cbv)
      | (refine qP ?_ (c11) ?hfit
         case hfit=>((repeat' (first|exact qB|refine qD ?_ ?_|exact qE (by rfl)|exact qF (by rfl)|exact Fit.refl _|exact qA|refine qC ?_ rfl ?_));done)
         try cbv)
      | (refine qP ?_ (c13) ?hfit
         case hfit=>((repeat' (first|exact qB|refine qD ?_ ?_|exact qE (by rfl)|exact qF (by rfl)|exact Fit.refl _|exact qA|refine qC ?_ rfl ?_));done)
         try cbv)
      | (refine qP ?_ (c14) ?hfit
         case hfit=>((repeat' (first|exact qB|refine qD ?_ ?_|exact qE (by rfl)|exact qF (by rfl)|exact Fit.refl _|exact qA|refine qC ?_ rfl ?_));done)
         try cbv)
      | (refine qP ?_ (c16) ?hfit
         case hfit=>((repeat' (first|exact qB|refine qD ?_ ?_|exact qE (by rfl)|exact qF (by rfl)|exact Fit.refl _|exact qA|refine qC ?_ rfl ?_));done)
         try cbv)
      | (refine qP ?_ (c17) ?hfit
         case hfit=>((repeat' (first|exact qB|refine qD ?_ ?_|exact qE (by rfl)|exact qF (by rfl)|exact Fit.refl _|exact qA|refine qC ?_ rfl ?_));done)
         try cbv)
      | (refine qP ?_ (c15) ?hfit
         case hfit=>((repeat' (first|exact qB|refine qD ?_ ?_|exact qE (by rfl)|exact qF (by rfl)|exact Fit.refl _|exact qA|refine qC ?_ rfl ?_));done)
         try cbv)
      |fail)
  all_goals first
    |trivial
    |(subst hR;(repeat' (first|exact qA|exact qB|refine qC ?_ rfl ?_|refine qD ?_ ?_|exact qE (by rfl)|exact qF (by rfl)|exact Fit.refl _|exact qG _|(refine qE ?_;(try simp only [qV]at *);simp only [zQ,zA,zB,zC,zD,zE,zF,zG,zH,zI,zJ,zK,zL,zM,zN,zO,zP,zR,zS]at *;omega)));done)
    |skip
theorem law3 (d:Dsp):ua0 Tryz.prog 3 [(dspS d)] [] (fun r _=>r = .bool (.lit true)):=by
  cases h:uef d with
  |false=>exact uws d h
  | true=>
    by_cases hF:ua6 d=0
    · by_cases hE:ua8 d=0
      · cases ho:firO d with
        |none=>exact uxj d h hE ho
        |some r=>exact uwT d r h hE ho
      · exact uwI d h hF hE
    · exact uxe d h hF
end Go.Proofs.YtkdggbfknlcdaaaGreat
