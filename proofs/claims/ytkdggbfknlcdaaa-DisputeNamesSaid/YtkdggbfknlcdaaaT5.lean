/- Contracts of the functions that the laws come to. No condition. -/
import Derived.Test.YtkdggbfknlcdaaaT4
set_option linter.unusedVariables false
set_option linter.unusedSimpArgs false
set_option linter.deprecated false

namespace Go.Proofs.Ytkdggbfknlcdaaa
open Go Go.Eng Go.Proofs Go.Eng.Dif Go.Eng.Few
set_option maxRecDepth 10000
theorem bounds21y (d:Dsp)(h:bndE d=0):FSpec Try.prog 21 [(dspS d)] [] (fun r _=>r=(.tup [(.sl 2 (.sym fun _=>bndN d) (fun ix=>[(.int .i64 (.sym fun _=>loT d [] ix.den.toNat)),(.int .i64 (.sym fun _=>hiT d [] ix.den.toNat))])),(.int .i64 (.sym fun _=>bndE d))])):=by
  have c16:=check16 d
  have c44:=work44 d
  have hF:=(bndE_ok h).1
  have hC:=(bndE_ok h).2
  have s1:=(faultD_iff.1 hF).s1
  have s3:=(faultD_iff.1 hF).s3
  have c54:=apart54 d [] (faultD_iff.1 hF) (by simp)
  have hbd:=fun (i:Nat) (hi:i<16)=>clo_bd (faultD_iff.1 hF) hC hi
  have c55:=fun (s:Int) (hs:0≤s∧s<3)=>bounds55 (clo (matO d d.fs [])) s hs (fun i hi=>⟨by have:=hbd i hi;omega,by have:=hbd i hi;omega⟩)
  refine FSpec.is fun R hR=>qW (sc:=sc21) tyok mix Try.func21 rfl Try.call21 (by kernel_rfl) (by kernel_rfl) ?_
  generalize Try.prog=P at c16 c44 c54 c55⊢
  cbv
  repeat' (first
      |with_reducible refine And.intro ?_ ?_
      |(with_reducible intro hcd;(try simp only [zA,zB,zC,zD,zE,zF,zG,zH,zI,zJ,zK,zL,zM,zN,zO,zP]at hcd);try cbv)
      | (refine qP ?_ (c16) ?hfit
         case hfit=>((repeat' (first|exact qB|refine qD ?_ ?_|exact qE (by rfl)|exact qF (by rfl)|exact Fit.refl _|exact qA|refine qC ?_ rfl ?_));done)
         try cbv)
      | (refine qP ?_ (c44) ?hfit
         case hfit=>((repeat' (first|exact qB|refine qD ?_ ?_|exact qE (by rfl)|exact qF (by rfl)|exact Fit.refl _|exact qA|refine qC ?_ rfl ?_));done)
         try cbv)
      | (refine qP ?_ (c54) ?hfit
         case hfit=>((refine qD (Fit.refl _) (qD (qO rfl) qB));done)
         try cbv)
      |fail)
  all_goals first
    |trivial
    |(exfalso;rw [hC]at hcd;cases hcd;done)
    |skip
  refine⟨none,[⟨.tmp 7,33,2⟩],{s:Nat // s≤d.sn.toNat},fun x=>⟨[(1,.own 0 0),(5,.own 14 0),(7,.row 23),(23,(.int .i64 (.sym fun _=>d.sn))),(24,(.int .i64 (.sym fun _=>zi x.1)))],[(0,.cells [(.sl 1 (.sym fun _=>zi (d.tw).length) (fun ix=>[.int .i64 (.sym fun _=>(d.tw).getD ix.den.toNat 0)])),(.sl 1 (.sym fun _=>zi (d.tm).length) (fun ix=>[.int .i64 (.sym fun _=>(d.tm).getD ix.den.toNat 0)])),(.sl 1 (.sym fun _=>zi (d.tv).length) (fun ix=>[(.sl 1 (.sym fun _=>zi ((d.tv).getD ix.den.toNat []).length) (fun jx=>[.int .i64 (.sym fun _=>((d.tv).getD ix.den.toNat []).getD jx.den.toNat 0)]))])),(.int .i64 (.sym fun _=>d.sn)),(.int .i64 (.sym fun _=>d.pn)),(.sl 4 (.sym fun _=>zi (d.ls).length) (fun ix=>[(.int .i64 (.sym fun _=>((d.ls).getD ix.den.toNat l0T).a)),(.int .i64 (.sym fun _=>((d.ls).getD ix.den.toNat l0T).b)),(.int .i64 (.sym fun _=>((d.ls).getD ix.den.toNat l0T).lo)),(.int .i64 (.sym fun _=>((d.ls).getD ix.den.toNat l0T).hi))])),(.sl 6 (.sym fun _=>zi (d.fs).length) (fun ix=>[(.int .i64 (.sym fun _=>((d.fs).getD ix.den.toNat f0T).p)),(.int .i64 (.sym fun _=>((d.fs).getD ix.den.toNat f0T).s)),(.int .i64 (.sym fun _=>((d.fs).getD ix.den.toNat f0T).wl)),(.int .i64 (.sym fun _=>((d.fs).getD ix.den.toNat f0T).wh)),(.int .i64 (.sym fun _=>((d.fs).getD ix.den.toNat f0T).ml)),(.int .i64 (.sym fun _=>((d.fs).getD ix.den.toNat f0T).mh))]))] 41),(14,.cells [(.arr 16 (fun ix=>(.int .i64 (.sym fun _=>(clo (matO d d.fs [])) ix.den.toNat))))] 104),(23,.row 33 2 (.sym fun _=>zi x.1) (fun ix=>[(.int .i64 (.sym fun _=>loT d [] ix.den.toNat)),(.int .i64 (.sym fun _=>hiT d [] ix.den.toNat))]))],100⟩,fun x=>d.sn.toNat-x.1,?_,?_⟩
  · refine⟨⟨0,by omega⟩,?_⟩
    cbv
    repeat' (first
      |with_reducible refine hold ?_ ?_
      |with_reducible refine And.intro ?_ ?_)
    all_goals first
      |trivial
      |exact qM (qE (by rfl))
      |exact qM (Fit.refl _)
      |exact qL (qK _)
      |(refine qL (ble_row ?_ ?_);(first|rfl|((try simp only [qV]at *);(try simp only [zQ,zA,zB,zC,zD,zE,zF,zG,zH,zI,zJ,zK,zL,zM,zN,zO,zP,zR,zS]at *);omega));intro ix h0 h1;exfalso;(try simp only [qV]at *);(try simp only [zQ,zA,zB,zC,zD,zE,zF,zG,zH,zI,zJ,zK,zL,zM,zN,zO,zP,zR,zS]at *);omega)
      |skip
  · rintro ⟨s,hs⟩
    cbv
    repeat' (first
        |with_reducible refine hold ?_ ?_
        |with_reducible refine And.intro ?_ ?_
        |(with_reducible intro hcd;(try simp only [zA,zB,zC,zD,zE,zF,zG,zH,zI,zJ,zK,zL,zM,zN,zO,zP]at hcd);try cbv)
        | (refine⟨some [14],?_⟩
           cbv
           refine qQ ?_ (c55 (zi s) ⟨(by((try simp only [qV]at *);(try simp only [zQ,zA,zB,zC,zD,zE,zF,zG,zH,zI,zJ,zK,zL,zM,zN,zO,zP,zR,zS]at *);omega)),(by((try simp only [qV]at *);(try simp only [zQ,zA,zB,zC,zD,zE,zF,zG,zH,zI,zJ,zK,zL,zM,zN,zO,zP,zR,zS]at *);omega))⟩) ?hfit ?hbo
           case hfit=>(cbv;(repeat' (first|exact qB|refine qD ?_ ?_|exact qE (by rfl)|exact qF (by rfl)|exact Fit.refl _|exact qA|refine qC ?_ rfl ?_));done)
           case hbo=>(cbv;(repeat' (first|exact qH|refine qI ?_ ?_|exact qK _|refine qJ ?_|exact qA|exact qE (by rfl)|exact qF (by rfl)|exact Fit.refl _|exact qG _|refine qC ?_ rfl ?_));done)
           try cbv)
        | (refine⟨fun ix=>[(.int .i64 (.sym fun _=>loT d [] ix.den.toNat)),(.int .i64 (.sym fun _=>hiT d [] ix.den.toNat))],?_⟩
           cbv
           refine hold (hold_rowapp (by intro ix jx h0 h1 h2;simp only [h2];exact Fit.refl _) (by intro ix jx h0 h1 h2;(have h3:jx.den.toNat=s:=by((try simp only [qV]at *);(try simp only [zQ,zA,zB,zC,zD,zE,zF,zG,zH,zI,zJ,zK,zL,zM,zN,zO,zP,zR,zS]at *);omega));simp only [h3];exact qC (qE rfl) rfl (qC (qE rfl) rfl qA)) (by(try simp only [qV]at *);(try simp only [zQ,zA,zB,zC,zD,zE,zF,zG,zH,zI,zJ,zK,zL,zM,zN,zO,zP,zR,zS]at *);omega)) (Or.inl ?_)
           try cbv)
        |fail)
    all_goals first
      |((try simp only [qV]at *);(try simp only [zQ,zA,zB,zC,zD,zE,zF,zG,zH,zI,zJ,zK,zL,zM,zN,zO,zP,zR,zS]at *);first|(refine qN ?_;omega)|(simp only [Hold];omega))
      |((have hse:(s:Int)=d.sn:=(by((try simp only [qV]at *);(try simp only [zQ,zA,zB,zC,zD,zE,zF,zG,zH,zI,zJ,zK,zL,zM,zN,zO,zP,zR,zS]at *);omega)));subst hR;exact qD (fit_sl (hse.trans (bndE_yes hF hC).2.symm) (fun _ _ _=>Fit.refl _)) (qD (qE h.symm) qB))
      |((try simp only [zQ,zA,zB,zC,zD,zE,zF,zG,zH,zI,zJ,zK,zL,zM,zN,zO,zP,zR,zS]at *);refine⟨⟨s+1,by((try simp only [qV]at *);(try simp only [zQ,zA,zB,zC,zD,zE,zF,zG,zH,zI,zJ,zK,zL,zM,zN,zO,zP,zR,zS]at *);omega)⟩,by simp only [];omega,?_⟩;cbv;(repeat' (first|with_reducible refine hold ?_ ?_|with_reducible refine And.intro ?_ ?_));(all_goals first|trivial|exact qM (qE (by rfl))|exact qM (qF (by rfl))|exact qM (Fit.refl _)|exact qL (qK _)|(refine qM (qE ?_);(try simp only [qV]at *);simp only [zQ,zA,zB,zC,zD,zE,zF,zG,zH,zI,zJ,zK,zL,zM,zN,zO,zP,zR,zS]at *;omega)|(refine qL (qJ ?_);(repeat' (first|exact qA|exact qB|refine qC ?_ rfl ?_|refine qD ?_ ?_|exact qE (by rfl)|exact qF (by rfl)|exact Fit.refl _|exact qG _|(refine qE ?_;(try simp only [qV]at *);simp only [zQ,zA,zB,zC,zD,zE,zF,zG,zH,zI,zJ,zK,zL,zM,zN,zO,zP,zR,zS]at *;omega)));done)|(refine qL (ble_row ?_ ?_)<;>first|rfl|((try simp only [qV]at *);(try simp only [zQ,zA,zB,zC,zD,zE,zF,zG,zH,zI,zJ,zK,zL,zM,zN,zO,zP,zR,zS]at *);omega)|(intro ix h0 h1;exact Fit.refl _))|skip))
      |skip
theorem bounds21n (d:Dsp)(h:¬bndE d=0):FSpec Try.prog 21 [(dspS d)] [] (fun r _=>r=(.tup [(.sl 2 (.sym fun _=>bndN d) (fun ix=>[(.int .i64 (.sym fun _=>loT d [] ix.den.toNat)),(.int .i64 (.sym fun _=>hiT d [] ix.den.toNat))])),(.int .i64 (.sym fun _=>bndE d))])):=by
  have c16:=check16 d
  have c44:=work44 d
  have c54:=fun h:faultD d=0=>apart54 d [] (faultD_iff.1 h) (by simp)
  refine FSpec.is fun R hR=>qW (sc:=sc21) tyok mix Try.func21 rfl Try.call21 (by kernel_rfl) (by kernel_rfl) ?_
  generalize Try.prog=P at c16 c44 c54⊢
  cbv
  repeat' (first
      |with_reducible refine And.intro ?_ ?_
      |(with_reducible intro hcd;(try simp only [zA,zB,zC,zD,zE,zF,zG,zH,zI,zJ,zK,zL,zM,zN,zO,zP]at hcd);try cbv)
      | (refine qP ?_ (c16) ?hfit
         case hfit=>((repeat' (first|exact qB|refine qD ?_ ?_|exact qE (by rfl)|exact qF (by rfl)|exact Fit.refl _|exact qA|refine qC ?_ rfl ?_));done)
         try cbv)
      | (refine qP ?_ (c44) ?hfit
         case hfit=>((repeat' (first|exact qB|refine qD ?_ ?_|exact qE (by rfl)|exact qF (by rfl)|exact Fit.refl _|exact qA|refine qC ?_ rfl ?_));done)
         try cbv)
      | (refine qP ?_ (c54 (show Hold _ from ?_)) ?hfit
         case hfit=>((refine qD (Fit.refl _) (qD (qO rfl) qB));done)
         try cbv)
      |fail)
  all_goals first
    |trivial
    |(subst hR;((try simp only [qV]at *);(try simp only [zQ,zA,zB,zC,zD,zE,zF,zG,zH,zI,zJ,zK,zL,zM,zN,zO,zP,zR,zS]at *);(exact qD (qO (bndE_ne h)) (qD (qE (bndE_bad (d:=d) (by first|assumption|omega)).1.symm) qB)));done)
    |(subst hR;((try simp only [qV]at *);(try simp only [zQ,zA,zB,zC,zD,zE,zF,zG,zH,zI,zJ,zK,zL,zM,zN,zO,zP,zR,zS]at *);(exact qD (qO (bndE_ne h)) (qD (qE (bndE_no (d:=d) (by first|assumption|omega) (by assumption)).1.symm) qB)));done)
    |(exfalso;exact h (bndE_yes (by((try simp only [qV]at *);(try simp only [zQ,zA,zB,zC,zD,zE,zF,zG,zH,zI,zJ,zK,zL,zM,zN,zO,zP,zR,zS]at *);first|assumption|omega)) (by assumption)).1)
    |skip
theorem bounds21 (d:Dsp):FSpec Try.prog 21 [(dspS d)] [] (fun r _=>r=(.tup [(.sl 2 (.sym fun _=>bndN d) (fun ix=>[(.int .i64 (.sym fun _=>loT d [] ix.den.toNat)),(.int .i64 (.sym fun _=>hiT d [] ix.den.toNat))])),(.int .i64 (.sym fun _=>bndE d))])):=by
  by_cases h:bndE d=0
  · exact bounds21y d h
  · exact bounds21n d h
end Go.Proofs.Ytkdggbfknlcdaaa

namespace Go.Proofs.Ytkdggbfknlcdaaa
open Go Go.Eng Go.Proofs Go.Eng.Dif Go.Eng.Few
set_option maxRecDepth 10000
theorem clone94 (l:List Int)(hl:l.length≤1000):FSpecN Try.prog 94 [(.sl 1 (.sym fun _=>zi (l).length) (fun ix=>[.int .i64 (.sym fun _=>(l).getD ix.den.toNat 0)]))] [] (fun r bs=>r = .row 0∧bs=[.row 3 1 (.sym fun _=>zi l.length) (fun ix=>[.int .i64 (.sym fun _=>l.getD ix.den.toNat 0)])]):=by
  refine FSpecN.is rfl rfl fun R B hR hB=>fspecN_vc (sc:=sc94) tyok mix Try.func94 rfl Try.call94 (by kernel_rfl) (by kernel_rfl) ?_
  generalize Try.prog=P
  cbv
  repeat' (first
      |with_reducible refine hold ?_ ?_
      |with_reducible refine And.intro ?_ ?_
      |(with_reducible intro hcd;(try simp only [zA,zB,zC,zD,zE,zF,zG,zH,zI,zJ,zK,zL,zM,zN,zO,zP]at hcd);try cbv)
      |fail)
  all_goals first
    |((try simp only [qV]at *);(try simp only [zQ,zA,zB,zC,zD,zE,zF,zG,zH,zI,zJ,zK,zL,zM,zN,zO,zP,zR,zS]at *);first|(refine qN ?_;omega)|(simp only [Hold];omega))
    |(refine⟨[⟨.tmp 2,3,1⟩],(4:Nat),?_⟩;cbv;subst hR;subst hB;refine⟨?_,?_⟩;(first|exact Fit.refl _|((repeat' (first|exact qA|exact qB|refine qC ?_ rfl ?_|refine qD ?_ ?_|exact qE (by rfl)|exact qF (by rfl)|exact Fit.refl _|exact qG _|(refine qE ?_;(try simp only [qV]at *);simp only [zQ,zA,zB,zC,zD,zE,zF,zG,zH,zI,zJ,zK,zL,zM,zN,zO,zP,zR,zS]at *;omega)));done));(repeat' (first|exact qH|refine qI ?_ ?_));(all_goals first|exact qK _|(refine qJ ?_;(repeat' (first|exact qA|exact qB|refine qC ?_ rfl ?_|refine qD ?_ ?_|exact qE (by rfl)|exact qF (by rfl)|exact Fit.refl _|exact qG _|(refine qE ?_;(try simp only [qV]at *);simp only [zQ,zA,zB,zC,zD,zE,zF,zG,zH,zI,zJ,zK,zL,zM,zN,zO,zP,zR,zS]at *;omega)));done)|(refine ble_row ?_ ?_;(first|rfl|((try simp only [qV]at *);(try simp only [zQ,zA,zB,zC,zD,zE,zF,zG,zH,zI,zJ,zK,zL,zM,zN,zO,zP,zR,zS]at *);omega));intro ix h0 h1;first|exact Fit.refl _|(exfalso;(try simp only [qV]at *);(try simp only [zQ,zA,zB,zC,zD,zE,zF,zG,zH,zI,zJ,zK,zL,zM,zN,zO,zP,zR,zS]at *);omega))))
    |(refine⟨[],(5:Nat),?_⟩;cbv;subst hR;subst hB;refine⟨?_,?_⟩;(first|exact Fit.refl _|((repeat' (first|exact qA|exact qB|refine qC ?_ rfl ?_|refine qD ?_ ?_|exact qE (by rfl)|exact qF (by rfl)|exact Fit.refl _|exact qG _|(refine qE ?_;(try simp only [qV]at *);simp only [zQ,zA,zB,zC,zD,zE,zF,zG,zH,zI,zJ,zK,zL,zM,zN,zO,zP,zR,zS]at *;omega)));done));(repeat' (first|exact qH|refine qI ?_ ?_));(all_goals first|exact qK _|(refine qJ ?_;(repeat' (first|exact qA|exact qB|refine qC ?_ rfl ?_|refine qD ?_ ?_|exact qE (by rfl)|exact qF (by rfl)|exact Fit.refl _|exact qG _|(refine qE ?_;(try simp only [qV]at *);simp only [zQ,zA,zB,zC,zD,zE,zF,zG,zH,zI,zJ,zK,zL,zM,zN,zO,zP,zR,zS]at *;omega)));done)|(refine ble_row ?_ ?_;(first|rfl|((try simp only [qV]at *);(try simp only [zQ,zA,zB,zC,zD,zE,zF,zG,zH,zI,zJ,zK,zL,zM,zN,zO,zP,zR,zS]at *);omega));intro ix h0 h1;first|exact Fit.refl _|(exfalso;(try simp only [qV]at *);(try simp only [zQ,zA,zB,zC,zD,zE,zF,zG,zH,zI,zJ,zK,zL,zM,zN,zO,zP,zR,zS]at *);omega))))
    |skip
theorem clone92 (l:List FaT)(hl:l.length≤1000):FSpec Try.prog 92 [(.sl 6 (.sym fun _=>zi (l).length) (fun ix=>[(.int .i64 (.sym fun _=>((l).getD ix.den.toNat f0T).p)),(.int .i64 (.sym fun _=>((l).getD ix.den.toNat f0T).s)),(.int .i64 (.sym fun _=>((l).getD ix.den.toNat f0T).wl)),(.int .i64 (.sym fun _=>((l).getD ix.den.toNat f0T).wh)),(.int .i64 (.sym fun _=>((l).getD ix.den.toNat f0T).ml)),(.int .i64 (.sym fun _=>((l).getD ix.den.toNat f0T).mh))]))] [] (fun r _=>r=(.sl 6 (.sym fun _=>zi (l).length) (fun ix=>[(.int .i64 (.sym fun _=>((l).getD ix.den.toNat f0T).p)),(.int .i64 (.sym fun _=>((l).getD ix.den.toNat f0T).s)),(.int .i64 (.sym fun _=>((l).getD ix.den.toNat f0T).wl)),(.int .i64 (.sym fun _=>((l).getD ix.den.toNat f0T).wh)),(.int .i64 (.sym fun _=>((l).getD ix.den.toNat f0T).ml)),(.int .i64 (.sym fun _=>((l).getD ix.den.toNat f0T).mh))]))):=by
  refine FSpec.is fun R hR=>qW (sc:=sc92) tyok mix Try.func92 rfl Try.call92 (by kernel_rfl) (by kernel_rfl) ?_
  generalize Try.prog=P
  cbv
  repeat' (first
      |with_reducible refine hold ?_ ?_
      |with_reducible refine And.intro ?_ ?_
      |(with_reducible intro hcd;(try simp only [zA,zB,zC,zD,zE,zF,zG,zH,zI,zJ,zK,zL,zM,zN,zO,zP]at hcd);try cbv)
      |fail)
  all_goals first
    |((try simp only [qV]at *);(try simp only [zQ,zA,zB,zC,zD,zE,zF,zG,zH,zI,zJ,zK,zL,zM,zN,zO,zP,zR,zS]at *);first|(refine qN ?_;omega)|(simp only [Hold];omega))
    |(subst hR;exact qO (by((try simp only [qV]at *);(try simp only [zQ,zA,zB,zC,zD,zE,zF,zG,zH,zI,zJ,zK,zL,zM,zN,zO,zP,zR,zS]at *);omega));done)
    |(subst hR;exact Fit.refl _;done)
    |skip
end Go.Proofs.Ytkdggbfknlcdaaa

namespace Go.Proofs.Ytkdggbfknlcdaaa
open Go.Eng.Dif
def noF (d:Dsp):Dsp:=⟨d.tw,d.tm,d.tv,d.sn,d.pn,d.ls,[]⟩
def withF (d:Dsp)(fs:List FaT):Dsp:=⟨d.tw,d.tm,d.tv,d.sn,d.pn,d.ls,fs⟩
theorem withF_ok {d:Dsp}(h:DOk d) {fs:List FaT}(hl:fs.length≤6)(hf:∀f∈fs,factP d f):DOk (withF d fs):=
  ⟨h.t,h.s1,h.s3,h.p1,h.p4,h.l4,hl,h.l,FOk.of (d:=d) hf⟩
theorem noF_ok {d:Dsp}(h:DOk d):DOk (noF d):=withF_ok h (fs:=[]) (by simp) (fun f hf=>by cases hf)
def linksB (d:Dsp):Bool:=canT (noF d) [] []
def firmE (d:Dsp):Int:=if faultD d=0 then(if linksB d=true then 0 else 9)else faultD d
theorem firmE_bad {d:Dsp}(h:¬faultD d=0):firmE d=faultD d:=by unfold firmE;rw [if_neg h]
theorem firmE_no {d:Dsp}(h:faultD d=0)(hc:linksB d=false):firmE d=9:=by unfold firmE;rw [if_pos h,if_neg (by rw [hc];simp)]
theorem firmE_yes {d:Dsp}(h:faultD d=0)(hc:linksB d=true):firmE d=0:=by unfold firmE;rw [if_pos h,if_pos hc]
theorem firmE_ok {d:Dsp}(h:firmE d=0):faultD d=0∧linksB d=true:=by
  by_cases hF:faultD d=0
  · refine⟨hF,?_⟩
    cases hC:linksB d with
    |true=>rfl
    |false=>rw [firmE_no hF hC]at h;omega
  · rw [firmE_bad hF]at h;exact absurd h hF
theorem links_is (d:Dsp):linksB d=canD (SN d) (LO d) []:=rfl
end Go.Proofs.Ytkdggbfknlcdaaa

namespace Go.Proofs.Ytkdggbfknlcdaaa
open Go Go.Eng Go.Proofs Go.Eng.Dif Go.Eng.Few
set_option maxRecDepth 10000
theorem work44o (d:Dsp):FSpecN Try.prog 44 [(dspS d)] [] (fun r bs=>r = .own 0 0∧bs=[.cells [(.sl 1 (.sym fun _=>zi (d.tw).length) (fun ix=>[.int .i64 (.sym fun _=>(d.tw).getD ix.den.toNat 0)])),(.sl 1 (.sym fun _=>zi (d.tm).length) (fun ix=>[.int .i64 (.sym fun _=>(d.tm).getD ix.den.toNat 0)])),(.sl 1 (.sym fun _=>zi (d.tv).length) (fun ix=>[(.sl 1 (.sym fun _=>zi ((d.tv).getD ix.den.toNat []).length) (fun jx=>[.int .i64 (.sym fun _=>((d.tv).getD ix.den.toNat []).getD jx.den.toNat 0)]))])),(.int .i64 (.sym fun _=>d.sn)),(.int .i64 (.sym fun _=>d.pn)),(.sl 4 (.sym fun _=>zi (d.ls).length) (fun ix=>[(.int .i64 (.sym fun _=>((d.ls).getD ix.den.toNat l0T).a)),(.int .i64 (.sym fun _=>((d.ls).getD ix.den.toNat l0T).b)),(.int .i64 (.sym fun _=>((d.ls).getD ix.den.toNat l0T).lo)),(.int .i64 (.sym fun _=>((d.ls).getD ix.den.toNat l0T).hi))])),(.sl 6 (.sym fun _=>zi (d.fs).length) (fun ix=>[(.int .i64 (.sym fun _=>((d.fs).getD ix.den.toNat f0T).p)),(.int .i64 (.sym fun _=>((d.fs).getD ix.den.toNat f0T).s)),(.int .i64 (.sym fun _=>((d.fs).getD ix.den.toNat f0T).wl)),(.int .i64 (.sym fun _=>((d.fs).getD ix.den.toNat f0T).wh)),(.int .i64 (.sym fun _=>((d.fs).getD ix.den.toNat f0T).ml)),(.int .i64 (.sym fun _=>((d.fs).getD ix.den.toNat f0T).mh))])),(.memo 89 33 false 6 (fun ks=>.agg [(.int .i64 (.sym fun _=>kLo d ks)),(.int .i64 (.sym fun _=>kHi d ks))]))] 117]):=by
  have hmt:=mapTy115
  refine FSpecN.is rfl rfl fun R B hR hB=>fspecN_vc (sc:=sc44) tyok mix Try.func44 rfl Try.call44 (by kernel_rfl) (by kernel_rfl) ?_
  generalize Try.prog=P at hmt⊢
  cbv
  repeat' (first
      | (refine⟨89,33,false,6,?_⟩
         cbv
         refine hold ⟨hmt,fun h=>by cases h⟩ ?_
         refine Or.inr ⟨(fun ks=>.agg [(.int .i64 (.sym fun _=>kLo d ks)),(.int .i64 (.sym fun _=>kHi d ks))]),?_⟩
         cbv)
      |fail)
  all_goals first
    |(refine⟨[],(5:Nat),?_⟩;cbv;subst hR;subst hB;refine⟨?_,?_⟩;(first|exact Fit.refl _|((repeat' (first|exact qA|exact qB|refine qC ?_ rfl ?_|refine qD ?_ ?_|exact qE (by rfl)|exact qF (by rfl)|exact Fit.refl _|exact qG _|(refine qE ?_;(try simp only [qV]at *);simp only [zQ,zA,zB,zC,zD,zE,zF,zG,zH,zI,zJ,zK,zL,zM,zN,zO,zP,zR,zS]at *;omega)));done));(repeat' (first|exact qH|refine qI ?_ ?_));(all_goals first|exact qK _|(refine qJ ?_;(repeat' (first|exact qA|exact qB|refine qC ?_ rfl ?_|refine qD ?_ ?_|exact qE (by rfl)|exact qF (by rfl)|exact Fit.refl _|exact qG _|(refine qE ?_;(try simp only [qV]at *);simp only [zQ,zA,zB,zC,zD,zE,zF,zG,zH,zI,zJ,zK,zL,zM,zN,zO,zP,zR,zS]at *;omega)));done)|(refine ble_row ?_ ?_;(first|rfl|((try simp only [qV]at *);(try simp only [zQ,zA,zB,zC,zD,zE,zF,zG,zH,zI,zJ,zK,zL,zM,zN,zO,zP,zR,zS]at *);omega));intro ix h0 h1;first|exact Fit.refl _|(exfalso;(try simp only [qV]at *);(try simp only [zQ,zA,zB,zC,zD,zE,zF,zG,zH,zI,zJ,zK,zL,zM,zN,zO,zP,zR,zS]at *);omega))))
    |skip
theorem firm59 (d:Dsp)(h:firmE d=0):FSpec Try.prog 59 [(dspS d)] [] (fun r _=>r=(.tup [(wpS d),(.int .i64 (.sym fun _=>0))])):=by
  have c16:=check16 d
  have c44:=work44 d
  have c44n:=work44 (noF d)
  have c92:=clone92 d.fs
  have hmt:=mapTy115
  have hF:=(firmE_ok h).1
  have hC:=(firmE_ok h).2
  have f6:=(faultD_iff.1 hF).f6
  have c54:=apart54 (noF d) [] (noF_ok (faultD_iff.1 hF)) (by simp)
  have hLn:canT (noF d) (noF d).fs []=true:=hC
  rw [hLn]at c54
  refine FSpec.is fun R hR=>qW (sc:=sc59) tyok mix Try.func59 rfl Try.call59 (by kernel_rfl) (by kernel_rfl) ?_
  generalize Try.prog=P at c16 c44 c44n c92 hmt c54⊢
  cbv
  repeat' (first
      |with_reducible refine And.intro ?_ ?_
      |(with_reducible intro hcd;(try simp only [zA,zB,zC,zD,zE,zF,zG,zH,zI,zJ,zK,zL,zM,zN,zO,zP]at hcd);try cbv)
      | (refine qP ?_ (c16) ?hfit
         case hfit=>((repeat' (first|exact qB|refine qD ?_ ?_|exact qE (by rfl)|exact qF (by rfl)|exact Fit.refl _|exact qA|refine qC ?_ rfl ?_));done)
         try cbv)
      | (refine qP ?_ (c44) ?hfit
         case hfit=>((repeat' (first|exact qB|refine qD ?_ ?_|exact qE (by rfl)|exact qF (by rfl)|exact Fit.refl _|exact qA|refine qC ?_ rfl ?_));done)
         try cbv)
      | (refine qP ?_ (c92 (by((try simp only [qV]at *);(try simp only [zQ,zA,zB,zC,zD,zE,zF,zG,zH,zI,zJ,zK,zL,zM,zN,zO,zP,zR,zS]at *);omega))) ?hfit
         case hfit=>((repeat' (first|exact qB|refine qD ?_ ?_|exact qE (by rfl)|exact qF (by rfl)|exact Fit.refl _|exact qA|refine qC ?_ rfl ?_));done)
         try cbv)
      | (refine qP ?_ (c44n) ?hfit
         case hfit=>((refine qD ((qC (Fit.refl _) rfl (qC (Fit.refl _) rfl (qC (Fit.refl _) rfl (qC (Fit.refl _) rfl (qC (Fit.refl _) rfl (qC (Fit.refl _) rfl (qC (qO rfl) rfl qA)))))))) qB);done)
         try cbv)
      | (refine qP ?_ (c54) ?hfit
         case hfit=>((refine qD (Fit.refl _) (qD (qO rfl) qB));done)
         try cbv)
      |fail)
  all_goals first
    |trivial
    |(subst hR;(repeat' (first|exact qA|exact qB|refine qC ?_ rfl ?_|refine qD ?_ ?_|exact qE (by rfl)|exact qF (by rfl)|exact Fit.refl _|exact qG _|(refine qE ?_;(try simp only [qV]at *);simp only [zQ,zA,zB,zC,zD,zE,zF,zG,zH,zI,zJ,zK,zL,zM,zN,zO,zP,zR,zS]at *;omega)));done)
    |skip
theorem firm59o (d:Dsp)(h:firmE d=0):FSpecN Try.prog 59 [(dspS d)] [] (fun r bs=>r=(.tup [.own 0 0,(.int .i64 (.sym fun _=>0))])∧bs=[.cells [(.sl 1 (.sym fun _=>zi (d.tw).length) (fun ix=>[.int .i64 (.sym fun _=>(d.tw).getD ix.den.toNat 0)])),(.sl 1 (.sym fun _=>zi (d.tm).length) (fun ix=>[.int .i64 (.sym fun _=>(d.tm).getD ix.den.toNat 0)])),(.sl 1 (.sym fun _=>zi (d.tv).length) (fun ix=>[(.sl 1 (.sym fun _=>zi ((d.tv).getD ix.den.toNat []).length) (fun jx=>[.int .i64 (.sym fun _=>((d.tv).getD ix.den.toNat []).getD jx.den.toNat 0)]))])),(.int .i64 (.sym fun _=>d.sn)),(.int .i64 (.sym fun _=>d.pn)),(.sl 4 (.sym fun _=>zi (d.ls).length) (fun ix=>[(.int .i64 (.sym fun _=>((d.ls).getD ix.den.toNat l0T).a)),(.int .i64 (.sym fun _=>((d.ls).getD ix.den.toNat l0T).b)),(.int .i64 (.sym fun _=>((d.ls).getD ix.den.toNat l0T).lo)),(.int .i64 (.sym fun _=>((d.ls).getD ix.den.toNat l0T).hi))])),(.sl 6 (.sym fun _=>zi (d.fs).length) (fun ix=>[(.int .i64 (.sym fun _=>((d.fs).getD ix.den.toNat f0T).p)),(.int .i64 (.sym fun _=>((d.fs).getD ix.den.toNat f0T).s)),(.int .i64 (.sym fun _=>((d.fs).getD ix.den.toNat f0T).wl)),(.int .i64 (.sym fun _=>((d.fs).getD ix.den.toNat f0T).wh)),(.int .i64 (.sym fun _=>((d.fs).getD ix.den.toNat f0T).ml)),(.int .i64 (.sym fun _=>((d.fs).getD ix.den.toNat f0T).mh))])),(.memo 89 33 false 6 (fun ks=>.agg [(.int .i64 (.sym fun _=>kLo d ks)),(.int .i64 (.sym fun _=>kHi d ks))]))] 117]):=by
  have c16:=check16 d
  have c44:=work44 d
  have c44n:=work44 (noF d)
  have c92:=clone92 d.fs
  have hmt:=mapTy115
  have hF:=(firmE_ok h).1
  have hC:=(firmE_ok h).2
  have f6:=(faultD_iff.1 hF).f6
  have c54:=apart54 (noF d) [] (noF_ok (faultD_iff.1 hF)) (by simp)
  have hLn:canT (noF d) (noF d).fs []=true:=hC
  rw [hLn]at c54
  have c44o:=work44o d
  refine FSpecN.is rfl rfl fun R B hR hB=>fspecN_vc (sc:=sc59) tyok mix Try.func59 rfl Try.call59 (by kernel_rfl) (by kernel_rfl) ?_
  generalize Try.prog=P at c16 c44 c44n c92 hmt c54 c44o⊢
  cbv
  repeat' (first
      |with_reducible refine And.intro ?_ ?_
      |(with_reducible intro hcd;(try simp only [zA,zB,zC,zD,zE,zF,zG,zH,zI,zJ,zK,zL,zM,zN,zO,zP]at hcd);try cbv)
      | (refine qP ?_ (c16) ?hfit
         case hfit=>((repeat' (first|exact qB|refine qD ?_ ?_|exact qE (by rfl)|exact qF (by rfl)|exact Fit.refl _|exact qA|refine qC ?_ rfl ?_));done)
         try cbv)
      | (refine qP ?_ (c92 (by((try simp only [qV]at *);(try simp only [zQ,zA,zB,zC,zD,zE,zF,zG,zH,zI,zJ,zK,zL,zM,zN,zO,zP,zR,zS]at *);omega))) ?hfit
         case hfit=>((repeat' (first|exact qB|refine qD ?_ ?_|exact qE (by rfl)|exact qF (by rfl)|exact Fit.refl _|exact qA|refine qC ?_ rfl ?_));done)
         try cbv)
      | (refine qP ?_ (c44n) ?hfit
         case hfit=>((refine qD ((qC (Fit.refl _) rfl (qC (Fit.refl _) rfl (qC (Fit.refl _) rfl (qC (Fit.refl _) rfl (qC (Fit.refl _) rfl (qC (Fit.refl _) rfl (qC (qO rfl) rfl qA)))))))) qB);done)
         try cbv)
      | (refine qP ?_ (c54) ?hfit
         case hfit=>((refine qD (Fit.refl _) (qD (qO rfl) qB));done)
         try cbv)
      | (refine Or.inr ⟨true,?_⟩
         cbv
         refine qU ?_ (c44o) (by cbv;(repeat' (first|exact qB|refine qD ?_ ?_|exact qE (by rfl)|exact qF (by rfl)|exact Fit.refl _|exact qA|refine qC ?_ rfl ?_))) (by cbv;(repeat' (first|exact qH|refine qI ?_ ?_|exact qK _|refine qJ ?_|exact qA|exact qE (by rfl)|exact qF (by rfl)|exact Fit.refl _|exact qG _|refine qC ?_ rfl ?_)))
         try cbv)
      |fail)
  all_goals first
    |trivial
    |(refine⟨[],(30:Nat),?_⟩;cbv;subst hR;subst hB;refine⟨qD (Fit.refl _) (qD (qE rfl) qB),?_⟩;(repeat' (first|exact qH|refine qI ?_ ?_));(all_goals first|exact qK _|(refine qJ ?_;(repeat' (first|exact qA|exact qB|refine qC ?_ rfl ?_|refine qD ?_ ?_|exact qE (by rfl)|exact qF (by rfl)|exact Fit.refl _|exact qG _|(refine qE ?_;(try simp only [qV]at *);simp only [zQ,zA,zB,zC,zD,zE,zF,zG,zH,zI,zJ,zK,zL,zM,zN,zO,zP,zR,zS]at *;omega)));done)))
    |skip
theorem firm59n (d:Dsp)(h:¬firmE d=0):FSpec Try.prog 59 [(dspS d)] [] (fun r _=>r=(.tup [.val (Value.pointer none),(.int .i64 (.sym fun _=>firmE d))])):=by
  have c16:=check16 d
  have c44:=work44 d
  have c44n:=work44 (noF d)
  have c92:=clone92 d.fs
  have hmt:=mapTy115
  have c54:=fun h:faultD d=0=>(show FSpec Try.prog 54 [(wpS (noF d)),(.sl 1 (.sym fun _=>zi (([]:List Int)).length) (fun ix=>[.int .i64 (.sym fun _=>(([]:List Int)).getD ix.den.toNat 0)]))] [] (fun r _=>r=(.tup [(.agg [(.arr 16 (fun ix=>(.int .i64 (.sym fun _=>(clo (matO (noF d) (noF d).fs [])) ix.den.toNat))))]),(.bool (.sym fun _=>linksB d))]))from apart54 (noF d) [] (noF_ok (faultD_iff.1 h)) (by simp))
  have hf6:=fun h:faultD d=0=>(faultD_iff.1 h).f6
  refine FSpec.is fun R hR=>qW (sc:=sc59) tyok mix Try.func59 rfl Try.call59 (by kernel_rfl) (by kernel_rfl) ?_
  generalize Try.prog=P at c16 c44 c44n c92 hmt c54⊢
  cbv
  repeat' (first
      |with_reducible refine And.intro ?_ ?_
      |(with_reducible intro hcd;(try simp only [zA,zB,zC,zD,zE,zF,zG,zH,zI,zJ,zK,zL,zM,zN,zO,zP]at hcd);try cbv)
      | (refine qP ?_ (c16) ?hfit
         case hfit=>((repeat' (first|exact qB|refine qD ?_ ?_|exact qE (by rfl)|exact qF (by rfl)|exact Fit.refl _|exact qA|refine qC ?_ rfl ?_));done)
         try cbv)
      | (refine qP ?_ (c44) ?hfit
         case hfit=>((repeat' (first|exact qB|refine qD ?_ ?_|exact qE (by rfl)|exact qF (by rfl)|exact Fit.refl _|exact qA|refine qC ?_ rfl ?_));done)
         try cbv)
      | ((have hF9:faultD d=0:=(by((try simp only [qV]at *);(try simp only [zQ,zA,zB,zC,zD,zE,zF,zG,zH,zI,zJ,zK,zL,zM,zN,zO,zP,zR,zS]at *);omega)))
         (have f6:=hf6 hF9)
         refine qP ?_ (c92 (by((try simp only [qV]at *);(try simp only [zQ,zA,zB,zC,zD,zE,zF,zG,zH,zI,zJ,zK,zL,zM,zN,zO,zP,zR,zS]at *);omega))) ?hfit
         case hfit=>((repeat' (first|exact qB|refine qD ?_ ?_|exact qE (by rfl)|exact qF (by rfl)|exact Fit.refl _|exact qA|refine qC ?_ rfl ?_));done)
         try cbv)
      | (refine qP ?_ (c44n) ?hfit
         case hfit=>((refine qD ((qC (Fit.refl _) rfl (qC (Fit.refl _) rfl (qC (Fit.refl _) rfl (qC (Fit.refl _) rfl (qC (Fit.refl _) rfl (qC (Fit.refl _) rfl (qC (qO rfl) rfl qA)))))))) qB);done)
         try cbv)
      | (refine qP ?_ (c54 (by((try simp only [qV]at *);(try simp only [zQ,zA,zB,zC,zD,zE,zF,zG,zH,zI,zJ,zK,zL,zM,zN,zO,zP,zR,zS]at *);omega))) ?hfit
         case hfit=>((refine qD (Fit.refl _) (qD (qO rfl) qB));done)
         try cbv)
      |fail)
  all_goals first
    |(subst hR;(refine qD (Fit.refl _) (qD (qE ?_) qB);(try simp only [qV]at *);(try simp only [zQ,zA,zB,zC,zD,zE,zF,zG,zH,zI,zJ,zK,zL,zM,zN,zO,zP,zR,zS]at *);first|exact(firmE_bad (by first|assumption|omega)).symm|exact(firmE_no (by first|assumption|omega) (by assumption)).symm);done)
    |(exfalso;exact h (firmE_yes (by((try simp only [qV]at *);(try simp only [zQ,zA,zB,zC,zD,zE,zF,zG,zH,zI,zJ,zK,zL,zM,zN,zO,zP,zR,zS]at *);first|assumption|omega)) (by assumption)))
    |skip
end Go.Proofs.Ytkdggbfknlcdaaa

namespace Go.Proofs.Ytkdggbfknlcdaaa
open Go.Eng.Dif
theorem can_nil {d:Dsp}:canT d d.fs []=canD (SN d) (LO d) (FO d d.fs):=by
  unfold canT matO canD
  rw [kept_nil]
theorem FO_take (d:Dsp)(n:Nat):FO d (d.fs.take n)=(FO d d.fs).take n:=List.map_take ..
theorem can_take (d:Dsp)(n:Nat):canT (withF d (d.fs.take n)) (withF d (d.fs.take n)).fs []=canD (SN d) (LO d) ((FO d d.fs).take n):=by
  rw [can_nil,←FO_take]
  rfl
theorem take_ok {d:Dsp}(h:DOk d)(n:Nat):DOk (withF d (d.fs.take n)):=
  withF_ok h (by have:=h.f6;rw [List.length_take];omega) fun f hf=>FOk.mem h.f (List.mem_of_mem_take hf)
def firO (d:Dsp):Option Nat:=firN (SN d) (LO d) (FO d d.fs) d.fs.length 0
def firE (d:Dsp):Int:=if firmE d=0 then(match firO d with|some _=>0|none=>7)else firmE d
def firV (d:Dsp):Int:=if firmE d=0 then(match firO d with|some r=>(r:Int)|none=>0)else 0
theorem firE_bad {d:Dsp}(h:¬firmE d=0):firE d=firmE d∧firV d=0:=by unfold firE firV;rw [if_neg h,if_neg h];exact⟨rfl,rfl⟩
theorem firE_none {d:Dsp}(h:firmE d=0)(h':firO d=none):firE d=7∧firV d=0:=by unfold firE firV;rw [if_pos h,if_pos h,h'];exact⟨rfl,rfl⟩
theorem firE_some {d:Dsp} {r:Nat}(h:firmE d=0)(h':firO d=some r):firE d=0∧firV d=(r:Int):=by unfold firE firV;rw [if_pos h,if_pos h,h'];exact⟨rfl,rfl⟩
def firR (d:Dsp)(k i:Nat):Option Nat:=firN (SN d) (LO d) (FO d d.fs) k i
def okI (d:Dsp)(i:Nat):Bool:=canD (SN d) (LO d) ((FO d d.fs).take (i+1))
theorem firR_stop {d:Dsp} {k i:Nat}(hk:0<k)(h:okI d i=false):firR d k i=some i:=by
  cases k with
  |zero=>omega
  |succ k=>unfold firR firN;rw [show canD (SN d) (LO d) ((FO d d.fs).take (i+1))=false from h];rfl
theorem firR_go {d:Dsp} {k i:Nat}(hk:0<k)(h:okI d i=true):firR d k i=firR d (k-1) (i+1):=by
  cases k with
  |zero=>omega
  |succ k=>unfold firR;rw [firN,show canD (SN d) (LO d) ((FO d d.fs).take (i+1))=true from h];rfl
end Go.Proofs.Ytkdggbfknlcdaaa

namespace Go.Proofs.Ytkdggbfknlcdaaa
open Go Go.Eng Go.Proofs Go.Eng.Dif Go.Eng.Few
set_option maxRecDepth 10000
theorem take_get (fs:List FaT) {n i:Nat}(h:i<n):(fs.take n).getD i f0T=fs.getD i f0T:=by simp [List.getD_eq_getElem?_getD,List.getElem?_take,h]
theorem take_len (fs:List FaT) {i:Nat}(h:i<fs.length):(fs.take (i+1)).length=i+1:=by rw [List.length_take];omega
theorem fact_take (fs:List FaT) {n i j:Nat}(hj:j=i)(h:i<n):Fit (.agg [(.int .i64 (.sym fun _=>(fs.getD j f0T).p)),(.int .i64 (.sym fun _=>(fs.getD j f0T).s)),(.int .i64 (.sym fun _=>(fs.getD j f0T).wl)),(.int .i64 (.sym fun _=>(fs.getD j f0T).wh)),(.int .i64 (.sym fun _=>(fs.getD j f0T).ml)),(.int .i64 (.sym fun _=>(fs.getD j f0T).mh))]) (.agg [(.int .i64 (.sym fun _=>((fs.take n).getD i f0T).p)),(.int .i64 (.sym fun _=>((fs.take n).getD i f0T).s)),(.int .i64 (.sym fun _=>((fs.take n).getD i f0T).wl)),(.int .i64 (.sym fun _=>((fs.take n).getD i f0T).wh)),(.int .i64 (.sym fun _=>((fs.take n).getD i f0T).ml)),(.int .i64 (.sym fun _=>((fs.take n).getD i f0T).mh))]):=by subst hj;rw [take_get fs h];exact Fit.refl _
theorem first27y (d:Dsp)(h:firmE d=0):FSpec Try.prog 27 [(dspS d)] [] (fun r _=>r=(.tup [(.int .i64 (.sym fun _=>firV d)),(.int .i64 (.sym fun _=>firE d))])):=by
  have hf:=h
  have hF:=(firmE_ok h).1
  have f6:=(faultD_iff.1 hF).f6
  have c54:=fun i:Nat=>(show FSpec Try.prog 54 [(.pp 0 [(.sl 1 (.sym fun _=>zi ((withF d (d.fs.take (i+1))).tw).length) (fun ix=>[.int .i64 (.sym fun _=>((withF d (d.fs.take (i+1))).tw).getD ix.den.toNat 0)])),(.sl 1 (.sym fun _=>zi ((withF d (d.fs.take (i+1))).tm).length) (fun ix=>[.int .i64 (.sym fun _=>((withF d (d.fs.take (i+1))).tm).getD ix.den.toNat 0)])),(.sl 1 (.sym fun _=>zi ((withF d (d.fs.take (i+1))).tv).length) (fun ix=>[(.sl 1 (.sym fun _=>zi (((withF d (d.fs.take (i+1))).tv).getD ix.den.toNat []).length) (fun jx=>[.int .i64 (.sym fun _=>(((withF d (d.fs.take (i+1))).tv).getD ix.den.toNat []).getD jx.den.toNat 0)]))])),(.int .i64 (.sym fun _=>(withF d (d.fs.take (i+1))).sn)),(.int .i64 (.sym fun _=>(withF d (d.fs.take (i+1))).pn)),(.sl 4 (.sym fun _=>zi ((withF d (d.fs.take (i+1))).ls).length) (fun ix=>[(.int .i64 (.sym fun _=>(((withF d (d.fs.take (i+1))).ls).getD ix.den.toNat l0T).a)),(.int .i64 (.sym fun _=>(((withF d (d.fs.take (i+1))).ls).getD ix.den.toNat l0T).b)),(.int .i64 (.sym fun _=>(((withF d (d.fs.take (i+1))).ls).getD ix.den.toNat l0T).lo)),(.int .i64 (.sym fun _=>(((withF d (d.fs.take (i+1))).ls).getD ix.den.toNat l0T).hi))])),(.sl 6 (.sym fun _=>zi ((d.fs.take (i+1))).length) (fun ix=>[(.int .i64 (.sym fun _=>(((d.fs.take (i+1))).getD ix.den.toNat f0T).p)),(.int .i64 (.sym fun _=>(((d.fs.take (i+1))).getD ix.den.toNat f0T).s)),(.int .i64 (.sym fun _=>(((d.fs.take (i+1))).getD ix.den.toNat f0T).wl)),(.int .i64 (.sym fun _=>(((d.fs.take (i+1))).getD ix.den.toNat f0T).wh)),(.int .i64 (.sym fun _=>(((d.fs.take (i+1))).getD ix.den.toNat f0T).ml)),(.int .i64 (.sym fun _=>(((d.fs.take (i+1))).getD ix.den.toNat f0T).mh))])),(.memo 89 33 false 6 (fun ks=>.agg [(.int .i64 (.sym fun _=>kLo (withF d (d.fs.take (i+1))) ks)),(.int .i64 (.sym fun _=>kHi (withF d (d.fs.take (i+1))) ks))]))]),(.sl 1 (.sym fun _=>zi (([]:List Int)).length) (fun ix=>[.int .i64 (.sym fun _=>(([]:List Int)).getD ix.den.toNat 0)]))] [] (fun r _=>r=(.tup [(.agg [(.arr 16 (fun ix=>(.int .i64 (.sym fun _=>(clo (matO (withF d (d.fs.take (i+1))) (withF d (d.fs.take (i+1))).fs [])) ix.den.toNat))))]),(.bool (.sym fun _=>okI d i))]))from(show canT (withF d (d.fs.take (i+1))) (withF d (d.fs.take (i+1))).fs []=okI d i from can_take d (i+1))▸apart54 (withF d (d.fs.take (i+1))) [] (take_ok (faultD_iff.1 hF) (i+1)) (by simp))
  have c59:=firm59o d h
  refine FSpec.is fun R hR=>qW (sc:=sc27) tyok mix Try.func27 rfl Try.call27 (by kernel_rfl) (by kernel_rfl) ?_
  generalize Try.prog=P at c54 c59⊢
  cbv
  repeat' (first
      |with_reducible refine And.intro ?_ ?_
      |(with_reducible intro hcd;(try simp only [zA,zB,zC,zD,zE,zF,zG,zH,zI,zJ,zK,zL,zM,zN,zO,zP]at hcd);try cbv)
      | (refine Or.inr ⟨true,?_⟩
         cbv
         refine qU ?_ (c59) (by cbv;(repeat' (first|exact qB|refine qD ?_ ?_|exact qE (by rfl)|exact qF (by rfl)|exact Fit.refl _|exact qA|refine qC ?_ rfl ?_))) (by cbv;(repeat' (first|exact qH|refine qI ?_ ?_|exact qK _|refine qJ ?_|exact qA|exact qE (by rfl)|exact qF (by rfl)|exact Fit.refl _|exact qG _|refine qC ?_ rfl ?_)))
         try cbv)
      |fail)
  all_goals first
    |trivial
    |skip
  refine⟨none,[],{i:Nat // i≤d.fs.length∧firO d=firR d (d.fs.length-i) i},fun x=>⟨[(1,.own 0 0),(4,.own 4 0),(19,(.int .i64 (.sym fun _=>zi d.fs.length))),(20,(.int .i64 (.sym fun _=>zi x.1)))],[(0,.cells [(.sl 1 (.sym fun _=>zi (d.tw).length) (fun ix=>[.int .i64 (.sym fun _=>(d.tw).getD ix.den.toNat 0)])),(.sl 1 (.sym fun _=>zi (d.tm).length) (fun ix=>[.int .i64 (.sym fun _=>(d.tm).getD ix.den.toNat 0)])),(.sl 1 (.sym fun _=>zi (d.tv).length) (fun ix=>[(.sl 1 (.sym fun _=>zi ((d.tv).getD ix.den.toNat []).length) (fun jx=>[.int .i64 (.sym fun _=>((d.tv).getD ix.den.toNat []).getD jx.den.toNat 0)]))])),(.int .i64 (.sym fun _=>d.sn)),(.int .i64 (.sym fun _=>d.pn)),(.sl 4 (.sym fun _=>zi (d.ls).length) (fun ix=>[(.int .i64 (.sym fun _=>((d.ls).getD ix.den.toNat l0T).a)),(.int .i64 (.sym fun _=>((d.ls).getD ix.den.toNat l0T).b)),(.int .i64 (.sym fun _=>((d.ls).getD ix.den.toNat l0T).lo)),(.int .i64 (.sym fun _=>((d.ls).getD ix.den.toNat l0T).hi))])),(.sl 6 (.sym fun _=>zi (d.fs).length) (fun ix=>[(.int .i64 (.sym fun _=>((d.fs).getD ix.den.toNat f0T).p)),(.int .i64 (.sym fun _=>((d.fs).getD ix.den.toNat f0T).s)),(.int .i64 (.sym fun _=>((d.fs).getD ix.den.toNat f0T).wl)),(.int .i64 (.sym fun _=>((d.fs).getD ix.den.toNat f0T).wh)),(.int .i64 (.sym fun _=>((d.fs).getD ix.den.toNat f0T).ml)),(.int .i64 (.sym fun _=>((d.fs).getD ix.den.toNat f0T).mh))]))] 41),(4,.cells [(.sl 1 (.sym fun _=>zi (d.tw).length) (fun ix=>[.int .i64 (.sym fun _=>(d.tw).getD ix.den.toNat 0)])),(.sl 1 (.sym fun _=>zi (d.tm).length) (fun ix=>[.int .i64 (.sym fun _=>(d.tm).getD ix.den.toNat 0)])),(.sl 1 (.sym fun _=>zi (d.tv).length) (fun ix=>[(.sl 1 (.sym fun _=>zi ((d.tv).getD ix.den.toNat []).length) (fun jx=>[.int .i64 (.sym fun _=>((d.tv).getD ix.den.toNat []).getD jx.den.toNat 0)]))])),(.int .i64 (.sym fun _=>d.sn)),(.int .i64 (.sym fun _=>d.pn)),(.sl 4 (.sym fun _=>zi (d.ls).length) (fun ix=>[(.int .i64 (.sym fun _=>((d.ls).getD ix.den.toNat l0T).a)),(.int .i64 (.sym fun _=>((d.ls).getD ix.den.toNat l0T).b)),(.int .i64 (.sym fun _=>((d.ls).getD ix.den.toNat l0T).lo)),(.int .i64 (.sym fun _=>((d.ls).getD ix.den.toNat l0T).hi))])),.any,(.memo 89 33 false 6 (fun ks=>.agg [(.int .i64 (.sym fun _=>kLo d ks)),(.int .i64 (.sym fun _=>kHi d ks))]))] 117)],100⟩,fun x=>d.fs.length-x.1,?_,?_⟩
  · refine⟨⟨0,by omega,rfl⟩,?_⟩
    cbv
    repeat' (first
      |with_reducible refine hold ?_ ?_
      |with_reducible refine And.intro ?_ ?_)
    all_goals first
      |trivial
      |exact qM (qE (by rfl))
      |exact qM (Fit.refl _)
      |exact qL (qK _)
      |(refine qL (qJ ?_);(repeat' (first|exact qA|exact qB|refine qC ?_ rfl ?_|refine qD ?_ ?_|exact qE (by rfl)|exact qF (by rfl)|exact Fit.refl _|exact qG _|(refine qE ?_;(try simp only [qV]at *);simp only [zQ,zA,zB,zC,zD,zE,zF,zG,zH,zI,zJ,zK,zL,zM,zN,zO,zP,zR,zS]at *;omega)));done)
      |skip
  · rintro ⟨i,hi,h3⟩
    cbv
    repeat' (first
        |with_reducible refine hold ?_ ?_
        |with_reducible refine And.intro ?_ ?_
        |(with_reducible intro hcd;(try simp only [zA,zB,zC,zD,zE,zF,zG,zH,zI,zJ,zK,zL,zM,zN,zO,zP]at hcd);try cbv)
        | ((first|(refine lendP_k ?_ (c54 i) ⟨⟨fun _=>rfl,trivial⟩,rfl,trivial⟩ ?hfit;case hfit=>(cbv;(refine qD (fit_pp (qC (Fit.refl _) rfl (qC (Fit.refl _) rfl (qC (Fit.refl _) rfl (qC (Fit.refl _) rfl (qC (Fit.refl _) rfl (qC (Fit.refl _) rfl (qC ?_ rfl (qC (Fit.refl _) rfl qA))))))))) (qD (qO rfl) qB);refine fit_sl ?_ (fun ix h0 h1=>fact_take _ ?_ ?_)<;>((try simp only [qV]at *);(try simp only [zQ,zA,zB,zC,zD,zE,zF,zG,zH,zI,zJ,zK,zL,zM,zN,zO,zP,zR,zS]at *);first|omega|(rw [take_len _ (by omega)];(try simp only [zi_den]);omega)));done))|(refine⟨none,?_⟩;refine lendP_k ?_ (c54 i) ⟨⟨fun _=>rfl,trivial⟩,rfl,trivial⟩ ?hfit;case hfit=>(cbv;(refine qD (fit_pp (qC (Fit.refl _) rfl (qC (Fit.refl _) rfl (qC (Fit.refl _) rfl (qC (Fit.refl _) rfl (qC (Fit.refl _) rfl (qC (Fit.refl _) rfl (qC ?_ rfl (qC (Fit.refl _) rfl qA))))))))) (qD (qO rfl) qB);refine fit_sl ?_ (fun ix h0 h1=>fact_take _ ?_ ?_)<;>((try simp only [qV]at *);(try simp only [zQ,zA,zB,zC,zD,zE,zF,zG,zH,zI,zJ,zK,zL,zM,zN,zO,zP,zR,zS]at *);first|omega|(rw [take_len _ (by omega)];(try simp only [zi_den]);omega)));done)))
           try cbv)
        |fail)
    all_goals first
      |((try simp only [qV]at *);(try simp only [zQ,zA,zB,zC,zD,zE,zF,zG,zH,zI,zJ,zK,zL,zM,zN,zO,zP,zR,zS]at *);first|(refine qN ?_;omega)|(simp only [Hold];omega))
      |(subst hR;(have h9:=firE_some hf (h3.trans (firR_stop (by((try simp only [qV]at *);(try simp only [zQ,zA,zB,zC,zD,zE,zF,zG,zH,zI,zJ,zK,zL,zM,zN,zO,zP,zR,zS]at *);omega)) hcd)));exact qD (qE h9.2.symm) (qD (qE h9.1.symm) qB))
      |(subst hR;(have hz:d.fs.length-i=0:=by((try simp only [qV]at *);(try simp only [zQ,zA,zB,zC,zD,zE,zF,zG,zH,zI,zJ,zK,zL,zM,zN,zO,zP,zR,zS]at *);omega));rw [hz]at h3;(have h9:=firE_none hf h3);exact qD (qE h9.2.symm) (qD (qE h9.1.symm) qB))
      |((try simp only [zQ,zA,zB,zC,zD,zE,zF,zG,zH,zI,zJ,zK,zL,zM,zN,zO,zP,zR,zS]at *);refine⟨⟨i+1,by((try simp only [qV]at *);(try simp only [zQ,zA,zB,zC,zD,zE,zF,zG,zH,zI,zJ,zK,zL,zM,zN,zO,zP,zR,zS]at *);omega),by rw [show d.fs.length-(i+1)=d.fs.length-i-1 by omega,←firR_go (by((try simp only [qV]at *);(try simp only [zQ,zA,zB,zC,zD,zE,zF,zG,zH,zI,zJ,zK,zL,zM,zN,zO,zP,zR,zS]at *);omega)) hcd];exact h3⟩,by simp only [];omega,?_⟩;cbv;(repeat' (first|with_reducible refine hold ?_ ?_|with_reducible refine And.intro ?_ ?_));(all_goals first|trivial|exact qM (qE (by rfl))|exact qM (qF (by rfl))|exact qM (Fit.refl _)|exact qL (qK _)|(refine qM (qE ?_);(try simp only [qV]at *);simp only [zQ,zA,zB,zC,zD,zE,zF,zG,zH,zI,zJ,zK,zL,zM,zN,zO,zP,zR,zS]at *;omega)|(refine qL (qJ ?_);(repeat' (first|exact qA|exact qB|refine qC ?_ rfl ?_|refine qD ?_ ?_|exact qE (by rfl)|exact qF (by rfl)|exact Fit.refl _|exact qG _|(refine qE ?_;(try simp only [qV]at *);simp only [zQ,zA,zB,zC,zD,zE,zF,zG,zH,zI,zJ,zK,zL,zM,zN,zO,zP,zR,zS]at *;omega)));done)|skip))
      |skip
theorem first27n (d:Dsp)(h:¬firmE d=0):FSpec Try.prog 27 [(dspS d)] [] (fun r _=>r=(.tup [(.int .i64 (.sym fun _=>firV d)),(.int .i64 (.sym fun _=>firE d))])):=by
  have c59:=firm59n d h
  refine FSpec.is fun R hR=>qW (sc:=sc27) tyok mix Try.func27 rfl Try.call27 (by kernel_rfl) (by kernel_rfl) ?_
  generalize Try.prog=P at c59⊢
  cbv
  repeat' (first
      |with_reducible refine And.intro ?_ ?_
      |(with_reducible intro hcd;(try simp only [zA,zB,zC,zD,zE,zF,zG,zH,zI,zJ,zK,zL,zM,zN,zO,zP]at hcd);try cbv)
      | (refine qP ?_ (c59) ?hfit
         case hfit=>((repeat' (first|exact qB|refine qD ?_ ?_|exact qE (by rfl)|exact qF (by rfl)|exact Fit.refl _|exact qA|refine qC ?_ rfl ?_));done)
         try cbv)
      |fail)
  all_goals first
    |trivial
    |(subst hR;((have h9:=firE_bad h);exact qD (qE h9.2.symm) (qD (qE h9.1.symm) qB));done)
    |skip
theorem first27 (d:Dsp):FSpec Try.prog 27 [(dspS d)] [] (fun r _=>r=(.tup [(.int .i64 (.sym fun _=>firV d)),(.int .i64 (.sym fun _=>firE d))])):=by
  by_cases h:firmE d=0
  · exact first27y d h
  · exact first27n d h
end Go.Proofs.Ytkdggbfknlcdaaa

namespace Go.Proofs.Ytkdggbfknlcdaaa
open Go Go.Eng Go.Proofs Go.Eng.Dif Go.Eng.Few
set_option maxRecDepth 10000
theorem facts88 (d:Dsp):FSpec Try.prog 88 [(wpS d)] [] (fun r _=>r=(.int .i64 (.sym fun _=>zi d.fs.length))):=by
  refine FSpec.is fun R hR=>qW (sc:=sc88) tyok mix Try.func88 rfl Try.call88 (by kernel_rfl) (by kernel_rfl) ?_
  generalize Try.prog=P
  cbv
  repeat' (first
      |fail)
  all_goals first
    |(subst hR;(repeat' (first|exact qA|exact qB|refine qC ?_ rfl ?_|refine qD ?_ ?_|exact qE (by rfl)|exact qF (by rfl)|exact Fit.refl _|exact qG _|(refine qE ?_;(try simp only [qV]at *);simp only [zQ,zA,zB,zC,zD,zE,zF,zG,zH,zI,zJ,zK,zL,zM,zN,zO,zP,zR,zS]at *;omega)));done)
    |skip
theorem these89 (d:Dsp)(o:List Int):FSpec Try.prog 89 [(wpS d),(.sl 1 (.sym fun _=>zi (o).length) (fun ix=>[.int .i64 (.sym fun _=>(o).getD ix.den.toNat 0)]))] [] (fun r _=>r=(.sl 1 (.sym fun _=>zi (o).length) (fun ix=>[.int .i64 (.sym fun _=>(o).getD ix.den.toNat 0)]))):=by
  refine FSpec.is fun R hR=>qW (sc:=sc89) tyok mix Try.func89 rfl Try.call89 (by kernel_rfl) (by kernel_rfl) ?_
  generalize Try.prog=P
  cbv
  repeat' (first
      |fail)
  all_goals first
    |(subst hR;(repeat' (first|exact qA|exact qB|refine qC ?_ rfl ?_|refine qD ?_ ?_|exact qE (by rfl)|exact qF (by rfl)|exact Fit.refl _|exact qG _|(refine qE ?_;(try simp only [qV]at *);simp only [zQ,zA,zB,zC,zD,zE,zF,zG,zH,zI,zJ,zK,zL,zM,zN,zO,zP,zR,zS]at *;omega)));done)
    |skip
theorem parties90 (d:Dsp):FSpec Try.prog 90 [(wpS d)] [] (fun r _=>r=(.int .i64 (.sym fun _=>d.pn))):=by
  refine FSpec.is fun R hR=>qW (sc:=sc90) tyok mix Try.func90 rfl Try.call90 (by kernel_rfl) (by kernel_rfl) ?_
  generalize Try.prog=P
  cbv
  repeat' (first
      |fail)
  all_goals first
    |(subst hR;(repeat' (first|exact qA|exact qB|refine qC ?_ rfl ?_|refine qD ?_ ?_|exact qE (by rfl)|exact qF (by rfl)|exact Fit.refl _|exact qG _|(refine qE ?_;(try simp only [qV]at *);simp only [zQ,zA,zB,zC,zD,zE,zF,zG,zH,zI,zJ,zK,zL,zM,zN,zO,zP,zR,zS]at *;omega)));done)
    |skip
theorem byfact56 :FSpec Try.prog 56 [] [] (fun r _=>r=(.agg [.clo 88 [] [],.clo 89 [] []])):=by
  refine FSpec.is fun R hR=>qW (sc:=sc56) tyok mix Try.func56 rfl Try.call56 (by kernel_rfl) (by kernel_rfl) ?_
  generalize Try.prog=P
  cbv
  repeat' (first
      |fail)
  all_goals first
    |(subst hR;(repeat' (first|exact qA|exact qB|refine qC ?_ rfl ?_|refine qD ?_ ?_|exact qE (by rfl)|exact qF (by rfl)|exact Fit.refl _|exact qG _|(refine qE ?_;(try simp only [qV]at *);simp only [zQ,zA,zB,zC,zD,zE,zF,zG,zH,zI,zJ,zK,zL,zM,zN,zO,zP,zR,zS]at *;omega)));done)
    |skip
theorem byparty58 :FSpec Try.prog 58 [] [] (fun r _=>r=(.agg [.clo 90 [] [],.clo 91 [] []])):=by
  refine FSpec.is fun R hR=>qW (sc:=sc58) tyok mix Try.func58 rfl Try.call58 (by kernel_rfl) (by kernel_rfl) ?_
  generalize Try.prog=P
  cbv
  repeat' (first
      |fail)
  all_goals first
    |(subst hR;(repeat' (first|exact qA|exact qB|refine qC ?_ rfl ?_|refine qD ?_ ?_|exact qE (by rfl)|exact qF (by rfl)|exact Fit.refl _|exact qG _|(refine qE ?_;(try simp only [qV]at *);simp only [zQ,zA,zB,zC,zD,zE,zF,zG,zH,zI,zJ,zK,zL,zM,zN,zO,zP,zR,zS]at *;omega)));done)
    |skip
def thN (d:Dsp)(o:List Int)(n:Nat):List Int:=selL (fun i=>inL o (d.fs.getD i f0T).p) n
theorem thN_y {d:Dsp} {o:List Int} {i:Nat}(h:inL o (d.fs.getD i f0T).p=true):thN d o (i+1)=thN d o i++[(i:Int)]:=by
  unfold thN
  simp only [selL,h,if_true]
theorem thN_n {d:Dsp} {o:List Int} {i:Nat}(h:inL o (d.fs.getD i f0T).p=false):thN d o (i+1)=thN d o i:=by
  unfold thN
  simp only [selL,h,Bool.false_eq_true,if_false]
theorem thN_len (d:Dsp)(o:List Int):∀n,(thN d o n).length≤n:=by
  intro n
  induction n with
  |zero=>exact Nat.le_refl _
  | succ n ih=>
    cases h:inL o (d.fs.getD n f0T).p with
    |true=>rw [thN_y h,List.length_append];simp only [List.length_cons,List.length_nil];omega
    |false=>rw [thN_n h];omega
theorem theirs91 (d:Dsp)(o:List Int)(hf:d.fs.length≤1000)(ho:o.length≤1000):FSpec Try.prog 91 [(wpS d),(.sl 1 (.sym fun _=>zi (o).length) (fun ix=>[.int .i64 (.sym fun _=>(o).getD ix.den.toNat 0)]))] [] (fun r _=>r=(.sl 1 (.sym fun _=>zi ((thN d o d.fs.length)).length) (fun ix=>[.int .i64 (.sym fun _=>((thN d o d.fs.length)).getD ix.den.toNat 0)]))):=by
  have c63:=fun (i:Nat)=>contains63 o (d.fs.getD i f0T).p ho
  refine FSpec.is fun R hR=>qW (sc:=sc91) tyok mix Try.func91 rfl Try.call91 (by kernel_rfl) (by kernel_rfl) ?_
  generalize Try.prog=P at c63⊢
  cbv
  repeat' (first
      |fail)
  all_goals first
    |skip
  refine⟨none,[⟨.tmp 4,3,1⟩],{i:Nat // i≤d.fs.length},fun x=>⟨[(1,(.sl 1 (.sym fun _=>zi (o).length) (fun ix=>[.int .i64 (.sym fun _=>(o).getD ix.den.toNat 0)]))),(4,.row 8),(11,(.sl 6 (.sym fun _=>zi (d.fs).length) (fun ix=>[(.int .i64 (.sym fun _=>((d.fs).getD ix.den.toNat f0T).p)),(.int .i64 (.sym fun _=>((d.fs).getD ix.den.toNat f0T).s)),(.int .i64 (.sym fun _=>((d.fs).getD ix.den.toNat f0T).wl)),(.int .i64 (.sym fun _=>((d.fs).getD ix.den.toNat f0T).wh)),(.int .i64 (.sym fun _=>((d.fs).getD ix.den.toNat f0T).ml)),(.int .i64 (.sym fun _=>((d.fs).getD ix.den.toNat f0T).mh))]))),(12,(.int .i64 (.sym fun _=>zi d.fs.length))),(13,(.int .i64 (.sym fun _=>zi x.1)))],[(8,.row 3 1 (.sym fun _=>zi ((thN d o (x.1))).length) (fun ix=>[.int .i64 (.sym fun _=>((thN d o (x.1))).getD ix.den.toNat 0)]))],90⟩,fun x=>d.fs.length-x.1,?_,?_⟩
  · refine⟨⟨0,by omega⟩,?_⟩
    cbv
    repeat' (first
      |with_reducible refine hold ?_ ?_
      |with_reducible refine And.intro ?_ ?_)
    all_goals first
      |trivial
      |exact qM (qE (by rfl))
      |exact qM (Fit.refl _)
      |(refine qL (ble_row ?_ ?_);(first|rfl|((try simp only [qV]at *);(try simp only [zQ,zA,zB,zC,zD,zE,zF,zG,zH,zI,zJ,zK,zL,zM,zN,zO,zP,zR,zS]at *);omega));intro ix h0 h1;exfalso;(try simp only [qV]at *);(try simp only [zQ,zA,zB,zC,zD,zE,zF,zG,zH,zI,zJ,zK,zL,zM,zN,zO,zP,zR,zS]at *);omega)
      |skip
  · rintro ⟨i,hi⟩
    cbv
    have hlen:=thN_len d o i
    have hY:inL o (d.fs.getD i f0T).p=true→thN d o (i+1)=thN d o i++[zi i]:=thN_y
    have hZ:inL o (d.fs.getD i f0T).p=false→thN d o (i+1)=thN d o i:=thN_n
    obtain⟨M,hM⟩:∃M,M=thN d o i:=⟨_,rfl⟩
    rw [←hM]at hlen hY hZ⊢
    cbv
    repeat' (first
        |with_reducible refine hold ?_ ?_
        |with_reducible refine And.intro ?_ ?_
        |(with_reducible intro hcd;(try simp only [zA,zB,zC,zD,zE,zF,zG,zH,zI,zJ,zK,zL,zM,zN,zO,zP]at hcd);try cbv)
        | (refine qP ?_ (c63 i) ?hfit
           case hfit=>((repeat' (first|exact qB|refine qD ?_ ?_|exact qE (by rfl)|exact qF (by rfl)|exact Fit.refl _|exact qA|refine qC ?_ rfl ?_));done)
           try cbv)
        | (obtain⟨L2,eL2⟩:∃y:List Int,y=M++[zi i]:=⟨_,rfl⟩
           refine⟨intsE L2,?_⟩
           cbv
           refine hold (hold_rowlist (L:=M) eL2 (by(first|rfl|((try simp only [qV]at *);(try simp only [zQ,zA,zB,zC,zD,zE,zF,zG,zH,zI,zJ,zK,zL,zM,zN,zO,zP,zR,zS]at *);done)|((try simp only [qV]at *);(try simp only [zQ,zA,zB,zC,zD,zE,zF,zG,zH,zI,zJ,zK,zL,zM,zN,zO,zP,zR,zS]at *);omega))) (by rfl) (fun ix=>Fit.refl _) (fun ix h=>qC (qE (by rfl)) rfl qA) (by(try simp only [qV]at *);(try simp only [zQ,zA,zB,zC,zD,zE,zF,zG,zH,zI,zJ,zK,zL,zM,zN,zO,zP,zR,zS]at *);omega)) (Or.inl ?_)
           try cbv)
        |fail)
    all_goals first
      |((try simp only [qV]at *);(try simp only [zQ,zA,zB,zC,zD,zE,zF,zG,zH,zI,zJ,zK,zL,zM,zN,zO,zP,zR,zS]at *);first|(refine qN ?_;omega)|(simp only [Hold];omega))
      |((have hie:i=d.fs.length:=(by((try simp only [qV]at *);(try simp only [zQ,zA,zB,zC,zD,zE,zF,zG,zH,zI,zJ,zK,zL,zM,zN,zO,zP,zR,zS]at *);omega)));subst hR;rw [←hie,←hM];exact Fit.refl _)
      |((try simp only [zQ,zA,zB,zC,zD,zE,zF,zG,zH,zI,zJ,zK,zL,zM,zN,zO,zP,zR,zS]at *);(have hx:thN d o (i+1)=L2:=(hY hcd).trans eL2.symm);refine⟨⟨i+1,by omega⟩,by simp only [];omega,?_⟩;cbv;(repeat' (first|with_reducible refine hold ?_ ?_|with_reducible refine And.intro ?_ ?_));(all_goals first|trivial|exact qM (qE (by rfl))|exact qM (qF (by rfl))|exact qM (Fit.refl _)|exact qL (qK _)|(refine qM (qE ?_);(try simp only [qV]at *);simp only [zQ,zA,zB,zC,zD,zE,zF,zG,zH,zI,zJ,zK,zL,zM,zN,zO,zP,zR,zS]at *;omega)|(simp only [hx];first|exact qL (qK _)|(refine qL (ble_row ?_ ?_)<;>first|rfl|(rw [eL2,List.length_append];rfl)|((try simp only [qV]at *);(try simp only [zQ,zA,zB,zC,zD,zE,zF,zG,zH,zI,zJ,zK,zL,zM,zN,zO,zP,zR,zS]at *);(try simp only [eL2,List.length_append,List.length_cons,List.length_nil]at *);omega)|(intro ix h0 h1;exact Fit.refl _)))|skip))
      |((try simp only [zQ,zA,zB,zC,zD,zE,zF,zG,zH,zI,zJ,zK,zL,zM,zN,zO,zP,zR,zS]at *);(have hx:thN d o (i+1)=M:=hZ hcd);refine⟨⟨i+1,by omega⟩,by simp only [];omega,?_⟩;cbv;(repeat' (first|with_reducible refine hold ?_ ?_|with_reducible refine And.intro ?_ ?_));(all_goals first|trivial|exact qM (qE (by rfl))|exact qM (qF (by rfl))|exact qM (Fit.refl _)|exact qL (qK _)|(refine qM (qE ?_);(try simp only [qV]at *);simp only [zQ,zA,zB,zC,zD,zE,zF,zG,zH,zI,zJ,zK,zL,zM,zN,zO,zP,zR,zS]at *;omega)|(simp only [hx];first|exact qL (qK _)|(refine qL (ble_row ?_ ?_)<;>first|rfl|(rw [eL2,List.length_append];rfl)|((try simp only [qV]at *);(try simp only [zQ,zA,zB,zC,zD,zE,zF,zG,zH,zI,zJ,zK,zL,zM,zN,zO,zP,zR,zS]at *);(try simp only [eL2,List.length_append,List.length_cons,List.length_nil]at *);omega)|(intro ix h0 h1;exact Fit.refl _)))|skip))
      |skip
end Go.Proofs.Ytkdggbfknlcdaaa

namespace Go.Proofs.Ytkdggbfknlcdaaa
open Go Go.Eng Go.Eng.Dif Go.Eng.Few
def lstE (F:List (List Int)):IX→List SV:=fun ix=>[.sl 1 (.sym fun _=>zi (F.getD ix.den.toNat []).length) (fun jx=>[.int .i64 (.sym fun _=>(F.getD ix.den.toNat []).getD jx.den.toNat 0)])]
def intS (o:List Int):SV:=.sl 1 (.sym fun _=>zi o.length) (fun jx=>[.int .i64 (.sym fun _=>o.getD jx.den.toNat 0)])
theorem lstE_at {F:List (List Int)} {ix:IX} {o:List Int}(h:F.getD ix.den.toNat []=o):lstE F ix=[intS o]:=by
  subst h
  rfl
theorem hold_rowlists {n m b:Int} {F F2:List (List Int)} {o:List Int} {e new:IX→List SV}(h2:F2=F++[o])(hn:n=(F.length:Int))(hm:m=1)(he:∀ix,Fit (.agg (e ix)) (.agg (lstE F ix)))(hx:∀ix:IX,Fit (.agg (new ix)) (.agg [intS o]))(hb:(n+1)*b≤140737488355328):
    Hold (RowApp n e m new (lstE F2)∧0≤n∧0≤m∧(n+m)*b≤140737488355328):=by
  subst hm
  subst h2
  refine hold_rowapp (fun ix jx h0 h1 h2=>(he ix).trans ?_) (fun ix jx h0 h1 h2=>(hx ix).trans ?_) ⟨by omega,by omega,hb⟩
  · rw [lstE_at (F:=F) rfl,lstE_at (F:=F++[o]) (o:=F.getD ix.den.toNat []) (by
      rw [h2]
      simp only [List.getD_eq_getElem?_getD]
      rw [List.getElem?_append_left (by omega)])]
    exact Fit.refl _
  · rw [lstE_at (F:=F++[o]) (o:=o) (by
      rw [show jx.den.toNat=F.length by omega]
      simp [List.getD_eq_getElem?_getD])]
    exact Fit.refl _
def colN (n:Nat)(ok:List Int→Bool)(m:Nat)(o:List Int)(i:Nat):Nat→List (List Int)
  |0=>[]
  |k+1=>colN n ok m o i k++allC n ok m (o++[((i+k:Nat):Int)]) (i+k+1)
theorem allC_col {n:Nat} {ok:List Int→Bool} {m:Nat} {o:List Int} {i:Nat}:allC n ok (m+1) o i=colN n ok m o i (n-m-i):=by
  have h:∀k,((List.range k).flatMap fun j=>allC n ok m (o++[((i+j:Nat):Int)]) (i+j+1))=colN n ok m o i k:=by
    intro k
    induction k with
    |zero=>rfl
    |succ k ih=>rw [List.range_succ,List.flatMap_append,ih];simp [colN]
  simp only [allC]
  exact h _
theorem col_le {n:Nat} {ok:List Int→Bool} {m:Nat} {o:List Int} {i:Nat}:∀{k k':Nat},k≤k'→(colN n ok m o i k).length≤(colN n ok m o i k').length:=by
  intro k k'
  induction k' with
  |zero=>intro h;rw [show k=0 by omega];exact Nat.le_refl _
  | succ k' ih=>
    intro h
    rcases Nat.lt_or_ge k' k with q|q
    · rw [show k=k'+1 by omega];exact Nat.le_refl _
    · have:=ih q
      simp only [colN,List.length_append];omega
theorem allC_len {n:Nat} {ok:List Int→Bool}:∀{m:Nat} {o:List Int} {i:Nat},(allC n ok m o i).length≤n^m:=by
  intro m
  induction m with
  | zero=>
    intro o i
    simp only [allC]
    split<;>simp
  | succ m ih=>
    intro o i
    rw [allC_col]
    have h:∀k,(colN n ok m o i k).length≤k*n^m:=by
      intro k
      induction k with
      |zero=>simp [colN]
      | succ k ik=>
        have:=ih (o:=o++[((i+k:Nat):Int)]) (i:=i+k+1)
        simp only [colN,List.length_append,Nat.add_mul,Nat.one_mul];omega
    refine Nat.le_trans (h _) ?_
    rw [Nat.pow_succ,Nat.mul_comm]
    exact Nat.mul_le_mul_left _ (by omega)
theorem col_go {F G:List (List Int)} {n:Nat} {ok:List Int→Bool} {m:Nat} {o L:List Int} {i k:Nat}(hL:L=o++[((i+k:Nat):Int)])(hG:G=F++colN n ok m o i k):F++colN n ok m o i (k+1)=G++allC n ok m L (i+k+1):=by
  subst hL
  subst hG
  rw [colN,List.append_assoc]
def okFa (d:Dsp)(o:List Int):Bool:=canT d d.fs o
def okPa (d:Dsp)(o:List Int):Bool:=canT d d.fs (thN d o d.fs.length)
end Go.Proofs.Ytkdggbfknlcdaaa

namespace Go.Proofs.Ytkdggbfknlcdaaa
open Go Go.Eng Go.Proofs Go.Eng.Dif Go.Eng.Few
set_option maxRecDepth 10000
theorem leafFY (d:Dsp)(F:List (List Int))(o:List Int)(i:Int)(hd:DOk d)(ho:o.length≤100)(hF:F.length≤1000000)(hok:(okFa d) o=true):FSpec Try.prog 93 [(.sl 1 (.sym fun _=>zi (o).length) (fun ix=>[.int .i64 (.sym fun _=>(o).getD ix.den.toNat 0)])),(.int .i64 (.sym fun _=>i)),(.int .i64 (.sym fun _=>0)),.own 0 0,.own 1 0,.own 2 0,.own 3 0] [.cells [(wpS d)] 91,.cells [.clo 88 [] [],.clo 89 [] []] 111,.cells [.row 4] 23,.cells [.clo 93 [] [.own 0 0,.own 1 0,.own 2 0,.own 3 0]] 139,.row 22 1 (.sym fun _=>zi (F).length) (fun ix=>[.sl 1 (.sym fun _=>zi ((F).getD ix.den.toNat []).length) (fun jx=>[.int .i64 (.sym fun _=>((F).getD ix.den.toNat []).getD jx.den.toNat 0)])])] (fun r bs=>r = .tup []∧bs=[.cells [(wpS d)] 91,.cells [.clo 88 [] [],.clo 89 [] []] 111,.cells [.row 4] 23,.cells [.clo 93 [] [.own 0 0,.own 1 0,.own 2 0,.own 3 0]] 139,.row 22 1 (.sym fun _=>zi ((F++[o])).length) (fun ix=>[.sl 1 (.sym fun _=>zi (((F++[o])).getD ix.den.toNat []).length) (fun jx=>[.int .i64 (.sym fun _=>(((F++[o])).getD ix.den.toNat []).getD jx.den.toNat 0)])])]):=by
  have c89:=these89 d o
  have hl:o.length≤1000:=by omega
  have c54:=apart54 d o hd hl
  rw [show canT d d.fs o=true from hok]at c54
  refine FSpec.isB rfl fun R B hR hB=>qW (sc:=sc93) tyok mix Try.func93 rfl Try.call93 (by kernel_rfl) (by kernel_rfl) ?_
  generalize Try.prog=P at c89 c54⊢
  cbv
  repeat' (first
      |with_reducible refine And.intro ?_ ?_
      |(with_reducible intro hcd;(try simp only [zA,zB,zC,zD,zE,zF,zG,zH,zI,zJ,zK,zL,zM,zN,zO,zP]at hcd);try cbv)
      | (refine qP ?_ (c89) ?hfit
         case hfit=>((repeat' (first|exact qB|refine qD ?_ ?_|exact qE (by rfl)|exact qF (by rfl)|exact Fit.refl _|exact qA|refine qC ?_ rfl ?_));done)
         try cbv)
      | (refine qP ?_ (c54) ?hfit
         case hfit=>((repeat' (first|exact qB|refine qD ?_ ?_|exact qE (by rfl)|exact qF (by rfl)|exact Fit.refl _|exact qA|refine qC ?_ rfl ?_));done)
         try cbv)
      | (obtain⟨F2,eF2⟩:∃y:List (List Int),y=F++[o]:=⟨_,rfl⟩
         refine⟨lstE F2,?_⟩
         cbv
         refine hold (hold_rowlists (F:=F) (o:=o) eF2 (by first|rfl|((try simp only [qV]at *);(try simp only [zQ,zA,zB,zC,zD,zE,zF,zG,zH,zI,zJ,zK,zL,zM,zN,zO,zP,zR,zS]at *);omega)) rfl (fun ix=>Fit.refl _) (fun ix=>Fit.refl _) (by(try simp only [qV]at *);(try simp only [zQ,zA,zB,zC,zD,zE,zF,zG,zH,zI,zJ,zK,zL,zM,zN,zO,zP,zR,zS]at *);omega)) (Or.inl ?_)
         try cbv)
      |fail)
  all_goals first
    |trivial
    |(subst hR;exact Fit.refl _;done)
    |(rw [←eF2]at hB;subst hB;refine qI (qK _) (qI (qK _) (qI (qK _) (qI (qK _) (qI (ble_row ?_ (fun ix h0 h1=>Fit.refl _)) qH))));(try simp only [qV]at *);(try simp only [zQ,zA,zB,zC,zD,zE,zF,zG,zH,zI,zJ,zK,zL,zM,zN,zO,zP,zR,zS]at *);simp only [eF2,List.length_append,List.length_cons,List.length_nil];omega)
    |skip
theorem leafFN (d:Dsp)(F:List (List Int))(o:List Int)(i:Int)(hd:DOk d)(ho:o.length≤100)(hF:F.length≤1000000)(hok:(okFa d) o=false):FSpec Try.prog 93 [(.sl 1 (.sym fun _=>zi (o).length) (fun ix=>[.int .i64 (.sym fun _=>(o).getD ix.den.toNat 0)])),(.int .i64 (.sym fun _=>i)),(.int .i64 (.sym fun _=>0)),.own 0 0,.own 1 0,.own 2 0,.own 3 0] [.cells [(wpS d)] 91,.cells [.clo 88 [] [],.clo 89 [] []] 111,.cells [.row 4] 23,.cells [.clo 93 [] [.own 0 0,.own 1 0,.own 2 0,.own 3 0]] 139,.row 22 1 (.sym fun _=>zi (F).length) (fun ix=>[.sl 1 (.sym fun _=>zi ((F).getD ix.den.toNat []).length) (fun jx=>[.int .i64 (.sym fun _=>((F).getD ix.den.toNat []).getD jx.den.toNat 0)])])] (fun r bs=>r = .tup []∧bs=[.cells [(wpS d)] 91,.cells [.clo 88 [] [],.clo 89 [] []] 111,.cells [.row 4] 23,.cells [.clo 93 [] [.own 0 0,.own 1 0,.own 2 0,.own 3 0]] 139,.row 22 1 (.sym fun _=>zi (F).length) (fun ix=>[.sl 1 (.sym fun _=>zi ((F).getD ix.den.toNat []).length) (fun jx=>[.int .i64 (.sym fun _=>((F).getD ix.den.toNat []).getD jx.den.toNat 0)])])]):=by
  have c89:=these89 d o
  have hl:o.length≤1000:=by omega
  have c54:=apart54 d o hd hl
  rw [show canT d d.fs o=false from hok]at c54
  refine FSpec.isB rfl fun R B hR hB=>qW (sc:=sc93) tyok mix Try.func93 rfl Try.call93 (by kernel_rfl) (by kernel_rfl) ?_
  generalize Try.prog=P at c89 c54⊢
  cbv
  repeat' (first
      |with_reducible refine And.intro ?_ ?_
      |(with_reducible intro hcd;(try simp only [zA,zB,zC,zD,zE,zF,zG,zH,zI,zJ,zK,zL,zM,zN,zO,zP]at hcd);try cbv)
      | (refine qP ?_ (c89) ?hfit
         case hfit=>((repeat' (first|exact qB|refine qD ?_ ?_|exact qE (by rfl)|exact qF (by rfl)|exact Fit.refl _|exact qA|refine qC ?_ rfl ?_));done)
         try cbv)
      | (refine qP ?_ (c54) ?hfit
         case hfit=>((repeat' (first|exact qB|refine qD ?_ ?_|exact qE (by rfl)|exact qF (by rfl)|exact Fit.refl _|exact qA|refine qC ?_ rfl ?_));done)
         try cbv)
      | (obtain⟨F2,eF2⟩:∃y:List (List Int),y=F++[o]:=⟨_,rfl⟩
         refine⟨lstE F2,?_⟩
         cbv
         refine hold (hold_rowlists (F:=F) (o:=o) eF2 (by first|rfl|((try simp only [qV]at *);(try simp only [zQ,zA,zB,zC,zD,zE,zF,zG,zH,zI,zJ,zK,zL,zM,zN,zO,zP,zR,zS]at *);omega)) rfl (fun ix=>Fit.refl _) (fun ix=>Fit.refl _) (by(try simp only [qV]at *);(try simp only [zQ,zA,zB,zC,zD,zE,zF,zG,zH,zI,zJ,zK,zL,zM,zN,zO,zP,zR,zS]at *);omega)) (Or.inl ?_)
         try cbv)
      |fail)
  all_goals first
    |trivial
    |(subst hR;exact Fit.refl _;done)
    |(subst hB;(repeat' (first|exact qH|refine qI ?_ ?_|exact qK _|refine qJ ?_|exact qA|exact qE (by rfl)|exact qF (by rfl)|exact Fit.refl _|exact qG _|refine qC ?_ rfl ?_));done)
    |skip
theorem leafPY (d:Dsp)(F:List (List Int))(o:List Int)(i:Int)(hd:DOk d)(ho:o.length≤100)(hF:F.length≤1000000)(hok:(okPa d) o=true):FSpec Try.prog 93 [(.sl 1 (.sym fun _=>zi (o).length) (fun ix=>[.int .i64 (.sym fun _=>(o).getD ix.den.toNat 0)])),(.int .i64 (.sym fun _=>i)),(.int .i64 (.sym fun _=>0)),.own 0 0,.own 1 0,.own 2 0,.own 3 0] [.cells [(wpS d)] 91,.cells [.clo 90 [] [],.clo 91 [] []] 111,.cells [.row 4] 23,.cells [.clo 93 [] [.own 0 0,.own 1 0,.own 2 0,.own 3 0]] 139,.row 22 1 (.sym fun _=>zi (F).length) (fun ix=>[.sl 1 (.sym fun _=>zi ((F).getD ix.den.toNat []).length) (fun jx=>[.int .i64 (.sym fun _=>((F).getD ix.den.toNat []).getD jx.den.toNat 0)])])] (fun r bs=>r = .tup []∧bs=[.cells [(wpS d)] 91,.cells [.clo 90 [] [],.clo 91 [] []] 111,.cells [.row 4] 23,.cells [.clo 93 [] [.own 0 0,.own 1 0,.own 2 0,.own 3 0]] 139,.row 22 1 (.sym fun _=>zi ((F++[o])).length) (fun ix=>[.sl 1 (.sym fun _=>zi (((F++[o])).getD ix.den.toNat []).length) (fun jx=>[.int .i64 (.sym fun _=>(((F++[o])).getD ix.den.toNat []).getD jx.den.toNat 0)])])]):=by
  have c91:=theirs91 d o (by have:=hd.f6;omega) (by omega)
  have hl:(thN d o d.fs.length).length≤1000:=by have h1:=thN_len d o d.fs.length;have h2:=hd.f6;omega
  have c54:=apart54 d (thN d o d.fs.length) hd hl
  rw [show canT d d.fs (thN d o d.fs.length)=true from hok]at c54
  refine FSpec.isB rfl fun R B hR hB=>qW (sc:=sc93) tyok mix Try.func93 rfl Try.call93 (by kernel_rfl) (by kernel_rfl) ?_
  generalize Try.prog=P at c91 c54⊢
  cbv
  repeat' (first
      |with_reducible refine And.intro ?_ ?_
      |(with_reducible intro hcd;(try simp only [zA,zB,zC,zD,zE,zF,zG,zH,zI,zJ,zK,zL,zM,zN,zO,zP]at hcd);try cbv)
      | (refine qP ?_ (c91) ?hfit
         case hfit=>((repeat' (first|exact qB|refine qD ?_ ?_|exact qE (by rfl)|exact qF (by rfl)|exact Fit.refl _|exact qA|refine qC ?_ rfl ?_));done)
         try cbv)
      | (refine qP ?_ (c54) ?hfit
         case hfit=>((repeat' (first|exact qB|refine qD ?_ ?_|exact qE (by rfl)|exact qF (by rfl)|exact Fit.refl _|exact qA|refine qC ?_ rfl ?_));done)
         try cbv)
      | (obtain⟨F2,eF2⟩:∃y:List (List Int),y=F++[o]:=⟨_,rfl⟩
         refine⟨lstE F2,?_⟩
         cbv
         refine hold (hold_rowlists (F:=F) (o:=o) eF2 (by first|rfl|((try simp only [qV]at *);(try simp only [zQ,zA,zB,zC,zD,zE,zF,zG,zH,zI,zJ,zK,zL,zM,zN,zO,zP,zR,zS]at *);omega)) rfl (fun ix=>Fit.refl _) (fun ix=>Fit.refl _) (by(try simp only [qV]at *);(try simp only [zQ,zA,zB,zC,zD,zE,zF,zG,zH,zI,zJ,zK,zL,zM,zN,zO,zP,zR,zS]at *);omega)) (Or.inl ?_)
         try cbv)
      |fail)
  all_goals first
    |trivial
    |(subst hR;exact Fit.refl _;done)
    |(rw [←eF2]at hB;subst hB;refine qI (qK _) (qI (qK _) (qI (qK _) (qI (qK _) (qI (ble_row ?_ (fun ix h0 h1=>Fit.refl _)) qH))));(try simp only [qV]at *);(try simp only [zQ,zA,zB,zC,zD,zE,zF,zG,zH,zI,zJ,zK,zL,zM,zN,zO,zP,zR,zS]at *);simp only [eF2,List.length_append,List.length_cons,List.length_nil];omega)
    |skip
theorem leafPN (d:Dsp)(F:List (List Int))(o:List Int)(i:Int)(hd:DOk d)(ho:o.length≤100)(hF:F.length≤1000000)(hok:(okPa d) o=false):FSpec Try.prog 93 [(.sl 1 (.sym fun _=>zi (o).length) (fun ix=>[.int .i64 (.sym fun _=>(o).getD ix.den.toNat 0)])),(.int .i64 (.sym fun _=>i)),(.int .i64 (.sym fun _=>0)),.own 0 0,.own 1 0,.own 2 0,.own 3 0] [.cells [(wpS d)] 91,.cells [.clo 90 [] [],.clo 91 [] []] 111,.cells [.row 4] 23,.cells [.clo 93 [] [.own 0 0,.own 1 0,.own 2 0,.own 3 0]] 139,.row 22 1 (.sym fun _=>zi (F).length) (fun ix=>[.sl 1 (.sym fun _=>zi ((F).getD ix.den.toNat []).length) (fun jx=>[.int .i64 (.sym fun _=>((F).getD ix.den.toNat []).getD jx.den.toNat 0)])])] (fun r bs=>r = .tup []∧bs=[.cells [(wpS d)] 91,.cells [.clo 90 [] [],.clo 91 [] []] 111,.cells [.row 4] 23,.cells [.clo 93 [] [.own 0 0,.own 1 0,.own 2 0,.own 3 0]] 139,.row 22 1 (.sym fun _=>zi (F).length) (fun ix=>[.sl 1 (.sym fun _=>zi ((F).getD ix.den.toNat []).length) (fun jx=>[.int .i64 (.sym fun _=>((F).getD ix.den.toNat []).getD jx.den.toNat 0)])])]):=by
  have c91:=theirs91 d o (by have:=hd.f6;omega) (by omega)
  have hl:(thN d o d.fs.length).length≤1000:=by have h1:=thN_len d o d.fs.length;have h2:=hd.f6;omega
  have c54:=apart54 d (thN d o d.fs.length) hd hl
  rw [show canT d d.fs (thN d o d.fs.length)=false from hok]at c54
  refine FSpec.isB rfl fun R B hR hB=>qW (sc:=sc93) tyok mix Try.func93 rfl Try.call93 (by kernel_rfl) (by kernel_rfl) ?_
  generalize Try.prog=P at c91 c54⊢
  cbv
  repeat' (first
      |with_reducible refine And.intro ?_ ?_
      |(with_reducible intro hcd;(try simp only [zA,zB,zC,zD,zE,zF,zG,zH,zI,zJ,zK,zL,zM,zN,zO,zP]at hcd);try cbv)
      | (refine qP ?_ (c91) ?hfit
         case hfit=>((repeat' (first|exact qB|refine qD ?_ ?_|exact qE (by rfl)|exact qF (by rfl)|exact Fit.refl _|exact qA|refine qC ?_ rfl ?_));done)
         try cbv)
      | (refine qP ?_ (c54) ?hfit
         case hfit=>((repeat' (first|exact qB|refine qD ?_ ?_|exact qE (by rfl)|exact qF (by rfl)|exact Fit.refl _|exact qA|refine qC ?_ rfl ?_));done)
         try cbv)
      | (obtain⟨F2,eF2⟩:∃y:List (List Int),y=F++[o]:=⟨_,rfl⟩
         refine⟨lstE F2,?_⟩
         cbv
         refine hold (hold_rowlists (F:=F) (o:=o) eF2 (by first|rfl|((try simp only [qV]at *);(try simp only [zQ,zA,zB,zC,zD,zE,zF,zG,zH,zI,zJ,zK,zL,zM,zN,zO,zP,zR,zS]at *);omega)) rfl (fun ix=>Fit.refl _) (fun ix=>Fit.refl _) (by(try simp only [qV]at *);(try simp only [zQ,zA,zB,zC,zD,zE,zF,zG,zH,zI,zJ,zK,zL,zM,zN,zO,zP,zR,zS]at *);omega)) (Or.inl ?_)
         try cbv)
      |fail)
  all_goals first
    |trivial
    |(subst hR;exact Fit.refl _;done)
    |(subst hB;(repeat' (first|exact qH|refine qI ?_ ?_|exact qK _|refine qJ ?_|exact qA|exact qE (by rfl)|exact qF (by rfl)|exact Fit.refl _|exact qG _|refine qC ?_ rfl ?_));done)
    |skip
set_option maxHeartbeats 2000000 in
theorem stepF (d:Dsp)(F:List (List Int))(o:List Int)(i m M:Nat)(hd:DOk d)(ho:o.length≤100)(hM:M=m+1)(hi:i+M≤d.fs.length)(ih:∀k:Nat,k<d.fs.length-m-i→∀(G:List (List Int)) (L:List Int),G=(F++colN d.fs.length (okFa d) m o i k)→L=o++[((i+k:Nat):Int)]→FSpec Try.prog 93 [(.sl 1 (.sym fun _=>zi (L).length) (fun ix=>[.int .i64 (.sym fun _=>(L).getD ix.den.toNat 0)])),(.int .i64 (.sym fun _=>zi (i+k)+1)),(.int .i64 (.sym fun _=>zi M-1)),.own 0 0,.own 1 0,.own 2 0,.own 3 0] [.cells [(wpS d)] 91,.cells [.clo 88 [] [],.clo 89 [] []] 111,.cells [.row 4] 23,.cells [.clo 93 [] [.own 0 0,.own 1 0,.own 2 0,.own 3 0]] 139,.row 22 1 (.sym fun _=>zi (G).length) (fun ix=>[.sl 1 (.sym fun _=>zi ((G).getD ix.den.toNat []).length) (fun jx=>[.int .i64 (.sym fun _=>((G).getD ix.den.toNat []).getD jx.den.toNat 0)])])] (fun r bs=>r = .tup []∧bs=[.cells [(wpS d)] 91,.cells [.clo 88 [] [],.clo 89 [] []] 111,.cells [.row 4] 23,.cells [.clo 93 [] [.own 0 0,.own 1 0,.own 2 0,.own 3 0]] 139,.row 22 1 (.sym fun _=>zi ((G++allC d.fs.length (okFa d) m L (i+k+1))).length) (fun ix=>[.sl 1 (.sym fun _=>zi (((G++allC d.fs.length (okFa d) m L (i+k+1))).getD ix.den.toNat []).length) (fun jx=>[.int .i64 (.sym fun _=>(((G++allC d.fs.length (okFa d) m L (i+k+1))).getD ix.den.toNat []).getD jx.den.toNat 0)])])])):FSpec Try.prog 93 [(.sl 1 (.sym fun _=>zi (o).length) (fun ix=>[.int .i64 (.sym fun _=>(o).getD ix.den.toNat 0)])),(.int .i64 (.sym fun _=>zi i)),(.int .i64 (.sym fun _=>zi M)),.own 0 0,.own 1 0,.own 2 0,.own 3 0] [.cells [(wpS d)] 91,.cells [.clo 88 [] [],.clo 89 [] []] 111,.cells [.row 4] 23,.cells [.clo 93 [] [.own 0 0,.own 1 0,.own 2 0,.own 3 0]] 139,.row 22 1 (.sym fun _=>zi (F).length) (fun ix=>[.sl 1 (.sym fun _=>zi ((F).getD ix.den.toNat []).length) (fun jx=>[.int .i64 (.sym fun _=>((F).getD ix.den.toNat []).getD jx.den.toNat 0)])])] (fun r bs=>r = .tup []∧bs=[.cells [(wpS d)] 91,.cells [.clo 88 [] [],.clo 89 [] []] 111,.cells [.row 4] 23,.cells [.clo 93 [] [.own 0 0,.own 1 0,.own 2 0,.own 3 0]] 139,.row 22 1 (.sym fun _=>zi ((F++colN d.fs.length (okFa d) m o i (d.fs.length-m-i))).length) (fun ix=>[.sl 1 (.sym fun _=>zi (((F++colN d.fs.length (okFa d) m o i (d.fs.length-m-i))).getD ix.den.toNat []).length) (fun jx=>[.int .i64 (.sym fun _=>(((F++colN d.fs.length (okFa d) m o i (d.fs.length-m-i))).getD ix.den.toNat []).getD jx.den.toNat 0)])])]):=by
  have c88:=facts88 d
  have c94:=clone94 o (by omega)
  refine FSpec.isB rfl fun R B hR hB=>qW (sc:=sc93) tyok mix Try.func93 rfl Try.call93 (by kernel_rfl) (by kernel_rfl) ?_
  generalize Try.prog=P at c88 c94 ih⊢
  cbv
  have s3:=hd.p4
  have f6:=hd.f6
  have p1:=hd.p1
  repeat' (first
      |with_reducible refine And.intro ?_ ?_
      |(with_reducible intro hcd;(try simp only [zA,zB,zC,zD,zE,zF,zG,zH,zI,zJ,zK,zL,zM,zN,zO,zP]at hcd);try cbv)
      |fail)
  all_goals first
    |(exfalso;(try simp only [qV]at *);(try simp only [zQ,zA,zB,zC,zD,zE,zF,zG,zH,zI,zJ,zK,zL,zM,zN,zO,zP,zR,zS]at *);omega)
    |skip
  refine⟨none,[],{k:Nat // k≤d.fs.length-m-i},fun x=>⟨[(0,(.sl 1 (.sym fun _=>zi (o).length) (fun ix=>[.int .i64 (.sym fun _=>(o).getD ix.den.toNat 0)]))),(2,(.int .i64 (.sym fun _=>zi M))),(3,.own 0 0),(4,.own 1 0),(5,.own 2 0),(6,.own 3 0),(12,(.int .i64 (.sym fun _=>zi (i+x.1))))],[(0,.cells [(wpS d)] 91),(1,.cells [.clo 88 [] [],.clo 89 [] []] 111),(2,.cells [.row 4] 23),(3,.cells [.clo 93 [] [.own 0 0,.own 1 0,.own 2 0,.own 3 0]] 139),(4,.row 22 1 (.sym fun _=>zi ((F++colN d.fs.length (okFa d) m o i x.1)).length) (fun ix=>[.sl 1 (.sym fun _=>zi (((F++colN d.fs.length (okFa d) m o i x.1)).getD ix.den.toNat []).length) (fun jx=>[.int .i64 (.sym fun _=>(((F++colN d.fs.length (okFa d) m o i x.1)).getD ix.den.toNat []).getD jx.den.toNat 0)])]))],60⟩,fun x=>d.fs.length-m-i-x.1,?_,?_⟩
  · refine⟨⟨0,by omega⟩,?_⟩
    cbv
    repeat' (first
      |with_reducible refine hold ?_ ?_
      |with_reducible refine And.intro ?_ ?_)
    all_goals first
      |trivial
      |exact qM (qE (by rfl))
      |exact qM (Fit.refl _)
      |exact qL (qK _)
      |(simp only [colN,List.append_nil];exact qL (qK _))
      |skip
  · rintro ⟨k,hk⟩
    cbv
    obtain⟨G,hG⟩:∃G,G=(F++colN d.fs.length (okFa d) m o i k):=⟨_,rfl⟩
    rw [←hG]
    cbv
    repeat' (first
        |with_reducible refine hold ?_ ?_
        |with_reducible refine And.intro ?_ ?_
        |(with_reducible intro hcd;(try simp only [zA,zB,zC,zD,zE,zF,zG,zH,zI,zJ,zK,zL,zM,zN,zO,zP]at hcd);try cbv)
        | (refine qP ?_ (c88) ?hfit
           case hfit=>((repeat' (first|exact qB|refine qD ?_ ?_|exact qE (by rfl)|exact qF (by rfl)|exact Fit.refl _|exact qA|refine qC ?_ rfl ?_));done)
           try cbv)
        | (refine Or.inr ⟨true,?_⟩
           cbv
           refine qU ?_ (c94) (by cbv;(repeat' (first|exact qB|refine qD ?_ ?_|exact qE (by rfl)|exact qF (by rfl)|exact Fit.refl _|exact qA|refine qC ?_ rfl ?_))) (by cbv;(repeat' (first|exact qH|refine qI ?_ ?_|exact qK _|refine qJ ?_|exact qA|exact qE (by rfl)|exact qF (by rfl)|exact Fit.refl _|exact qG _|refine qC ?_ rfl ?_)))
           try cbv)
        | (obtain⟨L2,eL2⟩:∃y:List Int,y=o++[((i+k:Nat):Int)]:=⟨_,rfl⟩
           refine⟨intsE L2,?_⟩
           cbv
           refine hold (hold_rowlist (L:=o) eL2 (by(first|rfl|((try simp only [qV]at *);(try simp only [zQ,zA,zB,zC,zD,zE,zF,zG,zH,zI,zJ,zK,zL,zM,zN,zO,zP,zR,zS]at *);done)|((try simp only [qV]at *);(try simp only [zQ,zA,zB,zC,zD,zE,zF,zG,zH,zI,zJ,zK,zL,zM,zN,zO,zP,zR,zS]at *);omega))) (by rfl) (fun ix=>Fit.refl _) (fun ix h=>qC (qE (by rfl)) rfl qA) (by(try simp only [qV]at *);(try simp only [zQ,zA,zB,zC,zD,zE,zF,zG,zH,zI,zJ,zK,zL,zM,zN,zO,zP,zR,zS]at *);omega)) (Or.inr ⟨true,?_⟩)
           try cbv)
        | (refine⟨some [0,1,2,3,4],?_⟩
           cbv
           refine qQ ?_ (ih k (by((try simp only [qV]at *);(try simp only [zQ,zA,zB,zC,zD,zE,zF,zG,zH,zI,zJ,zK,zL,zM,zN,zO,zP,zR,zS]at *);omega)) G L2 hG eL2) ?hfit ?hbo
           case hfit=>(cbv;refine qD (fit_sl (zi_app eL2) (fun _ _ _=>Fit.refl _)) ?_;(repeat' (first|exact qB|refine qD ?_ ?_|exact qE (by rfl)|exact qF (by rfl)|exact Fit.refl _|exact qA|refine qC ?_ rfl ?_));done)
           case hbo=>(cbv;(repeat' (first|exact qH|refine qI ?_ ?_|exact qK _|refine qJ ?_|exact qA|exact qE (by rfl)|exact qF (by rfl)|exact Fit.refl _|exact qG _|refine qC ?_ rfl ?_));done)
           try cbv)
        |fail)
    all_goals first
      |((try simp only [qV]at *);(try simp only [zQ,zA,zB,zC,zD,zE,zF,zG,zH,zI,zJ,zK,zL,zM,zN,zO,zP,zR,zS]at *);first|(refine qN ?_;omega)|(simp only [Hold];omega))
      |(subst hR;exact Fit.refl _;done)
      |((have hke:k=d.fs.length-m-i:=(by((try simp only [qV]at *);(try simp only [zQ,zA,zB,zC,zD,zE,zF,zG,zH,zI,zJ,zK,zL,zM,zN,zO,zP,zR,zS]at *);omega)));rw [hke]at hG;rw [←hG]at hB;subst hB;(repeat' (first|exact qH|refine qI ?_ ?_|exact qK _|refine qJ ?_|exact qA|exact qE (by rfl)|exact qF (by rfl)|exact Fit.refl _|exact qG _|refine qC ?_ rfl ?_));done)
      |((try simp only [zQ,zA,zB,zC,zD,zE,zF,zG,zH,zI,zJ,zK,zL,zM,zN,zO,zP,zR,zS]at *);(have hx:=col_go eL2 hG);refine⟨⟨k+1,by((try simp only [qV]at *);(try simp only [zQ,zA,zB,zC,zD,zE,zF,zG,zH,zI,zJ,zK,zL,zM,zN,zO,zP,zR,zS]at *);omega)⟩,by simp only [];omega,?_⟩;cbv;(repeat' (first|with_reducible refine hold ?_ ?_|with_reducible refine And.intro ?_ ?_));(all_goals first|trivial|exact qM (qE (by rfl))|exact qM (qF (by rfl))|exact qM (Fit.refl _)|exact qL (qK _)|(refine qM (qE ?_);(try simp only [qV]at *);simp only [zQ,zA,zB,zC,zD,zE,zF,zG,zH,zI,zJ,zK,zL,zM,zN,zO,zP,zR,zS]at *;omega)|(refine qL (qJ ?_);(repeat' (first|exact qA|exact qB|refine qC ?_ rfl ?_|refine qD ?_ ?_|exact qE (by rfl)|exact qF (by rfl)|exact Fit.refl _|exact qG _|(refine qE ?_;(try simp only [qV]at *);simp only [zQ,zA,zB,zC,zD,zE,zF,zG,zH,zI,zJ,zK,zL,zM,zN,zO,zP,zR,zS]at *;omega)));done)|(simp only [hx];exact qL (qK _))|(refine qM (qE ?_);(try simp only [qV]at *);(try simp only [zQ,zA,zB,zC,zD,zE,zF,zG,zH,zI,zJ,zK,zL,zM,zN,zO,zP,zR,zS]at *);omega)|skip))
      |skip
set_option maxHeartbeats 2000000 in
theorem stepP (d:Dsp)(F:List (List Int))(o:List Int)(i m M:Nat)(hd:DOk d)(ho:o.length≤100)(hM:M=m+1)(hi:i+M≤d.pn.toNat)(ih:∀k:Nat,k<d.pn.toNat-m-i→∀(G:List (List Int)) (L:List Int),G=(F++colN d.pn.toNat (okPa d) m o i k)→L=o++[((i+k:Nat):Int)]→FSpec Try.prog 93 [(.sl 1 (.sym fun _=>zi (L).length) (fun ix=>[.int .i64 (.sym fun _=>(L).getD ix.den.toNat 0)])),(.int .i64 (.sym fun _=>zi (i+k)+1)),(.int .i64 (.sym fun _=>zi M-1)),.own 0 0,.own 1 0,.own 2 0,.own 3 0] [.cells [(wpS d)] 91,.cells [.clo 90 [] [],.clo 91 [] []] 111,.cells [.row 4] 23,.cells [.clo 93 [] [.own 0 0,.own 1 0,.own 2 0,.own 3 0]] 139,.row 22 1 (.sym fun _=>zi (G).length) (fun ix=>[.sl 1 (.sym fun _=>zi ((G).getD ix.den.toNat []).length) (fun jx=>[.int .i64 (.sym fun _=>((G).getD ix.den.toNat []).getD jx.den.toNat 0)])])] (fun r bs=>r = .tup []∧bs=[.cells [(wpS d)] 91,.cells [.clo 90 [] [],.clo 91 [] []] 111,.cells [.row 4] 23,.cells [.clo 93 [] [.own 0 0,.own 1 0,.own 2 0,.own 3 0]] 139,.row 22 1 (.sym fun _=>zi ((G++allC d.pn.toNat (okPa d) m L (i+k+1))).length) (fun ix=>[.sl 1 (.sym fun _=>zi (((G++allC d.pn.toNat (okPa d) m L (i+k+1))).getD ix.den.toNat []).length) (fun jx=>[.int .i64 (.sym fun _=>(((G++allC d.pn.toNat (okPa d) m L (i+k+1))).getD ix.den.toNat []).getD jx.den.toNat 0)])])])):FSpec Try.prog 93 [(.sl 1 (.sym fun _=>zi (o).length) (fun ix=>[.int .i64 (.sym fun _=>(o).getD ix.den.toNat 0)])),(.int .i64 (.sym fun _=>zi i)),(.int .i64 (.sym fun _=>zi M)),.own 0 0,.own 1 0,.own 2 0,.own 3 0] [.cells [(wpS d)] 91,.cells [.clo 90 [] [],.clo 91 [] []] 111,.cells [.row 4] 23,.cells [.clo 93 [] [.own 0 0,.own 1 0,.own 2 0,.own 3 0]] 139,.row 22 1 (.sym fun _=>zi (F).length) (fun ix=>[.sl 1 (.sym fun _=>zi ((F).getD ix.den.toNat []).length) (fun jx=>[.int .i64 (.sym fun _=>((F).getD ix.den.toNat []).getD jx.den.toNat 0)])])] (fun r bs=>r = .tup []∧bs=[.cells [(wpS d)] 91,.cells [.clo 90 [] [],.clo 91 [] []] 111,.cells [.row 4] 23,.cells [.clo 93 [] [.own 0 0,.own 1 0,.own 2 0,.own 3 0]] 139,.row 22 1 (.sym fun _=>zi ((F++colN d.pn.toNat (okPa d) m o i (d.pn.toNat-m-i))).length) (fun ix=>[.sl 1 (.sym fun _=>zi (((F++colN d.pn.toNat (okPa d) m o i (d.pn.toNat-m-i))).getD ix.den.toNat []).length) (fun jx=>[.int .i64 (.sym fun _=>(((F++colN d.pn.toNat (okPa d) m o i (d.pn.toNat-m-i))).getD ix.den.toNat []).getD jx.den.toNat 0)])])]):=by
  have c90:=parties90 d
  have c94:=clone94 o (by omega)
  refine FSpec.isB rfl fun R B hR hB=>qW (sc:=sc93) tyok mix Try.func93 rfl Try.call93 (by kernel_rfl) (by kernel_rfl) ?_
  generalize Try.prog=P at c90 c94 ih⊢
  cbv
  have s3:=hd.p4
  have f6:=hd.f6
  have p1:=hd.p1
  repeat' (first
      |with_reducible refine And.intro ?_ ?_
      |(with_reducible intro hcd;(try simp only [zA,zB,zC,zD,zE,zF,zG,zH,zI,zJ,zK,zL,zM,zN,zO,zP]at hcd);try cbv)
      |fail)
  all_goals first
    |(exfalso;(try simp only [qV]at *);(try simp only [zQ,zA,zB,zC,zD,zE,zF,zG,zH,zI,zJ,zK,zL,zM,zN,zO,zP,zR,zS]at *);omega)
    |skip
  refine⟨none,[],{k:Nat // k≤d.pn.toNat-m-i},fun x=>⟨[(0,(.sl 1 (.sym fun _=>zi (o).length) (fun ix=>[.int .i64 (.sym fun _=>(o).getD ix.den.toNat 0)]))),(2,(.int .i64 (.sym fun _=>zi M))),(3,.own 0 0),(4,.own 1 0),(5,.own 2 0),(6,.own 3 0),(12,(.int .i64 (.sym fun _=>zi (i+x.1))))],[(0,.cells [(wpS d)] 91),(1,.cells [.clo 90 [] [],.clo 91 [] []] 111),(2,.cells [.row 4] 23),(3,.cells [.clo 93 [] [.own 0 0,.own 1 0,.own 2 0,.own 3 0]] 139),(4,.row 22 1 (.sym fun _=>zi ((F++colN d.pn.toNat (okPa d) m o i x.1)).length) (fun ix=>[.sl 1 (.sym fun _=>zi (((F++colN d.pn.toNat (okPa d) m o i x.1)).getD ix.den.toNat []).length) (fun jx=>[.int .i64 (.sym fun _=>(((F++colN d.pn.toNat (okPa d) m o i x.1)).getD ix.den.toNat []).getD jx.den.toNat 0)])]))],60⟩,fun x=>d.pn.toNat-m-i-x.1,?_,?_⟩
  · refine⟨⟨0,by omega⟩,?_⟩
    cbv
    repeat' (first
      |with_reducible refine hold ?_ ?_
      |with_reducible refine And.intro ?_ ?_)
    all_goals first
      |trivial
      |exact qM (qE (by rfl))
      |exact qM (Fit.refl _)
      |exact qL (qK _)
      |(simp only [colN,List.append_nil];exact qL (qK _))
      |skip
  · rintro ⟨k,hk⟩
    cbv
    obtain⟨G,hG⟩:∃G,G=(F++colN d.pn.toNat (okPa d) m o i k):=⟨_,rfl⟩
    rw [←hG]
    cbv
    repeat' (first
        |with_reducible refine hold ?_ ?_
        |with_reducible refine And.intro ?_ ?_
        |(with_reducible intro hcd;(try simp only [zA,zB,zC,zD,zE,zF,zG,zH,zI,zJ,zK,zL,zM,zN,zO,zP]at hcd);try cbv)
        | (refine qP ?_ (c90) ?hfit
           case hfit=>((repeat' (first|exact qB|refine qD ?_ ?_|exact qE (by rfl)|exact qF (by rfl)|exact Fit.refl _|exact qA|refine qC ?_ rfl ?_));done)
           try cbv)
        | (refine Or.inr ⟨true,?_⟩
           cbv
           refine qU ?_ (c94) (by cbv;(repeat' (first|exact qB|refine qD ?_ ?_|exact qE (by rfl)|exact qF (by rfl)|exact Fit.refl _|exact qA|refine qC ?_ rfl ?_))) (by cbv;(repeat' (first|exact qH|refine qI ?_ ?_|exact qK _|refine qJ ?_|exact qA|exact qE (by rfl)|exact qF (by rfl)|exact Fit.refl _|exact qG _|refine qC ?_ rfl ?_)))
           try cbv)
        | (obtain⟨L2,eL2⟩:∃y:List Int,y=o++[((i+k:Nat):Int)]:=⟨_,rfl⟩
           refine⟨intsE L2,?_⟩
           cbv
           refine hold (hold_rowlist (L:=o) eL2 (by(first|rfl|((try simp only [qV]at *);(try simp only [zQ,zA,zB,zC,zD,zE,zF,zG,zH,zI,zJ,zK,zL,zM,zN,zO,zP,zR,zS]at *);done)|((try simp only [qV]at *);(try simp only [zQ,zA,zB,zC,zD,zE,zF,zG,zH,zI,zJ,zK,zL,zM,zN,zO,zP,zR,zS]at *);omega))) (by rfl) (fun ix=>Fit.refl _) (fun ix h=>qC (qE (by rfl)) rfl qA) (by(try simp only [qV]at *);(try simp only [zQ,zA,zB,zC,zD,zE,zF,zG,zH,zI,zJ,zK,zL,zM,zN,zO,zP,zR,zS]at *);omega)) (Or.inr ⟨true,?_⟩)
           try cbv)
        | (refine⟨some [0,1,2,3,4],?_⟩
           cbv
           refine qQ ?_ (ih k (by((try simp only [qV]at *);(try simp only [zQ,zA,zB,zC,zD,zE,zF,zG,zH,zI,zJ,zK,zL,zM,zN,zO,zP,zR,zS]at *);omega)) G L2 hG eL2) ?hfit ?hbo
           case hfit=>(cbv;refine qD (fit_sl (zi_app eL2) (fun _ _ _=>Fit.refl _)) ?_;(repeat' (first|exact qB|refine qD ?_ ?_|exact qE (by rfl)|exact qF (by rfl)|exact Fit.refl _|exact qA|refine qC ?_ rfl ?_));done)
           case hbo=>(cbv;(repeat' (first|exact qH|refine qI ?_ ?_|exact qK _|refine qJ ?_|exact qA|exact qE (by rfl)|exact qF (by rfl)|exact Fit.refl _|exact qG _|refine qC ?_ rfl ?_));done)
           try cbv)
        |fail)
    all_goals first
      |((try simp only [qV]at *);(try simp only [zQ,zA,zB,zC,zD,zE,zF,zG,zH,zI,zJ,zK,zL,zM,zN,zO,zP,zR,zS]at *);first|(refine qN ?_;omega)|(simp only [Hold];omega))
      |(subst hR;exact Fit.refl _;done)
      |((have hke:k=d.pn.toNat-m-i:=(by((try simp only [qV]at *);(try simp only [zQ,zA,zB,zC,zD,zE,zF,zG,zH,zI,zJ,zK,zL,zM,zN,zO,zP,zR,zS]at *);omega)));rw [hke]at hG;rw [←hG]at hB;subst hB;(repeat' (first|exact qH|refine qI ?_ ?_|exact qK _|refine qJ ?_|exact qA|exact qE (by rfl)|exact qF (by rfl)|exact Fit.refl _|exact qG _|refine qC ?_ rfl ?_));done)
      |((try simp only [zQ,zA,zB,zC,zD,zE,zF,zG,zH,zI,zJ,zK,zL,zM,zN,zO,zP,zR,zS]at *);(have hx:=col_go eL2 hG);refine⟨⟨k+1,by((try simp only [qV]at *);(try simp only [zQ,zA,zB,zC,zD,zE,zF,zG,zH,zI,zJ,zK,zL,zM,zN,zO,zP,zR,zS]at *);omega)⟩,by simp only [];omega,?_⟩;cbv;(repeat' (first|with_reducible refine hold ?_ ?_|with_reducible refine And.intro ?_ ?_));(all_goals first|trivial|exact qM (qE (by rfl))|exact qM (qF (by rfl))|exact qM (Fit.refl _)|exact qL (qK _)|(refine qM (qE ?_);(try simp only [qV]at *);simp only [zQ,zA,zB,zC,zD,zE,zF,zG,zH,zI,zJ,zK,zL,zM,zN,zO,zP,zR,zS]at *;omega)|(refine qL (qJ ?_);(repeat' (first|exact qA|exact qB|refine qC ?_ rfl ?_|refine qD ?_ ?_|exact qE (by rfl)|exact qF (by rfl)|exact Fit.refl _|exact qG _|(refine qE ?_;(try simp only [qV]at *);simp only [zQ,zA,zB,zC,zD,zE,zF,zG,zH,zI,zJ,zK,zL,zM,zN,zO,zP,zR,zS]at *;omega)));done)|(simp only [hx];exact qL (qK _))|(refine qM (qE ?_);(try simp only [qV]at *);(try simp only [zQ,zA,zB,zC,zD,zE,zF,zG,zH,zI,zJ,zK,zL,zM,zN,zO,zP,zR,zS]at *);omega)|skip))
      |skip
end Go.Proofs.Ytkdggbfknlcdaaa

namespace Go.Proofs.Ytkdggbfknlcdaaa
open Go Go.Eng Go.Proofs Go.Eng.Dif Go.Eng.Few
set_option maxRecDepth 10000
theorem addF (d:Dsp)(hd:DOk d):∀(m:Nat) (F:List (List Int)) (o:List Int) (i:Nat) (ie me:Int),ie=(i:Int)→me=(m:Int)→o.length≤i→i+m≤d.fs.length→F.length+(allC d.fs.length (okFa d) m o i).length≤1000000→FSpec Try.prog 93 [(.sl 1 (.sym fun _=>zi (o).length) (fun ix=>[.int .i64 (.sym fun _=>(o).getD ix.den.toNat 0)])),(.int .i64 (.sym fun _=>ie)),(.int .i64 (.sym fun _=>me)),.own 0 0,.own 1 0,.own 2 0,.own 3 0] [.cells [(wpS d)] 91,.cells [.clo 88 [] [],.clo 89 [] []] 111,.cells [.row 4] 23,.cells [.clo 93 [] [.own 0 0,.own 1 0,.own 2 0,.own 3 0]] 139,.row 22 1 (.sym fun _=>zi (F).length) (fun ix=>[.sl 1 (.sym fun _=>zi ((F).getD ix.den.toNat []).length) (fun jx=>[.int .i64 (.sym fun _=>((F).getD ix.den.toNat []).getD jx.den.toNat 0)])])] (fun r bs=>r = .tup []∧bs=[.cells [(wpS d)] 91,.cells [.clo 88 [] [],.clo 89 [] []] 111,.cells [.row 4] 23,.cells [.clo 93 [] [.own 0 0,.own 1 0,.own 2 0,.own 3 0]] 139,.row 22 1 (.sym fun _=>zi ((F++allC d.fs.length (okFa d) m o i)).length) (fun ix=>[.sl 1 (.sym fun _=>zi (((F++allC d.fs.length (okFa d) m o i)).getD ix.den.toNat []).length) (fun jx=>[.int .i64 (.sym fun _=>(((F++allC d.fs.length (okFa d) m o i)).getD ix.den.toNat []).getD jx.den.toNat 0)])])]):=by
  have hf6:=hd.f6
  have hp4:=hd.p4
  intro m
  induction m with
  | zero=>
    intro F o i ie me hie hme ho him hB
    have hm0:me=0:=by omega
    subst hm0
    cases hok:(okFa d) o with
    | true=>
      rw [show allC d.fs.length (okFa d) 0 o i=[o] by simp only [allC,hok,if_true]]
      exact leafFY d F o ie hd (by omega) (by omega) hok
    | false=>
      rw [show allC d.fs.length (okFa d) 0 o i=[] by simp only [allC,hok,Bool.false_eq_true,if_false],List.append_nil]
      exact leafFN d F o ie hd (by omega) (by omega) hok
  | succ m ih=>
    intro F o i ie me hie hme ho him hB
    subst hie
    subst hme
    rw [allC_col]at hB⊢
    refine stepF d F o i m (m+1) hd (by omega) rfl him fun k hk G L hG hL=> ?_
    refine ih G L (i+k+1) (zi (i+k)+1) (zi (m+1)-1) (by simp only [zi_den];omega) (by simp only [zi_den];omega) (by rw [hL,List.length_append];simp only [List.length_cons,List.length_nil];omega) (by omega) ?_
    have h1:=col_le (n:=d.fs.length) (ok:=(okFa d)) (m:=m) (o:=o) (i:=i) (show k+1≤d.fs.length-m-i by omega)
    have h2:=congrArg List.length (col_go (F:=F) hL hG)
    rw [List.length_append,List.length_append]at h2
    omega
theorem addP (d:Dsp)(hd:DOk d):∀(m:Nat) (F:List (List Int)) (o:List Int) (i:Nat) (ie me:Int),ie=(i:Int)→me=(m:Int)→o.length≤i→i+m≤d.pn.toNat→F.length+(allC d.pn.toNat (okPa d) m o i).length≤1000000→FSpec Try.prog 93 [(.sl 1 (.sym fun _=>zi (o).length) (fun ix=>[.int .i64 (.sym fun _=>(o).getD ix.den.toNat 0)])),(.int .i64 (.sym fun _=>ie)),(.int .i64 (.sym fun _=>me)),.own 0 0,.own 1 0,.own 2 0,.own 3 0] [.cells [(wpS d)] 91,.cells [.clo 90 [] [],.clo 91 [] []] 111,.cells [.row 4] 23,.cells [.clo 93 [] [.own 0 0,.own 1 0,.own 2 0,.own 3 0]] 139,.row 22 1 (.sym fun _=>zi (F).length) (fun ix=>[.sl 1 (.sym fun _=>zi ((F).getD ix.den.toNat []).length) (fun jx=>[.int .i64 (.sym fun _=>((F).getD ix.den.toNat []).getD jx.den.toNat 0)])])] (fun r bs=>r = .tup []∧bs=[.cells [(wpS d)] 91,.cells [.clo 90 [] [],.clo 91 [] []] 111,.cells [.row 4] 23,.cells [.clo 93 [] [.own 0 0,.own 1 0,.own 2 0,.own 3 0]] 139,.row 22 1 (.sym fun _=>zi ((F++allC d.pn.toNat (okPa d) m o i)).length) (fun ix=>[.sl 1 (.sym fun _=>zi (((F++allC d.pn.toNat (okPa d) m o i)).getD ix.den.toNat []).length) (fun jx=>[.int .i64 (.sym fun _=>(((F++allC d.pn.toNat (okPa d) m o i)).getD ix.den.toNat []).getD jx.den.toNat 0)])])]):=by
  have hf6:=hd.f6
  have hp4:=hd.p4
  intro m
  induction m with
  | zero=>
    intro F o i ie me hie hme ho him hB
    have hm0:me=0:=by omega
    subst hm0
    cases hok:(okPa d) o with
    | true=>
      rw [show allC d.pn.toNat (okPa d) 0 o i=[o] by simp only [allC,hok,if_true]]
      exact leafPY d F o ie hd (by omega) (by omega) hok
    | false=>
      rw [show allC d.pn.toNat (okPa d) 0 o i=[] by simp only [allC,hok,Bool.false_eq_true,if_false],List.append_nil]
      exact leafPN d F o ie hd (by omega) (by omega) hok
  | succ m ih=>
    intro F o i ie me hie hme ho him hB
    subst hie
    subst hme
    rw [allC_col]at hB⊢
    refine stepP d F o i m (m+1) hd (by omega) rfl him fun k hk G L hG hL=> ?_
    refine ih G L (i+k+1) (zi (i+k)+1) (zi (m+1)-1) (by simp only [zi_den];omega) (by simp only [zi_den];omega) (by rw [hL,List.length_append];simp only [List.length_cons,List.length_nil];omega) (by omega) ?_
    have h1:=col_le (n:=d.pn.toNat) (ok:=(okPa d)) (m:=m) (o:=o) (i:=i) (show k+1≤d.pn.toNat-m-i by omega)
    have h2:=congrArg List.length (col_go (F:=F) hL hG)
    rw [List.length_append,List.length_append]at h2
    omega
theorem len_go {n:Nat} {ok:List Int→Bool} {m k:Nat}(hk:0<k)(h:allC n ok m [] 0=[]):lenO n ok k m=lenO n ok (k-1) (m+1):=by
  cases k with
  |zero=>omega
  |succ k=>simp only [lenO,h,List.isEmpty_nil,if_true,Nat.add_sub_cancel]
theorem len_stop {n:Nat} {ok:List Int→Bool} {m k:Nat}(hk:0<k)(h:allC n ok m [] 0≠[]):lenO n ok k m=allC n ok m [] 0:=by
  cases k with
  |zero=>omega
  | succ k=>
    simp only [lenO]
    rw [if_neg (by simpa using h)]
theorem allC_few {d:Dsp} {n:Nat} {ok:List Int→Bool} {m:Nat}(hn:n≤6)(hm:m≤n):(allC n ok m [] 0).length≤1000000:=by
  refine Nat.le_trans allC_len (Nat.le_trans (Nat.pow_le_pow_left hn m) (Nat.le_trans (Nat.pow_le_pow_right (by omega) (show m≤6 by omega)) (by decide)))
theorem shortestF (d:Dsp)(hd:DOk d):FSpec Try.prog 61 [(.agg [.clo 88 [] [],.clo 89 [] []]),(wpS d)] [] (fun r _=>r=(.sl 1 (.sym fun _=>zi ((shortL d.fs.length (okFa d))).length) (fun ix=>[(.sl 1 (.sym fun _=>zi (((shortL d.fs.length (okFa d))).getD ix.den.toNat []).length) (fun jx=>[.int .i64 (.sym fun _=>(((shortL d.fs.length (okFa d))).getD ix.den.toNat []).getD jx.den.toNat 0)]))]))):=by
  have c88:=facts88 d
  have f6:=hd.f6
  have p4:=hd.p4
  have p1:=hd.p1
  have cadd:=fun (x:Nat) (h:x≤d.fs.length)=>(show FSpec Try.prog 93 [(.sl 1 (.sym fun _=>zi (([]:List Int)).length) (fun ix=>[.int .i64 (.sym fun _=>(([]:List Int)).getD ix.den.toNat 0)])),(.int .i64 (.sym fun _=>0)),(.int .i64 (.sym fun _=>zi x)),.own 0 0,.own 1 0,.own 2 0,.own 3 0] [.cells [(wpS d)] 91,.cells [.clo 88 [] [],.clo 89 [] []] 111,.cells [.row 4] 23,.cells [.clo 93 [] [.own 0 0,.own 1 0,.own 2 0,.own 3 0]] 139,.row 22 1 (.sym fun _=>zi (([]:List (List Int))).length) (fun ix=>[.sl 1 (.sym fun _=>zi ((([]:List (List Int))).getD ix.den.toNat []).length) (fun jx=>[.int .i64 (.sym fun _=>((([]:List (List Int))).getD ix.den.toNat []).getD jx.den.toNat 0)])])] (fun r bs=>r = .tup []∧bs=[.cells [(wpS d)] 91,.cells [.clo 88 [] [],.clo 89 [] []] 111,.cells [.row 4] 23,.cells [.clo 93 [] [.own 0 0,.own 1 0,.own 2 0,.own 3 0]] 139,.row 22 1 (.sym fun _=>zi ((allC d.fs.length (okFa d) x [] 0)).length) (fun ix=>[.sl 1 (.sym fun _=>zi (((allC d.fs.length (okFa d) x [] 0)).getD ix.den.toNat []).length) (fun jx=>[.int .i64 (.sym fun _=>(((allC d.fs.length (okFa d) x [] 0)).getD ix.den.toNat []).getD jx.den.toNat 0)])])])from addF d hd x [] [] 0 0 (zi x) rfl (by simp only [zi_den]) (Nat.le_refl _) (by omega) (by have:=allC_few (d:=d) (n:=d.fs.length) (ok:=(okFa d)) (m:=x) (by omega) h;simp only [List.length_nil];omega))
  refine FSpec.is fun R hR=>qW (sc:=sc61) tyok mix Try.func61 rfl Try.call61 (by kernel_rfl) (by kernel_rfl) ?_
  generalize Try.prog=P at c88 cadd⊢
  cbv
  repeat' (first
      |with_reducible refine hold ?_ ?_
      | (refine qP ?_ (c88) ?hfit
         case hfit=>((repeat' (first|exact qB|refine qD ?_ ?_|exact qE (by rfl)|exact qF (by rfl)|exact Fit.refl _|exact qA|refine qC ?_ rfl ?_));done)
         try cbv)
      |fail)
  all_goals first
    |((try simp only [qV]at *);(try simp only [zQ,zA,zB,zC,zD,zE,zF,zG,zH,zI,zJ,zK,zL,zM,zN,zO,zP,zR,zS]at *);first|(refine qN ?_;omega)|(simp only [Hold];omega))
    |skip
  refine⟨none,[⟨.cell 2 0,22,1⟩],{x:Nat // x≤d.fs.length+1∧shortL d.fs.length (okFa d)=lenO d.fs.length (okFa d) (d.fs.length+1-x) x},fun x=>⟨[(2,.own 0 0),(3,.own 1 0),(4,.own 2 0),(5,.own 3 0),(12,(.int .i64 (.sym fun _=>zi d.fs.length+1))),(13,(.int .i64 (.sym fun _=>zi x.1)))],[(0,.cells [.clo 88 [] [],.clo 89 [] []] 111),(1,.cells [(wpS d)] 91),(2,.cells [.row 12] 23),(3,.cells [.clo 93 [] [.own 1 0,.own 0 0,.own 2 0,.own 3 0]] 139),(12,.row 22 1 (.sym fun _=>zi (([]:List (List Int))).length) (fun ix=>[.sl 1 (.sym fun _=>zi ((([]:List (List Int))).getD ix.den.toNat []).length) (fun jx=>[.int .i64 (.sym fun _=>((([]:List (List Int))).getD ix.den.toNat []).getD jx.den.toNat 0)])]))],60⟩,fun x=>d.fs.length+1-x.1,?_,?_⟩
  · refine⟨⟨0,by omega,rfl⟩,?_⟩
    cbv
    repeat' (first
      |with_reducible refine hold ?_ ?_
      |with_reducible refine And.intro ?_ ?_)
    all_goals first
      |trivial
      |exact qM (qE (by rfl))
      |exact qM (Fit.refl _)
      |exact qL (qK _)
      |(refine qL (ble_row ?_ ?_);(first|rfl|((try simp only [qV]at *);(try simp only [zQ,zA,zB,zC,zD,zE,zF,zG,zH,zI,zJ,zK,zL,zM,zN,zO,zP,zR,zS]at *);omega));intro ix h0 h1;exfalso;(try simp only [qV]at *);(try simp only [zQ,zA,zB,zC,zD,zE,zF,zG,zH,zI,zJ,zK,zL,zM,zN,zO,zP,zR,zS]at *);omega)
      |skip
  · rintro ⟨x,hx,h3⟩
    cbv
    obtain⟨A,hA⟩:∃A,A=allC d.fs.length (okFa d) x [] 0:=⟨_,rfl⟩
    have caddx:=fun h=>cadd x h
    rw [←hA]at caddx
    cbv
    repeat' (first
        |with_reducible refine hold ?_ ?_
        |with_reducible refine And.intro ?_ ?_
        |(with_reducible intro hcd;(try simp only [zA,zB,zC,zD,zE,zF,zG,zH,zI,zJ,zK,zL,zM,zN,zO,zP]at hcd);try cbv)
        | (refine⟨some [1,0,2,3,12],?_⟩
           cbv
           refine qQ ?_ (caddx (by((try simp only [qV]at *);(try simp only [zQ,zA,zB,zC,zD,zE,zF,zG,zH,zI,zJ,zK,zL,zM,zN,zO,zP,zR,zS]at *);omega))) ?hfit ?hbo
           case hfit=>(cbv;refine qD (qO rfl) ?_;(repeat' (first|exact qB|refine qD ?_ ?_|exact qE (by rfl)|exact qF (by rfl)|exact Fit.refl _|exact qA|refine qC ?_ rfl ?_));done)
           case hbo=>(cbv;(repeat' (first|exact qH|refine qI ?_ ?_|exact qK _|refine qJ ?_|exact qA|exact qE (by rfl)|exact qF (by rfl)|exact Fit.refl _|exact qG _|refine qC ?_ rfl ?_));done)
           try cbv)
        |fail)
    all_goals first
      |((try simp only [qV]at *);(try simp only [zQ,zA,zB,zC,zD,zE,zF,zG,zH,zI,zJ,zK,zL,zM,zN,zO,zP,zR,zS]at *);first|(refine qN ?_;omega)|(simp only [Hold];omega))
      |(subst hR;((have hne:A≠[]:=fun q=>by(rw [q]at hcd;(try simp only [qV]at *);(try simp only [zQ,zA,zB,zC,zD,zE,zF,zG,zH,zI,zJ,zK,zL,zM,zN,zO,zP,zR,zS]at *);simp only [List.length_nil]at hcd;omega));(have e9:=h3.trans (len_stop (by((try simp only [qV]at *);(try simp only [zQ,zA,zB,zC,zD,zE,zF,zG,zH,zI,zJ,zK,zL,zM,zN,zO,zP,zR,zS]at *);omega)) (by rw [←hA];exact hne)));rw [←hA]at e9;rw [e9];exact Fit.refl _);done)
      |(subst hR;((have hz:d.fs.length+1-x=0:=by((try simp only [qV]at *);(try simp only [zQ,zA,zB,zC,zD,zE,zF,zG,zH,zI,zJ,zK,zL,zM,zN,zO,zP,zR,zS]at *);omega));rw [hz]at h3;rw [show shortL d.fs.length (okFa d)=[]from h3];exact Fit.refl _);done)
      |((try simp only [zQ,zA,zB,zC,zD,zE,zF,zG,zH,zI,zJ,zK,zL,zM,zN,zO,zP,zR,zS]at *);(have hAe:A=[]:=List.length_eq_zero_iff.1 (by((try simp only [qV]at *);(try simp only [zQ,zA,zB,zC,zD,zE,zF,zG,zH,zI,zJ,zK,zL,zM,zN,zO,zP,zR,zS]at *);omega)));refine⟨⟨x+1,by((try simp only [qV]at *);(try simp only [zQ,zA,zB,zC,zD,zE,zF,zG,zH,zI,zJ,zK,zL,zM,zN,zO,zP,zR,zS]at *);omega),by rw [show d.fs.length+1-(x+1)=d.fs.length+1-x-1 by omega,←len_go (by((try simp only [qV]at *);(try simp only [zQ,zA,zB,zC,zD,zE,zF,zG,zH,zI,zJ,zK,zL,zM,zN,zO,zP,zR,zS]at *);omega)) (hA.symm.trans hAe)];exact h3⟩,by simp only [];omega,?_⟩;cbv;(repeat' (first|with_reducible refine hold ?_ ?_|with_reducible refine And.intro ?_ ?_));(all_goals first|trivial|exact qM (qE (by rfl))|exact qM (qF (by rfl))|exact qM (Fit.refl _)|exact qL (qK _)|(refine qM (qE ?_);(try simp only [qV]at *);simp only [zQ,zA,zB,zC,zD,zE,zF,zG,zH,zI,zJ,zK,zL,zM,zN,zO,zP,zR,zS]at *;omega)|(refine qL (qJ ?_);(repeat' (first|exact qA|exact qB|refine qC ?_ rfl ?_|refine qD ?_ ?_|exact qE (by rfl)|exact qF (by rfl)|exact Fit.refl _|exact qG _|(refine qE ?_;(try simp only [qV]at *);simp only [zQ,zA,zB,zC,zD,zE,zF,zG,zH,zI,zJ,zK,zL,zM,zN,zO,zP,zR,zS]at *;omega)));done)|(simp only [hAe];exact qL (qK _))|(refine qL (ble_row ?_ ?_);(first|rfl|(simp only [hAe];rfl));intro ix h0 h1;exfalso;simp only [hAe]at h1;(try simp only [qV]at *);(try simp only [zQ,zA,zB,zC,zD,zE,zF,zG,zH,zI,zJ,zK,zL,zM,zN,zO,zP,zR,zS]at *);omega)|skip))
      |skip
theorem shortestP (d:Dsp)(hd:DOk d):FSpec Try.prog 61 [(.agg [.clo 90 [] [],.clo 91 [] []]),(wpS d)] [] (fun r _=>r=(.sl 1 (.sym fun _=>zi ((shortL d.pn.toNat (okPa d))).length) (fun ix=>[(.sl 1 (.sym fun _=>zi (((shortL d.pn.toNat (okPa d))).getD ix.den.toNat []).length) (fun jx=>[.int .i64 (.sym fun _=>(((shortL d.pn.toNat (okPa d))).getD ix.den.toNat []).getD jx.den.toNat 0)]))]))):=by
  have c90:=parties90 d
  have f6:=hd.f6
  have p4:=hd.p4
  have p1:=hd.p1
  have cadd:=fun (x:Nat) (h:x≤d.pn.toNat)=>(show FSpec Try.prog 93 [(.sl 1 (.sym fun _=>zi (([]:List Int)).length) (fun ix=>[.int .i64 (.sym fun _=>(([]:List Int)).getD ix.den.toNat 0)])),(.int .i64 (.sym fun _=>0)),(.int .i64 (.sym fun _=>zi x)),.own 0 0,.own 1 0,.own 2 0,.own 3 0] [.cells [(wpS d)] 91,.cells [.clo 90 [] [],.clo 91 [] []] 111,.cells [.row 4] 23,.cells [.clo 93 [] [.own 0 0,.own 1 0,.own 2 0,.own 3 0]] 139,.row 22 1 (.sym fun _=>zi (([]:List (List Int))).length) (fun ix=>[.sl 1 (.sym fun _=>zi ((([]:List (List Int))).getD ix.den.toNat []).length) (fun jx=>[.int .i64 (.sym fun _=>((([]:List (List Int))).getD ix.den.toNat []).getD jx.den.toNat 0)])])] (fun r bs=>r = .tup []∧bs=[.cells [(wpS d)] 91,.cells [.clo 90 [] [],.clo 91 [] []] 111,.cells [.row 4] 23,.cells [.clo 93 [] [.own 0 0,.own 1 0,.own 2 0,.own 3 0]] 139,.row 22 1 (.sym fun _=>zi ((allC d.pn.toNat (okPa d) x [] 0)).length) (fun ix=>[.sl 1 (.sym fun _=>zi (((allC d.pn.toNat (okPa d) x [] 0)).getD ix.den.toNat []).length) (fun jx=>[.int .i64 (.sym fun _=>(((allC d.pn.toNat (okPa d) x [] 0)).getD ix.den.toNat []).getD jx.den.toNat 0)])])])from addP d hd x [] [] 0 0 (zi x) rfl (by simp only [zi_den]) (Nat.le_refl _) (by omega) (by have:=allC_few (d:=d) (n:=d.pn.toNat) (ok:=(okPa d)) (m:=x) (by omega) h;simp only [List.length_nil];omega))
  refine FSpec.is fun R hR=>qW (sc:=sc61) tyok mix Try.func61 rfl Try.call61 (by kernel_rfl) (by kernel_rfl) ?_
  generalize Try.prog=P at c90 cadd⊢
  cbv
  repeat' (first
      |with_reducible refine hold ?_ ?_
      | (refine qP ?_ (c90) ?hfit
         case hfit=>((repeat' (first|exact qB|refine qD ?_ ?_|exact qE (by rfl)|exact qF (by rfl)|exact Fit.refl _|exact qA|refine qC ?_ rfl ?_));done)
         try cbv)
      |fail)
  all_goals first
    |((try simp only [qV]at *);(try simp only [zQ,zA,zB,zC,zD,zE,zF,zG,zH,zI,zJ,zK,zL,zM,zN,zO,zP,zR,zS]at *);first|(refine qN ?_;omega)|(simp only [Hold];omega))
    |skip
  refine⟨none,[⟨.cell 2 0,22,1⟩],{x:Nat // x≤d.pn.toNat+1∧shortL d.pn.toNat (okPa d)=lenO d.pn.toNat (okPa d) (d.pn.toNat+1-x) x},fun x=>⟨[(2,.own 0 0),(3,.own 1 0),(4,.own 2 0),(5,.own 3 0),(12,(.int .i64 (.sym fun _=>d.pn+1))),(13,(.int .i64 (.sym fun _=>zi x.1)))],[(0,.cells [.clo 90 [] [],.clo 91 [] []] 111),(1,.cells [(wpS d)] 91),(2,.cells [.row 12] 23),(3,.cells [.clo 93 [] [.own 1 0,.own 0 0,.own 2 0,.own 3 0]] 139),(12,.row 22 1 (.sym fun _=>zi (([]:List (List Int))).length) (fun ix=>[.sl 1 (.sym fun _=>zi ((([]:List (List Int))).getD ix.den.toNat []).length) (fun jx=>[.int .i64 (.sym fun _=>((([]:List (List Int))).getD ix.den.toNat []).getD jx.den.toNat 0)])]))],60⟩,fun x=>d.pn.toNat+1-x.1,?_,?_⟩
  · refine⟨⟨0,by omega,rfl⟩,?_⟩
    cbv
    repeat' (first
      |with_reducible refine hold ?_ ?_
      |with_reducible refine And.intro ?_ ?_)
    all_goals first
      |trivial
      |exact qM (qE (by rfl))
      |exact qM (Fit.refl _)
      |exact qL (qK _)
      |(refine qL (ble_row ?_ ?_);(first|rfl|((try simp only [qV]at *);(try simp only [zQ,zA,zB,zC,zD,zE,zF,zG,zH,zI,zJ,zK,zL,zM,zN,zO,zP,zR,zS]at *);omega));intro ix h0 h1;exfalso;(try simp only [qV]at *);(try simp only [zQ,zA,zB,zC,zD,zE,zF,zG,zH,zI,zJ,zK,zL,zM,zN,zO,zP,zR,zS]at *);omega)
      |skip
  · rintro ⟨x,hx,h3⟩
    cbv
    obtain⟨A,hA⟩:∃A,A=allC d.pn.toNat (okPa d) x [] 0:=⟨_,rfl⟩
    have caddx:=fun h=>cadd x h
    rw [←hA]at caddx
    cbv
    repeat' (first
        |with_reducible refine hold ?_ ?_
        |with_reducible refine And.intro ?_ ?_
        |(with_reducible intro hcd;(try simp only [zA,zB,zC,zD,zE,zF,zG,zH,zI,zJ,zK,zL,zM,zN,zO,zP]at hcd);try cbv)
        | (refine⟨some [1,0,2,3,12],?_⟩
           cbv
           refine qQ ?_ (caddx (by((try simp only [qV]at *);(try simp only [zQ,zA,zB,zC,zD,zE,zF,zG,zH,zI,zJ,zK,zL,zM,zN,zO,zP,zR,zS]at *);omega))) ?hfit ?hbo
           case hfit=>(cbv;refine qD (qO rfl) ?_;(repeat' (first|exact qB|refine qD ?_ ?_|exact qE (by rfl)|exact qF (by rfl)|exact Fit.refl _|exact qA|refine qC ?_ rfl ?_));done)
           case hbo=>(cbv;(repeat' (first|exact qH|refine qI ?_ ?_|exact qK _|refine qJ ?_|exact qA|exact qE (by rfl)|exact qF (by rfl)|exact Fit.refl _|exact qG _|refine qC ?_ rfl ?_));done)
           try cbv)
        |fail)
    all_goals first
      |((try simp only [qV]at *);(try simp only [zQ,zA,zB,zC,zD,zE,zF,zG,zH,zI,zJ,zK,zL,zM,zN,zO,zP,zR,zS]at *);first|(refine qN ?_;omega)|(simp only [Hold];omega))
      |(subst hR;((have hne:A≠[]:=fun q=>by(rw [q]at hcd;(try simp only [qV]at *);(try simp only [zQ,zA,zB,zC,zD,zE,zF,zG,zH,zI,zJ,zK,zL,zM,zN,zO,zP,zR,zS]at *);simp only [List.length_nil]at hcd;omega));(have e9:=h3.trans (len_stop (by((try simp only [qV]at *);(try simp only [zQ,zA,zB,zC,zD,zE,zF,zG,zH,zI,zJ,zK,zL,zM,zN,zO,zP,zR,zS]at *);omega)) (by rw [←hA];exact hne)));rw [←hA]at e9;rw [e9];exact Fit.refl _);done)
      |(subst hR;((have hz:d.pn.toNat+1-x=0:=by((try simp only [qV]at *);(try simp only [zQ,zA,zB,zC,zD,zE,zF,zG,zH,zI,zJ,zK,zL,zM,zN,zO,zP,zR,zS]at *);omega));rw [hz]at h3;rw [show shortL d.pn.toNat (okPa d)=[]from h3];exact Fit.refl _);done)
      |((try simp only [zQ,zA,zB,zC,zD,zE,zF,zG,zH,zI,zJ,zK,zL,zM,zN,zO,zP,zR,zS]at *);(have hAe:A=[]:=List.length_eq_zero_iff.1 (by((try simp only [qV]at *);(try simp only [zQ,zA,zB,zC,zD,zE,zF,zG,zH,zI,zJ,zK,zL,zM,zN,zO,zP,zR,zS]at *);omega)));refine⟨⟨x+1,by((try simp only [qV]at *);(try simp only [zQ,zA,zB,zC,zD,zE,zF,zG,zH,zI,zJ,zK,zL,zM,zN,zO,zP,zR,zS]at *);omega),by rw [show d.pn.toNat+1-(x+1)=d.pn.toNat+1-x-1 by omega,←len_go (by((try simp only [qV]at *);(try simp only [zQ,zA,zB,zC,zD,zE,zF,zG,zH,zI,zJ,zK,zL,zM,zN,zO,zP,zR,zS]at *);omega)) (hA.symm.trans hAe)];exact h3⟩,by simp only [];omega,?_⟩;cbv;(repeat' (first|with_reducible refine hold ?_ ?_|with_reducible refine And.intro ?_ ?_));(all_goals first|trivial|exact qM (qE (by rfl))|exact qM (qF (by rfl))|exact qM (Fit.refl _)|exact qL (qK _)|(refine qM (qE ?_);(try simp only [qV]at *);simp only [zQ,zA,zB,zC,zD,zE,zF,zG,zH,zI,zJ,zK,zL,zM,zN,zO,zP,zR,zS]at *;omega)|(refine qL (qJ ?_);(repeat' (first|exact qA|exact qB|refine qC ?_ rfl ?_|refine qD ?_ ?_|exact qE (by rfl)|exact qF (by rfl)|exact Fit.refl _|exact qG _|(refine qE ?_;(try simp only [qV]at *);simp only [zQ,zA,zB,zC,zD,zE,zF,zG,zH,zI,zJ,zK,zL,zM,zN,zO,zP,zR,zS]at *;omega)));done)|(simp only [hAe];exact qL (qK _))|(refine qL (ble_row ?_ ?_);(first|rfl|(simp only [hAe];rfl));intro ix h0 h1;exfalso;simp only [hAe]at h1;(try simp only [qV]at *);(try simp only [zQ,zA,zB,zC,zD,zE,zF,zG,zH,zI,zJ,zK,zL,zM,zN,zO,zP,zR,zS]at *);omega)|skip))
      |skip
end Go.Proofs.Ytkdggbfknlcdaaa

namespace Go.Proofs.Ytkdggbfknlcdaaa
open Go.Eng.Dif Go.Eng.Few
def ptD (d:Dsp)(i:Nat):Int:=(d.fs.getD i f0T).p
theorem okFa_is (d:Dsp):okFa d=okF (SN d) (LO d) (FO d d.fs):=funext fun o=>canT_is
theorem okPa_is {d:Dsp}(h:DOk d):okPa d=okP (SN d) (LO d) (FO d d.fs) (ptD d):=by
  funext o
  unfold okPa okP
  rw [canT_is]
  unfold okF
  refine canO_cong (okk h h.f) fun i hi=> ?_
  rw [FO_len]at hi
  unfold outP outL
  have e:(thN d o d.fs.length).contains (i:Int)=inL o (d.fs.getD i f0T).p:=sel_has hi
  rw [e,inL_is]
  rfl
theorem pt_bd {d:Dsp}(h:DOk d):∀i,i<(FO d d.fs).length→0≤ptD d i∧ptD d i<(d.pn.toNat:Int):=by
  intro i hi
  rw [FO_len]at hi
  have q:=h.f i hi
  have:=h.p1
  unfold factP at q
  unfold ptD
  omega
theorem iotaF {d:Dsp}(h:DOk d)(hl:linksB d=true):okFa d (iotaL d.fs.length)=true:=by
  rw [okFa_is]
  have:=okF_all (okk h h.f)
  rw [FO_len]at this
  rw [this,←links_is];exact hl
theorem iotaP {d:Dsp}(h:DOk d)(hl:linksB d=true):okPa d (iotaL d.pn.toNat)=true:=by
  rw [okPa_is h,okP_all (okk h h.f) (pt_bd h),←links_is];exact hl
theorem firm_iotaF {d:Dsp}(h:firmE d=0):okFa d (iotaL d.fs.length)=true:=iotaF (faultD_iff.1 (firmE_ok h).1) (firmE_ok h).2
theorem firm_iotaP {d:Dsp}(h:firmE d=0):okPa d (iotaL d.pn.toNat)=true:=iotaP (faultD_iff.1 (firmE_ok h).1) (firmE_ok h).2
theorem short_first {n:Nat} {ok:List Int→Bool}(h:ok (iotaL n)=true):0<(shortL n ok).length∧(shortL n ok).getD 0 []=fewL n ok:=by
  have:=short_head h
  cases hs:shortL n ok with
  |nil=>rw [hs]at this;cases this
  | cons a l=>
    rw [hs]at this
    refine⟨by simp,?_⟩
    have e:some a=some (fewL n ok):=this
    show a=_
    exact Option.some.inj e
def leaL (d:Dsp):List Int:=if firmE d=0 then fewL d.fs.length (okFa d)else []
def belL (d:Dsp):List Int:=if firmE d=0 then fewL d.pn.toNat (okPa d)else []
end Go.Proofs.Ytkdggbfknlcdaaa

namespace Go.Proofs.Ytkdggbfknlcdaaa
open Go Go.Eng Go.Proofs Go.Eng.Dif Go.Eng.Few
set_option maxRecDepth 10000
theorem smallestFy (d:Dsp)(h:firmE d=0):FSpec Try.prog 57 [(.agg [.clo 88 [] [],.clo 89 [] []]),(dspS d)] [] (fun r _=>r=(.tup [(.sl 1 (.sym fun _=>zi ((leaL d)).length) (fun ix=>[.int .i64 (.sym fun _=>((leaL d)).getD ix.den.toNat 0)])),(.int .i64 (.sym fun _=>firmE d))])):=by
  have c59:=firm59 d h
  have hd:=faultD_iff.1 (firmE_ok h).1
  have hs:=short_first (firm_iotaF h)
  have hsm:leaL d=fewL d.fs.length (okFa d):=if_pos h
  rw [hsm,h,←hs.2]
  have hs1:=hs.1
  have c61:=shortestF d hd
  obtain⟨Q,hQ⟩:∃Q,Q=shortL d.fs.length (okFa d):=⟨_,rfl⟩
  rw [←hQ]at c61 hs1⊢
  refine FSpec.is fun R hR=>qW (sc:=sc57) tyok mix Try.func57 rfl Try.call57 (by kernel_rfl) (by kernel_rfl) ?_
  generalize Try.prog=P at c59 c61⊢
  cbv
  repeat' (first
      |with_reducible refine hold ?_ ?_
      |with_reducible refine And.intro ?_ ?_
      |(with_reducible intro hcd;(try simp only [zA,zB,zC,zD,zE,zF,zG,zH,zI,zJ,zK,zL,zM,zN,zO,zP]at hcd);try cbv)
      | (refine qP ?_ (c59) ?hfit
         case hfit=>((repeat' (first|exact qB|refine qD ?_ ?_|exact qE (by rfl)|exact qF (by rfl)|exact Fit.refl _|exact qA|refine qC ?_ rfl ?_));done)
         try cbv)
      | (refine qP ?_ (c61) ?hfit
         case hfit=>((repeat' (first|exact qB|refine qD ?_ ?_|exact qE (by rfl)|exact qF (by rfl)|exact Fit.refl _|exact qA|refine qC ?_ rfl ?_));done)
         try cbv)
      |fail)
  all_goals first
    |trivial
    |((try simp only [qV]at *);(try simp only [zQ,zA,zB,zC,zD,zE,zF,zG,zH,zI,zJ,zK,zL,zM,zN,zO,zP,zR,zS]at *);first|(refine qN ?_;omega)|(simp only [Hold];omega))
    |(subst hR;(repeat' (first|exact qA|exact qB|refine qC ?_ rfl ?_|refine qD ?_ ?_|exact qE (by rfl)|exact qF (by rfl)|exact Fit.refl _|exact qG _|(refine qE ?_;(try simp only [qV]at *);simp only [zQ,zA,zB,zC,zD,zE,zF,zG,zH,zI,zJ,zK,zL,zM,zN,zO,zP,zR,zS]at *;omega)));done)
    |skip
theorem smallestFn (d:Dsp)(h:¬firmE d=0):FSpec Try.prog 57 [(.agg [.clo 88 [] [],.clo 89 [] []]),(dspS d)] [] (fun r _=>r=(.tup [(.sl 1 (.sym fun _=>zi ((leaL d)).length) (fun ix=>[.int .i64 (.sym fun _=>((leaL d)).getD ix.den.toNat 0)])),(.int .i64 (.sym fun _=>firmE d))])):=by
  have c59:=firm59n d h
  refine FSpec.is fun R hR=>qW (sc:=sc57) tyok mix Try.func57 rfl Try.call57 (by kernel_rfl) (by kernel_rfl) ?_
  generalize Try.prog=P at c59⊢
  cbv
  repeat' (first
      |with_reducible refine And.intro ?_ ?_
      |(with_reducible intro hcd;(try simp only [zA,zB,zC,zD,zE,zF,zG,zH,zI,zJ,zK,zL,zM,zN,zO,zP]at hcd);try cbv)
      | (refine qP ?_ (c59) ?hfit
         case hfit=>((repeat' (first|exact qB|refine qD ?_ ?_|exact qE (by rfl)|exact qF (by rfl)|exact Fit.refl _|exact qA|refine qC ?_ rfl ?_));done)
         try cbv)
      |fail)
  all_goals first
    |trivial
    |(subst hR;(exact qD (qO (by(have e:leaL d=[]:=if_neg h);rw [e];rfl)) (qD (Fit.refl _) qB));done)
    |skip
theorem smallestF (d:Dsp):FSpec Try.prog 57 [(.agg [.clo 88 [] [],.clo 89 [] []]),(dspS d)] [] (fun r _=>r=(.tup [(.sl 1 (.sym fun _=>zi ((leaL d)).length) (fun ix=>[.int .i64 (.sym fun _=>((leaL d)).getD ix.den.toNat 0)])),(.int .i64 (.sym fun _=>firmE d))])):=by
  by_cases h:firmE d=0
  · exact smallestFy d h
  · exact smallestFn d h
theorem leave22 (d:Dsp):FSpec Try.prog 22 [(dspS d)] [] (fun r _=>r=(.tup [(.sl 1 (.sym fun _=>zi ((leaL d)).length) (fun ix=>[.int .i64 (.sym fun _=>((leaL d)).getD ix.den.toNat 0)])),(.int .i64 (.sym fun _=>firmE d))])):=by
  have cb:=byfact56
  have c57:=smallestF d
  refine FSpec.is fun R hR=>qW (sc:=sc22) tyok mix Try.func22 rfl Try.call22 (by kernel_rfl) (by kernel_rfl) ?_
  generalize Try.prog=P at cb c57⊢
  cbv
  repeat' (first
      | (refine qP ?_ (cb) ?hfit
         case hfit=>((repeat' (first|exact qB|refine qD ?_ ?_|exact qE (by rfl)|exact qF (by rfl)|exact Fit.refl _|exact qA|refine qC ?_ rfl ?_));done)
         try cbv)
      | (refine qP ?_ (c57) ?hfit
         case hfit=>((repeat' (first|exact qB|refine qD ?_ ?_|exact qE (by rfl)|exact qF (by rfl)|exact Fit.refl _|exact qA|refine qC ?_ rfl ?_));done)
         try cbv)
      |fail)
  all_goals first
    |(subst hR;(repeat' (first|exact qA|exact qB|refine qC ?_ rfl ?_|refine qD ?_ ?_|exact qE (by rfl)|exact qF (by rfl)|exact Fit.refl _|exact qG _|(refine qE ?_;(try simp only [qV]at *);simp only [zQ,zA,zB,zC,zD,zE,zF,zG,zH,zI,zJ,zK,zL,zM,zN,zO,zP,zR,zS]at *;omega)));done)
    |skip
theorem smallestPy (d:Dsp)(h:firmE d=0):FSpec Try.prog 57 [(.agg [.clo 90 [] [],.clo 91 [] []]),(dspS d)] [] (fun r _=>r=(.tup [(.sl 1 (.sym fun _=>zi ((belL d)).length) (fun ix=>[.int .i64 (.sym fun _=>((belL d)).getD ix.den.toNat 0)])),(.int .i64 (.sym fun _=>firmE d))])):=by
  have c59:=firm59 d h
  have hd:=faultD_iff.1 (firmE_ok h).1
  have hs:=short_first (firm_iotaP h)
  have hsm:belL d=fewL d.pn.toNat (okPa d):=if_pos h
  rw [hsm,h,←hs.2]
  have hs1:=hs.1
  have c61:=shortestP d hd
  obtain⟨Q,hQ⟩:∃Q,Q=shortL d.pn.toNat (okPa d):=⟨_,rfl⟩
  rw [←hQ]at c61 hs1⊢
  refine FSpec.is fun R hR=>qW (sc:=sc57) tyok mix Try.func57 rfl Try.call57 (by kernel_rfl) (by kernel_rfl) ?_
  generalize Try.prog=P at c59 c61⊢
  cbv
  repeat' (first
      |with_reducible refine hold ?_ ?_
      |with_reducible refine And.intro ?_ ?_
      |(with_reducible intro hcd;(try simp only [zA,zB,zC,zD,zE,zF,zG,zH,zI,zJ,zK,zL,zM,zN,zO,zP]at hcd);try cbv)
      | (refine qP ?_ (c59) ?hfit
         case hfit=>((repeat' (first|exact qB|refine qD ?_ ?_|exact qE (by rfl)|exact qF (by rfl)|exact Fit.refl _|exact qA|refine qC ?_ rfl ?_));done)
         try cbv)
      | (refine qP ?_ (c61) ?hfit
         case hfit=>((repeat' (first|exact qB|refine qD ?_ ?_|exact qE (by rfl)|exact qF (by rfl)|exact Fit.refl _|exact qA|refine qC ?_ rfl ?_));done)
         try cbv)
      |fail)
  all_goals first
    |trivial
    |((try simp only [qV]at *);(try simp only [zQ,zA,zB,zC,zD,zE,zF,zG,zH,zI,zJ,zK,zL,zM,zN,zO,zP,zR,zS]at *);first|(refine qN ?_;omega)|(simp only [Hold];omega))
    |(subst hR;(repeat' (first|exact qA|exact qB|refine qC ?_ rfl ?_|refine qD ?_ ?_|exact qE (by rfl)|exact qF (by rfl)|exact Fit.refl _|exact qG _|(refine qE ?_;(try simp only [qV]at *);simp only [zQ,zA,zB,zC,zD,zE,zF,zG,zH,zI,zJ,zK,zL,zM,zN,zO,zP,zR,zS]at *;omega)));done)
    |skip
theorem smallestPn (d:Dsp)(h:¬firmE d=0):FSpec Try.prog 57 [(.agg [.clo 90 [] [],.clo 91 [] []]),(dspS d)] [] (fun r _=>r=(.tup [(.sl 1 (.sym fun _=>zi ((belL d)).length) (fun ix=>[.int .i64 (.sym fun _=>((belL d)).getD ix.den.toNat 0)])),(.int .i64 (.sym fun _=>firmE d))])):=by
  have c59:=firm59n d h
  refine FSpec.is fun R hR=>qW (sc:=sc57) tyok mix Try.func57 rfl Try.call57 (by kernel_rfl) (by kernel_rfl) ?_
  generalize Try.prog=P at c59⊢
  cbv
  repeat' (first
      |with_reducible refine And.intro ?_ ?_
      |(with_reducible intro hcd;(try simp only [zA,zB,zC,zD,zE,zF,zG,zH,zI,zJ,zK,zL,zM,zN,zO,zP]at hcd);try cbv)
      | (refine qP ?_ (c59) ?hfit
         case hfit=>((repeat' (first|exact qB|refine qD ?_ ?_|exact qE (by rfl)|exact qF (by rfl)|exact Fit.refl _|exact qA|refine qC ?_ rfl ?_));done)
         try cbv)
      |fail)
  all_goals first
    |trivial
    |(subst hR;(exact qD (qO (by(have e:belL d=[]:=if_neg h);rw [e];rfl)) (qD (Fit.refl _) qB));done)
    |skip
theorem smallestP (d:Dsp):FSpec Try.prog 57 [(.agg [.clo 90 [] [],.clo 91 [] []]),(dspS d)] [] (fun r _=>r=(.tup [(.sl 1 (.sym fun _=>zi ((belL d)).length) (fun ix=>[.int .i64 (.sym fun _=>((belL d)).getD ix.den.toNat 0)])),(.int .i64 (.sym fun _=>firmE d))])):=by
  by_cases h:firmE d=0
  · exact smallestPy d h
  · exact smallestPn d h
theorem believe23 (d:Dsp):FSpec Try.prog 23 [(dspS d)] [] (fun r _=>r=(.tup [(.sl 1 (.sym fun _=>zi ((belL d)).length) (fun ix=>[.int .i64 (.sym fun _=>((belL d)).getD ix.den.toNat 0)])),(.int .i64 (.sym fun _=>firmE d))])):=by
  have cb:=byparty58
  have c57:=smallestP d
  refine FSpec.is fun R hR=>qW (sc:=sc23) tyok mix Try.func23 rfl Try.call23 (by kernel_rfl) (by kernel_rfl) ?_
  generalize Try.prog=P at cb c57⊢
  cbv
  repeat' (first
      | (refine qP ?_ (cb) ?hfit
         case hfit=>((repeat' (first|exact qB|refine qD ?_ ?_|exact qE (by rfl)|exact qF (by rfl)|exact Fit.refl _|exact qA|refine qC ?_ rfl ?_));done)
         try cbv)
      | (refine qP ?_ (c57) ?hfit
         case hfit=>((repeat' (first|exact qB|refine qD ?_ ?_|exact qE (by rfl)|exact qF (by rfl)|exact Fit.refl _|exact qA|refine qC ?_ rfl ?_));done)
         try cbv)
      |fail)
  all_goals first
    |(subst hR;(repeat' (first|exact qA|exact qB|refine qC ?_ rfl ?_|refine qD ?_ ?_|exact qE (by rfl)|exact qF (by rfl)|exact Fit.refl _|exact qG _|(refine qE ?_;(try simp only [qV]at *);simp only [zQ,zA,zB,zC,zD,zE,zF,zG,zH,zI,zJ,zK,zL,zM,zN,zO,zP,zR,zS]at *;omega)));done)
    |skip
end Go.Proofs.Ytkdggbfknlcdaaa

namespace Go.Proofs.Ytkdggbfknlcdaaa
open Go.Eng.Dif Go.Eng.Few
theorem getD_at {L:List (List Int)} {i:Nat}(h:i<L.length):L.getD i []∈L:=by
  rw [List.getD_eq_getElem?_getD,List.getElem?_eq_getElem h];exact List.getElem_mem h
theorem at_getD {L:List (List Int)} {x:List Int}(h:x∈L):∃i,i<L.length∧L.getD i []=x:=by
  obtain⟨i,h1,h2⟩:=List.getElem_of_mem h
  exact⟨i,h1,by rw [List.getD_eq_getElem?_getD,List.getElem?_eq_getElem h1];exact h2⟩
theorem all_in (L:List (List Int))(p:Int):allB (fun i=>inL (L.getD i []) p) L.length=L.all fun F=>F.contains p:=by
  apply Bool.eq_iff_iff.2
  rw [allB_t,List.all_eq_true]
  constructor
  · intro h x hx
    obtain⟨i,h1,h2⟩:=at_getD hx
    rw [←h2,←inL_is];exact h i h1
  · intro h i hi
    rw [inL_is];exact h _ (getD_at hi)
theorem any_in (L:List (List Int))(p:Int):decide (0≤fidx (fun i=> !(inL (L.getD i []) p)) L.length 0)=L.any fun F=>F.contains p:=by
  apply Bool.eq_iff_iff.2
  rw [decide_eq_true_eq,fidx_iff,List.any_eq_true]
  constructor
  · rintro⟨j,_,h2,h3⟩
    refine⟨L.getD j [],getD_at (by omega),?_⟩
    rw [←inL_is]
    simpa using h3
  · rintro⟨x,hx,hp⟩
    obtain⟨i,h1,h2⟩:=at_getD hx
    refine⟨i,by omega,by omega,?_⟩
    rw [h2,inL_is,hp];rfl
def mstF (d:Dsp):Nat→Bool:=inAll d.pn.toNat (okPa d)
def mayF (d:Dsp):Nat→Bool:=inAny d.pn.toNat (okPa d)
def mstL (d:Dsp):List Int:=if firmE d=0 then selL (mstF d) d.pn.toNat else []
def mayL (d:Dsp):List Int:=if firmE d=0 then selL (mayF d) d.pn.toNat else []
theorem sel_y {f:Nat→Bool} {k:Nat}(h:f k=true):selL f (k+1)=selL f k++[(k:Int)]:=by simp only [selL,h,if_true]
theorem sel_n {f:Nat→Bool} {k:Nat}(h:f k=false):selL f (k+1)=selL f k:=by simp only [selL,h,Bool.false_eq_true,if_false]
theorem sel_len (f:Nat→Bool):∀n,(selL f n).length≤n:=by
  intro n
  induction n with
  |zero=>exact Nat.le_refl _
  | succ n ih=>
    cases h:f n with
    |true=>rw [sel_y h,List.length_append];simp only [List.length_cons,List.length_nil];omega
    |false=>rw [sel_n h];omega
theorem short_few {n:Nat} {ok:List Int→Bool}(hn:n≤4)(h:ok (iotaL n)=true):(shortL n ok).length≤1000∧∀i,((shortL n ok).getD i []).length≤1000:=by
  have hl:∀F∈shortL n ok,F.length≤4:=fun F hF=>by
    have q:=(short_len h).1 hF
    have:=few_len h
    omega
  constructor
  · obtain⟨j,h1,h2,_,_⟩:=short_ne h
    rw [h2]
    exact Nat.le_trans allC_len (Nat.le_trans (Nat.pow_le_pow_left hn j) (Nat.le_trans (Nat.pow_le_pow_right (by omega) (show j≤4 by omega)) (by decide)))
  · intro i
    rcases Nat.lt_or_ge i (shortL n ok).length with q|q
    · have:=hl _ (getD_at q);omega
    · rw [List.getD_eq_getElem?_getD,List.getElem?_eq_none q];simp
end Go.Proofs.Ytkdggbfknlcdaaa

namespace Go.Proofs.Ytkdggbfknlcdaaa
open Go Go.Eng Go.Proofs Go.Eng.Dif Go.Eng.Few
set_option maxRecDepth 10000
theorem wrong62 (x:List Int)(p:Int)(hx:x.length≤1000):FSpec Try.prog 62 [(.sl 1 (.sym fun _=>zi (x).length) (fun ix=>[.int .i64 (.sym fun _=>(x).getD ix.den.toNat 0)])),.own 0 0] [.cells [(.int .i64 (.sym fun _=>p))] 3] (fun r bs=>r=(.bool (.sym fun _=>inL x p))∧bs=[.cells [(.int .i64 (.sym fun _=>p))] 3]):=by
  have c63:=contains63 x p hx
  refine FSpec.isB rfl fun R B hR hB=>qW (sc:=sc62) tyok mix Try.func62 rfl Try.call62 (by kernel_rfl) (by kernel_rfl) ?_
  generalize Try.prog=P at c63⊢
  cbv
  repeat' (first
      |with_reducible refine And.intro ?_ ?_
      | (refine qP ?_ (c63) ?hfit
         case hfit=>((repeat' (first|exact qB|refine qD ?_ ?_|exact qE (by rfl)|exact qF (by rfl)|exact Fit.refl _|exact qA|refine qC ?_ rfl ?_));done)
         try cbv)
      |fail)
  all_goals first
    |(subst hR;(repeat' (first|exact qA|exact qB|refine qC ?_ rfl ?_|refine qD ?_ ?_|exact qE (by rfl)|exact qF (by rfl)|exact Fit.refl _|exact qG _|(refine qE ?_;(try simp only [qV]at *);simp only [zQ,zA,zB,zC,zD,zE,zF,zG,zH,zI,zJ,zK,zL,zM,zN,zO,zP,zR,zS]at *;omega)));done)
    |(subst hB;(repeat' (first|exact qH|refine qI ?_ ?_|exact qK _|refine qJ ?_|exact qA|exact qE (by rfl)|exact qF (by rfl)|exact Fit.refl _|exact qG _|refine qC ?_ rfl ?_));done)
    |skip
theorem lam96_must (L:List (List Int))(p:Int)(hL:∀i,(L.getD i []).length≤1000)(hfew:L.length≤1000)(i:Nat)(hi:i<L.length∧∀j,j<i→(inL (L.getD (j) []) p)=true):FSpec Try.prog 96 [(.sl 1 (.sym fun _=>zi ((L.getD (i) [])).length) (fun ix=>[.int .i64 (.sym fun _=>((L.getD (i) [])).getD ix.den.toNat 0)])),.own 0 0] [.cells [.clo 62 [] [.own 1 0]] 119,.cells [(.int .i64 (.sym fun _=>p))] 3] (fun r bs=>r=(.bool (.sym fun _=> !(inL (L.getD (i) []) p)))∧bs=[.cells [.clo 62 [] [.own 1 0]] 119,.cells [(.int .i64 (.sym fun _=>p))] 3]):=by
  have cf:=wrong62 (L.getD i []) p (hL i)
  refine FSpec.isB rfl fun R B hR hB=>qW (sc:=sc96) tyok mix Try.func96 rfl Try.call96 (by kernel_rfl) (by kernel_rfl) ?_
  generalize Try.prog=P at cf⊢
  cbv
  repeat' (first
      |with_reducible refine And.intro ?_ ?_
      | (refine⟨some [1],?_⟩
         cbv
         refine qQ ?_ (cf) (by cbv;(repeat' (first|exact qB|refine qD ?_ ?_|exact qE (by rfl)|exact qF (by rfl)|exact Fit.refl _|exact qA|refine qC ?_ rfl ?_))) (by cbv;(repeat' (first|exact qH|refine qI ?_ ?_|exact qK _|refine qJ ?_|exact qA|exact qE (by rfl)|exact qF (by rfl)|exact Fit.refl _|exact qG _|refine qC ?_ rfl ?_)))
         try cbv)
      |fail)
  all_goals first
    |(subst hR;(repeat' (first|exact qA|exact qB|refine qC ?_ rfl ?_|refine qD ?_ ?_|exact qE (by rfl)|exact qF (by rfl)|exact Fit.refl _|exact qG _|(refine qE ?_;(try simp only [qV]at *);simp only [zQ,zA,zB,zC,zD,zE,zF,zG,zH,zI,zJ,zK,zL,zM,zN,zO,zP,zR,zS]at *;omega)));done)
    |(subst hB;(repeat' (first|exact qH|refine qI ?_ ?_|exact qK _|refine qJ ?_|exact qA|exact qE (by rfl)|exact qF (by rfl)|exact Fit.refl _|exact qG _|refine qC ?_ rfl ?_));done)
    |skip
theorem idx97_must (L:List (List Int))(p:Int)(hL:∀i,(L.getD i []).length≤1000)(hfew:L.length≤1000):FSpec Try.prog 97 [(.sl 1 (.sym fun _=>zi (L).length) (fun ix=>[(.sl 1 (.sym fun _=>zi ((L).getD ix.den.toNat []).length) (fun jx=>[.int .i64 (.sym fun _=>((L).getD ix.den.toNat []).getD jx.den.toNat 0)]))])),.clo 96 [] [.own 0 0]] [.cells [.clo 62 [] [.own 1 0]] 119,.cells [(.int .i64 (.sym fun _=>p))] 3] (fun r bs=>r=(.int .i64 (.sym fun _=>fidx (fun i=>inL (L.getD (i) []) p) (L.length) 0))∧bs=[.cells [.clo 62 [] [.own 1 0]] 119,.cells [(.int .i64 (.sym fun _=>p))] 3]):=by
  have cl:=lam96_must L p hL hfew
  refine FSpec.isB rfl fun R B hR hB=>qW (sc:=sc97) tyok mix Try.func97 rfl Try.call97 (by kernel_rfl) (by kernel_rfl) ?_
  generalize Try.prog=P at cl⊢
  cbv
  repeat' (first
      |fail)
  all_goals first
    |skip
  refine⟨none,[],{i:Nat // i≤L.length∧fidx (fun i=>inL (L.getD (i) []) p) (L.length) 0=fidx (fun i=>inL (L.getD (i) []) p) (L.length-i) i∧∀j,j<i→(inL (L.getD (j) []) p)=true},fun x=>⟨[(0,(.sl 1 (.sym fun _=>zi (L).length) (fun ix=>[(.sl 1 (.sym fun _=>zi ((L).getD ix.den.toNat []).length) (fun jx=>[.int .i64 (.sym fun _=>((L).getD ix.den.toNat []).getD jx.den.toNat 0)]))]))),(1,.clo 96 [] [.own 0 0]),(7,(.int .i64 (.sym fun _=>zi (L.length)))),(8,(.int .i64 (.sym fun _=>zi x.1)))],[(0,.cells [.clo 62 [] [.own 1 0]] 119),(1,.cells [(.int .i64 (.sym fun _=>p))] 3)],20⟩,fun x=>L.length-x.1,?_,?_⟩
  · refine⟨⟨0,by omega,rfl,fun j hj=>by omega⟩,?_⟩
    cbv
    repeat' (first
      |with_reducible refine hold ?_ ?_
      |with_reducible refine And.intro ?_ ?_)
    all_goals first
      |trivial
      |exact qM (qE (by rfl))
      |exact qM (Fit.refl _)
      |exact qL (qK _)
      |skip
  · rintro ⟨i,hi,hr,hq⟩
    cbv
    repeat' (first
        |with_reducible refine hold ?_ ?_
        |with_reducible refine And.intro ?_ ?_
        |(with_reducible intro hcd;(try simp only [zA,zB,zC,zD,zE,zF,zG,zH,zI,zJ,zK,zL,zM,zN,zO,zP]at hcd);try cbv)
        | (refine⟨some [0,1],?_⟩
           cbv
           refine qQ ?_ (cl i ⟨by(try simp only [qV]at *);simp only [zi_den]at *;omega,hq⟩) (by cbv;(repeat' (first|exact qB|refine qD ?_ ?_|exact qE (by rfl)|exact qF (by rfl)|exact Fit.refl _|exact qA|refine qC ?_ rfl ?_))) (by cbv;(repeat' (first|exact qH|refine qI ?_ ?_|exact qK _|refine qJ ?_|exact qA|exact qE (by rfl)|exact qF (by rfl)|exact Fit.refl _|exact qG _|refine qC ?_ rfl ?_)))
           try cbv)
        |fail)
    all_goals first
      |((try simp only [qV]at *);(try simp only [zQ,zA,zB,zC,zD,zE,zF,zG,zH,zI,zJ,zK,zL,zM,zN,zO,zP,zR,zS]at *);first|(refine qN ?_;omega)|(simp only [Hold];omega))
      |(subst hR;(refine qE ?_;simp only [zQ,zA,zB,zC,zD,zE,zF,zG,zH,zI,zJ,zK,zL,zM,zN,zO,zP,zR,zS]at *;rw [hr,fidx_stop (by omega) hcd]);done)
      |(subst hR;(refine qE ?_;simp only [zQ,zA,zB,zC,zD,zE,zF,zG,zH,zI,zJ,zK,zL,zM,zN,zO,zP,zR,zS]at *;rw [hr,show L.length-i=0 by omega];rfl);done)
      |(subst hB;(repeat' (first|exact qH|refine qI ?_ ?_|exact qK _|refine qJ ?_|exact qA|exact qE (by rfl)|exact qF (by rfl)|exact Fit.refl _|exact qG _|refine qC ?_ rfl ?_));done)
      |((try simp only [zQ,zA,zB,zC,zD,zE,zF,zG,zH,zI,zJ,zK,zL,zM,zN,zO,zP,zR,zS]at *);refine⟨⟨i+1,by omega,by rw [hr,fidx_go (by omega) hcd];(try congr 1)<;>omega,fun j hj=>(Nat.lt_or_ge j i).elim (hq j) (fun q=>by rw [show j=i by omega];exact hcd)⟩,by simp only [];omega,?_⟩;cbv;(repeat' (first|with_reducible refine hold ?_ ?_|with_reducible refine And.intro ?_ ?_));(all_goals first|trivial|exact qM (qE (by rfl))|exact qM (qF (by rfl))|exact qM (Fit.refl _)|exact qL (qK _)|(refine qM (qE ?_);(try simp only [qV]at *);simp only [zQ,zA,zB,zC,zD,zE,zF,zG,zH,zI,zJ,zK,zL,zM,zN,zO,zP,zR,zS]at *;omega)|(refine qL (qJ ?_);(repeat' (first|exact qA|exact qB|refine qC ?_ rfl ?_|refine qD ?_ ?_|exact qE (by rfl)|exact qF (by rfl)|exact Fit.refl _|exact qG _|(refine qE ?_;(try simp only [qV]at *);simp only [zQ,zA,zB,zC,zD,zE,zF,zG,zH,zI,zJ,zK,zL,zM,zN,zO,zP,zR,zS]at *;omega)));done)|skip))
      |skip
theorem cont65_must (L:List (List Int))(p:Int)(hL:∀i,(L.getD i []).length≤1000)(hfew:L.length≤1000):FSpec Try.prog 65 [(.sl 1 (.sym fun _=>zi (L).length) (fun ix=>[(.sl 1 (.sym fun _=>zi ((L).getD ix.den.toNat []).length) (fun jx=>[.int .i64 (.sym fun _=>((L).getD ix.den.toNat []).getD jx.den.toNat 0)]))])),.clo 96 [] [.own 0 0]] [.cells [.clo 62 [] [.own 1 0]] 119,.cells [(.int .i64 (.sym fun _=>p))] 3] (fun r bs=>r=(.bool (.sym fun _=>decide (0≤fidx (fun i=>inL (L.getD (i) []) p) (L.length) 0)))∧bs=[.cells [.clo 62 [] [.own 1 0]] 119,.cells [(.int .i64 (.sym fun _=>p))] 3]):=by
  have ci:=idx97_must L p hL hfew
  refine FSpec.isB rfl fun R B hR hB=>qW (sc:=sc65) tyok mix Try.func65 rfl Try.call65 (by kernel_rfl) (by kernel_rfl) ?_
  generalize Try.prog=P at ci⊢
  cbv
  repeat' (first
      |with_reducible refine And.intro ?_ ?_
      | (refine⟨some [0,1],?_⟩
         cbv
         refine qQ ?_ (ci) (by cbv;(repeat' (first|exact qB|refine qD ?_ ?_|exact qE (by rfl)|exact qF (by rfl)|exact Fit.refl _|exact qA|refine qC ?_ rfl ?_))) (by cbv;(repeat' (first|exact qH|refine qI ?_ ?_|exact qK _|refine qJ ?_|exact qA|exact qE (by rfl)|exact qF (by rfl)|exact Fit.refl _|exact qG _|refine qC ?_ rfl ?_)))
         try cbv)
      |fail)
  all_goals first
    |(subst hR;(repeat' (first|exact qA|exact qB|refine qC ?_ rfl ?_|refine qD ?_ ?_|exact qE (by rfl)|exact qF (by rfl)|exact Fit.refl _|exact qG _|(refine qE ?_;(try simp only [qV]at *);simp only [zQ,zA,zB,zC,zD,zE,zF,zG,zH,zI,zJ,zK,zL,zM,zN,zO,zP,zR,zS]at *;omega)));done)
    |(subst hB;(repeat' (first|exact qH|refine qI ?_ ?_|exact qK _|refine qJ ?_|exact qA|exact qE (by rfl)|exact qF (by rfl)|exact Fit.refl _|exact qG _|refine qC ?_ rfl ?_));done)
    |skip
theorem all64_must (L:List (List Int))(p:Int)(hL:∀i,(L.getD i []).length≤1000)(hfew:L.length≤1000):FSpec Try.prog 64 [(.sl 1 (.sym fun _=>zi (L).length) (fun ix=>[(.sl 1 (.sym fun _=>zi ((L).getD ix.den.toNat []).length) (fun jx=>[.int .i64 (.sym fun _=>((L).getD ix.den.toNat []).getD jx.den.toNat 0)]))])),.clo 62 [] [.own 0 0]] [.cells [(.int .i64 (.sym fun _=>p))] 3] (fun r bs=>r=(.bool (.sym fun _=>allB (fun i=>inL (L.getD (i) []) p) (L.length)))∧bs=[.cells [(.int .i64 (.sym fun _=>p))] 3]):=by
  have cc:=cont65_must L p hL hfew
  refine FSpec.isB rfl fun R B hR hB=>qW (sc:=sc64) tyok mix Try.func64 rfl Try.call64 (by kernel_rfl) (by kernel_rfl) ?_
  generalize Try.prog=P at cc⊢
  cbv
  repeat' (first
      |with_reducible refine And.intro ?_ ?_
      | (refine⟨some [1,0],?_⟩
         cbv
         refine qQ ?_ (cc) (by cbv;(repeat' (first|exact qB|refine qD ?_ ?_|exact qE (by rfl)|exact qF (by rfl)|exact Fit.refl _|exact qA|refine qC ?_ rfl ?_))) (by cbv;(repeat' (first|exact qH|refine qI ?_ ?_|exact qK _|refine qJ ?_|exact qA|exact qE (by rfl)|exact qF (by rfl)|exact Fit.refl _|exact qG _|refine qC ?_ rfl ?_)))
         try cbv)
      |fail)
  all_goals first
    |(subst hR;(repeat' (first|exact qA|exact qB|refine qC ?_ rfl ?_|refine qD ?_ ?_|exact qE (by rfl)|exact qF (by rfl)|exact Fit.refl _|exact qG _|(refine qE ?_;(try simp only [qV]at *);simp only [zQ,zA,zB,zC,zD,zE,zF,zG,zH,zI,zJ,zK,zL,zM,zN,zO,zP,zR,zS]at *;omega)));done)
    |(subst hB;(repeat' (first|exact qH|refine qI ?_ ?_|exact qK _|refine qJ ?_|exact qA|exact qE (by rfl)|exact qF (by rfl)|exact Fit.refl _|exact qG _|refine qC ?_ rfl ?_));done)
    |skip
theorem idx97_any (L:List (List Int))(p:Int)(hL:∀i,(L.getD i []).length≤1000)(hfew:L.length≤1000):FSpec Try.prog 97 [(.sl 1 (.sym fun _=>zi (L).length) (fun ix=>[(.sl 1 (.sym fun _=>zi ((L).getD ix.den.toNat []).length) (fun jx=>[.int .i64 (.sym fun _=>((L).getD ix.den.toNat []).getD jx.den.toNat 0)]))])),.clo 62 [] [.own 0 0]] [.cells [(.int .i64 (.sym fun _=>p))] 3] (fun r bs=>r=(.int .i64 (.sym fun _=>fidx (fun i=> !(inL (L.getD i []) p)) L.length 0))∧bs=[.cells [(.int .i64 (.sym fun _=>p))] 3]):=by
  have c62:=fun (i:Nat)=>wrong62 (L.getD i []) p (hL i)
  refine FSpec.isB rfl fun R B hR hB=>qW (sc:=sc97) tyok mix Try.func97 rfl Try.call97 (by kernel_rfl) (by kernel_rfl) ?_
  generalize Try.prog=P at c62⊢
  cbv
  repeat' (first
      |fail)
  all_goals first
    |skip
  refine⟨none,[],{i:Nat // i≤L.length∧fidx (fun i=> !(inL (L.getD i []) p)) L.length 0=fidx (fun i=> !(inL (L.getD i []) p)) (L.length-i) i},fun x=>⟨[(0,(.sl 1 (.sym fun _=>zi (L).length) (fun ix=>[(.sl 1 (.sym fun _=>zi ((L).getD ix.den.toNat []).length) (fun jx=>[.int .i64 (.sym fun _=>((L).getD ix.den.toNat []).getD jx.den.toNat 0)]))]))),(1,.clo 62 [] [.own 0 0]),(7,(.int .i64 (.sym fun _=>zi L.length))),(8,(.int .i64 (.sym fun _=>zi x.1)))],[(0,.cells [(.int .i64 (.sym fun _=>p))] 3)],20⟩,fun x=>L.length-x.1,?_,?_⟩
  · refine⟨⟨0,by omega,rfl⟩,?_⟩
    cbv
    repeat' (first
      |with_reducible refine hold ?_ ?_
      |with_reducible refine And.intro ?_ ?_)
    all_goals first
      |trivial
      |exact qM (qE (by rfl))
      |exact qM (Fit.refl _)
      |exact qL (qK _)
      |skip
  · rintro ⟨i,hi,hr⟩
    cbv
    repeat' (first
        |with_reducible refine hold ?_ ?_
        |with_reducible refine And.intro ?_ ?_
        |(with_reducible intro hcd;(try simp only [zA,zB,zC,zD,zE,zF,zG,zH,zI,zJ,zK,zL,zM,zN,zO,zP]at hcd);try cbv)
        | (refine⟨some [0],?_⟩
           cbv
           refine qQ ?_ (c62 i) ?hfit ?hbo
           case hfit=>(cbv;(repeat' (first|exact qB|refine qD ?_ ?_|exact qE (by rfl)|exact qF (by rfl)|exact Fit.refl _|exact qA|refine qC ?_ rfl ?_));done)
           case hbo=>(cbv;(repeat' (first|exact qH|refine qI ?_ ?_|exact qK _|refine qJ ?_|exact qA|exact qE (by rfl)|exact qF (by rfl)|exact Fit.refl _|exact qG _|refine qC ?_ rfl ?_));done)
           try cbv)
        |fail)
    all_goals first
      |((try simp only [qV]at *);(try simp only [zQ,zA,zB,zC,zD,zE,zF,zG,zH,zI,zJ,zK,zL,zM,zN,zO,zP,zR,zS]at *);first|(refine qN ?_;omega)|(simp only [Hold];omega))
      |(subst hR;(refine qE ?_;(try simp only [qV]at *);(try simp only [zQ,zA,zB,zC,zD,zE,zF,zG,zH,zI,zJ,zK,zL,zM,zN,zO,zP,zR,zS]at *);rw [hr,fidx_stop (by omega) (by rw [hcd];rfl)]);done)
      |(subst hR;(refine qE ?_;(try simp only [qV]at *);(try simp only [zQ,zA,zB,zC,zD,zE,zF,zG,zH,zI,zJ,zK,zL,zM,zN,zO,zP,zR,zS]at *);rw [hr,show L.length-i=0 by omega];rfl);done)
      |(subst hB;(repeat' (first|exact qH|refine qI ?_ ?_|exact qK _|refine qJ ?_|exact qA|exact qE (by rfl)|exact qF (by rfl)|exact Fit.refl _|exact qG _|refine qC ?_ rfl ?_));done)
      |((try simp only [zQ,zA,zB,zC,zD,zE,zF,zG,zH,zI,zJ,zK,zL,zM,zN,zO,zP,zR,zS]at *);refine⟨⟨i+1,by omega,by rw [hr,fidx_go (by omega) (by rw [hcd];rfl)];(try congr 1)<;>omega⟩,by simp only [];omega,?_⟩;cbv;(repeat' (first|with_reducible refine hold ?_ ?_|with_reducible refine And.intro ?_ ?_));(all_goals first|trivial|exact qM (qE (by rfl))|exact qM (qF (by rfl))|exact qM (Fit.refl _)|exact qL (qK _)|(refine qM (qE ?_);(try simp only [qV]at *);simp only [zQ,zA,zB,zC,zD,zE,zF,zG,zH,zI,zJ,zK,zL,zM,zN,zO,zP,zR,zS]at *;omega)|(refine qL (qJ ?_);(repeat' (first|exact qA|exact qB|refine qC ?_ rfl ?_|refine qD ?_ ?_|exact qE (by rfl)|exact qF (by rfl)|exact Fit.refl _|exact qG _|(refine qE ?_;(try simp only [qV]at *);simp only [zQ,zA,zB,zC,zD,zE,zF,zG,zH,zI,zJ,zK,zL,zM,zN,zO,zP,zR,zS]at *;omega)));done)|skip))
      |skip
theorem cont65_any (L:List (List Int))(p:Int)(hL:∀i,(L.getD i []).length≤1000)(hfew:L.length≤1000):FSpec Try.prog 65 [(.sl 1 (.sym fun _=>zi (L).length) (fun ix=>[(.sl 1 (.sym fun _=>zi ((L).getD ix.den.toNat []).length) (fun jx=>[.int .i64 (.sym fun _=>((L).getD ix.den.toNat []).getD jx.den.toNat 0)]))])),.clo 62 [] [.own 0 0]] [.cells [(.int .i64 (.sym fun _=>p))] 3] (fun r bs=>r=(.bool (.sym fun _=>decide (0≤fidx (fun i=> !(inL (L.getD i []) p)) L.length 0)))∧bs=[.cells [(.int .i64 (.sym fun _=>p))] 3]):=by
  have c97:=idx97_any L p hL hfew
  refine FSpec.isB rfl fun R B hR hB=>qW (sc:=sc65) tyok mix Try.func65 rfl Try.call65 (by kernel_rfl) (by kernel_rfl) ?_
  generalize Try.prog=P at c97⊢
  cbv
  repeat' (first
      |with_reducible refine And.intro ?_ ?_
      | (refine⟨some [0],?_⟩
         cbv
         refine qQ ?_ (c97) ?hfit ?hbo
         case hfit=>(cbv;(repeat' (first|exact qB|refine qD ?_ ?_|exact qE (by rfl)|exact qF (by rfl)|exact Fit.refl _|exact qA|refine qC ?_ rfl ?_));done)
         case hbo=>(cbv;(repeat' (first|exact qH|refine qI ?_ ?_|exact qK _|refine qJ ?_|exact qA|exact qE (by rfl)|exact qF (by rfl)|exact Fit.refl _|exact qG _|refine qC ?_ rfl ?_));done)
         try cbv)
      |fail)
  all_goals first
    |(subst hR;(repeat' (first|exact qA|exact qB|refine qC ?_ rfl ?_|refine qD ?_ ?_|exact qE (by rfl)|exact qF (by rfl)|exact Fit.refl _|exact qG _|(refine qE ?_;(try simp only [qV]at *);simp only [zQ,zA,zB,zC,zD,zE,zF,zG,zH,zI,zJ,zK,zL,zM,zN,zO,zP,zR,zS]at *;omega)));done)
    |(subst hB;(repeat' (first|exact qH|refine qI ?_ ?_|exact qK _|refine qJ ?_|exact qA|exact qE (by rfl)|exact qF (by rfl)|exact Fit.refl _|exact qG _|refine qC ?_ rfl ?_));done)
    |skip
end Go.Proofs.Ytkdggbfknlcdaaa

namespace Go.Proofs.Ytkdggbfknlcdaaa
open Go Go.Eng Go.Proofs Go.Eng.Dif Go.Eng.Few
set_option maxRecDepth 10000
set_option maxHeartbeats 2000000 in
theorem blame33y (d:Dsp)(h:firmE d=0):FSpec Try.prog 33 [(dspS d)] [] (fun r _=>r=(.tup [(.sl 1 (.sym fun _=>zi ((mstL d)).length) (fun ix=>[.int .i64 (.sym fun _=>((mstL d)).getD ix.den.toNat 0)])),(.sl 1 (.sym fun _=>zi ((mayL d)).length) (fun ix=>[.int .i64 (.sym fun _=>((mayL d)).getD ix.den.toNat 0)])),(.int .i64 (.sym fun _=>firmE d))])):=by
  have c59:=firm59 d h
  have c58:=byparty58
  have hF:=(firmE_ok h).1
  have hd:=faultD_iff.1 hF
  have p1:=hd.p1
  have p4:=hd.p4
  have c61:=shortestP d hd
  have hsf:=short_few (n:=d.pn.toNat) (ok:=okPa d) (by omega) (firm_iotaP h)
  rw [show mstL d=selL (mstF d) d.pn.toNat from if_pos h,show mayL d=selL (mayF d) d.pn.toNat from if_pos h,h]
  have hA:∀k:Nat,allB (fun i=>inL ((shortL d.pn.toNat (okPa d)).getD i []) (zi k)) (shortL d.pn.toNat (okPa d)).length=mstF d k:=fun k=>all_in _ _
  have hB:∀k:Nat,decide (0≤fidx (fun i=> !(inL ((shortL d.pn.toNat (okPa d)).getD i []) (zi k))) (shortL d.pn.toNat (okPa d)).length 0)=mayF d k:=fun k=>any_in _ _
  obtain⟨L,hL⟩:∃L,L=shortL d.pn.toNat (okPa d):=⟨_,rfl⟩
  rw [←hL]at c61 hsf
  simp only [←hL]at hA hB
  have c64:=fun k:Nat=>(show FSpec Try.prog 64 [(.sl 1 (.sym fun _=>zi (L).length) (fun ix=>[(.sl 1 (.sym fun _=>zi ((L).getD ix.den.toNat []).length) (fun jx=>[.int .i64 (.sym fun _=>((L).getD ix.den.toNat []).getD jx.den.toNat 0)]))])),.clo 62 [] [.own 0 0]] [.cells [(.int .i64 (.sym fun _=>zi k))] 3] (fun r bs=>r=(.bool (.sym fun _=>mstF d k))∧bs=[.cells [(.int .i64 (.sym fun _=>zi k))] 3])from hA k▸all64_must L (zi k) hsf.2 hsf.1)
  have c65:=fun k:Nat=>(show FSpec Try.prog 65 [(.sl 1 (.sym fun _=>zi (L).length) (fun ix=>[(.sl 1 (.sym fun _=>zi ((L).getD ix.den.toNat []).length) (fun jx=>[.int .i64 (.sym fun _=>((L).getD ix.den.toNat []).getD jx.den.toNat 0)]))])),.clo 62 [] [.own 0 0]] [.cells [(.int .i64 (.sym fun _=>zi k))] 3] (fun r bs=>r=(.bool (.sym fun _=>mayF d k))∧bs=[.cells [(.int .i64 (.sym fun _=>zi k))] 3])from hB k▸cont65_any L (zi k) hsf.2 hsf.1)
  obtain⟨fA,hfA⟩:∃f,f=mstF d:=⟨_,rfl⟩
  obtain⟨fB,hfB⟩:∃f,f=mayF d:=⟨_,rfl⟩
  rw [←hfA]at c64⊢
  rw [←hfB]at c65⊢
  clear hA hB hL hfA hfB
  refine FSpec.is fun R hR=>qW (sc:=sc33) tyok mix Try.func33 rfl Try.call33 (by kernel_rfl) (by kernel_rfl) ?_
  generalize Try.prog=P at c59 c58 c61 c64 c65⊢
  cbv
  repeat' (first
      |with_reducible refine And.intro ?_ ?_
      |(with_reducible intro hcd;(try simp only [zA,zB,zC,zD,zE,zF,zG,zH,zI,zJ,zK,zL,zM,zN,zO,zP]at hcd);try cbv)
      | (refine qP ?_ (c59) ?hfit
         case hfit=>((repeat' (first|exact qB|refine qD ?_ ?_|exact qE (by rfl)|exact qF (by rfl)|exact Fit.refl _|exact qA|refine qC ?_ rfl ?_));done)
         try cbv)
      | (refine qP ?_ (c58) ?hfit
         case hfit=>((repeat' (first|exact qB|refine qD ?_ ?_|exact qE (by rfl)|exact qF (by rfl)|exact Fit.refl _|exact qA|refine qC ?_ rfl ?_));done)
         try cbv)
      | (refine qP ?_ (c61) ?hfit
         case hfit=>((repeat' (first|exact qB|refine qD ?_ ?_|exact qE (by rfl)|exact qF (by rfl)|exact Fit.refl _|exact qA|refine qC ?_ rfl ?_));done)
         try cbv)
      |fail)
  all_goals first
    |trivial
    |skip
  refine⟨none,[⟨.tmp 2,3,1⟩,⟨.tmp 3,3,1⟩],{k:Nat // k≤d.pn.toNat},fun x=>⟨[(1,.own 0 0),(6,(.sl 1 (.sym fun _=>zi (L).length) (fun ix=>[(.sl 1 (.sym fun _=>zi ((L).getD ix.den.toNat []).length) (fun jx=>[.int .i64 (.sym fun _=>((L).getD ix.den.toNat []).getD jx.den.toNat 0)]))]))),(2,.row 20),(3,.row 21),(21,(.int .i64 (.sym fun _=>d.pn))),(22,(.int .i64 (.sym fun _=>zi x.1)))],[(0,.cells [(.sl 1 (.sym fun _=>zi (d.tw).length) (fun ix=>[.int .i64 (.sym fun _=>(d.tw).getD ix.den.toNat 0)])),(.sl 1 (.sym fun _=>zi (d.tm).length) (fun ix=>[.int .i64 (.sym fun _=>(d.tm).getD ix.den.toNat 0)])),(.sl 1 (.sym fun _=>zi (d.tv).length) (fun ix=>[(.sl 1 (.sym fun _=>zi ((d.tv).getD ix.den.toNat []).length) (fun jx=>[.int .i64 (.sym fun _=>((d.tv).getD ix.den.toNat []).getD jx.den.toNat 0)]))])),(.int .i64 (.sym fun _=>d.sn)),(.int .i64 (.sym fun _=>d.pn)),(.sl 4 (.sym fun _=>zi (d.ls).length) (fun ix=>[(.int .i64 (.sym fun _=>((d.ls).getD ix.den.toNat l0T).a)),(.int .i64 (.sym fun _=>((d.ls).getD ix.den.toNat l0T).b)),(.int .i64 (.sym fun _=>((d.ls).getD ix.den.toNat l0T).lo)),(.int .i64 (.sym fun _=>((d.ls).getD ix.den.toNat l0T).hi))])),(.sl 6 (.sym fun _=>zi (d.fs).length) (fun ix=>[(.int .i64 (.sym fun _=>((d.fs).getD ix.den.toNat f0T).p)),(.int .i64 (.sym fun _=>((d.fs).getD ix.den.toNat f0T).s)),(.int .i64 (.sym fun _=>((d.fs).getD ix.den.toNat f0T).wl)),(.int .i64 (.sym fun _=>((d.fs).getD ix.den.toNat f0T).wh)),(.int .i64 (.sym fun _=>((d.fs).getD ix.den.toNat f0T).ml)),(.int .i64 (.sym fun _=>((d.fs).getD ix.den.toNat f0T).mh))]))] 41),(20,.row 3 1 (.sym fun _=>zi ((selL fA x.1)).length) (fun ix=>[.int .i64 (.sym fun _=>((selL fA x.1)).getD ix.den.toNat 0)])),(21,.row 3 1 (.sym fun _=>zi ((selL fB x.1)).length) (fun ix=>[.int .i64 (.sym fun _=>((selL fB x.1)).getD ix.den.toNat 0)]))],100⟩,fun x=>d.pn.toNat-x.1,?_,?_⟩
  · refine⟨⟨0,by omega⟩,?_⟩
    cbv
    repeat' (first
      |with_reducible refine hold ?_ ?_
      |with_reducible refine And.intro ?_ ?_)
    all_goals first
      |trivial
      |exact qM (qE (by rfl))
      |exact qM (Fit.refl _)
      |exact qL (qK _)
      |(refine qL (ble_row ?_ ?_);(first|rfl|((try simp only [qV]at *);(try simp only [zQ,zA,zB,zC,zD,zE,zF,zG,zH,zI,zJ,zK,zL,zM,zN,zO,zP,zR,zS]at *);omega));intro ix h0 h1;exfalso;(try simp only [qV]at *);(try simp only [zQ,zA,zB,zC,zD,zE,zF,zG,zH,zI,zJ,zK,zL,zM,zN,zO,zP,zR,zS]at *);omega)
      |skip
  · rintro ⟨k,hk⟩
    cbv
    have hl1:=sel_len fA k
    have hl2:=sel_len fB k
    have hyA:=sel_y (f:=fA) (k:=k)
    have hnA:=sel_n (f:=fA) (k:=k)
    have hyB:=sel_y (f:=fB) (k:=k)
    have hnB:=sel_n (f:=fB) (k:=k)
    obtain⟨M1,hM1⟩:∃M,M=selL fA k:=⟨_,rfl⟩
    obtain⟨M2,hM2⟩:∃M,M=selL fB k:=⟨_,rfl⟩
    rw [←hM1]at hl1 hyA hnA⊢
    rw [←hM2]at hl2 hyB hnB⊢
    have c64k:=c64 k
    have c65k:=c65 k
    rcases hfa:fA k with _|_<;>rcases hfb:fB k with _|_
    · rw [hfa]at c64k
      rw [hfb]at c65k
      cbv
      repeat' (first
          |with_reducible refine hold ?_ ?_
          |with_reducible refine And.intro ?_ ?_
          |(with_reducible intro hcd;(try simp only [zA,zB,zC,zD,zE,zF,zG,zH,zI,zJ,zK,zL,zM,zN,zO,zP]at hcd);try cbv)
          | (refine⟨some [102],?_⟩
             cbv
             refine qQ ?_ (c64k) ?hfit ?hbo
             case hfit=>(cbv;(repeat' (first|exact qB|refine qD ?_ ?_|exact qE (by rfl)|exact qF (by rfl)|exact Fit.refl _|exact qA|refine qC ?_ rfl ?_));done)
             case hbo=>(cbv;(repeat' (first|exact qH|refine qI ?_ ?_|exact qK _|refine qJ ?_|exact qA|exact qE (by rfl)|exact qF (by rfl)|exact Fit.refl _|exact qG _|refine qC ?_ rfl ?_));done)
             try cbv)
          | (refine⟨some [102],?_⟩
             cbv
             refine qQ ?_ (c65k) ?hfit ?hbo
             case hfit=>(cbv;(repeat' (first|exact qB|refine qD ?_ ?_|exact qE (by rfl)|exact qF (by rfl)|exact Fit.refl _|exact qA|refine qC ?_ rfl ?_));done)
             case hbo=>(cbv;(repeat' (first|exact qH|refine qI ?_ ?_|exact qK _|refine qJ ?_|exact qA|exact qE (by rfl)|exact qF (by rfl)|exact Fit.refl _|exact qG _|refine qC ?_ rfl ?_));done)
             try cbv)
          | (obtain⟨L3,eL3⟩:∃y:List Int,y=M1++[zi k]:=⟨_,rfl⟩
             refine⟨intsE L3,?_⟩
             cbv
             refine hold (hold_rowlist (L:=M1) eL3 (by(first|rfl|((try simp only [qV]at *);(try simp only [zQ,zA,zB,zC,zD,zE,zF,zG,zH,zI,zJ,zK,zL,zM,zN,zO,zP,zR,zS]at *);done)|((try simp only [qV]at *);(try simp only [zQ,zA,zB,zC,zD,zE,zF,zG,zH,zI,zJ,zK,zL,zM,zN,zO,zP,zR,zS]at *);omega))) (by rfl) (fun ix=>Fit.refl _) (fun ix h=>qC (qE (by rfl)) rfl qA) (by(try simp only [qV]at *);(try simp only [zQ,zA,zB,zC,zD,zE,zF,zG,zH,zI,zJ,zK,zL,zM,zN,zO,zP,zR,zS]at *);omega)) (Or.inl ?_)
             try cbv)
          | (obtain⟨L4,eL4⟩:∃y:List Int,y=M2++[zi k]:=⟨_,rfl⟩
             refine⟨intsE L4,?_⟩
             cbv
             refine hold (hold_rowlist (L:=M2) eL4 (by(first|rfl|((try simp only [qV]at *);(try simp only [zQ,zA,zB,zC,zD,zE,zF,zG,zH,zI,zJ,zK,zL,zM,zN,zO,zP,zR,zS]at *);done)|((try simp only [qV]at *);(try simp only [zQ,zA,zB,zC,zD,zE,zF,zG,zH,zI,zJ,zK,zL,zM,zN,zO,zP,zR,zS]at *);omega))) (by rfl) (fun ix=>Fit.refl _) (fun ix h=>qC (qE (by rfl)) rfl qA) (by(try simp only [qV]at *);(try simp only [zQ,zA,zB,zC,zD,zE,zF,zG,zH,zI,zJ,zK,zL,zM,zN,zO,zP,zR,zS]at *);omega)) (Or.inl ?_)
             try cbv)
          |fail)
      all_goals first
        |trivial
        |((try simp only [qV]at *);(try simp only [zQ,zA,zB,zC,zD,zE,zF,zG,zH,zI,zJ,zK,zL,zM,zN,zO,zP,zR,zS]at *);first|(refine qN ?_;omega)|(simp only [Hold];omega))
        |((have hke:k=d.pn.toNat:=(by((try simp only [qV]at *);(try simp only [zQ,zA,zB,zC,zD,zE,zF,zG,zH,zI,zJ,zK,zL,zM,zN,zO,zP,zR,zS]at *);omega)));subst hR;rw [←hke,←hM1,←hM2];exact qD (Fit.refl _) (qD (Fit.refl _) (qD (qE rfl) qB)))
        |((try simp only [zQ,zA,zB,zC,zD,zE,zF,zG,zH,zI,zJ,zK,zL,zM,zN,zO,zP,zR,zS]at *);(have hx1:selL fA (k+1)=M1:=hnA hfa);(have hx2:selL fB (k+1)=M2:=hnB hfb);refine⟨⟨k+1,by((try simp only [qV]at *);(try simp only [zQ,zA,zB,zC,zD,zE,zF,zG,zH,zI,zJ,zK,zL,zM,zN,zO,zP,zR,zS]at *);omega)⟩,by simp only [];omega,?_⟩;cbv;(repeat' (first|with_reducible refine hold ?_ ?_|with_reducible refine And.intro ?_ ?_));(all_goals first|trivial|exact qM (qE (by rfl))|exact qM (qF (by rfl))|exact qM (Fit.refl _)|exact qL (qK _)|(refine qM (qE ?_);(try simp only [qV]at *);simp only [zQ,zA,zB,zC,zD,zE,zF,zG,zH,zI,zJ,zK,zL,zM,zN,zO,zP,zR,zS]at *;omega)|(refine qL (qJ ?_);(repeat' (first|exact qA|exact qB|refine qC ?_ rfl ?_|refine qD ?_ ?_|exact qE (by rfl)|exact qF (by rfl)|exact Fit.refl _|exact qG _|(refine qE ?_;(try simp only [qV]at *);simp only [zQ,zA,zB,zC,zD,zE,zF,zG,zH,zI,zJ,zK,zL,zM,zN,zO,zP,zR,zS]at *;omega)));done)|(simp only [hx1];first|exact qL (qK _)|(refine qL (ble_row ?_ ?_)<;>first|rfl|(rw [hM1,List.length_append];rfl)|((try simp only [qV]at *);(try simp only [zQ,zA,zB,zC,zD,zE,zF,zG,zH,zI,zJ,zK,zL,zM,zN,zO,zP,zR,zS]at *);(try simp only [hM1,List.length_append,List.length_cons,List.length_nil]at *);omega)|(intro ix h0 h1;exact Fit.refl _)))|(simp only [hx2];first|exact qL (qK _)|(refine qL (ble_row ?_ ?_)<;>first|rfl|(rw [hM2,List.length_append];rfl)|((try simp only [qV]at *);(try simp only [zQ,zA,zB,zC,zD,zE,zF,zG,zH,zI,zJ,zK,zL,zM,zN,zO,zP,zR,zS]at *);(try simp only [hM2,List.length_append,List.length_cons,List.length_nil]at *);omega)|(intro ix h0 h1;exact Fit.refl _)))|skip))
        |skip
    · rw [hfa]at c64k
      rw [hfb]at c65k
      cbv
      repeat' (first
          |with_reducible refine hold ?_ ?_
          |with_reducible refine And.intro ?_ ?_
          |(with_reducible intro hcd;(try simp only [zA,zB,zC,zD,zE,zF,zG,zH,zI,zJ,zK,zL,zM,zN,zO,zP]at hcd);try cbv)
          | (refine⟨some [102],?_⟩
             cbv
             refine qQ ?_ (c64k) ?hfit ?hbo
             case hfit=>(cbv;(repeat' (first|exact qB|refine qD ?_ ?_|exact qE (by rfl)|exact qF (by rfl)|exact Fit.refl _|exact qA|refine qC ?_ rfl ?_));done)
             case hbo=>(cbv;(repeat' (first|exact qH|refine qI ?_ ?_|exact qK _|refine qJ ?_|exact qA|exact qE (by rfl)|exact qF (by rfl)|exact Fit.refl _|exact qG _|refine qC ?_ rfl ?_));done)
             try cbv)
          | (refine⟨some [102],?_⟩
             cbv
             refine qQ ?_ (c65k) ?hfit ?hbo
             case hfit=>(cbv;(repeat' (first|exact qB|refine qD ?_ ?_|exact qE (by rfl)|exact qF (by rfl)|exact Fit.refl _|exact qA|refine qC ?_ rfl ?_));done)
             case hbo=>(cbv;(repeat' (first|exact qH|refine qI ?_ ?_|exact qK _|refine qJ ?_|exact qA|exact qE (by rfl)|exact qF (by rfl)|exact Fit.refl _|exact qG _|refine qC ?_ rfl ?_));done)
             try cbv)
          | (obtain⟨L3,eL3⟩:∃y:List Int,y=M1++[zi k]:=⟨_,rfl⟩
             refine⟨intsE L3,?_⟩
             cbv
             refine hold (hold_rowlist (L:=M1) eL3 (by(first|rfl|((try simp only [qV]at *);(try simp only [zQ,zA,zB,zC,zD,zE,zF,zG,zH,zI,zJ,zK,zL,zM,zN,zO,zP,zR,zS]at *);done)|((try simp only [qV]at *);(try simp only [zQ,zA,zB,zC,zD,zE,zF,zG,zH,zI,zJ,zK,zL,zM,zN,zO,zP,zR,zS]at *);omega))) (by rfl) (fun ix=>Fit.refl _) (fun ix h=>qC (qE (by rfl)) rfl qA) (by(try simp only [qV]at *);(try simp only [zQ,zA,zB,zC,zD,zE,zF,zG,zH,zI,zJ,zK,zL,zM,zN,zO,zP,zR,zS]at *);omega)) (Or.inl ?_)
             try cbv)
          | (obtain⟨L4,eL4⟩:∃y:List Int,y=M2++[zi k]:=⟨_,rfl⟩
             refine⟨intsE L4,?_⟩
             cbv
             refine hold (hold_rowlist (L:=M2) eL4 (by(first|rfl|((try simp only [qV]at *);(try simp only [zQ,zA,zB,zC,zD,zE,zF,zG,zH,zI,zJ,zK,zL,zM,zN,zO,zP,zR,zS]at *);done)|((try simp only [qV]at *);(try simp only [zQ,zA,zB,zC,zD,zE,zF,zG,zH,zI,zJ,zK,zL,zM,zN,zO,zP,zR,zS]at *);omega))) (by rfl) (fun ix=>Fit.refl _) (fun ix h=>qC (qE (by rfl)) rfl qA) (by(try simp only [qV]at *);(try simp only [zQ,zA,zB,zC,zD,zE,zF,zG,zH,zI,zJ,zK,zL,zM,zN,zO,zP,zR,zS]at *);omega)) (Or.inl ?_)
             try cbv)
          |fail)
      all_goals first
        |trivial
        |((try simp only [qV]at *);(try simp only [zQ,zA,zB,zC,zD,zE,zF,zG,zH,zI,zJ,zK,zL,zM,zN,zO,zP,zR,zS]at *);first|(refine qN ?_;omega)|(simp only [Hold];omega))
        |((have hke:k=d.pn.toNat:=(by((try simp only [qV]at *);(try simp only [zQ,zA,zB,zC,zD,zE,zF,zG,zH,zI,zJ,zK,zL,zM,zN,zO,zP,zR,zS]at *);omega)));subst hR;rw [←hke,←hM1,←hM2];exact qD (Fit.refl _) (qD (Fit.refl _) (qD (qE rfl) qB)))
        |((try simp only [zQ,zA,zB,zC,zD,zE,zF,zG,zH,zI,zJ,zK,zL,zM,zN,zO,zP,zR,zS]at *);(have hx1:selL fA (k+1)=M1:=hnA hfa);(have hx2:selL fB (k+1)=L4:=(hyB hfb).trans eL4.symm);refine⟨⟨k+1,by((try simp only [qV]at *);(try simp only [zQ,zA,zB,zC,zD,zE,zF,zG,zH,zI,zJ,zK,zL,zM,zN,zO,zP,zR,zS]at *);omega)⟩,by simp only [];omega,?_⟩;cbv;(repeat' (first|with_reducible refine hold ?_ ?_|with_reducible refine And.intro ?_ ?_));(all_goals first|trivial|exact qM (qE (by rfl))|exact qM (qF (by rfl))|exact qM (Fit.refl _)|exact qL (qK _)|(refine qM (qE ?_);(try simp only [qV]at *);simp only [zQ,zA,zB,zC,zD,zE,zF,zG,zH,zI,zJ,zK,zL,zM,zN,zO,zP,zR,zS]at *;omega)|(refine qL (qJ ?_);(repeat' (first|exact qA|exact qB|refine qC ?_ rfl ?_|refine qD ?_ ?_|exact qE (by rfl)|exact qF (by rfl)|exact Fit.refl _|exact qG _|(refine qE ?_;(try simp only [qV]at *);simp only [zQ,zA,zB,zC,zD,zE,zF,zG,zH,zI,zJ,zK,zL,zM,zN,zO,zP,zR,zS]at *;omega)));done)|(simp only [hx1];first|exact qL (qK _)|(refine qL (ble_row ?_ ?_)<;>first|rfl|(rw [hM1,List.length_append];rfl)|((try simp only [qV]at *);(try simp only [zQ,zA,zB,zC,zD,zE,zF,zG,zH,zI,zJ,zK,zL,zM,zN,zO,zP,zR,zS]at *);(try simp only [hM1,List.length_append,List.length_cons,List.length_nil]at *);omega)|(intro ix h0 h1;exact Fit.refl _)))|(simp only [hx2];first|exact qL (qK _)|(refine qL (ble_row ?_ ?_)<;>first|rfl|(rw [eL4,List.length_append];rfl)|((try simp only [qV]at *);(try simp only [zQ,zA,zB,zC,zD,zE,zF,zG,zH,zI,zJ,zK,zL,zM,zN,zO,zP,zR,zS]at *);(try simp only [eL4,List.length_append,List.length_cons,List.length_nil]at *);omega)|(intro ix h0 h1;exact Fit.refl _)))|skip))
        |skip
    · rw [hfa]at c64k
      rw [hfb]at c65k
      cbv
      repeat' (first
          |with_reducible refine hold ?_ ?_
          |with_reducible refine And.intro ?_ ?_
          |(with_reducible intro hcd;(try simp only [zA,zB,zC,zD,zE,zF,zG,zH,zI,zJ,zK,zL,zM,zN,zO,zP]at hcd);try cbv)
          | (refine⟨some [102],?_⟩
             cbv
             refine qQ ?_ (c64k) ?hfit ?hbo
             case hfit=>(cbv;(repeat' (first|exact qB|refine qD ?_ ?_|exact qE (by rfl)|exact qF (by rfl)|exact Fit.refl _|exact qA|refine qC ?_ rfl ?_));done)
             case hbo=>(cbv;(repeat' (first|exact qH|refine qI ?_ ?_|exact qK _|refine qJ ?_|exact qA|exact qE (by rfl)|exact qF (by rfl)|exact Fit.refl _|exact qG _|refine qC ?_ rfl ?_));done)
             try cbv)
          | (refine⟨some [102],?_⟩
             cbv
             refine qQ ?_ (c65k) ?hfit ?hbo
             case hfit=>(cbv;(repeat' (first|exact qB|refine qD ?_ ?_|exact qE (by rfl)|exact qF (by rfl)|exact Fit.refl _|exact qA|refine qC ?_ rfl ?_));done)
             case hbo=>(cbv;(repeat' (first|exact qH|refine qI ?_ ?_|exact qK _|refine qJ ?_|exact qA|exact qE (by rfl)|exact qF (by rfl)|exact Fit.refl _|exact qG _|refine qC ?_ rfl ?_));done)
             try cbv)
          | (obtain⟨L3,eL3⟩:∃y:List Int,y=M1++[zi k]:=⟨_,rfl⟩
             refine⟨intsE L3,?_⟩
             cbv
             refine hold (hold_rowlist (L:=M1) eL3 (by(first|rfl|((try simp only [qV]at *);(try simp only [zQ,zA,zB,zC,zD,zE,zF,zG,zH,zI,zJ,zK,zL,zM,zN,zO,zP,zR,zS]at *);done)|((try simp only [qV]at *);(try simp only [zQ,zA,zB,zC,zD,zE,zF,zG,zH,zI,zJ,zK,zL,zM,zN,zO,zP,zR,zS]at *);omega))) (by rfl) (fun ix=>Fit.refl _) (fun ix h=>qC (qE (by rfl)) rfl qA) (by(try simp only [qV]at *);(try simp only [zQ,zA,zB,zC,zD,zE,zF,zG,zH,zI,zJ,zK,zL,zM,zN,zO,zP,zR,zS]at *);omega)) (Or.inl ?_)
             try cbv)
          | (obtain⟨L4,eL4⟩:∃y:List Int,y=M2++[zi k]:=⟨_,rfl⟩
             refine⟨intsE L4,?_⟩
             cbv
             refine hold (hold_rowlist (L:=M2) eL4 (by(first|rfl|((try simp only [qV]at *);(try simp only [zQ,zA,zB,zC,zD,zE,zF,zG,zH,zI,zJ,zK,zL,zM,zN,zO,zP,zR,zS]at *);done)|((try simp only [qV]at *);(try simp only [zQ,zA,zB,zC,zD,zE,zF,zG,zH,zI,zJ,zK,zL,zM,zN,zO,zP,zR,zS]at *);omega))) (by rfl) (fun ix=>Fit.refl _) (fun ix h=>qC (qE (by rfl)) rfl qA) (by(try simp only [qV]at *);(try simp only [zQ,zA,zB,zC,zD,zE,zF,zG,zH,zI,zJ,zK,zL,zM,zN,zO,zP,zR,zS]at *);omega)) (Or.inl ?_)
             try cbv)
          |fail)
      all_goals first
        |trivial
        |((try simp only [qV]at *);(try simp only [zQ,zA,zB,zC,zD,zE,zF,zG,zH,zI,zJ,zK,zL,zM,zN,zO,zP,zR,zS]at *);first|(refine qN ?_;omega)|(simp only [Hold];omega))
        |((have hke:k=d.pn.toNat:=(by((try simp only [qV]at *);(try simp only [zQ,zA,zB,zC,zD,zE,zF,zG,zH,zI,zJ,zK,zL,zM,zN,zO,zP,zR,zS]at *);omega)));subst hR;rw [←hke,←hM1,←hM2];exact qD (Fit.refl _) (qD (Fit.refl _) (qD (qE rfl) qB)))
        |((try simp only [zQ,zA,zB,zC,zD,zE,zF,zG,zH,zI,zJ,zK,zL,zM,zN,zO,zP,zR,zS]at *);(have hx1:selL fA (k+1)=L3:=(hyA hfa).trans eL3.symm);(have hx2:selL fB (k+1)=M2:=hnB hfb);refine⟨⟨k+1,by((try simp only [qV]at *);(try simp only [zQ,zA,zB,zC,zD,zE,zF,zG,zH,zI,zJ,zK,zL,zM,zN,zO,zP,zR,zS]at *);omega)⟩,by simp only [];omega,?_⟩;cbv;(repeat' (first|with_reducible refine hold ?_ ?_|with_reducible refine And.intro ?_ ?_));(all_goals first|trivial|exact qM (qE (by rfl))|exact qM (qF (by rfl))|exact qM (Fit.refl _)|exact qL (qK _)|(refine qM (qE ?_);(try simp only [qV]at *);simp only [zQ,zA,zB,zC,zD,zE,zF,zG,zH,zI,zJ,zK,zL,zM,zN,zO,zP,zR,zS]at *;omega)|(refine qL (qJ ?_);(repeat' (first|exact qA|exact qB|refine qC ?_ rfl ?_|refine qD ?_ ?_|exact qE (by rfl)|exact qF (by rfl)|exact Fit.refl _|exact qG _|(refine qE ?_;(try simp only [qV]at *);simp only [zQ,zA,zB,zC,zD,zE,zF,zG,zH,zI,zJ,zK,zL,zM,zN,zO,zP,zR,zS]at *;omega)));done)|(simp only [hx1];first|exact qL (qK _)|(refine qL (ble_row ?_ ?_)<;>first|rfl|(rw [eL3,List.length_append];rfl)|((try simp only [qV]at *);(try simp only [zQ,zA,zB,zC,zD,zE,zF,zG,zH,zI,zJ,zK,zL,zM,zN,zO,zP,zR,zS]at *);(try simp only [eL3,List.length_append,List.length_cons,List.length_nil]at *);omega)|(intro ix h0 h1;exact Fit.refl _)))|(simp only [hx2];first|exact qL (qK _)|(refine qL (ble_row ?_ ?_)<;>first|rfl|(rw [hM2,List.length_append];rfl)|((try simp only [qV]at *);(try simp only [zQ,zA,zB,zC,zD,zE,zF,zG,zH,zI,zJ,zK,zL,zM,zN,zO,zP,zR,zS]at *);(try simp only [hM2,List.length_append,List.length_cons,List.length_nil]at *);omega)|(intro ix h0 h1;exact Fit.refl _)))|skip))
        |skip
    · rw [hfa]at c64k
      rw [hfb]at c65k
      cbv
      repeat' (first
          |with_reducible refine hold ?_ ?_
          |with_reducible refine And.intro ?_ ?_
          |(with_reducible intro hcd;(try simp only [zA,zB,zC,zD,zE,zF,zG,zH,zI,zJ,zK,zL,zM,zN,zO,zP]at hcd);try cbv)
          | (refine⟨some [102],?_⟩
             cbv
             refine qQ ?_ (c64k) ?hfit ?hbo
             case hfit=>(cbv;(repeat' (first|exact qB|refine qD ?_ ?_|exact qE (by rfl)|exact qF (by rfl)|exact Fit.refl _|exact qA|refine qC ?_ rfl ?_));done)
             case hbo=>(cbv;(repeat' (first|exact qH|refine qI ?_ ?_|exact qK _|refine qJ ?_|exact qA|exact qE (by rfl)|exact qF (by rfl)|exact Fit.refl _|exact qG _|refine qC ?_ rfl ?_));done)
             try cbv)
          | (refine⟨some [102],?_⟩
             cbv
             refine qQ ?_ (c65k) ?hfit ?hbo
             case hfit=>(cbv;(repeat' (first|exact qB|refine qD ?_ ?_|exact qE (by rfl)|exact qF (by rfl)|exact Fit.refl _|exact qA|refine qC ?_ rfl ?_));done)
             case hbo=>(cbv;(repeat' (first|exact qH|refine qI ?_ ?_|exact qK _|refine qJ ?_|exact qA|exact qE (by rfl)|exact qF (by rfl)|exact Fit.refl _|exact qG _|refine qC ?_ rfl ?_));done)
             try cbv)
          | (obtain⟨L3,eL3⟩:∃y:List Int,y=M1++[zi k]:=⟨_,rfl⟩
             refine⟨intsE L3,?_⟩
             cbv
             refine hold (hold_rowlist (L:=M1) eL3 (by(first|rfl|((try simp only [qV]at *);(try simp only [zQ,zA,zB,zC,zD,zE,zF,zG,zH,zI,zJ,zK,zL,zM,zN,zO,zP,zR,zS]at *);done)|((try simp only [qV]at *);(try simp only [zQ,zA,zB,zC,zD,zE,zF,zG,zH,zI,zJ,zK,zL,zM,zN,zO,zP,zR,zS]at *);omega))) (by rfl) (fun ix=>Fit.refl _) (fun ix h=>qC (qE (by rfl)) rfl qA) (by(try simp only [qV]at *);(try simp only [zQ,zA,zB,zC,zD,zE,zF,zG,zH,zI,zJ,zK,zL,zM,zN,zO,zP,zR,zS]at *);omega)) (Or.inl ?_)
             try cbv)
          | (obtain⟨L4,eL4⟩:∃y:List Int,y=M2++[zi k]:=⟨_,rfl⟩
             refine⟨intsE L4,?_⟩
             cbv
             refine hold (hold_rowlist (L:=M2) eL4 (by(first|rfl|((try simp only [qV]at *);(try simp only [zQ,zA,zB,zC,zD,zE,zF,zG,zH,zI,zJ,zK,zL,zM,zN,zO,zP,zR,zS]at *);done)|((try simp only [qV]at *);(try simp only [zQ,zA,zB,zC,zD,zE,zF,zG,zH,zI,zJ,zK,zL,zM,zN,zO,zP,zR,zS]at *);omega))) (by rfl) (fun ix=>Fit.refl _) (fun ix h=>qC (qE (by rfl)) rfl qA) (by(try simp only [qV]at *);(try simp only [zQ,zA,zB,zC,zD,zE,zF,zG,zH,zI,zJ,zK,zL,zM,zN,zO,zP,zR,zS]at *);omega)) (Or.inl ?_)
             try cbv)
          |fail)
      all_goals first
        |trivial
        |((try simp only [qV]at *);(try simp only [zQ,zA,zB,zC,zD,zE,zF,zG,zH,zI,zJ,zK,zL,zM,zN,zO,zP,zR,zS]at *);first|(refine qN ?_;omega)|(simp only [Hold];omega))
        |((have hke:k=d.pn.toNat:=(by((try simp only [qV]at *);(try simp only [zQ,zA,zB,zC,zD,zE,zF,zG,zH,zI,zJ,zK,zL,zM,zN,zO,zP,zR,zS]at *);omega)));subst hR;rw [←hke,←hM1,←hM2];exact qD (Fit.refl _) (qD (Fit.refl _) (qD (qE rfl) qB)))
        |((try simp only [zQ,zA,zB,zC,zD,zE,zF,zG,zH,zI,zJ,zK,zL,zM,zN,zO,zP,zR,zS]at *);(have hx1:selL fA (k+1)=L3:=(hyA hfa).trans eL3.symm);(have hx2:selL fB (k+1)=L4:=(hyB hfb).trans eL4.symm);refine⟨⟨k+1,by((try simp only [qV]at *);(try simp only [zQ,zA,zB,zC,zD,zE,zF,zG,zH,zI,zJ,zK,zL,zM,zN,zO,zP,zR,zS]at *);omega)⟩,by simp only [];omega,?_⟩;cbv;(repeat' (first|with_reducible refine hold ?_ ?_|with_reducible refine And.intro ?_ ?_));(all_goals first|trivial|exact qM (qE (by rfl))|exact qM (qF (by rfl))|exact qM (Fit.refl _)|exact qL (qK _)|(refine qM (qE ?_);(try simp only [qV]at *);simp only [zQ,zA,zB,zC,zD,zE,zF,zG,zH,zI,zJ,zK,zL,zM,zN,zO,zP,zR,zS]at *;omega)|(refine qL (qJ ?_);(repeat' (first|exact qA|exact qB|refine qC ?_ rfl ?_|refine qD ?_ ?_|exact qE (by rfl)|exact qF (by rfl)|exact Fit.refl _|exact qG _|(refine qE ?_;(try simp only [qV]at *);simp only [zQ,zA,zB,zC,zD,zE,zF,zG,zH,zI,zJ,zK,zL,zM,zN,zO,zP,zR,zS]at *;omega)));done)|(simp only [hx1];first|exact qL (qK _)|(refine qL (ble_row ?_ ?_)<;>first|rfl|(rw [eL3,List.length_append];rfl)|((try simp only [qV]at *);(try simp only [zQ,zA,zB,zC,zD,zE,zF,zG,zH,zI,zJ,zK,zL,zM,zN,zO,zP,zR,zS]at *);(try simp only [eL3,List.length_append,List.length_cons,List.length_nil]at *);omega)|(intro ix h0 h1;exact Fit.refl _)))|(simp only [hx2];first|exact qL (qK _)|(refine qL (ble_row ?_ ?_)<;>first|rfl|(rw [eL4,List.length_append];rfl)|((try simp only [qV]at *);(try simp only [zQ,zA,zB,zC,zD,zE,zF,zG,zH,zI,zJ,zK,zL,zM,zN,zO,zP,zR,zS]at *);(try simp only [eL4,List.length_append,List.length_cons,List.length_nil]at *);omega)|(intro ix h0 h1;exact Fit.refl _)))|skip))
        |skip
theorem blame33n (d:Dsp)(h:¬firmE d=0):FSpec Try.prog 33 [(dspS d)] [] (fun r _=>r=(.tup [(.sl 1 (.sym fun _=>zi ((mstL d)).length) (fun ix=>[.int .i64 (.sym fun _=>((mstL d)).getD ix.den.toNat 0)])),(.sl 1 (.sym fun _=>zi ((mayL d)).length) (fun ix=>[.int .i64 (.sym fun _=>((mayL d)).getD ix.den.toNat 0)])),(.int .i64 (.sym fun _=>firmE d))])):=by
  have c59:=firm59n d h
  refine FSpec.is fun R hR=>qW (sc:=sc33) tyok mix Try.func33 rfl Try.call33 (by kernel_rfl) (by kernel_rfl) ?_
  generalize Try.prog=P at c59⊢
  cbv
  repeat' (first
      |with_reducible refine And.intro ?_ ?_
      |(with_reducible intro hcd;(try simp only [zA,zB,zC,zD,zE,zF,zG,zH,zI,zJ,zK,zL,zM,zN,zO,zP]at hcd);try cbv)
      | (refine qP ?_ (c59) ?hfit
         case hfit=>((repeat' (first|exact qB|refine qD ?_ ?_|exact qE (by rfl)|exact qF (by rfl)|exact Fit.refl _|exact qA|refine qC ?_ rfl ?_));done)
         try cbv)
      |fail)
  all_goals first
    |trivial
    |(subst hR;(exact qD (qO (by(have e:mstL d=[]:=if_neg h);rw [e];rfl)) (qD (qO (by(have e:mayL d=[]:=if_neg h);rw [e];rfl)) (qD (Fit.refl _) qB)));done)
    |skip
theorem blame33 (d:Dsp):FSpec Try.prog 33 [(dspS d)] [] (fun r _=>r=(.tup [(.sl 1 (.sym fun _=>zi ((mstL d)).length) (fun ix=>[.int .i64 (.sym fun _=>((mstL d)).getD ix.den.toNat 0)])),(.sl 1 (.sym fun _=>zi ((mayL d)).length) (fun ix=>[.int .i64 (.sym fun _=>((mayL d)).getD ix.den.toNat 0)])),(.int .i64 (.sym fun _=>firmE d))])):=by
  by_cases h:firmE d=0
  · exact blame33y d h
  · exact blame33n d h
end Go.Proofs.Ytkdggbfknlcdaaa

namespace Go.Proofs.Ytkdggbfknlcdaaa
open Go.Eng.Dif Go.Eng.Few
theorem lea_can {d:Dsp}(h:firmE d=0):canT d d.fs (leaL d)=true:=by
  have e:leaL d=fewL d.fs.length (okFa d):=if_pos h
  rw [e]
  exact(few_spec (firm_iotaF h)).2.1
theorem lea_len (d:Dsp)(h:faultD d=0):(leaL d).length≤6:=by
  unfold leaL
  split
  · rename_i q
    have:=few_len (firm_iotaF q)
    have:=(faultD_iff.1 h).f6
    omega
  · simp
theorem mul_small {g x:Int}(h0:0≤g)(h1:g≤100000)(a0: -2000≤x)(a1:x≤2000): -200000000≤g*x∧g*x≤200000000:=by
  have e1:g*x≤g*2000:=Int.mul_le_mul_of_nonneg_left a1 h0
  have e2:g*(-2000)≤g*x:=Int.mul_le_mul_of_nonneg_left a0 h0
  omega
def chOk (d:Dsp)(s g:Int):Prop:=(0≤s∧s≤d.sn-1)∧0≤g∧g≤100000
instance (d:Dsp) (s g:Int):Decidable (chOk d s g):=by unfold chOk;infer_instance
def chE (d:Dsp)(s g:Int):Int:=if faultD d=0 then(if chOk d s g then firmE d else 2)else faultD d
def chL (d:Dsp)(s g:Int):Int:=if chE d s g=0 then(g*loT d (leaL d) s.toNat).tdiv 1000 else 0
def chH (d:Dsp)(s g:Int):Int:=if chE d s g=0 then(g*hiT d (leaL d) s.toNat).tdiv 1000 else 0
theorem chE_bad {d:Dsp} {s g:Int}(h:¬faultD d=0):chE d s g=faultD d∧chL d s g=0∧chH d s g=0:=by
  have e:chE d s g=faultD d:=by unfold chE;rw [if_neg h]
  exact⟨e,by unfold chL;rw [e,if_neg h],by unfold chH;rw [e,if_neg h]⟩
theorem chE_no {d:Dsp} {s g:Int}(h:faultD d=0)(h':¬chOk d s g):chE d s g=2∧chL d s g=0∧chH d s g=0:=by
  have e:chE d s g=2:=by unfold chE;rw [if_pos h,if_neg h']
  exact⟨e,by unfold chL;rw [e];rfl,by unfold chH;rw [e];rfl⟩
theorem chE_fail {d:Dsp} {s g:Int}(h:faultD d=0)(h':chOk d s g)(hf:¬firmE d=0):chE d s g=firmE d∧chL d s g=0∧chH d s g=0:=by
  have e:chE d s g=firmE d:=by unfold chE;rw [if_pos h,if_pos h']
  exact⟨e,by unfold chL;rw [e,if_neg hf],by unfold chH;rw [e,if_neg hf]⟩
theorem chE_yes {d:Dsp} {s g:Int}(h:faultD d=0)(h':chOk d s g)(hf:firmE d=0):chE d s g=0∧chL d s g=(g*loT d (leaL d) s.toNat).tdiv 1000∧chH d s g=(g*hiT d (leaL d) s.toNat).tdiv 1000:=by
  have e:chE d s g=0:=by unfold chE;rw [if_pos h,if_pos h',hf]
  exact⟨e,by unfold chL;rw [e];rfl,by unfold chH;rw [e];rfl⟩
def coOk (n:Int):Prop:=0≤n∧n≤1000000
instance (n:Int):Decidable (coOk n):=by unfold coOk;infer_instance
def coE (d:Dsp)(n:Int):Int:=if faultD d=0 then(if coOk n then firmE d else 2)else faultD d
def coN (d:Dsp)(n:Int):Int:=if coE d n=0 then d.pn else 0
def beaL (d:Dsp):List Int:=bearL d.pn.toNat (mstL d)
def cosF (d:Dsp)(n:Int)(p:Nat):Int:=costN n.toNat (beaL d) (beaL d).length (beaL d).length p
theorem coE_bad {d:Dsp} {n:Int}(h:¬faultD d=0):coE d n=faultD d∧coN d n=0:=by
  have e:coE d n=faultD d:=by unfold coE;rw [if_neg h]
  exact⟨e,by unfold coN;rw [e,if_neg h]⟩
theorem coE_no {d:Dsp} {n:Int}(h:faultD d=0)(h':¬coOk n):coE d n=2∧coN d n=0:=by
  have e:coE d n=2:=by unfold coE;rw [if_pos h,if_neg h']
  exact⟨e,by unfold coN;rw [e];rfl⟩
theorem coE_fail {d:Dsp} {n:Int}(h:faultD d=0)(h':coOk n)(hf:¬firmE d=0):coE d n=firmE d∧coN d n=0:=by
  have e:coE d n=firmE d:=by unfold coE;rw [if_pos h,if_pos h']
  exact⟨e,by unfold coN;rw [e,if_neg hf]⟩
theorem coE_yes {d:Dsp} {n:Int}(h:faultD d=0)(h':coOk n)(hf:firmE d=0):coE d n=0∧coN d n=d.pn:=by
  have e:coE d n=0:=by unfold coE;rw [if_pos h,if_pos h',hf]
  exact⟨e,by unfold coN;rw [e];rfl⟩
end Go.Proofs.Ytkdggbfknlcdaaa

namespace Go.Proofs.Ytkdggbfknlcdaaa
open Go Go.Eng Go.Proofs Go.Eng.Dif Go.Eng.Few
set_option maxRecDepth 10000
theorem tdiv_small {a:Int}(h: -200000000≤a∧a≤200000000): -200000000≤a.tdiv 1000∧a.tdiv 1000≤200000000:=by
  rcases Int.le_total 0 a with q|q
  · rw [Int.tdiv_eq_ediv_of_nonneg q];omega
  · obtain⟨b,rfl⟩:∃b,a = -b:=⟨-a,by omega⟩
    rw [Int.neg_tdiv,Int.tdiv_eq_ediv_of_nonneg (by omega)];omega
set_option maxHeartbeats 2000000 in
theorem charge36 (d:Dsp)(s g:Int):FSpec Try.prog 36 [(dspS d),(.int .i64 (.sym fun _=>s)),(.int .i64 (.sym fun _=>g))] [] (fun r _=>r=(.tup [(.agg [(.int .i64 (.sym fun _=>chL d s g)),(.int .i64 (.sym fun _=>chH d s g))]),(.int .i64 (.sym fun _=>chE d s g))])):=by
  have c16:=check16 d
  have c43:= @within43
  have c22:=leave22 d
  have c44:=work44 d
  have c66:=fun h:faultD d=0=>sample66 d s ⟨(faultD_iff.1 h).s1,by have:=(faultD_iff.1 h).s3;omega⟩
  have c54:=fun h:faultD d=0=>apart54 d (leaL d) (faultD_iff.1 h) (by have:=lea_len d h;omega)
  have hbd:=fun (h:firmE d=0) (i:Nat) (hi:i<16)=>clo_bd (faultD_iff.1 (firmE_ok h).1) (lea_can h) hi
  have hsn:=fun h:firmE d=0=>(faultD_iff.1 (firmE_ok h).1).s3
  have c55:=fun (s:Int) (h:firmE d=0∧0≤s∧s≤d.sn-1)=>(show FSpec Try.prog 55 [.own 0 0,(.int .i64 (.sym fun _=>s))] [.cells [(.arr 16 (fun ix=>(.int .i64 (.sym fun _=>(clo (matO d d.fs (leaL d))) ix.den.toNat))))] 104] (fun r bs=>r=(.agg [(.int .i64 (.sym fun _=>loT d (leaL d) s.toNat)),(.int .i64 (.sym fun _=>hiT d (leaL d) s.toNat))])∧bs=[.cells [(.arr 16 (fun ix=>(.int .i64 (.sym fun _=>(clo (matO d d.fs (leaL d))) ix.den.toNat))))] 104])from bounds55 (clo (matO d d.fs (leaL d))) s ⟨h.2.1,by have:=hsn h.1;omega⟩ (fun i hi=>⟨by have:=hbd h.1 i hi;omega,by have:=hbd h.1 i hi;omega⟩))
  have hmul:0≤g→g≤100000→0≤s∧s≤d.sn-1→firmE d=0→(-200000000≤g*loT d (leaL d) s.toNat∧g*loT d (leaL d) s.toNat≤200000000)∧ -200000000≤g*hiT d (leaL d) s.toNat∧g*hiT d (leaL d) s.toNat≤200000000:=fun h0 h1 hs hf=>by
    have s3:=hsn hf
    have b1:=hbd hf (at4 (s.toNat+1) 0) (at4_lt (by omega) (by omega))
    have b2:=hbd hf (at4 0 (s.toNat+1)) (at4_lt (by omega) (by omega))
    exact⟨mul_small h0 h1 (by unfold loT;omega) (by unfold loT;omega),mul_small h0 h1 (by unfold hiT;omega) (by unfold hiT;omega)⟩
  refine FSpec.is fun R hR=>qW (sc:=sc36) tyok mix Try.func36 rfl Try.call36 (by kernel_rfl) (by kernel_rfl) ?_
  generalize Try.prog=P at c16 c43 c22 c44 c66 c54 c55⊢
  cbv
  repeat' (first
      |with_reducible refine hold ?_ ?_
      |with_reducible refine And.intro ?_ ?_
      | (with_reducible refine qS ?_ ?_ ?_
         try cbv)
      |(with_reducible intro hcd;(try simp only [zA,zB,zC,zD,zE,zF,zG,zH,zI,zJ,zK,zL,zM,zN,zO,zP]at hcd);try cbv)
      | (refine qP ?_ (c16) ?hfit
         case hfit=>((repeat' (first|exact qB|refine qD ?_ ?_|exact qE (by rfl)|exact qF (by rfl)|exact Fit.refl _|exact qA|refine qC ?_ rfl ?_));done)
         try cbv)
      | (refine qP ?_ (c43 _ _ _) (by(repeat' (first|exact qB|refine qD ?_ ?_|exact qE (by rfl)|exact qF (by rfl)|exact Fit.refl _|exact qA|refine qC ?_ rfl ?_)))
         try cbv)
      | (refine qP ?_ (c22) ?hfit
         case hfit=>((repeat' (first|exact qB|refine qD ?_ ?_|exact qE (by rfl)|exact qF (by rfl)|exact Fit.refl _|exact qA|refine qC ?_ rfl ?_));done)
         try cbv)
      | (refine qP ?_ (c44) ?hfit
         case hfit=>((repeat' (first|exact qB|refine qD ?_ ?_|exact qE (by rfl)|exact qF (by rfl)|exact Fit.refl _|exact qA|refine qC ?_ rfl ?_));done)
         try cbv)
      | (refine qP ?_ (c66 (by((try simp only [qV]at *);(try simp only [zQ,zA,zB,zC,zD,zE,zF,zG,zH,zI,zJ,zK,zL,zM,zN,zO,zP,zR,zS]at *);first|assumption|omega))) ?hfit
         case hfit=>((repeat' (first|exact qB|refine qD ?_ ?_|exact qE (by rfl)|exact qF (by rfl)|exact Fit.refl _|exact qA|refine qC ?_ rfl ?_));done)
         try cbv)
      | (refine qP ?_ (c54 (by((try simp only [qV]at *);(try simp only [zQ,zA,zB,zC,zD,zE,zF,zG,zH,zI,zJ,zK,zL,zM,zN,zO,zP,zR,zS]at *);first|assumption|omega))) ?hfit
         case hfit=>((repeat' (first|exact qB|refine qD ?_ ?_|exact qE (by rfl)|exact qF (by rfl)|exact Fit.refl _|exact qA|refine qC ?_ rfl ?_));done)
         try cbv)
      | ((have hf9:firmE d=0:=(by((try simp only [qV]at *);(try simp only [zQ,zA,zB,zC,zD,zE,zF,zG,zH,zI,zJ,zK,zL,zM,zN,zO,zP,zR,zS]at *);omega)))
         refine⟨some [33],?_⟩
         cbv
         refine qQ ?_ (c55 s ⟨hf9,by((try simp only [qV]at *);(try simp only [zQ,zA,zB,zC,zD,zE,zF,zG,zH,zI,zJ,zK,zL,zM,zN,zO,zP,zR,zS]at *);(try simp only [allB_t,allB_f,inB_t,inB_f,ofB_t,ofB_f,linkB_t,linkB_f,factB_t,factB_f]at *);omega)⟩) ?hfit ?hbo
         case hfit=>(cbv;(repeat' (first|exact qB|refine qD ?_ ?_|exact qE (by rfl)|exact qF (by rfl)|exact Fit.refl _|exact qA|refine qC ?_ rfl ?_));done)
         case hbo=>(cbv;(repeat' (first|exact qH|refine qI ?_ ?_|exact qK _|refine qJ ?_|exact qA|exact qE (by rfl)|exact qF (by rfl)|exact Fit.refl _|exact qG _|refine qC ?_ rfl ?_));done)
         try cbv)
      |fail)
  all_goals first
    |((try simp only [qV]at *);(try simp only [zQ,zA,zB,zC,zD,zE,zF,zG,zH,zI,zJ,zK,zL,zM,zN,zO,zP,zR,zS,allB_t,allB_f,inB_t,inB_f,ofB_t,ofB_f,linkB_t,linkB_f,factB_t,factB_f]at *);first|(refine qN ?_;omega)|(simp only [Hold];omega))
    |(subst hR;(refine qD (qC (qE ?_) rfl (qC (qE ?_) rfl qA)) (qD (qE ?_) qB)<;>((try simp only [qV]at *);(try simp only [zQ,zA,zB,zC,zD,zE,zF,zG,zH,zI,zJ,zK,zL,zM,zN,zO,zP,zR,zS]at *);(try simp only [allB_t,allB_f,inB_t,inB_f,ofB_t,ofB_f,linkB_t,linkB_f,factB_t,factB_f]at *);(have h0:=chE_bad (d:=d) (s:=s) (g:=g) (by first|assumption|omega));first|exact h0.2.1.symm|exact h0.2.2.symm|exact h0.1.symm));done)
    |(subst hR;(refine qD (qC (qE ?_) rfl (qC (qE ?_) rfl qA)) (qD (qE ?_) qB)<;>((try simp only [qV]at *);(try simp only [zQ,zA,zB,zC,zD,zE,zF,zG,zH,zI,zJ,zK,zL,zM,zN,zO,zP,zR,zS]at *);(try simp only [allB_t,allB_f,inB_t,inB_f,ofB_t,ofB_f,linkB_t,linkB_f,factB_t,factB_f]at *);(have h0:=chE_no (d:=d) (s:=s) (g:=g) (by first|assumption|omega) (by unfold chOk;omega));first|exact h0.2.1.symm|exact h0.2.2.symm|exact h0.1.symm));done)
    |(subst hR;(refine qD (qC (qE ?_) rfl (qC (qE ?_) rfl qA)) (qD (qE ?_) qB)<;>((try simp only [qV]at *);(try simp only [zQ,zA,zB,zC,zD,zE,zF,zG,zH,zI,zJ,zK,zL,zM,zN,zO,zP,zR,zS]at *);(try simp only [allB_t,allB_f,inB_t,inB_f,ofB_t,ofB_f,linkB_t,linkB_f,factB_t,factB_f]at *);(have h0:=chE_fail (d:=d) (s:=s) (g:=g) (by first|assumption|omega) (by unfold chOk;omega) (by first|assumption|omega));first|exact h0.2.1.symm|exact h0.2.2.symm|exact h0.1.symm));done)
    |(subst hR;(refine qD (qC (qE ?_) rfl (qC (qE ?_) rfl qA)) (qD (qE ?_) qB)<;>((try simp only [qV]at *);(try simp only [zQ,zA,zB,zC,zD,zE,zF,zG,zH,zI,zJ,zK,zL,zM,zN,zO,zP,zR,zS]at *);(try simp only [allB_t,allB_f,inB_t,inB_f,ofB_t,ofB_f,linkB_t,linkB_f,factB_t,factB_f]at *);(have h0:=chE_yes (d:=d) (s:=s) (g:=g) (by first|assumption|omega) (by unfold chOk;omega) (by first|assumption|omega));first|exact h0.2.1.symm|exact h0.2.2.symm|exact h0.1.symm));done)
    |((have hf9:firmE d=0:=(by((try simp only [qV]at *);(try simp only [zQ,zA,zB,zC,zD,zE,zF,zG,zH,zI,zJ,zK,zL,zM,zN,zO,zP,zR,zS]at *);omega)));(have hb9:=hmul (by((try simp only [qV]at *);(try simp only [zQ,zA,zB,zC,zD,zE,zF,zG,zH,zI,zJ,zK,zL,zM,zN,zO,zP,zR,zS]at *);(try simp only [allB_t,allB_f,inB_t,inB_f,ofB_t,ofB_f,linkB_t,linkB_f,factB_t,factB_f]at *);omega)) (by((try simp only [qV]at *);(try simp only [zQ,zA,zB,zC,zD,zE,zF,zG,zH,zI,zJ,zK,zL,zM,zN,zO,zP,zR,zS]at *);(try simp only [allB_t,allB_f,inB_t,inB_f,ofB_t,ofB_f,linkB_t,linkB_f,factB_t,factB_f]at *);omega)) (by((try simp only [qV]at *);(try simp only [zQ,zA,zB,zC,zD,zE,zF,zG,zH,zI,zJ,zK,zL,zM,zN,zO,zP,zR,zS]at *);(try simp only [allB_t,allB_f,inB_t,inB_f,ofB_t,ofB_f,linkB_t,linkB_f,factB_t,factB_f]at *);omega)) hf9);(have t1:=tdiv_small hb9.1);(have t2:=tdiv_small hb9.2);(try simp only [qV]at *);(try simp only [zQ,zA,zB,zC,zD,zE,zF,zG,zH,zI,zJ,zK,zL,zM,zN,zO,zP,zR,zS]at *);(try simp only [allB_t,allB_f,inB_t,inB_f,ofB_t,ofB_f,linkB_t,linkB_f,factB_t,factB_f]at *);first|(refine qN ?_;omega)|(simp only [Hold];omega))
    |skip
end Go.Proofs.Ytkdggbfknlcdaaa

namespace Go.Proofs.Ytkdggbfknlcdaaa
open Go Go.Eng Go.Proofs Go.Eng.Dif Go.Eng.Few
set_option maxRecDepth 10000
theorem sel_none {f:Nat→Bool}:∀{n:Nat},selL f n=[]→∀{k:Nat},k<n→f k=false:=by
  intro n
  induction n with
  |zero=>intro _ k hk;omega
  | succ n ih=>
    intro h k hk
    cases hf:f n with
    |true=>rw [sel_y hf]at h;simp at h
    | false=>
      rw [sel_n hf]at h
      by_cases e:k=n
      · rw [e];exact hf
      · exact ih h (by omega)
set_option maxHeartbeats 2000000 in
theorem blame33e (d:Dsp)(h:firmE d=0)(he:mstL d=[]):FSpec Try.prog 33 [(dspS d)] [] (fun r _=>r=(.tup [.val (Value.slice none 0 0),(.sl 1 (.sym fun _=>zi ((mayL d)).length) (fun ix=>[.int .i64 (.sym fun _=>((mayL d)).getD ix.den.toNat 0)])),(.int .i64 (.sym fun _=>firmE d))])):=by
  have c59:=firm59 d h
  have c58:=byparty58
  have hF:=(firmE_ok h).1
  have hd:=faultD_iff.1 hF
  have p1:=hd.p1
  have p4:=hd.p4
  have c61:=shortestP d hd
  have hsf:=short_few (n:=d.pn.toNat) (ok:=okPa d) (by omega) (firm_iotaP h)
  have hm0:selL (mstF d) d.pn.toNat=[]:=(if_pos h:mstL d=_).symm.trans he
  have hAf:∀k:Nat,k<d.pn.toNat→mstF d k=false:=fun k hk=>sel_none hm0 hk
  rw [show mayL d=selL (mayF d) d.pn.toNat from if_pos h,h]
  have hA:∀k:Nat,allB (fun i=>inL ((shortL d.pn.toNat (okPa d)).getD i []) (zi k)) (shortL d.pn.toNat (okPa d)).length=mstF d k:=fun k=>all_in _ _
  have hB:∀k:Nat,decide (0≤fidx (fun i=> !(inL ((shortL d.pn.toNat (okPa d)).getD i []) (zi k))) (shortL d.pn.toNat (okPa d)).length 0)=mayF d k:=fun k=>any_in _ _
  obtain⟨L,hL⟩:∃L,L=shortL d.pn.toNat (okPa d):=⟨_,rfl⟩
  rw [←hL]at c61 hsf
  simp only [←hL]at hA hB
  have c64:=fun k:Nat=>(show FSpec Try.prog 64 [(.sl 1 (.sym fun _=>zi (L).length) (fun ix=>[(.sl 1 (.sym fun _=>zi ((L).getD ix.den.toNat []).length) (fun jx=>[.int .i64 (.sym fun _=>((L).getD ix.den.toNat []).getD jx.den.toNat 0)]))])),.clo 62 [] [.own 0 0]] [.cells [(.int .i64 (.sym fun _=>zi k))] 3] (fun r bs=>r=(.bool (.sym fun _=>mstF d k))∧bs=[.cells [(.int .i64 (.sym fun _=>zi k))] 3])from hA k▸all64_must L (zi k) hsf.2 hsf.1)
  have c65:=fun k:Nat=>(show FSpec Try.prog 65 [(.sl 1 (.sym fun _=>zi (L).length) (fun ix=>[(.sl 1 (.sym fun _=>zi ((L).getD ix.den.toNat []).length) (fun jx=>[.int .i64 (.sym fun _=>((L).getD ix.den.toNat []).getD jx.den.toNat 0)]))])),.clo 62 [] [.own 0 0]] [.cells [(.int .i64 (.sym fun _=>zi k))] 3] (fun r bs=>r=(.bool (.sym fun _=>mayF d k))∧bs=[.cells [(.int .i64 (.sym fun _=>zi k))] 3])from hB k▸cont65_any L (zi k) hsf.2 hsf.1)
  obtain⟨fA,hfA⟩:∃f,f=mstF d:=⟨_,rfl⟩
  obtain⟨fB,hfB⟩:∃f,f=mayF d:=⟨_,rfl⟩
  rw [←hfA]at c64 hAf
  rw [←hfB]at c65⊢
  clear hA hB hL hfA hfB hm0
  refine FSpec.is fun R hR=>qW (sc:=sc33) tyok mix Try.func33 rfl Try.call33 (by kernel_rfl) (by kernel_rfl) ?_
  generalize Try.prog=P at c59 c58 c61 c64 c65⊢
  cbv
  repeat' (first
      |with_reducible refine And.intro ?_ ?_
      |(with_reducible intro hcd;(try simp only [zA,zB,zC,zD,zE,zF,zG,zH,zI,zJ,zK,zL,zM,zN,zO,zP]at hcd);try cbv)
      | (refine qP ?_ (c59) ?hfit
         case hfit=>((repeat' (first|exact qB|refine qD ?_ ?_|exact qE (by rfl)|exact qF (by rfl)|exact Fit.refl _|exact qA|refine qC ?_ rfl ?_));done)
         try cbv)
      | (refine qP ?_ (c58) ?hfit
         case hfit=>((repeat' (first|exact qB|refine qD ?_ ?_|exact qE (by rfl)|exact qF (by rfl)|exact Fit.refl _|exact qA|refine qC ?_ rfl ?_));done)
         try cbv)
      | (refine qP ?_ (c61) ?hfit
         case hfit=>((repeat' (first|exact qB|refine qD ?_ ?_|exact qE (by rfl)|exact qF (by rfl)|exact Fit.refl _|exact qA|refine qC ?_ rfl ?_));done)
         try cbv)
      |fail)
  all_goals first
    |trivial
    |skip
  refine⟨none,[⟨.tmp 3,3,1⟩],{k:Nat // k≤d.pn.toNat},fun x=>⟨[(1,.own 0 0),(6,(.sl 1 (.sym fun _=>zi (L).length) (fun ix=>[(.sl 1 (.sym fun _=>zi ((L).getD ix.den.toNat []).length) (fun jx=>[.int .i64 (.sym fun _=>((L).getD ix.den.toNat []).getD jx.den.toNat 0)]))]))),(2,.val (Value.slice none 0 0)),(3,.row 20),(21,(.int .i64 (.sym fun _=>d.pn))),(22,(.int .i64 (.sym fun _=>zi x.1)))],[(0,.cells [(.sl 1 (.sym fun _=>zi (d.tw).length) (fun ix=>[.int .i64 (.sym fun _=>(d.tw).getD ix.den.toNat 0)])),(.sl 1 (.sym fun _=>zi (d.tm).length) (fun ix=>[.int .i64 (.sym fun _=>(d.tm).getD ix.den.toNat 0)])),(.sl 1 (.sym fun _=>zi (d.tv).length) (fun ix=>[(.sl 1 (.sym fun _=>zi ((d.tv).getD ix.den.toNat []).length) (fun jx=>[.int .i64 (.sym fun _=>((d.tv).getD ix.den.toNat []).getD jx.den.toNat 0)]))])),(.int .i64 (.sym fun _=>d.sn)),(.int .i64 (.sym fun _=>d.pn)),(.sl 4 (.sym fun _=>zi (d.ls).length) (fun ix=>[(.int .i64 (.sym fun _=>((d.ls).getD ix.den.toNat l0T).a)),(.int .i64 (.sym fun _=>((d.ls).getD ix.den.toNat l0T).b)),(.int .i64 (.sym fun _=>((d.ls).getD ix.den.toNat l0T).lo)),(.int .i64 (.sym fun _=>((d.ls).getD ix.den.toNat l0T).hi))])),(.sl 6 (.sym fun _=>zi (d.fs).length) (fun ix=>[(.int .i64 (.sym fun _=>((d.fs).getD ix.den.toNat f0T).p)),(.int .i64 (.sym fun _=>((d.fs).getD ix.den.toNat f0T).s)),(.int .i64 (.sym fun _=>((d.fs).getD ix.den.toNat f0T).wl)),(.int .i64 (.sym fun _=>((d.fs).getD ix.den.toNat f0T).wh)),(.int .i64 (.sym fun _=>((d.fs).getD ix.den.toNat f0T).ml)),(.int .i64 (.sym fun _=>((d.fs).getD ix.den.toNat f0T).mh))]))] 41),(20,.row 3 1 (.sym fun _=>zi ((selL fB x.1)).length) (fun ix=>[.int .i64 (.sym fun _=>((selL fB x.1)).getD ix.den.toNat 0)]))],100⟩,fun x=>d.pn.toNat-x.1,?_,?_⟩
  · refine⟨⟨0,by omega⟩,?_⟩
    cbv
    repeat' (first
      |with_reducible refine hold ?_ ?_
      |with_reducible refine And.intro ?_ ?_)
    all_goals first
      |trivial
      |exact qM (qE (by rfl))
      |exact qM (Fit.refl _)
      |exact qL (qK _)
      |(refine qL (ble_row ?_ ?_);(first|rfl|((try simp only [qV]at *);(try simp only [zQ,zA,zB,zC,zD,zE,zF,zG,zH,zI,zJ,zK,zL,zM,zN,zO,zP,zR,zS]at *);omega));intro ix h0 h1;exfalso;(try simp only [qV]at *);(try simp only [zQ,zA,zB,zC,zD,zE,zF,zG,zH,zI,zJ,zK,zL,zM,zN,zO,zP,zR,zS]at *);omega)
      |skip
  · rintro ⟨k, hk⟩
    cbv
    have hl2:=sel_len fB k
    have hyB:=sel_y (f:=fB) (k:=k)
    have hnB:=sel_n (f:=fB) (k:=k)
    obtain⟨M2,hM2⟩:∃M,M=selL fB k:=⟨_,rfl⟩
    rw [←hM2]at hl2 hyB hnB⊢
    have c64k:=c64 k
    have c65k:=c65 k
    rcases Nat.lt_or_ge k d.pn.toNat with hlt|hge
    · have hfa :=hAf k hlt
      rw [hfa]at c64k
      rcases hfb:fB k with _|_
      · rw [hfb]at c65k
        cbv
        repeat' (first
            |with_reducible refine hold ?_ ?_
            |with_reducible refine And.intro ?_ ?_
            |(with_reducible intro hcd;(try simp only [zA,zB,zC,zD,zE,zF,zG,zH,zI,zJ,zK,zL,zM,zN,zO,zP]at hcd);try cbv)
            | (refine⟨some [102],?_⟩
               cbv
               refine qQ ?_ (c64k) ?hfit ?hbo
               case hfit=>(cbv;(repeat' (first|exact qB|refine qD ?_ ?_|exact qE (by rfl)|exact qF (by rfl)|exact Fit.refl _|exact qA|refine qC ?_ rfl ?_));done)
               case hbo=>(cbv;(repeat' (first|exact qH|refine qI ?_ ?_|exact qK _|refine qJ ?_|exact qA|exact qE (by rfl)|exact qF (by rfl)|exact Fit.refl _|exact qG _|refine qC ?_ rfl ?_));done)
               try cbv)
            | (refine⟨some [102],?_⟩
               cbv
               refine qQ ?_ (c65k) ?hfit ?hbo
               case hfit=>(cbv;(repeat' (first|exact qB|refine qD ?_ ?_|exact qE (by rfl)|exact qF (by rfl)|exact Fit.refl _|exact qA|refine qC ?_ rfl ?_));done)
               case hbo=>(cbv;(repeat' (first|exact qH|refine qI ?_ ?_|exact qK _|refine qJ ?_|exact qA|exact qE (by rfl)|exact qF (by rfl)|exact Fit.refl _|exact qG _|refine qC ?_ rfl ?_));done)
               try cbv)
            | (obtain⟨L4,eL4⟩:∃y:List Int,y=M2++[zi k]:=⟨_,rfl⟩
               refine⟨intsE L4,?_⟩
               cbv
               refine hold (hold_rowlist (L:=M2) eL4 (by(first|rfl|((try simp only [qV]at *);(try simp only [zQ,zA,zB,zC,zD,zE,zF,zG,zH,zI,zJ,zK,zL,zM,zN,zO,zP,zR,zS]at *);done)|((try simp only [qV]at *);(try simp only [zQ,zA,zB,zC,zD,zE,zF,zG,zH,zI,zJ,zK,zL,zM,zN,zO,zP,zR,zS]at *);omega))) (by rfl) (fun ix=>Fit.refl _) (fun ix h=>qC (qE (by rfl)) rfl qA) (by(try simp only [qV]at *);(try simp only [zQ,zA,zB,zC,zD,zE,zF,zG,zH,zI,zJ,zK,zL,zM,zN,zO,zP,zR,zS]at *);omega)) (Or.inl ?_)
               try cbv)
            |fail)
        all_goals first
          |trivial
          |((try simp only [qV]at *);(try simp only [zQ,zA,zB,zC,zD,zE,zF,zG,zH,zI,zJ,zK,zL,zM,zN,zO,zP,zR,zS]at *);first|(refine qN ?_;omega)|(simp only [Hold];omega))
          |((have hke:k=d.pn.toNat:=(by((try simp only [qV]at *);(try simp only [zQ,zA,zB,zC,zD,zE,zF,zG,zH,zI,zJ,zK,zL,zM,zN,zO,zP,zR,zS]at *);omega)));subst hR;rw [←hke,←hM2];exact qD (Fit.refl _) (qD (Fit.refl _) (qD (qE rfl) qB)))
          |((try simp only [zQ,zA,zB,zC,zD,zE,zF,zG,zH,zI,zJ,zK,zL,zM,zN,zO,zP,zR,zS]at *);(have hx2:selL fB (k+1)=M2:=hnB hfb);refine⟨⟨k+1,by((try simp only [qV]at *);(try simp only [zQ,zA,zB,zC,zD,zE,zF,zG,zH,zI,zJ,zK,zL,zM,zN,zO,zP,zR,zS]at *);omega)⟩,by simp only [];omega,?_⟩;cbv;(repeat' (first|with_reducible refine hold ?_ ?_|with_reducible refine And.intro ?_ ?_));(all_goals first|trivial|exact qM (qE (by rfl))|exact qM (qF (by rfl))|exact qM (Fit.refl _)|exact qL (qK _)|(refine qM (qE ?_);(try simp only [qV]at *);simp only [zQ,zA,zB,zC,zD,zE,zF,zG,zH,zI,zJ,zK,zL,zM,zN,zO,zP,zR,zS]at *;omega)|(refine qL (qJ ?_);(repeat' (first|exact qA|exact qB|refine qC ?_ rfl ?_|refine qD ?_ ?_|exact qE (by rfl)|exact qF (by rfl)|exact Fit.refl _|exact qG _|(refine qE ?_;(try simp only [qV]at *);simp only [zQ,zA,zB,zC,zD,zE,zF,zG,zH,zI,zJ,zK,zL,zM,zN,zO,zP,zR,zS]at *;omega)));done)|(simp only [hx2];first|exact qL (qK _)|(refine qL (ble_row ?_ ?_)<;>first|rfl|(rw [hM2,List.length_append];rfl)|((try simp only [qV]at *);(try simp only [zQ,zA,zB,zC,zD,zE,zF,zG,zH,zI,zJ,zK,zL,zM,zN,zO,zP,zR,zS]at *);(try simp only [hM2,List.length_append,List.length_cons,List.length_nil]at *);omega)|(intro ix h0 h1;exact Fit.refl _)))|skip))
          |skip
      · rw [hfb]at c65k
        cbv
        repeat' (first
            |with_reducible refine hold ?_ ?_
            |with_reducible refine And.intro ?_ ?_
            |(with_reducible intro hcd;(try simp only [zA,zB,zC,zD,zE,zF,zG,zH,zI,zJ,zK,zL,zM,zN,zO,zP]at hcd);try cbv)
            | (refine⟨some [102],?_⟩
               cbv
               refine qQ ?_ (c64k) ?hfit ?hbo
               case hfit=>(cbv;(repeat' (first|exact qB|refine qD ?_ ?_|exact qE (by rfl)|exact qF (by rfl)|exact Fit.refl _|exact qA|refine qC ?_ rfl ?_));done)
               case hbo=>(cbv;(repeat' (first|exact qH|refine qI ?_ ?_|exact qK _|refine qJ ?_|exact qA|exact qE (by rfl)|exact qF (by rfl)|exact Fit.refl _|exact qG _|refine qC ?_ rfl ?_));done)
               try cbv)
            | (refine⟨some [102],?_⟩
               cbv
               refine qQ ?_ (c65k) ?hfit ?hbo
               case hfit=>(cbv;(repeat' (first|exact qB|refine qD ?_ ?_|exact qE (by rfl)|exact qF (by rfl)|exact Fit.refl _|exact qA|refine qC ?_ rfl ?_));done)
               case hbo=>(cbv;(repeat' (first|exact qH|refine qI ?_ ?_|exact qK _|refine qJ ?_|exact qA|exact qE (by rfl)|exact qF (by rfl)|exact Fit.refl _|exact qG _|refine qC ?_ rfl ?_));done)
               try cbv)
            | (obtain⟨L4,eL4⟩:∃y:List Int,y=M2++[zi k]:=⟨_,rfl⟩
               refine⟨intsE L4,?_⟩
               cbv
               refine hold (hold_rowlist (L:=M2) eL4 (by(first|rfl|((try simp only [qV]at *);(try simp only [zQ,zA,zB,zC,zD,zE,zF,zG,zH,zI,zJ,zK,zL,zM,zN,zO,zP,zR,zS]at *);done)|((try simp only [qV]at *);(try simp only [zQ,zA,zB,zC,zD,zE,zF,zG,zH,zI,zJ,zK,zL,zM,zN,zO,zP,zR,zS]at *);omega))) (by rfl) (fun ix=>Fit.refl _) (fun ix h=>qC (qE (by rfl)) rfl qA) (by(try simp only [qV]at *);(try simp only [zQ,zA,zB,zC,zD,zE,zF,zG,zH,zI,zJ,zK,zL,zM,zN,zO,zP,zR,zS]at *);omega)) (Or.inl ?_)
               try cbv)
            |fail)
        all_goals first
          |trivial
          |((try simp only [qV]at *);(try simp only [zQ,zA,zB,zC,zD,zE,zF,zG,zH,zI,zJ,zK,zL,zM,zN,zO,zP,zR,zS]at *);first|(refine qN ?_;omega)|(simp only [Hold];omega))
          |((have hke:k=d.pn.toNat:=(by((try simp only [qV]at *);(try simp only [zQ,zA,zB,zC,zD,zE,zF,zG,zH,zI,zJ,zK,zL,zM,zN,zO,zP,zR,zS]at *);omega)));subst hR;rw [←hke,←hM2];exact qD (Fit.refl _) (qD (Fit.refl _) (qD (qE rfl) qB)))
          |((try simp only [zQ,zA,zB,zC,zD,zE,zF,zG,zH,zI,zJ,zK,zL,zM,zN,zO,zP,zR,zS]at *);(have hx2:selL fB (k+1)=L4:=(hyB hfb).trans eL4.symm);refine⟨⟨k+1,by((try simp only [qV]at *);(try simp only [zQ,zA,zB,zC,zD,zE,zF,zG,zH,zI,zJ,zK,zL,zM,zN,zO,zP,zR,zS]at *);omega)⟩,by simp only [];omega,?_⟩;cbv;(repeat' (first|with_reducible refine hold ?_ ?_|with_reducible refine And.intro ?_ ?_));(all_goals first|trivial|exact qM (qE (by rfl))|exact qM (qF (by rfl))|exact qM (Fit.refl _)|exact qL (qK _)|(refine qM (qE ?_);(try simp only [qV]at *);simp only [zQ,zA,zB,zC,zD,zE,zF,zG,zH,zI,zJ,zK,zL,zM,zN,zO,zP,zR,zS]at *;omega)|(refine qL (qJ ?_);(repeat' (first|exact qA|exact qB|refine qC ?_ rfl ?_|refine qD ?_ ?_|exact qE (by rfl)|exact qF (by rfl)|exact Fit.refl _|exact qG _|(refine qE ?_;(try simp only [qV]at *);simp only [zQ,zA,zB,zC,zD,zE,zF,zG,zH,zI,zJ,zK,zL,zM,zN,zO,zP,zR,zS]at *;omega)));done)|(simp only [hx2];first|exact qL (qK _)|(refine qL (ble_row ?_ ?_)<;>first|rfl|(rw [eL4,List.length_append];rfl)|((try simp only [qV]at *);(try simp only [zQ,zA,zB,zC,zD,zE,zF,zG,zH,zI,zJ,zK,zL,zM,zN,zO,zP,zR,zS]at *);(try simp only [eL4,List.length_append,List.length_cons,List.length_nil]at *);omega)|(intro ix h0 h1;exact Fit.refl _)))|skip))
          |skip
    · cbv
      repeat' (first
          |with_reducible refine And.intro ?_ ?_
          |(with_reducible intro hcd;(try simp only [zA,zB,zC,zD,zE,zF,zG,zH,zI,zJ,zK,zL,zM,zN,zO,zP]at hcd);try cbv)
          |fail)
      all_goals first
        |((have hke:k=d.pn.toNat:=(by((try simp only [qV]at *);(try simp only [zQ,zA,zB,zC,zD,zE,zF,zG,zH,zI,zJ,zK,zL,zM,zN,zO,zP,zR,zS]at *);omega)));subst hR;rw [←hke,←hM2];exact qD (Fit.refl _) (qD (Fit.refl _) (qD (qE rfl) qB)))
        |(exfalso;(try simp only [qV]at *);(try simp only [zQ,zA,zB,zC,zD,zE,zF,zG,zH,zI,zJ,zK,zL,zM,zN,zO,zP,zR,zS]at *);omega)
        |skip
end Go.Proofs.Ytkdggbfknlcdaaa

namespace Go.Proofs.Ytkdggbfknlcdaaa
open Go Go.Eng Go.Eng.Dif Go.Eng.Few
theorem hold_rowupd {n ix:Int} {o2:Nat} {e e':IX→List SV} {x:List SV}(h0:ix<n)(h1:∀jx:IX,0≤jx.den→jx.den<n→jx.den≠ix→Fit (.agg (e jx)) (.agg (e' jx)))
    (h2:∀jx:IX,0≤jx.den→jx.den<n→jx.den=ix→∃l,putC (e jx) o2 x=some l∧Fit (.agg l) (.agg (e' jx))):Hold (ix<n∧RowUpd n e ix o2 x e'):=
  ⟨h0,fun jx a b c=>(h1 jx a b c).le,fun jx a b c=>by obtain⟨l,p,q⟩:=h2 jx a b c;exact⟨l,p,q.le⟩⟩
def updN (f:Nat→Int)(p:Nat)(v:Int):Nat→Int:=fun i=>if i=p then v else f i
theorem upd_new {f:Nat→Int} {p i:Nat} {v:Int}(h:i=p):v=updN f p v i:=by unfold updN;rw [if_pos h]
theorem upd_old {f:Nat→Int} {p i:Nat} {v:Int}(h:i≠p):f i=updN f p v i:=by unfold updN;rw [if_neg h]
theorem bear_hi {n:Int} {m k:Nat}(hn:0≤n)(h:(k:Int)<n.tmod (m:Int)):(bear n.toNat m k:Int)=n.tdiv (m:Int)+1:=by
  obtain⟨N,rfl⟩:∃N:Nat,n=(N:Int):=⟨n.toNat,by omega⟩
  have h1:(N:Int).tmod (m:Int)=((N%m:Nat):Int):=rfl
  have h2:(N:Int).tdiv (m:Int)=((N/m:Nat):Int):=rfl
  rw [h1]at h
  rw [h2]
  unfold bear
  rw [Int.toNat_natCast,if_pos (by omega)]
  omega
theorem bear_lo {n:Int} {m k:Nat}(hn:0≤n)(h:¬(k:Int)<n.tmod (m:Int)):(bear n.toNat m k:Int)=n.tdiv (m:Int):=by
  obtain⟨N,rfl⟩:∃N:Nat,n=(N:Int):=⟨n.toNat,by omega⟩
  have h1:(N:Int).tmod (m:Int)=((N%m:Nat):Int):=rfl
  have h2:(N:Int).tdiv (m:Int)=((N/m:Nat):Int):=rfl
  rw [h1]at h
  rw [h2]
  unfold bear
  rw [Int.toNat_natCast,if_neg (by omega)]
  omega
theorem quo_bd {n:Int} {m:Nat}(h0:0≤n)(h1:n≤1000000):0≤n.tdiv (m:Int)∧n.tdiv (m:Int)≤1000000:=by
  obtain⟨N,rfl⟩:∃N:Nat,n=(N:Int):=⟨n.toNat,by omega⟩
  have h2:(N:Int).tdiv (m:Int)=((N/m:Nat):Int):=rfl
  have:=Nat.div_le_self N m
  rw [h2]
  exact⟨Int.natCast_nonneg _,Int.le_trans (Int.ofNat_le.2 this) h1⟩
theorem cost_lo {n:Int} {L:List Int} {m k i:Nat}(hn:0≤n)(h0:0≤L.getD k 0)(h:¬(k:Int)<n.tmod (m:Int)):updN (costN n.toNat L m k) (L.getD k 0).toNat (n.tdiv (m:Int)) i=costN n.toNat L m (k+1) i:=by
  unfold updN costN
  rw [bear_lo hn h]
  by_cases e:i=(L.getD k 0).toNat
  · rw [if_pos e,if_pos (by omega)]
  · rw [if_neg e,if_neg (by omega)]
    cases k<;>rfl
theorem cost_hi {n:Int} {L:List Int} {m k i a:Nat}(hn:0≤n)(h0:0≤L.getD k 0)(h:(k:Int)<n.tmod (m:Int))(ha:a=(L.getD k 0).toNat):updN (updN (costN n.toNat L m k) (L.getD k 0).toNat (n.tdiv (m:Int))) (L.getD k 0).toNat (updN (costN n.toNat L m k) (L.getD k 0).toNat (n.tdiv (m:Int)) a+1) i=costN n.toNat L m (k+1) i:=by
  rw [←upd_new ha]
  unfold updN costN
  rw [bear_hi hn h]
  by_cases e:i=(L.getD k 0).toNat
  · rw [if_pos e,if_pos (by omega)]
  · rw [if_neg e,if_neg e,if_neg (by omega)]
    cases k<;>rfl
theorem bea_ok {d:Dsp}(h:firmE d=0):Asc d.pn.toNat 0 (beaL d)∧0<(beaL d).length:=by
  have e:mstL d=selL (mstF d) d.pn.toNat:=if_pos h
  have p1:=(faultD_iff.1 (firmE_ok h).1).p1
  unfold beaL
  rw [e]
  exact bearL_ok (by omega) sel_asc
theorem bea_at {d:Dsp}(h:firmE d=0) {k:Nat}(hk:k<(beaL d).length):0≤(beaL d).getD k 0∧(beaL d).getD k 0<d.pn:=by
  have:=asc_at (bea_ok h).1 k hk
  have p1:=(faultD_iff.1 (firmE_ok h).1).p1
  omega
theorem bea_len {d:Dsp}(h:firmE d=0):(beaL d).length≤4:=by
  have p4:=(faultD_iff.1 (firmE_ok h).1).p4
  have e:mstL d=selL (mstF d) d.pn.toNat:=if_pos h
  unfold beaL bearL
  split
  · rw [iota_len];omega
  · rw [e];have:=sel_len (mstF d) d.pn.toNat;omega
theorem bea_nil {d:Dsp}(h:mstL d=[]):beaL d=iotaL d.pn.toNat:=by unfold beaL bearL;rw [h];rfl
theorem bea_ne {d:Dsp}(h:mstL d≠[]):beaL d=mstL d:=by
  unfold beaL bearL
  rw [if_neg (by rw [List.length_eq_zero_iff];exact h)]
theorem iota_s (k:Nat):iotaL (k+1)=iotaL k++[(k:Int)]:=rfl
theorem coE_ok {d:Dsp} {n:Int}(h:coE d n=0):firmE d=0∧0≤n∧n≤1000000:=by
  by_cases hF:faultD d=0
  · by_cases hn:coOk n
    · by_cases hf:firmE d=0
      · exact⟨hf,hn.1,hn.2⟩
      · rw [(coE_fail hF hn hf).1]at h;exact absurd h hf
    · rw [(coE_no hF hn).1]at h;omega
  · rw [(coE_bad hF).1]at h;exact absurd h hF
theorem coE_ne {d:Dsp} {n:Int}(h:¬coE d n=0):coN d n=0:=by unfold coN;rw [if_neg h]
end Go.Proofs.Ytkdggbfknlcdaaa

namespace Go.Proofs.Ytkdggbfknlcdaaa
open Go Go.Eng Go.Proofs Go.Eng.Dif Go.Eng.Few
set_option maxRecDepth 10000
theorem costs34n (d:Dsp)(n:Int)(h:¬coE d n=0):FSpec Try.prog 34 [(dspS d),(.int .i64 (.sym fun _=>n))] [] (fun r _=>r=(.tup [(.sl 1 (.sym fun _=>coN d n) (fun ix=>[(.int .i64 (.sym fun _=>cosF d n ix.den.toNat))])),(.int .i64 (.sym fun _=>coE d n))])):=by
  have c16:=check16 d
  have c43:= @within43
  have c33:=blame33 d
  refine FSpec.is fun R hR=>qW (sc:=sc34) tyok mix Try.func34 rfl Try.call34 (by kernel_rfl) (by kernel_rfl) ?_
  generalize Try.prog=P at c16 c43 c33⊢
  cbv
  repeat' (first
      |with_reducible refine hold ?_ ?_
      |with_reducible refine And.intro ?_ ?_
      |(with_reducible intro hcd;(try simp only [zA,zB,zC,zD,zE,zF,zG,zH,zI,zJ,zK,zL,zM,zN,zO,zP]at hcd);try cbv)
      | (refine qP ?_ (c16) ?hfit
         case hfit=>((repeat' (first|exact qB|refine qD ?_ ?_|exact qE (by rfl)|exact qF (by rfl)|exact Fit.refl _|exact qA|refine qC ?_ rfl ?_));done)
         try cbv)
      | (refine qP ?_ (c43 _ _ _) (by(repeat' (first|exact qB|refine qD ?_ ?_|exact qE (by rfl)|exact qF (by rfl)|exact Fit.refl _|exact qA|refine qC ?_ rfl ?_)))
         try cbv)
      | (refine qP ?_ (c33) ?hfit
         case hfit=>((repeat' (first|exact qB|refine qD ?_ ?_|exact qE (by rfl)|exact qF (by rfl)|exact Fit.refl _|exact qA|refine qC ?_ rfl ?_));done)
         try cbv)
      |fail)
  all_goals first
    |(subst hR;((try simp only [qV]at *);(try simp only [zQ,zA,zB,zC,zD,zE,zF,zG,zH,zI,zJ,zK,zL,zM,zN,zO,zP,zR,zS]at *);(try simp only [allB_t,allB_f,inB_t,inB_f,ofB_t,ofB_f,linkB_t,linkB_f,factB_t,factB_f]at *);(exact qD (qO (coE_ne h)) (qD (qE (coE_bad (d:=d) (n:=n) (by first|assumption|omega)).1.symm) qB)));done)
    |(subst hR;((try simp only [qV]at *);(try simp only [zQ,zA,zB,zC,zD,zE,zF,zG,zH,zI,zJ,zK,zL,zM,zN,zO,zP,zR,zS]at *);(try simp only [allB_t,allB_f,inB_t,inB_f,ofB_t,ofB_f,linkB_t,linkB_f,factB_t,factB_f]at *);(exact qD (qO (coE_ne h)) (qD (qE (coE_no (d:=d) (n:=n) (by first|assumption|omega) (by unfold coOk;omega)).1.symm) qB)));done)
    |(subst hR;((try simp only [qV]at *);(try simp only [zQ,zA,zB,zC,zD,zE,zF,zG,zH,zI,zJ,zK,zL,zM,zN,zO,zP,zR,zS]at *);(try simp only [allB_t,allB_f,inB_t,inB_f,ofB_t,ofB_f,linkB_t,linkB_f,factB_t,factB_f]at *);(exact qD (qO (coE_ne h)) (qD (qE (coE_fail (d:=d) (n:=n) (by first|assumption|omega) (by unfold coOk;omega) (by first|assumption|omega)).1.symm) qB)));done)
    |(exfalso;(try simp only [qV]at *);(try simp only [zQ,zA,zB,zC,zD,zE,zF,zG,zH,zI,zJ,zK,zL,zM,zN,zO,zP,zR,zS]at *);(try simp only [allB_t,allB_f,inB_t,inB_f,ofB_t,ofB_f,linkB_t,linkB_f,factB_t,factB_f]at *);exact h (coE_yes (by first|assumption|omega) (by unfold coOk;omega) (by first|assumption|omega)).1)
    |skip
theorem upd_at {f:Nat→Int} {p i a:Nat}(ha:a=p)(h:i=p):f a+1=updN f p (f p+1) i:=by
  subst ha
  exact upd_new h
set_option maxHeartbeats 2000000 in
theorem costs34a (d:Dsp)(n:Int)(h:coE d n=0)(he:mstL d=[]):FSpec Try.prog 34 [(dspS d),(.int .i64 (.sym fun _=>n))] [] (fun r _=>r=(.tup [(.sl 1 (.sym fun _=>coN d n) (fun ix=>[(.int .i64 (.sym fun _=>cosF d n ix.den.toNat))])),(.int .i64 (.sym fun _=>coE d n))])):=by
  have c16:=check16 d
  have c43:= @within43
  have hf:=(coE_ok h).1
  have hn0:=(coE_ok h).2.1
  have hn1:=(coE_ok h).2.2
  have hF:=(firmE_ok hf).1
  have p1:=(faultD_iff.1 hF).p1
  have p4:=(faultD_iff.1 hF).p4
  have hco:=coE_yes (n:=n) hF (show coOk n from⟨hn0,hn1⟩) hf
  have hbl:=bea_len hf
  have hb0:=(bea_ok hf).2
  have hbe:=fun (k:Nat) (hk:k<(beaL d).length)=>bea_at hf hk
  have hend:∀{k:Nat},k=(beaL d).length→∀p,costN n.toNat (beaL d) (beaL d).length k p=cosF d n p:=fun hk p=>by subst hk;rfl
  have c33:=blame33e d hf he
  have hbn:=bea_nil he
  obtain⟨Lb,hLb⟩:∃L,L=beaL d:=⟨_,rfl⟩
  rw [←hLb]at hbl hb0 hbe hend hbn
  clear hLb
  refine FSpec.is fun R hR=>qW (sc:=sc34) tyok mix Try.func34 rfl Try.call34 (by kernel_rfl) (by kernel_rfl) ?_
  generalize Try.prog=P at c16 c43 c33⊢
  cbv
  repeat' (first
      |with_reducible refine And.intro ?_ ?_
      |(with_reducible intro hcd;(try simp only [zA,zB,zC,zD,zE,zF,zG,zH,zI,zJ,zK,zL,zM,zN,zO,zP]at hcd);try cbv)
      | (refine qP ?_ (c16) ?hfit
         case hfit=>((repeat' (first|exact qB|refine qD ?_ ?_|exact qE (by rfl)|exact qF (by rfl)|exact Fit.refl _|exact qA|refine qC ?_ rfl ?_));done)
         try cbv)
      | (refine qP ?_ (c43 _ _ _) (by(repeat' (first|exact qB|refine qD ?_ ?_|exact qE (by rfl)|exact qF (by rfl)|exact Fit.refl _|exact qA|refine qC ?_ rfl ?_)))
         try cbv)
      | (refine qP ?_ (c33) ?hfit
         case hfit=>((repeat' (first|exact qB|refine qD ?_ ?_|exact qE (by rfl)|exact qF (by rfl)|exact Fit.refl _|exact qA|refine qC ?_ rfl ?_));done)
         try cbv)
      |fail)
  all_goals first
    |trivial
    |(exfalso;(try simp only [qV]at *);(try simp only [zQ,zA,zB,zC,zD,zE,zF,zG,zH,zI,zJ,zK,zL,zM,zN,zO,zP,zR,zS]at *);(try simp only [allB_t,allB_f,inB_t,inB_f,ofB_t,ofB_f,linkB_t,linkB_f,factB_t,factB_f]at *);omega)
    |skip
  refine⟨none,[⟨.tmp 7,3,1⟩],{k:Nat // k≤d.pn.toNat},fun x=>⟨[(1,(.int .i64 (.sym fun _=>n))),(2,.own 0 0),(7,.row 28),(35,(.int .i64 (.sym fun _=>d.pn))),(36,(.int .i64 (.sym fun _=>zi x.1)))],[(0,.cells [(.sl 1 (.sym fun _=>zi (d.tw).length) (fun ix=>[.int .i64 (.sym fun _=>(d.tw).getD ix.den.toNat 0)])),(.sl 1 (.sym fun _=>zi (d.tm).length) (fun ix=>[.int .i64 (.sym fun _=>(d.tm).getD ix.den.toNat 0)])),(.sl 1 (.sym fun _=>zi (d.tv).length) (fun ix=>[(.sl 1 (.sym fun _=>zi ((d.tv).getD ix.den.toNat []).length) (fun jx=>[.int .i64 (.sym fun _=>((d.tv).getD ix.den.toNat []).getD jx.den.toNat 0)]))])),(.int .i64 (.sym fun _=>d.sn)),(.int .i64 (.sym fun _=>d.pn)),(.sl 4 (.sym fun _=>zi (d.ls).length) (fun ix=>[(.int .i64 (.sym fun _=>((d.ls).getD ix.den.toNat l0T).a)),(.int .i64 (.sym fun _=>((d.ls).getD ix.den.toNat l0T).b)),(.int .i64 (.sym fun _=>((d.ls).getD ix.den.toNat l0T).lo)),(.int .i64 (.sym fun _=>((d.ls).getD ix.den.toNat l0T).hi))])),(.sl 6 (.sym fun _=>zi (d.fs).length) (fun ix=>[(.int .i64 (.sym fun _=>((d.fs).getD ix.den.toNat f0T).p)),(.int .i64 (.sym fun _=>((d.fs).getD ix.den.toNat f0T).s)),(.int .i64 (.sym fun _=>((d.fs).getD ix.den.toNat f0T).wl)),(.int .i64 (.sym fun _=>((d.fs).getD ix.den.toNat f0T).wh)),(.int .i64 (.sym fun _=>((d.fs).getD ix.den.toNat f0T).ml)),(.int .i64 (.sym fun _=>((d.fs).getD ix.den.toNat f0T).mh))]))] 41),(28,.row 3 1 (.sym fun _=>zi ((iotaL x.1)).length) (fun ix=>[.int .i64 (.sym fun _=>((iotaL x.1)).getD ix.den.toNat 0)]))],100⟩,fun x=>d.pn.toNat-x.1,?_,?_⟩
  · refine⟨⟨0,by omega⟩,?_⟩
    cbv
    repeat' (first
      |with_reducible refine hold ?_ ?_
      |with_reducible refine And.intro ?_ ?_)
    all_goals first
      |trivial
      |exact qM (qE (by rfl))
      |exact qM (Fit.refl _)
      |exact qL (qK _)
      |(refine qL (ble_row ?_ ?_);(first|rfl|((try simp only [qV]at *);(try simp only [zQ,zA,zB,zC,zD,zE,zF,zG,zH,zI,zJ,zK,zL,zM,zN,zO,zP,zR,zS]at *);omega));intro ix h0 h1;exfalso;(try simp only [qV]at *);(try simp only [zQ,zA,zB,zC,zD,zE,zF,zG,zH,zI,zJ,zK,zL,zM,zN,zO,zP,zR,zS]at *);omega)
      |skip
  · rintro ⟨k,hk⟩
    cbv
    have hlen:=iota_len k
    obtain⟨M,hM⟩:∃M,M=iotaL k:=⟨_,rfl⟩
    have hx0:=iota_s k
    rw [←hM]at hlen hx0⊢
    cbv
    repeat' (first
        |with_reducible refine hold ?_ ?_
        |with_reducible refine And.intro ?_ ?_
        |(with_reducible intro hcd;(try simp only [zA,zB,zC,zD,zE,zF,zG,zH,zI,zJ,zK,zL,zM,zN,zO,zP]at hcd);try cbv)
        | (obtain⟨L2,eL2⟩:∃y:List Int,y=M++[zi k]:=⟨_,rfl⟩
           refine⟨intsE L2,?_⟩
           cbv
           refine hold (hold_rowlist (L:=M) eL2 (by(first|rfl|((try simp only [qV]at *);(try simp only [zQ,zA,zB,zC,zD,zE,zF,zG,zH,zI,zJ,zK,zL,zM,zN,zO,zP,zR,zS]at *);done)|((try simp only [qV]at *);(try simp only [zQ,zA,zB,zC,zD,zE,zF,zG,zH,zI,zJ,zK,zL,zM,zN,zO,zP,zR,zS]at *);omega))) (by rfl) (fun ix=>Fit.refl _) (fun ix h=>qC (qE (by rfl)) rfl qA) (by(try simp only [qV]at *);(try simp only [zQ,zA,zB,zC,zD,zE,zF,zG,zH,zI,zJ,zK,zL,zM,zN,zO,zP,zR,zS]at *);omega)) (Or.inl ?_)
           try cbv)
        |fail)
    all_goals first
      |((try simp only [qV]at *);(try simp only [zQ,zA,zB,zC,zD,zE,zF,zG,zH,zI,zJ,zK,zL,zM,zN,zO,zP,zR,zS]at *);first|(refine qN ?_;omega)|(simp only [Hold];omega))
      |(unfold Hold;exact⟨show(0:Int)≤d.pn by omega,rfl,show d.pn*((1:Nat):Int)≤16777216 by omega,show d.pn*((8:Nat):Int)≤16777216 by omega,show d.pn≤16777216 by omega⟩)
      |((try simp only [zQ,zA,zB,zC,zD,zE,zF,zG,zH,zI,zJ,zK,zL,zM,zN,zO,zP,zR,zS]at *);(have hx:iotaL (k+1)=L2:=hx0.trans eL2.symm);refine⟨⟨k+1,by((try simp only [qV]at *);(try simp only [zQ,zA,zB,zC,zD,zE,zF,zG,zH,zI,zJ,zK,zL,zM,zN,zO,zP,zR,zS]at *);omega)⟩,by simp only [];omega,?_⟩;cbv;(repeat' (first|with_reducible refine hold ?_ ?_|with_reducible refine And.intro ?_ ?_));(all_goals first|trivial|exact qM (qE (by rfl))|exact qM (qF (by rfl))|exact qM (Fit.refl _)|exact qL (qK _)|(refine qM (qE ?_);(try simp only [qV]at *);simp only [zQ,zA,zB,zC,zD,zE,zF,zG,zH,zI,zJ,zK,zL,zM,zN,zO,zP,zR,zS]at *;omega)|(refine qL (qJ ?_);(repeat' (first|exact qA|exact qB|refine qC ?_ rfl ?_|refine qD ?_ ?_|exact qE (by rfl)|exact qF (by rfl)|exact Fit.refl _|exact qG _|(refine qE ?_;(try simp only [qV]at *);simp only [zQ,zA,zB,zC,zD,zE,zF,zG,zH,zI,zJ,zK,zL,zM,zN,zO,zP,zR,zS]at *;omega)));done)|(simp only [hx];first|exact qL (qK _)|(refine qL (ble_row ?_ ?_)<;>first|rfl|(rw [eL2,List.length_append];rfl)|((try simp only [qV]at *);(try simp only [zQ,zA,zB,zC,zD,zE,zF,zG,zH,zI,zJ,zK,zL,zM,zN,zO,zP,zR,zS]at *);(try simp only [eL2,List.length_append,List.length_cons,List.length_nil]at *);omega)|(intro ix h0 h1;exact Fit.refl _)))|skip))
      |skip
    have hkP:k=d.pn.toNat:=(by((try simp only [qV]at *);(try simp only [zQ,zA,zB,zC,zD,zE,zF,zG,zH,zI,zJ,zK,zL,zM,zN,zO,zP,zR,zS]at *);omega))
    have hML:M=Lb:=by rw [hM,hkP,←hbn]
    rw [hML]
    refine⟨none,[],{k:Nat // k≤Lb.length},fun x=>⟨[(1,(.int .i64 (.sym fun _=>n))),(7,.row 28),(11,.row 103),(47,.row 28),(48,(.int .i64 (.sym fun _=>zi Lb.length))),(49,(.int .i64 (.sym fun _=>zi x.1)))],[(0,.cells [(.sl 1 (.sym fun _=>zi (d.tw).length) (fun ix=>[.int .i64 (.sym fun _=>(d.tw).getD ix.den.toNat 0)])),(.sl 1 (.sym fun _=>zi (d.tm).length) (fun ix=>[.int .i64 (.sym fun _=>(d.tm).getD ix.den.toNat 0)])),(.sl 1 (.sym fun _=>zi (d.tv).length) (fun ix=>[(.sl 1 (.sym fun _=>zi ((d.tv).getD ix.den.toNat []).length) (fun jx=>[.int .i64 (.sym fun _=>((d.tv).getD ix.den.toNat []).getD jx.den.toNat 0)]))])),(.int .i64 (.sym fun _=>d.sn)),(.int .i64 (.sym fun _=>d.pn)),(.sl 4 (.sym fun _=>zi (d.ls).length) (fun ix=>[(.int .i64 (.sym fun _=>((d.ls).getD ix.den.toNat l0T).a)),(.int .i64 (.sym fun _=>((d.ls).getD ix.den.toNat l0T).b)),(.int .i64 (.sym fun _=>((d.ls).getD ix.den.toNat l0T).lo)),(.int .i64 (.sym fun _=>((d.ls).getD ix.den.toNat l0T).hi))])),(.sl 6 (.sym fun _=>zi (d.fs).length) (fun ix=>[(.int .i64 (.sym fun _=>((d.fs).getD ix.den.toNat f0T).p)),(.int .i64 (.sym fun _=>((d.fs).getD ix.den.toNat f0T).s)),(.int .i64 (.sym fun _=>((d.fs).getD ix.den.toNat f0T).wl)),(.int .i64 (.sym fun _=>((d.fs).getD ix.den.toNat f0T).wh)),(.int .i64 (.sym fun _=>((d.fs).getD ix.den.toNat f0T).ml)),(.int .i64 (.sym fun _=>((d.fs).getD ix.den.toNat f0T).mh))]))] 41),(28,.row 3 1 (.sym fun _=>zi (Lb).length) (fun ix=>[.int .i64 (.sym fun _=>(Lb).getD ix.den.toNat 0)])),(103,.row 3 1 (.sym fun _=>d.pn) (fun ix=>[(.int .i64 (.sym fun _=>(costN n.toNat Lb Lb.length x.1) ix.den.toNat))]))],300⟩,fun x=>Lb.length-x.1,?_,?_⟩
    · refine⟨⟨0,by omega⟩,?_⟩
      cbv
      repeat' (first
        |with_reducible refine hold ?_ ?_
        |with_reducible refine And.intro ?_ ?_)
      all_goals first
        |trivial
        |exact qM (qE (by rfl))
        |exact qM (Fit.refl _)
        |exact qL (qK _)
        |(refine qL (ble_row ?_ ?_)<;>first|rfl|((try simp only [qV]at *);(try simp only [zQ,zA,zB,zC,zD,zE,zF,zG,zH,zI,zJ,zK,zL,zM,zN,zO,zP,zR,zS]at *);omega)|(intro ix h0 h1;first|exact Fit.refl _|exact qC (qE rfl) rfl qA))
        |skip
    · rintro ⟨k,hk⟩
      cbv
      repeat' (first
          |with_reducible refine hold ?_ ?_
          |with_reducible refine And.intro ?_ ?_
          | (with_reducible refine qS ?_ ?_ ?_
             try cbv)
          | (with_reducible refine qT ?_ ?_
             try cbv)
          |(with_reducible intro hcd;(try simp only [zA,zB,zC,zD,zE,zF,zG,zH,zI,zJ,zK,zL,zM,zN,zO,zP]at hcd);try cbv)
          | ((have hk9:=hbe k (by((try simp only [qV]at *);(try simp only [zQ,zA,zB,zC,zD,zE,zF,zG,zH,zI,zJ,zK,zL,zM,zN,zO,zP,zR,zS]at *);omega)))
             refine⟨fun ix=>[(.int .i64 (.sym fun _=>(updN (costN n.toNat Lb Lb.length k) (Lb.getD k 0).toNat (n.tdiv (zi Lb.length))) ix.den.toNat))],?_⟩
             cbv
             refine hold (hold_rowupd (o2:=0) (x:=[_]) (by((try simp only [qV]at *);(try simp only [zQ,zA,zB,zC,zD,zE,zF,zG,zH,zI,zJ,zK,zL,zM,zN,zO,zP,zR,zS]at *);omega)) (by intro jx h0 h1 h2;refine qC (qE ?_) rfl qA;(try simp only [qV]at *);(try simp only [zQ,zA,zB,zC,zD,zE,zF,zG,zH,zI,zJ,zK,zL,zM,zN,zO,zP,zR,zS]at *);exact upd_old (by omega)) (by intro jx h0 h1 h2;refine⟨_,rfl,qC (qE ?_) rfl qA⟩;(try simp only [qV]at *);(try simp only [zQ,zA,zB,zC,zD,zE,zF,zG,zH,zI,zJ,zK,zL,zM,zN,zO,zP,zR,zS]at *);exact upd_new (by omega))) ?_
             try cbv)
          | ((have hk9:=hbe k (by((try simp only [qV]at *);(try simp only [zQ,zA,zB,zC,zD,zE,zF,zG,zH,zI,zJ,zK,zL,zM,zN,zO,zP,zR,zS]at *);omega)))
             refine⟨fun ix=>[(.int .i64 (.sym fun _=>(updN (updN (costN n.toNat Lb Lb.length k) (Lb.getD k 0).toNat (n.tdiv (zi Lb.length))) (Lb.getD k 0).toNat ((updN (costN n.toNat Lb Lb.length k) (Lb.getD k 0).toNat (n.tdiv (zi Lb.length))) (Lb.getD k 0).toNat+1)) ix.den.toNat))],?_⟩
             cbv
             refine hold (hold_rowupd (o2:=0) (x:=[_]) (by((try simp only [qV]at *);(try simp only [zQ,zA,zB,zC,zD,zE,zF,zG,zH,zI,zJ,zK,zL,zM,zN,zO,zP,zR,zS]at *);omega)) (by intro jx h0 h1 h2;refine qC (qE ?_) rfl qA;(try simp only [qV]at *);(try simp only [zQ,zA,zB,zC,zD,zE,zF,zG,zH,zI,zJ,zK,zL,zM,zN,zO,zP,zR,zS]at *);exact upd_old (by omega)) (by intro jx h0 h1 h2;refine⟨_,rfl,qC (qE ?_) rfl qA⟩;(try simp only [qV]at *);(try simp only [zQ,zA,zB,zC,zD,zE,zF,zG,zH,zI,zJ,zK,zL,zM,zN,zO,zP,zR,zS]at *);exact upd_at (by omega) (by omega))) ?_
             try cbv)
          |fail)
      all_goals first
        |trivial
        |((try simp only [qV]at *);(try simp only [zQ,zA,zB,zC,zD,zE,zF,zG,zH,zI,zJ,zK,zL,zM,zN,zO,zP,zR,zS]at *);first|(refine qN ?_;omega)|(simp only [Hold];omega))
        |((have hk9:=hbe k (by((try simp only [qV]at *);(try simp only [zQ,zA,zB,zC,zD,zE,zF,zG,zH,zI,zJ,zK,zL,zM,zN,zO,zP,zR,zS]at *);omega)));(try simp only [qV]at *);(try simp only [zQ,zA,zB,zC,zD,zE,zF,zG,zH,zI,zJ,zK,zL,zM,zN,zO,zP,zR,zS]at *);simp only [Hold];first|omega|exact⟨by omega,by omega⟩)
        |((have hk9:=hbe k (by((try simp only [qV]at *);(try simp only [zQ,zA,zB,zC,zD,zE,zF,zG,zH,zI,zJ,zK,zL,zM,zN,zO,zP,zR,zS]at *);omega)));(have hq9:=quo_bd (m:=Lb.length) hn0 hn1);(try simp only [qV]at *);(try simp only [zQ,zA,zB,zC,zD,zE,zF,zG,zH,zI,zJ,zK,zL,zM,zN,zO,zP,zR,zS]at *);first|(refine qN ?_;omega)|(rw [←upd_new (by omega)];refine qN ?_;omega))
        |((have hke:k=Lb.length:=(by((try simp only [qV]at *);(try simp only [zQ,zA,zB,zC,zD,zE,zF,zG,zH,zI,zJ,zK,zL,zM,zN,zO,zP,zR,zS]at *);omega)));subst hR;exact qD (fit_sl hco.2.symm (fun ix h0 h1=>qC (qE (hend hke _)) rfl qA)) (qD (qE hco.1.symm) qB))
        |((try simp only [zQ,zA,zB,zC,zD,zE,zF,zG,zH,zI,zJ,zK,zL,zM,zN,zO,zP,zR,zS]at *);(have hk9:=hbe k (by((try simp only [qV]at *);(try simp only [zQ,zA,zB,zC,zD,zE,zF,zG,zH,zI,zJ,zK,zL,zM,zN,zO,zP,zR,zS]at *);omega)));(have hlo:¬(k:Int)<n.tmod (Lb.length:Int):=hcd);refine⟨⟨k+1,by((try simp only [qV]at *);(try simp only [zQ,zA,zB,zC,zD,zE,zF,zG,zH,zI,zJ,zK,zL,zM,zN,zO,zP,zR,zS]at *);omega)⟩,by simp only [];omega,?_⟩;cbv;(repeat' (first|with_reducible refine hold ?_ ?_|with_reducible refine And.intro ?_ ?_));(all_goals first|trivial|exact qM (qE (by rfl))|exact qM (qF (by rfl))|exact qM (Fit.refl _)|exact qL (qK _)|(refine qM (qE ?_);(try simp only [qV]at *);simp only [zQ,zA,zB,zC,zD,zE,zF,zG,zH,zI,zJ,zK,zL,zM,zN,zO,zP,zR,zS]at *;omega)|(refine qL (qJ ?_);(repeat' (first|exact qA|exact qB|refine qC ?_ rfl ?_|refine qD ?_ ?_|exact qE (by rfl)|exact qF (by rfl)|exact Fit.refl _|exact qG _|(refine qE ?_;(try simp only [qV]at *);simp only [zQ,zA,zB,zC,zD,zE,zF,zG,zH,zI,zJ,zK,zL,zM,zN,zO,zP,zR,zS]at *;omega)));done)|(refine qL (ble_row ?_ ?_)<;>first|rfl|(intro ix h0 h1;first|exact Fit.refl _|exact qC (qE (cost_lo hn0 hk9.1 hlo)) rfl qA|exact qC (qE (cost_hi hn0 hk9.1 hhi rfl)) rfl qA))|skip))
        |((try simp only [zQ,zA,zB,zC,zD,zE,zF,zG,zH,zI,zJ,zK,zL,zM,zN,zO,zP,zR,zS]at *);(have hk9:=hbe k (by((try simp only [qV]at *);(try simp only [zQ,zA,zB,zC,zD,zE,zF,zG,zH,zI,zJ,zK,zL,zM,zN,zO,zP,zR,zS]at *);omega)));(have hhi:(k:Int)<n.tmod (Lb.length:Int):=hcd);refine⟨⟨k+1,by((try simp only [qV]at *);(try simp only [zQ,zA,zB,zC,zD,zE,zF,zG,zH,zI,zJ,zK,zL,zM,zN,zO,zP,zR,zS]at *);omega)⟩,by simp only [];omega,?_⟩;cbv;(repeat' (first|with_reducible refine hold ?_ ?_|with_reducible refine And.intro ?_ ?_));(all_goals first|trivial|exact qM (qE (by rfl))|exact qM (qF (by rfl))|exact qM (Fit.refl _)|exact qL (qK _)|(refine qM (qE ?_);(try simp only [qV]at *);simp only [zQ,zA,zB,zC,zD,zE,zF,zG,zH,zI,zJ,zK,zL,zM,zN,zO,zP,zR,zS]at *;omega)|(refine qL (qJ ?_);(repeat' (first|exact qA|exact qB|refine qC ?_ rfl ?_|refine qD ?_ ?_|exact qE (by rfl)|exact qF (by rfl)|exact Fit.refl _|exact qG _|(refine qE ?_;(try simp only [qV]at *);simp only [zQ,zA,zB,zC,zD,zE,zF,zG,zH,zI,zJ,zK,zL,zM,zN,zO,zP,zR,zS]at *;omega)));done)|(refine qL (ble_row ?_ ?_)<;>first|rfl|(intro ix h0 h1;first|exact Fit.refl _|exact qC (qE (cost_lo hn0 hk9.1 hlo)) rfl qA|exact qC (qE (cost_hi hn0 hk9.1 hhi rfl)) rfl qA))|skip))
        |skip
set_option maxHeartbeats 2000000 in
theorem costs34b (d:Dsp)(n:Int)(h:coE d n=0)(he:mstL d≠[]):FSpec Try.prog 34 [(dspS d),(.int .i64 (.sym fun _=>n))] [] (fun r _=>r=(.tup [(.sl 1 (.sym fun _=>coN d n) (fun ix=>[(.int .i64 (.sym fun _=>cosF d n ix.den.toNat))])),(.int .i64 (.sym fun _=>coE d n))])):=by
  have c16:=check16 d
  have c43:= @within43
  have hf:=(coE_ok h).1
  have hn0:=(coE_ok h).2.1
  have hn1:=(coE_ok h).2.2
  have hF:=(firmE_ok hf).1
  have p1:=(faultD_iff.1 hF).p1
  have p4:=(faultD_iff.1 hF).p4
  have hco:=coE_yes (n:=n) hF (show coOk n from⟨hn0,hn1⟩) hf
  have hbl:=bea_len hf
  have hb0:=(bea_ok hf).2
  have hbe:=fun (k:Nat) (hk:k<(beaL d).length)=>bea_at hf hk
  have hend:∀{k:Nat},k=(beaL d).length→∀p,costN n.toNat (beaL d) (beaL d).length k p=cosF d n p:=fun hk p=>by subst hk;rfl
  have c33:=blame33 d
  have hbn:=bea_ne he
  rw [←hbn]at c33
  obtain⟨Lb,hLb⟩:∃L,L=beaL d:=⟨_,rfl⟩
  rw [←hLb]at hbl hb0 hbe hend c33
  clear hLb hbn
  refine FSpec.is fun R hR=>qW (sc:=sc34) tyok mix Try.func34 rfl Try.call34 (by kernel_rfl) (by kernel_rfl) ?_
  generalize Try.prog=P at c16 c43 c33⊢
  cbv
  repeat' (first
      |with_reducible refine hold ?_ ?_
      |with_reducible refine And.intro ?_ ?_
      |(with_reducible intro hcd;(try simp only [zA,zB,zC,zD,zE,zF,zG,zH,zI,zJ,zK,zL,zM,zN,zO,zP]at hcd);try cbv)
      | (refine qP ?_ (c16) ?hfit
         case hfit=>((repeat' (first|exact qB|refine qD ?_ ?_|exact qE (by rfl)|exact qF (by rfl)|exact Fit.refl _|exact qA|refine qC ?_ rfl ?_));done)
         try cbv)
      | (refine qP ?_ (c43 _ _ _) (by(repeat' (first|exact qB|refine qD ?_ ?_|exact qE (by rfl)|exact qF (by rfl)|exact Fit.refl _|exact qA|refine qC ?_ rfl ?_)))
         try cbv)
      | (refine qP ?_ (c33) ?hfit
         case hfit=>((repeat' (first|exact qB|refine qD ?_ ?_|exact qE (by rfl)|exact qF (by rfl)|exact Fit.refl _|exact qA|refine qC ?_ rfl ?_));done)
         try cbv)
      |fail)
  all_goals first
    |trivial
    |(unfold Hold;exact⟨show(0:Int)≤d.pn by omega,rfl,show d.pn*((1:Nat):Int)≤16777216 by omega,show d.pn*((8:Nat):Int)≤16777216 by omega,show d.pn≤16777216 by omega⟩)
    |(exfalso;(try simp only [qV]at *);(try simp only [zQ,zA,zB,zC,zD,zE,zF,zG,zH,zI,zJ,zK,zL,zM,zN,zO,zP,zR,zS]at *);omega)
    |(exfalso;(try simp only [qV]at *);(try simp only [zQ,zA,zB,zC,zD,zE,zF,zG,zH,zI,zJ,zK,zL,zM,zN,zO,zP,zR,zS]at *);(try simp only [allB_t,allB_f,inB_t,inB_f,ofB_t,ofB_f,linkB_t,linkB_f,factB_t,factB_f]at *);omega)
    |skip
  refine⟨none,[],{k:Nat // k≤Lb.length},fun x=>⟨[(1,(.int .i64 (.sym fun _=>n))),(7,(.sl 1 (.sym fun _=>zi (Lb).length) (fun ix=>[.int .i64 (.sym fun _=>(Lb).getD ix.den.toNat 0)]))),(11,.row 27),(47,(.sl 1 (.sym fun _=>zi (Lb).length) (fun ix=>[.int .i64 (.sym fun _=>(Lb).getD ix.den.toNat 0)]))),(48,(.int .i64 (.sym fun _=>zi Lb.length))),(49,(.int .i64 (.sym fun _=>zi x.1)))],[(0,.cells [(.sl 1 (.sym fun _=>zi (d.tw).length) (fun ix=>[.int .i64 (.sym fun _=>(d.tw).getD ix.den.toNat 0)])),(.sl 1 (.sym fun _=>zi (d.tm).length) (fun ix=>[.int .i64 (.sym fun _=>(d.tm).getD ix.den.toNat 0)])),(.sl 1 (.sym fun _=>zi (d.tv).length) (fun ix=>[(.sl 1 (.sym fun _=>zi ((d.tv).getD ix.den.toNat []).length) (fun jx=>[.int .i64 (.sym fun _=>((d.tv).getD ix.den.toNat []).getD jx.den.toNat 0)]))])),(.int .i64 (.sym fun _=>d.sn)),(.int .i64 (.sym fun _=>d.pn)),(.sl 4 (.sym fun _=>zi (d.ls).length) (fun ix=>[(.int .i64 (.sym fun _=>((d.ls).getD ix.den.toNat l0T).a)),(.int .i64 (.sym fun _=>((d.ls).getD ix.den.toNat l0T).b)),(.int .i64 (.sym fun _=>((d.ls).getD ix.den.toNat l0T).lo)),(.int .i64 (.sym fun _=>((d.ls).getD ix.den.toNat l0T).hi))])),(.sl 6 (.sym fun _=>zi (d.fs).length) (fun ix=>[(.int .i64 (.sym fun _=>((d.fs).getD ix.den.toNat f0T).p)),(.int .i64 (.sym fun _=>((d.fs).getD ix.den.toNat f0T).s)),(.int .i64 (.sym fun _=>((d.fs).getD ix.den.toNat f0T).wl)),(.int .i64 (.sym fun _=>((d.fs).getD ix.den.toNat f0T).wh)),(.int .i64 (.sym fun _=>((d.fs).getD ix.den.toNat f0T).ml)),(.int .i64 (.sym fun _=>((d.fs).getD ix.den.toNat f0T).mh))]))] 41),(27,.row 3 1 (.sym fun _=>d.pn) (fun ix=>[(.int .i64 (.sym fun _=>(costN n.toNat Lb Lb.length x.1) ix.den.toNat))]))],300⟩,fun x=>Lb.length-x.1,?_,?_⟩
  · refine⟨⟨0,by omega⟩,?_⟩
    cbv
    repeat' (first
      |with_reducible refine hold ?_ ?_
      |with_reducible refine And.intro ?_ ?_)
    all_goals first
      |trivial
      |exact qM (qE (by rfl))
      |exact qM (Fit.refl _)
      |exact qL (qK _)
      |(refine qL (ble_row ?_ ?_)<;>first|rfl|((try simp only [qV]at *);(try simp only [zQ,zA,zB,zC,zD,zE,zF,zG,zH,zI,zJ,zK,zL,zM,zN,zO,zP,zR,zS]at *);omega)|(intro ix h0 h1;first|exact Fit.refl _|exact qC (qE rfl) rfl qA))
      |skip
  · rintro ⟨k,hk⟩
    cbv
    repeat' (first
        |with_reducible refine hold ?_ ?_
        |with_reducible refine And.intro ?_ ?_
        | (with_reducible refine qS ?_ ?_ ?_
           try cbv)
        | (with_reducible refine qT ?_ ?_
           try cbv)
        |(with_reducible intro hcd;(try simp only [zA,zB,zC,zD,zE,zF,zG,zH,zI,zJ,zK,zL,zM,zN,zO,zP]at hcd);try cbv)
        | ((have hk9:=hbe k (by((try simp only [qV]at *);(try simp only [zQ,zA,zB,zC,zD,zE,zF,zG,zH,zI,zJ,zK,zL,zM,zN,zO,zP,zR,zS]at *);omega)))
           refine⟨fun ix=>[(.int .i64 (.sym fun _=>(updN (costN n.toNat Lb Lb.length k) (Lb.getD k 0).toNat (n.tdiv (zi Lb.length))) ix.den.toNat))],?_⟩
           cbv
           refine hold (hold_rowupd (o2:=0) (x:=[_]) (by((try simp only [qV]at *);(try simp only [zQ,zA,zB,zC,zD,zE,zF,zG,zH,zI,zJ,zK,zL,zM,zN,zO,zP,zR,zS]at *);omega)) (by intro jx h0 h1 h2;refine qC (qE ?_) rfl qA;(try simp only [qV]at *);(try simp only [zQ,zA,zB,zC,zD,zE,zF,zG,zH,zI,zJ,zK,zL,zM,zN,zO,zP,zR,zS]at *);exact upd_old (by omega)) (by intro jx h0 h1 h2;refine⟨_,rfl,qC (qE ?_) rfl qA⟩;(try simp only [qV]at *);(try simp only [zQ,zA,zB,zC,zD,zE,zF,zG,zH,zI,zJ,zK,zL,zM,zN,zO,zP,zR,zS]at *);exact upd_new (by omega))) ?_
           try cbv)
        | ((have hk9:=hbe k (by((try simp only [qV]at *);(try simp only [zQ,zA,zB,zC,zD,zE,zF,zG,zH,zI,zJ,zK,zL,zM,zN,zO,zP,zR,zS]at *);omega)))
           refine⟨fun ix=>[(.int .i64 (.sym fun _=>(updN (updN (costN n.toNat Lb Lb.length k) (Lb.getD k 0).toNat (n.tdiv (zi Lb.length))) (Lb.getD k 0).toNat ((updN (costN n.toNat Lb Lb.length k) (Lb.getD k 0).toNat (n.tdiv (zi Lb.length))) (Lb.getD k 0).toNat+1)) ix.den.toNat))],?_⟩
           cbv
           refine hold (hold_rowupd (o2:=0) (x:=[_]) (by((try simp only [qV]at *);(try simp only [zQ,zA,zB,zC,zD,zE,zF,zG,zH,zI,zJ,zK,zL,zM,zN,zO,zP,zR,zS]at *);omega)) (by intro jx h0 h1 h2;refine qC (qE ?_) rfl qA;(try simp only [qV]at *);(try simp only [zQ,zA,zB,zC,zD,zE,zF,zG,zH,zI,zJ,zK,zL,zM,zN,zO,zP,zR,zS]at *);exact upd_old (by omega)) (by intro jx h0 h1 h2;refine⟨_,rfl,qC (qE ?_) rfl qA⟩;(try simp only [qV]at *);(try simp only [zQ,zA,zB,zC,zD,zE,zF,zG,zH,zI,zJ,zK,zL,zM,zN,zO,zP,zR,zS]at *);exact upd_at (by omega) (by omega))) ?_
           try cbv)
        |fail)
    all_goals first
      |trivial
      |((try simp only [qV]at *);(try simp only [zQ,zA,zB,zC,zD,zE,zF,zG,zH,zI,zJ,zK,zL,zM,zN,zO,zP,zR,zS]at *);first|(refine qN ?_;omega)|(simp only [Hold];omega))
      |((have hk9:=hbe k (by((try simp only [qV]at *);(try simp only [zQ,zA,zB,zC,zD,zE,zF,zG,zH,zI,zJ,zK,zL,zM,zN,zO,zP,zR,zS]at *);omega)));(try simp only [qV]at *);(try simp only [zQ,zA,zB,zC,zD,zE,zF,zG,zH,zI,zJ,zK,zL,zM,zN,zO,zP,zR,zS]at *);simp only [Hold];first|omega|exact⟨by omega,by omega⟩)
      |((have hk9:=hbe k (by((try simp only [qV]at *);(try simp only [zQ,zA,zB,zC,zD,zE,zF,zG,zH,zI,zJ,zK,zL,zM,zN,zO,zP,zR,zS]at *);omega)));(have hq9:=quo_bd (m:=Lb.length) hn0 hn1);(try simp only [qV]at *);(try simp only [zQ,zA,zB,zC,zD,zE,zF,zG,zH,zI,zJ,zK,zL,zM,zN,zO,zP,zR,zS]at *);first|(refine qN ?_;omega)|(rw [←upd_new (by omega)];refine qN ?_;omega))
      |((have hke:k=Lb.length:=(by((try simp only [qV]at *);(try simp only [zQ,zA,zB,zC,zD,zE,zF,zG,zH,zI,zJ,zK,zL,zM,zN,zO,zP,zR,zS]at *);omega)));subst hR;exact qD (fit_sl hco.2.symm (fun ix h0 h1=>qC (qE (hend hke _)) rfl qA)) (qD (qE hco.1.symm) qB))
      |((try simp only [zQ,zA,zB,zC,zD,zE,zF,zG,zH,zI,zJ,zK,zL,zM,zN,zO,zP,zR,zS]at *);(have hk9:=hbe k (by((try simp only [qV]at *);(try simp only [zQ,zA,zB,zC,zD,zE,zF,zG,zH,zI,zJ,zK,zL,zM,zN,zO,zP,zR,zS]at *);omega)));(have hlo:¬(k:Int)<n.tmod (Lb.length:Int):=hcd);refine⟨⟨k+1,by((try simp only [qV]at *);(try simp only [zQ,zA,zB,zC,zD,zE,zF,zG,zH,zI,zJ,zK,zL,zM,zN,zO,zP,zR,zS]at *);omega)⟩,by simp only [];omega,?_⟩;cbv;(repeat' (first|with_reducible refine hold ?_ ?_|with_reducible refine And.intro ?_ ?_));(all_goals first|trivial|exact qM (qE (by rfl))|exact qM (qF (by rfl))|exact qM (Fit.refl _)|exact qL (qK _)|(refine qM (qE ?_);(try simp only [qV]at *);simp only [zQ,zA,zB,zC,zD,zE,zF,zG,zH,zI,zJ,zK,zL,zM,zN,zO,zP,zR,zS]at *;omega)|(refine qL (qJ ?_);(repeat' (first|exact qA|exact qB|refine qC ?_ rfl ?_|refine qD ?_ ?_|exact qE (by rfl)|exact qF (by rfl)|exact Fit.refl _|exact qG _|(refine qE ?_;(try simp only [qV]at *);simp only [zQ,zA,zB,zC,zD,zE,zF,zG,zH,zI,zJ,zK,zL,zM,zN,zO,zP,zR,zS]at *;omega)));done)|(refine qL (ble_row ?_ ?_)<;>first|rfl|(intro ix h0 h1;first|exact Fit.refl _|exact qC (qE (cost_lo hn0 hk9.1 hlo)) rfl qA|exact qC (qE (cost_hi hn0 hk9.1 hhi rfl)) rfl qA))|skip))
      |((try simp only [zQ,zA,zB,zC,zD,zE,zF,zG,zH,zI,zJ,zK,zL,zM,zN,zO,zP,zR,zS]at *);(have hk9:=hbe k (by((try simp only [qV]at *);(try simp only [zQ,zA,zB,zC,zD,zE,zF,zG,zH,zI,zJ,zK,zL,zM,zN,zO,zP,zR,zS]at *);omega)));(have hhi:(k:Int)<n.tmod (Lb.length:Int):=hcd);refine⟨⟨k+1,by((try simp only [qV]at *);(try simp only [zQ,zA,zB,zC,zD,zE,zF,zG,zH,zI,zJ,zK,zL,zM,zN,zO,zP,zR,zS]at *);omega)⟩,by simp only [];omega,?_⟩;cbv;(repeat' (first|with_reducible refine hold ?_ ?_|with_reducible refine And.intro ?_ ?_));(all_goals first|trivial|exact qM (qE (by rfl))|exact qM (qF (by rfl))|exact qM (Fit.refl _)|exact qL (qK _)|(refine qM (qE ?_);(try simp only [qV]at *);simp only [zQ,zA,zB,zC,zD,zE,zF,zG,zH,zI,zJ,zK,zL,zM,zN,zO,zP,zR,zS]at *;omega)|(refine qL (qJ ?_);(repeat' (first|exact qA|exact qB|refine qC ?_ rfl ?_|refine qD ?_ ?_|exact qE (by rfl)|exact qF (by rfl)|exact Fit.refl _|exact qG _|(refine qE ?_;(try simp only [qV]at *);simp only [zQ,zA,zB,zC,zD,zE,zF,zG,zH,zI,zJ,zK,zL,zM,zN,zO,zP,zR,zS]at *;omega)));done)|(refine qL (ble_row ?_ ?_)<;>first|rfl|(intro ix h0 h1;first|exact Fit.refl _|exact qC (qE (cost_lo hn0 hk9.1 hlo)) rfl qA|exact qC (qE (cost_hi hn0 hk9.1 hhi rfl)) rfl qA))|skip))
      |skip
theorem costs34 (d:Dsp)(n:Int):FSpec Try.prog 34 [(dspS d),(.int .i64 (.sym fun _=>n))] [] (fun r _=>r=(.tup [(.sl 1 (.sym fun _=>coN d n) (fun ix=>[(.int .i64 (.sym fun _=>cosF d n ix.den.toNat))])),(.int .i64 (.sym fun _=>coE d n))])):=by
  by_cases h:coE d n=0
  · by_cases he:mstL d=[]
    · exact costs34a d n h he
    · exact costs34b d n h he
  · exact costs34n d n h
end Go.Proofs.Ytkdggbfknlcdaaa

namespace Go.Proofs.Ytkdggbfknlcdaaa
open Go Go.Eng Go.Eng.Dif Go.Eng.Few
def d3 :Dsp:=⟨[10,14,20],[0,10,20],[[100,140,200],[90,131,192],[80,120,170]],2,3,[⟨0,1,-3,0⟩],[⟨0,0,12,12,5,6⟩,⟨1,0,14,14,2,3⟩,⟨2,1,10,10,4,4⟩]⟩
def d2 :Dsp:=⟨[10,14,20],[0,10,20],[[100,140,200],[90,131,192],[80,120,170]],2,3,[⟨0,1,-3,0⟩],[⟨0,0,12,12,5,6⟩,⟨2,1,10,10,4,4⟩]⟩
theorem fault3 :faultD d3=0:=by decide +kernel
theorem fault2 :faultD d2=0:=by decide +kernel
theorem mean30 :mLo d3 ⟨0,0,12,12,5,6⟩=115∧mHi d3 ⟨0,0,12,12,5,6⟩=119:=by decide +kernel
theorem mean31 :mLo d3 ⟨1,0,14,14,2,3⟩=98∧mHi d3 ⟨1,0,14,14,2,3⟩=102:=by decide +kernel
theorem mean32 :mLo d3 ⟨2,1,10,10,4,4⟩=116∧mHi d3 ⟨2,1,10,10,4,4⟩=116:=by decide +kernel
theorem FO3 :FO d3 d3.fs=xF3:=by
  have e:FO d3 d3.fs=[⟨0,mLo d3 ⟨0,0,12,12,5,6⟩,mHi d3 ⟨0,0,12,12,5,6⟩⟩,⟨0,mLo d3 ⟨1,0,14,14,2,3⟩,mHi d3 ⟨1,0,14,14,2,3⟩⟩,⟨1,mLo d3 ⟨2,1,10,10,4,4⟩,mHi d3 ⟨2,1,10,10,4,4⟩⟩]:=rfl
  rw [e,mean30.1,mean30.2,mean31.1,mean31.2,mean32.1,mean32.2]
  rfl
theorem FO2 :FO d2 d2.fs=xF2:=by
  have e:FO d2 d2.fs=[⟨0,mLo d3 ⟨0,0,12,12,5,6⟩,mHi d3 ⟨0,0,12,12,5,6⟩⟩,⟨1,mLo d3 ⟨2,1,10,10,4,4⟩,mHi d3 ⟨2,1,10,10,4,4⟩⟩]:=rfl
  rw [e,mean30.1,mean30.2,mean32.1,mean32.2]
  rfl
theorem dok3 :DOk d3:=faultD_iff.1 fault3
theorem dok2 :DOk d2:=faultD_iff.1 fault2
theorem links3 :linksB d3=true:=xall3
theorem links2 :linksB d2=true:=xall3
theorem firm3 :firmE d3=0:=firmE_yes fault3 links3
theorem firm2 :firmE d2=0:=firmE_yes fault2 links2
theorem meanE3 :meanE d3 0=0∧meanL d3 0=115∧meanH d3 0=119:=by
  have h:=meanE_yes (d:=d3) (n:=0) fault3 (by decide)
  exact⟨h.1,h.2.1.trans mean30.1,h.2.2.trans mean30.2⟩
theorem fir3 :firO d3=some 1:=by
  unfold firO
  rw [FO3]
  exact xfir3
theorem firE3 :firE d3=0∧firV d3=1:=firE_some firm3 fir3
theorem lea3 :leaL d3=[1]:=by
  unfold leaL
  rw [if_pos firm3,okFa_is,FO3]
  exact xfew3
theorem okP_cong {S:Nat} {ls:List Lk} {fs:List Fa}(h:Okk S ls fs) {p q:Nat→Int}(e:∀i,i<fs.length→p i=q i):okP S ls fs p=okP S ls fs q:=by
  funext o
  unfold okP
  exact canO_cong h fun i hi=>by unfold outP;rw [e i hi]
theorem okPa3 :okPa d3=okP 2 xL3 xF3 xP3:=by
  rw [okPa_is dok3,FO3]
  refine okP_cong xok3 fun i hi=> ?_
  have hi:i<3:=hi
  rcases(show i=0∨i=1∨i=2 by omega)with e|e|e<;>subst e<;>rfl
theorem okPa2 :okPa d2=okP 2 xL3 xF2 xP2:=by
  rw [okPa_is dok2,FO2]
  refine okP_cong xok2 fun i hi=> ?_
  have hi:i<2:=hi
  rcases(show i=0∨i=1 by omega)with e|e<;>subst e<;>rfl
theorem bel3 :belL d3=[1]:=by
  unfold belL
  rw [if_pos firm3,okPa3]
  exact xpar3.1
theorem mst3 :mstL d3=[1]:=by
  unfold mstL mstF
  rw [if_pos firm3,okPa3]
  exact xpar3.2.1
theorem may3 :mayL d3=[1]:=by
  unfold mayL mayF
  rw [if_pos firm3,okPa3]
  exact xpar3.2.2
theorem mst2 :mstL d2=[]:=by
  unfold mstL mstF
  rw [if_pos firm2,okPa2]
  exact xpar2.2.2.1
theorem can2 :canT d2 d2.fs []=true:=by
  rw [can_nil,FO2]
  exact xbd2.1
theorem bnd2 :bndE d2=0∧bndN d2=2:=bndE_yes fault2 can2
theorem lo_nil (d:Dsp)(s:Nat):loT d [] s=loD (SN d) (LO d) (FO d d.fs) s∧hiT d [] s=hiD (SN d) (LO d) (FO d d.fs) s:=by
  unfold loT hiT matO
  rw [kept_nil]
  exact⟨rfl,rfl⟩
theorem bd2 :(loT d2 [] 0=116∧hiT d2 [] 0=119)∧loT d2 [] 1=116∧hiT d2 [] 1=116:=by
  rw [(lo_nil d2 0).1,(lo_nil d2 0).2,(lo_nil d2 1).1,(lo_nil d2 1).2,FO2]
  exact⟨⟨xbd2.2.1,xbd2.2.2.1⟩,xbd2.2.2.2.1,xbd2.2.2.2.2⟩
theorem lo_out (d:Dsp)(o:List Int)(s:Nat):loT d o s=loD (SN d) (LO d) (kpN (FO d d.fs) (outL o) d.fs.length) s∧hiT d o s=hiD (SN d) (LO d) (kpN (FO d d.fs) (outL o) d.fs.length) s:=by
  unfold loT hiT matO keptT
  rw [FO_kp (Nat.le_refl _)]
  exact⟨rfl,rfl⟩
theorem bd3 :loT d3 [1] 0=116∧hiT d3 [1] 0=119:=by
  have e:kpN (FO d3 d3.fs) (outL [1]) d3.fs.length=xF2:=by rw [FO3];exact xkp3
  rw [(lo_out d3 [1] 0).1,(lo_out d3 [1] 0).2,e]
  exact⟨xbd2.2.1,xbd2.2.2.1⟩
theorem ch3 :chE d3 0 1000=0∧chL d3 0 1000=116∧chH d3 0 1000=119:=by
  have h:=chE_yes (d:=d3) (s:=0) (g:=1000) fault3 (by decide) firm3
  rw [lea3]at h
  refine⟨h.1,h.2.1.trans ?_,h.2.2.trans ?_⟩
  · show(1000*loT d3 [1] 0).tdiv 1000=116
    rw [bd3.1];rfl
  · show(1000*hiT d3 [1] 0).tdiv 1000=119
    rw [bd3.2];rfl
theorem co3 :coE d3 100=0∧coN d3 100=3:=coE_yes fault3 (by decide) firm3
theorem co2 :coE d2 100=0∧coN d2 100=3:=coE_yes fault2 (by decide) firm2
theorem cos3 :cosF d3 100 0=0∧cosF d3 100 1=100∧cosF d3 100 2=0:=by
  have e:beaL d3=[1]:=by unfold beaL;rw [mst3];rfl
  unfold cosF
  rw [e]
  exact xcost3
theorem cos2 :cosF d2 100 0=34∧cosF d2 100 1=33∧cosF d2 100 2=33:=by
  have e:beaL d2=[0,1,2]:=by unfold beaL;rw [mst2];rfl
  unfold cosF
  rw [e]
  exact xcost2
end Go.Proofs.Ytkdggbfknlcdaaa

namespace Go.Proofs.Ytkdggbfknlcdaaa
open Go Go.Eng Go.Proofs Go.Eng.Dif Go.Eng.Few
set_option maxRecDepth 10000
theorem allB_no {p:Nat→Bool} {n i:Nat}(hi:i<n)(h:p i=false):allB p n=false:=by
  rw [allB_f]
  intro q
  rw [q i hi]at h;cases h
theorem allB_yes {p:Nat→Bool} {n:Nat}(h:∀i,i<n→p i=true):allB p n=true:=by rw [allB_t];exact h
def eqI (na:Nat)(fa:Nat→Int)(nb:Nat)(fb:Nat→Int):Bool:=decide (na=nb)&&allB (fun i=>decide (fa i=fb i)) na
theorem eqI_len {na nb:Nat} {fa fb:Nat→Int}(h:¬na=nb):eqI na fa nb fb=false:=by unfold eqI;rw [decide_eq_false h];rfl
theorem eqI_no {na nb:Nat} {fa fb:Nat→Int} {i:Nat}(hi:i<na)(h:¬fa i=fb i):eqI na fa nb fb=false:=by
  unfold eqI
  rw [allB_no (i:=i) hi (decide_eq_false h)];simp
theorem eqI_yes {na nb:Nat} {fa fb:Nat→Int}(h:na=nb)(h':∀i,i<na→fa i=fb i):eqI na fa nb fb=true:=by
  unfold eqI
  rw [decide_eq_true h,allB_yes fun i hi=>decide_eq_true (h' i hi)];rfl
theorem eqOk33 :EqOk Try.prog 33 2:=eqOk_strI (by kernel_rfl)
theorem hold_rowone {m b:Int} {c:List SV} {new e':IX→List SV}(h0:∀jx:IX,jx.den=0→Fit (.agg c) (.agg (e' jx)))(h1:∀ix jx:IX,0≤ix.den→ix.den<m→jx.den=1+ix.den→Fit (.agg (new ix)) (.agg (e' jx)))(hb:0<m∧(1+m)*b≤140737488355328):
    Hold (RowApp 1 (fun _=>c) m new e'∧0<m∧(1+m)*b≤140737488355328):=
  ⟨⟨fun μ ν ix v i0 i1 q jx hj=>(h0 jx (by omega)).le _ _ _ q,fun μ ν ix v i0 i1 q jx hj=>(h1 ix jx i0 i1 hj).le _ _ _ q⟩,hb⟩
theorem between40 (a b:Int):FSpec Try.prog 40 [(.int .i64 (.sym fun _=>a)),(.int .i64 (.sym fun _=>b))] [] (fun r _=>r=(.agg [(.int .i64 (.sym fun _=>a)),(.int .i64 (.sym fun _=>b))])):=by
  refine FSpec.is fun R hR=>qW (sc:=sc40) tyok mix Try.func40 rfl Try.call40 (by kernel_rfl) (by kernel_rfl) ?_
  generalize Try.prog=P
  cbv
  repeat' (first
      |fail)
  all_goals first
    |(subst hR;(repeat' (first|exact qA|exact qB|refine qC ?_ rfl ?_|refine qD ?_ ?_|exact qE (by rfl)|exact qF (by rfl)|exact Fit.refl _|exact qG _|(refine qE ?_;(try simp only [qV]at *);simp only [zQ,zA,zB,zC,zD,zE,zF,zG,zH,zI,zJ,zK,zL,zM,zN,zO,zP,zR,zS]at *;omega)));done)
    |skip
theorem ints26 (na nb:Nat)(fa fb:Nat→Int)(ha:na≤1000)(hb:nb≤1000):FSpec Try.prog 26 [(.sl 1 (.sym fun _=>zi na) (fun ix=>[(.int .i64 (.sym fun _=>fa ix.den.toNat))])),(.sl 1 (.sym fun _=>zi nb) (fun ix=>[(.int .i64 (.sym fun _=>fb ix.den.toNat))]))] [] (fun r _=>r=(.bool (.sym fun _=>eqI na fa nb fb))):=by
  refine FSpec.is fun R hR=>qW (sc:=sc26) tyok mix Try.func26 rfl Try.call26 (by kernel_rfl) (by kernel_rfl) ?_
  generalize Try.prog=P
  cbv
  repeat' (first
      |with_reducible refine And.intro ?_ ?_
      |(with_reducible intro hcd;(try simp only [zA,zB,zC,zD,zE,zF,zG,zH,zI,zJ,zK,zL,zM,zN,zO,zP]at hcd);try cbv)
      |fail)
  all_goals first
    |(subst hR;(refine qF ?_;(try simp only [qV]at *);(try simp only [zQ,zA,zB,zC,zD,zE,zF,zG,zH,zI,zJ,zK,zL,zM,zN,zO,zP,zR,zS]at *);exact(eqI_len (by omega)).symm);done)
    |skip
  refine⟨none,[],{i:Nat // i≤na∧∀j,j<i→fa j=fb j},fun x=>⟨[(0,(.sl 1 (.sym fun _=>zi na) (fun ix=>[(.int .i64 (.sym fun _=>fa ix.den.toNat))]))),(1,(.sl 1 (.sym fun _=>zi nb) (fun ix=>[(.int .i64 (.sym fun _=>fb ix.den.toNat))]))),(5,(.int .i64 (.sym fun _=>zi x.1)))],[],40⟩,fun x=>na-x.1,?_,?_⟩
  · refine⟨⟨0,by omega,fun j hj=>by omega⟩,?_⟩
    cbv
    repeat' (first
      |with_reducible refine hold ?_ ?_
      |with_reducible refine And.intro ?_ ?_)
    all_goals first
      |trivial
      |exact qM (qE (by rfl))
      |exact qM (Fit.refl _)
      |skip
  · rintro⟨i,hi,hq⟩
    cbv
    repeat' (first
        |with_reducible refine hold ?_ ?_
        |with_reducible refine And.intro ?_ ?_
        |(with_reducible intro hcd;(try simp only [zA,zB,zC,zD,zE,zF,zG,zH,zI,zJ,zK,zL,zM,zN,zO,zP]at hcd);try cbv)
        |fail)
    all_goals first
      |((try simp only [qV]at *);(try simp only [zQ,zA,zB,zC,zD,zE,zF,zG,zH,zI,zJ,zK,zL,zM,zN,zO,zP,zR,zS]at *);first|(refine qN ?_;omega)|(simp only [Hold];omega))
      |(subst hR;(refine qF ?_;(try simp only [qV]at *);(try simp only [zQ,zA,zB,zC,zD,zE,zF,zG,zH,zI,zJ,zK,zL,zM,zN,zO,zP,zR,zS]at *);exact(eqI_no (i:=i) (by omega) (by assumption)).symm);done)
      |(subst hR;(refine qF ?_;(try simp only [qV]at *);(try simp only [zQ,zA,zB,zC,zD,zE,zF,zG,zH,zI,zJ,zK,zL,zM,zN,zO,zP,zR,zS]at *);exact(eqI_yes (by omega) fun j hj=>hq j (by omega)).symm);done)
      |((try simp only [zQ,zA,zB,zC,zD,zE,zF,zG,zH,zI,zJ,zK,zL,zM,zN,zO,zP,zR,zS]at *);refine⟨⟨i+1,by omega,fun j hj=>(Nat.lt_or_ge j i).elim (hq j) fun q=>by rw [show j=i by omega];first|assumption|omega⟩,by simp only [];omega,?_⟩;cbv;(repeat' (first|with_reducible refine hold ?_ ?_|with_reducible refine And.intro ?_ ?_));(all_goals first|trivial|exact qM (qE (by rfl))|exact qM (qF (by rfl))|exact qM (Fit.refl _)|exact qL (qK _)|(refine qM (qE ?_);(try simp only [qV]at *);simp only [zQ,zA,zB,zC,zD,zE,zF,zG,zH,zI,zJ,zK,zL,zM,zN,zO,zP,zR,zS]at *;omega)|skip))
      |skip
theorem three37 :FSpec Try.prog 37 [] [] (fun r _=>r=(dspS d3)):=by
  have c40:= @between40
  refine FSpec.is fun R hR=>qW (sc:=sc37) tyok mix Try.func37 rfl Try.call37 (by kernel_rfl) (by kernel_rfl) ?_
  generalize Try.prog=P at c40⊢
  cbv
  repeat' (first
      | (refine qP ?_ (c40 _ _) (by(repeat' (first|exact qB|refine qD ?_ ?_|exact qE (by rfl)|exact qF (by rfl)|exact Fit.refl _|exact qA|refine qC ?_ rfl ?_)))
         try cbv)
      |fail)
  all_goals first
    |(subst hR;(repeat' (first|exact qA|exact qB|refine qC ?_ rfl ?_|refine qD ?_ ?_|exact qE (by rfl)|exact qF (by rfl)|exact qE (by kernel_rfl)|exact qF (by kernel_rfl)|exact Fit.refl _|(exact qO (by rfl))|(first|(refine fit_sl (by rfl) (fun ix h0 h1=> ?_);(have h2:ix.den<2:=h1);(have hx:ix.den.toNat=0∨ix.den.toNat=1:=by omega);(rcases hx with hx|hx<;>simp only [hx]))|(refine fit_sl (by rfl) (fun ix h0 h1=> ?_);(have h2:ix.den<3:=h1);(have hx:ix.den.toNat=0∨ix.den.toNat=1∨ix.den.toNat=2:=by omega);(rcases hx with hx|hx|hx<;>simp only [hx]))|(refine fit_sl (by rfl) (fun ix h0 h1=> ?_);(have h2:ix.den<4:=h1);(have hx:ix.den.toNat=0∨ix.den.toNat=1∨ix.den.toNat=2∨ix.den.toNat=3:=by omega);(rcases hx with hx|hx|hx|hx<;>simp only [hx]))|(refine fit_sl (by rfl) (fun ix h0 h1=> ?_);(have h2:ix.den<1:=h1);(have hx:ix.den.toNat=0:=by omega);(rcases hx with hx<;>simp only [hx]))|(refine fit_sl (by rfl) (fun ix h0 h1=> ?_);(have h2:ix.den<5:=h1);(have hx:ix.den.toNat=0∨ix.den.toNat=1∨ix.den.toNat=2∨ix.den.toNat=3∨ix.den.toNat=4:=by omega);(rcases hx with hx|hx|hx|hx|hx<;>simp only [hx])))));done)
    |skip
theorem three37n :FSpecN Try.prog 37 [] [] (fun r bs=>r=(.agg [(.sl 1 (.sym fun _=>zi (d3.tw).length) (fun ix=>[.int .i64 (.sym fun _=>(d3.tw).getD ix.den.toNat 0)])),(.sl 1 (.sym fun _=>zi (d3.tm).length) (fun ix=>[.int .i64 (.sym fun _=>(d3.tm).getD ix.den.toNat 0)])),(.sl 1 (.sym fun _=>zi (d3.tv).length) (fun ix=>[(.sl 1 (.sym fun _=>zi ((d3.tv).getD ix.den.toNat []).length) (fun jx=>[.int .i64 (.sym fun _=>((d3.tv).getD ix.den.toNat []).getD jx.den.toNat 0)]))])),(.int .i64 (.sym fun _=>d3.sn)),(.int .i64 (.sym fun _=>d3.pn)),(.sl 4 (.sym fun _=>zi (d3.ls).length) (fun ix=>[(.int .i64 (.sym fun _=>((d3.ls).getD ix.den.toNat l0T).a)),(.int .i64 (.sym fun _=>((d3.ls).getD ix.den.toNat l0T).b)),(.int .i64 (.sym fun _=>((d3.ls).getD ix.den.toNat l0T).lo)),(.int .i64 (.sym fun _=>((d3.ls).getD ix.den.toNat l0T).hi))])),.ows 0 0 3 3 6])∧bs=[.cells [(.int .i64 (.lit (0))),(.int .i64 (.lit (0))),(.int .i64 (.lit (12))),(.int .i64 (.lit (12))),(.int .i64 (.lit (5))),(.int .i64 (.lit (6))),(.int .i64 (.lit (1))),(.int .i64 (.lit (0))),(.int .i64 (.lit (14))),(.int .i64 (.lit (14))),(.int .i64 (.lit (2))),(.int .i64 (.lit (3))),(.int .i64 (.lit (2))),(.int .i64 (.lit (1))),(.int .i64 (.lit (10))),(.int .i64 (.lit (10))),(.int .i64 (.lit (4))),(.int .i64 (.lit (4)))] 89]):=by
  have c40:= @between40
  refine FSpecN.is rfl rfl fun R B hR hB=>fspecN_vc (sc:=sc37) tyok mix Try.func37 rfl Try.call37 (by kernel_rfl) (by kernel_rfl) ?_
  generalize Try.prog=P at c40⊢
  cbv
  repeat' (first
      | (refine qP ?_ (c40 _ _) (by(repeat' (first|exact qB|refine qD ?_ ?_|exact qE (by rfl)|exact qF (by rfl)|exact Fit.refl _|exact qA|refine qC ?_ rfl ?_)))
         try cbv)
      |fail)
  all_goals first|trivial|skip
  refine⟨[],(20:Nat),?_⟩
  cbv
  subst hR
  subst hB
  refine⟨?_,?_⟩
  · (repeat' (first|exact qA|exact qB|refine qC ?_ rfl ?_|refine qD ?_ ?_|exact qE (by rfl)|exact qF (by rfl)|exact qE (by kernel_rfl)|exact qF (by kernel_rfl)|exact Fit.refl _|(exact qO (by rfl))|(first|(refine fit_sl (by rfl) (fun ix h0 h1=> ?_);(have h2:ix.den<2:=h1);(have hx:ix.den.toNat=0∨ix.den.toNat=1:=by omega);(rcases hx with hx|hx<;>simp only [hx]))|(refine fit_sl (by rfl) (fun ix h0 h1=> ?_);(have h2:ix.den<3:=h1);(have hx:ix.den.toNat=0∨ix.den.toNat=1∨ix.den.toNat=2:=by omega);(rcases hx with hx|hx|hx<;>simp only [hx]))|(refine fit_sl (by rfl) (fun ix h0 h1=> ?_);(have h2:ix.den<4:=h1);(have hx:ix.den.toNat=0∨ix.den.toNat=1∨ix.den.toNat=2∨ix.den.toNat=3:=by omega);(rcases hx with hx|hx|hx|hx<;>simp only [hx]))|(refine fit_sl (by rfl) (fun ix h0 h1=> ?_);(have h2:ix.den<1:=h1);(have hx:ix.den.toNat=0:=by omega);(rcases hx with hx<;>simp only [hx]))|(refine fit_sl (by rfl) (fun ix h0 h1=> ?_);(have h2:ix.den<5:=h1);(have hx:ix.den.toNat=0∨ix.den.toNat=1∨ix.den.toNat=2∨ix.den.toNat=3∨ix.den.toNat=4:=by omega);(rcases hx with hx|hx|hx|hx|hx<;>simp only [hx])))))
  · (repeat' (first|exact qH|refine qI ?_ ?_))
    refine qJ ?_
    (repeat' (first|exact qA|exact qB|refine qC ?_ rfl ?_|refine qD ?_ ?_|exact qE (by rfl)|exact qF (by rfl)|exact qE (by kernel_rfl)|exact qF (by kernel_rfl)|exact Fit.refl _|(exact qO (by rfl))|(first|(refine fit_sl (by rfl) (fun ix h0 h1=> ?_);(have h2:ix.den<2:=h1);(have hx:ix.den.toNat=0∨ix.den.toNat=1:=by omega);(rcases hx with hx|hx<;>simp only [hx]))|(refine fit_sl (by rfl) (fun ix h0 h1=> ?_);(have h2:ix.den<3:=h1);(have hx:ix.den.toNat=0∨ix.den.toNat=1∨ix.den.toNat=2:=by omega);(rcases hx with hx|hx|hx<;>simp only [hx]))|(refine fit_sl (by rfl) (fun ix h0 h1=> ?_);(have h2:ix.den<4:=h1);(have hx:ix.den.toNat=0∨ix.den.toNat=1∨ix.den.toNat=2∨ix.den.toNat=3:=by omega);(rcases hx with hx|hx|hx|hx<;>simp only [hx]))|(refine fit_sl (by rfl) (fun ix h0 h1=> ?_);(have h2:ix.den<1:=h1);(have hx:ix.den.toNat=0:=by omega);(rcases hx with hx<;>simp only [hx]))|(refine fit_sl (by rfl) (fun ix h0 h1=> ?_);(have h2:ix.den<5:=h1);(have hx:ix.den.toNat=0∨ix.den.toNat=1∨ix.den.toNat=2∨ix.den.toNat=3∨ix.den.toNat=4:=by omega);(rcases hx with hx|hx|hx|hx|hx<;>simp only [hx])))))
theorem two39 :FSpec Try.prog 39 [] [] (fun r _=>r=(dspS d2)):=by
  have c37:=three37n
  refine FSpec.is fun R hR=>qW (sc:=sc39) tyok mix Try.func39 rfl Try.call39 (by kernel_rfl) (by kernel_rfl) ?_
  generalize Try.prog=P at c37⊢
  cbv
  repeat' (first
      | (refine Or.inr ⟨true,?_⟩
         cbv
         refine qU ?_ (c37) (by cbv;(repeat' (first|exact qB|refine qD ?_ ?_|exact qE (by rfl)|exact qF (by rfl)|exact Fit.refl _|exact qA|refine qC ?_ rfl ?_))) (by cbv;(repeat' (first|exact qH|refine qI ?_ ?_|exact qK _|refine qJ ?_|exact qA|exact qE (by rfl)|exact qF (by rfl)|exact Fit.refl _|exact qG _|refine qC ?_ rfl ?_)))
         try cbv)
      | (refine⟨fun ix=>[(.int .i64 (.sym fun _=>(d2.fs.getD ix.den.toNat f0T).p)),(.int .i64 (.sym fun _=>(d2.fs.getD ix.den.toNat f0T).s)),(.int .i64 (.sym fun _=>(d2.fs.getD ix.den.toNat f0T).wl)),(.int .i64 (.sym fun _=>(d2.fs.getD ix.den.toNat f0T).wh)),(.int .i64 (.sym fun _=>(d2.fs.getD ix.den.toNat f0T).ml)),(.int .i64 (.sym fun _=>(d2.fs.getD ix.den.toNat f0T).mh))],?_⟩
         cbv
         refine hold (hold_rowone (fun jx h0=>(by(have h3:jx.den.toNat=0:=by omega);simp only [h3];(repeat' (first|exact qA|exact qB|refine qC ?_ rfl ?_|refine qD ?_ ?_|exact qE (by rfl)|exact qF (by rfl)|exact qE (by kernel_rfl)|exact qF (by kernel_rfl)|exact Fit.refl _|(exact qO (by rfl))|(first|(refine fit_sl (by rfl) (fun ix h0 h1=> ?_);(have h2:ix.den<2:=h1);(have hx:ix.den.toNat=0∨ix.den.toNat=1:=by omega);(rcases hx with hx|hx<;>simp only [hx]))|(refine fit_sl (by rfl) (fun ix h0 h1=> ?_);(have h2:ix.den<3:=h1);(have hx:ix.den.toNat=0∨ix.den.toNat=1∨ix.den.toNat=2:=by omega);(rcases hx with hx|hx|hx<;>simp only [hx]))|(refine fit_sl (by rfl) (fun ix h0 h1=> ?_);(have h2:ix.den<4:=h1);(have hx:ix.den.toNat=0∨ix.den.toNat=1∨ix.den.toNat=2∨ix.den.toNat=3:=by omega);(rcases hx with hx|hx|hx|hx<;>simp only [hx]))|(refine fit_sl (by rfl) (fun ix h0 h1=> ?_);(have h2:ix.den<1:=h1);(have hx:ix.den.toNat=0:=by omega);(rcases hx with hx<;>simp only [hx]))|(refine fit_sl (by rfl) (fun ix h0 h1=> ?_);(have h2:ix.den<5:=h1);(have hx:ix.den.toNat=0∨ix.den.toNat=1∨ix.den.toNat=2∨ix.den.toNat=3∨ix.den.toNat=4:=by omega);(rcases hx with hx|hx|hx|hx|hx<;>simp only [hx]))))))) (fun ix jx h0 h1 h2=>(by(have h3:jx.den.toNat=1:=by(have h4:ix.den<1:=h1;omega));simp only [h3];(repeat' (first|exact qA|exact qB|refine qC ?_ rfl ?_|refine qD ?_ ?_|exact qE (by rfl)|exact qF (by rfl)|exact qE (by kernel_rfl)|exact qF (by kernel_rfl)|exact Fit.refl _|(exact qO (by rfl))|(first|(refine fit_sl (by rfl) (fun ix h0 h1=> ?_);(have h2:ix.den<2:=h1);(have hx:ix.den.toNat=0∨ix.den.toNat=1:=by omega);(rcases hx with hx|hx<;>simp only [hx]))|(refine fit_sl (by rfl) (fun ix h0 h1=> ?_);(have h2:ix.den<3:=h1);(have hx:ix.den.toNat=0∨ix.den.toNat=1∨ix.den.toNat=2:=by omega);(rcases hx with hx|hx|hx<;>simp only [hx]))|(refine fit_sl (by rfl) (fun ix h0 h1=> ?_);(have h2:ix.den<4:=h1);(have hx:ix.den.toNat=0∨ix.den.toNat=1∨ix.den.toNat=2∨ix.den.toNat=3:=by omega);(rcases hx with hx|hx|hx|hx<;>simp only [hx]))|(refine fit_sl (by rfl) (fun ix h0 h1=> ?_);(have h2:ix.den<1:=h1);(have hx:ix.den.toNat=0:=by omega);(rcases hx with hx<;>simp only [hx]))|(refine fit_sl (by rfl) (fun ix h0 h1=> ?_);(have h2:ix.den<5:=h1);(have hx:ix.den.toNat=0∨ix.den.toNat=1∨ix.den.toNat=2∨ix.den.toNat=3∨ix.den.toNat=4:=by omega);(rcases hx with hx|hx|hx|hx|hx<;>simp only [hx]))))))) ⟨by decide,by decide⟩) ?_
         try cbv)
      |fail)
  all_goals first
    |(subst hR;(repeat' (first|exact qA|exact qB|refine qC ?_ rfl ?_|refine qD ?_ ?_|exact qE (by rfl)|exact qF (by rfl)|exact qE (by kernel_rfl)|exact qF (by kernel_rfl)|exact Fit.refl _|(exact qO (by rfl))|(first|(refine fit_sl (by rfl) (fun ix h0 h1=> ?_);(have h2:ix.den<2:=h1);(have hx:ix.den.toNat=0∨ix.den.toNat=1:=by omega);(rcases hx with hx|hx<;>simp only [hx]))|(refine fit_sl (by rfl) (fun ix h0 h1=> ?_);(have h2:ix.den<3:=h1);(have hx:ix.den.toNat=0∨ix.den.toNat=1∨ix.den.toNat=2:=by omega);(rcases hx with hx|hx|hx<;>simp only [hx]))|(refine fit_sl (by rfl) (fun ix h0 h1=> ?_);(have h2:ix.den<4:=h1);(have hx:ix.den.toNat=0∨ix.den.toNat=1∨ix.den.toNat=2∨ix.den.toNat=3:=by omega);(rcases hx with hx|hx|hx|hx<;>simp only [hx]))|(refine fit_sl (by rfl) (fun ix h0 h1=> ?_);(have h2:ix.den<1:=h1);(have hx:ix.den.toNat=0:=by omega);(rcases hx with hx<;>simp only [hx]))|(refine fit_sl (by rfl) (fun ix h0 h1=> ?_);(have h2:ix.den<5:=h1);(have hx:ix.den.toNat=0∨ix.den.toNat=1∨ix.den.toNat=2∨ix.den.toNat=3∨ix.den.toNat=4:=by omega);(rcases hx with hx|hx|hx|hx|hx<;>simp only [hx])))));done)
    |skip
end Go.Proofs.Ytkdggbfknlcdaaa

namespace Go.Proofs.Ytkdggbfknlcdaaa
open Go Go.Eng Go.Proofs Go.Eng.Dif Go.Eng.Few
set_option maxRecDepth 10000
theorem fit_fn {n:Int} {f:Nat→Int} {L:List Int}(hn:n=(L.length:Int))(h:∀i,i<L.length→f i=L.getD i 0):Fit (.sl 1 (.sym fun _=>n) (fun ix=>[.int .i64 (.sym fun _=>f ix.den.toNat)])) (.sl 1 (.sym fun _=>zi (L).length) (fun ix=>[.int .i64 (.sym fun _=>(L).getD ix.den.toNat 0)])):=
  fit_sl hn (fun ix h0 h1=>qC (qE (h _ (by have h2:ix.den<n:=h1;omega))) rfl qA)
theorem fit_fn2 {n:Int} {f g:Nat→Int} {L:List (Int×Int)}(hn:n=(L.length:Int))(h:∀i,i<L.length→f i=(L.getD i (0,0)).1∧g i=(L.getD i (0,0)).2):Fit (.sl 2 (.sym fun _=>n) (fun ix=>[.int .i64 (.sym fun _=>f ix.den.toNat),.int .i64 (.sym fun _=>g ix.den.toNat)])) (.sl 2 (.sym fun _=>zi (L).length) (fun ix=>[(.int .i64 (.sym fun _=>((L).getD ix.den.toNat (0,0)).1)),(.int .i64 (.sym fun _=>((L).getD ix.den.toNat (0,0)).2))])):=
  fit_sl hn (fun ix h0 h1=>qC (qE (h _ (by have h2:ix.den<n:=h1;omega)).1) rfl (qC (qE (h _ (by have h2:ix.den<n:=h1;omega)).2) rfl qA))
theorem meanX :FSpec Try.prog 13 [(dspS d3),(.int .i64 (.sym fun _=>0))] [] (fun r _=>r=(.tup [(.agg [(.int .i64 (.lit (115))),(.int .i64 (.lit (119)))]),(.int .i64 (.lit (0)))])):=
  (mean13 d3 0 (by decide)).post fun r bs h=>⟨_,by subst h;exact qD (qC (qE meanE3.2.1) rfl (qC (qE meanE3.2.2) rfl qA)) (qD (qE meanE3.1) qB),rfl⟩
theorem firstX :FSpec Try.prog 27 [(dspS d3)] [] (fun r _=>r=(.tup [(.int .i64 (.lit (1))),(.int .i64 (.lit (0)))])):=
  (first27 d3).post fun r bs h=>⟨_,by subst h;exact qD (qE firE3.2) (qD (qE firE3.1) qB),rfl⟩
theorem leaveX :FSpec Try.prog 22 [(dspS d3)] [] (fun r _=>r=(.tup [(.sl 1 (.sym fun _=>zi ([1]).length) (fun ix=>[.int .i64 (.sym fun _=>([1]).getD ix.den.toNat 0)])),(.int .i64 (.lit (0)))])):=
  (leave22 d3).post fun r bs h=>⟨_,by subst h;rw [lea3];exact qD (Fit.refl _) (qD (qE firm3) qB),rfl⟩
theorem believeX :FSpec Try.prog 23 [(dspS d3)] [] (fun r _=>r=(.tup [(.sl 1 (.sym fun _=>zi ([1]).length) (fun ix=>[.int .i64 (.sym fun _=>([1]).getD ix.den.toNat 0)])),(.int .i64 (.lit (0)))])):=
  (believe23 d3).post fun r bs h=>⟨_,by subst h;rw [bel3];exact qD (Fit.refl _) (qD (qE firm3) qB),rfl⟩
theorem blameX :FSpec Try.prog 33 [(dspS d3)] [] (fun r _=>r=(.tup [(.sl 1 (.sym fun _=>zi ([1]).length) (fun ix=>[.int .i64 (.sym fun _=>([1]).getD ix.den.toNat 0)])),(.sl 1 (.sym fun _=>zi ([1]).length) (fun ix=>[.int .i64 (.sym fun _=>([1]).getD ix.den.toNat 0)])),(.int .i64 (.lit (0)))])):=
  (blame33 d3).post fun r bs h=>⟨_,by subst h;rw [mst3,may3];exact qD (Fit.refl _) (qD (Fit.refl _) (qD (qE firm3) qB)),rfl⟩
def B2X :List (Int×Int):=[(116,119),(116,116)]
theorem boundsX :FSpec Try.prog 21 [(dspS d2)] [] (fun r _=>r=(.tup [(.sl 2 (.sym fun _=>zi (B2X).length) (fun ix=>[(.int .i64 (.sym fun _=>((B2X).getD ix.den.toNat (0,0)).1)),(.int .i64 (.sym fun _=>((B2X).getD ix.den.toNat (0,0)).2))])),(.int .i64 (.lit (0)))])):=
  (bounds21 d2).post fun r bs h=>⟨_,by subst h;exact qD (fit_fn2 (f:=loT d2 []) (g:=hiT d2 []) (L:=B2X) bnd2.2 (fun i hi=>by
    have hi:i<2:=hi
    rcases(show i=0∨i=1 by omega)with e|e<;>subst e<;>(first|exact bd2.1|exact bd2.2))) (qD (qE bnd2.1) qB),rfl⟩
theorem chargeX :FSpec Try.prog 36 [(dspS d3),(.int .i64 (.sym fun _=>0)),(.int .i64 (.sym fun _=>1000))] [] (fun r _=>r=(.tup [(.agg [(.int .i64 (.lit (116))),(.int .i64 (.lit (119)))]),(.int .i64 (.lit (0)))])):=
  (charge36 d3 0 1000).post fun r bs h=>⟨_,by subst h;exact qD (qC (qE ch3.2.1) rfl (qC (qE ch3.2.2) rfl qA)) (qD (qE ch3.1) qB),rfl⟩
theorem costs3X :FSpec Try.prog 34 [(dspS d3),(.int .i64 (.sym fun _=>100))] [] (fun r _=>r=(.tup [(.sl 1 (.sym fun _=>zi ([0,100,0]).length) (fun ix=>[.int .i64 (.sym fun _=>([0,100,0]).getD ix.den.toNat 0)])),(.int .i64 (.lit (0)))])):=
  (costs34 d3 100).post fun r bs h=>⟨_,by subst h;exact qD (fit_fn (f:=cosF d3 100) (L:=[0,100,0]) co3.2 (fun i hi=>by
    have hi:i<3:=hi
    rcases(show i=0∨i=1∨i=2 by omega)with e|e|e<;>subst e<;>(first|exact cos3.1|exact cos3.2.1|exact cos3.2.2))) (qD (qE co3.1) qB),rfl⟩
theorem costs2X :FSpec Try.prog 34 [(dspS d2),(.int .i64 (.sym fun _=>100))] [] (fun r _=>r=(.tup [(.sl 1 (.sym fun _=>zi ([34,33,33]).length) (fun ix=>[.int .i64 (.sym fun _=>([34,33,33]).getD ix.den.toNat 0)])),(.int .i64 (.lit (0)))])):=
  (costs34 d2 100).post fun r bs h=>⟨_,by subst h;exact qD (fit_fn (f:=cosF d2 100) (L:=[34,33,33]) co2.2 (fun i hi=>by
    have hi:i<3:=hi
    rcases(show i=0∨i=1∨i=2 by omega)with e|e|e<;>subst e<;>(first|exact cos2.1|exact cos2.2.1|exact cos2.2.2))) (qD (qE co2.1) qB),rfl⟩
theorem intsXa :FSpec Try.prog 26 [(.sl 1 (.sym fun _=>zi ([1]).length) (fun ix=>[.int .i64 (.sym fun _=>([1]).getD ix.den.toNat 0)])),(.sl 1 (.sym fun _=>zi ([1]).length) (fun ix=>[.int .i64 (.sym fun _=>([1]).getD ix.den.toNat 0)]))] [] (fun r _=>r=(.bool (.lit true))):=
  (ints26 1 1 (fun n=>([1]).getD n 0) (fun n=>([1]).getD n 0) (by decide) (by decide)).post fun r bs h=>⟨_,by subst h;(repeat' (first|exact qA|exact qB|refine qC ?_ rfl ?_|refine qD ?_ ?_|exact qE (by rfl)|exact qF (by rfl)|exact qE (by kernel_rfl)|exact qF (by kernel_rfl)|exact Fit.refl _|(exact qO (by rfl))|(first|(refine fit_sl (by rfl) (fun ix h0 h1=> ?_);(have h2:ix.den<2:=h1);(have hx:ix.den.toNat=0∨ix.den.toNat=1:=by omega);(rcases hx with hx|hx<;>simp only [hx]))|(refine fit_sl (by rfl) (fun ix h0 h1=> ?_);(have h2:ix.den<3:=h1);(have hx:ix.den.toNat=0∨ix.den.toNat=1∨ix.den.toNat=2:=by omega);(rcases hx with hx|hx|hx<;>simp only [hx]))|(refine fit_sl (by rfl) (fun ix h0 h1=> ?_);(have h2:ix.den<4:=h1);(have hx:ix.den.toNat=0∨ix.den.toNat=1∨ix.den.toNat=2∨ix.den.toNat=3:=by omega);(rcases hx with hx|hx|hx|hx<;>simp only [hx]))|(refine fit_sl (by rfl) (fun ix h0 h1=> ?_);(have h2:ix.den<1:=h1);(have hx:ix.den.toNat=0:=by omega);(rcases hx with hx<;>simp only [hx]))|(refine fit_sl (by rfl) (fun ix h0 h1=> ?_);(have h2:ix.den<5:=h1);(have hx:ix.den.toNat=0∨ix.den.toNat=1∨ix.den.toNat=2∨ix.den.toNat=3∨ix.den.toNat=4:=by omega);(rcases hx with hx|hx|hx|hx|hx<;>simp only [hx]))))),rfl⟩
theorem intsXb :FSpec Try.prog 26 [(.sl 1 (.sym fun _=>zi ([0,100,0]).length) (fun ix=>[.int .i64 (.sym fun _=>([0,100,0]).getD ix.den.toNat 0)])),(.sl 1 (.sym fun _=>zi ([0,100,0]).length) (fun ix=>[.int .i64 (.sym fun _=>([0,100,0]).getD ix.den.toNat 0)]))] [] (fun r _=>r=(.bool (.lit true))):=
  (ints26 3 3 (fun n=>([0,100,0]).getD n 0) (fun n=>([0,100,0]).getD n 0) (by decide) (by decide)).post fun r bs h=>⟨_,by subst h;(repeat' (first|exact qA|exact qB|refine qC ?_ rfl ?_|refine qD ?_ ?_|exact qE (by rfl)|exact qF (by rfl)|exact qE (by kernel_rfl)|exact qF (by kernel_rfl)|exact Fit.refl _|(exact qO (by rfl))|(first|(refine fit_sl (by rfl) (fun ix h0 h1=> ?_);(have h2:ix.den<2:=h1);(have hx:ix.den.toNat=0∨ix.den.toNat=1:=by omega);(rcases hx with hx|hx<;>simp only [hx]))|(refine fit_sl (by rfl) (fun ix h0 h1=> ?_);(have h2:ix.den<3:=h1);(have hx:ix.den.toNat=0∨ix.den.toNat=1∨ix.den.toNat=2:=by omega);(rcases hx with hx|hx|hx<;>simp only [hx]))|(refine fit_sl (by rfl) (fun ix h0 h1=> ?_);(have h2:ix.den<4:=h1);(have hx:ix.den.toNat=0∨ix.den.toNat=1∨ix.den.toNat=2∨ix.den.toNat=3:=by omega);(rcases hx with hx|hx|hx|hx<;>simp only [hx]))|(refine fit_sl (by rfl) (fun ix h0 h1=> ?_);(have h2:ix.den<1:=h1);(have hx:ix.den.toNat=0:=by omega);(rcases hx with hx<;>simp only [hx]))|(refine fit_sl (by rfl) (fun ix h0 h1=> ?_);(have h2:ix.den<5:=h1);(have hx:ix.den.toNat=0∨ix.den.toNat=1∨ix.den.toNat=2∨ix.den.toNat=3∨ix.den.toNat=4:=by omega);(rcases hx with hx|hx|hx|hx|hx<;>simp only [hx]))))),rfl⟩
theorem intsXc :FSpec Try.prog 26 [(.sl 1 (.sym fun _=>zi ([34,33,33]).length) (fun ix=>[.int .i64 (.sym fun _=>([34,33,33]).getD ix.den.toNat 0)])),(.sl 1 (.sym fun _=>zi ([34,33,33]).length) (fun ix=>[.int .i64 (.sym fun _=>([34,33,33]).getD ix.den.toNat 0)]))] [] (fun r _=>r=(.bool (.lit true))):=
  (ints26 3 3 (fun n=>([34,33,33]).getD n 0) (fun n=>([34,33,33]).getD n 0) (by decide) (by decide)).post fun r bs h=>⟨_,by subst h;(repeat' (first|exact qA|exact qB|refine qC ?_ rfl ?_|refine qD ?_ ?_|exact qE (by rfl)|exact qF (by rfl)|exact qE (by kernel_rfl)|exact qF (by kernel_rfl)|exact Fit.refl _|(exact qO (by rfl))|(first|(refine fit_sl (by rfl) (fun ix h0 h1=> ?_);(have h2:ix.den<2:=h1);(have hx:ix.den.toNat=0∨ix.den.toNat=1:=by omega);(rcases hx with hx|hx<;>simp only [hx]))|(refine fit_sl (by rfl) (fun ix h0 h1=> ?_);(have h2:ix.den<3:=h1);(have hx:ix.den.toNat=0∨ix.den.toNat=1∨ix.den.toNat=2:=by omega);(rcases hx with hx|hx|hx<;>simp only [hx]))|(refine fit_sl (by rfl) (fun ix h0 h1=> ?_);(have h2:ix.den<4:=h1);(have hx:ix.den.toNat=0∨ix.den.toNat=1∨ix.den.toNat=2∨ix.den.toNat=3:=by omega);(rcases hx with hx|hx|hx|hx<;>simp only [hx]))|(refine fit_sl (by rfl) (fun ix h0 h1=> ?_);(have h2:ix.den<1:=h1);(have hx:ix.den.toNat=0:=by omega);(rcases hx with hx<;>simp only [hx]))|(refine fit_sl (by rfl) (fun ix h0 h1=> ?_);(have h2:ix.den<5:=h1);(have hx:ix.den.toNat=0∨ix.den.toNat=1∨ix.den.toNat=2∨ix.den.toNat=3∨ix.den.toNat=4:=by omega);(rcases hx with hx|hx|hx|hx|hx<;>simp only [hx]))))),rfl⟩
set_option maxHeartbeats 1000000 in
theorem awake12 :FSpec Try.prog 12 [] [] (fun r _=>r=(.bool (.lit true))):=by
  have k37:=three37
  have k39:=two39
  have kmeanX:=meanX
  have kfirstX:=firstX
  have kleaveX:=leaveX
  have kbelieveX:=believeX
  have kblameX:=blameX
  have kboundsX:=boundsX
  have kchargeX:=chargeX
  have kcosts3X:=costs3X
  have kcosts2X:=costs2X
  have kintsXa:=intsXa
  have kintsXb:=intsXb
  have kintsXc:=intsXc
  have c40:= @between40
  have h33:=eqOk33
  refine FSpec.is fun R hR=>qW (sc:=sc12) tyok mix Try.func12 rfl Try.call12 (by kernel_rfl) (by kernel_rfl) ?_
  generalize Try.prog=P at k37 k39 kmeanX kfirstX kleaveX kbelieveX kblameX kboundsX kchargeX kcosts3X kcosts2X kintsXa kintsXb kintsXc c40 h33⊢
  cbv
  repeat' (first
      |with_reducible refine hold ?_ ?_
      |with_reducible refine And.intro ?_ ?_
      |(with_reducible intro hcd;(try simp only [zA,zB,zC,zD,zE,zF,zG,zH,zI,zJ,zK,zL,zM,zN,zO,zP]at hcd);try cbv)
      | (refine qP ?_ (c40 _ _) (by(repeat' (first|exact qB|refine qD ?_ ?_|exact qE (by rfl)|exact qF (by rfl)|exact Fit.refl _|exact qA|refine qC ?_ rfl ?_)))
         try cbv)
      | (refine qP ?_ (k37) ?hfit
         case hfit=>((repeat' (first|exact qA|exact qB|refine qC ?_ rfl ?_|refine qD ?_ ?_|exact qE (by rfl)|exact qF (by rfl)|exact Fit.refl _|(exact qO (by rfl))|(first|(refine fit_sl (by rfl) (fun ix h0 h1=> ?_);(have h2:ix.den<2:=h1);(have hx:ix.den.toNat=0∨ix.den.toNat=1:=by omega);(rcases hx with hx|hx<;>simp only [hx]))|(refine fit_sl (by rfl) (fun ix h0 h1=> ?_);(have h2:ix.den<3:=h1);(have hx:ix.den.toNat=0∨ix.den.toNat=1∨ix.den.toNat=2:=by omega);(rcases hx with hx|hx|hx<;>simp only [hx]))|(refine fit_sl (by rfl) (fun ix h0 h1=> ?_);(have h2:ix.den<4:=h1);(have hx:ix.den.toNat=0∨ix.den.toNat=1∨ix.den.toNat=2∨ix.den.toNat=3:=by omega);(rcases hx with hx|hx|hx|hx<;>simp only [hx]))|(refine fit_sl (by rfl) (fun ix h0 h1=> ?_);(have h2:ix.den<1:=h1);(have hx:ix.den.toNat=0:=by omega);(rcases hx with hx<;>simp only [hx]))|(refine fit_sl (by rfl) (fun ix h0 h1=> ?_);(have h2:ix.den<5:=h1);(have hx:ix.den.toNat=0∨ix.den.toNat=1∨ix.den.toNat=2∨ix.den.toNat=3∨ix.den.toNat=4:=by omega);(rcases hx with hx|hx|hx|hx|hx<;>simp only [hx])))));done)
         try cbv)
      | (refine qP ?_ (k39) ?hfit
         case hfit=>((repeat' (first|exact qA|exact qB|refine qC ?_ rfl ?_|refine qD ?_ ?_|exact qE (by rfl)|exact qF (by rfl)|exact Fit.refl _|(exact qO (by rfl))|(first|(refine fit_sl (by rfl) (fun ix h0 h1=> ?_);(have h2:ix.den<2:=h1);(have hx:ix.den.toNat=0∨ix.den.toNat=1:=by omega);(rcases hx with hx|hx<;>simp only [hx]))|(refine fit_sl (by rfl) (fun ix h0 h1=> ?_);(have h2:ix.den<3:=h1);(have hx:ix.den.toNat=0∨ix.den.toNat=1∨ix.den.toNat=2:=by omega);(rcases hx with hx|hx|hx<;>simp only [hx]))|(refine fit_sl (by rfl) (fun ix h0 h1=> ?_);(have h2:ix.den<4:=h1);(have hx:ix.den.toNat=0∨ix.den.toNat=1∨ix.den.toNat=2∨ix.den.toNat=3:=by omega);(rcases hx with hx|hx|hx|hx<;>simp only [hx]))|(refine fit_sl (by rfl) (fun ix h0 h1=> ?_);(have h2:ix.den<1:=h1);(have hx:ix.den.toNat=0:=by omega);(rcases hx with hx<;>simp only [hx]))|(refine fit_sl (by rfl) (fun ix h0 h1=> ?_);(have h2:ix.den<5:=h1);(have hx:ix.den.toNat=0∨ix.den.toNat=1∨ix.den.toNat=2∨ix.den.toNat=3∨ix.den.toNat=4:=by omega);(rcases hx with hx|hx|hx|hx|hx<;>simp only [hx])))));done)
         try cbv)
      | (refine qP ?_ (kmeanX) ?hfit
         case hfit=>((repeat' (first|exact qA|exact qB|refine qC ?_ rfl ?_|refine qD ?_ ?_|exact qE (by rfl)|exact qF (by rfl)|exact Fit.refl _|(exact qO (by rfl))|(first|(refine fit_sl (by rfl) (fun ix h0 h1=> ?_);(have h2:ix.den<2:=h1);(have hx:ix.den.toNat=0∨ix.den.toNat=1:=by omega);(rcases hx with hx|hx<;>simp only [hx]))|(refine fit_sl (by rfl) (fun ix h0 h1=> ?_);(have h2:ix.den<3:=h1);(have hx:ix.den.toNat=0∨ix.den.toNat=1∨ix.den.toNat=2:=by omega);(rcases hx with hx|hx|hx<;>simp only [hx]))|(refine fit_sl (by rfl) (fun ix h0 h1=> ?_);(have h2:ix.den<4:=h1);(have hx:ix.den.toNat=0∨ix.den.toNat=1∨ix.den.toNat=2∨ix.den.toNat=3:=by omega);(rcases hx with hx|hx|hx|hx<;>simp only [hx]))|(refine fit_sl (by rfl) (fun ix h0 h1=> ?_);(have h2:ix.den<1:=h1);(have hx:ix.den.toNat=0:=by omega);(rcases hx with hx<;>simp only [hx]))|(refine fit_sl (by rfl) (fun ix h0 h1=> ?_);(have h2:ix.den<5:=h1);(have hx:ix.den.toNat=0∨ix.den.toNat=1∨ix.den.toNat=2∨ix.den.toNat=3∨ix.den.toNat=4:=by omega);(rcases hx with hx|hx|hx|hx|hx<;>simp only [hx])))));done)
         try cbv)
      | (refine qP ?_ (kfirstX) ?hfit
         case hfit=>((repeat' (first|exact qA|exact qB|refine qC ?_ rfl ?_|refine qD ?_ ?_|exact qE (by rfl)|exact qF (by rfl)|exact Fit.refl _|(exact qO (by rfl))|(first|(refine fit_sl (by rfl) (fun ix h0 h1=> ?_);(have h2:ix.den<2:=h1);(have hx:ix.den.toNat=0∨ix.den.toNat=1:=by omega);(rcases hx with hx|hx<;>simp only [hx]))|(refine fit_sl (by rfl) (fun ix h0 h1=> ?_);(have h2:ix.den<3:=h1);(have hx:ix.den.toNat=0∨ix.den.toNat=1∨ix.den.toNat=2:=by omega);(rcases hx with hx|hx|hx<;>simp only [hx]))|(refine fit_sl (by rfl) (fun ix h0 h1=> ?_);(have h2:ix.den<4:=h1);(have hx:ix.den.toNat=0∨ix.den.toNat=1∨ix.den.toNat=2∨ix.den.toNat=3:=by omega);(rcases hx with hx|hx|hx|hx<;>simp only [hx]))|(refine fit_sl (by rfl) (fun ix h0 h1=> ?_);(have h2:ix.den<1:=h1);(have hx:ix.den.toNat=0:=by omega);(rcases hx with hx<;>simp only [hx]))|(refine fit_sl (by rfl) (fun ix h0 h1=> ?_);(have h2:ix.den<5:=h1);(have hx:ix.den.toNat=0∨ix.den.toNat=1∨ix.den.toNat=2∨ix.den.toNat=3∨ix.den.toNat=4:=by omega);(rcases hx with hx|hx|hx|hx|hx<;>simp only [hx])))));done)
         try cbv)
      | (refine qP ?_ (kleaveX) ?hfit
         case hfit=>((repeat' (first|exact qA|exact qB|refine qC ?_ rfl ?_|refine qD ?_ ?_|exact qE (by rfl)|exact qF (by rfl)|exact Fit.refl _|(exact qO (by rfl))|(first|(refine fit_sl (by rfl) (fun ix h0 h1=> ?_);(have h2:ix.den<2:=h1);(have hx:ix.den.toNat=0∨ix.den.toNat=1:=by omega);(rcases hx with hx|hx<;>simp only [hx]))|(refine fit_sl (by rfl) (fun ix h0 h1=> ?_);(have h2:ix.den<3:=h1);(have hx:ix.den.toNat=0∨ix.den.toNat=1∨ix.den.toNat=2:=by omega);(rcases hx with hx|hx|hx<;>simp only [hx]))|(refine fit_sl (by rfl) (fun ix h0 h1=> ?_);(have h2:ix.den<4:=h1);(have hx:ix.den.toNat=0∨ix.den.toNat=1∨ix.den.toNat=2∨ix.den.toNat=3:=by omega);(rcases hx with hx|hx|hx|hx<;>simp only [hx]))|(refine fit_sl (by rfl) (fun ix h0 h1=> ?_);(have h2:ix.den<1:=h1);(have hx:ix.den.toNat=0:=by omega);(rcases hx with hx<;>simp only [hx]))|(refine fit_sl (by rfl) (fun ix h0 h1=> ?_);(have h2:ix.den<5:=h1);(have hx:ix.den.toNat=0∨ix.den.toNat=1∨ix.den.toNat=2∨ix.den.toNat=3∨ix.den.toNat=4:=by omega);(rcases hx with hx|hx|hx|hx|hx<;>simp only [hx])))));done)
         try cbv)
      | (refine qP ?_ (kbelieveX) ?hfit
         case hfit=>((repeat' (first|exact qA|exact qB|refine qC ?_ rfl ?_|refine qD ?_ ?_|exact qE (by rfl)|exact qF (by rfl)|exact Fit.refl _|(exact qO (by rfl))|(first|(refine fit_sl (by rfl) (fun ix h0 h1=> ?_);(have h2:ix.den<2:=h1);(have hx:ix.den.toNat=0∨ix.den.toNat=1:=by omega);(rcases hx with hx|hx<;>simp only [hx]))|(refine fit_sl (by rfl) (fun ix h0 h1=> ?_);(have h2:ix.den<3:=h1);(have hx:ix.den.toNat=0∨ix.den.toNat=1∨ix.den.toNat=2:=by omega);(rcases hx with hx|hx|hx<;>simp only [hx]))|(refine fit_sl (by rfl) (fun ix h0 h1=> ?_);(have h2:ix.den<4:=h1);(have hx:ix.den.toNat=0∨ix.den.toNat=1∨ix.den.toNat=2∨ix.den.toNat=3:=by omega);(rcases hx with hx|hx|hx|hx<;>simp only [hx]))|(refine fit_sl (by rfl) (fun ix h0 h1=> ?_);(have h2:ix.den<1:=h1);(have hx:ix.den.toNat=0:=by omega);(rcases hx with hx<;>simp only [hx]))|(refine fit_sl (by rfl) (fun ix h0 h1=> ?_);(have h2:ix.den<5:=h1);(have hx:ix.den.toNat=0∨ix.den.toNat=1∨ix.den.toNat=2∨ix.den.toNat=3∨ix.den.toNat=4:=by omega);(rcases hx with hx|hx|hx|hx|hx<;>simp only [hx])))));done)
         try cbv)
      | (refine qP ?_ (kblameX) ?hfit
         case hfit=>((repeat' (first|exact qA|exact qB|refine qC ?_ rfl ?_|refine qD ?_ ?_|exact qE (by rfl)|exact qF (by rfl)|exact Fit.refl _|(exact qO (by rfl))|(first|(refine fit_sl (by rfl) (fun ix h0 h1=> ?_);(have h2:ix.den<2:=h1);(have hx:ix.den.toNat=0∨ix.den.toNat=1:=by omega);(rcases hx with hx|hx<;>simp only [hx]))|(refine fit_sl (by rfl) (fun ix h0 h1=> ?_);(have h2:ix.den<3:=h1);(have hx:ix.den.toNat=0∨ix.den.toNat=1∨ix.den.toNat=2:=by omega);(rcases hx with hx|hx|hx<;>simp only [hx]))|(refine fit_sl (by rfl) (fun ix h0 h1=> ?_);(have h2:ix.den<4:=h1);(have hx:ix.den.toNat=0∨ix.den.toNat=1∨ix.den.toNat=2∨ix.den.toNat=3:=by omega);(rcases hx with hx|hx|hx|hx<;>simp only [hx]))|(refine fit_sl (by rfl) (fun ix h0 h1=> ?_);(have h2:ix.den<1:=h1);(have hx:ix.den.toNat=0:=by omega);(rcases hx with hx<;>simp only [hx]))|(refine fit_sl (by rfl) (fun ix h0 h1=> ?_);(have h2:ix.den<5:=h1);(have hx:ix.den.toNat=0∨ix.den.toNat=1∨ix.den.toNat=2∨ix.den.toNat=3∨ix.den.toNat=4:=by omega);(rcases hx with hx|hx|hx|hx|hx<;>simp only [hx])))));done)
         try cbv)
      | (refine qP ?_ (kboundsX) ?hfit
         case hfit=>((repeat' (first|exact qA|exact qB|refine qC ?_ rfl ?_|refine qD ?_ ?_|exact qE (by rfl)|exact qF (by rfl)|exact Fit.refl _|(exact qO (by rfl))|(first|(refine fit_sl (by rfl) (fun ix h0 h1=> ?_);(have h2:ix.den<2:=h1);(have hx:ix.den.toNat=0∨ix.den.toNat=1:=by omega);(rcases hx with hx|hx<;>simp only [hx]))|(refine fit_sl (by rfl) (fun ix h0 h1=> ?_);(have h2:ix.den<3:=h1);(have hx:ix.den.toNat=0∨ix.den.toNat=1∨ix.den.toNat=2:=by omega);(rcases hx with hx|hx|hx<;>simp only [hx]))|(refine fit_sl (by rfl) (fun ix h0 h1=> ?_);(have h2:ix.den<4:=h1);(have hx:ix.den.toNat=0∨ix.den.toNat=1∨ix.den.toNat=2∨ix.den.toNat=3:=by omega);(rcases hx with hx|hx|hx|hx<;>simp only [hx]))|(refine fit_sl (by rfl) (fun ix h0 h1=> ?_);(have h2:ix.den<1:=h1);(have hx:ix.den.toNat=0:=by omega);(rcases hx with hx<;>simp only [hx]))|(refine fit_sl (by rfl) (fun ix h0 h1=> ?_);(have h2:ix.den<5:=h1);(have hx:ix.den.toNat=0∨ix.den.toNat=1∨ix.den.toNat=2∨ix.den.toNat=3∨ix.den.toNat=4:=by omega);(rcases hx with hx|hx|hx|hx|hx<;>simp only [hx])))));done)
         try cbv)
      | (refine qP ?_ (kchargeX) ?hfit
         case hfit=>((repeat' (first|exact qA|exact qB|refine qC ?_ rfl ?_|refine qD ?_ ?_|exact qE (by rfl)|exact qF (by rfl)|exact Fit.refl _|(exact qO (by rfl))|(first|(refine fit_sl (by rfl) (fun ix h0 h1=> ?_);(have h2:ix.den<2:=h1);(have hx:ix.den.toNat=0∨ix.den.toNat=1:=by omega);(rcases hx with hx|hx<;>simp only [hx]))|(refine fit_sl (by rfl) (fun ix h0 h1=> ?_);(have h2:ix.den<3:=h1);(have hx:ix.den.toNat=0∨ix.den.toNat=1∨ix.den.toNat=2:=by omega);(rcases hx with hx|hx|hx<;>simp only [hx]))|(refine fit_sl (by rfl) (fun ix h0 h1=> ?_);(have h2:ix.den<4:=h1);(have hx:ix.den.toNat=0∨ix.den.toNat=1∨ix.den.toNat=2∨ix.den.toNat=3:=by omega);(rcases hx with hx|hx|hx|hx<;>simp only [hx]))|(refine fit_sl (by rfl) (fun ix h0 h1=> ?_);(have h2:ix.den<1:=h1);(have hx:ix.den.toNat=0:=by omega);(rcases hx with hx<;>simp only [hx]))|(refine fit_sl (by rfl) (fun ix h0 h1=> ?_);(have h2:ix.den<5:=h1);(have hx:ix.den.toNat=0∨ix.den.toNat=1∨ix.den.toNat=2∨ix.den.toNat=3∨ix.den.toNat=4:=by omega);(rcases hx with hx|hx|hx|hx|hx<;>simp only [hx])))));done)
         try cbv)
      | (refine qP ?_ (kcosts3X) ?hfit
         case hfit=>((repeat' (first|exact qA|exact qB|refine qC ?_ rfl ?_|refine qD ?_ ?_|exact qE (by rfl)|exact qF (by rfl)|exact Fit.refl _|(exact qO (by rfl))|(first|(refine fit_sl (by rfl) (fun ix h0 h1=> ?_);(have h2:ix.den<2:=h1);(have hx:ix.den.toNat=0∨ix.den.toNat=1:=by omega);(rcases hx with hx|hx<;>simp only [hx]))|(refine fit_sl (by rfl) (fun ix h0 h1=> ?_);(have h2:ix.den<3:=h1);(have hx:ix.den.toNat=0∨ix.den.toNat=1∨ix.den.toNat=2:=by omega);(rcases hx with hx|hx|hx<;>simp only [hx]))|(refine fit_sl (by rfl) (fun ix h0 h1=> ?_);(have h2:ix.den<4:=h1);(have hx:ix.den.toNat=0∨ix.den.toNat=1∨ix.den.toNat=2∨ix.den.toNat=3:=by omega);(rcases hx with hx|hx|hx|hx<;>simp only [hx]))|(refine fit_sl (by rfl) (fun ix h0 h1=> ?_);(have h2:ix.den<1:=h1);(have hx:ix.den.toNat=0:=by omega);(rcases hx with hx<;>simp only [hx]))|(refine fit_sl (by rfl) (fun ix h0 h1=> ?_);(have h2:ix.den<5:=h1);(have hx:ix.den.toNat=0∨ix.den.toNat=1∨ix.den.toNat=2∨ix.den.toNat=3∨ix.den.toNat=4:=by omega);(rcases hx with hx|hx|hx|hx|hx<;>simp only [hx])))));done)
         try cbv)
      | (refine qP ?_ (kcosts2X) ?hfit
         case hfit=>((repeat' (first|exact qA|exact qB|refine qC ?_ rfl ?_|refine qD ?_ ?_|exact qE (by rfl)|exact qF (by rfl)|exact Fit.refl _|(exact qO (by rfl))|(first|(refine fit_sl (by rfl) (fun ix h0 h1=> ?_);(have h2:ix.den<2:=h1);(have hx:ix.den.toNat=0∨ix.den.toNat=1:=by omega);(rcases hx with hx|hx<;>simp only [hx]))|(refine fit_sl (by rfl) (fun ix h0 h1=> ?_);(have h2:ix.den<3:=h1);(have hx:ix.den.toNat=0∨ix.den.toNat=1∨ix.den.toNat=2:=by omega);(rcases hx with hx|hx|hx<;>simp only [hx]))|(refine fit_sl (by rfl) (fun ix h0 h1=> ?_);(have h2:ix.den<4:=h1);(have hx:ix.den.toNat=0∨ix.den.toNat=1∨ix.den.toNat=2∨ix.den.toNat=3:=by omega);(rcases hx with hx|hx|hx|hx<;>simp only [hx]))|(refine fit_sl (by rfl) (fun ix h0 h1=> ?_);(have h2:ix.den<1:=h1);(have hx:ix.den.toNat=0:=by omega);(rcases hx with hx<;>simp only [hx]))|(refine fit_sl (by rfl) (fun ix h0 h1=> ?_);(have h2:ix.den<5:=h1);(have hx:ix.den.toNat=0∨ix.den.toNat=1∨ix.den.toNat=2∨ix.den.toNat=3∨ix.den.toNat=4:=by omega);(rcases hx with hx|hx|hx|hx|hx<;>simp only [hx])))));done)
         try cbv)
      | (refine qP ?_ (kintsXb) ?hfit
         case hfit=>((repeat' (first|exact qA|exact qB|refine qC ?_ rfl ?_|refine qD ?_ ?_|exact qE (by rfl)|exact qF (by rfl)|exact Fit.refl _|(exact qO (by rfl))|(first|(refine fit_sl (by rfl) (fun ix h0 h1=> ?_);(have h2:ix.den<2:=h1);(have hx:ix.den.toNat=0∨ix.den.toNat=1:=by omega);(rcases hx with hx|hx<;>simp only [hx]))|(refine fit_sl (by rfl) (fun ix h0 h1=> ?_);(have h2:ix.den<3:=h1);(have hx:ix.den.toNat=0∨ix.den.toNat=1∨ix.den.toNat=2:=by omega);(rcases hx with hx|hx|hx<;>simp only [hx]))|(refine fit_sl (by rfl) (fun ix h0 h1=> ?_);(have h2:ix.den<4:=h1);(have hx:ix.den.toNat=0∨ix.den.toNat=1∨ix.den.toNat=2∨ix.den.toNat=3:=by omega);(rcases hx with hx|hx|hx|hx<;>simp only [hx]))|(refine fit_sl (by rfl) (fun ix h0 h1=> ?_);(have h2:ix.den<1:=h1);(have hx:ix.den.toNat=0:=by omega);(rcases hx with hx<;>simp only [hx]))|(refine fit_sl (by rfl) (fun ix h0 h1=> ?_);(have h2:ix.den<5:=h1);(have hx:ix.den.toNat=0∨ix.den.toNat=1∨ix.den.toNat=2∨ix.den.toNat=3∨ix.den.toNat=4:=by omega);(rcases hx with hx|hx|hx|hx|hx<;>simp only [hx])))));done)
         try cbv)
      | (refine qP ?_ (kintsXc) ?hfit
         case hfit=>((repeat' (first|exact qA|exact qB|refine qC ?_ rfl ?_|refine qD ?_ ?_|exact qE (by rfl)|exact qF (by rfl)|exact Fit.refl _|(exact qO (by rfl))|(first|(refine fit_sl (by rfl) (fun ix h0 h1=> ?_);(have h2:ix.den<2:=h1);(have hx:ix.den.toNat=0∨ix.den.toNat=1:=by omega);(rcases hx with hx|hx<;>simp only [hx]))|(refine fit_sl (by rfl) (fun ix h0 h1=> ?_);(have h2:ix.den<3:=h1);(have hx:ix.den.toNat=0∨ix.den.toNat=1∨ix.den.toNat=2:=by omega);(rcases hx with hx|hx|hx<;>simp only [hx]))|(refine fit_sl (by rfl) (fun ix h0 h1=> ?_);(have h2:ix.den<4:=h1);(have hx:ix.den.toNat=0∨ix.den.toNat=1∨ix.den.toNat=2∨ix.den.toNat=3:=by omega);(rcases hx with hx|hx|hx|hx<;>simp only [hx]))|(refine fit_sl (by rfl) (fun ix h0 h1=> ?_);(have h2:ix.den<1:=h1);(have hx:ix.den.toNat=0:=by omega);(rcases hx with hx<;>simp only [hx]))|(refine fit_sl (by rfl) (fun ix h0 h1=> ?_);(have h2:ix.den<5:=h1);(have hx:ix.den.toNat=0∨ix.den.toNat=1∨ix.den.toNat=2∨ix.den.toNat=3∨ix.den.toNat=4:=by omega);(rcases hx with hx|hx|hx|hx|hx<;>simp only [hx])))));done)
         try cbv)
      | (refine⟨none,?_⟩
         refine qR ?_ (kintsXa) rfl ?hfit
         case hfit=>(cbv;(repeat' (first|exact qA|exact qB|refine qC ?_ rfl ?_|refine qD ?_ ?_|exact qE (by rfl)|exact qF (by rfl)|exact Fit.refl _|(exact qO (by rfl))|(first|(refine fit_sl (by rfl) (fun ix h0 h1=> ?_);(have h2:ix.den<2:=h1);(have hx:ix.den.toNat=0∨ix.den.toNat=1:=by omega);(rcases hx with hx|hx<;>simp only [hx]))|(refine fit_sl (by rfl) (fun ix h0 h1=> ?_);(have h2:ix.den<3:=h1);(have hx:ix.den.toNat=0∨ix.den.toNat=1∨ix.den.toNat=2:=by omega);(rcases hx with hx|hx|hx<;>simp only [hx]))|(refine fit_sl (by rfl) (fun ix h0 h1=> ?_);(have h2:ix.den<4:=h1);(have hx:ix.den.toNat=0∨ix.den.toNat=1∨ix.den.toNat=2∨ix.den.toNat=3:=by omega);(rcases hx with hx|hx|hx|hx<;>simp only [hx]))|(refine fit_sl (by rfl) (fun ix h0 h1=> ?_);(have h2:ix.den<1:=h1);(have hx:ix.den.toNat=0:=by omega);(rcases hx with hx<;>simp only [hx]))|(refine fit_sl (by rfl) (fun ix h0 h1=> ?_);(have h2:ix.den<5:=h1);(have hx:ix.den.toNat=0∨ix.den.toNat=1∨ix.den.toNat=2∨ix.den.toNat=3∨ix.den.toNat=4:=by omega);(rcases hx with hx|hx|hx|hx|hx<;>simp only [hx])))));done)
         try cbv)
      |fail)
  all_goals first
    |trivial
    |(subst hR;(repeat' (first|exact qA|exact qB|refine qC ?_ rfl ?_|refine qD ?_ ?_|exact qE (by rfl)|exact qF (by rfl)|exact Fit.refl _|exact qG _|(refine qE ?_;(try simp only [qV]at *);simp only [zQ,zA,zB,zC,zD,zE,zF,zG,zH,zI,zJ,zK,zL,zM,zN,zO,zP,zR,zS]at *;omega)));done)
    |skip
end Go.Proofs.Ytkdggbfknlcdaaa

namespace Go.Proofs.Ytkdggbfknlcdaaa
open Go Go.Eng Go.Proofs
set_option maxRecDepth 10000
def Seen (wl ml mh:Int)(i j:Nat)(w m:Int):Prop:=ml≤m∧m≤mh∧((wl≤w∧w<wl+i)∨(w=wl+i∧m<ml+j))
structure Scan (f:Int→Int→Int)(wl ml mh:Int)(i j:Nat)(lo hi:Int):Prop where
  le:∀w m,Seen wl ml mh i j w m→lo≤f w m∧f w m≤hi
  hit:(lo=9999∧hi = -1∧∀w m,¬Seen wl ml mh i j w m)∨((∃w m,Seen wl ml mh i j w m∧lo=f w m)∧∃w m,Seen wl ml mh i j w m∧hi=f w m)
theorem Scan.congr {f:Int→Int→Int} {wl ml mh:Int} {i j i' j':Nat} {lo hi:Int}(h:Scan f wl ml mh i j lo hi)(hs:∀w m,Seen wl ml mh i j w m↔Seen wl ml mh i' j' w m):Scan f wl ml mh i' j' lo hi:=
  ⟨fun w m s=>h.le w m ((hs w m).2 s),h.hit.imp (fun q=>⟨q.1,q.2.1,fun w m s=>q.2.2 w m ((hs w m).2 s)⟩) fun q=>⟨let ⟨w,m,s,e⟩:=q.1;⟨w,m,(hs w m).1 s,e⟩,let ⟨w,m,s,e⟩:=q.2;⟨w,m,(hs w m).1 s,e⟩⟩⟩
end Go.Proofs.Ytkdggbfknlcdaaa

namespace Go.Proofs.Ytkdggbfknlcdaaa
open Go.Eng.Dif Go.Eng.Few
theorem out_bd {d:Dsp}(hd:DOk d) {o:List Int}(hc:canT d d.fs o=true) {s:Nat}(hs:s<SN d):0≤loT d o s∧loT d o s≤hiT d o s∧hiT d o s≤2000:=end_bd (okk hd (kept_ok hd.f o)) hc hs
end Go.Proofs.Ytkdggbfknlcdaaa

namespace Go.Proofs.Ytkdggbfknlcdaaa
open Go.Eng.Dif Go.Eng.Few
theorem bnd_lea {d:Dsp}(hf:firmE d=0):(bndE d=0∧(leaL d).length=0)∨(bndE d=11∧¬(leaL d).length=0):=by
  have hF:=(firmE_ok hf).1
  have ha:=firm_iotaF hf
  have e:leaL d=fewL d.fs.length (okFa d):=if_pos hf
  rw [e]
  cases hc:canT d d.fs []with
  |true=>exact .inl ⟨(bndE_yes hF hc).1,(Go.Eng.Few.few_nil ha).1 hc⟩
  |false=>exact .inr ⟨(bndE_no hF hc).1,fun q=>by have:=(Go.Eng.Few.few_nil ha).2 q;unfold okFa at this;rw [hc]at this;cases this⟩
end Go.Proofs.Ytkdggbfknlcdaaa

namespace Go.Proofs.Ytkdggbfknlcdaaa
open Go.Eng.Dif Go.Eng.Few
def endT (d:Dsp)(s:Nat)(high:Bool):Int:=if high=true then hiT d [] s else loT d [] s
def shM (d:Dsp)(s:Nat)(n:Int):Nat→Int:=addB (clo (matO d d.fs [])) ⟨0,s+1,n,n⟩
def showT (d:Dsp)(s:Nat)(high:Bool)(k:Nat):Int:=clo (shM d s (endT d s high)) (at4 0 (k+1))
theorem matO_nil (d:Dsp):matO d d.fs []=matD (SN d) (LO d) (FO d d.fs):=by unfold matO;rw [kept_nil]
theorem endT_is (d:Dsp)(s:Nat)(high:Bool):endT d s high=endD (SN d) (LO d) (FO d d.fs) s high:=by
  unfold endT endD
  rw [(lo_nil d s).1,(lo_nil d s).2]
theorem showT_is (d:Dsp)(s:Nat)(high:Bool):showT d s high=showD (SN d) (LO d) (FO d d.fs) s (endD (SN d) (LO d) (FO d d.fs) s high):=by
  funext k
  unfold showT shM showD
  rw [matO_nil,endT_is]
theorem show_tr {d:Dsp}(h:DOk d)(hc:canT d d.fs []=true) {s:Nat}(hs:s<SN d)(high:Bool):Tr (SN d) (LO d) (FO d d.fs) (showT d s high)∧showT d s high s=endT d s high:=by
  rw [can_nil]at hc
  rw [showT_is,endT_is]
  exact show_is (okk h h.f) hc hs high
theorem show_bd {d:Dsp}(h:DOk d)(hc:canT d d.fs []=true) {s:Nat}(hs:s<SN d)(high:Bool) {i:Nat}(hi:i<16):
    (-2000≤shM d s (endT d s high) i∧shM d s (endT d s high) i≤2000)∧ -2000≤clo (shM d s (endT d s high)) i∧clo (shM d s (endT d s high)) i≤2000:=by
  obtain⟨t,e⟩:=show_tr h hc hs high
  have s3:=h.s3
  have hs3:s<3:=by unfold SN at hs;omega
  have sm:Sol (shM d s (endT d s high)) (nod (SN d) (showT d s high)):=by
    unfold shM
    rw [sol_addB (by show(0:Nat)<4;omega) (by show s+1<4;omega),clo_sol,matO_nil]
    refine⟨tr_mat (okk h h.f) t,?_⟩
    have e1:=nod_s (x:=showT d s high) hs
    have e0:nod (SN d) (showT d s high) 0=0:=rfl
    unfold Btw.Is
    show endT d s high≤nod (SN d) (showT d s high) (s+1)-nod (SN d) (showT d s high) 0∧nod (SN d) (showT d s high) (s+1)-nod (SN d) (showT d s high) 0≤endT d s high
    omega
  have up:shM d s (endT d s high) i≤2000:=Int.le_trans (addB_le _ _ _) (clo_bd h hc hi).2
  exact⟨⟨sol_small sm (fun n _=>nod_rng t.r n) hi,up⟩,sol_small (clo_sol.2 sm) (fun n _=>nod_rng t.r n) hi,Int.le_trans (clo_le _ _) up⟩
theorem end_in {d:Dsp}(h:DOk d)(hc:canT d d.fs []=true) {s:Nat}(hs:s<SN d)(high:Bool):0≤endT d s high∧endT d s high≤2000:=by
  have q:=out_bd h hc hs
  unfold endT
  split<;>omega
def shE (d:Dsp)(s:Int):Int:=if faultD d=0 then(if inB 0 s (d.sn-1)=true then(if canT d d.fs []=true then 0 else 11)else 2)else faultD d
def shN (d:Dsp)(s:Int):Int:=if shE d s=0 then d.sn else 0
theorem shE_bad {d:Dsp} {s:Int}(h:¬faultD d=0):shE d s=faultD d:=by unfold shE;rw [if_neg h]
theorem shE_out {d:Dsp} {s:Int}(h:faultD d=0)(hs:¬(0≤s∧s≤d.sn-1)):shE d s=2:=by
  unfold shE
  rw [if_pos h,if_neg (by rw [inB_t];exact hs)]
theorem shE_no {d:Dsp} {s:Int}(h:faultD d=0)(hs:0≤s∧s≤d.sn-1)(hc:canT d d.fs []=false):shE d s=11:=by
  unfold shE
  rw [if_pos h,if_pos (by rw [inB_t];exact hs),if_neg (by rw [hc];simp)]
theorem shE_yes {d:Dsp} {s:Int}(h:faultD d=0)(hs:0≤s∧s≤d.sn-1)(hc:canT d d.fs []=true):shE d s=0∧shN d s=d.sn:=by
  have e:shE d s=0:=by
    unfold shE
    rw [if_pos h,if_pos (by rw [inB_t];exact hs),if_pos hc]
  exact⟨e,by unfold shN;rw [if_pos e]⟩
theorem shE_ok {d:Dsp} {s:Int}(h:shE d s=0):faultD d=0∧(0≤s∧s≤d.sn-1)∧canT d d.fs []=true:=by
  by_cases hF:faultD d=0
  · by_cases hs:0≤s∧s≤d.sn-1
    · cases hc:canT d d.fs []with
      |true=>exact⟨hF,hs,rfl⟩
      |false=>rw [shE_no hF hs hc]at h;omega
    · rw [shE_out hF hs]at h;omega
  · rw [shE_bad hF]at h;exact absurd h hF
theorem shE_ne {d:Dsp} {s:Int}(h:¬shE d s=0):shN d s=0:=by unfold shN;rw [if_neg h]
end Go.Proofs.Ytkdggbfknlcdaaa
