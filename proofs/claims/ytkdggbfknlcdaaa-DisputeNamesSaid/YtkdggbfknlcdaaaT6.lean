/- Contracts of the functions that the laws come to. No condition. -/
import Derived.Test.YtkdggbfknlcdaaaT5
set_option linter.unusedVariables false
set_option linter.unusedSimpArgs false
set_option linter.deprecated false
set_option linter.all false

namespace Go.Proofs.Ytkdggbfknlcdaaa
open Go Go.Eng Go.Proofs Go.Eng.Dif Go.Eng.Few
set_option maxRecDepth 10000
theorem show38y_true (d:Dsp)(s:Int)(h:shE d s=0):FSpec Try.prog 38 [(dspS d),(.int .i64 (.sym fun _=>s)),(.bool (.sym fun _=>true))] [] (fun r _=>r=(.tup [(.sl 1 (.sym fun _=>shN d s) (fun ix=>[(.int .i64 (.sym fun _=>showT d s.toNat true ix.den.toNat))])),(.int .i64 (.sym fun _=>shE d s))])):=by
  have c16:=check16 d
  have c44:=work44 d
  have c66:=fun h:1≤d.sn∧d.sn≤1000=>sample66 d s h
  have hF:=(shE_ok h).1
  have hs:=(shE_ok h).2.1
  have hC:=(shE_ok h).2.2
  have hd:=faultD_iff.1 hF
  have s1:=hd.s1
  have s3:=hd.s3
  have hsn:s.toNat<SN d:=by unfold SN;omega
  have c54:=apart54 d [] hd (by simp)
  have hbd:=fun (i:Nat) (hi:i<16)=>clo_bd hd hC hi
  have hb2:=fun (i:Nat) (hi:i<16)=>show_bd hd hC hsn true hi
  have hen:=end_in hd hC hsn true
  have c55a:=fun (s:Int) (hs:0≤s∧s<3)=>bounds55 (clo (matO d d.fs [])) s hs (fun i hi=>⟨by have:=hbd i hi;omega,by have:=hbd i hi;omega⟩)
  have c67:=between67 (clo (matO d d.fs [])) 0 (s+1) (endT d s.toNat true) (endT d s.toNat true) (by omega) (by omega) (by omega)
  have e67:addB (clo (matO d d.fs [])) ⟨(0:Int).toNat,(s+1).toNat,endT d s.toNat true,endT d s.toNat true⟩=shM d s.toNat (endT d s.toNat true):=by
    unfold shM
    rw [show(s+1).toNat=s.toNat+1 by omega];rfl
  rw [e67]at c67
  have c68:=close68 (shM d s.toNat (endT d s.toNat true)) (fun i hi=>(hb2 i hi).1.1) (fun i hi=>(hb2 i hi).1.2)
  have c55:=fun (s2:Int) (hs2:0≤s2∧s2<3)=>bounds55 (clo (shM d s.toNat (endT d s.toNat true))) s2 hs2 (fun i hi=>⟨by have:=hb2 i hi;omega,by have:=hb2 i hi;omega⟩)
  refine FSpec.is fun R hR=>qW (sc:=sc38) tyok mix Try.func38 rfl Try.call38 (by kernel_rfl) (by kernel_rfl) ?_
  generalize Try.prog=P at c16 c44 c66 c54 c55a c67 c68 c55⊢
  cbv
  repeat' (first
      |with_reducible refine hold ?_ ?_
      |with_reducible refine And.intro ?_ ?_
      |(with_reducible intro hcd;(try simp only [zA,zB,zC,zD,zE,zF,zG,zH,zI,zJ,zK,zL,zM,zN,zO,zP]at hcd);try cbv)
      | (refine qP ?_ (c16) ?hfit
         case hfit=>((repeat' (first|exact qB|refine qD ?_ ?_|exact qE (by rfl)|exact qF (by rfl)|exact Fit.refl _|exact qA|refine qC ?_ rfl ?_));done)
         try cbv)
      | (refine qP ?_ (c66 (show Hold _ from ?_)) ?hfit
         case hfit=>((repeat' (first|exact qB|refine qD ?_ ?_|exact qE (by rfl)|exact qF (by rfl)|exact Fit.refl _|exact qA|refine qC ?_ rfl ?_));done)
         try cbv)
      | (refine qP ?_ (c44) ?hfit
         case hfit=>((repeat' (first|exact qB|refine qD ?_ ?_|exact qE (by rfl)|exact qF (by rfl)|exact Fit.refl _|exact qA|refine qC ?_ rfl ?_));done)
         try cbv)
      | (refine qP ?_ (c54) ?hfit
         case hfit=>((refine qD (Fit.refl _) (qD (qO rfl) qB));done)
         try cbv)
      | (refine⟨some [18],?_⟩
         cbv
         refine qQ ?_ (c55a s ⟨(by((try simp only [qV]at *);(try simp only [zQ,zA,zB,zC,zD,zE,zF,zG,zH,zI,zJ,zK,zL,zM,zN,zO,zP,zR,zS]at *);omega)),(by((try simp only [qV]at *);(try simp only [zQ,zA,zB,zC,zD,zE,zF,zG,zH,zI,zJ,zK,zL,zM,zN,zO,zP,zR,zS]at *);omega))⟩) ?hfit ?hbo
         case hfit=>(cbv;(repeat' (first|exact qB|refine qD ?_ ?_|exact qE (by rfl)|exact qF (by rfl)|exact Fit.refl _|exact qA|refine qC ?_ rfl ?_));done)
         case hbo=>(cbv;(repeat' (first|exact qH|refine qI ?_ ?_|exact qK _|refine qJ ?_|exact qA|exact qE (by rfl)|exact qF (by rfl)|exact Fit.refl _|exact qG _|refine qC ?_ rfl ?_));done)
         try cbv)
      | (refine⟨some [18],?_⟩
         cbv
         refine qQ ?_ (c67) ?hfit ?hbo
         case hfit=>(cbv;(repeat' (first|exact qB|refine qD ?_ ?_|exact qE (by rfl)|exact qF (by rfl)|exact Fit.refl _|exact qA|refine qC ?_ rfl ?_));done)
         case hbo=>(cbv;(repeat' (first|exact qH|refine qI ?_ ?_|exact qK _|refine qJ ?_|exact qA|exact qE (by rfl)|exact qF (by rfl)|exact Fit.refl _|exact qG _|refine qC ?_ rfl ?_));done)
         try cbv)
      | (refine⟨some [18],?_⟩
         cbv
         refine qQ ?_ (c68) ?hfit ?hbo
         case hfit=>(cbv;(repeat' (first|exact qB|refine qD ?_ ?_|exact qE (by rfl)|exact qF (by rfl)|exact Fit.refl _|exact qA|refine qC ?_ rfl ?_));done)
         case hbo=>(cbv;(repeat' (first|exact qH|refine qI ?_ ?_|exact qK _|refine qJ ?_|exact qA|exact qE (by rfl)|exact qF (by rfl)|exact Fit.refl _|exact qG _|refine qC ?_ rfl ?_));done)
         try cbv)
      |fail)
  all_goals first
    |trivial
    |((try simp only [qV]at *);(try simp only [zQ,zA,zB,zC,zD,zE,zF,zG,zH,zI,zJ,zK,zL,zM,zN,zO,zP,zR,zS]at *);first|(refine qN ?_;omega)|(simp only [Hold];omega))
    |(exfalso;(try simp only [qV]at *);(try simp only [zQ,zA,zB,zC,zD,zE,zF,zG,zH,zI,zJ,zK,zL,zM,zN,zO,zP,zR,zS]at *);(try simp only [allB_t,allB_f,inB_t,inB_f,ofB_t,ofB_f,linkB_t,linkB_f,factB_t,factB_f]at *);omega)
    |(exfalso;rw [hC]at hcd;cases hcd;done)
    |skip
  refine⟨none,[⟨.tmp 12,3,1⟩],{k:Nat // k≤d.sn.toNat},fun x=>⟨[(3,.own 0 0),(7,(.int .i64 (.sym fun _=>0))),(9,.own 18 0),(12,.row 43),(46,(.int .i64 (.sym fun _=>d.sn))),(47,(.int .i64 (.sym fun _=>zi x.1)))],[(0,.cells [(.sl 1 (.sym fun _=>zi (d.tw).length) (fun ix=>[.int .i64 (.sym fun _=>(d.tw).getD ix.den.toNat 0)])),(.sl 1 (.sym fun _=>zi (d.tm).length) (fun ix=>[.int .i64 (.sym fun _=>(d.tm).getD ix.den.toNat 0)])),(.sl 1 (.sym fun _=>zi (d.tv).length) (fun ix=>[(.sl 1 (.sym fun _=>zi ((d.tv).getD ix.den.toNat []).length) (fun jx=>[.int .i64 (.sym fun _=>((d.tv).getD ix.den.toNat []).getD jx.den.toNat 0)]))])),(.int .i64 (.sym fun _=>d.sn)),(.int .i64 (.sym fun _=>d.pn)),(.sl 4 (.sym fun _=>zi (d.ls).length) (fun ix=>[(.int .i64 (.sym fun _=>((d.ls).getD ix.den.toNat l0T).a)),(.int .i64 (.sym fun _=>((d.ls).getD ix.den.toNat l0T).b)),(.int .i64 (.sym fun _=>((d.ls).getD ix.den.toNat l0T).lo)),(.int .i64 (.sym fun _=>((d.ls).getD ix.den.toNat l0T).hi))])),(.sl 6 (.sym fun _=>zi (d.fs).length) (fun ix=>[(.int .i64 (.sym fun _=>((d.fs).getD ix.den.toNat f0T).p)),(.int .i64 (.sym fun _=>((d.fs).getD ix.den.toNat f0T).s)),(.int .i64 (.sym fun _=>((d.fs).getD ix.den.toNat f0T).wl)),(.int .i64 (.sym fun _=>((d.fs).getD ix.den.toNat f0T).wh)),(.int .i64 (.sym fun _=>((d.fs).getD ix.den.toNat f0T).ml)),(.int .i64 (.sym fun _=>((d.fs).getD ix.den.toNat f0T).mh))]))] 41),(18,.cells [(.arr 16 (fun ix=>(.int .i64 (.sym fun _=>(clo (shM d s.toNat (endT d s.toNat true))) ix.den.toNat))))] 104),(43,.row 3 1 (.sym fun _=>zi x.1) (fun ix=>[(.int .i64 (.sym fun _=>showT d s.toNat true ix.den.toNat))]))],200⟩,fun x=>d.sn.toNat-x.1,?_,?_⟩
  · refine⟨⟨0,by omega⟩,?_⟩
    cbv
    repeat' (first
      |with_reducible refine hold ?_ ?_
      |with_reducible refine And.intro ?_ ?_)
    all_goals first
      |trivial
      |exact qM (qE (by rfl))
      |exact qM (Fit.refl _)
      |exact qL (qK _)
      |(refine qL (ble_row ?_ ?_);(first|rfl|((try simp only [qV]at *);(try simp only [zQ,zA,zB,zC,zD,zE,zF,zG,zH,zI,zJ,zK,zL,zM,zN,zO,zP,zR,zS]at *);omega));intro ix h0 h1;exfalso;(try simp only [qV]at *);(try simp only [zQ,zA,zB,zC,zD,zE,zF,zG,zH,zI,zJ,zK,zL,zM,zN,zO,zP,zR,zS]at *);omega)
      |skip
  · rintro ⟨k,hk⟩
    cbv
    repeat' (first
        |with_reducible refine hold ?_ ?_
        |with_reducible refine And.intro ?_ ?_
        |(with_reducible intro hcd;(try simp only [zA,zB,zC,zD,zE,zF,zG,zH,zI,zJ,zK,zL,zM,zN,zO,zP]at hcd);try cbv)
        | (refine⟨some [18],?_⟩
           cbv
           refine qQ ?_ (c55 (zi k) ⟨(by((try simp only [qV]at *);(try simp only [zQ,zA,zB,zC,zD,zE,zF,zG,zH,zI,zJ,zK,zL,zM,zN,zO,zP,zR,zS]at *);omega)),(by((try simp only [qV]at *);(try simp only [zQ,zA,zB,zC,zD,zE,zF,zG,zH,zI,zJ,zK,zL,zM,zN,zO,zP,zR,zS]at *);omega))⟩) ?hfit ?hbo
           case hfit=>(cbv;(repeat' (first|exact qB|refine qD ?_ ?_|exact qE (by rfl)|exact qF (by rfl)|exact Fit.refl _|exact qA|refine qC ?_ rfl ?_));done)
           case hbo=>(cbv;(repeat' (first|exact qH|refine qI ?_ ?_|exact qK _|refine qJ ?_|exact qA|exact qE (by rfl)|exact qF (by rfl)|exact Fit.refl _|exact qG _|refine qC ?_ rfl ?_));done)
           try cbv)
        | (refine⟨fun ix=>[(.int .i64 (.sym fun _=>showT d s.toNat true ix.den.toNat))],?_⟩
           cbv
           refine hold (hold_rowapp (by intro ix jx h0 h1 h2;simp only [h2];exact Fit.refl _) (by intro ix jx h0 h1 h2;(have h3:jx.den.toNat=k:=by((try simp only [qV]at *);(try simp only [zQ,zA,zB,zC,zD,zE,zF,zG,zH,zI,zJ,zK,zL,zM,zN,zO,zP,zR,zS]at *);omega));simp only [h3];exact qC (qE (by first|rfl|((try simp only [qV]at *);(try simp only [zQ,zA,zB,zC,zD,zE,zF,zG,zH,zI,zJ,zK,zL,zM,zN,zO,zP,zR,zS]at *);rfl))) rfl qA) (by(try simp only [qV]at *);(try simp only [zQ,zA,zB,zC,zD,zE,zF,zG,zH,zI,zJ,zK,zL,zM,zN,zO,zP,zR,zS]at *);omega)) (Or.inl ?_)
           try cbv)
        |fail)
    all_goals first
      |((try simp only [qV]at *);(try simp only [zQ,zA,zB,zC,zD,zE,zF,zG,zH,zI,zJ,zK,zL,zM,zN,zO,zP,zR,zS]at *);first|(refine qN ?_;omega)|(simp only [Hold];omega))
      |((have hse:(k:Int)=d.sn:=(by((try simp only [qV]at *);(try simp only [zQ,zA,zB,zC,zD,zE,zF,zG,zH,zI,zJ,zK,zL,zM,zN,zO,zP,zR,zS]at *);omega)));subst hR;exact qD (fit_sl (hse.trans (shE_yes hF hs hC).2.symm) (fun _ _ _=>Fit.refl _)) (qD (qE h.symm) qB))
      |((try simp only [zQ,zA,zB,zC,zD,zE,zF,zG,zH,zI,zJ,zK,zL,zM,zN,zO,zP,zR,zS]at *);refine⟨⟨k+1,by((try simp only [qV]at *);(try simp only [zQ,zA,zB,zC,zD,zE,zF,zG,zH,zI,zJ,zK,zL,zM,zN,zO,zP,zR,zS]at *);omega)⟩,by simp only [];omega,?_⟩;cbv;(repeat' (first|with_reducible refine hold ?_ ?_|with_reducible refine And.intro ?_ ?_));(all_goals first|trivial|exact qM (qE (by rfl))|exact qM (qF (by rfl))|exact qM (Fit.refl _)|exact qL (qK _)|(refine qM (qE ?_);(try simp only [qV]at *);simp only [zQ,zA,zB,zC,zD,zE,zF,zG,zH,zI,zJ,zK,zL,zM,zN,zO,zP,zR,zS]at *;omega)|(refine qL (qJ ?_);(repeat' (first|exact qA|exact qB|refine qC ?_ rfl ?_|refine qD ?_ ?_|exact qE (by rfl)|exact qF (by rfl)|exact Fit.refl _|exact qG _|(refine qE ?_;(try simp only [qV]at *);simp only [zQ,zA,zB,zC,zD,zE,zF,zG,zH,zI,zJ,zK,zL,zM,zN,zO,zP,zR,zS]at *;omega)));done)|(refine qL (ble_row ?_ ?_)<;>first|rfl|((try simp only [qV]at *);(try simp only [zQ,zA,zB,zC,zD,zE,zF,zG,zH,zI,zJ,zK,zL,zM,zN,zO,zP,zR,zS]at *);omega)|(intro ix h0 h1;exact Fit.refl _))|skip))
      |skip
theorem show38n_true (d:Dsp)(s:Int)(h:¬shE d s=0):FSpec Try.prog 38 [(dspS d),(.int .i64 (.sym fun _=>s)),(.bool (.sym fun _=>true))] [] (fun r _=>r=(.tup [(.sl 1 (.sym fun _=>shN d s) (fun ix=>[(.int .i64 (.sym fun _=>showT d s.toNat true ix.den.toNat))])),(.int .i64 (.sym fun _=>shE d s))])):=by
  have c16:=check16 d
  have c44:=work44 d
  have c66:=fun h:faultD d=0=>sample66 d s ⟨(faultD_iff.1 h).s1,by have:=(faultD_iff.1 h).s3;omega⟩
  have c54:=fun h:faultD d=0=>apart54 d [] (faultD_iff.1 h) (by simp)
  refine FSpec.is fun R hR=>qW (sc:=sc38) tyok mix Try.func38 rfl Try.call38 (by kernel_rfl) (by kernel_rfl) ?_
  generalize Try.prog=P at c16 c44 c66 c54⊢
  cbv
  repeat' (first
      |with_reducible refine And.intro ?_ ?_
      |(with_reducible intro hcd;(try simp only [zA,zB,zC,zD,zE,zF,zG,zH,zI,zJ,zK,zL,zM,zN,zO,zP]at hcd);try cbv)
      | (refine qP ?_ (c16) ?hfit
         case hfit=>((repeat' (first|exact qB|refine qD ?_ ?_|exact qE (by rfl)|exact qF (by rfl)|exact Fit.refl _|exact qA|refine qC ?_ rfl ?_));done)
         try cbv)
      | (refine qP ?_ (c66 (show Hold _ from ?_)) ?hfit
         case hfit=>((repeat' (first|exact qB|refine qD ?_ ?_|exact qE (by rfl)|exact qF (by rfl)|exact Fit.refl _|exact qA|refine qC ?_ rfl ?_));done)
         try cbv)
      | (refine qP ?_ (c44) ?hfit
         case hfit=>((repeat' (first|exact qB|refine qD ?_ ?_|exact qE (by rfl)|exact qF (by rfl)|exact Fit.refl _|exact qA|refine qC ?_ rfl ?_));done)
         try cbv)
      | (refine qP ?_ (c54 (show Hold _ from ?_)) ?hfit
         case hfit=>((refine qD (Fit.refl _) (qD (qO rfl) qB));done)
         try cbv)
      |fail)
  all_goals first
    |trivial
    |(subst hR;((try simp only [qV]at *);(try simp only [zQ,zA,zB,zC,zD,zE,zF,zG,zH,zI,zJ,zK,zL,zM,zN,zO,zP,zR,zS]at *);(try simp only [allB_t,allB_f,inB_t,inB_f,ofB_t,ofB_f,linkB_t,linkB_f,factB_t,factB_f]at *);(exact qD (qO (shE_ne h)) (qD (qE (shE_bad (d:=d) (by first|assumption|omega)).symm) qB)));done)
    |(subst hR;((try simp only [qV]at *);(try simp only [zQ,zA,zB,zC,zD,zE,zF,zG,zH,zI,zJ,zK,zL,zM,zN,zO,zP,zR,zS]at *);(try simp only [allB_t,allB_f,inB_t,inB_f,ofB_t,ofB_f,linkB_t,linkB_f,factB_t,factB_f]at *);(exact qD (qO (shE_ne h)) (qD (qE (shE_out (d:=d) (by first|assumption|omega) (by first|assumption|omega)).symm) qB)));done)
    |(subst hR;((try simp only [qV]at *);(try simp only [zQ,zA,zB,zC,zD,zE,zF,zG,zH,zI,zJ,zK,zL,zM,zN,zO,zP,zR,zS]at *);(try simp only [allB_t,allB_f,inB_t,inB_f,ofB_t,ofB_f,linkB_t,linkB_f,factB_t,factB_f]at *);(exact qD (qO (shE_ne h)) (qD (qE (shE_no (d:=d) (by first|assumption|omega) (by first|assumption|omega) (by assumption)).symm) qB)));done)
    |(exfalso;(try simp only [qV]at *);(try simp only [zQ,zA,zB,zC,zD,zE,zF,zG,zH,zI,zJ,zK,zL,zM,zN,zO,zP,zR,zS]at *);(try simp only [allB_t,allB_f,inB_t,inB_f,ofB_t,ofB_f,linkB_t,linkB_f,factB_t,factB_f]at *);exact h (shE_yes (by first|assumption|omega) (by first|assumption|omega) (by assumption)).1)
    |skip
theorem show38y_false (d:Dsp)(s:Int)(h:shE d s=0):FSpec Try.prog 38 [(dspS d),(.int .i64 (.sym fun _=>s)),(.bool (.sym fun _=>false))] [] (fun r _=>r=(.tup [(.sl 1 (.sym fun _=>shN d s) (fun ix=>[(.int .i64 (.sym fun _=>showT d s.toNat false ix.den.toNat))])),(.int .i64 (.sym fun _=>shE d s))])):=by
  have c16:=check16 d
  have c44:=work44 d
  have c66:=fun h:1≤d.sn∧d.sn≤1000=>sample66 d s h
  have hF:=(shE_ok h).1
  have hs:=(shE_ok h).2.1
  have hC:=(shE_ok h).2.2
  have hd:=faultD_iff.1 hF
  have s1:=hd.s1
  have s3:=hd.s3
  have hsn:s.toNat<SN d:=by unfold SN;omega
  have c54:=apart54 d [] hd (by simp)
  have hbd:=fun (i:Nat) (hi:i<16)=>clo_bd hd hC hi
  have hb2:=fun (i:Nat) (hi:i<16)=>show_bd hd hC hsn false hi
  have hen:=end_in hd hC hsn false
  have c55a:=fun (s:Int) (hs:0≤s∧s<3)=>bounds55 (clo (matO d d.fs [])) s hs (fun i hi=>⟨by have:=hbd i hi;omega,by have:=hbd i hi;omega⟩)
  have c67:=between67 (clo (matO d d.fs [])) 0 (s+1) (endT d s.toNat false) (endT d s.toNat false) (by omega) (by omega) (by omega)
  have e67:addB (clo (matO d d.fs [])) ⟨(0:Int).toNat,(s+1).toNat,endT d s.toNat false,endT d s.toNat false⟩=shM d s.toNat (endT d s.toNat false):=by
    unfold shM
    rw [show(s+1).toNat=s.toNat+1 by omega];rfl
  rw [e67]at c67
  have c68:=close68 (shM d s.toNat (endT d s.toNat false)) (fun i hi=>(hb2 i hi).1.1) (fun i hi=>(hb2 i hi).1.2)
  have c55:=fun (s2:Int) (hs2:0≤s2∧s2<3)=>bounds55 (clo (shM d s.toNat (endT d s.toNat false))) s2 hs2 (fun i hi=>⟨by have:=hb2 i hi;omega,by have:=hb2 i hi;omega⟩)
  refine FSpec.is fun R hR=>qW (sc:=sc38) tyok mix Try.func38 rfl Try.call38 (by kernel_rfl) (by kernel_rfl) ?_
  generalize Try.prog=P at c16 c44 c66 c54 c55a c67 c68 c55⊢
  cbv
  repeat' (first
      |with_reducible refine hold ?_ ?_
      |with_reducible refine And.intro ?_ ?_
      |(with_reducible intro hcd;(try simp only [zA,zB,zC,zD,zE,zF,zG,zH,zI,zJ,zK,zL,zM,zN,zO,zP]at hcd);try cbv)
      | (refine qP ?_ (c16) ?hfit
         case hfit=>((repeat' (first|exact qB|refine qD ?_ ?_|exact qE (by rfl)|exact qF (by rfl)|exact Fit.refl _|exact qA|refine qC ?_ rfl ?_));done)
         try cbv)
      | (refine qP ?_ (c66 (show Hold _ from ?_)) ?hfit
         case hfit=>((repeat' (first|exact qB|refine qD ?_ ?_|exact qE (by rfl)|exact qF (by rfl)|exact Fit.refl _|exact qA|refine qC ?_ rfl ?_));done)
         try cbv)
      | (refine qP ?_ (c44) ?hfit
         case hfit=>((repeat' (first|exact qB|refine qD ?_ ?_|exact qE (by rfl)|exact qF (by rfl)|exact Fit.refl _|exact qA|refine qC ?_ rfl ?_));done)
         try cbv)
      | (refine qP ?_ (c54) ?hfit
         case hfit=>((refine qD (Fit.refl _) (qD (qO rfl) qB));done)
         try cbv)
      | (refine⟨some [18],?_⟩
         cbv
         refine qQ ?_ (c55a s ⟨(by((try simp only [qV]at *);(try simp only [zQ,zA,zB,zC,zD,zE,zF,zG,zH,zI,zJ,zK,zL,zM,zN,zO,zP,zR,zS]at *);omega)),(by((try simp only [qV]at *);(try simp only [zQ,zA,zB,zC,zD,zE,zF,zG,zH,zI,zJ,zK,zL,zM,zN,zO,zP,zR,zS]at *);omega))⟩) ?hfit ?hbo
         case hfit=>(cbv;(repeat' (first|exact qB|refine qD ?_ ?_|exact qE (by rfl)|exact qF (by rfl)|exact Fit.refl _|exact qA|refine qC ?_ rfl ?_));done)
         case hbo=>(cbv;(repeat' (first|exact qH|refine qI ?_ ?_|exact qK _|refine qJ ?_|exact qA|exact qE (by rfl)|exact qF (by rfl)|exact Fit.refl _|exact qG _|refine qC ?_ rfl ?_));done)
         try cbv)
      | (refine⟨some [18],?_⟩
         cbv
         refine qQ ?_ (c67) ?hfit ?hbo
         case hfit=>(cbv;(repeat' (first|exact qB|refine qD ?_ ?_|exact qE (by rfl)|exact qF (by rfl)|exact Fit.refl _|exact qA|refine qC ?_ rfl ?_));done)
         case hbo=>(cbv;(repeat' (first|exact qH|refine qI ?_ ?_|exact qK _|refine qJ ?_|exact qA|exact qE (by rfl)|exact qF (by rfl)|exact Fit.refl _|exact qG _|refine qC ?_ rfl ?_));done)
         try cbv)
      | (refine⟨some [18],?_⟩
         cbv
         refine qQ ?_ (c68) ?hfit ?hbo
         case hfit=>(cbv;(repeat' (first|exact qB|refine qD ?_ ?_|exact qE (by rfl)|exact qF (by rfl)|exact Fit.refl _|exact qA|refine qC ?_ rfl ?_));done)
         case hbo=>(cbv;(repeat' (first|exact qH|refine qI ?_ ?_|exact qK _|refine qJ ?_|exact qA|exact qE (by rfl)|exact qF (by rfl)|exact Fit.refl _|exact qG _|refine qC ?_ rfl ?_));done)
         try cbv)
      |fail)
  all_goals first
    |trivial
    |((try simp only [qV]at *);(try simp only [zQ,zA,zB,zC,zD,zE,zF,zG,zH,zI,zJ,zK,zL,zM,zN,zO,zP,zR,zS]at *);first|(refine qN ?_;omega)|(simp only [Hold];omega))
    |(exfalso;(try simp only [qV]at *);(try simp only [zQ,zA,zB,zC,zD,zE,zF,zG,zH,zI,zJ,zK,zL,zM,zN,zO,zP,zR,zS]at *);(try simp only [allB_t,allB_f,inB_t,inB_f,ofB_t,ofB_f,linkB_t,linkB_f,factB_t,factB_f]at *);omega)
    |(exfalso;rw [hC]at hcd;cases hcd;done)
    |skip
  refine⟨none,[⟨.tmp 12,3,1⟩],{k:Nat // k≤d.sn.toNat},fun x=>⟨[(3,.own 0 0),(7,(.int .i64 (.sym fun _=>0))),(9,.own 18 0),(12,.row 39),(46,(.int .i64 (.sym fun _=>d.sn))),(47,(.int .i64 (.sym fun _=>zi x.1)))],[(0,.cells [(.sl 1 (.sym fun _=>zi (d.tw).length) (fun ix=>[.int .i64 (.sym fun _=>(d.tw).getD ix.den.toNat 0)])),(.sl 1 (.sym fun _=>zi (d.tm).length) (fun ix=>[.int .i64 (.sym fun _=>(d.tm).getD ix.den.toNat 0)])),(.sl 1 (.sym fun _=>zi (d.tv).length) (fun ix=>[(.sl 1 (.sym fun _=>zi ((d.tv).getD ix.den.toNat []).length) (fun jx=>[.int .i64 (.sym fun _=>((d.tv).getD ix.den.toNat []).getD jx.den.toNat 0)]))])),(.int .i64 (.sym fun _=>d.sn)),(.int .i64 (.sym fun _=>d.pn)),(.sl 4 (.sym fun _=>zi (d.ls).length) (fun ix=>[(.int .i64 (.sym fun _=>((d.ls).getD ix.den.toNat l0T).a)),(.int .i64 (.sym fun _=>((d.ls).getD ix.den.toNat l0T).b)),(.int .i64 (.sym fun _=>((d.ls).getD ix.den.toNat l0T).lo)),(.int .i64 (.sym fun _=>((d.ls).getD ix.den.toNat l0T).hi))])),(.sl 6 (.sym fun _=>zi (d.fs).length) (fun ix=>[(.int .i64 (.sym fun _=>((d.fs).getD ix.den.toNat f0T).p)),(.int .i64 (.sym fun _=>((d.fs).getD ix.den.toNat f0T).s)),(.int .i64 (.sym fun _=>((d.fs).getD ix.den.toNat f0T).wl)),(.int .i64 (.sym fun _=>((d.fs).getD ix.den.toNat f0T).wh)),(.int .i64 (.sym fun _=>((d.fs).getD ix.den.toNat f0T).ml)),(.int .i64 (.sym fun _=>((d.fs).getD ix.den.toNat f0T).mh))]))] 41),(18,.cells [(.arr 16 (fun ix=>(.int .i64 (.sym fun _=>(clo (shM d s.toNat (endT d s.toNat false))) ix.den.toNat))))] 104),(39,.row 3 1 (.sym fun _=>zi x.1) (fun ix=>[(.int .i64 (.sym fun _=>showT d s.toNat false ix.den.toNat))]))],200⟩,fun x=>d.sn.toNat-x.1,?_,?_⟩
  · refine⟨⟨0,by omega⟩,?_⟩
    cbv
    repeat' (first
      |with_reducible refine hold ?_ ?_
      |with_reducible refine And.intro ?_ ?_)
    all_goals first
      |trivial
      |exact qM (qE (by rfl))
      |exact qM (Fit.refl _)
      |exact qL (qK _)
      |(refine qL (ble_row ?_ ?_);(first|rfl|((try simp only [qV]at *);(try simp only [zQ,zA,zB,zC,zD,zE,zF,zG,zH,zI,zJ,zK,zL,zM,zN,zO,zP,zR,zS]at *);omega));intro ix h0 h1;exfalso;(try simp only [qV]at *);(try simp only [zQ,zA,zB,zC,zD,zE,zF,zG,zH,zI,zJ,zK,zL,zM,zN,zO,zP,zR,zS]at *);omega)
      |skip
  · rintro ⟨k,hk⟩
    cbv
    repeat' (first
        |with_reducible refine hold ?_ ?_
        |with_reducible refine And.intro ?_ ?_
        |(with_reducible intro hcd;(try simp only [zA,zB,zC,zD,zE,zF,zG,zH,zI,zJ,zK,zL,zM,zN,zO,zP]at hcd);try cbv)
        | (refine⟨some [18],?_⟩
           cbv
           refine qQ ?_ (c55 (zi k) ⟨(by((try simp only [qV]at *);(try simp only [zQ,zA,zB,zC,zD,zE,zF,zG,zH,zI,zJ,zK,zL,zM,zN,zO,zP,zR,zS]at *);omega)),(by((try simp only [qV]at *);(try simp only [zQ,zA,zB,zC,zD,zE,zF,zG,zH,zI,zJ,zK,zL,zM,zN,zO,zP,zR,zS]at *);omega))⟩) ?hfit ?hbo
           case hfit=>(cbv;(repeat' (first|exact qB|refine qD ?_ ?_|exact qE (by rfl)|exact qF (by rfl)|exact Fit.refl _|exact qA|refine qC ?_ rfl ?_));done)
           case hbo=>(cbv;(repeat' (first|exact qH|refine qI ?_ ?_|exact qK _|refine qJ ?_|exact qA|exact qE (by rfl)|exact qF (by rfl)|exact Fit.refl _|exact qG _|refine qC ?_ rfl ?_));done)
           try cbv)
        | (refine⟨fun ix=>[(.int .i64 (.sym fun _=>showT d s.toNat false ix.den.toNat))],?_⟩
           cbv
           refine hold (hold_rowapp (by intro ix jx h0 h1 h2;simp only [h2];exact Fit.refl _) (by intro ix jx h0 h1 h2;(have h3:jx.den.toNat=k:=by((try simp only [qV]at *);(try simp only [zQ,zA,zB,zC,zD,zE,zF,zG,zH,zI,zJ,zK,zL,zM,zN,zO,zP,zR,zS]at *);omega));simp only [h3];exact qC (qE (by first|rfl|((try simp only [qV]at *);(try simp only [zQ,zA,zB,zC,zD,zE,zF,zG,zH,zI,zJ,zK,zL,zM,zN,zO,zP,zR,zS]at *);rfl))) rfl qA) (by(try simp only [qV]at *);(try simp only [zQ,zA,zB,zC,zD,zE,zF,zG,zH,zI,zJ,zK,zL,zM,zN,zO,zP,zR,zS]at *);omega)) (Or.inl ?_)
           try cbv)
        |fail)
    all_goals first
      |((try simp only [qV]at *);(try simp only [zQ,zA,zB,zC,zD,zE,zF,zG,zH,zI,zJ,zK,zL,zM,zN,zO,zP,zR,zS]at *);first|(refine qN ?_;omega)|(simp only [Hold];omega))
      |((have hse:(k:Int)=d.sn:=(by((try simp only [qV]at *);(try simp only [zQ,zA,zB,zC,zD,zE,zF,zG,zH,zI,zJ,zK,zL,zM,zN,zO,zP,zR,zS]at *);omega)));subst hR;exact qD (fit_sl (hse.trans (shE_yes hF hs hC).2.symm) (fun _ _ _=>Fit.refl _)) (qD (qE h.symm) qB))
      |((try simp only [zQ,zA,zB,zC,zD,zE,zF,zG,zH,zI,zJ,zK,zL,zM,zN,zO,zP,zR,zS]at *);refine⟨⟨k+1,by((try simp only [qV]at *);(try simp only [zQ,zA,zB,zC,zD,zE,zF,zG,zH,zI,zJ,zK,zL,zM,zN,zO,zP,zR,zS]at *);omega)⟩,by simp only [];omega,?_⟩;cbv;(repeat' (first|with_reducible refine hold ?_ ?_|with_reducible refine And.intro ?_ ?_));(all_goals first|trivial|exact qM (qE (by rfl))|exact qM (qF (by rfl))|exact qM (Fit.refl _)|exact qL (qK _)|(refine qM (qE ?_);(try simp only [qV]at *);simp only [zQ,zA,zB,zC,zD,zE,zF,zG,zH,zI,zJ,zK,zL,zM,zN,zO,zP,zR,zS]at *;omega)|(refine qL (qJ ?_);(repeat' (first|exact qA|exact qB|refine qC ?_ rfl ?_|refine qD ?_ ?_|exact qE (by rfl)|exact qF (by rfl)|exact Fit.refl _|exact qG _|(refine qE ?_;(try simp only [qV]at *);simp only [zQ,zA,zB,zC,zD,zE,zF,zG,zH,zI,zJ,zK,zL,zM,zN,zO,zP,zR,zS]at *;omega)));done)|(refine qL (ble_row ?_ ?_)<;>first|rfl|((try simp only [qV]at *);(try simp only [zQ,zA,zB,zC,zD,zE,zF,zG,zH,zI,zJ,zK,zL,zM,zN,zO,zP,zR,zS]at *);omega)|(intro ix h0 h1;exact Fit.refl _))|skip))
      |skip
theorem show38n_false (d:Dsp)(s:Int)(h:¬shE d s=0):FSpec Try.prog 38 [(dspS d),(.int .i64 (.sym fun _=>s)),(.bool (.sym fun _=>false))] [] (fun r _=>r=(.tup [(.sl 1 (.sym fun _=>shN d s) (fun ix=>[(.int .i64 (.sym fun _=>showT d s.toNat false ix.den.toNat))])),(.int .i64 (.sym fun _=>shE d s))])):=by
  have c16:=check16 d
  have c44:=work44 d
  have c66:=fun h:faultD d=0=>sample66 d s ⟨(faultD_iff.1 h).s1,by have:=(faultD_iff.1 h).s3;omega⟩
  have c54:=fun h:faultD d=0=>apart54 d [] (faultD_iff.1 h) (by simp)
  refine FSpec.is fun R hR=>qW (sc:=sc38) tyok mix Try.func38 rfl Try.call38 (by kernel_rfl) (by kernel_rfl) ?_
  generalize Try.prog=P at c16 c44 c66 c54⊢
  cbv
  repeat' (first
      |with_reducible refine And.intro ?_ ?_
      |(with_reducible intro hcd;(try simp only [zA,zB,zC,zD,zE,zF,zG,zH,zI,zJ,zK,zL,zM,zN,zO,zP]at hcd);try cbv)
      | (refine qP ?_ (c16) ?hfit
         case hfit=>((repeat' (first|exact qB|refine qD ?_ ?_|exact qE (by rfl)|exact qF (by rfl)|exact Fit.refl _|exact qA|refine qC ?_ rfl ?_));done)
         try cbv)
      | (refine qP ?_ (c66 (show Hold _ from ?_)) ?hfit
         case hfit=>((repeat' (first|exact qB|refine qD ?_ ?_|exact qE (by rfl)|exact qF (by rfl)|exact Fit.refl _|exact qA|refine qC ?_ rfl ?_));done)
         try cbv)
      | (refine qP ?_ (c44) ?hfit
         case hfit=>((repeat' (first|exact qB|refine qD ?_ ?_|exact qE (by rfl)|exact qF (by rfl)|exact Fit.refl _|exact qA|refine qC ?_ rfl ?_));done)
         try cbv)
      | (refine qP ?_ (c54 (show Hold _ from ?_)) ?hfit
         case hfit=>((refine qD (Fit.refl _) (qD (qO rfl) qB));done)
         try cbv)
      |fail)
  all_goals first
    |trivial
    |(subst hR;((try simp only [qV]at *);(try simp only [zQ,zA,zB,zC,zD,zE,zF,zG,zH,zI,zJ,zK,zL,zM,zN,zO,zP,zR,zS]at *);(try simp only [allB_t,allB_f,inB_t,inB_f,ofB_t,ofB_f,linkB_t,linkB_f,factB_t,factB_f]at *);(exact qD (qO (shE_ne h)) (qD (qE (shE_bad (d:=d) (by first|assumption|omega)).symm) qB)));done)
    |(subst hR;((try simp only [qV]at *);(try simp only [zQ,zA,zB,zC,zD,zE,zF,zG,zH,zI,zJ,zK,zL,zM,zN,zO,zP,zR,zS]at *);(try simp only [allB_t,allB_f,inB_t,inB_f,ofB_t,ofB_f,linkB_t,linkB_f,factB_t,factB_f]at *);(exact qD (qO (shE_ne h)) (qD (qE (shE_out (d:=d) (by first|assumption|omega) (by first|assumption|omega)).symm) qB)));done)
    |(subst hR;((try simp only [qV]at *);(try simp only [zQ,zA,zB,zC,zD,zE,zF,zG,zH,zI,zJ,zK,zL,zM,zN,zO,zP,zR,zS]at *);(try simp only [allB_t,allB_f,inB_t,inB_f,ofB_t,ofB_f,linkB_t,linkB_f,factB_t,factB_f]at *);(exact qD (qO (shE_ne h)) (qD (qE (shE_no (d:=d) (by first|assumption|omega) (by first|assumption|omega) (by assumption)).symm) qB)));done)
    |(exfalso;(try simp only [qV]at *);(try simp only [zQ,zA,zB,zC,zD,zE,zF,zG,zH,zI,zJ,zK,zL,zM,zN,zO,zP,zR,zS]at *);(try simp only [allB_t,allB_f,inB_t,inB_f,ofB_t,ofB_f,linkB_t,linkB_f,factB_t,factB_f]at *);exact h (shE_yes (by first|assumption|omega) (by first|assumption|omega) (by assumption)).1)
    |skip
theorem show38 (d:Dsp)(s:Int)(b:Bool):FSpec Try.prog 38 [(dspS d),(.int .i64 (.sym fun _=>s)),(.bool (.sym fun _=>b))] [] (fun r _=>r=(.tup [(.sl 1 (.sym fun _=>shN d s) (fun ix=>[(.int .i64 (.sym fun _=>showT d s.toNat b ix.den.toNat))])),(.int .i64 (.sym fun _=>shE d s))])):=by
  by_cases h:shE d s=0
  · cases b
    · exact show38y_false d s h
    · exact show38y_true d s h
  · cases b
    · exact show38n_false d s h
    · exact show38n_true d s h
end Go.Proofs.Ytkdggbfknlcdaaa

namespace Go.Proofs.Ytkdggbfknlcdaaa
open Go Go.Eng Go.Proofs Go.Eng.Dif Go.Eng.Few
set_option maxRecDepth 10000
theorem lam100_truth (t:List Int)(hfew:t.length≤1000)(i:Nat)(hi:i<t.length∧∀j,j<i→(inB 0 (t.getD (j) 0) 2000)=true):FSpec Try.prog 100 [(.int .i64 (.sym fun _=>t.getD (i) 0)),.own 0 0] [.cells [.clo 70 [(.agg [(.int .i64 (.lit 0)),(.int .i64 (.lit 2000))])] []] 121] (fun r bs=>r=(.bool (.sym fun _=> !(inB 0 (t.getD (i) 0) 2000)))∧bs=[.cells [.clo 70 [(.agg [(.int .i64 (.lit 0)),(.int .i64 (.lit 2000))])] []] 121]):=by
  have cf:=has70 0 2000 (t.getD i 0)
  refine FSpec.isB rfl fun R B hR hB=>qW (sc:=sc100) tyok mix Try.func100 rfl Try.call100 (by kernel_rfl) (by kernel_rfl) ?_
  generalize Try.prog=P at cf⊢
  cbv
  repeat' (first
      |with_reducible refine And.intro ?_ ?_
      | (refine qP ?_ (cf) ?hfit
         case hfit=>((repeat' (first|exact qB|refine qD ?_ ?_|exact qE (by rfl)|exact qF (by rfl)|exact Fit.refl _|exact qA|refine qC ?_ rfl ?_));done)
         try cbv)
      |fail)
  all_goals first
    |(subst hR;(repeat' (first|exact qA|exact qB|refine qC ?_ rfl ?_|refine qD ?_ ?_|exact qE (by rfl)|exact qF (by rfl)|exact Fit.refl _|exact qG _|(refine qE ?_;(try simp only [qV]at *);simp only [zQ,zA,zB,zC,zD,zE,zF,zG,zH,zI,zJ,zK,zL,zM,zN,zO,zP,zR,zS]at *;omega)));done)
    |(subst hB;(repeat' (first|exact qH|refine qI ?_ ?_|exact qK _|refine qJ ?_|exact qA|exact qE (by rfl)|exact qF (by rfl)|exact Fit.refl _|exact qG _|refine qC ?_ rfl ?_));done)
    |skip
theorem idx115_truth (t:List Int)(hfew:t.length≤1000):FSpec Try.prog 115 [(.sl 1 (.sym fun _=>zi (t).length) (fun ix=>[.int .i64 (.sym fun _=>(t).getD ix.den.toNat 0)])),.clo 100 [] [.own 0 0]] [.cells [.clo 70 [(.agg [(.int .i64 (.lit 0)),(.int .i64 (.lit 2000))])] []] 121] (fun r bs=>r=(.int .i64 (.sym fun _=>fidx (fun i=>inB 0 (t.getD (i) 0) 2000) (t.length) 0))∧bs=[.cells [.clo 70 [(.agg [(.int .i64 (.lit 0)),(.int .i64 (.lit 2000))])] []] 121]):=by
  have cl:=lam100_truth t hfew
  refine FSpec.isB rfl fun R B hR hB=>qW (sc:=sc115) tyok mix Try.func115 rfl Try.call115 (by kernel_rfl) (by kernel_rfl) ?_
  generalize Try.prog=P at cl⊢
  cbv
  repeat' (first
      |fail)
  all_goals first
    |skip
  refine⟨none,[],{i:Nat // i≤t.length∧fidx (fun i=>inB 0 (t.getD (i) 0) 2000) (t.length) 0=fidx (fun i=>inB 0 (t.getD (i) 0) 2000) (t.length-i) i∧∀j,j<i→(inB 0 (t.getD (j) 0) 2000)=true},fun x=>⟨[(0,(.sl 1 (.sym fun _=>zi (t).length) (fun ix=>[.int .i64 (.sym fun _=>(t).getD ix.den.toNat 0)]))),(1,.clo 100 [] [.own 0 0]),(7,(.int .i64 (.sym fun _=>zi (t.length)))),(8,(.int .i64 (.sym fun _=>zi x.1)))],[(0,.cells [.clo 70 [(.agg [(.int .i64 (.lit 0)),(.int .i64 (.lit 2000))])] []] 121)],20⟩,fun x=>t.length-x.1,?_,?_⟩
  · refine⟨⟨0,by omega,rfl,fun j hj=>by omega⟩,?_⟩
    cbv
    repeat' (first
      |with_reducible refine hold ?_ ?_
      |with_reducible refine And.intro ?_ ?_)
    all_goals first
      |trivial
      |exact qM (qE (by rfl))
      |exact qM (Fit.refl _)
      |exact qL (qK _)
      |skip
  · rintro ⟨i,hi,hr,hq⟩
    cbv
    repeat' (first
        |with_reducible refine hold ?_ ?_
        |with_reducible refine And.intro ?_ ?_
        |(with_reducible intro hcd;(try simp only [zA,zB,zC,zD,zE,zF,zG,zH,zI,zJ,zK,zL,zM,zN,zO,zP]at hcd);try cbv)
        | (refine⟨some [0],?_⟩
           cbv
           refine qQ ?_ (cl i ⟨by(try simp only [qV]at *);simp only [zi_den]at *;omega,hq⟩) (by cbv;(repeat' (first|exact qB|refine qD ?_ ?_|exact qE (by rfl)|exact qF (by rfl)|exact Fit.refl _|exact qA|refine qC ?_ rfl ?_))) (by cbv;(repeat' (first|exact qH|refine qI ?_ ?_|exact qK _|refine qJ ?_|exact qA|exact qE (by rfl)|exact qF (by rfl)|exact Fit.refl _|exact qG _|refine qC ?_ rfl ?_)))
           try cbv)
        |fail)
    all_goals first
      |((try simp only [qV]at *);(try simp only [zQ,zA,zB,zC,zD,zE,zF,zG,zH,zI,zJ,zK,zL,zM,zN,zO,zP,zR,zS]at *);first|(refine qN ?_;omega)|(simp only [Hold];omega))
      |(subst hR;(refine qE ?_;simp only [zQ,zA,zB,zC,zD,zE,zF,zG,zH,zI,zJ,zK,zL,zM,zN,zO,zP,zR,zS]at *;rw [hr,fidx_stop (by omega) hcd]);done)
      |(subst hR;(refine qE ?_;simp only [zQ,zA,zB,zC,zD,zE,zF,zG,zH,zI,zJ,zK,zL,zM,zN,zO,zP,zR,zS]at *;rw [hr,show t.length-i=0 by omega];rfl);done)
      |(subst hB;(repeat' (first|exact qH|refine qI ?_ ?_|exact qK _|refine qJ ?_|exact qA|exact qE (by rfl)|exact qF (by rfl)|exact Fit.refl _|exact qG _|refine qC ?_ rfl ?_));done)
      |((try simp only [zQ,zA,zB,zC,zD,zE,zF,zG,zH,zI,zJ,zK,zL,zM,zN,zO,zP,zR,zS]at *);refine⟨⟨i+1,by omega,by rw [hr,fidx_go (by omega) hcd];(try congr 1)<;>omega,fun j hj=>(Nat.lt_or_ge j i).elim (hq j) (fun q=>by rw [show j=i by omega];exact hcd)⟩,by simp only [];omega,?_⟩;cbv;(repeat' (first|with_reducible refine hold ?_ ?_|with_reducible refine And.intro ?_ ?_));(all_goals first|trivial|exact qM (qE (by rfl))|exact qM (qF (by rfl))|exact qM (Fit.refl _)|exact qL (qK _)|(refine qM (qE ?_);(try simp only [qV]at *);simp only [zQ,zA,zB,zC,zD,zE,zF,zG,zH,zI,zJ,zK,zL,zM,zN,zO,zP,zR,zS]at *;omega)|(refine qL (qJ ?_);(repeat' (first|exact qA|exact qB|refine qC ?_ rfl ?_|refine qD ?_ ?_|exact qE (by rfl)|exact qF (by rfl)|exact Fit.refl _|exact qG _|(refine qE ?_;(try simp only [qV]at *);simp only [zQ,zA,zB,zC,zD,zE,zF,zG,zH,zI,zJ,zK,zL,zM,zN,zO,zP,zR,zS]at *;omega)));done)|skip))
      |skip
theorem cont99_truth (t:List Int)(hfew:t.length≤1000):FSpec Try.prog 99 [(.sl 1 (.sym fun _=>zi (t).length) (fun ix=>[.int .i64 (.sym fun _=>(t).getD ix.den.toNat 0)])),.clo 100 [] [.own 0 0]] [.cells [.clo 70 [(.agg [(.int .i64 (.lit 0)),(.int .i64 (.lit 2000))])] []] 121] (fun r bs=>r=(.bool (.sym fun _=>decide (0≤fidx (fun i=>inB 0 (t.getD (i) 0) 2000) (t.length) 0)))∧bs=[.cells [.clo 70 [(.agg [(.int .i64 (.lit 0)),(.int .i64 (.lit 2000))])] []] 121]):=by
  have ci:=idx115_truth t hfew
  refine FSpec.isB rfl fun R B hR hB=>qW (sc:=sc99) tyok mix Try.func99 rfl Try.call99 (by kernel_rfl) (by kernel_rfl) ?_
  generalize Try.prog=P at ci⊢
  cbv
  repeat' (first
      |with_reducible refine And.intro ?_ ?_
      | (refine⟨some [0],?_⟩
         cbv
         refine qQ ?_ (ci) (by cbv;(repeat' (first|exact qB|refine qD ?_ ?_|exact qE (by rfl)|exact qF (by rfl)|exact Fit.refl _|exact qA|refine qC ?_ rfl ?_))) (by cbv;(repeat' (first|exact qH|refine qI ?_ ?_|exact qK _|refine qJ ?_|exact qA|exact qE (by rfl)|exact qF (by rfl)|exact Fit.refl _|exact qG _|refine qC ?_ rfl ?_)))
         try cbv)
      |fail)
  all_goals first
    |(subst hR;(repeat' (first|exact qA|exact qB|refine qC ?_ rfl ?_|refine qD ?_ ?_|exact qE (by rfl)|exact qF (by rfl)|exact Fit.refl _|exact qG _|(refine qE ?_;(try simp only [qV]at *);simp only [zQ,zA,zB,zC,zD,zE,zF,zG,zH,zI,zJ,zK,zL,zM,zN,zO,zP,zR,zS]at *;omega)));done)
    |(subst hB;(repeat' (first|exact qH|refine qI ?_ ?_|exact qK _|refine qJ ?_|exact qA|exact qE (by rfl)|exact qF (by rfl)|exact Fit.refl _|exact qG _|refine qC ?_ rfl ?_));done)
    |skip
theorem all69_truth (t:List Int)(hfew:t.length≤1000):FSpec Try.prog 69 [(.sl 1 (.sym fun _=>zi (t).length) (fun ix=>[.int .i64 (.sym fun _=>(t).getD ix.den.toNat 0)])),.clo 70 [(.agg [(.int .i64 (.lit 0)),(.int .i64 (.lit 2000))])] []] [] (fun r _=>r=(.bool (.sym fun _=>allB (fun i=>inB 0 (t.getD (i) 0) 2000) (t.length)))):=by
  have cc:=cont99_truth t hfew
  refine FSpec.is fun R hR=>qW (sc:=sc69) tyok mix Try.func69 rfl Try.call69 (by kernel_rfl) (by kernel_rfl) ?_
  generalize Try.prog=P at cc⊢
  cbv
  repeat' (first
      | (refine⟨some [0],?_⟩
         cbv
         refine qQ ?_ (cc) (by cbv;(repeat' (first|exact qB|refine qD ?_ ?_|exact qE (by rfl)|exact qF (by rfl)|exact Fit.refl _|exact qA|refine qC ?_ rfl ?_))) (by cbv;(repeat' (first|exact qH|refine qI ?_ ?_|exact qK _|refine qJ ?_|exact qA|exact qE (by rfl)|exact qF (by rfl)|exact Fit.refl _|exact qG _|refine qC ?_ rfl ?_)))
         try cbv)
      |fail)
  all_goals first
    |(subst hR;(repeat' (first|exact qA|exact qB|refine qC ?_ rfl ?_|refine qD ?_ ?_|exact qE (by rfl)|exact qF (by rfl)|exact Fit.refl _|exact qG _|(refine qE ?_;(try simp only [qV]at *);simp only [zQ,zA,zB,zC,zD,zE,zF,zG,zH,zI,zJ,zK,zL,zM,zN,zO,zP,zR,zS]at *;omega)));done)
    |skip
theorem lam71 (d:Dsp)(t:List Int)(i:Nat)(hd:DOk d)(hl:(t.length:Int)=d.sn)(ht:∀i,i<t.length→0≤t.getD i 0∧t.getD i 0≤2000)(hi:i<d.ls.length):FSpec Try.prog 71 [(.agg [(.int .i64 (.sym fun _=>(d.ls.getD (i) l0T).a)),(.int .i64 (.sym fun _=>(d.ls.getD (i) l0T).b)),(.int .i64 (.sym fun _=>(d.ls.getD (i) l0T).lo)),(.int .i64 (.sym fun _=>(d.ls.getD (i) l0T).hi))]),.own 0 0] [.cells [(.sl 1 (.sym fun _=>zi (t).length) (fun ix=>[.int .i64 (.sym fun _=>(t).getD ix.den.toNat 0)]))] 22] (fun r bs=>r=(.bool (.sym fun _=>inB (d.ls.getD (i) l0T).lo (t.getD (d.ls.getD (i) l0T).b.toNat 0-t.getD (d.ls.getD (i) l0T).a.toNat 0) (d.ls.getD (i) l0T).hi))∧bs=[.cells [(.sl 1 (.sym fun _=>zi (t).length) (fun ix=>[.int .i64 (.sym fun _=>(t).getD ix.den.toNat 0)]))] 22]):=by
  have c70:= @has70
  have hx:=hd.l i hi
  unfold linkP at hx
  have h1:=ht (d.ls.getD i l0T).a.toNat (by omega)
  have h2:=ht (d.ls.getD i l0T).b.toNat (by omega)
  refine FSpec.isB rfl fun R B hR hB=>qW (sc:=sc71) tyok mix Try.func71 rfl Try.call71 (by kernel_rfl) (by kernel_rfl) ?_
  generalize Try.prog=P at c70⊢
  cbv
  repeat' (first
      |with_reducible refine hold ?_ ?_
      |with_reducible refine And.intro ?_ ?_
      | (refine qP ?_ (c70 _ _ _) (by(repeat' (first|exact qB|refine qD ?_ ?_|exact qE (by rfl)|exact qF (by rfl)|exact Fit.refl _|exact qA|refine qC ?_ rfl ?_)))
         try cbv)
      |fail)
  all_goals first
    |((try simp only [qV]at *);(try simp only [zQ,zA,zB,zC,zD,zE,zF,zG,zH,zI,zJ,zK,zL,zM,zN,zO,zP,zR,zS]at *);first|(refine qN ?_;omega)|(simp only [Hold];omega))
    |(subst hR;(repeat' (first|exact qA|exact qB|refine qC ?_ rfl ?_|refine qD ?_ ?_|exact qE (by rfl)|exact qF (by rfl)|exact Fit.refl _|exact qG _|(refine qE ?_;(try simp only [qV]at *);simp only [zQ,zA,zB,zC,zD,zE,zF,zG,zH,zI,zJ,zK,zL,zM,zN,zO,zP,zR,zS]at *;omega)));done)
    |(subst hB;(repeat' (first|exact qH|refine qI ?_ ?_|exact qK _|refine qJ ?_|exact qA|exact qE (by rfl)|exact qF (by rfl)|exact Fit.refl _|exact qG _|refine qC ?_ rfl ?_));done)
    |skip
theorem lam72 (d:Dsp)(t:List Int)(i:Nat)(hd:DOk d)(hl:(t.length:Int)=d.sn)(ht:∀i,i<t.length→0≤t.getD i 0∧t.getD i 0≤2000)(hi:i<d.fs.length):FSpec Try.prog 72 [(.agg [(.int .i64 (.sym fun _=>(d.fs.getD (i) f0T).p)),(.int .i64 (.sym fun _=>(d.fs.getD (i) f0T).s)),(.int .i64 (.sym fun _=>(d.fs.getD (i) f0T).wl)),(.int .i64 (.sym fun _=>(d.fs.getD (i) f0T).wh)),(.int .i64 (.sym fun _=>(d.fs.getD (i) f0T).ml)),(.int .i64 (.sym fun _=>(d.fs.getD (i) f0T).mh))]),.own 0 0,.own 1 0] [.cells [(wpS d)] 91,.cells [(.sl 1 (.sym fun _=>zi (t).length) (fun ix=>[.int .i64 (.sym fun _=>(t).getD ix.den.toNat 0)]))] 22] (fun r bs=>r=(.bool (.sym fun _=>inB (mLo d (d.fs.getD (i) f0T)) (t.getD (d.fs.getD (i) f0T).s.toNat 0) (mHi d (d.fs.getD (i) f0T))))∧bs=[.cells [(wpS d)] 91,.cells [(.sl 1 (.sym fun _=>zi (t).length) (fun ix=>[.int .i64 (.sym fun _=>(t).getD ix.den.toNat 0)]))] 22]):=by
  have c70:= @has70
  have hx:=hd.f i hi
  have hq:=hx
  unfold factP at hx
  have c45:=mean45 d (d.fs.getD i f0T) hd.t hq
  refine FSpec.isB rfl fun R B hR hB=>qW (sc:=sc72) tyok mix Try.func72 rfl Try.call72 (by kernel_rfl) (by kernel_rfl) ?_
  generalize Try.prog=P at c70 c45⊢
  cbv
  repeat' (first
      |with_reducible refine hold ?_ ?_
      |with_reducible refine And.intro ?_ ?_
      | (refine qP ?_ (c45) ?hfit
         case hfit=>((repeat' (first|exact qB|refine qD ?_ ?_|exact qE (by rfl)|exact qF (by rfl)|exact Fit.refl _|exact qA|refine qC ?_ rfl ?_));done)
         try cbv)
      | (refine qP ?_ (c70 _ _ _) (by(repeat' (first|exact qB|refine qD ?_ ?_|exact qE (by rfl)|exact qF (by rfl)|exact Fit.refl _|exact qA|refine qC ?_ rfl ?_)))
         try cbv)
      |fail)
  all_goals first
    |((try simp only [qV]at *);(try simp only [zQ,zA,zB,zC,zD,zE,zF,zG,zH,zI,zJ,zK,zL,zM,zN,zO,zP,zR,zS]at *);first|(refine qN ?_;omega)|(simp only [Hold];omega))
    |(subst hR;(repeat' (first|exact qA|exact qB|refine qC ?_ rfl ?_|refine qD ?_ ?_|exact qE (by rfl)|exact qF (by rfl)|exact Fit.refl _|exact qG _|(refine qE ?_;(try simp only [qV]at *);simp only [zQ,zA,zB,zC,zD,zE,zF,zG,zH,zI,zJ,zK,zL,zM,zN,zO,zP,zR,zS]at *;omega)));done)
    |(subst hB;(repeat' (first|exact qH|refine qI ?_ ?_|exact qK _|refine qJ ?_|exact qA|exact qE (by rfl)|exact qF (by rfl)|exact Fit.refl _|exact qG _|refine qC ?_ rfl ?_));done)
    |skip
theorem lam83_lk2 (d:Dsp)(t:List Int)(hd:DOk d)(hl:(t.length:Int)=d.sn)(ht:∀i,i<t.length→0≤t.getD i 0∧t.getD i 0≤2000)(hfew:d.ls.length≤1000)(i:Nat)(hi:i<d.ls.length∧∀j,j<i→(inB (d.ls.getD (j) l0T).lo (t.getD (d.ls.getD (j) l0T).b.toNat 0-t.getD (d.ls.getD (j) l0T).a.toNat 0) (d.ls.getD (j) l0T).hi)=true):FSpec Try.prog 83 [(.agg [(.int .i64 (.sym fun _=>(d.ls.getD (i) l0T).a)),(.int .i64 (.sym fun _=>(d.ls.getD (i) l0T).b)),(.int .i64 (.sym fun _=>(d.ls.getD (i) l0T).lo)),(.int .i64 (.sym fun _=>(d.ls.getD (i) l0T).hi))]),.own 0 0] [.cells [.clo 71 [] [.own 1 0]] 97,.cells [(.sl 1 (.sym fun _=>zi (t).length) (fun ix=>[.int .i64 (.sym fun _=>(t).getD ix.den.toNat 0)]))] 22] (fun r bs=>r=(.bool (.sym fun _=> !(inB (d.ls.getD (i) l0T).lo (t.getD (d.ls.getD (i) l0T).b.toNat 0-t.getD (d.ls.getD (i) l0T).a.toNat 0) (d.ls.getD (i) l0T).hi)))∧bs=[.cells [.clo 71 [] [.own 1 0]] 97,.cells [(.sl 1 (.sym fun _=>zi (t).length) (fun ix=>[.int .i64 (.sym fun _=>(t).getD ix.den.toNat 0)]))] 22]):=by
  have cf:=lam71 d t i hd hl ht hi.1
  refine FSpec.isB rfl fun R B hR hB=>qW (sc:=sc83) tyok mix Try.func83 rfl Try.call83 (by kernel_rfl) (by kernel_rfl) ?_
  generalize Try.prog=P at cf⊢
  cbv
  repeat' (first
      |with_reducible refine And.intro ?_ ?_
      | (refine⟨some [1],?_⟩
         cbv
         refine qQ ?_ (cf) (by cbv;(repeat' (first|exact qB|refine qD ?_ ?_|exact qE (by rfl)|exact qF (by rfl)|exact Fit.refl _|exact qA|refine qC ?_ rfl ?_))) (by cbv;(repeat' (first|exact qH|refine qI ?_ ?_|exact qK _|refine qJ ?_|exact qA|exact qE (by rfl)|exact qF (by rfl)|exact Fit.refl _|exact qG _|refine qC ?_ rfl ?_)))
         try cbv)
      |fail)
  all_goals first
    |(subst hR;(repeat' (first|exact qA|exact qB|refine qC ?_ rfl ?_|refine qD ?_ ?_|exact qE (by rfl)|exact qF (by rfl)|exact Fit.refl _|exact qG _|(refine qE ?_;(try simp only [qV]at *);simp only [zQ,zA,zB,zC,zD,zE,zF,zG,zH,zI,zJ,zK,zL,zM,zN,zO,zP,zR,zS]at *;omega)));done)
    |(subst hB;(repeat' (first|exact qH|refine qI ?_ ?_|exact qK _|refine qJ ?_|exact qA|exact qE (by rfl)|exact qF (by rfl)|exact Fit.refl _|exact qG _|refine qC ?_ rfl ?_));done)
    |skip
theorem idx111_lk2 (d:Dsp)(t:List Int)(hd:DOk d)(hl:(t.length:Int)=d.sn)(ht:∀i,i<t.length→0≤t.getD i 0∧t.getD i 0≤2000)(hfew:d.ls.length≤1000):FSpec Try.prog 111 [(.sl 4 (.sym fun _=>zi (d.ls).length) (fun ix=>[(.int .i64 (.sym fun _=>((d.ls).getD ix.den.toNat l0T).a)),(.int .i64 (.sym fun _=>((d.ls).getD ix.den.toNat l0T).b)),(.int .i64 (.sym fun _=>((d.ls).getD ix.den.toNat l0T).lo)),(.int .i64 (.sym fun _=>((d.ls).getD ix.den.toNat l0T).hi))])),.clo 83 [] [.own 0 0]] [.cells [.clo 71 [] [.own 1 0]] 97,.cells [(.sl 1 (.sym fun _=>zi (t).length) (fun ix=>[.int .i64 (.sym fun _=>(t).getD ix.den.toNat 0)]))] 22] (fun r bs=>r=(.int .i64 (.sym fun _=>fidx (fun i=>inB (d.ls.getD (i) l0T).lo (t.getD (d.ls.getD (i) l0T).b.toNat 0-t.getD (d.ls.getD (i) l0T).a.toNat 0) (d.ls.getD (i) l0T).hi) (d.ls.length) 0))∧bs=[.cells [.clo 71 [] [.own 1 0]] 97,.cells [(.sl 1 (.sym fun _=>zi (t).length) (fun ix=>[.int .i64 (.sym fun _=>(t).getD ix.den.toNat 0)]))] 22]):=by
  have cl:=lam83_lk2 d t hd hl ht hfew
  refine FSpec.isB rfl fun R B hR hB=>qW (sc:=sc111) tyok mix Try.func111 rfl Try.call111 (by kernel_rfl) (by kernel_rfl) ?_
  generalize Try.prog=P at cl⊢
  cbv
  repeat' (first
      |fail)
  all_goals first
    |skip
  refine⟨none,[],{i:Nat // i≤d.ls.length∧fidx (fun i=>inB (d.ls.getD (i) l0T).lo (t.getD (d.ls.getD (i) l0T).b.toNat 0-t.getD (d.ls.getD (i) l0T).a.toNat 0) (d.ls.getD (i) l0T).hi) (d.ls.length) 0=fidx (fun i=>inB (d.ls.getD (i) l0T).lo (t.getD (d.ls.getD (i) l0T).b.toNat 0-t.getD (d.ls.getD (i) l0T).a.toNat 0) (d.ls.getD (i) l0T).hi) (d.ls.length-i) i∧∀j,j<i→(inB (d.ls.getD (j) l0T).lo (t.getD (d.ls.getD (j) l0T).b.toNat 0-t.getD (d.ls.getD (j) l0T).a.toNat 0) (d.ls.getD (j) l0T).hi)=true},fun x=>⟨[(0,(.sl 4 (.sym fun _=>zi (d.ls).length) (fun ix=>[(.int .i64 (.sym fun _=>((d.ls).getD ix.den.toNat l0T).a)),(.int .i64 (.sym fun _=>((d.ls).getD ix.den.toNat l0T).b)),(.int .i64 (.sym fun _=>((d.ls).getD ix.den.toNat l0T).lo)),(.int .i64 (.sym fun _=>((d.ls).getD ix.den.toNat l0T).hi))]))),(1,.clo 83 [] [.own 0 0]),(7,(.int .i64 (.sym fun _=>zi (d.ls.length)))),(8,(.int .i64 (.sym fun _=>zi x.1)))],[(0,.cells [.clo 71 [] [.own 1 0]] 97),(1,.cells [(.sl 1 (.sym fun _=>zi (t).length) (fun ix=>[.int .i64 (.sym fun _=>(t).getD ix.den.toNat 0)]))] 22)],20⟩,fun x=>d.ls.length-x.1,?_,?_⟩
  · refine⟨⟨0,by omega,rfl,fun j hj=>by omega⟩,?_⟩
    cbv
    repeat' (first
      |with_reducible refine hold ?_ ?_
      |with_reducible refine And.intro ?_ ?_)
    all_goals first
      |trivial
      |exact qM (qE (by rfl))
      |exact qM (Fit.refl _)
      |exact qL (qK _)
      |skip
  · rintro ⟨i,hi,hr,hq⟩
    cbv
    repeat' (first
        |with_reducible refine hold ?_ ?_
        |with_reducible refine And.intro ?_ ?_
        |(with_reducible intro hcd;(try simp only [zA,zB,zC,zD,zE,zF,zG,zH,zI,zJ,zK,zL,zM,zN,zO,zP]at hcd);try cbv)
        | (refine⟨some [0,1],?_⟩
           cbv
           refine qQ ?_ (cl i ⟨by(try simp only [qV]at *);simp only [zi_den]at *;omega,hq⟩) (by cbv;(repeat' (first|exact qB|refine qD ?_ ?_|exact qE (by rfl)|exact qF (by rfl)|exact Fit.refl _|exact qA|refine qC ?_ rfl ?_))) (by cbv;(repeat' (first|exact qH|refine qI ?_ ?_|exact qK _|refine qJ ?_|exact qA|exact qE (by rfl)|exact qF (by rfl)|exact Fit.refl _|exact qG _|refine qC ?_ rfl ?_)))
           try cbv)
        |fail)
    all_goals first
      |((try simp only [qV]at *);(try simp only [zQ,zA,zB,zC,zD,zE,zF,zG,zH,zI,zJ,zK,zL,zM,zN,zO,zP,zR,zS]at *);first|(refine qN ?_;omega)|(simp only [Hold];omega))
      |(subst hR;(refine qE ?_;simp only [zQ,zA,zB,zC,zD,zE,zF,zG,zH,zI,zJ,zK,zL,zM,zN,zO,zP,zR,zS]at *;rw [hr,fidx_stop (by omega) hcd]);done)
      |(subst hR;(refine qE ?_;simp only [zQ,zA,zB,zC,zD,zE,zF,zG,zH,zI,zJ,zK,zL,zM,zN,zO,zP,zR,zS]at *;rw [hr,show d.ls.length-i=0 by omega];rfl);done)
      |(subst hB;(repeat' (first|exact qH|refine qI ?_ ?_|exact qK _|refine qJ ?_|exact qA|exact qE (by rfl)|exact qF (by rfl)|exact Fit.refl _|exact qG _|refine qC ?_ rfl ?_));done)
      |((try simp only [zQ,zA,zB,zC,zD,zE,zF,zG,zH,zI,zJ,zK,zL,zM,zN,zO,zP,zR,zS]at *);refine⟨⟨i+1,by omega,by rw [hr,fidx_go (by omega) hcd];(try congr 1)<;>omega,fun j hj=>(Nat.lt_or_ge j i).elim (hq j) (fun q=>by rw [show j=i by omega];exact hcd)⟩,by simp only [];omega,?_⟩;cbv;(repeat' (first|with_reducible refine hold ?_ ?_|with_reducible refine And.intro ?_ ?_));(all_goals first|trivial|exact qM (qE (by rfl))|exact qM (qF (by rfl))|exact qM (Fit.refl _)|exact qL (qK _)|(refine qM (qE ?_);(try simp only [qV]at *);simp only [zQ,zA,zB,zC,zD,zE,zF,zG,zH,zI,zJ,zK,zL,zM,zN,zO,zP,zR,zS]at *;omega)|(refine qL (qJ ?_);(repeat' (first|exact qA|exact qB|refine qC ?_ rfl ?_|refine qD ?_ ?_|exact qE (by rfl)|exact qF (by rfl)|exact Fit.refl _|exact qG _|(refine qE ?_;(try simp only [qV]at *);simp only [zQ,zA,zB,zC,zD,zE,zF,zG,zH,zI,zJ,zK,zL,zM,zN,zO,zP,zR,zS]at *;omega)));done)|skip))
      |skip
theorem cont82_lk2 (d:Dsp)(t:List Int)(hd:DOk d)(hl:(t.length:Int)=d.sn)(ht:∀i,i<t.length→0≤t.getD i 0∧t.getD i 0≤2000)(hfew:d.ls.length≤1000):FSpec Try.prog 82 [(.sl 4 (.sym fun _=>zi (d.ls).length) (fun ix=>[(.int .i64 (.sym fun _=>((d.ls).getD ix.den.toNat l0T).a)),(.int .i64 (.sym fun _=>((d.ls).getD ix.den.toNat l0T).b)),(.int .i64 (.sym fun _=>((d.ls).getD ix.den.toNat l0T).lo)),(.int .i64 (.sym fun _=>((d.ls).getD ix.den.toNat l0T).hi))])),.clo 83 [] [.own 0 0]] [.cells [.clo 71 [] [.own 1 0]] 97,.cells [(.sl 1 (.sym fun _=>zi (t).length) (fun ix=>[.int .i64 (.sym fun _=>(t).getD ix.den.toNat 0)]))] 22] (fun r bs=>r=(.bool (.sym fun _=>decide (0≤fidx (fun i=>inB (d.ls.getD (i) l0T).lo (t.getD (d.ls.getD (i) l0T).b.toNat 0-t.getD (d.ls.getD (i) l0T).a.toNat 0) (d.ls.getD (i) l0T).hi) (d.ls.length) 0)))∧bs=[.cells [.clo 71 [] [.own 1 0]] 97,.cells [(.sl 1 (.sym fun _=>zi (t).length) (fun ix=>[.int .i64 (.sym fun _=>(t).getD ix.den.toNat 0)]))] 22]):=by
  have ci:=idx111_lk2 d t hd hl ht hfew
  refine FSpec.isB rfl fun R B hR hB=>qW (sc:=sc82) tyok mix Try.func82 rfl Try.call82 (by kernel_rfl) (by kernel_rfl) ?_
  generalize Try.prog=P at ci⊢
  cbv
  repeat' (first
      |with_reducible refine And.intro ?_ ?_
      | (refine⟨some [0,1],?_⟩
         cbv
         refine qQ ?_ (ci) (by cbv;(repeat' (first|exact qB|refine qD ?_ ?_|exact qE (by rfl)|exact qF (by rfl)|exact Fit.refl _|exact qA|refine qC ?_ rfl ?_))) (by cbv;(repeat' (first|exact qH|refine qI ?_ ?_|exact qK _|refine qJ ?_|exact qA|exact qE (by rfl)|exact qF (by rfl)|exact Fit.refl _|exact qG _|refine qC ?_ rfl ?_)))
         try cbv)
      |fail)
  all_goals first
    |(subst hR;(repeat' (first|exact qA|exact qB|refine qC ?_ rfl ?_|refine qD ?_ ?_|exact qE (by rfl)|exact qF (by rfl)|exact Fit.refl _|exact qG _|(refine qE ?_;(try simp only [qV]at *);simp only [zQ,zA,zB,zC,zD,zE,zF,zG,zH,zI,zJ,zK,zL,zM,zN,zO,zP,zR,zS]at *;omega)));done)
    |(subst hB;(repeat' (first|exact qH|refine qI ?_ ?_|exact qK _|refine qJ ?_|exact qA|exact qE (by rfl)|exact qF (by rfl)|exact Fit.refl _|exact qG _|refine qC ?_ rfl ?_));done)
    |skip
theorem all51_lk2 (d:Dsp)(t:List Int)(hd:DOk d)(hl:(t.length:Int)=d.sn)(ht:∀i,i<t.length→0≤t.getD i 0∧t.getD i 0≤2000)(hfew:d.ls.length≤1000):FSpec Try.prog 51 [(.sl 4 (.sym fun _=>zi (d.ls).length) (fun ix=>[(.int .i64 (.sym fun _=>((d.ls).getD ix.den.toNat l0T).a)),(.int .i64 (.sym fun _=>((d.ls).getD ix.den.toNat l0T).b)),(.int .i64 (.sym fun _=>((d.ls).getD ix.den.toNat l0T).lo)),(.int .i64 (.sym fun _=>((d.ls).getD ix.den.toNat l0T).hi))])),.clo 71 [] [.own 0 0]] [.cells [(.sl 1 (.sym fun _=>zi (t).length) (fun ix=>[.int .i64 (.sym fun _=>(t).getD ix.den.toNat 0)]))] 22] (fun r bs=>r=(.bool (.sym fun _=>allB (fun i=>inB (d.ls.getD (i) l0T).lo (t.getD (d.ls.getD (i) l0T).b.toNat 0-t.getD (d.ls.getD (i) l0T).a.toNat 0) (d.ls.getD (i) l0T).hi) (d.ls.length)))∧bs=[.cells [(.sl 1 (.sym fun _=>zi (t).length) (fun ix=>[.int .i64 (.sym fun _=>(t).getD ix.den.toNat 0)]))] 22]):=by
  have cc:=cont82_lk2 d t hd hl ht hfew
  refine FSpec.isB rfl fun R B hR hB=>qW (sc:=sc51) tyok mix Try.func51 rfl Try.call51 (by kernel_rfl) (by kernel_rfl) ?_
  generalize Try.prog=P at cc⊢
  cbv
  repeat' (first
      |with_reducible refine And.intro ?_ ?_
      | (refine⟨some [1,0],?_⟩
         cbv
         refine qQ ?_ (cc) (by cbv;(repeat' (first|exact qB|refine qD ?_ ?_|exact qE (by rfl)|exact qF (by rfl)|exact Fit.refl _|exact qA|refine qC ?_ rfl ?_))) (by cbv;(repeat' (first|exact qH|refine qI ?_ ?_|exact qK _|refine qJ ?_|exact qA|exact qE (by rfl)|exact qF (by rfl)|exact Fit.refl _|exact qG _|refine qC ?_ rfl ?_)))
         try cbv)
      |fail)
  all_goals first
    |(subst hR;(repeat' (first|exact qA|exact qB|refine qC ?_ rfl ?_|refine qD ?_ ?_|exact qE (by rfl)|exact qF (by rfl)|exact Fit.refl _|exact qG _|(refine qE ?_;(try simp only [qV]at *);simp only [zQ,zA,zB,zC,zD,zE,zF,zG,zH,zI,zJ,zK,zL,zM,zN,zO,zP,zR,zS]at *;omega)));done)
    |(subst hB;(repeat' (first|exact qH|refine qI ?_ ?_|exact qK _|refine qJ ?_|exact qA|exact qE (by rfl)|exact qF (by rfl)|exact Fit.refl _|exact qG _|refine qC ?_ rfl ?_));done)
    |skip
theorem lam85_ft2 (d:Dsp)(t:List Int)(hd:DOk d)(hl:(t.length:Int)=d.sn)(ht:∀i,i<t.length→0≤t.getD i 0∧t.getD i 0≤2000)(hfew:d.fs.length≤1000)(i:Nat)(hi:i<d.fs.length∧∀j,j<i→(inB (mLo d (d.fs.getD (j) f0T)) (t.getD (d.fs.getD (j) f0T).s.toNat 0) (mHi d (d.fs.getD (j) f0T)))=true):FSpec Try.prog 85 [(.agg [(.int .i64 (.sym fun _=>(d.fs.getD (i) f0T).p)),(.int .i64 (.sym fun _=>(d.fs.getD (i) f0T).s)),(.int .i64 (.sym fun _=>(d.fs.getD (i) f0T).wl)),(.int .i64 (.sym fun _=>(d.fs.getD (i) f0T).wh)),(.int .i64 (.sym fun _=>(d.fs.getD (i) f0T).ml)),(.int .i64 (.sym fun _=>(d.fs.getD (i) f0T).mh))]),.own 0 0] [.cells [.clo 72 [] [.own 1 0,.own 2 0]] 98,.cells [(wpS d)] 91,.cells [(.sl 1 (.sym fun _=>zi (t).length) (fun ix=>[.int .i64 (.sym fun _=>(t).getD ix.den.toNat 0)]))] 22] (fun r bs=>r=(.bool (.sym fun _=> !(inB (mLo d (d.fs.getD (i) f0T)) (t.getD (d.fs.getD (i) f0T).s.toNat 0) (mHi d (d.fs.getD (i) f0T)))))∧bs=[.cells [.clo 72 [] [.own 1 0,.own 2 0]] 98,.cells [(wpS d)] 91,.cells [(.sl 1 (.sym fun _=>zi (t).length) (fun ix=>[.int .i64 (.sym fun _=>(t).getD ix.den.toNat 0)]))] 22]):=by
  have cf:=lam72 d t i hd hl ht hi.1
  refine FSpec.isB rfl fun R B hR hB=>qW (sc:=sc85) tyok mix Try.func85 rfl Try.call85 (by kernel_rfl) (by kernel_rfl) ?_
  generalize Try.prog=P at cf⊢
  cbv
  repeat' (first
      |with_reducible refine And.intro ?_ ?_
      | (refine⟨some [1,2],?_⟩
         cbv
         refine qQ ?_ (cf) (by cbv;(repeat' (first|exact qB|refine qD ?_ ?_|exact qE (by rfl)|exact qF (by rfl)|exact Fit.refl _|exact qA|refine qC ?_ rfl ?_))) (by cbv;(repeat' (first|exact qH|refine qI ?_ ?_|exact qK _|refine qJ ?_|exact qA|exact qE (by rfl)|exact qF (by rfl)|exact Fit.refl _|exact qG _|refine qC ?_ rfl ?_)))
         try cbv)
      |fail)
  all_goals first
    |(subst hR;(repeat' (first|exact qA|exact qB|refine qC ?_ rfl ?_|refine qD ?_ ?_|exact qE (by rfl)|exact qF (by rfl)|exact Fit.refl _|exact qG _|(refine qE ?_;(try simp only [qV]at *);simp only [zQ,zA,zB,zC,zD,zE,zF,zG,zH,zI,zJ,zK,zL,zM,zN,zO,zP,zR,zS]at *;omega)));done)
    |(subst hB;(repeat' (first|exact qH|refine qI ?_ ?_|exact qK _|refine qJ ?_|exact qA|exact qE (by rfl)|exact qF (by rfl)|exact Fit.refl _|exact qG _|refine qC ?_ rfl ?_));done)
    |skip
theorem idx112_ft2 (d:Dsp)(t:List Int)(hd:DOk d)(hl:(t.length:Int)=d.sn)(ht:∀i,i<t.length→0≤t.getD i 0∧t.getD i 0≤2000)(hfew:d.fs.length≤1000):FSpec Try.prog 112 [(.sl 6 (.sym fun _=>zi (d.fs).length) (fun ix=>[(.int .i64 (.sym fun _=>((d.fs).getD ix.den.toNat f0T).p)),(.int .i64 (.sym fun _=>((d.fs).getD ix.den.toNat f0T).s)),(.int .i64 (.sym fun _=>((d.fs).getD ix.den.toNat f0T).wl)),(.int .i64 (.sym fun _=>((d.fs).getD ix.den.toNat f0T).wh)),(.int .i64 (.sym fun _=>((d.fs).getD ix.den.toNat f0T).ml)),(.int .i64 (.sym fun _=>((d.fs).getD ix.den.toNat f0T).mh))])),.clo 85 [] [.own 0 0]] [.cells [.clo 72 [] [.own 1 0,.own 2 0]] 98,.cells [(wpS d)] 91,.cells [(.sl 1 (.sym fun _=>zi (t).length) (fun ix=>[.int .i64 (.sym fun _=>(t).getD ix.den.toNat 0)]))] 22] (fun r bs=>r=(.int .i64 (.sym fun _=>fidx (fun i=>inB (mLo d (d.fs.getD (i) f0T)) (t.getD (d.fs.getD (i) f0T).s.toNat 0) (mHi d (d.fs.getD (i) f0T))) (d.fs.length) 0))∧bs=[.cells [.clo 72 [] [.own 1 0,.own 2 0]] 98,.cells [(wpS d)] 91,.cells [(.sl 1 (.sym fun _=>zi (t).length) (fun ix=>[.int .i64 (.sym fun _=>(t).getD ix.den.toNat 0)]))] 22]):=by
  have cl:=lam85_ft2 d t hd hl ht hfew
  refine FSpec.isB rfl fun R B hR hB=>qW (sc:=sc112) tyok mix Try.func112 rfl Try.call112 (by kernel_rfl) (by kernel_rfl) ?_
  generalize Try.prog=P at cl⊢
  cbv
  repeat' (first
      |fail)
  all_goals first
    |skip
  refine⟨none,[],{i:Nat // i≤d.fs.length∧fidx (fun i=>inB (mLo d (d.fs.getD (i) f0T)) (t.getD (d.fs.getD (i) f0T).s.toNat 0) (mHi d (d.fs.getD (i) f0T))) (d.fs.length) 0=fidx (fun i=>inB (mLo d (d.fs.getD (i) f0T)) (t.getD (d.fs.getD (i) f0T).s.toNat 0) (mHi d (d.fs.getD (i) f0T))) (d.fs.length-i) i∧∀j,j<i→(inB (mLo d (d.fs.getD (j) f0T)) (t.getD (d.fs.getD (j) f0T).s.toNat 0) (mHi d (d.fs.getD (j) f0T)))=true},fun x=>⟨[(0,(.sl 6 (.sym fun _=>zi (d.fs).length) (fun ix=>[(.int .i64 (.sym fun _=>((d.fs).getD ix.den.toNat f0T).p)),(.int .i64 (.sym fun _=>((d.fs).getD ix.den.toNat f0T).s)),(.int .i64 (.sym fun _=>((d.fs).getD ix.den.toNat f0T).wl)),(.int .i64 (.sym fun _=>((d.fs).getD ix.den.toNat f0T).wh)),(.int .i64 (.sym fun _=>((d.fs).getD ix.den.toNat f0T).ml)),(.int .i64 (.sym fun _=>((d.fs).getD ix.den.toNat f0T).mh))]))),(1,.clo 85 [] [.own 0 0]),(7,(.int .i64 (.sym fun _=>zi (d.fs.length)))),(8,(.int .i64 (.sym fun _=>zi x.1)))],[(0,.cells [.clo 72 [] [.own 1 0,.own 2 0]] 98),(1,.cells [(wpS d)] 91),(2,.cells [(.sl 1 (.sym fun _=>zi (t).length) (fun ix=>[.int .i64 (.sym fun _=>(t).getD ix.den.toNat 0)]))] 22)],20⟩,fun x=>d.fs.length-x.1,?_,?_⟩
  · refine⟨⟨0,by omega,rfl,fun j hj=>by omega⟩,?_⟩
    cbv
    repeat' (first
      |with_reducible refine hold ?_ ?_
      |with_reducible refine And.intro ?_ ?_)
    all_goals first
      |trivial
      |exact qM (qE (by rfl))
      |exact qM (Fit.refl _)
      |exact qL (qK _)
      |skip
  · rintro ⟨i,hi,hr,hq⟩
    cbv
    repeat' (first
        |with_reducible refine hold ?_ ?_
        |with_reducible refine And.intro ?_ ?_
        |(with_reducible intro hcd;(try simp only [zA,zB,zC,zD,zE,zF,zG,zH,zI,zJ,zK,zL,zM,zN,zO,zP]at hcd);try cbv)
        | (refine⟨some [0,1,2],?_⟩
           cbv
           refine qQ ?_ (cl i ⟨by(try simp only [qV]at *);simp only [zi_den]at *;omega,hq⟩) (by cbv;(repeat' (first|exact qB|refine qD ?_ ?_|exact qE (by rfl)|exact qF (by rfl)|exact Fit.refl _|exact qA|refine qC ?_ rfl ?_))) (by cbv;(repeat' (first|exact qH|refine qI ?_ ?_|exact qK _|refine qJ ?_|exact qA|exact qE (by rfl)|exact qF (by rfl)|exact Fit.refl _|exact qG _|refine qC ?_ rfl ?_)))
           try cbv)
        |fail)
    all_goals first
      |((try simp only [qV]at *);(try simp only [zQ,zA,zB,zC,zD,zE,zF,zG,zH,zI,zJ,zK,zL,zM,zN,zO,zP,zR,zS]at *);first|(refine qN ?_;omega)|(simp only [Hold];omega))
      |(subst hR;(refine qE ?_;simp only [zQ,zA,zB,zC,zD,zE,zF,zG,zH,zI,zJ,zK,zL,zM,zN,zO,zP,zR,zS]at *;rw [hr,fidx_stop (by omega) hcd]);done)
      |(subst hR;(refine qE ?_;simp only [zQ,zA,zB,zC,zD,zE,zF,zG,zH,zI,zJ,zK,zL,zM,zN,zO,zP,zR,zS]at *;rw [hr,show d.fs.length-i=0 by omega];rfl);done)
      |(subst hB;(repeat' (first|exact qH|refine qI ?_ ?_|exact qK _|refine qJ ?_|exact qA|exact qE (by rfl)|exact qF (by rfl)|exact Fit.refl _|exact qG _|refine qC ?_ rfl ?_));done)
      |((try simp only [zQ,zA,zB,zC,zD,zE,zF,zG,zH,zI,zJ,zK,zL,zM,zN,zO,zP,zR,zS]at *);refine⟨⟨i+1,by omega,by rw [hr,fidx_go (by omega) hcd];(try congr 1)<;>omega,fun j hj=>(Nat.lt_or_ge j i).elim (hq j) (fun q=>by rw [show j=i by omega];exact hcd)⟩,by simp only [];omega,?_⟩;cbv;(repeat' (first|with_reducible refine hold ?_ ?_|with_reducible refine And.intro ?_ ?_));(all_goals first|trivial|exact qM (qE (by rfl))|exact qM (qF (by rfl))|exact qM (Fit.refl _)|exact qL (qK _)|(refine qM (qE ?_);(try simp only [qV]at *);simp only [zQ,zA,zB,zC,zD,zE,zF,zG,zH,zI,zJ,zK,zL,zM,zN,zO,zP,zR,zS]at *;omega)|(refine qL (qJ ?_);(repeat' (first|exact qA|exact qB|refine qC ?_ rfl ?_|refine qD ?_ ?_|exact qE (by rfl)|exact qF (by rfl)|exact Fit.refl _|exact qG _|(refine qE ?_;(try simp only [qV]at *);simp only [zQ,zA,zB,zC,zD,zE,zF,zG,zH,zI,zJ,zK,zL,zM,zN,zO,zP,zR,zS]at *;omega)));done)|skip))
      |skip
theorem cont84_ft2 (d:Dsp)(t:List Int)(hd:DOk d)(hl:(t.length:Int)=d.sn)(ht:∀i,i<t.length→0≤t.getD i 0∧t.getD i 0≤2000)(hfew:d.fs.length≤1000):FSpec Try.prog 84 [(.sl 6 (.sym fun _=>zi (d.fs).length) (fun ix=>[(.int .i64 (.sym fun _=>((d.fs).getD ix.den.toNat f0T).p)),(.int .i64 (.sym fun _=>((d.fs).getD ix.den.toNat f0T).s)),(.int .i64 (.sym fun _=>((d.fs).getD ix.den.toNat f0T).wl)),(.int .i64 (.sym fun _=>((d.fs).getD ix.den.toNat f0T).wh)),(.int .i64 (.sym fun _=>((d.fs).getD ix.den.toNat f0T).ml)),(.int .i64 (.sym fun _=>((d.fs).getD ix.den.toNat f0T).mh))])),.clo 85 [] [.own 0 0]] [.cells [.clo 72 [] [.own 1 0,.own 2 0]] 98,.cells [(wpS d)] 91,.cells [(.sl 1 (.sym fun _=>zi (t).length) (fun ix=>[.int .i64 (.sym fun _=>(t).getD ix.den.toNat 0)]))] 22] (fun r bs=>r=(.bool (.sym fun _=>decide (0≤fidx (fun i=>inB (mLo d (d.fs.getD (i) f0T)) (t.getD (d.fs.getD (i) f0T).s.toNat 0) (mHi d (d.fs.getD (i) f0T))) (d.fs.length) 0)))∧bs=[.cells [.clo 72 [] [.own 1 0,.own 2 0]] 98,.cells [(wpS d)] 91,.cells [(.sl 1 (.sym fun _=>zi (t).length) (fun ix=>[.int .i64 (.sym fun _=>(t).getD ix.den.toNat 0)]))] 22]):=by
  have ci:=idx112_ft2 d t hd hl ht hfew
  refine FSpec.isB rfl fun R B hR hB=>qW (sc:=sc84) tyok mix Try.func84 rfl Try.call84 (by kernel_rfl) (by kernel_rfl) ?_
  generalize Try.prog=P at ci⊢
  cbv
  repeat' (first
      |with_reducible refine And.intro ?_ ?_
      | (refine⟨some [0,1,2],?_⟩
         cbv
         refine qQ ?_ (ci) (by cbv;(repeat' (first|exact qB|refine qD ?_ ?_|exact qE (by rfl)|exact qF (by rfl)|exact Fit.refl _|exact qA|refine qC ?_ rfl ?_))) (by cbv;(repeat' (first|exact qH|refine qI ?_ ?_|exact qK _|refine qJ ?_|exact qA|exact qE (by rfl)|exact qF (by rfl)|exact Fit.refl _|exact qG _|refine qC ?_ rfl ?_)))
         try cbv)
      |fail)
  all_goals first
    |(subst hR;(repeat' (first|exact qA|exact qB|refine qC ?_ rfl ?_|refine qD ?_ ?_|exact qE (by rfl)|exact qF (by rfl)|exact Fit.refl _|exact qG _|(refine qE ?_;(try simp only [qV]at *);simp only [zQ,zA,zB,zC,zD,zE,zF,zG,zH,zI,zJ,zK,zL,zM,zN,zO,zP,zR,zS]at *;omega)));done)
    |(subst hB;(repeat' (first|exact qH|refine qI ?_ ?_|exact qK _|refine qJ ?_|exact qA|exact qE (by rfl)|exact qF (by rfl)|exact Fit.refl _|exact qG _|refine qC ?_ rfl ?_));done)
    |skip
theorem all52_ft2 (d:Dsp)(t:List Int)(hd:DOk d)(hl:(t.length:Int)=d.sn)(ht:∀i,i<t.length→0≤t.getD i 0∧t.getD i 0≤2000)(hfew:d.fs.length≤1000):FSpec Try.prog 52 [(.sl 6 (.sym fun _=>zi (d.fs).length) (fun ix=>[(.int .i64 (.sym fun _=>((d.fs).getD ix.den.toNat f0T).p)),(.int .i64 (.sym fun _=>((d.fs).getD ix.den.toNat f0T).s)),(.int .i64 (.sym fun _=>((d.fs).getD ix.den.toNat f0T).wl)),(.int .i64 (.sym fun _=>((d.fs).getD ix.den.toNat f0T).wh)),(.int .i64 (.sym fun _=>((d.fs).getD ix.den.toNat f0T).ml)),(.int .i64 (.sym fun _=>((d.fs).getD ix.den.toNat f0T).mh))])),.clo 72 [] [.own 0 0,.own 1 0]] [.cells [(wpS d)] 91,.cells [(.sl 1 (.sym fun _=>zi (t).length) (fun ix=>[.int .i64 (.sym fun _=>(t).getD ix.den.toNat 0)]))] 22] (fun r bs=>r=(.bool (.sym fun _=>allB (fun i=>inB (mLo d (d.fs.getD (i) f0T)) (t.getD (d.fs.getD (i) f0T).s.toNat 0) (mHi d (d.fs.getD (i) f0T))) (d.fs.length)))∧bs=[.cells [(wpS d)] 91,.cells [(.sl 1 (.sym fun _=>zi (t).length) (fun ix=>[.int .i64 (.sym fun _=>(t).getD ix.den.toNat 0)]))] 22]):=by
  have cc:=cont84_ft2 d t hd hl ht hfew
  refine FSpec.isB rfl fun R B hR hB=>qW (sc:=sc52) tyok mix Try.func52 rfl Try.call52 (by kernel_rfl) (by kernel_rfl) ?_
  generalize Try.prog=P at cc⊢
  cbv
  repeat' (first
      |with_reducible refine And.intro ?_ ?_
      | (refine⟨some [2,0,1],?_⟩
         cbv
         refine qQ ?_ (cc) (by cbv;(repeat' (first|exact qB|refine qD ?_ ?_|exact qE (by rfl)|exact qF (by rfl)|exact Fit.refl _|exact qA|refine qC ?_ rfl ?_))) (by cbv;(repeat' (first|exact qH|refine qI ?_ ?_|exact qK _|refine qJ ?_|exact qA|exact qE (by rfl)|exact qF (by rfl)|exact Fit.refl _|exact qG _|refine qC ?_ rfl ?_)))
         try cbv)
      |fail)
  all_goals first
    |(subst hR;(repeat' (first|exact qA|exact qB|refine qC ?_ rfl ?_|refine qD ?_ ?_|exact qE (by rfl)|exact qF (by rfl)|exact Fit.refl _|exact qG _|(refine qE ?_;(try simp only [qV]at *);simp only [zQ,zA,zB,zC,zD,zE,zF,zG,zH,zI,zJ,zK,zL,zM,zN,zO,zP,zR,zS]at *;omega)));done)
    |(subst hB;(repeat' (first|exact qH|refine qI ?_ ?_|exact qK _|refine qJ ?_|exact qA|exact qE (by rfl)|exact qF (by rfl)|exact Fit.refl _|exact qG _|refine qC ?_ rfl ?_));done)
    |skip
def inT (t:List Int):Bool:=allB (fun i=>inB 0 (t.getD i 0) 2000) t.length
def lkT (d:Dsp)(t:List Int):Bool:=allB (fun i=>inB (d.ls.getD (i) l0T).lo (t.getD (d.ls.getD (i) l0T).b.toNat 0-t.getD (d.ls.getD (i) l0T).a.toNat 0) (d.ls.getD (i) l0T).hi) d.ls.length
def ftT (d:Dsp)(t:List Int):Bool:=allB (fun i=>inB (mLo d (d.fs.getD (i) f0T)) (t.getD (d.fs.getD (i) f0T).s.toNat 0) (mHi d (d.fs.getD (i) f0T))) d.fs.length
def prvB (d:Dsp)(t:List Int):Bool:=decide (faultD d=0∧(t.length:Int)=d.sn)&&(inT t&&(lkT d t&&ftT d t))
theorem prv_1 {d:Dsp} {t:List Int}(h:¬(faultD d=0∧(t.length:Int)=d.sn)):prvB d t=false:=by unfold prvB;rw [decide_eq_false h];rfl
theorem prv_2 {d:Dsp} {t:List Int}(h:inT t=false):prvB d t=false:=by unfold prvB;rw [h];simp
theorem prv_3 {d:Dsp} {t:List Int}(h:lkT d t=false):prvB d t=false:=by unfold prvB;rw [h];simp
theorem prv_4 {d:Dsp} {t:List Int}(h:faultD d=0∧(t.length:Int)=d.sn)(h2:inT t=true)(h3:lkT d t=true):prvB d t=ftT d t:=by unfold prvB;rw [decide_eq_true h,h2,h3];rfl
theorem inT_at {t:List Int}(h:inT t=true):∀i,i<t.length→0≤t.getD i 0∧t.getD i 0≤2000:=fun i hi=>by
  unfold inT at h
  rw [allB_t]at h
  have:=h i hi
  rwa [inB_t]at this
theorem prove41 (d:Dsp)(t:List Int)(hn:t.length≤1000):FSpec Try.prog 41 [(dspS d),(.sl 1 (.sym fun _=>zi (t).length) (fun ix=>[.int .i64 (.sym fun _=>(t).getD ix.den.toNat 0)]))] [] (fun r _=>r=(.bool (.sym fun _=>prvB d t))):=by
  have c16:=check16 d
  have c44:=work44 d
  have c69:=(show FSpec Try.prog 69 [(.sl 1 (.sym fun _=>zi (t).length) (fun ix=>[.int .i64 (.sym fun _=>(t).getD ix.den.toNat 0)])),.clo 70 [(.agg [(.int .i64 (.lit 0)),(.int .i64 (.lit 2000))])] []] [] (fun r _=>r=(.bool (.sym fun _=>inT t)))from all69_truth t hn)
  have c51:=fun h:faultD d=0∧(t.length:Int)=d.sn∧inT t=true=>(show FSpec Try.prog 51 [(.sl 4 (.sym fun _=>zi (d.ls).length) (fun ix=>[(.int .i64 (.sym fun _=>((d.ls).getD ix.den.toNat l0T).a)),(.int .i64 (.sym fun _=>((d.ls).getD ix.den.toNat l0T).b)),(.int .i64 (.sym fun _=>((d.ls).getD ix.den.toNat l0T).lo)),(.int .i64 (.sym fun _=>((d.ls).getD ix.den.toNat l0T).hi))])),.clo 71 [] [.own 0 0]] [.cells [(.sl 1 (.sym fun _=>zi (t).length) (fun ix=>[.int .i64 (.sym fun _=>(t).getD ix.den.toNat 0)]))] 22] (fun r bs=>r=(.bool (.sym fun _=>lkT d t))∧bs=[.cells [(.sl 1 (.sym fun _=>zi (t).length) (fun ix=>[.int .i64 (.sym fun _=>(t).getD ix.den.toNat 0)]))] 22])from all51_lk2 d t (faultD_iff.1 h.1) h.2.1 (inT_at h.2.2) (by have:=(faultD_iff.1 h.1).l4;omega))
  have c52:=fun h:faultD d=0∧(t.length:Int)=d.sn∧inT t=true=>(show FSpec Try.prog 52 [(.sl 6 (.sym fun _=>zi (d.fs).length) (fun ix=>[(.int .i64 (.sym fun _=>((d.fs).getD ix.den.toNat f0T).p)),(.int .i64 (.sym fun _=>((d.fs).getD ix.den.toNat f0T).s)),(.int .i64 (.sym fun _=>((d.fs).getD ix.den.toNat f0T).wl)),(.int .i64 (.sym fun _=>((d.fs).getD ix.den.toNat f0T).wh)),(.int .i64 (.sym fun _=>((d.fs).getD ix.den.toNat f0T).ml)),(.int .i64 (.sym fun _=>((d.fs).getD ix.den.toNat f0T).mh))])),.clo 72 [] [.own 0 0,.own 1 0]] [.cells [(wpS d)] 91,.cells [(.sl 1 (.sym fun _=>zi (t).length) (fun ix=>[.int .i64 (.sym fun _=>(t).getD ix.den.toNat 0)]))] 22] (fun r bs=>r=(.bool (.sym fun _=>ftT d t))∧bs=[.cells [(wpS d)] 91,.cells [(.sl 1 (.sym fun _=>zi (t).length) (fun ix=>[.int .i64 (.sym fun _=>(t).getD ix.den.toNat 0)]))] 22])from all52_ft2 d t (faultD_iff.1 h.1) h.2.1 (inT_at h.2.2) (by have:=(faultD_iff.1 h.1).f6;omega))
  refine FSpec.is fun R hR=>qW (sc:=sc41) tyok mix Try.func41 rfl Try.call41 (by kernel_rfl) (by kernel_rfl) ?_
  generalize Try.prog=P at c16 c44 c69 c51 c52⊢
  cbv
  repeat' (first
      |with_reducible refine And.intro ?_ ?_
      |(with_reducible intro hcd;(try simp only [zA,zB,zC,zD,zE,zF,zG,zH,zI,zJ,zK,zL,zM,zN,zO,zP]at hcd);try cbv)
      | (refine qP ?_ (c16) ?hfit
         case hfit=>((repeat' (first|exact qB|refine qD ?_ ?_|exact qE (by rfl)|exact qF (by rfl)|exact Fit.refl _|exact qA|refine qC ?_ rfl ?_));done)
         try cbv)
      | (refine qP ?_ (c44) ?hfit
         case hfit=>((repeat' (first|exact qB|refine qD ?_ ?_|exact qE (by rfl)|exact qF (by rfl)|exact Fit.refl _|exact qA|refine qC ?_ rfl ?_));done)
         try cbv)
      | (refine qP ?_ (c69) ?hfit
         case hfit=>((repeat' (first|exact qB|refine qD ?_ ?_|exact qE (by rfl)|exact qF (by rfl)|exact Fit.refl _|exact qA|refine qC ?_ rfl ?_));done)
         try cbv)
      | (refine⟨some [1],?_⟩
         cbv
         refine qQ ?_ (c51 (show Hold _ from ?_)) (by cbv;(repeat' (first|exact qB|refine qD ?_ ?_|exact qE (by rfl)|exact qF (by rfl)|exact Fit.refl _|exact qA|refine qC ?_ rfl ?_))) (by cbv;(repeat' (first|exact qH|refine qI ?_ ?_|exact qK _|refine qJ ?_|exact qA|exact qE (by rfl)|exact qF (by rfl)|exact Fit.refl _|exact qG _|refine qC ?_ rfl ?_)))
         try cbv)
      | (refine⟨some [22,1],?_⟩
         cbv
         refine qQ ?_ (c52 (show Hold _ from ?_)) (by cbv;(repeat' (first|exact qB|refine qD ?_ ?_|exact qE (by rfl)|exact qF (by rfl)|exact Fit.refl _|exact qA|refine qC ?_ rfl ?_))) (by cbv;(repeat' (first|exact qH|refine qI ?_ ?_|exact qK _|refine qJ ?_|exact qA|exact qE (by rfl)|exact qF (by rfl)|exact Fit.refl _|exact qG _|refine qC ?_ rfl ?_)))
         try cbv)
      |fail)
  all_goals first
    |trivial
    |(subst hR;(refine qF ?_;(try simp only [qV]at *);(try simp only [zQ,zA,zB,zC,zD,zE,zF,zG,zH,zI,zJ,zK,zL,zM,zN,zO,zP,zR,zS]at *);first|exact(prv_1 (by omega)).symm|exact(prv_2 (by assumption)).symm|exact(prv_3 (by assumption)).symm|exact(prv_4 ⟨by omega,by omega⟩ (by assumption) (by assumption)).symm);done)
    |skip
end Go.Proofs.Ytkdggbfknlcdaaa
