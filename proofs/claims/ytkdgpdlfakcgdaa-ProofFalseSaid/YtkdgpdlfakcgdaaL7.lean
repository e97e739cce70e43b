/- ProofFalse: what the law computes. No condition. -/
import Derived.Test.YtkdgpdlfakcgdaaT7
set_option linter.unusedVariables false
set_option linter.unusedSimpArgs false
set_option linter.deprecated false
set_option linter.all false

namespace Go.Proofs.Ytkdgpdlfakcgdaa
open Go Go.Eng Go.Proofs
set_option maxRecDepth 10000
theorem false38ed (tw tm:List Int)(tv:List (List Int))(rate:Int)(cs:List Csk)(ds:List Dcl)(hf0:faultS tw tm tv rate cs≠0):FSpec Try.prog 38 [(stoS tw tm tv rate cs),(.sl 2 (.sym fun _=>zi ds.length) (fun ix=>[(.int .i64 (.sym fun _=>(ds.getD ix.den.toNat dc0).c)),(.int .i64 (.sym fun _=>(ds.getD ix.den.toNat dc0).t))]))] [] (fun r _=>r=(.tup [(.val (.slice none 0 0)),(.int .i64 (.sym fun _=>faultS tw tm tv rate cs))])):=by
  have h:=false38e tw tm tv rate cs (ds.map prD) hf0
  simp only [prD_get,List.length_map]at h
  exact h
theorem false38rd (tw tm:List Int)(tv:List (List Int))(rate:Int)(cs:List Csk)(ds:List Dcl)(hS:SOk tw tm tv rate cs)(hl:ds.length≤1000)(hd:decB cs.length (ds.map prD)=false):FSpec Try.prog 38 [(stoS tw tm tv rate cs),(.sl 2 (.sym fun _=>zi ds.length) (fun ix=>[(.int .i64 (.sym fun _=>(ds.getD ix.den.toNat dc0).c)),(.int .i64 (.sym fun _=>(ds.getD ix.den.toNat dc0).t))]))] [] (fun r _=>r=(.tup [(.val (.slice none 0 0)),(.int .i64 (.sym fun _=>2))])):=by
  have h:=false38r tw tm tv rate cs (ds.map prD) hS (by simpa using hl) hd
  simp only [prD_get,List.length_map]at h
  exact h
theorem false38d (tw tm:List Int)(tv:List (List Int))(rate:Int)(cs:List Csk)(ds:List Dcl)(hS:SOk tw tm tv rate cs)(hl:ds.length≤1000)(hd:decB cs.length (ds.map prD)=true):FSpec Try.prog 38 [(stoS tw tm tv rate cs),(.sl 2 (.sym fun _=>zi ds.length) (fun ix=>[(.int .i64 (.sym fun _=>(ds.getD ix.den.toNat dc0).c)),(.int .i64 (.sym fun _=>(ds.getD ix.den.toNat dc0).t))]))] [] (fun r _=>r=(.tup [(.sl 1 (.sym fun _=>zi (falL (truB cs (loA tw tm tv cs cs.length) (hiA tw tm tv cs cs.length)) (ds.map prD) ds.length).length) (fun ix=>[.int .i64 (.sym fun _=>(falL (truB cs (loA tw tm tv cs cs.length) (hiA tw tm tv cs cs.length)) (ds.map prD) ds.length).getD ix.den.toNat 0)])),(.int .i64 (.sym fun _=>0))])):=by
  have h:=false38 tw tm tv rate cs (ds.map prD) hS (by simpa using hl) hd
  simp only [prD_get,List.length_map]at h
  rw [fal_known hd]at h
  exact h
theorem law7t (tw tm:List Int)(tv:List (List Int))(rate:Int)(cs:List Csk)(ds:List Dcl)(ht:thinS tw tm tv cs=false):FSpec Try.prog 7 [(stoS tw tm tv rate cs),(.sl 2 (.sym fun _=>zi ds.length) (fun ix=>[(.int .i64 (.sym fun _=>(ds.getD ix.den.toNat dc0).c)),(.int .i64 (.sym fun _=>(ds.getD ix.den.toNat dc0).t))]))] [] (fun r _=>r=(.bool (.lit true))):=by
  have c18:=thin18 tw tm tv rate cs
  have c21:=awake21
  refine FSpec.is fun R hR=>qW (sc:=sc7) tyok mix Try.func7 rfl Try.call7 (by kernel_rfl) (by kernel_rfl) ?_
  generalize Try.prog=P at c18 c21⊢
  cbv
  repeat' (first
      |with_reducible refine hold ?_ ?_
      |with_reducible refine And.intro ?_ ?_
      | (with_reducible refine qS ?_ ?_ ?_
         try cbv)
      | (with_reducible refine qT ?_ ?_
         try cbv)
      |(with_reducible intro hcd;(try simp only [zA,zB,zC,zD,zE,zF,zG,zH,zI,zJ,zK,zL,zM,zN,zO,zP]at hcd);try cbv)
      | (refine qP ?_ (c18) ?hfit
         case hfit=>((repeat' (first|exact qB|refine qD ?_ ?_|exact qE (by rfl)|exact qF (by rfl)|exact Fit.refl _|exact qA|refine qC ?_ rfl ?_));done)
         try cbv)
      | (refine qP ?_ (c21) ?hfit
         case hfit=>((repeat' (first|exact qB|refine qD ?_ ?_|exact qE (by rfl)|exact qF (by rfl)|exact Fit.refl _|exact qA|refine qC ?_ rfl ?_));done)
         try cbv)
      |fail)
  all_goals first
    |trivial
    |((try simp only [qV]at *);(try simp only [zQ,zA,zB,zC,zD,zE,zF,zG,zH,zI,zJ,zK,zL,zM,zN,zO,zP,zR,zS]at *);first|(refine qN ?_;omega)|(simp only [Hold];omega))
    |(subst hR;(repeat' (first|exact qA|exact qB|refine qC ?_ rfl ?_|refine qD ?_ ?_|exact qE (by rfl)|exact qF (by rfl)|exact Fit.refl _|exact qG _|(refine qE ?_;(try simp only [qV]at *);simp only [zQ,zA,zB,zC,zD,zE,zF,zG,zH,zI,zJ,zK,zL,zM,zN,zO,zP,zR,zS]at *;omega)));done)
    |(exact Bool.noConfusion (ht.symm.trans (by assumption:thinS tw tm tv cs=true)))
    |(simp only [Hold];decide)
    |skip
theorem law7l (tw tm:List Int)(tv:List (List Int))(rate:Int)(cs:List Csk)(ds:List Dcl)(ht:thinS tw tm tv cs=true)(hl9:9<ds.length):FSpec Try.prog 7 [(stoS tw tm tv rate cs),(.sl 2 (.sym fun _=>zi ds.length) (fun ix=>[(.int .i64 (.sym fun _=>(ds.getD ix.den.toNat dc0).c)),(.int .i64 (.sym fun _=>(ds.getD ix.den.toNat dc0).t))]))] [] (fun r _=>r=(.bool (.lit true))):=by
  have c18:=thin18 tw tm tv rate cs
  have c21:=awake21
  refine FSpec.is fun R hR=>qW (sc:=sc7) tyok mix Try.func7 rfl Try.call7 (by kernel_rfl) (by kernel_rfl) ?_
  generalize Try.prog=P at c18 c21⊢
  cbv
  repeat' (first
      |with_reducible refine hold ?_ ?_
      |with_reducible refine And.intro ?_ ?_
      | (with_reducible refine qS ?_ ?_ ?_
         try cbv)
      | (with_reducible refine qT ?_ ?_
         try cbv)
      |(with_reducible intro hcd;(try simp only [zA,zB,zC,zD,zE,zF,zG,zH,zI,zJ,zK,zL,zM,zN,zO,zP]at hcd);try cbv)
      | (refine qP ?_ (c18) ?hfit
         case hfit=>((repeat' (first|exact qB|refine qD ?_ ?_|exact qE (by rfl)|exact qF (by rfl)|exact Fit.refl _|exact qA|refine qC ?_ rfl ?_));done)
         try cbv)
      | (refine qP ?_ (c21) ?hfit
         case hfit=>((repeat' (first|exact qB|refine qD ?_ ?_|exact qE (by rfl)|exact qF (by rfl)|exact Fit.refl _|exact qA|refine qC ?_ rfl ?_));done)
         try cbv)
      |fail)
  all_goals first
    |trivial
    |((try simp only [qV]at *);(try simp only [zQ,zA,zB,zC,zD,zE,zF,zG,zH,zI,zJ,zK,zL,zM,zN,zO,zP,zR,zS]at *);first|(refine qN ?_;omega)|(simp only [Hold];omega))
    |(subst hR;(repeat' (first|exact qA|exact qB|refine qC ?_ rfl ?_|refine qD ?_ ?_|exact qE (by rfl)|exact qF (by rfl)|exact Fit.refl _|exact qG _|(refine qE ?_;(try simp only [qV]at *);simp only [zQ,zA,zB,zC,zD,zE,zF,zG,zH,zI,zJ,zK,zL,zM,zN,zO,zP,zR,zS]at *;omega)));done)
    |(exact Bool.noConfusion (ht.symm.trans (by assumption:thinS tw tm tv cs=false)))
    |(exfalso;(try simp only [qV]at *);(try simp only [zQ,zA,zB,zC,zD,zE,zF,zG,zH,zI,zJ,zK,zL,zM,zN,zO,zP,zR,zS]at *);omega)
    |(simp only [Hold];decide)
    |skip
theorem dec_in {n:Nat} {ds:List Dcl}(hd:decB n (ds.map prD)=true)(i:Nat)(hi:i<ds.length):0≤(ds.getD i dc0).c∧(ds.getD i dc0).c≤(n:Int)-1:=by
  have:=dec_iff.1 hd i (by simpa using hi)
  rwa [prD_get]at this
theorem dec_out {n:Nat} {ds:List Dcl}(hd:decB n (ds.map prD)=false)(h:∀i,i<ds.length→0≤(ds.getD i dc0).c∧(ds.getD i dc0).c≤(n:Int)-1):False:=by
  have:decB n (ds.map prD)=true:=dec_iff.2 fun i hi=>by rw [prD_get];exact h i (by simpa using hi)
  rw [this]at hd;cases hd
theorem law7f (tw tm:List Int)(tv:List (List Int))(rate:Int)(cs:List Csk)(ds:List Dcl)(ht:thinS tw tm tv cs=true)(hl9:ds.length≤9)(hf0:faultS tw tm tv rate cs≠0):FSpec Try.prog 7 [(stoS tw tm tv rate cs),(.sl 2 (.sym fun _=>zi ds.length) (fun ix=>[(.int .i64 (.sym fun _=>(ds.getD ix.den.toNat dc0).c)),(.int .i64 (.sym fun _=>(ds.getD ix.den.toNat dc0).t))]))] [] (fun r _=>r=(.bool (.lit true))):=by
  have c18:=thin18 tw tm tv rate cs
  have c21:=awake21
  have c23:=store23 tw tm tv rate cs (thinS_iff.1 ht).1 (thinS_iff.1 ht).2
  have c24:=fault24 tw tm tv rate cs
  have c38:=false38ed tw tm tv rate cs ds hf0
  have c39:=decls39 ds (by omega)
  have c31:= @in31
  have h35:=eqOk35
  refine FSpec.is fun R hR=>qW (sc:=sc7) tyok mix Try.func7 rfl Try.call7 (by kernel_rfl) (by kernel_rfl) ?_
  generalize Try.prog=P at c18 c21 c23 c24 c38 c39 c31 h35⊢
  cbv
  repeat' (first
      |with_reducible refine hold ?_ ?_
      |with_reducible refine And.intro ?_ ?_
      | (with_reducible refine qS ?_ ?_ ?_
         try cbv)
      | (with_reducible refine qT ?_ ?_
         try cbv)
      |(with_reducible intro hcd;(try simp only [zA,zB,zC,zD,zE,zF,zG,zH,zI,zJ,zK,zL,zM,zN,zO,zP]at hcd);try cbv)
      | (refine qP ?_ (c18) ?hfit
         case hfit=>((repeat' (first|exact qB|refine qD ?_ ?_|exact qE (by rfl)|exact qF (by rfl)|exact Fit.refl _|exact qA|refine qC ?_ rfl ?_));done)
         try cbv)
      | (refine qP ?_ (c21) ?hfit
         case hfit=>((repeat' (first|exact qB|refine qD ?_ ?_|exact qE (by rfl)|exact qF (by rfl)|exact Fit.refl _|exact qA|refine qC ?_ rfl ?_));done)
         try cbv)
      | (refine qP ?_ (c23) ?hfit
         case hfit=>((repeat' (first|exact qB|refine qD ?_ ?_|exact qE (by rfl)|exact qF (by rfl)|exact Fit.refl _|exact qA|refine qC ?_ rfl ?_));done)
         try cbv)
      | (refine qP ?_ (c39) ?hfit
         case hfit=>((repeat' (first|exact qB|refine qD ?_ ?_|exact qE (by rfl)|exact qF (by rfl)|exact Fit.refl _|exact qA|refine qC ?_ rfl ?_));done)
         try cbv)
      | (refine qP ?_ (c38) ?hfit
         case hfit=>((repeat' (first|exact qB|refine qD ?_ ?_|exact qE (by rfl)|exact qF (by rfl)|exact Fit.refl _|exact qA|refine qC ?_ rfl ?_));done)
         try cbv)
      | (refine qP ?_ (c24) ?hfit
         case hfit=>((repeat' (first|exact qB|refine qD ?_ ?_|exact qE (by rfl)|exact qF (by rfl)|exact Fit.refl _|exact qA|refine qC ?_ rfl ?_));done)
         try cbv)
      | (refine qP ?_ (c31 _ _ _) (by(repeat' (first|exact qB|refine qD ?_ ?_|exact qE (by rfl)|exact qF (by rfl)|exact Fit.refl _|exact qA|refine qC ?_ rfl ?_)))
         try cbv)
      | (refine qP ?_ (c20) ?hfit
         case hfit=>((repeat' (first|exact qB|refine qD ?_ ?_|exact qE (by rfl)|exact qF (by rfl)|exact Fit.refl _|exact qA|refine qC ?_ rfl ?_));done)
         try cbv)
      |fail)
  all_goals first|(refine⟨some 1,?_⟩;cbv)|skip
  repeat' (first
      |with_reducible refine hold ?_ ?_
      |with_reducible refine And.intro ?_ ?_
      | (with_reducible refine qS ?_ ?_ ?_
         try cbv)
      | (with_reducible refine qT ?_ ?_
         try cbv)
      |(with_reducible intro hcd;(try simp only [zA,zB,zC,zD,zE,zF,zG,zH,zI,zJ,zK,zL,zM,zN,zO,zP]at hcd);try cbv)
      | (refine qP ?_ (c18) ?hfit
         case hfit=>((repeat' (first|exact qB|refine qD ?_ ?_|exact qE (by rfl)|exact qF (by rfl)|exact Fit.refl _|exact qA|refine qC ?_ rfl ?_));done)
         try cbv)
      | (refine qP ?_ (c21) ?hfit
         case hfit=>((repeat' (first|exact qB|refine qD ?_ ?_|exact qE (by rfl)|exact qF (by rfl)|exact Fit.refl _|exact qA|refine qC ?_ rfl ?_));done)
         try cbv)
      | (refine qP ?_ (c23) ?hfit
         case hfit=>((repeat' (first|exact qB|refine qD ?_ ?_|exact qE (by rfl)|exact qF (by rfl)|exact Fit.refl _|exact qA|refine qC ?_ rfl ?_));done)
         try cbv)
      | (refine qP ?_ (c39) ?hfit
         case hfit=>((repeat' (first|exact qB|refine qD ?_ ?_|exact qE (by rfl)|exact qF (by rfl)|exact Fit.refl _|exact qA|refine qC ?_ rfl ?_));done)
         try cbv)
      | (refine qP ?_ (c38) ?hfit
         case hfit=>((repeat' (first|exact qB|refine qD ?_ ?_|exact qE (by rfl)|exact qF (by rfl)|exact Fit.refl _|exact qA|refine qC ?_ rfl ?_));done)
         try cbv)
      | (refine qP ?_ (c24) ?hfit
         case hfit=>((repeat' (first|exact qB|refine qD ?_ ?_|exact qE (by rfl)|exact qF (by rfl)|exact Fit.refl _|exact qA|refine qC ?_ rfl ?_));done)
         try cbv)
      | (refine qP ?_ (c31 _ _ _) (by(repeat' (first|exact qB|refine qD ?_ ?_|exact qE (by rfl)|exact qF (by rfl)|exact Fit.refl _|exact qA|refine qC ?_ rfl ?_)))
         try cbv)
      | (refine qP ?_ (c20) ?hfit
         case hfit=>((repeat' (first|exact qB|refine qD ?_ ?_|exact qE (by rfl)|exact qF (by rfl)|exact Fit.refl _|exact qA|refine qC ?_ rfl ?_));done)
         try cbv)
      |fail)
  all_goals first
    |trivial
    |((try simp only [qV]at *);(try simp only [zQ,zA,zB,zC,zD,zE,zF,zG,zH,zI,zJ,zK,zL,zM,zN,zO,zP,zR,zS]at *);first|(refine qN ?_;omega)|(simp only [Hold];omega))
    |(subst hR;(repeat' (first|exact qA|exact qB|refine qC ?_ rfl ?_|refine qD ?_ ?_|exact qE (by rfl)|exact qF (by rfl)|exact Fit.refl _|exact qG _|(refine qE ?_;(try simp only [qV]at *);simp only [zQ,zA,zB,zC,zD,zE,zF,zG,zH,zI,zJ,zK,zL,zM,zN,zO,zP,zR,zS]at *;omega)));done)
    |(exact Bool.noConfusion (ht.symm.trans (by assumption:thinS tw tm tv cs=false)))
    |(exact(hcd rfl).elim)
    |(exact(hf0 (by assumption)).elim)
    |(simp only [Hold];exact⟨h35,rfl⟩)
    |(exfalso;(try simp only [qV]at *);(try simp only [zQ,zA,zB,zC,zD,zE,zF,zG,zH,zI,zJ,zK,zL,zM,zN,zO,zP,zR,zS]at *);omega)
    |(simp only [Hold];decide)
    |skip
theorem in_of {c:Int} {n:Nat}(h:(decide (0≤c)&&decide (c≤zi n-1))=true):0≤c∧c≤(n:Int)-1:=by
  have:=Bool.and_eq_true_iff.1 h
  exact⟨of_decide_eq_true this.1,of_decide_eq_true this.2⟩
set_option maxHeartbeats 1000000 in
theorem law7r (tw tm:List Int)(tv:List (List Int))(rate:Int)(cs:List Csk)(ds:List Dcl)(ht:thinS tw tm tv cs=true)(hl9:ds.length≤9)(hS:SOk tw tm tv rate cs)(hd:decB cs.length (ds.map prD)=false):FSpec Try.prog 7 [(stoS tw tm tv rate cs),(.sl 2 (.sym fun _=>zi ds.length) (fun ix=>[(.int .i64 (.sym fun _=>(ds.getD ix.den.toNat dc0).c)),(.int .i64 (.sym fun _=>(ds.getD ix.den.toNat dc0).t))]))] [] (fun r _=>r=(.bool (.lit true))):=by
  have c18:=thin18 tw tm tv rate cs
  have c21:=awake21
  have c23:=store23 tw tm tv rate cs (thinS_iff.1 ht).1 (thinS_iff.1 ht).2
  have c24:=(faultS_iff.2 hS)▸fault24 tw tm tv rate cs
  have c20:=known20 tw tm tv rate cs hS
  have c39:=decls39 ds (by omega)
  have c31:= @in31
  have c38:=false38rd tw tm tv rate cs ds hS (by omega) hd
  have h35:=eqOk35
  refine FSpec.is fun R hR=>qW (sc:=sc7) tyok mix Try.func7 rfl Try.call7 (by kernel_rfl) (by kernel_rfl) ?_
  generalize Try.prog=P at c18 c21 c23 c24 c20 c39 c31 c38 h35⊢
  cbv
  have hfew:=hS.few
  repeat' (first
      |with_reducible refine hold ?_ ?_
      |with_reducible refine And.intro ?_ ?_
      | (with_reducible refine qS ?_ ?_ ?_
         try cbv)
      | (with_reducible refine qT ?_ ?_
         try cbv)
      |(with_reducible intro hcd;(try simp only [zA,zB,zC,zD,zE,zF,zG,zH,zI,zJ,zK,zL,zM,zN,zO,zP]at hcd);try cbv)
      | (refine qP ?_ (c18) ?hfit
         case hfit=>((repeat' (first|exact qB|refine qD ?_ ?_|exact qE (by rfl)|exact qF (by rfl)|exact Fit.refl _|exact qA|refine qC ?_ rfl ?_));done)
         try cbv)
      | (refine qP ?_ (c21) ?hfit
         case hfit=>((repeat' (first|exact qB|refine qD ?_ ?_|exact qE (by rfl)|exact qF (by rfl)|exact Fit.refl _|exact qA|refine qC ?_ rfl ?_));done)
         try cbv)
      | (refine qP ?_ (c23) ?hfit
         case hfit=>((repeat' (first|exact qB|refine qD ?_ ?_|exact qE (by rfl)|exact qF (by rfl)|exact Fit.refl _|exact qA|refine qC ?_ rfl ?_));done)
         try cbv)
      | (refine qP ?_ (c39) ?hfit
         case hfit=>((repeat' (first|exact qB|refine qD ?_ ?_|exact qE (by rfl)|exact qF (by rfl)|exact Fit.refl _|exact qA|refine qC ?_ rfl ?_));done)
         try cbv)
      | (refine qP ?_ (c38) ?hfit
         case hfit=>((repeat' (first|exact qB|refine qD ?_ ?_|exact qE (by rfl)|exact qF (by rfl)|exact Fit.refl _|exact qA|refine qC ?_ rfl ?_));done)
         try cbv)
      | (refine qP ?_ (c24) ?hfit
         case hfit=>((repeat' (first|exact qB|refine qD ?_ ?_|exact qE (by rfl)|exact qF (by rfl)|exact Fit.refl _|exact qA|refine qC ?_ rfl ?_));done)
         try cbv)
      | (refine qP ?_ (c31 _ _ _) (by(repeat' (first|exact qB|refine qD ?_ ?_|exact qE (by rfl)|exact qF (by rfl)|exact Fit.refl _|exact qA|refine qC ?_ rfl ?_)))
         try cbv)
      | (refine qP ?_ (c20) ?hfit
         case hfit=>((repeat' (first|exact qB|refine qD ?_ ?_|exact qE (by rfl)|exact qF (by rfl)|exact Fit.refl _|exact qA|refine qC ?_ rfl ?_));done)
         try cbv)
      |fail)
  all_goals first
    |trivial
    |((try simp only [qV]at *);(try simp only [zQ,zA,zB,zC,zD,zE,zF,zG,zH,zI,zJ,zK,zL,zM,zN,zO,zP,zR,zS]at *);first|(refine qN ?_;omega)|(simp only [Hold];omega))
    |(subst hR;(repeat' (first|exact qA|exact qB|refine qC ?_ rfl ?_|refine qD ?_ ?_|exact qE (by rfl)|exact qF (by rfl)|exact Fit.refl _|exact qG _|(refine qE ?_;(try simp only [qV]at *);simp only [zQ,zA,zB,zC,zD,zE,zF,zG,zH,zI,zJ,zK,zL,zM,zN,zO,zP,zR,zS]at *;omega)));done)
    |(exact Bool.noConfusion (ht.symm.trans (by assumption:thinS tw tm tv cs=false)))
    |(exact(hcd rfl).elim)
    |(exact(hf0 (by assumption)).elim)
    |(simp only [Hold];exact⟨h35,rfl⟩)
    |(simp only [Hold];decide)
    |skip
  refine⟨none,[],{x:Nat×Int // x.1≤ds.length∧((x.2=0∧∀j,j<x.1→0≤(ds.getD j dc0).c∧(ds.getD j dc0).c≤(cs.length:Int)-1)∨x.2=2)},fun x=>⟨[(1,(.sl 2 (.sym fun _=>zi ds.length) (fun ix=>[(.int .i64 (.sym fun _=>(ds.getD ix.den.toNat dc0).c)),(.int .i64 (.sym fun _=>(ds.getD ix.den.toNat dc0).t))]))),(2,.own 0 0),(5,(.val (.slice none 0 0))),(6,(.int .i64 (.sym fun _=>2))),(7,(.int .i64 (.sym fun _=>x.1.2))),(8,(.int .i64 (.sym fun _=>zi x.1.1)))],[(0,.cells [(.sl 1 (.sym fun _=>zi (tw).length) (fun ix=>[.int .i64 (.sym fun _=>(tw).getD ix.den.toNat 0)])),(.sl 1 (.sym fun _=>zi (tm).length) (fun ix=>[.int .i64 (.sym fun _=>(tm).getD ix.den.toNat 0)])),(.sl 1 (.sym fun _=>zi (tv).length) (fun ix=>[(.sl 1 (.sym fun _=>zi ((tv).getD ix.den.toNat []).length) (fun jx=>[.int .i64 (.sym fun _=>((tv).getD ix.den.toNat []).getD jx.den.toNat 0)]))])),(.int .i64 (.sym fun _=>rate)),(.sl 5 (.sym fun _=>zi (cs).length) (fun ix=>[(.int .i64 (.sym fun _=>((cs).getD ix.den.toNat ck0).g)),(.int .i64 (.sym fun _=>((cs).getD ix.den.toNat ck0).wl)),(.int .i64 (.sym fun _=>((cs).getD ix.den.toNat ck0).wh)),(.int .i64 (.sym fun _=>((cs).getD ix.den.toNat ck0).ml)),(.int .i64 (.sym fun _=>((cs).getD ix.den.toNat ck0).mh))]))] 28)],60⟩,fun x=>ds.length-x.1.1,?_,?_⟩
  · refine⟨⟨(0,0),by omega,.inl ⟨rfl,fun j hj=>by omega⟩⟩,?_⟩
    cbv
    repeat' (first
      |with_reducible refine hold ?_ ?_
      |with_reducible refine And.intro ?_ ?_)
    all_goals first
      |trivial
      |exact qM (qE (by rfl))
      |exact qM (qF (by rfl))
      |exact qM (Fit.refl _)
      |exact qL (qK _)
      |(refine qM (qE ?_);(try simp only [qV]at *);simp only [zQ,zA,zB,zC,zD,zE,zF,zG,zH,zI,zJ,zK,zL,zM,zN,zO,zP,zR,zS]at *;omega)
      |skip
  · rintro ⟨⟨i,w⟩,hi,hx⟩
    cbv
    dsimp only at hi hx
    rcases hx with⟨rfl,hx⟩|rfl
    · repeat' (first
          |with_reducible refine hold ?_ ?_
          |with_reducible refine And.intro ?_ ?_
          | (with_reducible refine qS ?_ ?_ ?_
             try cbv)
          | (with_reducible refine qT ?_ ?_
             try cbv)
          |(with_reducible intro hcd;(try simp only [zA,zB,zC,zD,zE,zF,zG,zH,zI,zJ,zK,zL,zM,zN,zO,zP]at hcd);try cbv)
          | (refine qP ?_ (c18) ?hfit
             case hfit=>((repeat' (first|exact qB|refine qD ?_ ?_|exact qE (by rfl)|exact qF (by rfl)|exact Fit.refl _|exact qA|refine qC ?_ rfl ?_));done)
             try cbv)
          | (refine qP ?_ (c21) ?hfit
             case hfit=>((repeat' (first|exact qB|refine qD ?_ ?_|exact qE (by rfl)|exact qF (by rfl)|exact Fit.refl _|exact qA|refine qC ?_ rfl ?_));done)
             try cbv)
          | (refine qP ?_ (c23) ?hfit
             case hfit=>((repeat' (first|exact qB|refine qD ?_ ?_|exact qE (by rfl)|exact qF (by rfl)|exact Fit.refl _|exact qA|refine qC ?_ rfl ?_));done)
             try cbv)
          | (refine qP ?_ (c39) ?hfit
             case hfit=>((repeat' (first|exact qB|refine qD ?_ ?_|exact qE (by rfl)|exact qF (by rfl)|exact Fit.refl _|exact qA|refine qC ?_ rfl ?_));done)
             try cbv)
          | (refine qP ?_ (c38) ?hfit
             case hfit=>((repeat' (first|exact qB|refine qD ?_ ?_|exact qE (by rfl)|exact qF (by rfl)|exact Fit.refl _|exact qA|refine qC ?_ rfl ?_));done)
             try cbv)
          | (refine qP ?_ (c24) ?hfit
             case hfit=>((repeat' (first|exact qB|refine qD ?_ ?_|exact qE (by rfl)|exact qF (by rfl)|exact Fit.refl _|exact qA|refine qC ?_ rfl ?_));done)
             try cbv)
          | (refine qP ?_ (c31 _ _ _) (by(repeat' (first|exact qB|refine qD ?_ ?_|exact qE (by rfl)|exact qF (by rfl)|exact Fit.refl _|exact qA|refine qC ?_ rfl ?_)))
             try cbv)
          | (refine qP ?_ (c20) ?hfit
             case hfit=>((repeat' (first|exact qB|refine qD ?_ ?_|exact qE (by rfl)|exact qF (by rfl)|exact Fit.refl _|exact qA|refine qC ?_ rfl ?_));done)
             try cbv)
          |fail)
      all_goals first
        |trivial
        |((try simp only [qV]at *);(try simp only [zQ,zA,zB,zC,zD,zE,zF,zG,zH,zI,zJ,zK,zL,zM,zN,zO,zP,zR,zS]at *);first|(refine qN ?_;omega)|(simp only [Hold];omega))
        |(subst hR;(repeat' (first|exact qA|exact qB|refine qC ?_ rfl ?_|refine qD ?_ ?_|exact qE (by rfl)|exact qF (by rfl)|exact Fit.refl _|exact qG _|(refine qE ?_;(try simp only [qV]at *);simp only [zQ,zA,zB,zC,zD,zE,zF,zG,zH,zI,zJ,zK,zL,zM,zN,zO,zP,zR,zS]at *;omega)));done)
        |(exact Bool.noConfusion (ht.symm.trans (by assumption:thinS tw tm tv cs=false)))
        |(exact(hcd rfl).elim)
        |(exact(hf0 (by assumption)).elim)
        |(simp only [Hold];exact⟨h35,rfl⟩)
        |((have hie:i=ds.length:=by((try simp only [qV]at *);(try simp only [zQ,zA,zB,zC,zD,zE,zF,zG,zH,zI,zJ,zK,zL,zM,zN,zO,zP,zR,zS]at *);omega));rw [hie]at hx;exact(dec_out hd hx).elim)
        |((try simp only [zQ,zA,zB,zC,zD,zE,zF,zG,zH,zI,zJ,zK,zL,zM,zN,zO,zP,zR,zS]at *);refine⟨⟨(i+1,0),by((try simp only [qV]at *);(try simp only [zQ,zA,zB,zC,zD,zE,zF,zG,zH,zI,zJ,zK,zL,zM,zN,zO,zP,zR,zS]at *);omega),.inl ⟨rfl,fun j hj=>(Nat.lt_or_ge j i).elim (hx j) fun q=>by rw [show j=i by omega];exact in_of (by assumption)⟩⟩,by simp only [];omega,?_⟩;cbv;(repeat' (first|with_reducible refine hold ?_ ?_|with_reducible refine And.intro ?_ ?_));(all_goals first|trivial|exact qM (qE (by rfl))|exact qM (qF (by rfl))|exact qM (Fit.refl _)|exact qL (qK _)|(refine qM (qE ?_);(try simp only [qV]at *);simp only [zQ,zA,zB,zC,zD,zE,zF,zG,zH,zI,zJ,zK,zL,zM,zN,zO,zP,zR,zS]at *;omega)|skip))
        |((try simp only [zQ,zA,zB,zC,zD,zE,zF,zG,zH,zI,zJ,zK,zL,zM,zN,zO,zP,zR,zS]at *);refine⟨⟨(i+1,2),by((try simp only [qV]at *);(try simp only [zQ,zA,zB,zC,zD,zE,zF,zG,zH,zI,zJ,zK,zL,zM,zN,zO,zP,zR,zS]at *);omega),.inr rfl⟩,by simp only [];omega,?_⟩;cbv;(repeat' (first|with_reducible refine hold ?_ ?_|with_reducible refine And.intro ?_ ?_));(all_goals first|trivial|exact qM (qE (by rfl))|exact qM (qF (by rfl))|exact qM (Fit.refl _)|exact qL (qK _)|(refine qM (qE ?_);(try simp only [qV]at *);simp only [zQ,zA,zB,zC,zD,zE,zF,zG,zH,zI,zJ,zK,zL,zM,zN,zO,zP,zR,zS]at *;omega)|skip))
        |(simp only [Hold];decide)
        |skip
    · repeat' (first
          |with_reducible refine hold ?_ ?_
          |with_reducible refine And.intro ?_ ?_
          | (with_reducible refine qS ?_ ?_ ?_
             try cbv)
          | (with_reducible refine qT ?_ ?_
             try cbv)
          |(with_reducible intro hcd;(try simp only [zA,zB,zC,zD,zE,zF,zG,zH,zI,zJ,zK,zL,zM,zN,zO,zP]at hcd);try cbv)
          | (refine qP ?_ (c18) ?hfit
             case hfit=>((repeat' (first|exact qB|refine qD ?_ ?_|exact qE (by rfl)|exact qF (by rfl)|exact Fit.refl _|exact qA|refine qC ?_ rfl ?_));done)
             try cbv)
          | (refine qP ?_ (c21) ?hfit
             case hfit=>((repeat' (first|exact qB|refine qD ?_ ?_|exact qE (by rfl)|exact qF (by rfl)|exact Fit.refl _|exact qA|refine qC ?_ rfl ?_));done)
             try cbv)
          | (refine qP ?_ (c23) ?hfit
             case hfit=>((repeat' (first|exact qB|refine qD ?_ ?_|exact qE (by rfl)|exact qF (by rfl)|exact Fit.refl _|exact qA|refine qC ?_ rfl ?_));done)
             try cbv)
          | (refine qP ?_ (c39) ?hfit
             case hfit=>((repeat' (first|exact qB|refine qD ?_ ?_|exact qE (by rfl)|exact qF (by rfl)|exact Fit.refl _|exact qA|refine qC ?_ rfl ?_));done)
             try cbv)
          | (refine qP ?_ (c38) ?hfit
             case hfit=>((repeat' (first|exact qB|refine qD ?_ ?_|exact qE (by rfl)|exact qF (by rfl)|exact Fit.refl _|exact qA|refine qC ?_ rfl ?_));done)
             try cbv)
          | (refine qP ?_ (c24) ?hfit
             case hfit=>((repeat' (first|exact qB|refine qD ?_ ?_|exact qE (by rfl)|exact qF (by rfl)|exact Fit.refl _|exact qA|refine qC ?_ rfl ?_));done)
             try cbv)
          | (refine qP ?_ (c31 _ _ _) (by(repeat' (first|exact qB|refine qD ?_ ?_|exact qE (by rfl)|exact qF (by rfl)|exact Fit.refl _|exact qA|refine qC ?_ rfl ?_)))
             try cbv)
          | (refine qP ?_ (c20) ?hfit
             case hfit=>((repeat' (first|exact qB|refine qD ?_ ?_|exact qE (by rfl)|exact qF (by rfl)|exact Fit.refl _|exact qA|refine qC ?_ rfl ?_));done)
             try cbv)
          |fail)
      all_goals first
        |trivial
        |((try simp only [qV]at *);(try simp only [zQ,zA,zB,zC,zD,zE,zF,zG,zH,zI,zJ,zK,zL,zM,zN,zO,zP,zR,zS]at *);first|(refine qN ?_;omega)|(simp only [Hold];omega))
        |(subst hR;(repeat' (first|exact qA|exact qB|refine qC ?_ rfl ?_|refine qD ?_ ?_|exact qE (by rfl)|exact qF (by rfl)|exact Fit.refl _|exact qG _|(refine qE ?_;(try simp only [qV]at *);simp only [zQ,zA,zB,zC,zD,zE,zF,zG,zH,zI,zJ,zK,zL,zM,zN,zO,zP,zR,zS]at *;omega)));done)
        |(exact Bool.noConfusion (ht.symm.trans (by assumption:thinS tw tm tv cs=false)))
        |(exact(hcd rfl).elim)
        |(exact(hf0 (by assumption)).elim)
        |(simp only [Hold];exact⟨h35,rfl⟩)
        |(exfalso;(try simp only [qV]at *);(try simp only [zQ,zA,zB,zC,zD,zE,zF,zG,zH,zI,zJ,zK,zL,zM,zN,zO,zP,zR,zS]at *);omega)
        |(simp only [Hold];decide)
        |skip
theorem in_not {c:Int} {n:Nat}(h:0≤c∧c≤(n:Int)-1)(h2:(decide (0≤c)&&decide (c≤zi n-1))=false):False:=by
  rw [Bool.and_eq_true_iff.2 ⟨decide_eq_true h.1,decide_eq_true (by simpa only [zi_den]using h.2)⟩]at h2
  cases h2
set_option maxHeartbeats 1000000 in
theorem law7ok (tw tm:List Int)(tv:List (List Int))(rate:Int)(cs:List Csk)(ds:List Dcl)(ht:thinS tw tm tv cs=true)(hl9:ds.length≤9)(hS:SOk tw tm tv rate cs)(hd:decB cs.length (ds.map prD)=true):FSpec Try.prog 7 [(stoS tw tm tv rate cs),(.sl 2 (.sym fun _=>zi ds.length) (fun ix=>[(.int .i64 (.sym fun _=>(ds.getD ix.den.toNat dc0).c)),(.int .i64 (.sym fun _=>(ds.getD ix.den.toNat dc0).t))]))] [] (fun r _=>r=(.bool (.lit true))):=by
  have hin:=dec_in hd
  have c18:=thin18 tw tm tv rate cs
  have c21:=awake21
  have c23:=store23 tw tm tv rate cs (thinS_iff.1 ht).1 (thinS_iff.1 ht).2
  have c24:=(faultS_iff.2 hS)▸fault24 tw tm tv rate cs
  have c20:=known20 tw tm tv rate cs hS
  have c39:=decls39 ds (by omega)
  have c31:= @in31
  have c38:=false38d tw tm tv rate cs ds hS (by omega) hd
  have c20:=known20 tw tm tv rate cs hS
  have c40:=fun (k:Nat) (hk:k<ds.length)=>istrue40 tw tm tv rate cs (loA tw tm tv cs cs.length) (hiA tw tm tv cs cs.length) (ds.getD k dc0).c (ds.getD k dc0).t hS.gal (by have:=hin k hk;omega) (by have:=hS.few;omega) (lo_bd hS)
  have c37:=fun (L:List Int) (h:L.length≤1000)=>same37 (falL (truB cs (loA tw tm tv cs cs.length) (hiA tw tm tv cs cs.length)) (ds.map prD) ds.length) L ⟨by have:=falL_len (p:=truB cs (loA tw tm tv cs cs.length) (hiA tw tm tv cs cs.length)) (D:=(ds.map prD)) ds.length;omega,h⟩
  have h35:=eqOk35
  refine FSpec.is fun R hR=>qW (sc:=sc7) tyok mix Try.func7 rfl Try.call7 (by kernel_rfl) (by kernel_rfl) ?_
  generalize Try.prog=P at c18 c21 c23 c24 c20 c39 c31 c38 c20 c40 c37 h35⊢
  cbv
  have hfew:=hS.few
  repeat' (first
      |with_reducible refine hold ?_ ?_
      |with_reducible refine And.intro ?_ ?_
      | (with_reducible refine qS ?_ ?_ ?_
         try cbv)
      | (with_reducible refine qT ?_ ?_
         try cbv)
      |(with_reducible intro hcd;(try simp only [zA,zB,zC,zD,zE,zF,zG,zH,zI,zJ,zK,zL,zM,zN,zO,zP]at hcd);try cbv)
      | (refine qP ?_ (c18) ?hfit
         case hfit=>((repeat' (first|exact qB|refine qD ?_ ?_|exact qE (by rfl)|exact qF (by rfl)|exact Fit.refl _|exact qA|refine qC ?_ rfl ?_));done)
         try cbv)
      | (refine qP ?_ (c21) ?hfit
         case hfit=>((repeat' (first|exact qB|refine qD ?_ ?_|exact qE (by rfl)|exact qF (by rfl)|exact Fit.refl _|exact qA|refine qC ?_ rfl ?_));done)
         try cbv)
      | (refine qP ?_ (c23) ?hfit
         case hfit=>((repeat' (first|exact qB|refine qD ?_ ?_|exact qE (by rfl)|exact qF (by rfl)|exact Fit.refl _|exact qA|refine qC ?_ rfl ?_));done)
         try cbv)
      | (refine qP ?_ (c39) ?hfit
         case hfit=>((repeat' (first|exact qB|refine qD ?_ ?_|exact qE (by rfl)|exact qF (by rfl)|exact Fit.refl _|exact qA|refine qC ?_ rfl ?_));done)
         try cbv)
      | (refine qP ?_ (c38) ?hfit
         case hfit=>((repeat' (first|exact qB|refine qD ?_ ?_|exact qE (by rfl)|exact qF (by rfl)|exact Fit.refl _|exact qA|refine qC ?_ rfl ?_));done)
         try cbv)
      | (refine qP ?_ (c24) ?hfit
         case hfit=>((repeat' (first|exact qB|refine qD ?_ ?_|exact qE (by rfl)|exact qF (by rfl)|exact Fit.refl _|exact qA|refine qC ?_ rfl ?_));done)
         try cbv)
      | (refine qP ?_ (c31 _ _ _) (by(repeat' (first|exact qB|refine qD ?_ ?_|exact qE (by rfl)|exact qF (by rfl)|exact Fit.refl _|exact qA|refine qC ?_ rfl ?_)))
         try cbv)
      | (refine qP ?_ (c20) ?hfit
         case hfit=>((repeat' (first|exact qB|refine qD ?_ ?_|exact qE (by rfl)|exact qF (by rfl)|exact Fit.refl _|exact qA|refine qC ?_ rfl ?_));done)
         try cbv)
      |fail)
  all_goals first
    |trivial
    |((try simp only [qV]at *);(try simp only [zQ,zA,zB,zC,zD,zE,zF,zG,zH,zI,zJ,zK,zL,zM,zN,zO,zP,zR,zS]at *);first|(refine qN ?_;omega)|(simp only [Hold];omega))
    |(subst hR;(repeat' (first|exact qA|exact qB|refine qC ?_ rfl ?_|refine qD ?_ ?_|exact qE (by rfl)|exact qF (by rfl)|exact Fit.refl _|exact qG _|(refine qE ?_;(try simp only [qV]at *);simp only [zQ,zA,zB,zC,zD,zE,zF,zG,zH,zI,zJ,zK,zL,zM,zN,zO,zP,zR,zS]at *;omega)));done)
    |(exact Bool.noConfusion (ht.symm.trans (by assumption:thinS tw tm tv cs=false)))
    |(exact(hcd rfl).elim)
    |(exact(hf0 (by assumption)).elim)
    |(simp only [Hold];exact⟨h35,rfl⟩)
    |(simp only [Hold];decide)
    |skip
  refine⟨none,[],{i:Nat // i≤ds.length},fun x=>⟨[(1,(.sl 2 (.sym fun _=>zi ds.length) (fun ix=>[(.int .i64 (.sym fun _=>(ds.getD ix.den.toNat dc0).c)),(.int .i64 (.sym fun _=>(ds.getD ix.den.toNat dc0).t))]))),(2,.own 0 0),(5,(.sl 1 (.sym fun _=>zi (falL (truB cs (loA tw tm tv cs cs.length) (hiA tw tm tv cs cs.length)) (ds.map prD) ds.length).length) (fun ix=>[.int .i64 (.sym fun _=>(falL (truB cs (loA tw tm tv cs cs.length) (hiA tw tm tv cs cs.length)) (ds.map prD) ds.length).getD ix.den.toNat 0)]))),(6,(.int .i64 (.sym fun _=>0))),(7,(.int .i64 (.sym fun _=>0))),(8,(.int .i64 (.sym fun _=>zi x.1)))],[(0,.cells [(.sl 1 (.sym fun _=>zi (tw).length) (fun ix=>[.int .i64 (.sym fun _=>(tw).getD ix.den.toNat 0)])),(.sl 1 (.sym fun _=>zi (tm).length) (fun ix=>[.int .i64 (.sym fun _=>(tm).getD ix.den.toNat 0)])),(.sl 1 (.sym fun _=>zi (tv).length) (fun ix=>[(.sl 1 (.sym fun _=>zi ((tv).getD ix.den.toNat []).length) (fun jx=>[.int .i64 (.sym fun _=>((tv).getD ix.den.toNat []).getD jx.den.toNat 0)]))])),(.int .i64 (.sym fun _=>rate)),(.sl 5 (.sym fun _=>zi (cs).length) (fun ix=>[(.int .i64 (.sym fun _=>((cs).getD ix.den.toNat ck0).g)),(.int .i64 (.sym fun _=>((cs).getD ix.den.toNat ck0).wl)),(.int .i64 (.sym fun _=>((cs).getD ix.den.toNat ck0).wh)),(.int .i64 (.sym fun _=>((cs).getD ix.den.toNat ck0).ml)),(.int .i64 (.sym fun _=>((cs).getD ix.den.toNat ck0).mh))]))] 28)],60⟩,fun x=>ds.length-x.1,?_,?_⟩
  · refine⟨⟨0,by omega⟩,?_⟩
    cbv
    repeat' (first
      |with_reducible refine hold ?_ ?_
      |with_reducible refine And.intro ?_ ?_)
    all_goals first
      |trivial
      |exact qM (qE (by rfl))
      |exact qM (qF (by rfl))
      |exact qM (Fit.refl _)
      |exact qL (qK _)
      |(refine qM (qE ?_);(try simp only [qV]at *);simp only [zQ,zA,zB,zC,zD,zE,zF,zG,zH,zI,zJ,zK,zL,zM,zN,zO,zP,zR,zS]at *;omega)
      |skip
  · rintro ⟨i,hi⟩
    cbv
    repeat' (first
        |with_reducible refine hold ?_ ?_
        |with_reducible refine And.intro ?_ ?_
        | (with_reducible refine qS ?_ ?_ ?_
           try cbv)
        | (with_reducible refine qT ?_ ?_
           try cbv)
        |(with_reducible intro hcd;(try simp only [zA,zB,zC,zD,zE,zF,zG,zH,zI,zJ,zK,zL,zM,zN,zO,zP]at hcd);try cbv)
        | (refine qP ?_ (c18) ?hfit
           case hfit=>((repeat' (first|exact qB|refine qD ?_ ?_|exact qE (by rfl)|exact qF (by rfl)|exact Fit.refl _|exact qA|refine qC ?_ rfl ?_));done)
           try cbv)
        | (refine qP ?_ (c21) ?hfit
           case hfit=>((repeat' (first|exact qB|refine qD ?_ ?_|exact qE (by rfl)|exact qF (by rfl)|exact Fit.refl _|exact qA|refine qC ?_ rfl ?_));done)
           try cbv)
        | (refine qP ?_ (c23) ?hfit
           case hfit=>((repeat' (first|exact qB|refine qD ?_ ?_|exact qE (by rfl)|exact qF (by rfl)|exact Fit.refl _|exact qA|refine qC ?_ rfl ?_));done)
           try cbv)
        | (refine qP ?_ (c39) ?hfit
           case hfit=>((repeat' (first|exact qB|refine qD ?_ ?_|exact qE (by rfl)|exact qF (by rfl)|exact Fit.refl _|exact qA|refine qC ?_ rfl ?_));done)
           try cbv)
        | (refine qP ?_ (c38) ?hfit
           case hfit=>((repeat' (first|exact qB|refine qD ?_ ?_|exact qE (by rfl)|exact qF (by rfl)|exact Fit.refl _|exact qA|refine qC ?_ rfl ?_));done)
           try cbv)
        | (refine qP ?_ (c24) ?hfit
           case hfit=>((repeat' (first|exact qB|refine qD ?_ ?_|exact qE (by rfl)|exact qF (by rfl)|exact Fit.refl _|exact qA|refine qC ?_ rfl ?_));done)
           try cbv)
        | (refine qP ?_ (c31 _ _ _) (by(repeat' (first|exact qB|refine qD ?_ ?_|exact qE (by rfl)|exact qF (by rfl)|exact Fit.refl _|exact qA|refine qC ?_ rfl ?_)))
           try cbv)
        | (refine qP ?_ (c20) ?hfit
           case hfit=>((repeat' (first|exact qB|refine qD ?_ ?_|exact qE (by rfl)|exact qF (by rfl)|exact Fit.refl _|exact qA|refine qC ?_ rfl ?_));done)
           try cbv)
        |fail)
    all_goals first
      |trivial
      |((try simp only [qV]at *);(try simp only [zQ,zA,zB,zC,zD,zE,zF,zG,zH,zI,zJ,zK,zL,zM,zN,zO,zP,zR,zS]at *);first|(refine qN ?_;omega)|(simp only [Hold];omega))
      |(subst hR;(repeat' (first|exact qA|exact qB|refine qC ?_ rfl ?_|refine qD ?_ ?_|exact qE (by rfl)|exact qF (by rfl)|exact Fit.refl _|exact qG _|(refine qE ?_;(try simp only [qV]at *);simp only [zQ,zA,zB,zC,zD,zE,zF,zG,zH,zI,zJ,zK,zL,zM,zN,zO,zP,zR,zS]at *;omega)));done)
      |(exact Bool.noConfusion (ht.symm.trans (by assumption:thinS tw tm tv cs=false)))
      |(exact(hcd rfl).elim)
      |(exact(hf0 (by assumption)).elim)
      |(simp only [Hold];exact⟨h35,rfl⟩)
      |(exfalso;(have hq:=hin i (by((try simp only [qV]at *);(try simp only [zQ,zA,zB,zC,zD,zE,zF,zG,zH,zI,zJ,zK,zL,zM,zN,zO,zP,zR,zS]at *);omega)));exact in_not hq (by assumption))
      |((try simp only [zQ,zA,zB,zC,zD,zE,zF,zG,zH,zI,zJ,zK,zL,zM,zN,zO,zP,zR,zS]at *);refine⟨⟨i+1,by((try simp only [qV]at *);(try simp only [zQ,zA,zB,zC,zD,zE,zF,zG,zH,zI,zJ,zK,zL,zM,zN,zO,zP,zR,zS]at *);omega)⟩,by simp only [];omega,?_⟩;cbv;(repeat' (first|with_reducible refine hold ?_ ?_|with_reducible refine And.intro ?_ ?_));(all_goals first|trivial|exact qM (qE (by rfl))|exact qM (qF (by rfl))|exact qM (Fit.refl _)|exact qL (qK _)|(refine qM (qE ?_);(try simp only [qV]at *);simp only [zQ,zA,zB,zC,zD,zE,zF,zG,zH,zI,zJ,zK,zL,zM,zN,zO,zP,zR,zS]at *;omega)|skip))
      |(simp only [Hold];decide)
      |skip
    refine⟨none,[⟨.tmp 9,3,1⟩],{x:Nat×List Int // x.1≤ds.length∧x.2=falL (truB cs (loA tw tm tv cs cs.length) (hiA tw tm tv cs cs.length)) (ds.map prD) x.1},fun x=>⟨[(1,(.sl 2 (.sym fun _=>zi ds.length) (fun ix=>[(.int .i64 (.sym fun _=>(ds.getD ix.den.toNat dc0).c)),(.int .i64 (.sym fun _=>(ds.getD ix.den.toNat dc0).t))]))),(2,.own 0 0),(5,(.sl 1 (.sym fun _=>zi (falL (truB cs (loA tw tm tv cs cs.length) (hiA tw tm tv cs cs.length)) (ds.map prD) ds.length).length) (fun ix=>[.int .i64 (.sym fun _=>(falL (truB cs (loA tw tm tv cs cs.length) (hiA tw tm tv cs cs.length)) (ds.map prD) ds.length).getD ix.den.toNat 0)]))),(6,(.int .i64 (.sym fun _=>0))),(9,.row 72),(10,(.int .i64 (.sym fun _=>zi x.1.1)))],[(0,.cells [(.sl 1 (.sym fun _=>zi (tw).length) (fun ix=>[.int .i64 (.sym fun _=>(tw).getD ix.den.toNat 0)])),(.sl 1 (.sym fun _=>zi (tm).length) (fun ix=>[.int .i64 (.sym fun _=>(tm).getD ix.den.toNat 0)])),(.sl 1 (.sym fun _=>zi (tv).length) (fun ix=>[(.sl 1 (.sym fun _=>zi ((tv).getD ix.den.toNat []).length) (fun jx=>[.int .i64 (.sym fun _=>((tv).getD ix.den.toNat []).getD jx.den.toNat 0)]))])),(.int .i64 (.sym fun _=>rate)),(.sl 5 (.sym fun _=>zi (cs).length) (fun ix=>[(.int .i64 (.sym fun _=>((cs).getD ix.den.toNat ck0).g)),(.int .i64 (.sym fun _=>((cs).getD ix.den.toNat ck0).wl)),(.int .i64 (.sym fun _=>((cs).getD ix.den.toNat ck0).wh)),(.int .i64 (.sym fun _=>((cs).getD ix.den.toNat ck0).ml)),(.int .i64 (.sym fun _=>((cs).getD ix.den.toNat ck0).mh))]))] 28),(72,.row 3 1 (.sym fun _=>zi (x.1.2).length) (fun ix=>[.int .i64 (.sym fun _=>(x.1.2).getD ix.den.toNat 0)]))],120⟩,fun x=>ds.length-x.1.1,?_,?_⟩
    · refine⟨⟨(0,[]),by omega,rfl⟩,?_⟩
      cbv
      repeat' (first
        |with_reducible refine hold ?_ ?_
        |with_reducible refine And.intro ?_ ?_)
      all_goals first
        |trivial
        |exact qM (qE (by rfl))
        |exact qM (qF (by rfl))
        |exact qM (Fit.refl _)
        |exact qL (qK _)
        |(refine qM (qE ?_);(try simp only [qV]at *);simp only [zQ,zA,zB,zC,zD,zE,zF,zG,zH,zI,zJ,zK,zL,zM,zN,zO,zP,zR,zS]at *;omega)
        |(refine qL (ble_row ?_ ?_);(first|rfl|((try simp only [qV]at *);(try simp only [zQ,zA,zB,zC,zD,zE,zF,zG,zH,zI,zJ,zK,zL,zM,zN,zO,zP,zR,zS]at *);omega));intro ix h0 h1;exfalso;(try simp only [qV]at *);(try simp only [zQ,zA,zB,zC,zD,zE,zF,zG,zH,zI,zJ,zK,zL,zM,zN,zO,zP,zR,zS]at *);omega)
        |skip
    · rintro ⟨⟨k,L⟩,hk,hL⟩
      cbv
      dsimp only at hk hL
      have hlen:=falL_len (p:=truB cs (loA tw tm tv cs cs.length) (hiA tw tm tv cs cs.length)) (D:=(ds.map prD)) k
      rw [←hL]at hlen
      repeat' (first
          |with_reducible refine hold ?_ ?_
          |with_reducible refine And.intro ?_ ?_
          | (with_reducible refine qS ?_ ?_ ?_
             try cbv)
          | (with_reducible refine qT ?_ ?_
             try cbv)
          |(with_reducible intro hcd;(try simp only [zA,zB,zC,zD,zE,zF,zG,zH,zI,zJ,zK,zL,zM,zN,zO,zP]at hcd);try cbv)
          | (refine qP ?_ (c18) ?hfit
             case hfit=>((repeat' (first|exact qB|refine qD ?_ ?_|exact qE (by rfl)|exact qF (by rfl)|exact Fit.refl _|exact qA|refine qC ?_ rfl ?_));done)
             try cbv)
          | (refine qP ?_ (c21) ?hfit
             case hfit=>((repeat' (first|exact qB|refine qD ?_ ?_|exact qE (by rfl)|exact qF (by rfl)|exact Fit.refl _|exact qA|refine qC ?_ rfl ?_));done)
             try cbv)
          | (refine qP ?_ (c23) ?hfit
             case hfit=>((repeat' (first|exact qB|refine qD ?_ ?_|exact qE (by rfl)|exact qF (by rfl)|exact Fit.refl _|exact qA|refine qC ?_ rfl ?_));done)
             try cbv)
          | (refine qP ?_ (c39) ?hfit
             case hfit=>((repeat' (first|exact qB|refine qD ?_ ?_|exact qE (by rfl)|exact qF (by rfl)|exact Fit.refl _|exact qA|refine qC ?_ rfl ?_));done)
             try cbv)
          | (refine qP ?_ (c38) ?hfit
             case hfit=>((repeat' (first|exact qB|refine qD ?_ ?_|exact qE (by rfl)|exact qF (by rfl)|exact Fit.refl _|exact qA|refine qC ?_ rfl ?_));done)
             try cbv)
          | (refine qP ?_ (c24) ?hfit
             case hfit=>((repeat' (first|exact qB|refine qD ?_ ?_|exact qE (by rfl)|exact qF (by rfl)|exact Fit.refl _|exact qA|refine qC ?_ rfl ?_));done)
             try cbv)
          | (refine qP ?_ (c31 _ _ _) (by(repeat' (first|exact qB|refine qD ?_ ?_|exact qE (by rfl)|exact qF (by rfl)|exact Fit.refl _|exact qA|refine qC ?_ rfl ?_)))
             try cbv)
          | (refine qP ?_ (c20) ?hfit
             case hfit=>((repeat' (first|exact qB|refine qD ?_ ?_|exact qE (by rfl)|exact qF (by rfl)|exact Fit.refl _|exact qA|refine qC ?_ rfl ?_));done)
             try cbv)
          | (refine qP ?_ (c40 k (show Hold _ from ?_)) ?hfit
             case hfit=>((repeat' (first|(refine fit_sl (by rfl) (fun ix h0 h1=> ?_);refine qC (qE ?_) rfl (qC (qE ?_) rfl qA)<;>(simp only [den_sym,loA,hiA];rw [if_pos (by simp only [den_sym,zi_den]at h1;omega)]))|exact qB|refine qD ?_ ?_|exact qE (by rfl)|exact qF (by rfl)|exact Fit.refl _|exact qA|refine qC ?_ rfl ?_));done)
             try cbv)
          | (obtain⟨L2,eL2⟩:∃y:List Int,y=L++[zi k]:=⟨_,rfl⟩
             refine⟨intsE L2,?_⟩
             cbv
             refine hold (hold_rowlist (L:=L) eL2 (by(first|rfl|((try simp only [qV]at *);(try simp only [zQ,zA,zB,zC,zD,zE,zF,zG,zH,zI,zJ,zK,zL,zM,zN,zO,zP,zR,zS]at *);done)|((try simp only [qV]at *);(try simp only [zQ,zA,zB,zC,zD,zE,zF,zG,zH,zI,zJ,zK,zL,zM,zN,zO,zP,zR,zS]at *);omega))) (by rfl) (fun ix=>Fit.refl _) (fun ix h=>qC (qE (by rfl)) rfl qA) (by(try simp only [qV]at *);(try simp only [zQ,zA,zB,zC,zD,zE,zF,zG,zH,zI,zJ,zK,zL,zM,zN,zO,zP,zR,zS]at *);omega)) (Or.inl ?_)
             try cbv)
          | ((first|(refine qR ?_ (c37 L (show Hold _ from ?_)) rfl (by cbv;(repeat' (first|exact qB|refine qD ?_ ?_|exact qE (by rfl)|exact qF (by rfl)|exact Fit.refl _|exact qA|refine qC ?_ rfl ?_))))|(refine⟨none,?_⟩;refine qR ?_ (c37 L (show Hold _ from ?_)) rfl (by cbv;(repeat' (first|exact qB|refine qD ?_ ?_|exact qE (by rfl)|exact qF (by rfl)|exact Fit.refl _|exact qA|refine qC ?_ rfl ?_)))))
             try cbv)
          |fail)
      all_goals first
        |trivial
        |((try simp only [qV]at *);(try simp only [zQ,zA,zB,zC,zD,zE,zF,zG,zH,zI,zJ,zK,zL,zM,zN,zO,zP,zR,zS]at *);first|(refine qN ?_;omega)|(simp only [Hold];omega))
        |(subst hR;(repeat' (first|exact qA|exact qB|refine qC ?_ rfl ?_|refine qD ?_ ?_|exact qE (by rfl)|exact qF (by rfl)|exact Fit.refl _|exact qG _|(refine qE ?_;(try simp only [qV]at *);simp only [zQ,zA,zB,zC,zD,zE,zF,zG,zH,zI,zJ,zK,zL,zM,zN,zO,zP,zR,zS]at *;omega)));done)
        |(exact Bool.noConfusion (ht.symm.trans (by assumption:thinS tw tm tv cs=false)))
        |(exact(hcd rfl).elim)
        |(exact(hf0 (by assumption)).elim)
        |(simp only [Hold];exact⟨h35,rfl⟩)
        |((try simp only [qV]at *);(try simp only [zQ,zA,zB,zC,zD,zE,zF,zG,zH,zI,zJ,zK,zL,zM,zN,zO,zP,zR,zS]at *);simp only [Hold];omega)
        |(exfalso;(have hke:k=ds.length:=by((try simp only [qV]at *);(try simp only [zQ,zA,zB,zC,zD,zE,zF,zG,zH,zI,zJ,zK,zL,zM,zN,zO,zP,zR,zS]at *);omega));rw [hke]at hL;first|exact hcd hL.symm|exact(of_decide_eq_false hcd) hL.symm|exact absurd hL.symm (by assumption))
        |((try simp only [zQ,zA,zB,zC,zD,zE,zF,zG,zH,zI,zJ,zK,zL,zM,zN,zO,zP,zR,zS]at *);refine⟨⟨(k+1,L2),by((try simp only [qV]at *);(try simp only [zQ,zA,zB,zC,zD,zE,zF,zG,zH,zI,zJ,zK,zL,zM,zN,zO,zP,zR,zS]at *);omega),by rw [eL2,hL];exact(falL_n (tru_at.trans (by assumption))).symm⟩,by simp only [];omega,?_⟩;cbv;(repeat' (first|with_reducible refine hold ?_ ?_|with_reducible refine And.intro ?_ ?_));(all_goals first|trivial|exact qM (qE (by rfl))|exact qM (qF (by rfl))|exact qM (Fit.refl _)|exact qL (qK _)|(refine qM (qE ?_);(try simp only [qV]at *);simp only [zQ,zA,zB,zC,zD,zE,zF,zG,zH,zI,zJ,zK,zL,zM,zN,zO,zP,zR,zS]at *;omega)|(refine qL (ble_list ?_ ?_);(first|rfl|((try simp only [qV]at *);(try simp only [zQ,zA,zB,zC,zD,zE,zF,zG,zH,zI,zJ,zK,zL,zM,zN,zO,zP,zR,zS]at *);simp only [eL2,List.length_append,List.length_cons,List.length_nil];omega));intro ix;(try simp only [eL2]);first|exact Fit.refl _|exact qC (qE (by rfl)) rfl qA)|skip))
        |((try simp only [zQ,zA,zB,zC,zD,zE,zF,zG,zH,zI,zJ,zK,zL,zM,zN,zO,zP,zR,zS]at *);refine⟨⟨(k+1,L),by((try simp only [qV]at *);(try simp only [zQ,zA,zB,zC,zD,zE,zF,zG,zH,zI,zJ,zK,zL,zM,zN,zO,zP,zR,zS]at *);omega),by rw [hL];exact(falL_y (tru_at.trans (by assumption))).symm⟩,by simp only [];omega,?_⟩;cbv;(repeat' (first|with_reducible refine hold ?_ ?_|with_reducible refine And.intro ?_ ?_));(all_goals first|trivial|exact qM (qE (by rfl))|exact qM (qF (by rfl))|exact qM (Fit.refl _)|exact qL (qK _)|(refine qM (qE ?_);(try simp only [qV]at *);simp only [zQ,zA,zB,zC,zD,zE,zF,zG,zH,zI,zJ,zK,zL,zM,zN,zO,zP,zR,zS]at *;omega)|(refine qL (ble_list ?_ ?_);(first|rfl|((try simp only [qV]at *);(try simp only [zQ,zA,zB,zC,zD,zE,zF,zG,zH,zI,zJ,zK,zL,zM,zN,zO,zP,zR,zS]at *);simp only [List.length_append,List.length_cons,List.length_nil];omega));intro ix;first|exact Fit.refl _|exact qC (qE (by rfl)) rfl qA)|skip))
        |(simp only [Hold];decide)
        |skip
theorem law7 (tw tm:List Int)(tv:List (List Int))(rate:Int)(cs:List Csk)(ds:List Dcl):FSpec Try.prog 7 [(stoS tw tm tv rate cs),(.sl 2 (.sym fun _=>zi ds.length) (fun ix=>[(.int .i64 (.sym fun _=>(ds.getD ix.den.toNat dc0).c)),(.int .i64 (.sym fun _=>(ds.getD ix.den.toNat dc0).t))]))] [] (fun r _=>r = .bool (.lit true)):=by
  cases ht:thinS tw tm tv cs with
  |false=>exact law7t tw tm tv rate cs ds ht
  | true=>
    by_cases hl9:ds.length≤9
    · by_cases hf:faultS tw tm tv rate cs=0
      · cases hd:decB cs.length (ds.map prD)with
        |true=>exact law7ok tw tm tv rate cs ds ht hl9 (faultS_iff.1 hf) hd
        |false=>exact law7r tw tm tv rate cs ds ht hl9 (faultS_iff.1 hf) hd
      · exact law7f tw tm tv rate cs ds ht hl9 hf
    · exact law7l tw tm tv rate cs ds ht (by omega)
end Go.Proofs.Ytkdgpdlfakcgdaa
