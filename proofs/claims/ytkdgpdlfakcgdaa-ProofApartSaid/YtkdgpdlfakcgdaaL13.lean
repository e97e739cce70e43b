/- ProofApart: what the law computes. No condition. -/
import Derived.Test.YtkdgpdlfakcgdaaT7
set_option linter.unusedVariables false
set_option linter.unusedSimpArgs false
set_option linter.deprecated false
set_option linter.all false

namespace Go.Proofs.Ytkdgpdlfakcgdaa
open Go Go.Eng Go.Proofs
set_option maxRecDepth 10000
theorem sok_one (tw tm:List Int)(tv:List (List Int))(rate:Int)(cs:List Csk)(hS:SOk tw tm tv rate cs) {i:Nat}(hi:i<cs.length):SOk tw tm tv rate [cs.getD i ck0]:=by
  refine⟨hS.t,by simp,hS.rate,fun j hj=> ?_,fun j hj=> ?_⟩
  · have:j=0:=by simpa using hj
    subst this;exact hS.gal i hi
  · have:j=0:=by simpa using hj
    subst this;exact hS.box i hi
theorem sok_nil (tw tm:List Int)(tv:List (List Int))(rate:Int)(cs:List Csk)(hS:SOk tw tm tv rate cs):SOk tw tm tv rate []:=by
  refine⟨hS.t,by simp,hS.rate,fun j hj=> ?_,fun j hj=> ?_⟩<;>simp at hj
theorem rdy13 (tw tm:List Int)(tv:List (List Int))(rate:Int)(cs:List Csk):(thinS tw tm tv cs=true∧SOk tw tm tv rate cs)∨(thinS tw tm tv cs=false∨faultS tw tm tv rate cs≠0):=by
  cases thinS tw tm tv cs with
  |false=>exact .inr (.inl rfl)
  | true=>
    by_cases h:faultS tw tm tv rate cs=0
    · exact .inl ⟨rfl,faultS_iff.1 h⟩
    · exact .inr (.inr h)
theorem duties22o (tw tm:List Int)(tv:List (List Int))(rate:Int)(cs:List Csk)(hS:SOk tw tm tv rate cs)(i:Nat)(hi:i<cs.length):FSpec Try.prog 22 [(.agg [(.sl 1 (.sym fun _=>zi (tw).length) (fun ix=>[.int .i64 (.sym fun _=>(tw).getD ix.den.toNat 0)])),(.sl 1 (.sym fun _=>zi (tm).length) (fun ix=>[.int .i64 (.sym fun _=>(tm).getD ix.den.toNat 0)])),(.sl 1 (.sym fun _=>zi (tv).length) (fun ix=>[(.sl 1 (.sym fun _=>zi ((tv).getD ix.den.toNat []).length) (fun jx=>[.int .i64 (.sym fun _=>((tv).getD ix.den.toNat []).getD jx.den.toNat 0)]))])),(.int .i64 (.sym fun _=>rate)),(.sl 5 (.sym fun _=>zi ([cs.getD i ck0]).length) (fun ix=>[(.int .i64 (.sym fun _=>(([cs.getD i ck0]).getD ix.den.toNat ck0).g)),(.int .i64 (.sym fun _=>(([cs.getD i ck0]).getD ix.den.toNat ck0).wl)),(.int .i64 (.sym fun _=>(([cs.getD i ck0]).getD ix.den.toNat ck0).wh)),(.int .i64 (.sym fun _=>(([cs.getD i ck0]).getD ix.den.toNat ck0).ml)),(.int .i64 (.sym fun _=>(([cs.getD i ck0]).getD ix.den.toNat ck0).mh))]))])] [] (fun r _=>r=(.tup [(.agg [(.int .i64 (.sym fun _=>owedP (tenthsP (cs.getD i ck0).g (sLo tw tm tv (cs.getD i ck0))) rate)),(.int .i64 (.sym fun _=>owedP (tenthsP (cs.getD i ck0).g (sHi tw tm tv (cs.getD i ck0))) rate))]),(.int .i64 (.lit 0))])):=
  (duties22 tw tm tv rate [cs.getD i ck0] (sok_one tw tm tv rate cs hS hi)).post fun r bs e=>⟨_,by subst e;refine qD (qC (qE ?_) rfl (qC (qE ?_) rfl qA)) (qD (qE rfl) qB)<;>simp [dutyP,loA,hiA,den_sym],rfl⟩
theorem duties22nil (tw tm:List Int)(tv:List (List Int))(rate:Int)(cs:List Csk)(hS:SOk tw tm tv rate cs):FSpec Try.prog 22 [(.agg [(.sl 1 (.sym fun _=>zi (tw).length) (fun ix=>[.int .i64 (.sym fun _=>(tw).getD ix.den.toNat 0)])),(.sl 1 (.sym fun _=>zi (tm).length) (fun ix=>[.int .i64 (.sym fun _=>(tm).getD ix.den.toNat 0)])),(.sl 1 (.sym fun _=>zi (tv).length) (fun ix=>[(.sl 1 (.sym fun _=>zi ((tv).getD ix.den.toNat []).length) (fun jx=>[.int .i64 (.sym fun _=>((tv).getD ix.den.toNat []).getD jx.den.toNat 0)]))])),(.int .i64 (.sym fun _=>rate)),(.sl 5 (.sym fun _=>zi (([]:List Csk)).length) (fun ix=>[(.int .i64 (.sym fun _=>((([]:List Csk)).getD ix.den.toNat ck0).g)),(.int .i64 (.sym fun _=>((([]:List Csk)).getD ix.den.toNat ck0).wl)),(.int .i64 (.sym fun _=>((([]:List Csk)).getD ix.den.toNat ck0).wh)),(.int .i64 (.sym fun _=>((([]:List Csk)).getD ix.den.toNat ck0).ml)),(.int .i64 (.sym fun _=>((([]:List Csk)).getD ix.den.toNat ck0).mh))]))])] [] (fun r _=>r=(.tup [(.agg [(.int .i64 (.lit 0)),(.int .i64 (.lit 0))]),(.int .i64 (.lit 0))])):=
  (duties22 tw tm tv rate [] (sok_nil tw tm tv rate cs hS)).post fun r bs e=>⟨_,by subst e;exact qD (qC (qE rfl) rfl (qC (qE rfl) rfl qA)) (qD (qE rfl) qB),rfl⟩
theorem law13t (tw tm:List Int)(tv:List (List Int))(rate:Int)(cs:List Csk)(ht:thinS tw tm tv cs=false):FSpec Try.prog 13 [(stoS tw tm tv rate cs)] [] (fun r _=>r=(.bool (.lit true))):=by
  have c18:=thin18 tw tm tv rate cs
  have c21:=awake21
  refine FSpec.is fun R hR=>qW (sc:=sc13) tyok mix Try.func13 rfl Try.call13 (by kernel_rfl) (by kernel_rfl) ?_
  generalize Try.prog=P at c18 c21⊢
  cbv
  repeat' (first
      |with_reducible refine hold ?_ ?_
      |with_reducible refine And.intro ?_ ?_
      | (with_reducible refine qS ?_ ?_ ?_
         try cbv)
      | (with_reducible refine qT ?_ ?_
         try cbv)
      |(with_reducible intro hcd;(try simp only [zA,zB,zC,zD,zE,zF,zG,zH,zI,zJ,zK,zL,zM,zN,zO,zP]at hcd);try cbv)
      | (refine qP ?_ (c18) ?hfit
         case hfit=>((repeat' (first|exact qB|refine qD ?_ ?_|exact qE (by rfl)|exact qF (by rfl)|exact Fit.refl _|exact qA|refine qC ?_ rfl ?_));done)
         try cbv)
      | (refine qP ?_ (c21) ?hfit
         case hfit=>((repeat' (first|exact qB|refine qD ?_ ?_|exact qE (by rfl)|exact qF (by rfl)|exact Fit.refl _|exact qA|refine qC ?_ rfl ?_));done)
         try cbv)
      | (refine qP ?_ (c24) ?hfit
         case hfit=>((repeat' (first|exact qB|refine qD ?_ ?_|exact qE (by rfl)|exact qF (by rfl)|exact Fit.refl _|exact qA|refine qC ?_ rfl ?_));done)
         try cbv)
      |fail)
  all_goals first
    |trivial
    |((try simp only [qV]at *);(try simp only [zQ,zA,zB,zC,zD,zE,zF,zG,zH,zI,zJ,zK,zL,zM,zN,zO,zP,zR,zS]at *);first|(refine qN ?_;omega)|(simp only [Hold];omega))
    |(subst hR;(repeat' (first|exact qA|exact qB|refine qC ?_ rfl ?_|refine qD ?_ ?_|exact qE (by rfl)|exact qF (by rfl)|exact Fit.refl _|exact qG _|(refine qE ?_;(try simp only [qV]at *);simp only [zQ,zA,zB,zC,zD,zE,zF,zG,zH,zI,zJ,zK,zL,zM,zN,zO,zP,zR,zS]at *;omega)));done)
    |(exact Bool.noConfusion (ht.symm.trans (by assumption:thinS tw tm tv cs=true)))
    |(simp only [Hold];decide)
    |skip
theorem law13f (tw tm:List Int)(tv:List (List Int))(rate:Int)(cs:List Csk)(hf0:faultS tw tm tv rate cs≠0):FSpec Try.prog 13 [(stoS tw tm tv rate cs)] [] (fun r _=>r=(.bool (.lit true))):=by
  have c18:=thin18 tw tm tv rate cs
  have c21:=awake21
  have c24:=fault24 tw tm tv rate cs
  refine FSpec.is fun R hR=>qW (sc:=sc13) tyok mix Try.func13 rfl Try.call13 (by kernel_rfl) (by kernel_rfl) ?_
  generalize Try.prog=P at c18 c21 c24⊢
  cbv
  repeat' (first
      |with_reducible refine hold ?_ ?_
      |with_reducible refine And.intro ?_ ?_
      | (with_reducible refine qS ?_ ?_ ?_
         try cbv)
      | (with_reducible refine qT ?_ ?_
         try cbv)
      |(with_reducible intro hcd;(try simp only [zA,zB,zC,zD,zE,zF,zG,zH,zI,zJ,zK,zL,zM,zN,zO,zP]at hcd);try cbv)
      | (refine qP ?_ (c18) ?hfit
         case hfit=>((repeat' (first|exact qB|refine qD ?_ ?_|exact qE (by rfl)|exact qF (by rfl)|exact Fit.refl _|exact qA|refine qC ?_ rfl ?_));done)
         try cbv)
      | (refine qP ?_ (c21) ?hfit
         case hfit=>((repeat' (first|exact qB|refine qD ?_ ?_|exact qE (by rfl)|exact qF (by rfl)|exact Fit.refl _|exact qA|refine qC ?_ rfl ?_));done)
         try cbv)
      | (refine qP ?_ (c24) ?hfit
         case hfit=>((repeat' (first|exact qB|refine qD ?_ ?_|exact qE (by rfl)|exact qF (by rfl)|exact Fit.refl _|exact qA|refine qC ?_ rfl ?_));done)
         try cbv)
      |fail)
  all_goals first
    |trivial
    |((try simp only [qV]at *);(try simp only [zQ,zA,zB,zC,zD,zE,zF,zG,zH,zI,zJ,zK,zL,zM,zN,zO,zP,zR,zS]at *);first|(refine qN ?_;omega)|(simp only [Hold];omega))
    |(subst hR;(repeat' (first|exact qA|exact qB|refine qC ?_ rfl ?_|refine qD ?_ ?_|exact qE (by rfl)|exact qF (by rfl)|exact Fit.refl _|exact qG _|(refine qE ?_;(try simp only [qV]at *);simp only [zQ,zA,zB,zC,zD,zE,zF,zG,zH,zI,zJ,zK,zL,zM,zN,zO,zP,zR,zS]at *;omega)));done)
    |(exact Bool.noConfusion (ht.symm.trans (by assumption:thinS tw tm tv cs=false)))
    |(exact(hcd rfl).elim)
    |(exact(hf0 (by assumption)).elim)
    |(simp only [Hold];exact⟨h35,rfl⟩)
    |(simp only [Hold];decide)
    |skip
set_option maxHeartbeats 1000000 in
theorem law13y (tw tm:List Int)(tv:List (List Int))(rate:Int)(cs:List Csk)(ht:thinS tw tm tv cs=true)(hS:SOk tw tm tv rate cs):FSpec Try.prog 13 [(stoS tw tm tv rate cs)] [] (fun r _=>r=(.bool (.lit true))):=by
  have c18:=thin18 tw tm tv rate cs
  have c21:=awake21
  have c24:=(faultS_iff.2 hS)▸fault24 tw tm tv rate cs
  have c23:=store23 tw tm tv rate cs (thinS_iff.1 ht).1 (thinS_iff.1 ht).2
  have c22:=duties22z tw tm tv rate cs hS
  have c23o:=fun (i:Nat) (hi:i<cs.length)=>store23 tw tm tv rate [cs.getD i ck0] (thinS_iff.1 ht).1 (by simp)
  have c22o:=duties22o tw tm tv rate cs hS
  have c23n:=store23 tw tm tv rate [] (thinS_iff.1 ht).1 (by simp)
  have c22n:=duties22nil tw tm tv rate cs hS
  have h35:=eqOk35
  refine FSpec.is fun R hR=>qW (sc:=sc13) tyok mix Try.func13 rfl Try.call13 (by kernel_rfl) (by kernel_rfl) ?_
  generalize Try.prog=P at c18 c21 c24 c23 c22 c23o c22o c23n c22n h35⊢
  cbv
  have hfew:=hS.few
  have hf1:=faultS_iff.2 hS
  repeat' (first
      |with_reducible refine hold ?_ ?_
      |with_reducible refine And.intro ?_ ?_
      | (with_reducible refine qS ?_ ?_ ?_
         try cbv)
      | (with_reducible refine qT ?_ ?_
         try cbv)
      |(with_reducible intro hcd;(try simp only [zA,zB,zC,zD,zE,zF,zG,zH,zI,zJ,zK,zL,zM,zN,zO,zP]at hcd);try cbv)
      | (refine qP ?_ (c18) ?hfit
         case hfit=>((repeat' (first|exact qB|refine qD ?_ ?_|exact qE (by rfl)|exact qF (by rfl)|exact Fit.refl _|exact qA|refine qC ?_ rfl ?_));done)
         try cbv)
      | (refine qP ?_ (c21) ?hfit
         case hfit=>((repeat' (first|exact qB|refine qD ?_ ?_|exact qE (by rfl)|exact qF (by rfl)|exact Fit.refl _|exact qA|refine qC ?_ rfl ?_));done)
         try cbv)
      | (refine qP ?_ (c24) ?hfit
         case hfit=>((repeat' (first|exact qB|refine qD ?_ ?_|exact qE (by rfl)|exact qF (by rfl)|exact Fit.refl _|exact qA|refine qC ?_ rfl ?_));done)
         try cbv)
      | (refine qP ?_ (c23) ?hfit
         case hfit=>((repeat' (first|exact qB|refine qD ?_ ?_|exact qE (by rfl)|exact qF (by rfl)|exact Fit.refl _|exact qA|refine qC ?_ rfl ?_));done)
         try cbv)
      | (refine qP ?_ (c22) ?hfit
         case hfit=>((repeat' (first|exact qB|refine qD ?_ ?_|exact qE (by rfl)|exact qF (by rfl)|exact Fit.refl _|exact qA|refine qC ?_ rfl ?_));done)
         try cbv)
      |fail)
  all_goals first
    |trivial
    |((try simp only [qV]at *);(try simp only [zQ,zA,zB,zC,zD,zE,zF,zG,zH,zI,zJ,zK,zL,zM,zN,zO,zP,zR,zS]at *);first|(refine qN ?_;omega)|(simp only [Hold];omega))
    |(subst hR;(repeat' (first|exact qA|exact qB|refine qC ?_ rfl ?_|refine qD ?_ ?_|exact qE (by rfl)|exact qF (by rfl)|exact Fit.refl _|exact qG _|(refine qE ?_;(try simp only [qV]at *);simp only [zQ,zA,zB,zC,zD,zE,zF,zG,zH,zI,zJ,zK,zL,zM,zN,zO,zP,zR,zS]at *;omega)));done)
    |(exact Bool.noConfusion (ht.symm.trans (by assumption:thinS tw tm tv cs=false)))
    |(exact(hcd rfl).elim)
    |(exact(hf0 (by assumption)).elim)
    |(simp only [Hold];exact⟨h35,rfl⟩)
    |(exact(hcd hf1).elim)
    |(simp only [Hold];decide)
    |skip
  refine⟨none,[],{i:Nat // i≤cs.length},fun x=>⟨[(1,.own 0 0),(3,.own 16 0),(5,.own 22 0),(6,(.int .i64 (.sym fun _=>zi x.1)))],[(22,.cells [(.sl 1 (.sym fun _=>zi (tw).length) (fun ix=>[.int .i64 (.sym fun _=>(tw).getD ix.den.toNat 0)])),(.sl 1 (.sym fun _=>zi (tm).length) (fun ix=>[.int .i64 (.sym fun _=>(tm).getD ix.den.toNat 0)])),(.sl 1 (.sym fun _=>zi (tv).length) (fun ix=>[(.sl 1 (.sym fun _=>zi ((tv).getD ix.den.toNat []).length) (fun jx=>[.int .i64 (.sym fun _=>((tv).getD ix.den.toNat []).getD jx.den.toNat 0)]))])),(.int .i64 (.sym fun _=>rate)),.any] 28),(16,.cells [(.int .i64 (.sym fun _=>dutyP rate cs (loA tw tm tv cs cs.length) cs.length-dutyP rate cs (loA tw tm tv cs cs.length) x.1)),(.int .i64 (.sym fun _=>dutyP rate cs (hiA tw tm tv cs cs.length) cs.length-dutyP rate cs (hiA tw tm tv cs cs.length) x.1))] 35),(0,.cells [(.sl 1 (.sym fun _=>zi (tw).length) (fun ix=>[.int .i64 (.sym fun _=>(tw).getD ix.den.toNat 0)])),(.sl 1 (.sym fun _=>zi (tm).length) (fun ix=>[.int .i64 (.sym fun _=>(tm).getD ix.den.toNat 0)])),(.sl 1 (.sym fun _=>zi (tv).length) (fun ix=>[(.sl 1 (.sym fun _=>zi ((tv).getD ix.den.toNat []).length) (fun jx=>[.int .i64 (.sym fun _=>((tv).getD ix.den.toNat []).getD jx.den.toNat 0)]))])),(.int .i64 (.sym fun _=>rate)),(.sl 5 (.sym fun _=>zi (cs).length) (fun ix=>[(.int .i64 (.sym fun _=>((cs).getD ix.den.toNat ck0).g)),(.int .i64 (.sym fun _=>((cs).getD ix.den.toNat ck0).wl)),(.int .i64 (.sym fun _=>((cs).getD ix.den.toNat ck0).wh)),(.int .i64 (.sym fun _=>((cs).getD ix.den.toNat ck0).ml)),(.int .i64 (.sym fun _=>((cs).getD ix.den.toNat ck0).mh))]))] 28)],60⟩,fun x=>cs.length-x.1,?_,?_⟩
  · refine⟨⟨0,by omega⟩,?_⟩
    cbv
    repeat' (first
      |with_reducible refine hold ?_ ?_
      |with_reducible refine And.intro ?_ ?_)
    all_goals first
      |trivial
      |exact qM (qE (by rfl))
      |exact qM (qF (by rfl))
      |exact qM (Fit.refl _)
      |exact qL (qK _)
      |(refine qM (qE ?_);(try simp only [qV]at *);simp only [zQ,zA,zB,zC,zD,zE,zF,zG,zH,zI,zJ,zK,zL,zM,zN,zO,zP,zR,zS]at *;omega)
      |(refine qL (qJ ?_);(first|((repeat' (first|exact qA|exact qB|refine qC ?_ rfl ?_|refine qD ?_ ?_|exact qE (by rfl)|exact qF (by rfl)|exact Fit.refl _|exact qG _|(refine qE ?_;(try simp only [qV]at *);simp only [zQ,zA,zB,zC,zD,zE,zF,zG,zH,zI,zJ,zK,zL,zM,zN,zO,zP,zR,zS]at *;omega)));done)|(refine qC (qE ?_) rfl (qC (qE ?_) rfl qA)<;>(simp only [den_sym,dutyP];omega))))
      |skip
  · rintro ⟨i,hi⟩
    cbv
    repeat' (first
        |with_reducible refine hold ?_ ?_
        |with_reducible refine And.intro ?_ ?_
        | (with_reducible refine qS ?_ ?_ ?_
           try cbv)
        | (with_reducible refine qT ?_ ?_
           try cbv)
        |(with_reducible intro hcd;(try simp only [zA,zB,zC,zD,zE,zF,zG,zH,zI,zJ,zK,zL,zM,zN,zO,zP]at hcd);try cbv)
        | (refine qP ?_ (c18) ?hfit
           case hfit=>((repeat' (first|exact qB|refine qD ?_ ?_|exact qE (by rfl)|exact qF (by rfl)|exact Fit.refl _|exact qA|refine qC ?_ rfl ?_));done)
           try cbv)
        | (refine qP ?_ (c21) ?hfit
           case hfit=>((repeat' (first|exact qB|refine qD ?_ ?_|exact qE (by rfl)|exact qF (by rfl)|exact Fit.refl _|exact qA|refine qC ?_ rfl ?_));done)
           try cbv)
        | (refine qP ?_ (c24) ?hfit
           case hfit=>((repeat' (first|exact qB|refine qD ?_ ?_|exact qE (by rfl)|exact qF (by rfl)|exact Fit.refl _|exact qA|refine qC ?_ rfl ?_));done)
           try cbv)
        | (refine qP ?_ (c23o i (show Hold _ from ?_)) ?hfit
           case hfit=>((repeat' (first|(refine fit_sl ?_ (fun ix h0 h1=> ?_);(first|rfl|((try simp only [qV]at *);(try simp only [zQ,zA,zB,zC,zD,zE,zF,zG,zH,zI,zJ,zK,zL,zM,zN,zO,zP,zR,zS]at *);(try simp only [List.length_cons,List.length_nil]);omega));(have hz:ix.den=0:=(by(try simp only [qV]at *);(try simp only [zQ,zA,zB,zC,zD,zE,zF,zG,zH,zI,zJ,zK,zL,zM,zN,zO,zP,zR,zS]at *);omega));(have hz2:ix.den.toNat=0:=(by omega));(repeat' (first|exact qA|exact qO (by rfl)|refine qC (qE ?_) rfl ?_))<;>((try simp only [qV]at *);(try simp only [zQ,zA,zB,zC,zD,zE,zF,zG,zH,zI,zJ,zK,zL,zM,zN,zO,zP,zR,zS]at *);simp only [hz,hz2];first|rfl|(simp;done)))|exact qB|refine qD ?_ ?_|exact qE (by rfl)|exact qF (by rfl)|exact Fit.refl _|exact qA|exact qO (by rfl)|refine qC ?_ rfl ?_));done)
           try cbv)
        | (refine qP ?_ (c22o i (show Hold _ from ?_)) ?hfit
           case hfit=>((repeat' (first|(refine fit_sl ?_ (fun ix h0 h1=> ?_);(first|rfl|((try simp only [qV]at *);(try simp only [zQ,zA,zB,zC,zD,zE,zF,zG,zH,zI,zJ,zK,zL,zM,zN,zO,zP,zR,zS]at *);(try simp only [List.length_cons,List.length_nil]);omega));(have hz:ix.den=0:=(by(try simp only [qV]at *);(try simp only [zQ,zA,zB,zC,zD,zE,zF,zG,zH,zI,zJ,zK,zL,zM,zN,zO,zP,zR,zS]at *);omega));(have hz2:ix.den.toNat=0:=(by omega));(repeat' (first|exact qA|exact qO (by rfl)|refine qC (qE ?_) rfl ?_))<;>((try simp only [qV]at *);(try simp only [zQ,zA,zB,zC,zD,zE,zF,zG,zH,zI,zJ,zK,zL,zM,zN,zO,zP,zR,zS]at *);simp only [hz,hz2];first|rfl|(simp;done)))|exact qB|refine qD ?_ ?_|exact qE (by rfl)|exact qF (by rfl)|exact Fit.refl _|exact qA|exact qO (by rfl)|refine qC ?_ rfl ?_));done)
           try cbv)
        | (refine qP ?_ (c23n) ?hfit
           case hfit=>((repeat' (first|(refine fit_sl ?_ (fun ix h0 h1=> ?_);(first|rfl|((try simp only [qV]at *);(try simp only [zQ,zA,zB,zC,zD,zE,zF,zG,zH,zI,zJ,zK,zL,zM,zN,zO,zP,zR,zS]at *);(try simp only [List.length_cons,List.length_nil]);omega));(have hz:ix.den=0:=(by(try simp only [qV]at *);(try simp only [zQ,zA,zB,zC,zD,zE,zF,zG,zH,zI,zJ,zK,zL,zM,zN,zO,zP,zR,zS]at *);omega));(have hz2:ix.den.toNat=0:=(by omega));(repeat' (first|exact qA|exact qO (by rfl)|refine qC (qE ?_) rfl ?_))<;>((try simp only [qV]at *);(try simp only [zQ,zA,zB,zC,zD,zE,zF,zG,zH,zI,zJ,zK,zL,zM,zN,zO,zP,zR,zS]at *);simp only [hz,hz2];first|rfl|(simp;done)))|exact qB|refine qD ?_ ?_|exact qE (by rfl)|exact qF (by rfl)|exact Fit.refl _|exact qA|exact qO (by rfl)|refine qC ?_ rfl ?_));done)
           try cbv)
        | (refine qP ?_ (c22n) ?hfit
           case hfit=>((repeat' (first|(refine fit_sl ?_ (fun ix h0 h1=> ?_);(first|rfl|((try simp only [qV]at *);(try simp only [zQ,zA,zB,zC,zD,zE,zF,zG,zH,zI,zJ,zK,zL,zM,zN,zO,zP,zR,zS]at *);(try simp only [List.length_cons,List.length_nil]);omega));(have hz:ix.den=0:=(by(try simp only [qV]at *);(try simp only [zQ,zA,zB,zC,zD,zE,zF,zG,zH,zI,zJ,zK,zL,zM,zN,zO,zP,zR,zS]at *);omega));(have hz2:ix.den.toNat=0:=(by omega));(repeat' (first|exact qA|exact qO (by rfl)|refine qC (qE ?_) rfl ?_))<;>((try simp only [qV]at *);(try simp only [zQ,zA,zB,zC,zD,zE,zF,zG,zH,zI,zJ,zK,zL,zM,zN,zO,zP,zR,zS]at *);simp only [hz,hz2];first|rfl|(simp;done)))|exact qB|refine qD ?_ ?_|exact qE (by rfl)|exact qF (by rfl)|exact Fit.refl _|exact qA|exact qO (by rfl)|refine qC ?_ rfl ?_));done)
           try cbv)
        | (refine⟨(16:Nat),?_⟩
           cbv)
        |fail)
    all_goals first
      |trivial
      |((try simp only [qV]at *);(try simp only [zQ,zA,zB,zC,zD,zE,zF,zG,zH,zI,zJ,zK,zL,zM,zN,zO,zP,zR,zS]at *);first|(refine qN ?_;omega)|(simp only [Hold];omega))
      |(subst hR;(repeat' (first|exact qA|exact qB|refine qC ?_ rfl ?_|refine qD ?_ ?_|exact qE (by rfl)|exact qF (by rfl)|exact Fit.refl _|exact qG _|(refine qE ?_;(try simp only [qV]at *);simp only [zQ,zA,zB,zC,zD,zE,zF,zG,zH,zI,zJ,zK,zL,zM,zN,zO,zP,zR,zS]at *;omega)));done)
      |((have hlt:i<cs.length:=by((try simp only [qV]at *);(try simp only [zQ,zA,zB,zC,zD,zE,zF,zG,zH,zI,zJ,zK,zL,zM,zN,zO,zP,zR,zS]at *);omega));(have hd1:=duty_bd hS (l:=(loA tw tm tv cs cs.length)) (fun j=>by have:=lo_bd hS j;omega) (n:=i) hi);(have hd2:=duty_bd hS (l:=(hiA tw tm tv cs cs.length)) (fun j=>by have:=lo_bd hS j;omega) (n:=i) hi);(have hd3:=duty_bd hS (l:=(loA tw tm tv cs cs.length)) (fun j=>by have:=lo_bd hS j;omega) (Nat.le_refl _));(have hd4:=duty_bd hS (l:=(hiA tw tm tv cs cs.length)) (fun j=>by have:=lo_bd hS j;omega) (Nat.le_refl _));(have hg:=hS.gal i hlt);(have hb:=s_bd hS.t (hS.box i hlt));(have ht1:=tenths_bd (g:=(cs.getD i ck0).g) (s:=sLo tw tm tv (cs.getD i ck0)) (by omega) hg.2 (by omega) (by omega));(have ht2:=tenths_bd (g:=(cs.getD i ck0).g) (s:=sHi tw tm tv (cs.getD i ck0)) (by omega) hg.2 (by omega) (by omega));(have ho1:=owed_bd ht1.1 ht1.2 hS.rate.1 hS.rate.2);(have ho2:=owed_bd ht2.1 ht2.2 hS.rate.1 hS.rate.2);(try simp only [qV]at *);(try simp only [zQ,zA,zB,zC,zD,zE,zF,zG,zH,zI,zJ,zK,zL,zM,zN,zO,zP,zR,zS]at *);first|(refine qN ?_;omega)|(simp only [Hold];omega))
      |(simp only [Hold];exact⟨h35,rfl⟩)
      |(exfalso;(have hie:i=cs.length:=by((try simp only [qV]at *);(try simp only [zQ,zA,zB,zC,zD,zE,zF,zG,zH,zI,zJ,zK,zL,zM,zN,zO,zP,zR,zS]at *);omega));subst hie;apply hcd;(simp only [dens,den_sym,den_lit];congr 2<;>omega))
      |((try simp only [zQ,zA,zB,zC,zD,zE,zF,zG,zH,zI,zJ,zK,zL,zM,zN,zO,zP,zR,zS]at *);(have hlt:i<cs.length:=by((try simp only [qV]at *);(try simp only [zQ,zA,zB,zC,zD,zE,zF,zG,zH,zI,zJ,zK,zL,zM,zN,zO,zP,zR,zS]at *);omega));refine⟨⟨i+1,by((try simp only [qV]at *);(try simp only [zQ,zA,zB,zC,zD,zE,zF,zG,zH,zI,zJ,zK,zL,zM,zN,zO,zP,zR,zS]at *);omega)⟩,by simp only [];omega,?_⟩;cbv;(repeat' (first|with_reducible refine hold ?_ ?_|with_reducible refine And.intro ?_ ?_));(all_goals first|trivial|exact qM (qE (by rfl))|exact qM (qF (by rfl))|exact qM (Fit.refl _)|exact qL (qK _)|(refine qM (qE ?_);(try simp only [qV]at *);simp only [zQ,zA,zB,zC,zD,zE,zF,zG,zH,zI,zJ,zK,zL,zM,zN,zO,zP,zR,zS]at *;omega)|(refine qL (qJ ?_);refine qC (qE ?_) rfl (qC (qE ?_) rfl qA);(simp only [dutyP];rw [loA_k hlt];(try simp only [qV]at *);(try simp only [zQ,zA,zB,zC,zD,zE,zF,zG,zH,zI,zJ,zK,zL,zM,zN,zO,zP,zR,zS]at *);omega);(simp only [dutyP];rw [hiA_k hlt];(try simp only [qV]at *);(try simp only [zQ,zA,zB,zC,zD,zE,zF,zG,zH,zI,zJ,zK,zL,zM,zN,zO,zP,zR,zS]at *);omega))|(refine qL (qJ ?_);(repeat' (first|exact qA|exact qB|refine qC ?_ rfl ?_|refine qD ?_ ?_|exact qE (by rfl)|exact qF (by rfl)|exact Fit.refl _|exact qG _|(refine qE ?_;(try simp only [qV]at *);simp only [zQ,zA,zB,zC,zD,zE,zF,zG,zH,zI,zJ,zK,zL,zM,zN,zO,zP,zR,zS]at *;omega)));done)|skip))
      |(simp only [Hold];decide)
      |skip
theorem law13 (tw tm:List Int)(tv:List (List Int))(rate:Int)(cs:List Csk):FSpec Try.prog 13 [(stoS tw tm tv rate cs)] [] (fun r _=>r = .bool (.lit true)):=by
  rcases rdy13 tw tm tv rate cs with⟨h1,h2⟩|h|h
  · exact law13y tw tm tv rate cs h1 h2
  · exact law13t tw tm tv rate cs h
  · exact law13f tw tm tv rate cs h
end Go.Proofs.Ytkdgpdlfakcgdaa
