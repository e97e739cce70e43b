/- Contracts of the functions that the laws come to. No condition. -/
import Derived.Test.YtkdgpdlfakcgdaaT5
set_option linter.unusedVariables false
set_option linter.unusedSimpArgs false
set_option linter.deprecated false
set_option linter.all false

namespace Go.Proofs.Ytkdgpdlfakcgdaa
open Go Go.Eng Go.Proofs
set_option maxRecDepth 10000
theorem fewest35e (tw tm:List Int)(tv:List (List Int))(rate:Int)(cs:List Csk)(a b:Int)(hf0:faultS tw tm tv rate cs≠0):FSpec Try.prog 35 [(stoS tw tm tv rate cs),(.agg [(.int .i64 (.sym fun _=>a)),(.int .i64 (.sym fun _=>b))])] [] (fun r _=>r=(.tup [(.val (.slice none 0 0)),(.int .i64 (.sym fun _=>faultS tw tm tv rate cs))])):=by
  have c59:=open59b tw tm tv rate cs hf0
  refine FSpec.is fun R hR=>qW (sc:=sc35) tyok mix Try.func35 rfl Try.call35 (by kernel_rfl) (by kernel_rfl) ?_
  generalize Try.prog=P at c59⊢
  cbv
  repeat' (first
      |with_reducible refine hold ?_ ?_
      |with_reducible refine And.intro ?_ ?_
      | (with_reducible refine qS ?_ ?_ ?_
         try cbv)
      | (with_reducible refine qT ?_ ?_
         try cbv)
      |(with_reducible intro hcd;(try simp only [zA,zB,zC,zD,zE,zF,zG,zH,zI,zJ,zK,zL,zM,zN,zO,zP]at hcd);try cbv)
      | (refine qP ?_ (c59) ?hfit
         case hfit=>((repeat' (first|exact qB|refine qD ?_ ?_|exact qE (by rfl)|exact qF (by rfl)|exact Fit.refl _|exact qA|refine qC ?_ rfl ?_));done)
         try cbv)
      |fail)
  all_goals first
    |trivial
    |((try simp only [qV]at *);(try simp only [zQ,zA,zB,zC,zD,zE,zF,zG,zH,zI,zJ,zK,zL,zM,zN,zO,zP,zR,zS]at *);first|(refine qN ?_;omega)|(simp only [Hold];omega))
    |(subst hR;(repeat' (first|exact qA|exact qB|refine qC ?_ rfl ?_|refine qD ?_ ?_|exact qE (by rfl)|exact qF (by rfl)|exact Fit.refl _|exact qG _|(refine qE ?_;(try simp only [qV]at *);simp only [zQ,zA,zB,zC,zD,zE,zF,zG,zH,zI,zJ,zK,zL,zM,zN,zO,zP,zR,zS]at *;omega)));done)
    |(exfalso;simp_all;omega)
    |skip
theorem fewest35r (tw tm:List Int)(tv:List (List Int))(rate:Int)(cs:List Csk)(a b:Int)(hS:SOk tw tm tv rate cs)(hab:b<a):FSpec Try.prog 35 [(stoS tw tm tv rate cs),(.agg [(.int .i64 (.sym fun _=>a)),(.int .i64 (.sym fun _=>b))])] [] (fun r _=>r=(.tup [(.val (.slice none 0 0)),(.int .i64 (.sym fun _=>2))])):=by
  have c59:=open59 tw tm tv rate cs hS
  refine FSpec.is fun R hR=>qW (sc:=sc35) tyok mix Try.func35 rfl Try.call35 (by kernel_rfl) (by kernel_rfl) ?_
  generalize Try.prog=P at c59⊢
  cbv
  repeat' (first
      |with_reducible refine hold ?_ ?_
      |with_reducible refine And.intro ?_ ?_
      | (with_reducible refine qS ?_ ?_ ?_
         try cbv)
      | (with_reducible refine qT ?_ ?_
         try cbv)
      |(with_reducible intro hcd;(try simp only [zA,zB,zC,zD,zE,zF,zG,zH,zI,zJ,zK,zL,zM,zN,zO,zP]at hcd);try cbv)
      | (refine qP ?_ (c59) ?hfit
         case hfit=>((repeat' (first|exact qB|refine qD ?_ ?_|exact qE (by rfl)|exact qF (by rfl)|exact Fit.refl _|exact qA|refine qC ?_ rfl ?_));done)
         try cbv)
      |fail)
  all_goals first
    |trivial
    |((try simp only [qV]at *);(try simp only [zQ,zA,zB,zC,zD,zE,zF,zG,zH,zI,zJ,zK,zL,zM,zN,zO,zP,zR,zS]at *);first|(refine qN ?_;omega)|(simp only [Hold];omega))
    |(subst hR;(repeat' (first|exact qA|exact qB|refine qC ?_ rfl ?_|refine qD ?_ ?_|exact qE (by rfl)|exact qF (by rfl)|exact Fit.refl _|exact qG _|(refine qE ?_;(try simp only [qV]at *);simp only [zQ,zA,zB,zC,zD,zE,zF,zG,zH,zI,zJ,zK,zL,zM,zN,zO,zP,zR,zS]at *;omega)));done)
    |(exfalso;simp_all;omega)
    |skip
theorem fewest35 (tw tm:List Int)(tv:List (List Int))(rate:Int)(cs:List Csk)(a b:Int)(F:List Int)(hS:SOk tw tm tv rate cs)(hab:a≤b)(hch:fewP cs.length (surB cs (fun j=>sLo tw tm tv (cs.getD j ck0)) (fun j=>sHi tw tm tv (cs.getD j ck0)) a b)=some F):FSpec Try.prog 35 [(stoS tw tm tv rate cs),(.agg [(.int .i64 (.sym fun _=>a)),(.int .i64 (.sym fun _=>b))])] [] (fun r _=>r=(.tup [(.sl 1 (.sym fun _=>zi (F).length) (fun ix=>[.int .i64 (.sym fun _=>(F).getD ix.den.toNat 0)])),(.int .i64 (.sym fun _=>0))])):=by
  have c59:=open59 tw tm tv rate cs hS
  have c68:=choose68 tw tm tv rate cs a b hS
  refine FSpec.is fun R hR=>qW (sc:=sc35) tyok mix Try.func35 rfl Try.call35 (by kernel_rfl) (by kernel_rfl) ?_
  generalize Try.prog=P at c59 c68⊢
  cbv
  have hfew:=hS.few
  repeat' (first
      |with_reducible refine hold ?_ ?_
      |with_reducible refine And.intro ?_ ?_
      | (with_reducible refine qS ?_ ?_ ?_
         try cbv)
      | (with_reducible refine qT ?_ ?_
         try cbv)
      |(with_reducible intro hcd;(try simp only [zA,zB,zC,zD,zE,zF,zG,zH,zI,zJ,zK,zL,zM,zN,zO,zP]at hcd);try cbv)
      | (refine qP ?_ (c59) ?hfit
         case hfit=>((repeat' (first|exact qB|refine qD ?_ ?_|exact qE (by rfl)|exact qF (by rfl)|exact Fit.refl _|exact qA|refine qC ?_ rfl ?_));done)
         try cbv)
      |fail)
  all_goals first
    |trivial
    |((try simp only [qV]at *);(try simp only [zQ,zA,zB,zC,zD,zE,zF,zG,zH,zI,zJ,zK,zL,zM,zN,zO,zP,zR,zS]at *);first|(refine qN ?_;omega)|(simp only [Hold];omega))
    |(subst hR;(repeat' (first|exact qA|exact qB|refine qC ?_ rfl ?_|refine qD ?_ ?_|exact qE (by rfl)|exact qF (by rfl)|exact Fit.refl _|exact qG _|(refine qE ?_;(try simp only [qV]at *);simp only [zQ,zA,zB,zC,zD,zE,zF,zG,zH,zI,zJ,zK,zL,zM,zN,zO,zP,zR,zS]at *;omega)));done)
    |(exfalso;(try simp only [qV]at *);(try simp only [zQ,zA,zB,zC,zD,zE,zF,zG,zH,zI,zJ,zK,zL,zM,zN,zO,zP,zR,zS]at *);omega)
    |skip
  refine⟨none,[],{x:Nat // x≤cs.length∧firstOf (fun m=>chooseL cs.length (surB cs (fun j=>sLo tw tm tv (cs.getD j ck0)) (fun j=>sHi tw tm tv (cs.getD j ck0)) a b) (m+1) [] 0) (cs.length-x) x=some F},fun x=>⟨[(8,.own 21 0),(9,.own 22 0),(10,(.bool (.lit false))),(33,(.int .i64 (.sym fun _=>zi cs.length))),(34,(.int .i64 (.sym fun _=>zi x.1)))],[(21,.cells [.any] 22),(9,.cells [(wrkS tw tm tv rate cs)] 105),(1,.cells [(.int .i64 (.sym fun _=>a)),(.int .i64 (.sym fun _=>b))] 35),(22,.cells [.clo 68 [] [.own 21 0,.own 9 0,.own 1 0,.own 22 0]] 123)],60⟩,fun x=>cs.length-x.1,?_,?_⟩
  · refine⟨⟨0,by omega,hch⟩,?_⟩
    cbv
    repeat' (first
      |with_reducible refine hold ?_ ?_
      |with_reducible refine And.intro ?_ ?_)
    all_goals first
      |trivial
      |exact qM (qE (by rfl))
      |exact qM (qF (by rfl))
      |exact qM (Fit.refl _)
      |exact qL (qK _)
      |(refine qM (qE ?_);(try simp only [qV]at *);simp only [zQ,zA,zB,zC,zD,zE,zF,zG,zH,zI,zJ,zK,zL,zM,zN,zO,zP,zR,zS]at *;omega)
      |(refine qL (qJ ?_);(repeat' (first|exact qA|exact qB|refine qC ?_ rfl ?_|refine qD ?_ ?_|exact qE (by rfl)|exact qF (by rfl)|exact Fit.refl _|exact qG _|(refine qE ?_;(try simp only [qV]at *);simp only [zQ,zA,zB,zC,zD,zE,zF,zG,zH,zI,zJ,zK,zL,zM,zN,zO,zP,zR,zS]at *;omega)));done)
      |skip
  · rintro ⟨x,h2,h3⟩
    cbv
    repeat' (first
        |with_reducible refine hold ?_ ?_
        |with_reducible refine And.intro ?_ ?_
        | (with_reducible refine qS ?_ ?_ ?_
           try cbv)
        | (with_reducible refine qT ?_ ?_
           try cbv)
        |(with_reducible intro hcd;(try simp only [zA,zB,zC,zD,zE,zF,zG,zH,zI,zJ,zK,zL,zM,zN,zO,zP]at hcd);try cbv)
        |((rcases hcj:chooseL cs.length (surB cs (fun j=>sLo tw tm tv (cs.getD j ck0)) (fun j=>sHi tw tm tv (cs.getD j ck0)) a b) (x+1) [] 0 with _|G)<;>(first|(refine⟨some [21,9,1,22],?_⟩;cbv;refine qQ ?_ ((c68 (x+1) [] 0 0 (zi x+1) rfl (by(try simp only [qV]);simp only [zi_den];omega) ⟨by simp,fun j hj=>by simp at hj⟩ (by simp) (by((try simp only [qV]at *);(try simp only [zQ,zA,zB,zC,zD,zE,zF,zG,zH,zI,zJ,zK,zL,zM,zN,zO,zP,zR,zS]at *);omega)) (fun h=>by omega)).2 hcj) (by cbv;refine qD (qO rfl) ?_;(repeat' (first|exact qB|refine qD ?_ ?_|exact qE (by rfl)|exact qF (by rfl)|exact Fit.refl _|exact qA|refine qC ?_ rfl ?_))) (by cbv;(repeat' (first|exact qH|refine qI ?_ ?_|exact qK _|refine qJ ?_|exact qA|exact qE (by rfl)|exact qF (by rfl)|exact Fit.refl _|exact qG _|refine qC ?_ rfl ?_)));(try cbv))|(refine⟨some [21,9,1,22],?_⟩;cbv;refine qQ ?_ ((c68 (x+1) [] 0 0 (zi x+1) rfl (by(try simp only [qV]);simp only [zi_den];omega) ⟨by simp,fun j hj=>by simp at hj⟩ (by simp) (by((try simp only [qV]at *);(try simp only [zQ,zA,zB,zC,zD,zE,zF,zG,zH,zI,zJ,zK,zL,zM,zN,zO,zP,zR,zS]at *);omega)) (fun h=>by omega)).1 G hcj) (by cbv;refine qD (qO rfl) ?_;(repeat' (first|exact qB|refine qD ?_ ?_|exact qE (by rfl)|exact qF (by rfl)|exact Fit.refl _|exact qA|refine qC ?_ rfl ?_))) (by cbv;(repeat' (first|exact qH|refine qI ?_ ?_|exact qK _|refine qJ ?_|exact qA|exact qE (by rfl)|exact qF (by rfl)|exact Fit.refl _|exact qG _|refine qC ?_ rfl ?_)));(try cbv))))
        |fail)
    all_goals first
      |trivial
      |((try simp only [qV]at *);(try simp only [zQ,zA,zB,zC,zD,zE,zF,zG,zH,zI,zJ,zK,zL,zM,zN,zO,zP,zR,zS]at *);first|(refine qN ?_;omega)|(simp only [Hold];omega))
      |(subst hR;(repeat' (first|exact qA|exact qB|refine qC ?_ rfl ?_|refine qD ?_ ?_|exact qE (by rfl)|exact qF (by rfl)|exact Fit.refl _|exact qG _|(refine qE ?_;(try simp only [qV]at *);simp only [zQ,zA,zB,zC,zD,zE,zF,zG,zH,zI,zJ,zK,zL,zM,zN,zO,zP,zR,zS]at *;omega)));done)
      |((try simp only [qV]at *);(try simp only [zQ,zA,zB,zC,zD,zE,zF,zG,zH,zI,zJ,zK,zL,zM,zN,zO,zP,zR,zS]at *);simp only [Hold];omega)
      |(cases (firstOf_hit (f:=fun m=>chooseL cs.length (surB cs (fun j=>sLo tw tm tv (cs.getD j ck0)) (fun j=>sHi tw tm tv (cs.getD j ck0)) a b) (m+1) [] 0) (k:=cs.length-x) (i:=x) (by((try simp only [qV]at *);(try simp only [zQ,zA,zB,zC,zD,zE,zF,zG,zH,zI,zJ,zK,zL,zM,zN,zO,zP,zR,zS]at *);omega)) hcj).symm.trans h3;done)
      |(cases (firstOf_hit (f:=fun m=>chooseL cs.length (surB cs (fun j=>sLo tw tm tv (cs.getD j ck0)) (fun j=>sHi tw tm tv (cs.getD j ck0)) a b) (m+1) [] 0) (k:=cs.length-x) (i:=x) (by((try simp only [qV]at *);(try simp only [zQ,zA,zB,zC,zD,zE,zF,zG,zH,zI,zJ,zK,zL,zM,zN,zO,zP,zR,zS]at *);omega)) hcj).symm.trans h3;subst hR;(repeat' (first|exact qA|exact qB|refine qC ?_ rfl ?_|refine qD ?_ ?_|exact qE (by rfl)|exact qF (by rfl)|exact Fit.refl _|exact qG _|(refine qE ?_;(try simp only [qV]at *);simp only [zQ,zA,zB,zC,zD,zE,zF,zG,zH,zI,zJ,zK,zL,zM,zN,zO,zP,zR,zS]at *;omega)));done)
      |((have hz:cs.length-x=0:=by((try simp only [qV]at *);(try simp only [zQ,zA,zB,zC,zD,zE,zF,zG,zH,zI,zJ,zK,zL,zM,zN,zO,zP,zR,zS]at *);omega));rw [hz]at h3;cases h3;done)
      |((try simp only [zQ,zA,zB,zC,zD,zE,zF,zG,zH,zI,zJ,zK,zL,zM,zN,zO,zP,zR,zS]at *);refine⟨⟨x+1,by omega,by rw [show cs.length-(x+1)=cs.length-x-1 by omega];exact(firstOf_go (f:=fun m=>chooseL cs.length (surB cs (fun j=>sLo tw tm tv (cs.getD j ck0)) (fun j=>sHi tw tm tv (cs.getD j ck0)) a b) (m+1) [] 0) (k:=cs.length-x) (i:=x) (by omega) hcj).symm.trans h3⟩,by simp only [];omega,?_⟩;cbv;(repeat' (first|with_reducible refine hold ?_ ?_|with_reducible refine And.intro ?_ ?_));(all_goals first|trivial|exact qM (qE (by rfl))|exact qM (qF (by rfl))|exact qM (Fit.refl _)|exact qL (qK _)|(refine qM (qE ?_);(try simp only [qV]at *);simp only [zQ,zA,zB,zC,zD,zE,zF,zG,zH,zI,zJ,zK,zL,zM,zN,zO,zP,zR,zS]at *;omega)|(refine qL (qJ ?_);(repeat' (first|exact qA|exact qB|refine qC ?_ rfl ?_|refine qD ?_ ?_|exact qE (by rfl)|exact qF (by rfl)|exact Fit.refl _|exact qG _|(refine qE ?_;(try simp only [qV]at *);simp only [zQ,zA,zB,zC,zD,zE,zF,zG,zH,zI,zJ,zK,zL,zM,zN,zO,zP,zR,zS]at *;omega)));done)|skip))
      |skip
theorem fewest35n (tw tm:List Int)(tv:List (List Int))(rate:Int)(cs:List Csk)(a b:Int)(hS:SOk tw tm tv rate cs)(hab:a≤b)(hch:fewP cs.length (surB cs (fun j=>sLo tw tm tv (cs.getD j ck0)) (fun j=>sHi tw tm tv (cs.getD j ck0)) a b)=none):FSpec Try.prog 35 [(stoS tw tm tv rate cs),(.agg [(.int .i64 (.sym fun _=>a)),(.int .i64 (.sym fun _=>b))])] [] (fun r _=>r=(.tup [(.val (.slice none 0 0)),(.int .i64 (.sym fun _=>7))])):=by
  have c59:=open59 tw tm tv rate cs hS
  have c68:=choose68 tw tm tv rate cs a b hS
  refine FSpec.is fun R hR=>qW (sc:=sc35) tyok mix Try.func35 rfl Try.call35 (by kernel_rfl) (by kernel_rfl) ?_
  generalize Try.prog=P at c59 c68⊢
  cbv
  have hfew:=hS.few
  repeat' (first
      |with_reducible refine hold ?_ ?_
      |with_reducible refine And.intro ?_ ?_
      | (with_reducible refine qS ?_ ?_ ?_
         try cbv)
      | (with_reducible refine qT ?_ ?_
         try cbv)
      |(with_reducible intro hcd;(try simp only [zA,zB,zC,zD,zE,zF,zG,zH,zI,zJ,zK,zL,zM,zN,zO,zP]at hcd);try cbv)
      | (refine qP ?_ (c59) ?hfit
         case hfit=>((repeat' (first|exact qB|refine qD ?_ ?_|exact qE (by rfl)|exact qF (by rfl)|exact Fit.refl _|exact qA|refine qC ?_ rfl ?_));done)
         try cbv)
      |fail)
  all_goals first
    |trivial
    |((try simp only [qV]at *);(try simp only [zQ,zA,zB,zC,zD,zE,zF,zG,zH,zI,zJ,zK,zL,zM,zN,zO,zP,zR,zS]at *);first|(refine qN ?_;omega)|(simp only [Hold];omega))
    |(subst hR;(repeat' (first|exact qA|exact qB|refine qC ?_ rfl ?_|refine qD ?_ ?_|exact qE (by rfl)|exact qF (by rfl)|exact Fit.refl _|exact qG _|(refine qE ?_;(try simp only [qV]at *);simp only [zQ,zA,zB,zC,zD,zE,zF,zG,zH,zI,zJ,zK,zL,zM,zN,zO,zP,zR,zS]at *;omega)));done)
    |(exfalso;(try simp only [qV]at *);(try simp only [zQ,zA,zB,zC,zD,zE,zF,zG,zH,zI,zJ,zK,zL,zM,zN,zO,zP,zR,zS]at *);omega)
    |skip
  refine⟨none,[],{x:Nat // x≤cs.length∧firstOf (fun m=>chooseL cs.length (surB cs (fun j=>sLo tw tm tv (cs.getD j ck0)) (fun j=>sHi tw tm tv (cs.getD j ck0)) a b) (m+1) [] 0) (cs.length-x) x=none},fun x=>⟨[(8,.own 21 0),(9,.own 22 0),(10,(.bool (.lit false))),(33,(.int .i64 (.sym fun _=>zi cs.length))),(34,(.int .i64 (.sym fun _=>zi x.1)))],[(21,.cells [.any] 22),(9,.cells [(wrkS tw tm tv rate cs)] 105),(1,.cells [(.int .i64 (.sym fun _=>a)),(.int .i64 (.sym fun _=>b))] 35),(22,.cells [.clo 68 [] [.own 21 0,.own 9 0,.own 1 0,.own 22 0]] 123)],60⟩,fun x=>cs.length-x.1,?_,?_⟩
  · refine⟨⟨0,by omega,hch⟩,?_⟩
    cbv
    repeat' (first
      |with_reducible refine hold ?_ ?_
      |with_reducible refine And.intro ?_ ?_)
    all_goals first
      |trivial
      |exact qM (qE (by rfl))
      |exact qM (qF (by rfl))
      |exact qM (Fit.refl _)
      |exact qL (qK _)
      |(refine qM (qE ?_);(try simp only [qV]at *);simp only [zQ,zA,zB,zC,zD,zE,zF,zG,zH,zI,zJ,zK,zL,zM,zN,zO,zP,zR,zS]at *;omega)
      |(refine qL (qJ ?_);(repeat' (first|exact qA|exact qB|refine qC ?_ rfl ?_|refine qD ?_ ?_|exact qE (by rfl)|exact qF (by rfl)|exact Fit.refl _|exact qG _|(refine qE ?_;(try simp only [qV]at *);simp only [zQ,zA,zB,zC,zD,zE,zF,zG,zH,zI,zJ,zK,zL,zM,zN,zO,zP,zR,zS]at *;omega)));done)
      |skip
  · rintro ⟨x,h2,h3⟩
    cbv
    repeat' (first
        |with_reducible refine hold ?_ ?_
        |with_reducible refine And.intro ?_ ?_
        | (with_reducible refine qS ?_ ?_ ?_
           try cbv)
        | (with_reducible refine qT ?_ ?_
           try cbv)
        |(with_reducible intro hcd;(try simp only [zA,zB,zC,zD,zE,zF,zG,zH,zI,zJ,zK,zL,zM,zN,zO,zP]at hcd);try cbv)
        |((rcases hcj:chooseL cs.length (surB cs (fun j=>sLo tw tm tv (cs.getD j ck0)) (fun j=>sHi tw tm tv (cs.getD j ck0)) a b) (x+1) [] 0 with _|G)<;>(first|(refine⟨some [21,9,1,22],?_⟩;cbv;refine qQ ?_ ((c68 (x+1) [] 0 0 (zi x+1) rfl (by(try simp only [qV]);simp only [zi_den];omega) ⟨by simp,fun j hj=>by simp at hj⟩ (by simp) (by((try simp only [qV]at *);(try simp only [zQ,zA,zB,zC,zD,zE,zF,zG,zH,zI,zJ,zK,zL,zM,zN,zO,zP,zR,zS]at *);omega)) (fun h=>by omega)).2 hcj) (by cbv;refine qD (qO rfl) ?_;(repeat' (first|exact qB|refine qD ?_ ?_|exact qE (by rfl)|exact qF (by rfl)|exact Fit.refl _|exact qA|refine qC ?_ rfl ?_))) (by cbv;(repeat' (first|exact qH|refine qI ?_ ?_|exact qK _|refine qJ ?_|exact qA|exact qE (by rfl)|exact qF (by rfl)|exact Fit.refl _|exact qG _|refine qC ?_ rfl ?_)));(try cbv))|(refine⟨some [21,9,1,22],?_⟩;cbv;refine qQ ?_ ((c68 (x+1) [] 0 0 (zi x+1) rfl (by(try simp only [qV]);simp only [zi_den];omega) ⟨by simp,fun j hj=>by simp at hj⟩ (by simp) (by((try simp only [qV]at *);(try simp only [zQ,zA,zB,zC,zD,zE,zF,zG,zH,zI,zJ,zK,zL,zM,zN,zO,zP,zR,zS]at *);omega)) (fun h=>by omega)).1 G hcj) (by cbv;refine qD (qO rfl) ?_;(repeat' (first|exact qB|refine qD ?_ ?_|exact qE (by rfl)|exact qF (by rfl)|exact Fit.refl _|exact qA|refine qC ?_ rfl ?_))) (by cbv;(repeat' (first|exact qH|refine qI ?_ ?_|exact qK _|refine qJ ?_|exact qA|exact qE (by rfl)|exact qF (by rfl)|exact Fit.refl _|exact qG _|refine qC ?_ rfl ?_)));(try cbv))))
        |fail)
    all_goals first
      |trivial
      |((try simp only [qV]at *);(try simp only [zQ,zA,zB,zC,zD,zE,zF,zG,zH,zI,zJ,zK,zL,zM,zN,zO,zP,zR,zS]at *);first|(refine qN ?_;omega)|(simp only [Hold];omega))
      |(subst hR;(repeat' (first|exact qA|exact qB|refine qC ?_ rfl ?_|refine qD ?_ ?_|exact qE (by rfl)|exact qF (by rfl)|exact Fit.refl _|exact qG _|(refine qE ?_;(try simp only [qV]at *);simp only [zQ,zA,zB,zC,zD,zE,zF,zG,zH,zI,zJ,zK,zL,zM,zN,zO,zP,zR,zS]at *;omega)));done)
      |((try simp only [qV]at *);(try simp only [zQ,zA,zB,zC,zD,zE,zF,zG,zH,zI,zJ,zK,zL,zM,zN,zO,zP,zR,zS]at *);simp only [Hold];omega)
      |(cases (firstOf_hit (f:=fun m=>chooseL cs.length (surB cs (fun j=>sLo tw tm tv (cs.getD j ck0)) (fun j=>sHi tw tm tv (cs.getD j ck0)) a b) (m+1) [] 0) (k:=cs.length-x) (i:=x) (by((try simp only [qV]at *);(try simp only [zQ,zA,zB,zC,zD,zE,zF,zG,zH,zI,zJ,zK,zL,zM,zN,zO,zP,zR,zS]at *);omega)) hcj).symm.trans h3;done)
      |(cases (firstOf_hit (f:=fun m=>chooseL cs.length (surB cs (fun j=>sLo tw tm tv (cs.getD j ck0)) (fun j=>sHi tw tm tv (cs.getD j ck0)) a b) (m+1) [] 0) (k:=cs.length-x) (i:=x) (by((try simp only [qV]at *);(try simp only [zQ,zA,zB,zC,zD,zE,zF,zG,zH,zI,zJ,zK,zL,zM,zN,zO,zP,zR,zS]at *);omega)) hcj).symm.trans h3;subst hR;(repeat' (first|exact qA|exact qB|refine qC ?_ rfl ?_|refine qD ?_ ?_|exact qE (by rfl)|exact qF (by rfl)|exact Fit.refl _|exact qG _|(refine qE ?_;(try simp only [qV]at *);simp only [zQ,zA,zB,zC,zD,zE,zF,zG,zH,zI,zJ,zK,zL,zM,zN,zO,zP,zR,zS]at *;omega)));done)
      |((have hz:cs.length-x=0:=by((try simp only [qV]at *);(try simp only [zQ,zA,zB,zC,zD,zE,zF,zG,zH,zI,zJ,zK,zL,zM,zN,zO,zP,zR,zS]at *);omega));rw [hz]at h3;cases h3;done)
      |((try simp only [zQ,zA,zB,zC,zD,zE,zF,zG,zH,zI,zJ,zK,zL,zM,zN,zO,zP,zR,zS]at *);refine⟨⟨x+1,by omega,by rw [show cs.length-(x+1)=cs.length-x-1 by omega];exact(firstOf_go (f:=fun m=>chooseL cs.length (surB cs (fun j=>sLo tw tm tv (cs.getD j ck0)) (fun j=>sHi tw tm tv (cs.getD j ck0)) a b) (m+1) [] 0) (k:=cs.length-x) (i:=x) (by omega) hcj).symm.trans h3⟩,by simp only [];omega,?_⟩;cbv;(repeat' (first|with_reducible refine hold ?_ ?_|with_reducible refine And.intro ?_ ?_));(all_goals first|trivial|exact qM (qE (by rfl))|exact qM (qF (by rfl))|exact qM (Fit.refl _)|exact qL (qK _)|(refine qM (qE ?_);(try simp only [qV]at *);simp only [zQ,zA,zB,zC,zD,zE,zF,zG,zH,zI,zJ,zK,zL,zM,zN,zO,zP,zR,zS]at *;omega)|(refine qL (qJ ?_);(repeat' (first|exact qA|exact qB|refine qC ?_ rfl ?_|refine qD ?_ ?_|exact qE (by rfl)|exact qF (by rfl)|exact Fit.refl _|exact qG _|(refine qE ?_;(try simp only [qV]at *);simp only [zQ,zA,zB,zC,zD,zE,zF,zG,zH,zI,zJ,zK,zL,zM,zN,zO,zP,zR,zS]at *;omega)));done)|skip))
      |skip
end Go.Proofs.Ytkdgpdlfakcgdaa

namespace Go.Proofs.Ytkdgpdlfakcgdaa
open Go Go.Eng Go.Proofs
def hasT (g a:Int)(n:Nat)(d:Int):Bool:=(List.range n).any fun j=>decide (d=tenthsP g (a+(j:Int)))
def canB (cs:List Csk)(lo hi:Nat→Int)(n:Nat)(ks:List Int):Bool:=decide (0≤ks.getD 0 0∧ks.getD 0 0<(n:Int))&&hasT (cs.getD (ks.getD 0 0).toNat ck0).g (lo (ks.getD 0 0).toNat) (hi (ks.getD 0 0).toNat-lo (ks.getD 0 0).toNat+1).toNat (ks.getD 1 0)
def canJ (cs:List Csk)(lo hi:Nat→Int)(n j:Nat)(ks:List Int):Bool:=canB cs lo hi n ks||(decide (ks.getD 0 0=(n:Int))&&hasT (cs.getD n ck0).g (lo n) j (ks.getD 1 0))
def canF (p:List Int→Bool)(ks:List Int):Option SV:=if p ks=true then some (.bool (.lit true))else none
theorem hasT_succ {g a d:Int} {n:Nat}:hasT g a (n+1) d=(hasT g a n d||decide (d=tenthsP g (a+(n:Int)))):=by
  simp [hasT,List.range_succ,List.any_append]
theorem canB_zero {cs:List Csk} {lo hi:Nat→Int}:canB cs lo hi 0=fun _=>false:=by
  funext ks
  simp only [canB,Bool.and_eq_false_iff,decide_eq_false_iff_not]
  left;omega
theorem canJ_zero {cs:List Csk} {lo hi:Nat→Int} {n:Nat}:canJ cs lo hi n 0=canB cs lo hi n:=by
  funext ks
  simp [canJ,hasT]
theorem canJ_all {cs:List Csk} {lo hi:Nat→Int} {n j:Nat}(hj:(j:Int)=hi n-lo n+1):canJ cs lo hi n j=canB cs lo hi (n+1):=by
  funext ks
  unfold canJ canB
  rw [show ∀x y:Bool,(x=y)=(x=true↔y=true)from fun x y=>by cases x<;>cases y<;>simp]
  simp only [Bool.or_eq_true,Bool.and_eq_true,decide_eq_true_eq]
  have hjn:(hi n-lo n+1).toNat=j:=by omega
  constructor
  · rintro(⟨h1,h2⟩|⟨h1,h2⟩)
    · exact⟨by omega,h2⟩
    · rw [h1,show((n:Int)).toNat=n from rfl,hjn];exact⟨by omega,h2⟩
  · rintro⟨h1,h2⟩
    by_cases q:ks.getD 0 0=(n:Int)
    · rw [q,show((n:Int)).toNat=n from rfl,hjn]at h2
      exact .inr ⟨q,h2⟩
    · exact .inl ⟨by omega,h2⟩
theorem le_true :Le (.bool (.lit true)) (.bool (.lit true)):=fun _ _ _ h=>h
theorem canF_upd {cs:List Csk} {lo hi:Nat→Int} {n j:Nat} {x d:Int} {f f':List Int→Option SV}(hf:f=canF (canJ cs lo hi n j))(hf':f'=canF (canJ cs lo hi n (j+1)))(hx:x=(n:Int))(hd:d=tenthsP (cs.getD n ck0).g (lo n+(j:Int))):MapUpd 2 f [x,d] (.bool (.lit true)) f':=by
  subst hf hf' hx hd
  intro ks hk
  match ks,hk with
  | [a, b],_=>
    refine⟨fun hq=> ?_,fun hq=> ?_⟩
    · simp only [List.cons.injEq,and_true]at hq
      obtain⟨rfl,rfl⟩:=hq
      have:canJ cs lo hi n (j+1) [(n:Int),tenthsP (cs.getD n ck0).g (lo n+(j:Int))]=true:=by
        simp [canJ,hasT_succ]
      simp only [canF,this,if_true]
      exact le_true
    · have:canJ cs lo hi n (j+1) [a,b]=canJ cs lo hi n j [a,b]:=by
        simp only [canJ,hasT_succ,List.getD_cons_zero,List.getD_cons_succ]
        by_cases h1:a=(n:Int)
        · have h2:b≠tenthsP (cs.getD n ck0).g (lo n+(j:Int)):=fun h2=>hq (by rw [h1,h2])
          rw [decide_eq_false h2,Bool.or_false]
        · rw [decide_eq_false h1];simp
      simp only [canF,this]
      cases canJ cs lo hi n j [a,b]with
      |true=>exact le_true
      |false=>trivial
theorem canF_zero {cs:List Csk} {lo hi:Nat→Int}:(fun _=>none)=canF (canB cs lo hi 0):=by
  funext ks
  rw [canB_zero];rfl
def decB (n:Nat)(D:List (Int×Int)):Bool:=decide (∀i,i<D.length→(decide (0≤(D.getD i (0,0)).1)&&decide ((D.getD i (0,0)).1≤(n:Int)-1))=true)
def falL (p:List Int→Bool)(D:List (Int×Int)):Nat→List Int
  |0=>[]
  |k+1=>if p [(D.getD k (0,0)).1,(D.getD k (0,0)).2]=true then falL p D k else falL p D k++[(k:Int)]
theorem falL_len {p:List Int→Bool} {D:List (Int×Int)}(k:Nat):(falL p D k).length≤k:=by
  induction k with
  |zero=>simp [falL]
  | succ k ih=>
    simp only [falL]
    split
    · omega
    · simp only [List.length_append,List.length_cons,List.length_nil];omega
theorem falL_y {p:List Int→Bool} {D:List (Int×Int)} {k:Nat}(h:p [(D.getD k (0,0)).1,(D.getD k (0,0)).2]=true):falL p D (k+1)=falL p D k:=by
  simp only [falL,h,if_true]
theorem falL_n {p:List Int→Bool} {D:List (Int×Int)} {k:Nat}(h:p [(D.getD k (0,0)).1,(D.getD k (0,0)).2]=false):falL p D (k+1)=falL p D k++[(k:Int)]:=by
  simp only [falL,h,if_false,Bool.false_eq_true]
theorem canF_some {p:List Int→Bool} {ks:List Int} {s:SV}(h:canF p ks=some s):p ks=true∧s = .bool (.lit true):=by
  unfold canF at h
  split at h
  · rename_i q;cases h;exact⟨q,rfl⟩
  · cases h
theorem canF_none {p:List Int→Bool} {ks:List Int}(h:canF p ks=none):p ks=false:=by
  unfold canF at h
  split at h
  · cases h
  · rename_i q;simpa using q
end Go.Proofs.Ytkdgpdlfakcgdaa

namespace Go.Proofs.Ytkdgpdlfakcgdaa
open Go Go.Eng Go.Proofs
set_option maxRecDepth 10000
theorem false74 (tw tm:List Int)(tv:List (List Int))(rate:Int)(cs:List Csk)(n:Nat)(d e:Int)(hn:n=cs.length∧n≤1000):FSpec Try.prog 74 [(.agg [(.int .i64 (.sym fun _=>d)),(.int .i64 (.sym fun _=>e))]),.own 0 0] [.cells [(wrkS tw tm tv rate cs)] 105] (fun r bs=>r=(.bool (.sym fun _=>decide (0≤d)&&decide (d≤(n:Int)-1)))∧bs=[.cells [(wrkS tw tm tv rate cs)] 105]):=by
  have c64:= @within64
  refine FSpec.isB rfl fun R B hR hB=>qW (sc:=sc74) tyok mix Try.func74 rfl Try.call74 (by kernel_rfl) (by kernel_rfl) ?_
  generalize Try.prog=P at c64⊢
  cbv
  repeat' (first
      |with_reducible refine hold ?_ ?_
      |with_reducible refine And.intro ?_ ?_
      | (with_reducible refine qS ?_ ?_ ?_
         try cbv)
      | (with_reducible refine qT ?_ ?_
         try cbv)
      |(with_reducible intro hcd;(try simp only [zA,zB,zC,zD,zE,zF,zG,zH,zI,zJ,zK,zL,zM,zN,zO,zP]at hcd);try cbv)
      | (refine qP ?_ (c64 _ _ _) (by(repeat' (first|exact qB|refine qD ?_ ?_|exact qE (by rfl)|exact qF (by rfl)|exact Fit.refl _|exact qA|refine qC ?_ rfl ?_)))
         try cbv)
      |fail)
  all_goals first
    |trivial
    |((try simp only [qV]at *);(try simp only [zQ,zA,zB,zC,zD,zE,zF,zG,zH,zI,zJ,zK,zL,zM,zN,zO,zP,zR,zS]at *);first|(refine qN ?_;omega)|(simp only [Hold];omega))
    |(subst hR;(repeat' (first|exact qA|exact qB|refine qC ?_ rfl ?_|refine qD ?_ ?_|exact qE (by rfl)|exact qF (by rfl)|exact Fit.refl _|exact qG _|(refine qE ?_;(try simp only [qV]at *);simp only [zQ,zA,zB,zC,zD,zE,zF,zG,zH,zI,zJ,zK,zL,zM,zN,zO,zP,zR,zS]at *;omega)));done)
    |(subst hR;(exact qF (by rw [hn.1];rfl));done)
    |(subst hB;(repeat' (first|exact qH|refine qI ?_ ?_|exact qK _|refine qJ ?_|exact qA|exact qE (by rfl)|exact qF (by rfl)|exact Fit.refl _|exact qG _|refine qC ?_ rfl ?_));done)
    |skip
theorem lam94_decl (tw tm:List Int)(tv:List (List Int))(rate:Int)(cs:List Csk)(n:Nat)(D:List (Int×Int))(hn:n=cs.length∧n≤1000)(hfew:D.length≤1000)(i:Nat)(hi:i<D.length∧∀j,j<i→(decide (0≤(D.getD (j) (0,0)).1)&&decide ((D.getD (j) (0,0)).1≤(n:Int)-1))=true):FSpec Try.prog 94 [(.agg [(.int .i64 (.sym fun _=>(D.getD (i) (0,0)).1)),(.int .i64 (.sym fun _=>(D.getD (i) (0,0)).2))]),.own 0 0] [.cells [.clo 74 [] [.own 1 0]] 128,.cells [(wrkS tw tm tv rate cs)] 105] (fun r bs=>r=(.bool (.sym fun _=> !(decide (0≤(D.getD (i) (0,0)).1)&&decide ((D.getD (i) (0,0)).1≤(n:Int)-1))))∧bs=[.cells [.clo 74 [] [.own 1 0]] 128,.cells [(wrkS tw tm tv rate cs)] 105]):=by
  have cf:=false74 tw tm tv rate cs n (D.getD i (0,0)).1 (D.getD i (0,0)).2 hn
  refine FSpec.isB rfl fun R B hR hB=>qW (sc:=sc94) tyok mix Try.func94 rfl Try.call94 (by kernel_rfl) (by kernel_rfl) ?_
  generalize Try.prog=P at cf⊢
  cbv
  repeat' (first
      |with_reducible refine hold ?_ ?_
      |with_reducible refine And.intro ?_ ?_
      | (with_reducible refine qS ?_ ?_ ?_
         try cbv)
      | (with_reducible refine qT ?_ ?_
         try cbv)
      |(with_reducible intro hcd;(try simp only [zA,zB,zC,zD,zE,zF,zG,zH,zI,zJ,zK,zL,zM,zN,zO,zP]at hcd);try cbv)
      | (refine⟨some [1],?_⟩
         cbv
         refine qQ ?_ (cf) (by cbv;(repeat' (first|exact qB|refine qD ?_ ?_|exact qE (by rfl)|exact qF (by rfl)|exact Fit.refl _|exact qA|refine qC ?_ rfl ?_))) (by cbv;(repeat' (first|exact qH|refine qI ?_ ?_|exact qK _|refine qJ ?_|exact qA|exact qE (by rfl)|exact qF (by rfl)|exact Fit.refl _|exact qG _|refine qC ?_ rfl ?_)))
         try cbv)
      |fail)
  all_goals first
    |trivial
    |((try simp only [qV]at *);(try simp only [zQ,zA,zB,zC,zD,zE,zF,zG,zH,zI,zJ,zK,zL,zM,zN,zO,zP,zR,zS]at *);first|(refine qN ?_;omega)|(simp only [Hold];omega))
    |(subst hR;(repeat' (first|exact qA|exact qB|refine qC ?_ rfl ?_|refine qD ?_ ?_|exact qE (by rfl)|exact qF (by rfl)|exact Fit.refl _|exact qG _|(refine qE ?_;(try simp only [qV]at *);simp only [zQ,zA,zB,zC,zD,zE,zF,zG,zH,zI,zJ,zK,zL,zM,zN,zO,zP,zR,zS]at *;omega)));done)
    |(subst hB;(repeat' (first|exact qH|refine qI ?_ ?_|exact qK _|refine qJ ?_|exact qA|exact qE (by rfl)|exact qF (by rfl)|exact Fit.refl _|exact qG _|refine qC ?_ rfl ?_));done)
    |skip
theorem idx109_decl (tw tm:List Int)(tv:List (List Int))(rate:Int)(cs:List Csk)(n:Nat)(D:List (Int×Int))(hn:n=cs.length∧n≤1000)(hfew:D.length≤1000):FSpec Try.prog 109 [(.sl 2 (.sym fun _=>zi D.length) (fun ix=>[(.int .i64 (.sym fun _=>(D.getD ix.den.toNat (0,0)).1)),(.int .i64 (.sym fun _=>(D.getD ix.den.toNat (0,0)).2))])),.clo 94 [] [.own 0 0]] [.cells [.clo 74 [] [.own 1 0]] 128,.cells [(wrkS tw tm tv rate cs)] 105] (fun r bs=>r=(.int .i64 (.sym fun _=>fidx (fun i=>decide (0≤(D.getD (i) (0,0)).1)&&decide ((D.getD (i) (0,0)).1≤(n:Int)-1)) (D.length) 0))∧bs=[.cells [.clo 74 [] [.own 1 0]] 128,.cells [(wrkS tw tm tv rate cs)] 105]):=by
  have cl:=lam94_decl tw tm tv rate cs n D hn hfew
  refine FSpec.isB rfl fun R B hR hB=>qW (sc:=sc109) tyok mix Try.func109 rfl Try.call109 (by kernel_rfl) (by kernel_rfl) ?_
  generalize Try.prog=P at cl⊢
  cbv
  repeat' (first
      |with_reducible refine hold ?_ ?_
      |with_reducible refine And.intro ?_ ?_
      | (with_reducible refine qS ?_ ?_ ?_
         try cbv)
      | (with_reducible refine qT ?_ ?_
         try cbv)
      |(with_reducible intro hcd;(try simp only [zA,zB,zC,zD,zE,zF,zG,zH,zI,zJ,zK,zL,zM,zN,zO,zP]at hcd);try cbv)
      |fail)
  all_goals first
    |trivial
    |((try simp only [qV]at *);(try simp only [zQ,zA,zB,zC,zD,zE,zF,zG,zH,zI,zJ,zK,zL,zM,zN,zO,zP,zR,zS]at *);first|(refine qN ?_;omega)|(simp only [Hold];omega))
    |skip
  refine⟨none,[],{i:Nat // i≤D.length∧fidx (fun i=>decide (0≤(D.getD (i) (0,0)).1)&&decide ((D.getD (i) (0,0)).1≤(n:Int)-1)) (D.length) 0=fidx (fun i=>decide (0≤(D.getD (i) (0,0)).1)&&decide ((D.getD (i) (0,0)).1≤(n:Int)-1)) (D.length-i) i∧∀j,j<i→(decide (0≤(D.getD (j) (0,0)).1)&&decide ((D.getD (j) (0,0)).1≤(n:Int)-1))=true},fun x=>⟨[(0,(.sl 2 (.sym fun _=>zi D.length) (fun ix=>[(.int .i64 (.sym fun _=>(D.getD ix.den.toNat (0,0)).1)),(.int .i64 (.sym fun _=>(D.getD ix.den.toNat (0,0)).2))]))),(1,.clo 94 [] [.own 0 0]),(7,(.int .i64 (.sym fun _=>zi (D.length)))),(8,(.int .i64 (.sym fun _=>zi x.1)))],[(0,.cells [.clo 74 [] [.own 1 0]] 128),(1,.cells [(wrkS tw tm tv rate cs)] 105)],20⟩,fun x=>D.length-x.1,?_,?_⟩
  · refine⟨⟨0,by omega,rfl,fun j hj=>by omega⟩,?_⟩
    cbv
    repeat' (first
      |with_reducible refine hold ?_ ?_
      |with_reducible refine And.intro ?_ ?_)
    all_goals first
      |trivial
      |exact qM (qE (by rfl))
      |exact qM (qF (by rfl))
      |exact qM (Fit.refl _)
      |exact qL (qK _)
      |(refine qM (qE ?_);(try simp only [qV]at *);simp only [zQ,zA,zB,zC,zD,zE,zF,zG,zH,zI,zJ,zK,zL,zM,zN,zO,zP,zR,zS]at *;omega)
      |(refine qL (qJ ?_);(repeat' (first|exact qA|exact qB|refine qC ?_ rfl ?_|refine qD ?_ ?_|exact qE (by rfl)|exact qF (by rfl)|exact Fit.refl _|exact qG _|(refine qE ?_;(try simp only [qV]at *);simp only [zQ,zA,zB,zC,zD,zE,zF,zG,zH,zI,zJ,zK,zL,zM,zN,zO,zP,zR,zS]at *;omega)));done)
      |skip
  · rintro ⟨i,hi,hr,hq⟩
    cbv
    repeat' (first
        |with_reducible refine hold ?_ ?_
        |with_reducible refine And.intro ?_ ?_
        | (with_reducible refine qS ?_ ?_ ?_
           try cbv)
        | (with_reducible refine qT ?_ ?_
           try cbv)
        |(with_reducible intro hcd;(try simp only [zA,zB,zC,zD,zE,zF,zG,zH,zI,zJ,zK,zL,zM,zN,zO,zP]at hcd);try cbv)
        | (refine⟨some [0,1],?_⟩
           cbv
           refine qQ ?_ (cl i ⟨by(try simp only [qV]at *);simp only [zi_den]at *;omega,hq⟩) (by cbv;(repeat' (first|exact qB|refine qD ?_ ?_|exact qE (by rfl)|exact qF (by rfl)|exact Fit.refl _|exact qA|refine qC ?_ rfl ?_))) (by cbv;(repeat' (first|exact qH|refine qI ?_ ?_|exact qK _|refine qJ ?_|exact qA|exact qE (by rfl)|exact qF (by rfl)|exact Fit.refl _|exact qG _|refine qC ?_ rfl ?_)))
           try cbv)
        |fail)
    all_goals first
      |trivial
      |((try simp only [qV]at *);(try simp only [zQ,zA,zB,zC,zD,zE,zF,zG,zH,zI,zJ,zK,zL,zM,zN,zO,zP,zR,zS]at *);first|(refine qN ?_;omega)|(simp only [Hold];omega))
      |(subst hR;(refine qE ?_;simp only [zQ,zA,zB,zC,zD,zE,zF,zG,zH,zI,zJ,zK,zL,zM,zN,zO,zP,zR,zS]at *;rw [hr,fidx_stop (by omega) hcd]);done)
      |(subst hR;(refine qE ?_;simp only [zQ,zA,zB,zC,zD,zE,zF,zG,zH,zI,zJ,zK,zL,zM,zN,zO,zP,zR,zS]at *;rw [hr,show D.length-i=0 by omega];rfl);done)
      |(subst hB;(repeat' (first|exact qH|refine qI ?_ ?_|exact qK _|refine qJ ?_|exact qA|exact qE (by rfl)|exact qF (by rfl)|exact Fit.refl _|exact qG _|refine qC ?_ rfl ?_));done)
      |((try simp only [zQ,zA,zB,zC,zD,zE,zF,zG,zH,zI,zJ,zK,zL,zM,zN,zO,zP,zR,zS]at *);refine⟨⟨i+1,by omega,by rw [hr,fidx_go (by omega) hcd];(try congr 1)<;>omega,fun j hj=>(Nat.lt_or_ge j i).elim (hq j) (fun q=>by rw [show j=i by omega];exact hcd)⟩,by simp only [];omega,?_⟩;cbv;(repeat' (first|with_reducible refine hold ?_ ?_|with_reducible refine And.intro ?_ ?_));(all_goals first|trivial|exact qM (qE (by rfl))|exact qM (qF (by rfl))|exact qM (Fit.refl _)|exact qL (qK _)|(refine qM (qE ?_);(try simp only [qV]at *);simp only [zQ,zA,zB,zC,zD,zE,zF,zG,zH,zI,zJ,zK,zL,zM,zN,zO,zP,zR,zS]at *;omega)|(refine qL (qJ ?_);(repeat' (first|exact qA|exact qB|refine qC ?_ rfl ?_|refine qD ?_ ?_|exact qE (by rfl)|exact qF (by rfl)|exact Fit.refl _|exact qG _|(refine qE ?_;(try simp only [qV]at *);simp only [zQ,zA,zB,zC,zD,zE,zF,zG,zH,zI,zJ,zK,zL,zM,zN,zO,zP,zR,zS]at *;omega)));done)|skip))
      |skip
theorem cont93_decl (tw tm:List Int)(tv:List (List Int))(rate:Int)(cs:List Csk)(n:Nat)(D:List (Int×Int))(hn:n=cs.length∧n≤1000)(hfew:D.length≤1000):FSpec Try.prog 93 [(.sl 2 (.sym fun _=>zi D.length) (fun ix=>[(.int .i64 (.sym fun _=>(D.getD ix.den.toNat (0,0)).1)),(.int .i64 (.sym fun _=>(D.getD ix.den.toNat (0,0)).2))])),.clo 94 [] [.own 0 0]] [.cells [.clo 74 [] [.own 1 0]] 128,.cells [(wrkS tw tm tv rate cs)] 105] (fun r bs=>r=(.bool (.sym fun _=>decide (0≤fidx (fun i=>decide (0≤(D.getD (i) (0,0)).1)&&decide ((D.getD (i) (0,0)).1≤(n:Int)-1)) (D.length) 0)))∧bs=[.cells [.clo 74 [] [.own 1 0]] 128,.cells [(wrkS tw tm tv rate cs)] 105]):=by
  have ci:=idx109_decl tw tm tv rate cs n D hn hfew
  refine FSpec.isB rfl fun R B hR hB=>qW (sc:=sc93) tyok mix Try.func93 rfl Try.call93 (by kernel_rfl) (by kernel_rfl) ?_
  generalize Try.prog=P at ci⊢
  cbv
  repeat' (first
      |with_reducible refine hold ?_ ?_
      |with_reducible refine And.intro ?_ ?_
      | (with_reducible refine qS ?_ ?_ ?_
         try cbv)
      | (with_reducible refine qT ?_ ?_
         try cbv)
      |(with_reducible intro hcd;(try simp only [zA,zB,zC,zD,zE,zF,zG,zH,zI,zJ,zK,zL,zM,zN,zO,zP]at hcd);try cbv)
      | (refine⟨some [0,1],?_⟩
         cbv
         refine qQ ?_ (ci) (by cbv;(repeat' (first|exact qB|refine qD ?_ ?_|exact qE (by rfl)|exact qF (by rfl)|exact Fit.refl _|exact qA|refine qC ?_ rfl ?_))) (by cbv;(repeat' (first|exact qH|refine qI ?_ ?_|exact qK _|refine qJ ?_|exact qA|exact qE (by rfl)|exact qF (by rfl)|exact Fit.refl _|exact qG _|refine qC ?_ rfl ?_)))
         try cbv)
      |fail)
  all_goals first
    |trivial
    |((try simp only [qV]at *);(try simp only [zQ,zA,zB,zC,zD,zE,zF,zG,zH,zI,zJ,zK,zL,zM,zN,zO,zP,zR,zS]at *);first|(refine qN ?_;omega)|(simp only [Hold];omega))
    |(subst hR;(repeat' (first|exact qA|exact qB|refine qC ?_ rfl ?_|refine qD ?_ ?_|exact qE (by rfl)|exact qF (by rfl)|exact Fit.refl _|exact qG _|(refine qE ?_;(try simp only [qV]at *);simp only [zQ,zA,zB,zC,zD,zE,zF,zG,zH,zI,zJ,zK,zL,zM,zN,zO,zP,zR,zS]at *;omega)));done)
    |(subst hB;(repeat' (first|exact qH|refine qI ?_ ?_|exact qK _|refine qJ ?_|exact qA|exact qE (by rfl)|exact qF (by rfl)|exact Fit.refl _|exact qG _|refine qC ?_ rfl ?_));done)
    |skip
theorem all73_decl (tw tm:List Int)(tv:List (List Int))(rate:Int)(cs:List Csk)(n:Nat)(D:List (Int×Int))(hn:n=cs.length∧n≤1000)(hfew:D.length≤1000):FSpec Try.prog 73 [(.sl 2 (.sym fun _=>zi D.length) (fun ix=>[(.int .i64 (.sym fun _=>(D.getD ix.den.toNat (0,0)).1)),(.int .i64 (.sym fun _=>(D.getD ix.den.toNat (0,0)).2))])),.clo 74 [] [.own 0 0]] [.cells [(wrkS tw tm tv rate cs)] 105] (fun r bs=>r=(.bool (.sym fun _=> !(decide (0≤fidx (fun i=>decide (0≤(D.getD (i) (0,0)).1)&&decide ((D.getD (i) (0,0)).1≤(n:Int)-1)) (D.length) 0))))∧bs=[.cells [(wrkS tw tm tv rate cs)] 105]):=by
  have cc:=cont93_decl tw tm tv rate cs n D hn hfew
  refine FSpec.isB rfl fun R B hR hB=>qW (sc:=sc73) tyok mix Try.func73 rfl Try.call73 (by kernel_rfl) (by kernel_rfl) ?_
  generalize Try.prog=P at cc⊢
  cbv
  repeat' (first
      |with_reducible refine hold ?_ ?_
      |with_reducible refine And.intro ?_ ?_
      | (with_reducible refine qS ?_ ?_ ?_
         try cbv)
      | (with_reducible refine qT ?_ ?_
         try cbv)
      |(with_reducible intro hcd;(try simp only [zA,zB,zC,zD,zE,zF,zG,zH,zI,zJ,zK,zL,zM,zN,zO,zP]at hcd);try cbv)
      | (refine⟨some [1,0],?_⟩
         cbv
         refine qQ ?_ (cc) (by cbv;(repeat' (first|exact qB|refine qD ?_ ?_|exact qE (by rfl)|exact qF (by rfl)|exact Fit.refl _|exact qA|refine qC ?_ rfl ?_))) (by cbv;(repeat' (first|exact qH|refine qI ?_ ?_|exact qK _|refine qJ ?_|exact qA|exact qE (by rfl)|exact qF (by rfl)|exact Fit.refl _|exact qG _|refine qC ?_ rfl ?_)))
         try cbv)
      |fail)
  all_goals first
    |trivial
    |((try simp only [qV]at *);(try simp only [zQ,zA,zB,zC,zD,zE,zF,zG,zH,zI,zJ,zK,zL,zM,zN,zO,zP,zR,zS]at *);first|(refine qN ?_;omega)|(simp only [Hold];omega))
    |(subst hR;(repeat' (first|exact qA|exact qB|refine qC ?_ rfl ?_|refine qD ?_ ?_|exact qE (by rfl)|exact qF (by rfl)|exact Fit.refl _|exact qG _|(refine qE ?_;(try simp only [qV]at *);simp only [zQ,zA,zB,zC,zD,zE,zF,zG,zH,zI,zJ,zK,zL,zM,zN,zO,zP,zR,zS]at *;omega)));done)
    |(subst hB;(repeat' (first|exact qH|refine qI ?_ ?_|exact qK _|refine qJ ?_|exact qA|exact qE (by rfl)|exact qF (by rfl)|exact Fit.refl _|exact qG _|refine qC ?_ rfl ?_));done)
    |skip
theorem all73r (tw tm:List Int)(tv:List (List Int))(rate:Int)(cs:List Csk)(D:List (Int×Int))(hc:cs.length≤1000)(h:D.length≤1000):FSpec Try.prog 73 [(.sl 2 (.sym fun _=>zi D.length) (fun ix=>[(.int .i64 (.sym fun _=>(D.getD ix.den.toNat (0,0)).1)),(.int .i64 (.sym fun _=>(D.getD ix.den.toNat (0,0)).2))])),.clo 74 [] [.own 0 0]] [.cells [(wrkS tw tm tv rate cs)] 105] (fun r bs=>r=(.bool (.sym fun _=>decB cs.length D))∧bs=[.cells [(wrkS tw tm tv rate cs)] 105]):=by
  have:=all73_decl tw tm tv rate cs cs.length D ⟨rfl,hc⟩ h
  simp only [all_iff]at this
  exact this
end Go.Proofs.Ytkdgpdlfakcgdaa

namespace Go.Proofs.Ytkdgpdlfakcgdaa
open Go Go.Eng Go.Proofs
set_option maxRecDepth 10000
theorem look_can {f:List Int→Option SV} {p:List Int→Bool} {k:List Int} {M:SV→Prop} {N:Prop}(hf:f=canF p)(h1:p k=true→M (.bool (.lit true)))(h2:p k=false→N):∃r:Option SV,(∀_:Unit,f k=r)∧match r with
    |some s=>M s
    | none=>N:=look_k (fun s hs=>by
      rw [hf]at hs
      obtain⟨hc,rfl⟩:=canF_some hs
      exact h1 hc) fun hs=>by rw [hf]at hs;exact h2 (canF_none hs)
theorem mapTy129 :MapTy Try.prog 129 87 4:=by
  show Try.prog.underlying 129=some (.map 87 4)
  kernel_rfl
theorem keyOk87 :KeyOk Try.prog 87 false 2:=keyOk_strI (by kernel_rfl)
theorem false38e (tw tm:List Int)(tv:List (List Int))(rate:Int)(cs:List Csk)(D:List (Int×Int))(hf0:faultS tw tm tv rate cs≠0):FSpec Try.prog 38 [(stoS tw tm tv rate cs),(.sl 2 (.sym fun _=>zi D.length) (fun ix=>[(.int .i64 (.sym fun _=>(D.getD ix.den.toNat (0,0)).1)),(.int .i64 (.sym fun _=>(D.getD ix.den.toNat (0,0)).2))]))] [] (fun r _=>r=(.tup [(.val (.slice none 0 0)),(.int .i64 (.sym fun _=>faultS tw tm tv rate cs))])):=by
  have c59:=open59b tw tm tv rate cs hf0
  refine FSpec.is fun R hR=>qW (sc:=sc38) tyok mix Try.func38 rfl Try.call38 (by kernel_rfl) (by kernel_rfl) ?_
  generalize Try.prog=P at c59⊢
  cbv
  repeat' (first
      |with_reducible refine hold ?_ ?_
      |with_reducible refine And.intro ?_ ?_
      | (with_reducible refine qS ?_ ?_ ?_
         try cbv)
      | (with_reducible refine qT ?_ ?_
         try cbv)
      |(with_reducible intro hcd;(try simp only [zA,zB,zC,zD,zE,zF,zG,zH,zI,zJ,zK,zL,zM,zN,zO,zP]at hcd);try cbv)
      | (refine qP ?_ (c59) ?hfit
         case hfit=>((repeat' (first|exact qB|refine qD ?_ ?_|exact qE (by rfl)|exact qF (by rfl)|exact Fit.refl _|exact qA|refine qC ?_ rfl ?_));done)
         try cbv)
      |fail)
  all_goals first
    |trivial
    |((try simp only [qV]at *);(try simp only [zQ,zA,zB,zC,zD,zE,zF,zG,zH,zI,zJ,zK,zL,zM,zN,zO,zP,zR,zS]at *);first|(refine qN ?_;omega)|(simp only [Hold];omega))
    |(subst hR;(repeat' (first|exact qA|exact qB|refine qC ?_ rfl ?_|refine qD ?_ ?_|exact qE (by rfl)|exact qF (by rfl)|exact Fit.refl _|exact qG _|(refine qE ?_;(try simp only [qV]at *);simp only [zQ,zA,zB,zC,zD,zE,zF,zG,zH,zI,zJ,zK,zL,zM,zN,zO,zP,zR,zS]at *;omega)));done)
    |(exfalso;simp_all;omega)
    |skip
theorem false38r (tw tm:List Int)(tv:List (List Int))(rate:Int)(cs:List Csk)(D:List (Int×Int))(hS:SOk tw tm tv rate cs)(hl:D.length≤1000)(hd:decB cs.length D=false):FSpec Try.prog 38 [(stoS tw tm tv rate cs),(.sl 2 (.sym fun _=>zi D.length) (fun ix=>[(.int .i64 (.sym fun _=>(D.getD ix.den.toNat (0,0)).1)),(.int .i64 (.sym fun _=>(D.getD ix.den.toNat (0,0)).2))]))] [] (fun r _=>r=(.tup [(.val (.slice none 0 0)),(.int .i64 (.sym fun _=>2))])):=by
  have c59:=open59 tw tm tv rate cs hS
  have c73:=all73r tw tm tv rate cs D (by have:=hS.few;omega) hl
  refine FSpec.is fun R hR=>qW (sc:=sc38) tyok mix Try.func38 rfl Try.call38 (by kernel_rfl) (by kernel_rfl) ?_
  generalize Try.prog=P at c59 c73⊢
  cbv
  repeat' (first
      |with_reducible refine hold ?_ ?_
      |with_reducible refine And.intro ?_ ?_
      | (with_reducible refine qS ?_ ?_ ?_
         try cbv)
      | (with_reducible refine qT ?_ ?_
         try cbv)
      |(with_reducible intro hcd;(try simp only [zA,zB,zC,zD,zE,zF,zG,zH,zI,zJ,zK,zL,zM,zN,zO,zP]at hcd);try cbv)
      | (refine qP ?_ (c59) ?hfit
         case hfit=>((repeat' (first|exact qB|refine qD ?_ ?_|exact qE (by rfl)|exact qF (by rfl)|exact Fit.refl _|exact qA|refine qC ?_ rfl ?_));done)
         try cbv)
      | (refine⟨some [8],?_⟩
         cbv
         refine qQ ?_ (c73) (by cbv;(repeat' (first|exact qB|refine qD ?_ ?_|exact qE (by rfl)|exact qF (by rfl)|exact Fit.refl _|exact qA|refine qC ?_ rfl ?_))) (by cbv;(repeat' (first|exact qH|refine qI ?_ ?_|exact qK _|refine qJ ?_|exact qA|exact qE (by rfl)|exact qF (by rfl)|exact Fit.refl _|exact qG _|refine qC ?_ rfl ?_)))
         try cbv)
      |fail)
  all_goals first
    |trivial
    |((try simp only [qV]at *);(try simp only [zQ,zA,zB,zC,zD,zE,zF,zG,zH,zI,zJ,zK,zL,zM,zN,zO,zP,zR,zS]at *);first|(refine qN ?_;omega)|(simp only [Hold];omega))
    |(subst hR;(repeat' (first|exact qA|exact qB|refine qC ?_ rfl ?_|refine qD ?_ ?_|exact qE (by rfl)|exact qF (by rfl)|exact Fit.refl _|exact qG _|(refine qE ?_;(try simp only [qV]at *);simp only [zQ,zA,zB,zC,zD,zE,zF,zG,zH,zI,zJ,zK,zL,zM,zN,zO,zP,zR,zS]at *;omega)));done)
    |(exact Bool.noConfusion (hd.symm.trans (by assumption:decB cs.length D=true)))
    |skip
theorem false38 (tw tm:List Int)(tv:List (List Int))(rate:Int)(cs:List Csk)(D:List (Int×Int))(hS:SOk tw tm tv rate cs)(hl:D.length≤1000)(hd:decB cs.length D=true):FSpec Try.prog 38 [(stoS tw tm tv rate cs),(.sl 2 (.sym fun _=>zi D.length) (fun ix=>[(.int .i64 (.sym fun _=>(D.getD ix.den.toNat (0,0)).1)),(.int .i64 (.sym fun _=>(D.getD ix.den.toNat (0,0)).2))]))] [] (fun r _=>r=(.tup [(.sl 1 (.sym fun _=>zi (falL (canB cs (fun j=>sLo tw tm tv (cs.getD j ck0)) (fun j=>sHi tw tm tv (cs.getD j ck0)) cs.length) D D.length).length) (fun ix=>[.int .i64 (.sym fun _=>(falL (canB cs (fun j=>sLo tw tm tv (cs.getD j ck0)) (fun j=>sHi tw tm tv (cs.getD j ck0)) cs.length) D D.length).getD ix.den.toNat 0)])),(.int .i64 (.sym fun _=>0))])):=by
  have c59:=open59 tw tm tv rate cs hS
  have c73:=all73r tw tm tv rate cs D (by have:=hS.few;omega) hl
  have hmt:=mapTy129
  have hko:=keyOk87
  have c75:=fun (i:Nat) (hi:i<cs.length) (d:Int) (h:0≤d∧d≤2000)=>tenths75c (cs.getD i ck0).g d (hS.gal i hi) h
  refine FSpec.is fun R hR=>qW (sc:=sc38) tyok mix Try.func38 rfl Try.call38 (by kernel_rfl) (by kernel_rfl) ?_
  generalize Try.prog=P at c59 c73 hmt hko c75⊢
  cbv
  have hfew:=hS.few
  repeat' (first
      |with_reducible refine hold ?_ ?_
      |with_reducible refine And.intro ?_ ?_
      | (with_reducible refine qS ?_ ?_ ?_
         try cbv)
      | (with_reducible refine qT ?_ ?_
         try cbv)
      |(with_reducible intro hcd;(try simp only [zA,zB,zC,zD,zE,zF,zG,zH,zI,zJ,zK,zL,zM,zN,zO,zP]at hcd);try cbv)
      | (refine qP ?_ (c59) ?hfit
         case hfit=>((repeat' (first|exact qB|refine qD ?_ ?_|exact qE (by rfl)|exact qF (by rfl)|exact Fit.refl _|exact qA|refine qC ?_ rfl ?_));done)
         try cbv)
      | (refine⟨some [8],?_⟩
         cbv
         refine qQ ?_ (c73) (by cbv;(repeat' (first|exact qB|refine qD ?_ ?_|exact qE (by rfl)|exact qF (by rfl)|exact Fit.refl _|exact qA|refine qC ?_ rfl ?_))) (by cbv;(repeat' (first|exact qH|refine qI ?_ ?_|exact qK _|refine qJ ?_|exact qA|exact qE (by rfl)|exact qF (by rfl)|exact Fit.refl _|exact qG _|refine qC ?_ rfl ?_)))
         try cbv)
      | (refine⟨87,4,false,2,?_⟩
         cbv
         refine hold ⟨hmt,fun h=>by cases h⟩ ?_
         try cbv)
      |fail)
  all_goals first
    |trivial
    |((try simp only [qV]at *);(try simp only [zQ,zA,zB,zC,zD,zE,zF,zG,zH,zI,zJ,zK,zL,zM,zN,zO,zP,zR,zS]at *);first|(refine qN ?_;omega)|(simp only [Hold];omega))
    |(exact Bool.noConfusion (hd.symm.trans (by assumption:decB cs.length D=false)))
    |skip
  refine⟨none,[],{x:Nat×(List Int→Option SV) // x.1≤cs.length∧x.2=canF (canB cs (fun j=>sLo tw tm tv (cs.getD j ck0)) (fun j=>sHi tw tm tv (cs.getD j ck0)) x.1)},fun x=>⟨[(1,(.sl 2 (.sym fun _=>zi D.length) (fun ix=>[(.int .i64 (.sym fun _=>(D.getD ix.den.toNat (0,0)).1)),(.int .i64 (.sym fun _=>(D.getD ix.den.toNat (0,0)).2))]))),(6,.own 8 0),(8,.mp 19),(33,(knoS tw tm tv cs)),(34,(.int .i64 (.sym fun _=>zi cs.length))),(35,(.int .i64 (.sym fun _=>zi x.1.1)))],[(19,.map 87 4 false 2 x.1.2),(8,.cells [(wrkS tw tm tv rate cs)] 105)],60⟩,fun x=>cs.length-x.1.1,?_,?_⟩
  · refine⟨⟨(0,fun _=>none),by omega,canF_zero⟩,?_⟩
    cbv
    repeat' (first
      |with_reducible refine hold ?_ ?_
      |with_reducible refine And.intro ?_ ?_)
    all_goals first
      |trivial
      |exact qM (qE (by rfl))
      |exact qM (qF (by rfl))
      |exact qM (Fit.refl _)
      |exact qL (qK _)
      |(refine qM (qE ?_);(try simp only [qV]at *);simp only [zQ,zA,zB,zC,zD,zE,zF,zG,zH,zI,zJ,zK,zL,zM,zN,zO,zP,zR,zS]at *;omega)
      |skip
  · rintro ⟨⟨i,f⟩,hi,hf⟩
    cbv
    dsimp only at hi hf
    repeat' (first
        |with_reducible refine hold ?_ ?_
        |with_reducible refine And.intro ?_ ?_
        | (with_reducible refine qS ?_ ?_ ?_
           try cbv)
        | (with_reducible refine qT ?_ ?_
           try cbv)
        |(with_reducible intro hcd;(try simp only [zA,zB,zC,zD,zE,zF,zG,zH,zI,zJ,zK,zL,zM,zN,zO,zP]at hcd);try cbv)
        |fail)
    all_goals first
      |trivial
      |((try simp only [qV]at *);(try simp only [zQ,zA,zB,zC,zD,zE,zF,zG,zH,zI,zJ,zK,zL,zM,zN,zO,zP,zR,zS]at *);first|(refine qN ?_;omega)|(simp only [Hold];omega))
      |((try simp only [qV]at *);(try simp only [zQ,zA,zB,zC,zD,zE,zF,zG,zH,zI,zJ,zK,zL,zM,zN,zO,zP,zR,zS]at *);simp only [Hold];omega)
      |skip
    · have hlt :i<cs.length:=by((try simp only [qV]at *);(try simp only [zQ,zA,zB,zC,zD,zE,zF,zG,zH,zI,zJ,zK,zL,zM,zN,zO,zP,zR,zS]at *);omega)
      have hb:=s_bd hS.t (hS.box i hlt)
      refine⟨none,[],{x:Nat×(List Int→Option SV) // (x.1:Int)≤sHi tw tm tv (cs.getD i ck0)-sLo tw tm tv (cs.getD i ck0)+1∧x.2=canF (canJ cs (fun j=>sLo tw tm tv (cs.getD j ck0)) (fun j=>sHi tw tm tv (cs.getD j ck0)) i x.1)},fun x=>⟨[(1,(.sl 2 (.sym fun _=>zi D.length) (fun ix=>[(.int .i64 (.sym fun _=>(D.getD ix.den.toNat (0,0)).1)),(.int .i64 (.sym fun _=>(D.getD ix.den.toNat (0,0)).2))]))),(6,.own 8 0),(8,.mp 19),(9,(.int .i64 (.sym fun _=>zi i))),(10,.own 64 0),(11,(.int .i64 (.sym fun _=>sLo tw tm tv (cs.getD i ck0)+zi x.1.1))),(33,(knoS tw tm tv cs)),(34,(.int .i64 (.sym fun _=>zi cs.length))),(35,(.int .i64 (.sym fun _=>zi i)))],[(19,.map 87 4 false 2 x.1.2),(8,.cells [(wrkS tw tm tv rate cs)] 105),(64,.cells [(.int .i64 (.sym fun _=>sLo tw tm tv (cs.getD i ck0))),(.int .i64 (.sym fun _=>sHi tw tm tv (cs.getD i ck0)))] 35)],90⟩,fun x=>((sHi tw tm tv (cs.getD i ck0)-sLo tw tm tv (cs.getD i ck0)+1)-x.1.1).toNat,?_,?_⟩
      · refine⟨⟨(0,f),by omega,by rw [hf,canJ_zero]⟩,?_⟩
        cbv
        repeat' (first
          |with_reducible refine hold ?_ ?_
          |with_reducible refine And.intro ?_ ?_)
        all_goals first
          |trivial
          |exact qM (qE (by rfl))
          |exact qM (qF (by rfl))
          |exact qM (Fit.refl _)
          |exact qL (qK _)
          |(refine qM (qE ?_);(try simp only [qV]at *);simp only [zQ,zA,zB,zC,zD,zE,zF,zG,zH,zI,zJ,zK,zL,zM,zN,zO,zP,zR,zS]at *;omega)
          |skip
      · rintro ⟨⟨j,f2⟩,hj,hf2⟩
        cbv
        dsimp only at hj hf2
        repeat' (first
            |with_reducible refine hold ?_ ?_
            |with_reducible refine And.intro ?_ ?_
            | (with_reducible refine qS ?_ ?_ ?_
               try cbv)
            | (with_reducible refine qT ?_ ?_
               try cbv)
            |(with_reducible intro hcd;(try simp only [zA,zB,zC,zD,zE,zF,zG,zH,zI,zJ,zK,zL,zM,zN,zO,zP]at hcd);try cbv)
            | (refine qP ?_ (c75 i hlt (sLo tw tm tv (cs.getD i ck0)+zi j) (show Hold _ from ?_)) ?hfit
               case hfit=>((repeat' (first|exact qB|refine qD ?_ ?_|exact qE (by rfl)|exact qF (by rfl)|exact Fit.refl _|exact qA|refine qC ?_ rfl ?_));done)
               try cbv)
            | (obtain⟨f3,ef3⟩:∃y,y=canF (canJ cs (fun j=>sLo tw tm tv (cs.getD j ck0)) (fun j=>sHi tw tm tv (cs.getD j ck0)) i (j+1)):=⟨_,rfl⟩
               refine⟨f3,?_⟩
               cbv
               refine hold ⟨rfl,rfl,hmt,hko,canF_upd hf2 ef3 (by rfl) (by rfl)⟩ ?_
               try cbv)
            |fail)
        all_goals first
          |trivial
          |((try simp only [qV]at *);(try simp only [zQ,zA,zB,zC,zD,zE,zF,zG,zH,zI,zJ,zK,zL,zM,zN,zO,zP,zR,zS]at *);first|(refine qN ?_;omega)|(simp only [Hold];omega))
          |((try simp only [qV]at *);(try simp only [zQ,zA,zB,zC,zD,zE,zF,zG,zH,zI,zJ,zK,zL,zM,zN,zO,zP,zR,zS]at *);simp only [Hold];omega)
          |((try simp only [zQ,zA,zB,zC,zD,zE,zF,zG,zH,zI,zJ,zK,zL,zM,zN,zO,zP,zR,zS]at *);refine⟨⟨(j+1,f3),by(show((j+1:Nat):Int)≤_;(try simp only [qV]at *);(try simp only [zQ,zA,zB,zC,zD,zE,zF,zG,zH,zI,zJ,zK,zL,zM,zN,zO,zP,zR,zS]at *);omega),ef3⟩,by((try simp only []);(try dsimp only);(try simp only [qV]at *);(try simp only [zQ,zA,zB,zC,zD,zE,zF,zG,zH,zI,zJ,zK,zL,zM,zN,zO,zP,zR,zS]at *);omega),?_⟩;cbv;(repeat' (first|with_reducible refine hold ?_ ?_|with_reducible refine And.intro ?_ ?_));(all_goals first|trivial|exact qM (qE (by rfl))|exact qM (qF (by rfl))|exact qM (Fit.refl _)|exact qL (qK _)|(refine qM (qE ?_);(try simp only [qV]at *);simp only [zQ,zA,zB,zC,zD,zE,zF,zG,zH,zI,zJ,zK,zL,zM,zN,zO,zP,zR,zS]at *;omega)|skip))
          |((try simp only [zQ,zA,zB,zC,zD,zE,zF,zG,zH,zI,zJ,zK,zL,zM,zN,zO,zP,zR,zS]at *);refine⟨⟨(i+1,f2),by((try simp only [qV]at *);(try simp only [zQ,zA,zB,zC,zD,zE,zF,zG,zH,zI,zJ,zK,zL,zM,zN,zO,zP,zR,zS]at *);omega),by rw [hf2,canJ_all (lo:=(fun j=>sLo tw tm tv (cs.getD j ck0))) (hi:=(fun j=>sHi tw tm tv (cs.getD j ck0))) (by((try simp only [qV]at *);(try simp only [zQ,zA,zB,zC,zD,zE,zF,zG,zH,zI,zJ,zK,zL,zM,zN,zO,zP,zR,zS]at *);omega))]⟩,by simp only [];omega,?_⟩;cbv;(repeat' (first|with_reducible refine hold ?_ ?_|with_reducible refine And.intro ?_ ?_));(all_goals first|trivial|exact qM (qE (by rfl))|exact qM (qF (by rfl))|exact qM (Fit.refl _)|exact qL (qK _)|(refine qM (qE ?_);(try simp only [qV]at *);simp only [zQ,zA,zB,zC,zD,zE,zF,zG,zH,zI,zJ,zK,zL,zM,zN,zO,zP,zR,zS]at *;omega)|skip))
          |skip
    · have hie :i=cs.length:=by((try simp only [qV]at *);(try simp only [zQ,zA,zB,zC,zD,zE,zF,zG,zH,zI,zJ,zK,zL,zM,zN,zO,zP,zR,zS]at *);omega)
      rw [hie]at hf
      refine⟨none,[⟨.tmp 12,3,1⟩],{x:Nat×List Int // x.1≤D.length∧x.2=falL (canB cs (fun j=>sLo tw tm tv (cs.getD j ck0)) (fun j=>sHi tw tm tv (cs.getD j ck0)) cs.length) D x.1},fun x=>⟨[(8,.mp 19),(12,.row 65),(63,(.sl 2 (.sym fun _=>zi D.length) (fun ix=>[(.int .i64 (.sym fun _=>(D.getD ix.den.toNat (0,0)).1)),(.int .i64 (.sym fun _=>(D.getD ix.den.toNat (0,0)).2))]))),(64,(.int .i64 (.sym fun _=>zi D.length))),(65,(.int .i64 (.sym fun _=>zi x.1.1)))],[(19,.map 87 4 false 2 f),(65,.row 3 1 (.sym fun _=>zi (x.1.2).length) (fun ix=>[.int .i64 (.sym fun _=>(x.1.2).getD ix.den.toNat 0)]))],100⟩,fun x=>D.length-x.1.1,?_,?_⟩
      · refine⟨⟨(0,[]),by omega,rfl⟩,?_⟩
        cbv
        repeat' (first
          |with_reducible refine hold ?_ ?_
          |with_reducible refine And.intro ?_ ?_)
        all_goals first
          |trivial
          |exact qM (qE (by rfl))
          |exact qM (qF (by rfl))
          |exact qM (Fit.refl _)
          |exact qL (qK _)
          |(refine qM (qE ?_);(try simp only [qV]at *);simp only [zQ,zA,zB,zC,zD,zE,zF,zG,zH,zI,zJ,zK,zL,zM,zN,zO,zP,zR,zS]at *;omega)
          |(refine qL (ble_row ?_ ?_);(first|rfl|((try simp only [qV]at *);(try simp only [zQ,zA,zB,zC,zD,zE,zF,zG,zH,zI,zJ,zK,zL,zM,zN,zO,zP,zR,zS]at *);omega));intro ix h0 h1;exfalso;(try simp only [qV]at *);(try simp only [zQ,zA,zB,zC,zD,zE,zF,zG,zH,zI,zJ,zK,zL,zM,zN,zO,zP,zR,zS]at *);omega)
          |skip
      · rintro ⟨⟨k,L⟩,hk,hL⟩
        cbv
        dsimp only at hk hL
        have hlen:=falL_len (p:=canB cs (fun j=>sLo tw tm tv (cs.getD j ck0)) (fun j=>sHi tw tm tv (cs.getD j ck0)) cs.length) (D:=D) k
        rw [←hL]at hlen
        repeat' (first
            |with_reducible refine hold ?_ ?_
            |with_reducible refine And.intro ?_ ?_
            | (with_reducible refine qS ?_ ?_ ?_
               try cbv)
            | (with_reducible refine qT ?_ ?_
               try cbv)
            |(with_reducible intro hcd;(try simp only [zA,zB,zC,zD,zE,zF,zG,zH,zI,zJ,zK,zL,zM,zN,zO,zP]at hcd);try cbv)
            |(refine look_can hf ?_ ?_<;>((with_reducible intro hc);(try cbv)))
            | (obtain⟨L2,eL2⟩:∃y:List Int,y=L++[zi k]:=⟨_,rfl⟩
               refine⟨intsE L2,?_⟩
               cbv
               refine hold (hold_rowlist (L:=L) eL2 (by(first|rfl|((try simp only [qV]at *);(try simp only [zQ,zA,zB,zC,zD,zE,zF,zG,zH,zI,zJ,zK,zL,zM,zN,zO,zP,zR,zS]at *);done)|((try simp only [qV]at *);(try simp only [zQ,zA,zB,zC,zD,zE,zF,zG,zH,zI,zJ,zK,zL,zM,zN,zO,zP,zR,zS]at *);omega))) (by rfl) (fun ix=>Fit.refl _) (fun ix h=>qC (qE (by rfl)) rfl qA) (by(try simp only [qV]at *);(try simp only [zQ,zA,zB,zC,zD,zE,zF,zG,zH,zI,zJ,zK,zL,zM,zN,zO,zP,zR,zS]at *);omega)) (Or.inl ?_)
               try cbv)
            |fail)
        all_goals first
          |trivial
          |((try simp only [qV]at *);(try simp only [zQ,zA,zB,zC,zD,zE,zF,zG,zH,zI,zJ,zK,zL,zM,zN,zO,zP,zR,zS]at *);first|(refine qN ?_;omega)|(simp only [Hold];omega))
          |(subst hR;((have hke:k=D.length:=by((try simp only [qV]at *);(try simp only [zQ,zA,zB,zC,zD,zE,zF,zG,zH,zI,zJ,zK,zL,zM,zN,zO,zP,zR,zS]at *);omega));(have hq:L=falL (canB cs (fun j=>sLo tw tm tv (cs.getD j ck0)) (fun j=>sHi tw tm tv (cs.getD j ck0)) cs.length) D D.length:=hke▸hL);rw [←hq];(first|exact Fit.refl _|(repeat' (first|exact qA|exact Fit.refl _|exact qE (by rfl)|refine qD ?_ ?_|exact qB))));done)
          |(exact⟨rfl,rfl,hmt,hko⟩)
          |((try simp only [qV]at *);(try simp only [zQ,zA,zB,zC,zD,zE,zF,zG,zH,zI,zJ,zK,zL,zM,zN,zO,zP,zR,zS]at *);simp only [Hold];omega)
          |((try simp only [zQ,zA,zB,zC,zD,zE,zF,zG,zH,zI,zJ,zK,zL,zM,zN,zO,zP,zR,zS]at *);refine⟨⟨(k+1,L2),by((try simp only [qV]at *);(try simp only [zQ,zA,zB,zC,zD,zE,zF,zG,zH,zI,zJ,zK,zL,zM,zN,zO,zP,zR,zS]at *);omega),by rw [eL2,hL];exact(falL_n hc).symm⟩,by simp only [];omega,?_⟩;cbv;(repeat' (first|with_reducible refine hold ?_ ?_|with_reducible refine And.intro ?_ ?_));(all_goals first|trivial|exact qM (qE (by rfl))|exact qM (qF (by rfl))|exact qM (Fit.refl _)|exact qL (qK _)|(refine qM (qE ?_);(try simp only [qV]at *);simp only [zQ,zA,zB,zC,zD,zE,zF,zG,zH,zI,zJ,zK,zL,zM,zN,zO,zP,zR,zS]at *;omega)|(refine qL (ble_list ?_ ?_);(first|rfl|((try simp only [qV]at *);(try simp only [zQ,zA,zB,zC,zD,zE,zF,zG,zH,zI,zJ,zK,zL,zM,zN,zO,zP,zR,zS]at *);simp only [eL2,List.length_append,List.length_cons,List.length_nil];omega));intro ix;(try simp only [eL2]);first|exact Fit.refl _|exact qC (qE (by rfl)) rfl qA)|skip))
          |((try simp only [zQ,zA,zB,zC,zD,zE,zF,zG,zH,zI,zJ,zK,zL,zM,zN,zO,zP,zR,zS]at *);refine⟨⟨(k+1,L),by((try simp only [qV]at *);(try simp only [zQ,zA,zB,zC,zD,zE,zF,zG,zH,zI,zJ,zK,zL,zM,zN,zO,zP,zR,zS]at *);omega),by rw [hL];exact(falL_y hc).symm⟩,by simp only [];omega,?_⟩;cbv;(repeat' (first|with_reducible refine hold ?_ ?_|with_reducible refine And.intro ?_ ?_));(all_goals first|trivial|exact qM (qE (by rfl))|exact qM (qF (by rfl))|exact qM (Fit.refl _)|exact qL (qK _)|(refine qM (qE ?_);(try simp only [qV]at *);simp only [zQ,zA,zB,zC,zD,zE,zF,zG,zH,zI,zJ,zK,zL,zM,zN,zO,zP,zR,zS]at *;omega)|(refine qL (ble_list ?_ ?_);(first|rfl|((try simp only [qV]at *);(try simp only [zQ,zA,zB,zC,zD,zE,zF,zG,zH,zI,zJ,zK,zL,zM,zN,zO,zP,zR,zS]at *);simp only [List.length_append,List.length_cons,List.length_nil];omega));intro ix;first|exact Fit.refl _|exact qC (qE (by rfl)) rfl qA)|skip))
          |skip
end Go.Proofs.Ytkdgpdlfakcgdaa

namespace Go.Proofs.Ytkdgpdlfakcgdaa
open Go Go.Eng Go.Proofs
set_option maxRecDepth 10000
def tw3 :List Int:=[10,14,20]
def tm3 :List Int:=[0,10,20]
def tv3 :List (List Int):=[[900,1260,1800],[810,1179,1728],[720,1080,1530]]
def cs3 :List Csk:=[⟨50,10,10,10,10⟩,⟨30,14,14,0,1⟩,⟨20,20,20,20,20⟩]
def D3 :List (Int×Int):=[(1,254),(1,255),(0,630),(1,242)]
theorem sok3 :SOk tw3 tm3 tv3 120 cs3:=faultS_iff.1 (by kernel_rfl)
theorem three56 :FSpec Try.prog 56 [] [] (fun r _=>r=(stoS tw3 tm3 tv3 120 cs3)):=by
  have c47:= @between47
  refine FSpec.is fun R hR=>qW (sc:=sc56) tyok mix Try.func56 rfl Try.call56 (by kernel_rfl) (by kernel_rfl) ?_
  generalize Try.prog=P at c47⊢
  cbv
  repeat' (first
      |with_reducible refine hold ?_ ?_
      |with_reducible refine And.intro ?_ ?_
      | (with_reducible refine qS ?_ ?_ ?_
         try cbv)
      | (with_reducible refine qT ?_ ?_
         try cbv)
      |(with_reducible intro hcd;(try simp only [zA,zB,zC,zD,zE,zF,zG,zH,zI,zJ,zK,zL,zM,zN,zO,zP]at hcd);try cbv)
      | (refine qP ?_ (c47 _ _) (by(repeat' (first|exact qB|refine qD ?_ ?_|exact qE (by rfl)|exact qF (by rfl)|exact Fit.refl _|exact qA|refine qC ?_ rfl ?_)))
         try cbv)
      |fail)
  all_goals first
    |trivial
    |((try simp only [qV]at *);(try simp only [zQ,zA,zB,zC,zD,zE,zF,zG,zH,zI,zJ,zK,zL,zM,zN,zO,zP,zR,zS]at *);first|(refine qN ?_;omega)|(simp only [Hold];omega))
    |(subst hR;(repeat' (first|exact qA|exact qB|refine qC ?_ rfl ?_|refine qD ?_ ?_|exact qE (by rfl)|exact qF (by rfl)|exact qE (by kernel_rfl)|exact qF (by kernel_rfl)|exact Fit.refl _|(first|(refine fit_sl (by rfl) (fun ix h0 h1=> ?_);(have h2:ix.den<2:=h1);(have hx:ix.den.toNat=0∨ix.den.toNat=1:=by omega);(rcases hx with hx|hx<;>simp only [hx]))|(refine fit_sl (by rfl) (fun ix h0 h1=> ?_);(have h2:ix.den<3:=h1);(have hx:ix.den.toNat=0∨ix.den.toNat=1∨ix.den.toNat=2:=by omega);(rcases hx with hx|hx|hx<;>simp only [hx]))|(refine fit_sl (by rfl) (fun ix h0 h1=> ?_);(have h2:ix.den<4:=h1);(have hx:ix.den.toNat=0∨ix.den.toNat=1∨ix.den.toNat=2∨ix.den.toNat=3:=by omega);(rcases hx with hx|hx|hx|hx<;>simp only [hx])))));done)
    |(simp only [Hold];decide)
    |skip
theorem ten3 :FSpec Try.prog 45 [(stoS tw3 tm3 tv3 120 cs3),(.sl 1 (.sym fun _=>zi ([1260,820,1530]).length) (fun ix=>[.int .i64 (.sym fun _=>([1260,820,1530]).getD ix.den.toNat 0)]))] [] (fun r _=>r=(.tup [(.sl 1 (.sym fun _=>zi ([630,246,306]).length) (fun ix=>[.int .i64 (.sym fun _=>([630,246,306]).getD ix.den.toNat 0)])),(.int .i64 (.lit 0))])):=
  (tenths45 tw3 tm3 tv3 120 cs3 [1260,820,1530] sok3 (by kernel_rfl)).post fun r bs h=>⟨_,by subst h;(repeat' (first|exact qA|exact qB|refine qC ?_ rfl ?_|refine qD ?_ ?_|exact qE (by rfl)|exact qF (by rfl)|exact qE (by kernel_rfl)|exact qF (by kernel_rfl)|exact Fit.refl _|(first|(refine fit_sl (by rfl) (fun ix h0 h1=> ?_);(have h2:ix.den<2:=h1);(have hx:ix.den.toNat=0∨ix.den.toNat=1:=by omega);(rcases hx with hx|hx<;>simp only [hx]))|(refine fit_sl (by rfl) (fun ix h0 h1=> ?_);(have h2:ix.den<3:=h1);(have hx:ix.den.toNat=0∨ix.den.toNat=1∨ix.den.toNat=2:=by omega);(rcases hx with hx|hx|hx<;>simp only [hx]))|(refine fit_sl (by rfl) (fun ix h0 h1=> ?_);(have h2:ix.den<4:=h1);(have hx:ix.den.toNat=0∨ix.den.toNat=1∨ix.den.toNat=2∨ix.den.toNat=3:=by omega);(rcases hx with hx|hx|hx|hx<;>simp only [hx]))))),rfl⟩
theorem duty3 :FSpec Try.prog 44 [(stoS tw3 tm3 tv3 120 cs3),(.sl 1 (.sym fun _=>zi ([1260,820,1530]).length) (fun ix=>[.int .i64 (.sym fun _=>([1260,820,1530]).getD ix.den.toNat 0)]))] [] (fun r _=>r=(.tup [(.int .i64 (.lit 14184)),(.int .i64 (.lit 0))])):=
  (duty44 tw3 tm3 tv3 120 cs3 [1260,820,1530] sok3 (by kernel_rfl)).post fun r bs h=>⟨_,by subst h;(repeat' (first|exact qA|exact qB|refine qC ?_ rfl ?_|refine qD ?_ ?_|exact qE (by rfl)|exact qF (by rfl)|exact qE (by kernel_rfl)|exact qF (by kernel_rfl)|exact Fit.refl _|(first|(refine fit_sl (by rfl) (fun ix h0 h1=> ?_);(have h2:ix.den<2:=h1);(have hx:ix.den.toNat=0∨ix.den.toNat=1:=by omega);(rcases hx with hx|hx<;>simp only [hx]))|(refine fit_sl (by rfl) (fun ix h0 h1=> ?_);(have h2:ix.den<3:=h1);(have hx:ix.den.toNat=0∨ix.den.toNat=1∨ix.den.toNat=2:=by omega);(rcases hx with hx|hx|hx<;>simp only [hx]))|(refine fit_sl (by rfl) (fun ix h0 h1=> ?_);(have h2:ix.den<4:=h1);(have hx:ix.den.toNat=0∨ix.den.toNat=1∨ix.den.toNat=2∨ix.den.toNat=3:=by omega);(rcases hx with hx|hx|hx|hx<;>simp only [hx]))))),rfl⟩
theorem duties3 :FSpec Try.prog 22 [(stoS tw3 tm3 tv3 120 cs3)] [] (fun r _=>r=(.tup [(.agg [(.int .i64 (.lit 14148)),(.int .i64 (.lit 14280))]),(.int .i64 (.lit 0))])):=
  (duties22 tw3 tm3 tv3 120 cs3 sok3).post fun r bs h=>⟨_,by subst h;(repeat' (first|exact qA|exact qB|refine qC ?_ rfl ?_|refine qD ?_ ?_|exact qE (by rfl)|exact qF (by rfl)|exact qE (by kernel_rfl)|exact qF (by kernel_rfl)|exact Fit.refl _|(first|(refine fit_sl (by rfl) (fun ix h0 h1=> ?_);(have h2:ix.den<2:=h1);(have hx:ix.den.toNat=0∨ix.den.toNat=1:=by omega);(rcases hx with hx|hx<;>simp only [hx]))|(refine fit_sl (by rfl) (fun ix h0 h1=> ?_);(have h2:ix.den<3:=h1);(have hx:ix.den.toNat=0∨ix.den.toNat=1∨ix.den.toNat=2:=by omega);(rcases hx with hx|hx|hx<;>simp only [hx]))|(refine fit_sl (by rfl) (fun ix h0 h1=> ?_);(have h2:ix.den<4:=h1);(have hx:ix.den.toNat=0∨ix.den.toNat=1∨ix.den.toNat=2∨ix.den.toNat=3:=by omega);(rcases hx with hx|hx|hx|hx<;>simp only [hx]))))),rfl⟩
theorem blend3 :FSpec Try.prog 27 [(stoS tw3 tm3 tv3 120 cs3),(.sl 1 (.sym fun _=>zi ([0,1]).length) (fun ix=>[.int .i64 (.sym fun _=>([0,1]).getD ix.den.toNat 0)])),(.int .i64 (.sym fun _=>0))] [] (fun r _=>r=(.tup [(.agg [(.int .i64 (.lit 1091)),(.int .i64 (.lit 1105))]),(.int .i64 (.lit 0))])):=
  (blend27 tw3 tm3 tv3 120 cs3 [0,1] 0 sok3 (by decide) (by kernel_rfl) (by decide)).post fun r bs h=>⟨_,by subst h;(repeat' (first|exact qA|exact qB|refine qC ?_ rfl ?_|refine qD ?_ ?_|exact qE (by rfl)|exact qF (by rfl)|exact qE (by kernel_rfl)|exact qF (by kernel_rfl)|exact Fit.refl _|(first|(refine fit_sl (by rfl) (fun ix h0 h1=> ?_);(have h2:ix.den<2:=h1);(have hx:ix.den.toNat=0∨ix.den.toNat=1:=by omega);(rcases hx with hx|hx<;>simp only [hx]))|(refine fit_sl (by rfl) (fun ix h0 h1=> ?_);(have h2:ix.den<3:=h1);(have hx:ix.den.toNat=0∨ix.den.toNat=1∨ix.den.toNat=2:=by omega);(rcases hx with hx|hx|hx<;>simp only [hx]))|(refine fit_sl (by rfl) (fun ix h0 h1=> ?_);(have h2:ix.den<4:=h1);(have hx:ix.den.toNat=0∨ix.den.toNat=1∨ix.den.toNat=2∨ix.den.toNat=3:=by omega);(rcases hx with hx|hx|hx|hx<;>simp only [hx]))))),rfl⟩
theorem water3 :FSpec Try.prog 33 [(stoS tw3 tm3 tv3 120 cs3),(.sl 1 (.sym fun _=>zi ([0,1]).length) (fun ix=>[.int .i64 (.sym fun _=>([0,1]).getD ix.den.toNat 0)])),(.int .i64 (.sym fun _=>1000))] [] (fun r _=>r=(.tup [(.int .i64 (.lit 9)),(.int .i64 (.lit 0))])):=
  (water33 tw3 tm3 tv3 120 cs3 [0,1] 1000 sok3 (by decide) (by kernel_rfl) (by decide) (by decide)).post fun r bs h=>⟨_,by subst h;(repeat' (first|exact qA|exact qB|refine qC ?_ rfl ?_|refine qD ?_ ?_|exact qE (by rfl)|exact qF (by rfl)|exact qE (by kernel_rfl)|exact qF (by kernel_rfl)|exact Fit.refl _|(first|(refine fit_sl (by rfl) (fun ix h0 h1=> ?_);(have h2:ix.den<2:=h1);(have hx:ix.den.toNat=0∨ix.den.toNat=1:=by omega);(rcases hx with hx|hx<;>simp only [hx]))|(refine fit_sl (by rfl) (fun ix h0 h1=> ?_);(have h2:ix.den<3:=h1);(have hx:ix.den.toNat=0∨ix.den.toNat=1∨ix.den.toNat=2:=by omega);(rcases hx with hx|hx|hx<;>simp only [hx]))|(refine fit_sl (by rfl) (fun ix h0 h1=> ?_);(have h2:ix.den<4:=h1);(have hx:ix.den.toNat=0∨ix.den.toNat=1∨ix.den.toNat=2∨ix.den.toNat=3:=by omega);(rcases hx with hx|hx|hx|hx<;>simp only [hx]))))),rfl⟩
theorem prove3 :FSpec Try.prog 29 [(stoS tw3 tm3 tv3 120 cs3),(.sl 1 (.sym fun _=>zi ([0,1]).length) (fun ix=>[.int .i64 (.sym fun _=>([0,1]).getD ix.den.toNat 0)])),(.int .i64 (.sym fun _=>0)),(.agg [(.int .i64 (.sym fun _=>1091)),(.int .i64 (.sym fun _=>1105))])] [] (fun r _=>r=(.bool (.lit true))):=
  (prove29 tw3 tm3 tv3 120 cs3 [0,1] 0 1091 1105 sok3 (by decide) (by kernel_rfl) (by decide)).post fun r bs h=>⟨_,by subst h;(repeat' (first|exact qA|exact qB|refine qC ?_ rfl ?_|refine qD ?_ ?_|exact qE (by rfl)|exact qF (by rfl)|exact qE (by kernel_rfl)|exact qF (by kernel_rfl)|exact Fit.refl _|(first|(refine fit_sl (by rfl) (fun ix h0 h1=> ?_);(have h2:ix.den<2:=h1);(have hx:ix.den.toNat=0∨ix.den.toNat=1:=by omega);(rcases hx with hx|hx<;>simp only [hx]))|(refine fit_sl (by rfl) (fun ix h0 h1=> ?_);(have h2:ix.den<3:=h1);(have hx:ix.den.toNat=0∨ix.den.toNat=1∨ix.den.toNat=2:=by omega);(rcases hx with hx|hx|hx<;>simp only [hx]))|(refine fit_sl (by rfl) (fun ix h0 h1=> ?_);(have h2:ix.den<4:=h1);(have hx:ix.den.toNat=0∨ix.den.toNat=1∨ix.den.toNat=2∨ix.den.toNat=3:=by omega);(rcases hx with hx|hx|hx|hx<;>simp only [hx]))))),rfl⟩
theorem fewest3 :FSpec Try.prog 35 [(stoS tw3 tm3 tv3 120 cs3),(.agg [(.int .i64 (.sym fun _=>1000)),(.int .i64 (.sym fun _=>1200))])] [] (fun r _=>r=(.tup [(.sl 1 (.sym fun _=>zi ([0,1]).length) (fun ix=>[.int .i64 (.sym fun _=>([0,1]).getD ix.den.toNat 0)])),(.int .i64 (.lit 0))])):=
  (fewest35 tw3 tm3 tv3 120 cs3 1000 1200 [0,1] sok3 (by decide) (by kernel_rfl)).post fun r bs h=>⟨_,by subst h;(repeat' (first|exact qA|exact qB|refine qC ?_ rfl ?_|refine qD ?_ ?_|exact qE (by rfl)|exact qF (by rfl)|exact qE (by kernel_rfl)|exact qF (by kernel_rfl)|exact Fit.refl _|(first|(refine fit_sl (by rfl) (fun ix h0 h1=> ?_);(have h2:ix.den<2:=h1);(have hx:ix.den.toNat=0∨ix.den.toNat=1:=by omega);(rcases hx with hx|hx<;>simp only [hx]))|(refine fit_sl (by rfl) (fun ix h0 h1=> ?_);(have h2:ix.den<3:=h1);(have hx:ix.den.toNat=0∨ix.den.toNat=1∨ix.den.toNat=2:=by omega);(rcases hx with hx|hx|hx<;>simp only [hx]))|(refine fit_sl (by rfl) (fun ix h0 h1=> ?_);(have h2:ix.den<4:=h1);(have hx:ix.den.toNat=0∨ix.den.toNat=1∨ix.den.toNat=2∨ix.den.toNat=3:=by omega);(rcases hx with hx|hx|hx|hx<;>simp only [hx]))))),rfl⟩
theorem fal3 :falL (canB cs3 (fun j=>sLo tw3 tm3 tv3 (cs3.getD j ck0)) (fun j=>sHi tw3 tm3 tv3 (cs3.getD j ck0)) cs3.length) D3 D3.length=[1,3]:=by kernel_rfl
theorem false3 :FSpec Try.prog 38 [(stoS tw3 tm3 tv3 120 cs3),(.sl 2 (.sym fun _=>zi D3.length) (fun ix=>[(.int .i64 (.sym fun _=>(D3.getD ix.den.toNat (0,0)).1)),(.int .i64 (.sym fun _=>(D3.getD ix.den.toNat (0,0)).2))]))] [] (fun r _=>r=(.tup [(.sl 1 (.sym fun _=>zi ([1,3]).length) (fun ix=>[.int .i64 (.sym fun _=>([1,3]).getD ix.den.toNat 0)])),(.int .i64 (.lit 0))])):=
  (false38 tw3 tm3 tv3 120 cs3 D3 sok3 (by decide) (by kernel_rfl)).post fun r bs h=>⟨_,by subst h;rw [fal3];(repeat' (first|exact qA|exact qB|refine qC ?_ rfl ?_|refine qD ?_ ?_|exact qE (by rfl)|exact qF (by rfl)|exact qE (by kernel_rfl)|exact qF (by kernel_rfl)|exact Fit.refl _|(first|(refine fit_sl (by rfl) (fun ix h0 h1=> ?_);(have h2:ix.den<2:=h1);(have hx:ix.den.toNat=0∨ix.den.toNat=1:=by omega);(rcases hx with hx|hx<;>simp only [hx]))|(refine fit_sl (by rfl) (fun ix h0 h1=> ?_);(have h2:ix.den<3:=h1);(have hx:ix.den.toNat=0∨ix.den.toNat=1∨ix.den.toNat=2:=by omega);(rcases hx with hx|hx|hx<;>simp only [hx]))|(refine fit_sl (by rfl) (fun ix h0 h1=> ?_);(have h2:ix.den<4:=h1);(have hx:ix.den.toNat=0∨ix.den.toNat=1∨ix.den.toNat=2∨ix.den.toNat=3:=by omega);(rcases hx with hx|hx|hx|hx<;>simp only [hx]))))),rfl⟩
theorem same3a :FSpec Try.prog 37 [(.sl 1 (.sym fun _=>zi ([630,246,306]).length) (fun ix=>[.int .i64 (.sym fun _=>([630,246,306]).getD ix.den.toNat 0)])),(.sl 1 (.sym fun _=>zi ([630,246,306]).length) (fun ix=>[.int .i64 (.sym fun _=>([630,246,306]).getD ix.den.toNat 0)]))] [] (fun r _=>r=(.bool (.lit true))):=
  (same37 [630,246,306] [630,246,306] (by decide)).post fun r bs h=>⟨_,by subst h;(repeat' (first|exact qA|exact qB|refine qC ?_ rfl ?_|refine qD ?_ ?_|exact qE (by rfl)|exact qF (by rfl)|exact qE (by kernel_rfl)|exact qF (by kernel_rfl)|exact Fit.refl _|(first|(refine fit_sl (by rfl) (fun ix h0 h1=> ?_);(have h2:ix.den<2:=h1);(have hx:ix.den.toNat=0∨ix.den.toNat=1:=by omega);(rcases hx with hx|hx<;>simp only [hx]))|(refine fit_sl (by rfl) (fun ix h0 h1=> ?_);(have h2:ix.den<3:=h1);(have hx:ix.den.toNat=0∨ix.den.toNat=1∨ix.den.toNat=2:=by omega);(rcases hx with hx|hx|hx<;>simp only [hx]))|(refine fit_sl (by rfl) (fun ix h0 h1=> ?_);(have h2:ix.den<4:=h1);(have hx:ix.den.toNat=0∨ix.den.toNat=1∨ix.den.toNat=2∨ix.den.toNat=3:=by omega);(rcases hx with hx|hx|hx|hx<;>simp only [hx]))))),rfl⟩
theorem same3b :FSpec Try.prog 37 [(.sl 1 (.sym fun _=>zi ([0,1]).length) (fun ix=>[.int .i64 (.sym fun _=>([0,1]).getD ix.den.toNat 0)])),(.sl 1 (.sym fun _=>zi ([0,1]).length) (fun ix=>[.int .i64 (.sym fun _=>([0,1]).getD ix.den.toNat 0)]))] [] (fun r _=>r=(.bool (.lit true))):=
  (same37 [0,1] [0,1] (by decide)).post fun r bs h=>⟨_,by subst h;(repeat' (first|exact qA|exact qB|refine qC ?_ rfl ?_|refine qD ?_ ?_|exact qE (by rfl)|exact qF (by rfl)|exact qE (by kernel_rfl)|exact qF (by kernel_rfl)|exact Fit.refl _|(first|(refine fit_sl (by rfl) (fun ix h0 h1=> ?_);(have h2:ix.den<2:=h1);(have hx:ix.den.toNat=0∨ix.den.toNat=1:=by omega);(rcases hx with hx|hx<;>simp only [hx]))|(refine fit_sl (by rfl) (fun ix h0 h1=> ?_);(have h2:ix.den<3:=h1);(have hx:ix.den.toNat=0∨ix.den.toNat=1∨ix.den.toNat=2:=by omega);(rcases hx with hx|hx|hx<;>simp only [hx]))|(refine fit_sl (by rfl) (fun ix h0 h1=> ?_);(have h2:ix.den<4:=h1);(have hx:ix.den.toNat=0∨ix.den.toNat=1∨ix.den.toNat=2∨ix.den.toNat=3:=by omega);(rcases hx with hx|hx|hx|hx<;>simp only [hx]))))),rfl⟩
theorem same3c :FSpec Try.prog 37 [(.sl 1 (.sym fun _=>zi ([1,3]).length) (fun ix=>[.int .i64 (.sym fun _=>([1,3]).getD ix.den.toNat 0)])),(.sl 1 (.sym fun _=>zi ([1,3]).length) (fun ix=>[.int .i64 (.sym fun _=>([1,3]).getD ix.den.toNat 0)]))] [] (fun r _=>r=(.bool (.lit true))):=
  (same37 [1,3] [1,3] (by decide)).post fun r bs h=>⟨_,by subst h;(repeat' (first|exact qA|exact qB|refine qC ?_ rfl ?_|refine qD ?_ ?_|exact qE (by rfl)|exact qF (by rfl)|exact qE (by kernel_rfl)|exact qF (by kernel_rfl)|exact Fit.refl _|(first|(refine fit_sl (by rfl) (fun ix h0 h1=> ?_);(have h2:ix.den<2:=h1);(have hx:ix.den.toNat=0∨ix.den.toNat=1:=by omega);(rcases hx with hx|hx<;>simp only [hx]))|(refine fit_sl (by rfl) (fun ix h0 h1=> ?_);(have h2:ix.den<3:=h1);(have hx:ix.den.toNat=0∨ix.den.toNat=1∨ix.den.toNat=2:=by omega);(rcases hx with hx|hx|hx<;>simp only [hx]))|(refine fit_sl (by rfl) (fun ix h0 h1=> ?_);(have h2:ix.den<4:=h1);(have hx:ix.den.toNat=0∨ix.den.toNat=1∨ix.den.toNat=2∨ix.den.toNat=3:=by omega);(rcases hx with hx|hx|hx|hx<;>simp only [hx]))))),rfl⟩
end Go.Proofs.Ytkdgpdlfakcgdaa

namespace Go.Proofs.Ytkdgpdlfakcgdaa
open Go Go.Eng Go.Proofs
set_option maxRecDepth 10000
set_option maxHeartbeats 1000000 in
theorem awake21 :FSpec Try.prog 21 [] [] (fun r _=>r=(.bool (.lit true))):=by
  have kthree56:=three56
  have kten3:=ten3
  have kduty3:=duty3
  have kduties3:=duties3
  have kblend3:=blend3
  have kwater3:=water3
  have kprove3:=prove3
  have kfewest3:=fewest3
  have kfalse3:=false3
  have ksame3a:=same3a
  have ksame3b:=same3b
  have ksame3c:=same3c
  have c47:= @between47
  have h35:=eqOk35
  refine FSpec.is fun R hR=>qW (sc:=sc21) tyok mix Try.func21 rfl Try.call21 (by kernel_rfl) (by kernel_rfl) ?_
  generalize Try.prog=P at kthree56 kten3 kduty3 kduties3 kblend3 kwater3 kprove3 kfewest3 kfalse3 ksame3a ksame3b ksame3c c47 h35⊢
  cbv
  repeat' (first
      |with_reducible refine hold ?_ ?_
      |with_reducible refine And.intro ?_ ?_
      | (with_reducible refine qS ?_ ?_ ?_
         try cbv)
      | (with_reducible refine qT ?_ ?_
         try cbv)
      |(with_reducible intro hcd;(try simp only [zA,zB,zC,zD,zE,zF,zG,zH,zI,zJ,zK,zL,zM,zN,zO,zP]at hcd);try cbv)
      | (refine qP ?_ (c47 _ _) (by(repeat' (first|exact qB|refine qD ?_ ?_|exact qE (by rfl)|exact qF (by rfl)|exact Fit.refl _|exact qA|refine qC ?_ rfl ?_)))
         try cbv)
      | (refine qP ?_ (kthree56) ?hfit
         case hfit=>((repeat' (first|exact qA|exact qB|refine qC ?_ rfl ?_|refine qD ?_ ?_|exact qE (by rfl)|exact qF (by rfl)|exact Fit.refl _|(first|(refine fit_sl (by rfl) (fun ix h0 h1=> ?_);(have h2:ix.den<2:=h1);(have hx:ix.den.toNat=0∨ix.den.toNat=1:=by omega);(rcases hx with hx|hx<;>simp only [hx]))|(refine fit_sl (by rfl) (fun ix h0 h1=> ?_);(have h2:ix.den<3:=h1);(have hx:ix.den.toNat=0∨ix.den.toNat=1∨ix.den.toNat=2:=by omega);(rcases hx with hx|hx|hx<;>simp only [hx]))|(refine fit_sl (by rfl) (fun ix h0 h1=> ?_);(have h2:ix.den<4:=h1);(have hx:ix.den.toNat=0∨ix.den.toNat=1∨ix.den.toNat=2∨ix.den.toNat=3:=by omega);(rcases hx with hx|hx|hx|hx<;>simp only [hx])))));done)
         try cbv)
      | (refine qP ?_ (kten3) ?hfit
         case hfit=>((repeat' (first|exact qA|exact qB|refine qC ?_ rfl ?_|refine qD ?_ ?_|exact qE (by rfl)|exact qF (by rfl)|exact Fit.refl _|(first|(refine fit_sl (by rfl) (fun ix h0 h1=> ?_);(have h2:ix.den<2:=h1);(have hx:ix.den.toNat=0∨ix.den.toNat=1:=by omega);(rcases hx with hx|hx<;>simp only [hx]))|(refine fit_sl (by rfl) (fun ix h0 h1=> ?_);(have h2:ix.den<3:=h1);(have hx:ix.den.toNat=0∨ix.den.toNat=1∨ix.den.toNat=2:=by omega);(rcases hx with hx|hx|hx<;>simp only [hx]))|(refine fit_sl (by rfl) (fun ix h0 h1=> ?_);(have h2:ix.den<4:=h1);(have hx:ix.den.toNat=0∨ix.den.toNat=1∨ix.den.toNat=2∨ix.den.toNat=3:=by omega);(rcases hx with hx|hx|hx|hx<;>simp only [hx])))));done)
         try cbv)
      | (refine qP ?_ (kduty3) ?hfit
         case hfit=>((repeat' (first|exact qA|exact qB|refine qC ?_ rfl ?_|refine qD ?_ ?_|exact qE (by rfl)|exact qF (by rfl)|exact Fit.refl _|(first|(refine fit_sl (by rfl) (fun ix h0 h1=> ?_);(have h2:ix.den<2:=h1);(have hx:ix.den.toNat=0∨ix.den.toNat=1:=by omega);(rcases hx with hx|hx<;>simp only [hx]))|(refine fit_sl (by rfl) (fun ix h0 h1=> ?_);(have h2:ix.den<3:=h1);(have hx:ix.den.toNat=0∨ix.den.toNat=1∨ix.den.toNat=2:=by omega);(rcases hx with hx|hx|hx<;>simp only [hx]))|(refine fit_sl (by rfl) (fun ix h0 h1=> ?_);(have h2:ix.den<4:=h1);(have hx:ix.den.toNat=0∨ix.den.toNat=1∨ix.den.toNat=2∨ix.den.toNat=3:=by omega);(rcases hx with hx|hx|hx|hx<;>simp only [hx])))));done)
         try cbv)
      | (refine qP ?_ (kduties3) ?hfit
         case hfit=>((repeat' (first|exact qA|exact qB|refine qC ?_ rfl ?_|refine qD ?_ ?_|exact qE (by rfl)|exact qF (by rfl)|exact Fit.refl _|(first|(refine fit_sl (by rfl) (fun ix h0 h1=> ?_);(have h2:ix.den<2:=h1);(have hx:ix.den.toNat=0∨ix.den.toNat=1:=by omega);(rcases hx with hx|hx<;>simp only [hx]))|(refine fit_sl (by rfl) (fun ix h0 h1=> ?_);(have h2:ix.den<3:=h1);(have hx:ix.den.toNat=0∨ix.den.toNat=1∨ix.den.toNat=2:=by omega);(rcases hx with hx|hx|hx<;>simp only [hx]))|(refine fit_sl (by rfl) (fun ix h0 h1=> ?_);(have h2:ix.den<4:=h1);(have hx:ix.den.toNat=0∨ix.den.toNat=1∨ix.den.toNat=2∨ix.den.toNat=3:=by omega);(rcases hx with hx|hx|hx|hx<;>simp only [hx])))));done)
         try cbv)
      | (refine qP ?_ (kblend3) ?hfit
         case hfit=>((repeat' (first|exact qA|exact qB|refine qC ?_ rfl ?_|refine qD ?_ ?_|exact qE (by rfl)|exact qF (by rfl)|exact Fit.refl _|(first|(refine fit_sl (by rfl) (fun ix h0 h1=> ?_);(have h2:ix.den<2:=h1);(have hx:ix.den.toNat=0∨ix.den.toNat=1:=by omega);(rcases hx with hx|hx<;>simp only [hx]))|(refine fit_sl (by rfl) (fun ix h0 h1=> ?_);(have h2:ix.den<3:=h1);(have hx:ix.den.toNat=0∨ix.den.toNat=1∨ix.den.toNat=2:=by omega);(rcases hx with hx|hx|hx<;>simp only [hx]))|(refine fit_sl (by rfl) (fun ix h0 h1=> ?_);(have h2:ix.den<4:=h1);(have hx:ix.den.toNat=0∨ix.den.toNat=1∨ix.den.toNat=2∨ix.den.toNat=3:=by omega);(rcases hx with hx|hx|hx|hx<;>simp only [hx])))));done)
         try cbv)
      | (refine qP ?_ (kwater3) ?hfit
         case hfit=>((repeat' (first|exact qA|exact qB|refine qC ?_ rfl ?_|refine qD ?_ ?_|exact qE (by rfl)|exact qF (by rfl)|exact Fit.refl _|(first|(refine fit_sl (by rfl) (fun ix h0 h1=> ?_);(have h2:ix.den<2:=h1);(have hx:ix.den.toNat=0∨ix.den.toNat=1:=by omega);(rcases hx with hx|hx<;>simp only [hx]))|(refine fit_sl (by rfl) (fun ix h0 h1=> ?_);(have h2:ix.den<3:=h1);(have hx:ix.den.toNat=0∨ix.den.toNat=1∨ix.den.toNat=2:=by omega);(rcases hx with hx|hx|hx<;>simp only [hx]))|(refine fit_sl (by rfl) (fun ix h0 h1=> ?_);(have h2:ix.den<4:=h1);(have hx:ix.den.toNat=0∨ix.den.toNat=1∨ix.den.toNat=2∨ix.den.toNat=3:=by omega);(rcases hx with hx|hx|hx|hx<;>simp only [hx])))));done)
         try cbv)
      | (refine qP ?_ (kprove3) ?hfit
         case hfit=>((repeat' (first|exact qA|exact qB|refine qC ?_ rfl ?_|refine qD ?_ ?_|exact qE (by rfl)|exact qF (by rfl)|exact Fit.refl _|(first|(refine fit_sl (by rfl) (fun ix h0 h1=> ?_);(have h2:ix.den<2:=h1);(have hx:ix.den.toNat=0∨ix.den.toNat=1:=by omega);(rcases hx with hx|hx<;>simp only [hx]))|(refine fit_sl (by rfl) (fun ix h0 h1=> ?_);(have h2:ix.den<3:=h1);(have hx:ix.den.toNat=0∨ix.den.toNat=1∨ix.den.toNat=2:=by omega);(rcases hx with hx|hx|hx<;>simp only [hx]))|(refine fit_sl (by rfl) (fun ix h0 h1=> ?_);(have h2:ix.den<4:=h1);(have hx:ix.den.toNat=0∨ix.den.toNat=1∨ix.den.toNat=2∨ix.den.toNat=3:=by omega);(rcases hx with hx|hx|hx|hx<;>simp only [hx])))));done)
         try cbv)
      | (refine qP ?_ (kfewest3) ?hfit
         case hfit=>((repeat' (first|exact qA|exact qB|refine qC ?_ rfl ?_|refine qD ?_ ?_|exact qE (by rfl)|exact qF (by rfl)|exact Fit.refl _|(first|(refine fit_sl (by rfl) (fun ix h0 h1=> ?_);(have h2:ix.den<2:=h1);(have hx:ix.den.toNat=0∨ix.den.toNat=1:=by omega);(rcases hx with hx|hx<;>simp only [hx]))|(refine fit_sl (by rfl) (fun ix h0 h1=> ?_);(have h2:ix.den<3:=h1);(have hx:ix.den.toNat=0∨ix.den.toNat=1∨ix.den.toNat=2:=by omega);(rcases hx with hx|hx|hx<;>simp only [hx]))|(refine fit_sl (by rfl) (fun ix h0 h1=> ?_);(have h2:ix.den<4:=h1);(have hx:ix.den.toNat=0∨ix.den.toNat=1∨ix.den.toNat=2∨ix.den.toNat=3:=by omega);(rcases hx with hx|hx|hx|hx<;>simp only [hx])))));done)
         try cbv)
      | (refine qP ?_ (kfalse3) ?hfit
         case hfit=>((repeat' (first|exact qA|exact qB|refine qC ?_ rfl ?_|refine qD ?_ ?_|exact qE (by rfl)|exact qF (by rfl)|exact Fit.refl _|(first|(refine fit_sl (by rfl) (fun ix h0 h1=> ?_);(have h2:ix.den<2:=h1);(have hx:ix.den.toNat=0∨ix.den.toNat=1:=by omega);(rcases hx with hx|hx<;>simp only [hx]))|(refine fit_sl (by rfl) (fun ix h0 h1=> ?_);(have h2:ix.den<3:=h1);(have hx:ix.den.toNat=0∨ix.den.toNat=1∨ix.den.toNat=2:=by omega);(rcases hx with hx|hx|hx<;>simp only [hx]))|(refine fit_sl (by rfl) (fun ix h0 h1=> ?_);(have h2:ix.den<4:=h1);(have hx:ix.den.toNat=0∨ix.den.toNat=1∨ix.den.toNat=2∨ix.den.toNat=3:=by omega);(rcases hx with hx|hx|hx|hx<;>simp only [hx])))));done)
         try cbv)
      | (refine qP ?_ (ksame3a) ?hfit
         case hfit=>((repeat' (first|exact qA|exact qB|refine qC ?_ rfl ?_|refine qD ?_ ?_|exact qE (by rfl)|exact qF (by rfl)|exact Fit.refl _|(first|(refine fit_sl (by rfl) (fun ix h0 h1=> ?_);(have h2:ix.den<2:=h1);(have hx:ix.den.toNat=0∨ix.den.toNat=1:=by omega);(rcases hx with hx|hx<;>simp only [hx]))|(refine fit_sl (by rfl) (fun ix h0 h1=> ?_);(have h2:ix.den<3:=h1);(have hx:ix.den.toNat=0∨ix.den.toNat=1∨ix.den.toNat=2:=by omega);(rcases hx with hx|hx|hx<;>simp only [hx]))|(refine fit_sl (by rfl) (fun ix h0 h1=> ?_);(have h2:ix.den<4:=h1);(have hx:ix.den.toNat=0∨ix.den.toNat=1∨ix.den.toNat=2∨ix.den.toNat=3:=by omega);(rcases hx with hx|hx|hx|hx<;>simp only [hx])))));done)
         try cbv)
      | (refine qP ?_ (ksame3b) ?hfit
         case hfit=>((repeat' (first|exact qA|exact qB|refine qC ?_ rfl ?_|refine qD ?_ ?_|exact qE (by rfl)|exact qF (by rfl)|exact Fit.refl _|(first|(refine fit_sl (by rfl) (fun ix h0 h1=> ?_);(have h2:ix.den<2:=h1);(have hx:ix.den.toNat=0∨ix.den.toNat=1:=by omega);(rcases hx with hx|hx<;>simp only [hx]))|(refine fit_sl (by rfl) (fun ix h0 h1=> ?_);(have h2:ix.den<3:=h1);(have hx:ix.den.toNat=0∨ix.den.toNat=1∨ix.den.toNat=2:=by omega);(rcases hx with hx|hx|hx<;>simp only [hx]))|(refine fit_sl (by rfl) (fun ix h0 h1=> ?_);(have h2:ix.den<4:=h1);(have hx:ix.den.toNat=0∨ix.den.toNat=1∨ix.den.toNat=2∨ix.den.toNat=3:=by omega);(rcases hx with hx|hx|hx|hx<;>simp only [hx])))));done)
         try cbv)
      | (refine qP ?_ (ksame3c) ?hfit
         case hfit=>((repeat' (first|exact qA|exact qB|refine qC ?_ rfl ?_|refine qD ?_ ?_|exact qE (by rfl)|exact qF (by rfl)|exact Fit.refl _|(first|(refine fit_sl (by rfl) (fun ix h0 h1=> ?_);(have h2:ix.den<2:=h1);(have hx:ix.den.toNat=0∨ix.den.toNat=1:=by omega);(rcases hx with hx|hx<;>simp only [hx]))|(refine fit_sl (by rfl) (fun ix h0 h1=> ?_);(have h2:ix.den<3:=h1);(have hx:ix.den.toNat=0∨ix.den.toNat=1∨ix.den.toNat=2:=by omega);(rcases hx with hx|hx|hx<;>simp only [hx]))|(refine fit_sl (by rfl) (fun ix h0 h1=> ?_);(have h2:ix.den<4:=h1);(have hx:ix.den.toNat=0∨ix.den.toNat=1∨ix.den.toNat=2∨ix.den.toNat=3:=by omega);(rcases hx with hx|hx|hx|hx<;>simp only [hx])))));done)
         try cbv)
      | (refine qR ?_ (kten3) rfl ?hfit
         case hfit=>(cbv;(repeat' (first|exact qA|exact qB|refine qC ?_ rfl ?_|refine qD ?_ ?_|exact qE (by rfl)|exact qF (by rfl)|exact Fit.refl _|(first|(refine fit_sl (by rfl) (fun ix h0 h1=> ?_);(have h2:ix.den<2:=h1);(have hx:ix.den.toNat=0∨ix.den.toNat=1:=by omega);(rcases hx with hx|hx<;>simp only [hx]))|(refine fit_sl (by rfl) (fun ix h0 h1=> ?_);(have h2:ix.den<3:=h1);(have hx:ix.den.toNat=0∨ix.den.toNat=1∨ix.den.toNat=2:=by omega);(rcases hx with hx|hx|hx<;>simp only [hx]))|(refine fit_sl (by rfl) (fun ix h0 h1=> ?_);(have h2:ix.den<4:=h1);(have hx:ix.den.toNat=0∨ix.den.toNat=1∨ix.den.toNat=2∨ix.den.toNat=3:=by omega);(rcases hx with hx|hx|hx|hx<;>simp only [hx])))));done)
         try cbv)
      | (refine⟨none,?_⟩
         refine qR ?_ (kten3) rfl ?hfit
         case hfit=>(cbv;(repeat' (first|exact qA|exact qB|refine qC ?_ rfl ?_|refine qD ?_ ?_|exact qE (by rfl)|exact qF (by rfl)|exact Fit.refl _|(first|(refine fit_sl (by rfl) (fun ix h0 h1=> ?_);(have h2:ix.den<2:=h1);(have hx:ix.den.toNat=0∨ix.den.toNat=1:=by omega);(rcases hx with hx|hx<;>simp only [hx]))|(refine fit_sl (by rfl) (fun ix h0 h1=> ?_);(have h2:ix.den<3:=h1);(have hx:ix.den.toNat=0∨ix.den.toNat=1∨ix.den.toNat=2:=by omega);(rcases hx with hx|hx|hx<;>simp only [hx]))|(refine fit_sl (by rfl) (fun ix h0 h1=> ?_);(have h2:ix.den<4:=h1);(have hx:ix.den.toNat=0∨ix.den.toNat=1∨ix.den.toNat=2∨ix.den.toNat=3:=by omega);(rcases hx with hx|hx|hx|hx<;>simp only [hx])))));done)
         try cbv)
      | (refine qR ?_ (kduty3) rfl ?hfit
         case hfit=>(cbv;(repeat' (first|exact qA|exact qB|refine qC ?_ rfl ?_|refine qD ?_ ?_|exact qE (by rfl)|exact qF (by rfl)|exact Fit.refl _|(first|(refine fit_sl (by rfl) (fun ix h0 h1=> ?_);(have h2:ix.den<2:=h1);(have hx:ix.den.toNat=0∨ix.den.toNat=1:=by omega);(rcases hx with hx|hx<;>simp only [hx]))|(refine fit_sl (by rfl) (fun ix h0 h1=> ?_);(have h2:ix.den<3:=h1);(have hx:ix.den.toNat=0∨ix.den.toNat=1∨ix.den.toNat=2:=by omega);(rcases hx with hx|hx|hx<;>simp only [hx]))|(refine fit_sl (by rfl) (fun ix h0 h1=> ?_);(have h2:ix.den<4:=h1);(have hx:ix.den.toNat=0∨ix.den.toNat=1∨ix.den.toNat=2∨ix.den.toNat=3:=by omega);(rcases hx with hx|hx|hx|hx<;>simp only [hx])))));done)
         try cbv)
      | (refine⟨none,?_⟩
         refine qR ?_ (kduty3) rfl ?hfit
         case hfit=>(cbv;(repeat' (first|exact qA|exact qB|refine qC ?_ rfl ?_|refine qD ?_ ?_|exact qE (by rfl)|exact qF (by rfl)|exact Fit.refl _|(first|(refine fit_sl (by rfl) (fun ix h0 h1=> ?_);(have h2:ix.den<2:=h1);(have hx:ix.den.toNat=0∨ix.den.toNat=1:=by omega);(rcases hx with hx|hx<;>simp only [hx]))|(refine fit_sl (by rfl) (fun ix h0 h1=> ?_);(have h2:ix.den<3:=h1);(have hx:ix.den.toNat=0∨ix.den.toNat=1∨ix.den.toNat=2:=by omega);(rcases hx with hx|hx|hx<;>simp only [hx]))|(refine fit_sl (by rfl) (fun ix h0 h1=> ?_);(have h2:ix.den<4:=h1);(have hx:ix.den.toNat=0∨ix.den.toNat=1∨ix.den.toNat=2∨ix.den.toNat=3:=by omega);(rcases hx with hx|hx|hx|hx<;>simp only [hx])))));done)
         try cbv)
      | (refine qR ?_ (kduties3) rfl ?hfit
         case hfit=>(cbv;(repeat' (first|exact qA|exact qB|refine qC ?_ rfl ?_|refine qD ?_ ?_|exact qE (by rfl)|exact qF (by rfl)|exact Fit.refl _|(first|(refine fit_sl (by rfl) (fun ix h0 h1=> ?_);(have h2:ix.den<2:=h1);(have hx:ix.den.toNat=0∨ix.den.toNat=1:=by omega);(rcases hx with hx|hx<;>simp only [hx]))|(refine fit_sl (by rfl) (fun ix h0 h1=> ?_);(have h2:ix.den<3:=h1);(have hx:ix.den.toNat=0∨ix.den.toNat=1∨ix.den.toNat=2:=by omega);(rcases hx with hx|hx|hx<;>simp only [hx]))|(refine fit_sl (by rfl) (fun ix h0 h1=> ?_);(have h2:ix.den<4:=h1);(have hx:ix.den.toNat=0∨ix.den.toNat=1∨ix.den.toNat=2∨ix.den.toNat=3:=by omega);(rcases hx with hx|hx|hx|hx<;>simp only [hx])))));done)
         try cbv)
      | (refine⟨none,?_⟩
         refine qR ?_ (kduties3) rfl ?hfit
         case hfit=>(cbv;(repeat' (first|exact qA|exact qB|refine qC ?_ rfl ?_|refine qD ?_ ?_|exact qE (by rfl)|exact qF (by rfl)|exact Fit.refl _|(first|(refine fit_sl (by rfl) (fun ix h0 h1=> ?_);(have h2:ix.den<2:=h1);(have hx:ix.den.toNat=0∨ix.den.toNat=1:=by omega);(rcases hx with hx|hx<;>simp only [hx]))|(refine fit_sl (by rfl) (fun ix h0 h1=> ?_);(have h2:ix.den<3:=h1);(have hx:ix.den.toNat=0∨ix.den.toNat=1∨ix.den.toNat=2:=by omega);(rcases hx with hx|hx|hx<;>simp only [hx]))|(refine fit_sl (by rfl) (fun ix h0 h1=> ?_);(have h2:ix.den<4:=h1);(have hx:ix.den.toNat=0∨ix.den.toNat=1∨ix.den.toNat=2∨ix.den.toNat=3:=by omega);(rcases hx with hx|hx|hx|hx<;>simp only [hx])))));done)
         try cbv)
      | (refine qR ?_ (kblend3) rfl ?hfit
         case hfit=>(cbv;(repeat' (first|exact qA|exact qB|refine qC ?_ rfl ?_|refine qD ?_ ?_|exact qE (by rfl)|exact qF (by rfl)|exact Fit.refl _|(first|(refine fit_sl (by rfl) (fun ix h0 h1=> ?_);(have h2:ix.den<2:=h1);(have hx:ix.den.toNat=0∨ix.den.toNat=1:=by omega);(rcases hx with hx|hx<;>simp only [hx]))|(refine fit_sl (by rfl) (fun ix h0 h1=> ?_);(have h2:ix.den<3:=h1);(have hx:ix.den.toNat=0∨ix.den.toNat=1∨ix.den.toNat=2:=by omega);(rcases hx with hx|hx|hx<;>simp only [hx]))|(refine fit_sl (by rfl) (fun ix h0 h1=> ?_);(have h2:ix.den<4:=h1);(have hx:ix.den.toNat=0∨ix.den.toNat=1∨ix.den.toNat=2∨ix.den.toNat=3:=by omega);(rcases hx with hx|hx|hx|hx<;>simp only [hx])))));done)
         try cbv)
      | (refine⟨none,?_⟩
         refine qR ?_ (kblend3) rfl ?hfit
         case hfit=>(cbv;(repeat' (first|exact qA|exact qB|refine qC ?_ rfl ?_|refine qD ?_ ?_|exact qE (by rfl)|exact qF (by rfl)|exact Fit.refl _|(first|(refine fit_sl (by rfl) (fun ix h0 h1=> ?_);(have h2:ix.den<2:=h1);(have hx:ix.den.toNat=0∨ix.den.toNat=1:=by omega);(rcases hx with hx|hx<;>simp only [hx]))|(refine fit_sl (by rfl) (fun ix h0 h1=> ?_);(have h2:ix.den<3:=h1);(have hx:ix.den.toNat=0∨ix.den.toNat=1∨ix.den.toNat=2:=by omega);(rcases hx with hx|hx|hx<;>simp only [hx]))|(refine fit_sl (by rfl) (fun ix h0 h1=> ?_);(have h2:ix.den<4:=h1);(have hx:ix.den.toNat=0∨ix.den.toNat=1∨ix.den.toNat=2∨ix.den.toNat=3:=by omega);(rcases hx with hx|hx|hx|hx<;>simp only [hx])))));done)
         try cbv)
      | (refine qR ?_ (kwater3) rfl ?hfit
         case hfit=>(cbv;(repeat' (first|exact qA|exact qB|refine qC ?_ rfl ?_|refine qD ?_ ?_|exact qE (by rfl)|exact qF (by rfl)|exact Fit.refl _|(first|(refine fit_sl (by rfl) (fun ix h0 h1=> ?_);(have h2:ix.den<2:=h1);(have hx:ix.den.toNat=0∨ix.den.toNat=1:=by omega);(rcases hx with hx|hx<;>simp only [hx]))|(refine fit_sl (by rfl) (fun ix h0 h1=> ?_);(have h2:ix.den<3:=h1);(have hx:ix.den.toNat=0∨ix.den.toNat=1∨ix.den.toNat=2:=by omega);(rcases hx with hx|hx|hx<;>simp only [hx]))|(refine fit_sl (by rfl) (fun ix h0 h1=> ?_);(have h2:ix.den<4:=h1);(have hx:ix.den.toNat=0∨ix.den.toNat=1∨ix.den.toNat=2∨ix.den.toNat=3:=by omega);(rcases hx with hx|hx|hx|hx<;>simp only [hx])))));done)
         try cbv)
      | (refine⟨none,?_⟩
         refine qR ?_ (kwater3) rfl ?hfit
         case hfit=>(cbv;(repeat' (first|exact qA|exact qB|refine qC ?_ rfl ?_|refine qD ?_ ?_|exact qE (by rfl)|exact qF (by rfl)|exact Fit.refl _|(first|(refine fit_sl (by rfl) (fun ix h0 h1=> ?_);(have h2:ix.den<2:=h1);(have hx:ix.den.toNat=0∨ix.den.toNat=1:=by omega);(rcases hx with hx|hx<;>simp only [hx]))|(refine fit_sl (by rfl) (fun ix h0 h1=> ?_);(have h2:ix.den<3:=h1);(have hx:ix.den.toNat=0∨ix.den.toNat=1∨ix.den.toNat=2:=by omega);(rcases hx with hx|hx|hx<;>simp only [hx]))|(refine fit_sl (by rfl) (fun ix h0 h1=> ?_);(have h2:ix.den<4:=h1);(have hx:ix.den.toNat=0∨ix.den.toNat=1∨ix.den.toNat=2∨ix.den.toNat=3:=by omega);(rcases hx with hx|hx|hx|hx<;>simp only [hx])))));done)
         try cbv)
      | (refine qR ?_ (kprove3) rfl ?hfit
         case hfit=>(cbv;(repeat' (first|exact qA|exact qB|refine qC ?_ rfl ?_|refine qD ?_ ?_|exact qE (by rfl)|exact qF (by rfl)|exact Fit.refl _|(first|(refine fit_sl (by rfl) (fun ix h0 h1=> ?_);(have h2:ix.den<2:=h1);(have hx:ix.den.toNat=0∨ix.den.toNat=1:=by omega);(rcases hx with hx|hx<;>simp only [hx]))|(refine fit_sl (by rfl) (fun ix h0 h1=> ?_);(have h2:ix.den<3:=h1);(have hx:ix.den.toNat=0∨ix.den.toNat=1∨ix.den.toNat=2:=by omega);(rcases hx with hx|hx|hx<;>simp only [hx]))|(refine fit_sl (by rfl) (fun ix h0 h1=> ?_);(have h2:ix.den<4:=h1);(have hx:ix.den.toNat=0∨ix.den.toNat=1∨ix.den.toNat=2∨ix.den.toNat=3:=by omega);(rcases hx with hx|hx|hx|hx<;>simp only [hx])))));done)
         try cbv)
      | (refine⟨none,?_⟩
         refine qR ?_ (kprove3) rfl ?hfit
         case hfit=>(cbv;(repeat' (first|exact qA|exact qB|refine qC ?_ rfl ?_|refine qD ?_ ?_|exact qE (by rfl)|exact qF (by rfl)|exact Fit.refl _|(first|(refine fit_sl (by rfl) (fun ix h0 h1=> ?_);(have h2:ix.den<2:=h1);(have hx:ix.den.toNat=0∨ix.den.toNat=1:=by omega);(rcases hx with hx|hx<;>simp only [hx]))|(refine fit_sl (by rfl) (fun ix h0 h1=> ?_);(have h2:ix.den<3:=h1);(have hx:ix.den.toNat=0∨ix.den.toNat=1∨ix.den.toNat=2:=by omega);(rcases hx with hx|hx|hx<;>simp only [hx]))|(refine fit_sl (by rfl) (fun ix h0 h1=> ?_);(have h2:ix.den<4:=h1);(have hx:ix.den.toNat=0∨ix.den.toNat=1∨ix.den.toNat=2∨ix.den.toNat=3:=by omega);(rcases hx with hx|hx|hx|hx<;>simp only [hx])))));done)
         try cbv)
      | (refine qR ?_ (kfewest3) rfl ?hfit
         case hfit=>(cbv;(repeat' (first|exact qA|exact qB|refine qC ?_ rfl ?_|refine qD ?_ ?_|exact qE (by rfl)|exact qF (by rfl)|exact Fit.refl _|(first|(refine fit_sl (by rfl) (fun ix h0 h1=> ?_);(have h2:ix.den<2:=h1);(have hx:ix.den.toNat=0∨ix.den.toNat=1:=by omega);(rcases hx with hx|hx<;>simp only [hx]))|(refine fit_sl (by rfl) (fun ix h0 h1=> ?_);(have h2:ix.den<3:=h1);(have hx:ix.den.toNat=0∨ix.den.toNat=1∨ix.den.toNat=2:=by omega);(rcases hx with hx|hx|hx<;>simp only [hx]))|(refine fit_sl (by rfl) (fun ix h0 h1=> ?_);(have h2:ix.den<4:=h1);(have hx:ix.den.toNat=0∨ix.den.toNat=1∨ix.den.toNat=2∨ix.den.toNat=3:=by omega);(rcases hx with hx|hx|hx|hx<;>simp only [hx])))));done)
         try cbv)
      | (refine⟨none,?_⟩
         refine qR ?_ (kfewest3) rfl ?hfit
         case hfit=>(cbv;(repeat' (first|exact qA|exact qB|refine qC ?_ rfl ?_|refine qD ?_ ?_|exact qE (by rfl)|exact qF (by rfl)|exact Fit.refl _|(first|(refine fit_sl (by rfl) (fun ix h0 h1=> ?_);(have h2:ix.den<2:=h1);(have hx:ix.den.toNat=0∨ix.den.toNat=1:=by omega);(rcases hx with hx|hx<;>simp only [hx]))|(refine fit_sl (by rfl) (fun ix h0 h1=> ?_);(have h2:ix.den<3:=h1);(have hx:ix.den.toNat=0∨ix.den.toNat=1∨ix.den.toNat=2:=by omega);(rcases hx with hx|hx|hx<;>simp only [hx]))|(refine fit_sl (by rfl) (fun ix h0 h1=> ?_);(have h2:ix.den<4:=h1);(have hx:ix.den.toNat=0∨ix.den.toNat=1∨ix.den.toNat=2∨ix.den.toNat=3:=by omega);(rcases hx with hx|hx|hx|hx<;>simp only [hx])))));done)
         try cbv)
      | (refine qR ?_ (kfalse3) rfl ?hfit
         case hfit=>(cbv;(repeat' (first|exact qA|exact qB|refine qC ?_ rfl ?_|refine qD ?_ ?_|exact qE (by rfl)|exact qF (by rfl)|exact Fit.refl _|(first|(refine fit_sl (by rfl) (fun ix h0 h1=> ?_);(have h2:ix.den<2:=h1);(have hx:ix.den.toNat=0∨ix.den.toNat=1:=by omega);(rcases hx with hx|hx<;>simp only [hx]))|(refine fit_sl (by rfl) (fun ix h0 h1=> ?_);(have h2:ix.den<3:=h1);(have hx:ix.den.toNat=0∨ix.den.toNat=1∨ix.den.toNat=2:=by omega);(rcases hx with hx|hx|hx<;>simp only [hx]))|(refine fit_sl (by rfl) (fun ix h0 h1=> ?_);(have h2:ix.den<4:=h1);(have hx:ix.den.toNat=0∨ix.den.toNat=1∨ix.den.toNat=2∨ix.den.toNat=3:=by omega);(rcases hx with hx|hx|hx|hx<;>simp only [hx])))));done)
         try cbv)
      | (refine⟨none,?_⟩
         refine qR ?_ (kfalse3) rfl ?hfit
         case hfit=>(cbv;(repeat' (first|exact qA|exact qB|refine qC ?_ rfl ?_|refine qD ?_ ?_|exact qE (by rfl)|exact qF (by rfl)|exact Fit.refl _|(first|(refine fit_sl (by rfl) (fun ix h0 h1=> ?_);(have h2:ix.den<2:=h1);(have hx:ix.den.toNat=0∨ix.den.toNat=1:=by omega);(rcases hx with hx|hx<;>simp only [hx]))|(refine fit_sl (by rfl) (fun ix h0 h1=> ?_);(have h2:ix.den<3:=h1);(have hx:ix.den.toNat=0∨ix.den.toNat=1∨ix.den.toNat=2:=by omega);(rcases hx with hx|hx|hx<;>simp only [hx]))|(refine fit_sl (by rfl) (fun ix h0 h1=> ?_);(have h2:ix.den<4:=h1);(have hx:ix.den.toNat=0∨ix.den.toNat=1∨ix.den.toNat=2∨ix.den.toNat=3:=by omega);(rcases hx with hx|hx|hx|hx<;>simp only [hx])))));done)
         try cbv)
      | (refine qR ?_ (ksame3a) rfl ?hfit
         case hfit=>(cbv;(repeat' (first|exact qA|exact qB|refine qC ?_ rfl ?_|refine qD ?_ ?_|exact qE (by rfl)|exact qF (by rfl)|exact Fit.refl _|(first|(refine fit_sl (by rfl) (fun ix h0 h1=> ?_);(have h2:ix.den<2:=h1);(have hx:ix.den.toNat=0∨ix.den.toNat=1:=by omega);(rcases hx with hx|hx<;>simp only [hx]))|(refine fit_sl (by rfl) (fun ix h0 h1=> ?_);(have h2:ix.den<3:=h1);(have hx:ix.den.toNat=0∨ix.den.toNat=1∨ix.den.toNat=2:=by omega);(rcases hx with hx|hx|hx<;>simp only [hx]))|(refine fit_sl (by rfl) (fun ix h0 h1=> ?_);(have h2:ix.den<4:=h1);(have hx:ix.den.toNat=0∨ix.den.toNat=1∨ix.den.toNat=2∨ix.den.toNat=3:=by omega);(rcases hx with hx|hx|hx|hx<;>simp only [hx])))));done)
         try cbv)
      | (refine⟨none,?_⟩
         refine qR ?_ (ksame3a) rfl ?hfit
         case hfit=>(cbv;(repeat' (first|exact qA|exact qB|refine qC ?_ rfl ?_|refine qD ?_ ?_|exact qE (by rfl)|exact qF (by rfl)|exact Fit.refl _|(first|(refine fit_sl (by rfl) (fun ix h0 h1=> ?_);(have h2:ix.den<2:=h1);(have hx:ix.den.toNat=0∨ix.den.toNat=1:=by omega);(rcases hx with hx|hx<;>simp only [hx]))|(refine fit_sl (by rfl) (fun ix h0 h1=> ?_);(have h2:ix.den<3:=h1);(have hx:ix.den.toNat=0∨ix.den.toNat=1∨ix.den.toNat=2:=by omega);(rcases hx with hx|hx|hx<;>simp only [hx]))|(refine fit_sl (by rfl) (fun ix h0 h1=> ?_);(have h2:ix.den<4:=h1);(have hx:ix.den.toNat=0∨ix.den.toNat=1∨ix.den.toNat=2∨ix.den.toNat=3:=by omega);(rcases hx with hx|hx|hx|hx<;>simp only [hx])))));done)
         try cbv)
      | (refine qR ?_ (ksame3b) rfl ?hfit
         case hfit=>(cbv;(repeat' (first|exact qA|exact qB|refine qC ?_ rfl ?_|refine qD ?_ ?_|exact qE (by rfl)|exact qF (by rfl)|exact Fit.refl _|(first|(refine fit_sl (by rfl) (fun ix h0 h1=> ?_);(have h2:ix.den<2:=h1);(have hx:ix.den.toNat=0∨ix.den.toNat=1:=by omega);(rcases hx with hx|hx<;>simp only [hx]))|(refine fit_sl (by rfl) (fun ix h0 h1=> ?_);(have h2:ix.den<3:=h1);(have hx:ix.den.toNat=0∨ix.den.toNat=1∨ix.den.toNat=2:=by omega);(rcases hx with hx|hx|hx<;>simp only [hx]))|(refine fit_sl (by rfl) (fun ix h0 h1=> ?_);(have h2:ix.den<4:=h1);(have hx:ix.den.toNat=0∨ix.den.toNat=1∨ix.den.toNat=2∨ix.den.toNat=3:=by omega);(rcases hx with hx|hx|hx|hx<;>simp only [hx])))));done)
         try cbv)
      | (refine⟨none,?_⟩
         refine qR ?_ (ksame3b) rfl ?hfit
         case hfit=>(cbv;(repeat' (first|exact qA|exact qB|refine qC ?_ rfl ?_|refine qD ?_ ?_|exact qE (by rfl)|exact qF (by rfl)|exact Fit.refl _|(first|(refine fit_sl (by rfl) (fun ix h0 h1=> ?_);(have h2:ix.den<2:=h1);(have hx:ix.den.toNat=0∨ix.den.toNat=1:=by omega);(rcases hx with hx|hx<;>simp only [hx]))|(refine fit_sl (by rfl) (fun ix h0 h1=> ?_);(have h2:ix.den<3:=h1);(have hx:ix.den.toNat=0∨ix.den.toNat=1∨ix.den.toNat=2:=by omega);(rcases hx with hx|hx|hx<;>simp only [hx]))|(refine fit_sl (by rfl) (fun ix h0 h1=> ?_);(have h2:ix.den<4:=h1);(have hx:ix.den.toNat=0∨ix.den.toNat=1∨ix.den.toNat=2∨ix.den.toNat=3:=by omega);(rcases hx with hx|hx|hx|hx<;>simp only [hx])))));done)
         try cbv)
      | (refine qR ?_ (ksame3c) rfl ?hfit
         case hfit=>(cbv;(repeat' (first|exact qA|exact qB|refine qC ?_ rfl ?_|refine qD ?_ ?_|exact qE (by rfl)|exact qF (by rfl)|exact Fit.refl _|(first|(refine fit_sl (by rfl) (fun ix h0 h1=> ?_);(have h2:ix.den<2:=h1);(have hx:ix.den.toNat=0∨ix.den.toNat=1:=by omega);(rcases hx with hx|hx<;>simp only [hx]))|(refine fit_sl (by rfl) (fun ix h0 h1=> ?_);(have h2:ix.den<3:=h1);(have hx:ix.den.toNat=0∨ix.den.toNat=1∨ix.den.toNat=2:=by omega);(rcases hx with hx|hx|hx<;>simp only [hx]))|(refine fit_sl (by rfl) (fun ix h0 h1=> ?_);(have h2:ix.den<4:=h1);(have hx:ix.den.toNat=0∨ix.den.toNat=1∨ix.den.toNat=2∨ix.den.toNat=3:=by omega);(rcases hx with hx|hx|hx|hx<;>simp only [hx])))));done)
         try cbv)
      | (refine⟨none,?_⟩
         refine qR ?_ (ksame3c) rfl ?hfit
         case hfit=>(cbv;(repeat' (first|exact qA|exact qB|refine qC ?_ rfl ?_|refine qD ?_ ?_|exact qE (by rfl)|exact qF (by rfl)|exact Fit.refl _|(first|(refine fit_sl (by rfl) (fun ix h0 h1=> ?_);(have h2:ix.den<2:=h1);(have hx:ix.den.toNat=0∨ix.den.toNat=1:=by omega);(rcases hx with hx|hx<;>simp only [hx]))|(refine fit_sl (by rfl) (fun ix h0 h1=> ?_);(have h2:ix.den<3:=h1);(have hx:ix.den.toNat=0∨ix.den.toNat=1∨ix.den.toNat=2:=by omega);(rcases hx with hx|hx|hx<;>simp only [hx]))|(refine fit_sl (by rfl) (fun ix h0 h1=> ?_);(have h2:ix.den<4:=h1);(have hx:ix.den.toNat=0∨ix.den.toNat=1∨ix.den.toNat=2∨ix.den.toNat=3:=by omega);(rcases hx with hx|hx|hx|hx<;>simp only [hx])))));done)
         try cbv)
      |fail)
  all_goals first
    |trivial
    |((try simp only [qV]at *);(try simp only [zQ,zA,zB,zC,zD,zE,zF,zG,zH,zI,zJ,zK,zL,zM,zN,zO,zP,zR,zS]at *);first|(refine qN ?_;omega)|(simp only [Hold];omega))
    |(subst hR;(repeat' (first|exact qA|exact qB|refine qC ?_ rfl ?_|refine qD ?_ ?_|exact qE (by rfl)|exact qF (by rfl)|exact Fit.refl _|exact qG _|(refine qE ?_;(try simp only [qV]at *);simp only [zQ,zA,zB,zC,zD,zE,zF,zG,zH,zI,zJ,zK,zL,zM,zN,zO,zP,zR,zS]at *;omega)));done)
    |(simp only [Hold];exact⟨h35,rfl⟩)
    |(exact(hcd rfl).elim)
    |(simp only [Hold];decide)
    |skip
end Go.Proofs.Ytkdgpdlfakcgdaa

namespace Go.Proofs.Ytkdgpdlfakcgdaa
theorem many_le {lo hi:Nat→Int} {m1 m2:Int}(hm:m1≤m2):∀n:Nat,manyP lo hi m1 n≤m1→(∀i,i<n→lo i≤hi i)→manyP lo hi m2 n=manyP lo hi m1 n:=by
  intro n
  induction n with
  |zero=>intros;rfl
  | succ n ih=>
    intro h hr
    have h0:manyP lo hi m1 n≤m1:=by
      by_cases q:manyP lo hi m1 n≤m1
      · exact q
      · rw [many_stop (i:=n) (by omega) (n+1) (by omega)]at h;exact h
    have e:=ih h0 fun i hi'=>hr i (by omega)
    simp only [manyP]
    rw [if_pos h0,if_pos (by rw [e];omega),e]
end Go.Proofs.Ytkdgpdlfakcgdaa

namespace Go.Proofs.Ytkdgpdlfakcgdaa
theorem str_le_iff {cs:List Csk} {l:List Int} {t:Nat→Int} {s n:Int}(hs:0≤s)(hn:0≤n)(hg:1≤galP cs l l.length)(hp:0≤spiP cs l t l.length):strP cs l n t≤s↔watQ cs l t s≤n:=by
  unfold strP watQ
  rw [Int.tdiv_eq_ediv_of_nonneg hp,Int.tdiv_eq_ediv_of_nonneg hp]
  generalize spiP cs l t l.length=A at *
  generalize galP cs l l.length=G at *
  have h1:A/(G+n)<s+1↔A<(s+1)*(G+n):=Int.ediv_lt_iff_lt_mul (by omega)
  have h2:A/(s+1)<G+n↔A<(G+n)*(s+1):=Int.ediv_lt_iff_lt_mul (by omega)
  rw [Int.mul_comm (G+n) (s+1)]at h2
  constructor
  · intro h
    have:=h2.2 (h1.1 (by omega))
    omega
  · intro h
    have:=h1.2 (h2.1 (by omega))
    omega
theorem fidx_from {q:Int} {p:Nat→Bool}(hp:∀n,p n = !(decide (q≤(n:Int)))):∀k i:Nat,fidx p k i=if q≤(i:Int)+k-1∧0<k then max (i:Int) q else -1:=by
  intro k
  induction k with
  |zero=>intro i;simp [fidx]
  | succ k ih=>
    intro i
    simp only [fidx]
    rw [hp i,ih (i+1)]
    by_cases h:q≤(i:Int)
    · rw [if_neg (by simp [h]),if_pos ⟨by omega,by omega⟩]
      omega
    · rw [if_pos (by simp [h])]
      by_cases h2:q≤(i:Int)+1+k-1∧0<k
      · rw [if_pos (by omega),if_pos (by omega)]
        omega
      · rw [if_neg (by omega),if_neg (by omega)]
end Go.Proofs.Ytkdgpdlfakcgdaa

namespace Go.Proofs.Ytkdgpdlfakcgdaa
def subL (n:Nat):Nat→List Int→Nat→List (List Int)
  |0,l,_=>[l]
  |m+1,l,i=>(List.range' i (n-m-i)).flatMap fun (j:Nat)=>subL n m (l++[(j:Int)]) (j+1)
def allL (n:Nat):List (List Int):=(List.range' 0 n).flatMap fun m=>subL n (m+1) [] 0
theorem firstOf_find {f:Nat→Option (List Int)}:∀k i,firstOf f k i=(List.range' i k).findSome? f:=by
  intro k
  induction k with
  |zero=>intro i;rfl
  | succ k ih=>
    intro i
    simp only [firstOf,List.range'_succ,List.findSome?_cons]
    cases f i with
    |none=>exact ih (i+1)
    |some r=>rfl
theorem find_flat {α β:Type} {f:α→List β} {p:β→Bool}:∀l:List α,(l.flatMap f).find? p=l.findSome? fun a=>(f a).find? p:=by
  intro l
  induction l with
  |nil=>rfl
  | cons a l ih=>
    simp only [List.flatMap_cons,List.find?_append,List.findSome?_cons]
    cases (f a).find? p with
    |none=>simpa using ih
    |some r=>rfl
theorem choose_find {n:Nat} {ok:List Int→Bool}:∀m l i,chooseL n ok m l i=(subL n m l i).find? ok:=by
  intro m
  induction m with
  | zero=>
    intro l i
    simp only [chooseL,subL,List.find?_cons,List.find?_nil]
    cases ok l<;>rfl
  | succ m ih=>
    intro l i
    simp only [chooseL,subL]
    rw [firstOf_find,find_flat]
    congr 1
    funext j
    exact ih _ _
theorem few_find {n:Nat} {ok:List Int→Bool}:fewP n ok=(allL n).find? ok:=by
  unfold fewP allL
  rw [firstOf_find,find_flat]
  congr 1
  funext m
  exact choose_find _ _ _
def SortedL (S:List (List Int)):Prop:=S.Pairwise (fun a b=>shorterP a b=true∧shorterP b a=false)∧∀a∈S,shorterP a a=false
theorem sorted_lt {S:List (List Int)}(h:SortedL S) {i j:Nat}(hi:i<S.length)(hj:j<S.length):shorterP S[i] S[j]=true↔i<j:=by
  have hp:=List.pairwise_iff_getElem.1 h.1
  rcases Nat.lt_trichotomy i j with q|q|q
  · exact⟨fun _=>q,fun _=>(hp i j hi hj q).1⟩
  · subst q
    have:=h.2 S[i] (List.getElem_mem hi)
    exact⟨fun e=>(by rw [this]at e;cases e),fun e=>by omega⟩
  · have:=(hp j i hj hi q).2
    exact⟨fun e=>(by rw [this]at e;cases e),fun e=>by omega⟩
theorem least_first {S:List (List Int)} {ok:List Int→Bool} {g:Nat→List Int} {K:Nat} {R:Nat→List Int×Bool}(hS:SortedL S)(h1:∀i,i<K→g i∈S)(h2:∀a∈S,∃i,i<K∧g i=a)
    (r0:R 0=([],false)) (r1:∀i,R (i+1)=if((!(R i).2||shorterP (g i) (R i).1)&&ok (g i))=true then(g i,true)else R i):
    R K=match S.find? ok with
      |some F=>(F,true)
      |none=>([],false):=by
  have inv : ∀ k,k≤K→((R k).2=false→R k=([],false)∧∀i,i<k→ok (g i)=false)∧((R k).2=true→ok (R k).1=true∧(R k).1∈S∧∀i,i<k→ok (g i)=true→shorterP (g i) (R k).1=false):=by
    intro k
    induction k with
    |zero=>intro _;rw [r0];exact⟨fun _=>⟨rfl,fun i hi=>by omega⟩,fun h=>(by cases h)⟩
    | succ k ih =>
      intro hk
      obtain⟨i1,i2⟩:=ih (by omega)
      have hgm:=h1 k (by omega)
      rw [r1 k]
      by_cases hok:ok (g k)=true
      · cases hf:(R k).2 with
        | false=>
          obtain⟨e1,e2⟩:=i1 hf
          rw [if_pos (by simp [hf,hok])]
          refine⟨fun h=>(by cases h),fun _=>⟨hok,hgm,fun i hi ho=> ?_⟩⟩
          rcases Nat.lt_or_ge i k with q|q
          · rw [e2 i q]at ho;cases ho
          · rw [show i=k by omega];exact hS.2 _ hgm
        | true=>
          obtain⟨e1,e2,e3⟩:=i2 hf
          by_cases hs:shorterP (g k) (R k).1=true
          · rw [if_pos (by simp [hs,hok])]
            refine⟨fun h=>(by cases h),fun _=>⟨hok,hgm,fun i hi ho=> ?_⟩⟩
            rcases Nat.lt_or_ge i k with q|q
            · cases hx:shorterP (g i) (g k)with
              |false=>rfl
              | true=>
                have hn:=e3 i q ho
                obtain⟨a,ha,ea⟩:=List.mem_iff_getElem.1 (h1 i (by omega))
                obtain⟨b,hb,eb⟩:=List.mem_iff_getElem.1 hgm
                obtain⟨c,hc,ec⟩:=List.mem_iff_getElem.1 e2
                rw [←ea,←eb]at hx
                rw [←eb,←ec]at hs
                have l1:=(sorted_lt hS ha hb).1 hx
                have l2:=(sorted_lt hS hb hc).1 hs
                have:=(sorted_lt hS ha hc).2 (by omega)
                rw [ea,ec,hn]at this
                cases this
            · rw [show i=k by omega];exact hS.2 _ hgm
          · rw [if_neg (by simp [hf,hs])]
            refine⟨fun h=>(by rw [hf]at h;cases h),fun _=>⟨e1,e2,fun i hi ho=> ?_⟩⟩
            rcases Nat.lt_or_ge i k with q|q
            · exact e3 i q ho
            · rw [show i=k by omega];simpa using hs
      · rw [if_neg (by simp [hok])]
        refine⟨fun h=>⟨(i1 h).1,fun i hi=> ?_⟩,fun h=>⟨(i2 h).1,(i2 h).2.1,fun i hi ho=> ?_⟩⟩
        · rcases Nat.lt_or_ge i k with q|q
          · exact(i1 h).2 i q
          · rw [show i=k by omega];simpa using hok
        · rcases Nat.lt_or_ge i k with q|q
          · exact(i2 h).2.2 i q ho
          · rw [show i=k by omega]at ho;exact absurd ho hok
  obtain⟨i1,i2⟩:=inv K (Nat.le_refl _)
  cases hf:S.find? ok with
  | none=>
    have hno:=List.find?_eq_none.1 hf
    cases hr:(R K).2 with
    |false=>exact(i1 hr).1
    |true=>exact absurd (i2 hr).1 (hno _ (i2 hr).2.1)
  | some F=>
    have hFok:=List.find?_some hf
    have hFm:=List.mem_of_find?_eq_some hf
    obtain⟨i,hi,hgi⟩:=h2 F hFm
    cases hr:(R K).2 with
    |false=>exact absurd hFok (by rw [←hgi,(i1 hr).2 i hi];decide)
    | true=>
      obtain⟨e1,e2,e3⟩:=i2 hr
      have hn:=e3 i hi (by rw [hgi];exact hFok)
      rw [hgi]at hn
      obtain⟨a,ha,ea⟩:=List.mem_iff_getElem.1 e2
      obtain⟨b,hb,eb⟩:∃b,∃hb:b<S.length,S[b]=F∧∀j,(hj:j<b)→ok (S[j]'(by omega))=false:=by
        obtain⟨_,b,hb,e,hbef⟩:=List.find?_eq_some_iff_getElem.1 hf
        exact⟨b,hb,e,fun j hj=>by simpa using hbef j hj⟩
      have hba:¬a<b:=fun q=>by
        have:=eb.2 a q
        rw [ea,e1]at this
        cases this
      have hab:¬b<a:=fun q=>by
        have:=(sorted_lt hS hb ha).2 q
        rw [eb.1,ea,hn]at this
        cases this
      have:a=b:=by omega
      subst this
      have e:(R K).1=F:=ea.symm.trans eb.1
      show R K=(F,true)
      rw [←e,←hr]
end Go.Proofs.Ytkdgpdlfakcgdaa

namespace Go.Proofs.Ytkdgpdlfakcgdaa
def sortB (S:List (List Int)):Bool:=decide (S.Pairwise (fun a b=>shorterP a b=true∧shorterP b a=false))&&S.all fun a=> !shorterP a a
def memB (n:Nat):Bool:=((List.range (2^n-1)).all fun i=>(allL n).contains (bitsL ((i:Int)+1) 16))&&(allL n).all fun a=>(List.range (2^n-1)).any fun i=>bitsL ((i:Int)+1) 16==a
theorem sort6 :∀n,n≤6→sortB (allL n)=true:=by
  intro n hn
  match n,hn with
  |0,_=>decide +kernel
  |1,_=>decide +kernel
  |2,_=>decide +kernel
  |3,_=>decide +kernel
  |4,_=>decide +kernel
  |5,_=>decide +kernel
  |6,_=>decide +kernel
theorem mem6 :∀n,n≤6→memB n=true:=by
  intro n hn
  match n,hn with
  |0,_=>decide +kernel
  |1,_=>decide +kernel
  |2,_=>decide +kernel
  |3,_=>decide +kernel
  |4,_=>decide +kernel
  |5,_=>decide +kernel
  |6,_=>decide +kernel
theorem few_same {n:Nat}(hn:n≤6)(ok:List Int→Bool):fewR ok (2^n-1)=match fewP n ok with
    |some F=>(F,true)
    |none=>([],false):=by
  have h1:=sort6 n hn
  have h2:=mem6 n hn
  simp only [sortB,memB,Bool.and_eq_true,decide_eq_true_eq,List.all_eq_true,Bool.not_eq_true',List.any_eq_true,List.mem_range,List.contains_iff_mem,beq_iff_eq]at h1 h2
  rw [few_find]
  exact least_first (g:=fun i=>bitsL ((i:Int)+1) 16) ⟨h1.1,h1.2⟩ h2.1 h2.2 rfl fun i=>rfl
end Go.Proofs.Ytkdgpdlfakcgdaa

namespace Go.Proofs.Ytkdgpdlfakcgdaa
open Go Go.Eng Go.Proofs
def prD (d:Dcl):Int×Int:=(d.c,d.t)
theorem prD_get (ds:List Dcl)(k:Nat):(ds.map prD).getD k (0,0)=((ds.getD k dc0).c,(ds.getD k dc0).t):=by
  rw [List.getD_eq_getElem?_getD,List.getElem?_map,List.getD_eq_getElem?_getD]
  cases ds[k]? with
  |none=>rfl
  |some d=>rfl
def truB (cs:List Csk)(lo hi:Nat→Int)(ks:List Int):Bool:=isTrueP (cs.getD (ks.getD 0 0).toNat ck0).g (lo (ks.getD 0 0).toNat) (hi (ks.getD 0 0).toNat) (ks.getD 1 0)
theorem isTrue_has {g lo hi t:Int}:isTrueP g lo hi t=hasT g lo (hi-lo+1).toNat t:=by
  unfold isTrueP hasT
  rw [show ∀x y:Bool,(x=y)=(x=true↔y=true)from fun x y=>by cases x<;>cases y<;>simp]
  simp only [decide_eq_true_eq,fidx_iff,List.any_eq_true,List.mem_range,Bool.not_eq_false',decide_eq_true_eq]
  constructor
  · rintro⟨j,_,h1,h2⟩
    exact⟨j,by omega,h2.symm⟩
  · rintro⟨j,h1,h2⟩
    exact⟨j,by omega,by omega,h2.symm⟩
theorem can_tru {cs:List Csk} {lo hi lo' hi':Nat→Int} {n:Nat} {c t:Int}(hc:0≤c∧c<(n:Int))(hl:∀j,j<n→lo j=lo' j)(hh:∀j,j<n→hi j=hi' j):canB cs lo hi n [c,t]=truB cs lo' hi' [c,t]:=by
  unfold canB truB
  simp only [List.getD_cons_zero,List.getD_cons_succ]
  rw [decide_eq_true hc,Bool.true_and,isTrue_has,hl c.toNat (by omega),hh c.toNat (by omega)]
theorem fal_congr {p q:List Int→Bool} {D:List (Int×Int)}:∀k,(∀i,i<k→p [(D.getD i (0,0)).1,(D.getD i (0,0)).2]=q [(D.getD i (0,0)).1,(D.getD i (0,0)).2])→falL p D k=falL q D k:=by
  intro k
  induction k with
  |zero=>intro _;rfl
  | succ k ih=>
    intro h
    simp only [falL]
    rw [h k (by omega),ih fun i hi=>h i (by omega)]
theorem dec_iff {n:Nat} {D:List (Int×Int)}:decB n D=true↔∀i,i<D.length→0≤(D.getD i (0,0)).1∧(D.getD i (0,0)).1≤(n:Int)-1:=by
  simp only [decB,decide_eq_true_eq,Bool.and_eq_true]
theorem fal_known {tw tm:List Int} {tv:List (List Int)} {cs:List Csk} {ds:List Dcl}(hd:decB cs.length (ds.map prD)=true):
    falL (canB cs (fun j=>sLo tw tm tv (cs.getD j ck0)) (fun j=>sHi tw tm tv (cs.getD j ck0)) cs.length) (ds.map prD) ds.length=falL (truB cs (loA tw tm tv cs cs.length) (hiA tw tm tv cs cs.length)) (ds.map prD) ds.length:=by
  refine fal_congr _ fun i hi=> ?_
  have:=dec_iff.1 hd i (by simpa using hi)
  exact can_tru (by omega) (fun j hj=>by simp only [loA];rw [if_pos hj]) (fun j hj=>by simp only [hiA];rw [if_pos hj])
theorem tru_at {cs:List Csk} {lo hi:Nat→Int} {ds:List Dcl} {k:Nat}:truB cs lo hi [((ds.map prD).getD k (0,0)).1,((ds.map prD).getD k (0,0)).2]=isTrueP (cs.getD (ds.getD k dc0).c.toNat ck0).g (lo (ds.getD k dc0).c.toNat) (hi (ds.getD k dc0).c.toNat) (ds.getD k dc0).t:=by
  rw [prD_get];rfl
end Go.Proofs.Ytkdgpdlfakcgdaa
