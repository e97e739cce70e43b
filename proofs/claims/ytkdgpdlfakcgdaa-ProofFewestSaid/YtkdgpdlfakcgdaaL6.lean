/- ProofFewest: what the law computes. No condition. -/
import Derived.Test.YtkdgpdlfakcgdaaT7
set_option linter.unusedVariables false
set_option linter.unusedSimpArgs false
set_option linter.deprecated false
set_option linter.all false

namespace Go.Proofs.Ytkdgpdlfakcgdaa
open Go Go.Eng Go.Proofs
set_option maxRecDepth 10000
theorem str_lo (tw tm:List Int)(tv:List (List Int))(cs:List Csk)(l:List Int)(water:Int)(hl:InCs cs.length l):strP cs l water (loA tw tm tv cs cs.length)=strP cs l water (fun j=>sLo tw tm tv (cs.getD j ck0)):=str_congr hl fun j hj=>by simp only [loA];rw [if_pos hj]
theorem str_hi (tw tm:List Int)(tv:List (List Int))(cs:List Csk)(l:List Int)(water:Int)(hl:InCs cs.length l):strP cs l water (hiA tw tm tv cs cs.length)=strP cs l water (fun j=>sHi tw tm tv (cs.getD j ck0)):=str_congr hl fun j hj=>by simp only [hiA];rw [if_pos hj]
end Go.Proofs.Ytkdgpdlfakcgdaa

namespace Go.Proofs.Ytkdgpdlfakcgdaa
open Go Go.Eng Go.Proofs
set_option maxRecDepth 10000
def inB (n:Nat):Bool:=(allL n).all fun a=>decide (a.length≤1000)&&a.all fun x=>decide (0≤x)&&decide (x<(n:Int))
theorem in6 :∀n,n≤6→inB n=true:=by
  intro n hn
  match n,hn with
  |0,_=>decide +kernel
  |1,_=>decide +kernel
  |2,_=>decide +kernel
  |3,_=>decide +kernel
  |4,_=>decide +kernel
  |5,_=>decide +kernel
  |6,_=>decide +kernel
theorem all_in {n:Nat}(hn:n≤6) {l:List Int}(h:l∈allL n):InCs n l:=by
  have h1:=in6 n hn
  simp only [inB,List.all_eq_true,Bool.and_eq_true,decide_eq_true_eq]at h1
  refine⟨(h1 l h).1,fun j hj=> ?_⟩
  rw [List.getD_eq_getElem?_getD,List.getElem?_eq_getElem hj]
  exact(h1 l h).2 _ (List.getElem_mem hj)
theorem find_congr {p q:List Int→Bool}:∀l:List (List Int),(∀a∈l,p a=q a)→l.find? p=l.find? q:=by
  intro l
  induction l with
  |nil=>intro _;rfl
  | cons a l ih=>
    intro h
    simp only [List.find?_cons]
    rw [h a (by simp),ih fun x hx=>h x (List.mem_cons_of_mem _ hx)]
theorem few_known (tw tm:List Int)(tv:List (List Int))(rate:Int)(cs:List Csk)(a b:Int)(hS:SOk tw tm tv rate cs):fewP cs.length (surB cs (loA tw tm tv cs cs.length) (hiA tw tm tv cs cs.length) a b)=fewP cs.length (surB cs (fun j=>sLo tw tm tv (cs.getD j ck0)) (fun j=>sHi tw tm tv (cs.getD j ck0)) a b):=by
  rw [few_find,few_find]
  refine find_congr _ fun l hl=> ?_
  have hi:=all_in hS.few hl
  unfold surB
  rw [str_lo tw tm tv cs l 0 hi,str_hi tw tm tv cs l 0 hi]
theorem fewest36y (tw tm:List Int)(tv:List (List Int))(rate:Int)(cs:List Csk)(a b:Int)(F:List Int)(hS:SOk tw tm tv rate cs)(hch:fewP cs.length (surB cs (fun j=>sLo tw tm tv (cs.getD j ck0)) (fun j=>sHi tw tm tv (cs.getD j ck0)) a b)=some F):FSpec Try.prog 36 [(stoS tw tm tv rate cs),(.sl 2 (.sym fun _=>zi cs.length) (fun ix=>[(.int .i64 (.sym fun _=>loA tw tm tv cs cs.length ix.den.toNat)),(.int .i64 (.sym fun _=>hiA tw tm tv cs cs.length ix.den.toNat))])),(.agg [(.int .i64 (.sym fun _=>a)),(.int .i64 (.sym fun _=>b))])] [] (fun r _=>r=(.tup [(.sl 1 (.sym fun _=>zi (F).length) (fun ix=>[.int .i64 (.sym fun _=>(F).getD ix.den.toNat 0)])),(.bool (.sym fun _=>true))])):=by
  have h:=fewest36 tw tm tv rate cs (loA tw tm tv cs cs.length) (hiA tw tm tv cs cs.length) a b hS.gal hS.few (lo_bd hS)
  rw [few_same hS.few,few_known tw tm tv rate cs a b hS,hch]at h
  exact h
theorem fewest36n (tw tm:List Int)(tv:List (List Int))(rate:Int)(cs:List Csk)(a b:Int)(hS:SOk tw tm tv rate cs)(hch:fewP cs.length (surB cs (fun j=>sLo tw tm tv (cs.getD j ck0)) (fun j=>sHi tw tm tv (cs.getD j ck0)) a b)=none):FSpec Try.prog 36 [(stoS tw tm tv rate cs),(.sl 2 (.sym fun _=>zi cs.length) (fun ix=>[(.int .i64 (.sym fun _=>loA tw tm tv cs cs.length ix.den.toNat)),(.int .i64 (.sym fun _=>hiA tw tm tv cs cs.length ix.den.toNat))])),(.agg [(.int .i64 (.sym fun _=>a)),(.int .i64 (.sym fun _=>b))])] [] (fun r _=>r=(.tup [(.sl 1 (.sym fun _=>zi (([]:List Int)).length) (fun ix=>[.int .i64 (.sym fun _=>(([]:List Int)).getD ix.den.toNat 0)])),(.bool (.sym fun _=>false))])):=by
  have h:=fewest36 tw tm tv rate cs (loA tw tm tv cs cs.length) (hiA tw tm tv cs cs.length) a b hS.gal hS.few (lo_bd hS)
  rw [few_same hS.few,few_known tw tm tv rate cs a b hS,hch]at h
  exact h
theorem law6t (tw tm:List Int)(tv:List (List Int))(rate:Int)(cs:List Csk)(a b:Int)(ht:thinS tw tm tv cs=false):FSpec Try.prog 6 [(stoS tw tm tv rate cs),(.agg [(.int .i64 (.sym fun _=>a)),(.int .i64 (.sym fun _=>b))])] [] (fun r _=>r=(.bool (.lit true))):=by
  have c18:=thin18 tw tm tv rate cs
  have c21:=awake21
  refine FSpec.is fun R hR=>qW (sc:=sc6) tyok mix Try.func6 rfl Try.call6 (by kernel_rfl) (by kernel_rfl) ?_
  generalize Try.prog=P at c18 c21⊢
  cbv
  repeat' (first
      |with_reducible refine hold ?_ ?_
      |with_reducible refine And.intro ?_ ?_
      | (with_reducible refine qS ?_ ?_ ?_
         try cbv)
      | (with_reducible refine qT ?_ ?_
         try cbv)
      |(with_reducible intro hcd;(try simp only [zA,zB,zC,zD,zE,zF,zG,zH,zI,zJ,zK,zL,zM,zN,zO,zP]at hcd);try cbv)
      | (refine qP ?_ (c18) ?hfit
         case hfit=>((repeat' (first|exact qB|refine qD ?_ ?_|exact qE (by rfl)|exact qF (by rfl)|exact Fit.refl _|exact qA|refine qC ?_ rfl ?_));done)
         try cbv)
      | (refine qP ?_ (c21) ?hfit
         case hfit=>((repeat' (first|exact qB|refine qD ?_ ?_|exact qE (by rfl)|exact qF (by rfl)|exact Fit.refl _|exact qA|refine qC ?_ rfl ?_));done)
         try cbv)
      |fail)
  all_goals first
    |trivial
    |((try simp only [qV]at *);(try simp only [zQ,zA,zB,zC,zD,zE,zF,zG,zH,zI,zJ,zK,zL,zM,zN,zO,zP,zR,zS]at *);first|(refine qN ?_;omega)|(simp only [Hold];omega))
    |(subst hR;(repeat' (first|exact qA|exact qB|refine qC ?_ rfl ?_|refine qD ?_ ?_|exact qE (by rfl)|exact qF (by rfl)|exact Fit.refl _|exact qG _|(refine qE ?_;(try simp only [qV]at *);simp only [zQ,zA,zB,zC,zD,zE,zF,zG,zH,zI,zJ,zK,zL,zM,zN,zO,zP,zR,zS]at *;omega)));done)
    |(exact Bool.noConfusion (ht.symm.trans (by assumption:thinS tw tm tv cs=true)))
    |(simp only [Hold];decide)
    |skip
theorem law6f (tw tm:List Int)(tv:List (List Int))(rate:Int)(cs:List Csk)(a b:Int)(ht:thinS tw tm tv cs=true)(hf0:faultS tw tm tv rate cs≠0):FSpec Try.prog 6 [(stoS tw tm tv rate cs),(.agg [(.int .i64 (.sym fun _=>a)),(.int .i64 (.sym fun _=>b))])] [] (fun r _=>r=(.bool (.lit true))):=by
  have c18:=thin18 tw tm tv rate cs
  have c21:=awake21
  have c23:=store23 tw tm tv rate cs (thinS_iff.1 ht).1 (thinS_iff.1 ht).2
  have c24:=fault24 tw tm tv rate cs
  have c35:=fewest35e tw tm tv rate cs a b hf0
  have c25:=to25
  refine FSpec.is fun R hR=>qW (sc:=sc6) tyok mix Try.func6 rfl Try.call6 (by kernel_rfl) (by kernel_rfl) ?_
  generalize Try.prog=P at c18 c21 c23 c24 c35 c25⊢
  cbv
  repeat' (first
      |with_reducible refine hold ?_ ?_
      |with_reducible refine And.intro ?_ ?_
      | (with_reducible refine qS ?_ ?_ ?_
         try cbv)
      | (with_reducible refine qT ?_ ?_
         try cbv)
      |(with_reducible intro hcd;(try simp only [zA,zB,zC,zD,zE,zF,zG,zH,zI,zJ,zK,zL,zM,zN,zO,zP]at hcd);try cbv)
      | (refine qP ?_ (c18) ?hfit
         case hfit=>((repeat' (first|exact qB|refine qD ?_ ?_|exact qE (by rfl)|exact qF (by rfl)|exact Fit.refl _|exact qA|refine qC ?_ rfl ?_));done)
         try cbv)
      | (refine qP ?_ (c21) ?hfit
         case hfit=>((repeat' (first|exact qB|refine qD ?_ ?_|exact qE (by rfl)|exact qF (by rfl)|exact Fit.refl _|exact qA|refine qC ?_ rfl ?_));done)
         try cbv)
      | (refine qP ?_ (c20) ?hfit
         case hfit=>((repeat' (first|exact qB|refine qD ?_ ?_|exact qE (by rfl)|exact qF (by rfl)|exact Fit.refl _|exact qA|refine qC ?_ rfl ?_));done)
         try cbv)
      | (refine qP ?_ (c23) ?hfit
         case hfit=>((repeat' (first|exact qB|refine qD ?_ ?_|exact qE (by rfl)|exact qF (by rfl)|exact Fit.refl _|exact qA|refine qC ?_ rfl ?_));done)
         try cbv)
      | (refine qP ?_ (c25 _ _) (by(repeat' (first|exact qB|refine qD ?_ ?_|exact qE (by rfl)|exact qF (by rfl)|exact Fit.refl _|exact qA|refine qC ?_ rfl ?_)))
         try cbv)
      | (refine qP ?_ (c35) ?hfit
         case hfit=>((repeat' (first|exact qB|refine qD ?_ ?_|exact qE (by rfl)|exact qF (by rfl)|exact Fit.refl _|exact qA|refine qC ?_ rfl ?_));done)
         try cbv)
      | (refine qP ?_ (c24) ?hfit
         case hfit=>((repeat' (first|exact qB|refine qD ?_ ?_|exact qE (by rfl)|exact qF (by rfl)|exact Fit.refl _|exact qA|refine qC ?_ rfl ?_));done)
         try cbv)
      | (refine qP ?_ (c36) ?hfit
         case hfit=>((repeat' (first|(refine fit_sl (by rfl) (fun ix h0 h1=> ?_);refine qC (qE ?_) rfl (qC (qE ?_) rfl qA)<;>(simp only [den_sym,loA,hiA];rw [if_pos (by simp only [den_sym,zi_den]at h1;omega)]))|exact qB|refine qD ?_ ?_|exact qE (by rfl)|exact qF (by rfl)|exact Fit.refl _|exact qA|refine qC ?_ rfl ?_));done)
         try cbv)
      | (refine qP ?_ (c37) ?hfit
         case hfit=>((repeat' (first|exact qB|refine qD ?_ ?_|exact qE (by rfl)|exact qF (by rfl)|exact Fit.refl _|exact qA|refine qC ?_ rfl ?_));done)
         try cbv)
      |fail)
  all_goals first
    |trivial
    |((try simp only [qV]at *);(try simp only [zQ,zA,zB,zC,zD,zE,zF,zG,zH,zI,zJ,zK,zL,zM,zN,zO,zP,zR,zS]at *);first|(refine qN ?_;omega)|(simp only [Hold];omega))
    |(subst hR;(repeat' (first|exact qA|exact qB|refine qC ?_ rfl ?_|refine qD ?_ ?_|exact qE (by rfl)|exact qF (by rfl)|exact Fit.refl _|exact qG _|(refine qE ?_;(try simp only [qV]at *);simp only [zQ,zA,zB,zC,zD,zE,zF,zG,zH,zI,zJ,zK,zL,zM,zN,zO,zP,zR,zS]at *;omega)));done)
    |(exact Bool.noConfusion (ht.symm.trans (by assumption:thinS tw tm tv cs=false)))
    |(exact(hcd rfl).elim)
    |(exact(hf0 (by assumption)).elim)
    |(simp only [Hold];exact⟨h35,rfl⟩)
    |(exfalso;(try simp only [qV]at *);(try simp only [zQ,zA,zB,zC,zD,zE,zF,zG,zH,zI,zJ,zK,zL,zM,zN,zO,zP,zR,zS]at *);omega)
    |(simp only [Hold];decide)
    |skip
theorem law6r (tw tm:List Int)(tv:List (List Int))(rate:Int)(cs:List Csk)(a b:Int)(ht:thinS tw tm tv cs=true)(hS:SOk tw tm tv rate cs)(hab:b<a):FSpec Try.prog 6 [(stoS tw tm tv rate cs),(.agg [(.int .i64 (.sym fun _=>a)),(.int .i64 (.sym fun _=>b))])] [] (fun r _=>r=(.bool (.lit true))):=by
  have c18:=thin18 tw tm tv rate cs
  have c21:=awake21
  have c23:=store23 tw tm tv rate cs (thinS_iff.1 ht).1 (thinS_iff.1 ht).2
  have c24:=(faultS_iff.2 hS)▸fault24 tw tm tv rate cs
  have c20:=known20 tw tm tv rate cs hS
  have c25:=to25
  have c35:=fewest35r tw tm tv rate cs a b hS hab
  refine FSpec.is fun R hR=>qW (sc:=sc6) tyok mix Try.func6 rfl Try.call6 (by kernel_rfl) (by kernel_rfl) ?_
  generalize Try.prog=P at c18 c21 c23 c24 c20 c25 c35⊢
  cbv
  repeat' (first
      |with_reducible refine hold ?_ ?_
      |with_reducible refine And.intro ?_ ?_
      | (with_reducible refine qS ?_ ?_ ?_
         try cbv)
      | (with_reducible refine qT ?_ ?_
         try cbv)
      |(with_reducible intro hcd;(try simp only [zA,zB,zC,zD,zE,zF,zG,zH,zI,zJ,zK,zL,zM,zN,zO,zP]at hcd);try cbv)
      | (refine qP ?_ (c18) ?hfit
         case hfit=>((repeat' (first|exact qB|refine qD ?_ ?_|exact qE (by rfl)|exact qF (by rfl)|exact Fit.refl _|exact qA|refine qC ?_ rfl ?_));done)
         try cbv)
      | (refine qP ?_ (c21) ?hfit
         case hfit=>((repeat' (first|exact qB|refine qD ?_ ?_|exact qE (by rfl)|exact qF (by rfl)|exact Fit.refl _|exact qA|refine qC ?_ rfl ?_));done)
         try cbv)
      | (refine qP ?_ (c20) ?hfit
         case hfit=>((repeat' (first|exact qB|refine qD ?_ ?_|exact qE (by rfl)|exact qF (by rfl)|exact Fit.refl _|exact qA|refine qC ?_ rfl ?_));done)
         try cbv)
      | (refine qP ?_ (c23) ?hfit
         case hfit=>((repeat' (first|exact qB|refine qD ?_ ?_|exact qE (by rfl)|exact qF (by rfl)|exact Fit.refl _|exact qA|refine qC ?_ rfl ?_));done)
         try cbv)
      | (refine qP ?_ (c25 _ _) (by(repeat' (first|exact qB|refine qD ?_ ?_|exact qE (by rfl)|exact qF (by rfl)|exact Fit.refl _|exact qA|refine qC ?_ rfl ?_)))
         try cbv)
      | (refine qP ?_ (c35) ?hfit
         case hfit=>((repeat' (first|exact qB|refine qD ?_ ?_|exact qE (by rfl)|exact qF (by rfl)|exact Fit.refl _|exact qA|refine qC ?_ rfl ?_));done)
         try cbv)
      | (refine qP ?_ (c24) ?hfit
         case hfit=>((repeat' (first|exact qB|refine qD ?_ ?_|exact qE (by rfl)|exact qF (by rfl)|exact Fit.refl _|exact qA|refine qC ?_ rfl ?_));done)
         try cbv)
      | (refine qP ?_ (c36) ?hfit
         case hfit=>((repeat' (first|(refine fit_sl (by rfl) (fun ix h0 h1=> ?_);refine qC (qE ?_) rfl (qC (qE ?_) rfl qA)<;>(simp only [den_sym,loA,hiA];rw [if_pos (by simp only [den_sym,zi_den]at h1;omega)]))|exact qB|refine qD ?_ ?_|exact qE (by rfl)|exact qF (by rfl)|exact Fit.refl _|exact qA|refine qC ?_ rfl ?_));done)
         try cbv)
      | (refine qP ?_ (c37) ?hfit
         case hfit=>((repeat' (first|exact qB|refine qD ?_ ?_|exact qE (by rfl)|exact qF (by rfl)|exact Fit.refl _|exact qA|refine qC ?_ rfl ?_));done)
         try cbv)
      |fail)
  all_goals first
    |trivial
    |((try simp only [qV]at *);(try simp only [zQ,zA,zB,zC,zD,zE,zF,zG,zH,zI,zJ,zK,zL,zM,zN,zO,zP,zR,zS]at *);first|(refine qN ?_;omega)|(simp only [Hold];omega))
    |(subst hR;(repeat' (first|exact qA|exact qB|refine qC ?_ rfl ?_|refine qD ?_ ?_|exact qE (by rfl)|exact qF (by rfl)|exact Fit.refl _|exact qG _|(refine qE ?_;(try simp only [qV]at *);simp only [zQ,zA,zB,zC,zD,zE,zF,zG,zH,zI,zJ,zK,zL,zM,zN,zO,zP,zR,zS]at *;omega)));done)
    |(exact Bool.noConfusion (ht.symm.trans (by assumption:thinS tw tm tv cs=false)))
    |(exact(hcd rfl).elim)
    |(exact(hf0 (by assumption)).elim)
    |(simp only [Hold];exact⟨h35,rfl⟩)
    |(exfalso;(try simp only [qV]at *);(try simp only [zQ,zA,zB,zC,zD,zE,zF,zG,zH,zI,zJ,zK,zL,zM,zN,zO,zP,zR,zS]at *);omega)
    |(simp only [Hold];decide)
    |skip
theorem few_len {n:Nat}(hn:n≤6) {ok:List Int→Bool} {F:List Int}(h:fewP n ok=some F):F.length≤1000:=by
  rw [few_find]at h
  exact(all_in hn (List.mem_of_find?_eq_some h)).few
set_option maxHeartbeats 1000000 in
theorem law6y (tw tm:List Int)(tv:List (List Int))(rate:Int)(cs:List Csk)(a b:Int)(F:List Int)(ht:thinS tw tm tv cs=true)(hS:SOk tw tm tv rate cs)(hab:a≤b)(hch:fewP cs.length (surB cs (fun j=>sLo tw tm tv (cs.getD j ck0)) (fun j=>sHi tw tm tv (cs.getD j ck0)) a b)=some F):FSpec Try.prog 6 [(stoS tw tm tv rate cs),(.agg [(.int .i64 (.sym fun _=>a)),(.int .i64 (.sym fun _=>b))])] [] (fun r _=>r=(.bool (.lit true))):=by
  have c18:=thin18 tw tm tv rate cs
  have c21:=awake21
  have c23:=store23 tw tm tv rate cs (thinS_iff.1 ht).1 (thinS_iff.1 ht).2
  have c24:=(faultS_iff.2 hS)▸fault24 tw tm tv rate cs
  have c20:=known20 tw tm tv rate cs hS
  have c25:=to25
  have c35:=fewest35 tw tm tv rate cs a b F hS hab hch
  have c36:=fewest36y tw tm tv rate cs a b F hS hch
  have c37:=same37 F F ⟨by have:=few_len hS.few hch;omega,by have:=few_len hS.few hch;omega⟩
  refine FSpec.is fun R hR=>qW (sc:=sc6) tyok mix Try.func6 rfl Try.call6 (by kernel_rfl) (by kernel_rfl) ?_
  generalize Try.prog=P at c18 c21 c23 c24 c20 c25 c35 c36 c37⊢
  cbv
  repeat' (first
      |with_reducible refine hold ?_ ?_
      |with_reducible refine And.intro ?_ ?_
      | (with_reducible refine qS ?_ ?_ ?_
         try cbv)
      | (with_reducible refine qT ?_ ?_
         try cbv)
      |(with_reducible intro hcd;(try simp only [zA,zB,zC,zD,zE,zF,zG,zH,zI,zJ,zK,zL,zM,zN,zO,zP]at hcd);try cbv)
      | (refine qP ?_ (c18) ?hfit
         case hfit=>((repeat' (first|exact qB|refine qD ?_ ?_|exact qE (by rfl)|exact qF (by rfl)|exact Fit.refl _|exact qA|refine qC ?_ rfl ?_));done)
         try cbv)
      | (refine qP ?_ (c21) ?hfit
         case hfit=>((repeat' (first|exact qB|refine qD ?_ ?_|exact qE (by rfl)|exact qF (by rfl)|exact Fit.refl _|exact qA|refine qC ?_ rfl ?_));done)
         try cbv)
      | (refine qP ?_ (c20) ?hfit
         case hfit=>((repeat' (first|exact qB|refine qD ?_ ?_|exact qE (by rfl)|exact qF (by rfl)|exact Fit.refl _|exact qA|refine qC ?_ rfl ?_));done)
         try cbv)
      | (refine qP ?_ (c23) ?hfit
         case hfit=>((repeat' (first|exact qB|refine qD ?_ ?_|exact qE (by rfl)|exact qF (by rfl)|exact Fit.refl _|exact qA|refine qC ?_ rfl ?_));done)
         try cbv)
      | (refine qP ?_ (c25 _ _) (by(repeat' (first|exact qB|refine qD ?_ ?_|exact qE (by rfl)|exact qF (by rfl)|exact Fit.refl _|exact qA|refine qC ?_ rfl ?_)))
         try cbv)
      | (refine qP ?_ (c35) ?hfit
         case hfit=>((repeat' (first|exact qB|refine qD ?_ ?_|exact qE (by rfl)|exact qF (by rfl)|exact Fit.refl _|exact qA|refine qC ?_ rfl ?_));done)
         try cbv)
      | (refine qP ?_ (c24) ?hfit
         case hfit=>((repeat' (first|exact qB|refine qD ?_ ?_|exact qE (by rfl)|exact qF (by rfl)|exact Fit.refl _|exact qA|refine qC ?_ rfl ?_));done)
         try cbv)
      | (refine qP ?_ (c36) ?hfit
         case hfit=>((repeat' (first|(refine fit_sl (by rfl) (fun ix h0 h1=> ?_);refine qC (qE ?_) rfl (qC (qE ?_) rfl qA)<;>(simp only [den_sym,loA,hiA];rw [if_pos (by simp only [den_sym,zi_den]at h1;omega)]))|exact qB|refine qD ?_ ?_|exact qE (by rfl)|exact qF (by rfl)|exact Fit.refl _|exact qA|refine qC ?_ rfl ?_));done)
         try cbv)
      | (refine qP ?_ (c37) ?hfit
         case hfit=>((repeat' (first|exact qB|refine qD ?_ ?_|exact qE (by rfl)|exact qF (by rfl)|exact Fit.refl _|exact qA|refine qC ?_ rfl ?_));done)
         try cbv)
      |fail)
  all_goals first
    |trivial
    |((try simp only [qV]at *);(try simp only [zQ,zA,zB,zC,zD,zE,zF,zG,zH,zI,zJ,zK,zL,zM,zN,zO,zP,zR,zS]at *);first|(refine qN ?_;omega)|(simp only [Hold];omega))
    |(subst hR;(repeat' (first|exact qA|exact qB|refine qC ?_ rfl ?_|refine qD ?_ ?_|exact qE (by rfl)|exact qF (by rfl)|exact Fit.refl _|exact qG _|(refine qE ?_;(try simp only [qV]at *);simp only [zQ,zA,zB,zC,zD,zE,zF,zG,zH,zI,zJ,zK,zL,zM,zN,zO,zP,zR,zS]at *;omega)));done)
    |(exact Bool.noConfusion (ht.symm.trans (by assumption:thinS tw tm tv cs=false)))
    |(exact(hcd rfl).elim)
    |(exact(hf0 (by assumption)).elim)
    |(simp only [Hold];exact⟨h35,rfl⟩)
    |(exfalso;(try simp only [qV]at *);(try simp only [zQ,zA,zB,zC,zD,zE,zF,zG,zH,zI,zJ,zK,zL,zM,zN,zO,zP,zR,zS]at *);omega)
    |(simp only [Hold];decide)
    |skip
set_option maxHeartbeats 1000000 in
theorem law6n (tw tm:List Int)(tv:List (List Int))(rate:Int)(cs:List Csk)(a b:Int)(ht:thinS tw tm tv cs=true)(hS:SOk tw tm tv rate cs)(hab:a≤b)(hch:fewP cs.length (surB cs (fun j=>sLo tw tm tv (cs.getD j ck0)) (fun j=>sHi tw tm tv (cs.getD j ck0)) a b)=none):FSpec Try.prog 6 [(stoS tw tm tv rate cs),(.agg [(.int .i64 (.sym fun _=>a)),(.int .i64 (.sym fun _=>b))])] [] (fun r _=>r=(.bool (.lit true))):=by
  have c18:=thin18 tw tm tv rate cs
  have c21:=awake21
  have c23:=store23 tw tm tv rate cs (thinS_iff.1 ht).1 (thinS_iff.1 ht).2
  have c24:=(faultS_iff.2 hS)▸fault24 tw tm tv rate cs
  have c20:=known20 tw tm tv rate cs hS
  have c25:=to25
  have c35:=fewest35n tw tm tv rate cs a b hS hab hch
  have c36:=fewest36n tw tm tv rate cs a b hS hch
  refine FSpec.is fun R hR=>qW (sc:=sc6) tyok mix Try.func6 rfl Try.call6 (by kernel_rfl) (by kernel_rfl) ?_
  generalize Try.prog=P at c18 c21 c23 c24 c20 c25 c35 c36⊢
  cbv
  repeat' (first
      |with_reducible refine hold ?_ ?_
      |with_reducible refine And.intro ?_ ?_
      | (with_reducible refine qS ?_ ?_ ?_
         try cbv)
      | (with_reducible refine qT ?_ ?_
         try cbv)
      |(with_reducible intro hcd;(try simp only [zA,zB,zC,zD,zE,zF,zG,zH,zI,zJ,zK,zL,zM,zN,zO,zP]at hcd);try cbv)
      | (refine qP ?_ (c18) ?hfit
         case hfit=>((repeat' (first|exact qB|refine qD ?_ ?_|exact qE (by rfl)|exact qF (by rfl)|exact Fit.refl _|exact qA|refine qC ?_ rfl ?_));done)
         try cbv)
      | (refine qP ?_ (c21) ?hfit
         case hfit=>((repeat' (first|exact qB|refine qD ?_ ?_|exact qE (by rfl)|exact qF (by rfl)|exact Fit.refl _|exact qA|refine qC ?_ rfl ?_));done)
         try cbv)
      | (refine qP ?_ (c20) ?hfit
         case hfit=>((repeat' (first|exact qB|refine qD ?_ ?_|exact qE (by rfl)|exact qF (by rfl)|exact Fit.refl _|exact qA|refine qC ?_ rfl ?_));done)
         try cbv)
      | (refine qP ?_ (c23) ?hfit
         case hfit=>((repeat' (first|exact qB|refine qD ?_ ?_|exact qE (by rfl)|exact qF (by rfl)|exact Fit.refl _|exact qA|refine qC ?_ rfl ?_));done)
         try cbv)
      | (refine qP ?_ (c25 _ _) (by(repeat' (first|exact qB|refine qD ?_ ?_|exact qE (by rfl)|exact qF (by rfl)|exact Fit.refl _|exact qA|refine qC ?_ rfl ?_)))
         try cbv)
      | (refine qP ?_ (c35) ?hfit
         case hfit=>((repeat' (first|exact qB|refine qD ?_ ?_|exact qE (by rfl)|exact qF (by rfl)|exact Fit.refl _|exact qA|refine qC ?_ rfl ?_));done)
         try cbv)
      | (refine qP ?_ (c24) ?hfit
         case hfit=>((repeat' (first|exact qB|refine qD ?_ ?_|exact qE (by rfl)|exact qF (by rfl)|exact Fit.refl _|exact qA|refine qC ?_ rfl ?_));done)
         try cbv)
      | (refine qP ?_ (c36) ?hfit
         case hfit=>((repeat' (first|(refine fit_sl (by rfl) (fun ix h0 h1=> ?_);refine qC (qE ?_) rfl (qC (qE ?_) rfl qA)<;>(simp only [den_sym,loA,hiA];rw [if_pos (by simp only [den_sym,zi_den]at h1;omega)]))|exact qB|refine qD ?_ ?_|exact qE (by rfl)|exact qF (by rfl)|exact Fit.refl _|exact qA|refine qC ?_ rfl ?_));done)
         try cbv)
      | (refine qP ?_ (c37) ?hfit
         case hfit=>((repeat' (first|exact qB|refine qD ?_ ?_|exact qE (by rfl)|exact qF (by rfl)|exact Fit.refl _|exact qA|refine qC ?_ rfl ?_));done)
         try cbv)
      |fail)
  all_goals first
    |trivial
    |((try simp only [qV]at *);(try simp only [zQ,zA,zB,zC,zD,zE,zF,zG,zH,zI,zJ,zK,zL,zM,zN,zO,zP,zR,zS]at *);first|(refine qN ?_;omega)|(simp only [Hold];omega))
    |(subst hR;(repeat' (first|exact qA|exact qB|refine qC ?_ rfl ?_|refine qD ?_ ?_|exact qE (by rfl)|exact qF (by rfl)|exact Fit.refl _|exact qG _|(refine qE ?_;(try simp only [qV]at *);simp only [zQ,zA,zB,zC,zD,zE,zF,zG,zH,zI,zJ,zK,zL,zM,zN,zO,zP,zR,zS]at *;omega)));done)
    |(exact Bool.noConfusion (ht.symm.trans (by assumption:thinS tw tm tv cs=false)))
    |(exact(hcd rfl).elim)
    |(exact(hf0 (by assumption)).elim)
    |(simp only [Hold];exact⟨h35,rfl⟩)
    |(exfalso;(try simp only [qV]at *);(try simp only [zQ,zA,zB,zC,zD,zE,zF,zG,zH,zI,zJ,zK,zL,zM,zN,zO,zP,zR,zS]at *);omega)
    |(simp only [Hold];decide)
    |skip
theorem law6 (tw tm:List Int)(tv:List (List Int))(rate:Int)(cs:List Csk)(a b:Int):FSpec Try.prog 6 [(stoS tw tm tv rate cs),(.agg [(.int .i64 (.sym fun _=>a)),(.int .i64 (.sym fun _=>b))])] [] (fun r _=>r = .bool (.lit true)):=by
  cases ht:thinS tw tm tv cs with
  |false=>exact law6t tw tm tv rate cs a b ht
  | true=>
    by_cases hf:faultS tw tm tv rate cs=0
    · by_cases hab:a≤b
      · cases hch:fewP cs.length (surB cs (fun j=>sLo tw tm tv (cs.getD j ck0)) (fun j=>sHi tw tm tv (cs.getD j ck0)) a b)with
        |none=>exact law6n tw tm tv rate cs a b ht (faultS_iff.1 hf) hab hch
        |some F=>exact law6y tw tm tv rate cs a b F ht (faultS_iff.1 hf) hab hch
      · exact law6r tw tm tv rate cs a b ht (faultS_iff.1 hf) (by omega)
    · exact law6f tw tm tv rate cs a b ht hf
end Go.Proofs.Ytkdgpdlfakcgdaa
