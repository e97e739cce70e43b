/- ProofTruths: what the law computes. No condition. -/
import Derived.Test.YtkdgpdlfakcgdaaT7
set_option linter.unusedVariables false
set_option linter.unusedSimpArgs false
set_option linter.deprecated false
set_option linter.all false

namespace Go.Proofs.Ytkdgpdlfakcgdaa
open Go Go.Eng Go.Proofs
set_option maxRecDepth 10000
theorem duty44rz (tw tm:List Int)(tv:List (List Int))(rate:Int)(cs:List Csk)(t:List Int)(hS:SOk tw tm tv rate cs)(hT:truthB tw tm tv cs t=false):FSpec Try.prog 44 [(stoS tw tm tv rate cs),(.sl 1 (.sym fun _=>zi (t).length) (fun ix=>[.int .i64 (.sym fun _=>(t).getD ix.den.toNat 0)]))] [] (fun r _=>r=(.tup [(.int .i64 (.lit 0)),(.int .i64 (.lit 2))])):=
  (duty44r tw tm tv rate cs t hS hT).post fun r bs e=>⟨_,by subst e;(repeat' (first|exact qA|exact qB|refine qC ?_ rfl ?_|refine qD ?_ ?_|exact qE (by rfl)|exact qF (by rfl)|exact Fit.refl _)),rfl⟩
theorem tenths45rz (tw tm:List Int)(tv:List (List Int))(rate:Int)(cs:List Csk)(t:List Int)(hS:SOk tw tm tv rate cs)(hT:truthB tw tm tv cs t=false):FSpec Try.prog 45 [(stoS tw tm tv rate cs),(.sl 1 (.sym fun _=>zi (t).length) (fun ix=>[.int .i64 (.sym fun _=>(t).getD ix.den.toNat 0)]))] [] (fun r _=>r=(.tup [(.val (.slice none 0 0)),(.int .i64 (.lit 2))])):=
  (tenths45r tw tm tv rate cs t hS hT).post fun r bs e=>⟨_,by subst e;(repeat' (first|exact qA|exact qB|refine qC ?_ rfl ?_|refine qD ?_ ?_|exact qE (by rfl)|exact qF (by rfl)|exact Fit.refl _)),rfl⟩
theorem duty54z (tw tm:List Int)(tv:List (List Int))(rate:Int)(cs:List Csk)(t:List Int)(hS:SOk tw tm tv rate cs)(hT:truthB tw tm tv cs t=true):FSpec Try.prog 54 [(stoS tw tm tv rate cs),(.sl 1 (.sym fun _=>zi (t).length) (fun ix=>[.int .i64 (.sym fun _=>(t).getD ix.den.toNat 0)]))] [] (fun r _=>r=(.int .i64 (.sym fun _=>dutyP rate cs (fun j=>t.getD j 0) cs.length))):=by
  have h:=duty54 tw tm tv rate cs t hS (by rw [(truth_iff.1 hT).1];exact Nat.le_refl _) (truth_bd hS hT)
  rw [(truth_iff.1 hT).1]at h
  refine h.pre (qD (Fit.refl _) (qD ?_ qB))
  rw [(truth_iff.1 hT).1]
  exact Fit.refl _
theorem istruth53t (tw tm:List Int)(tv:List (List Int))(rate:Int)(cs:List Csk)(t:List Int)(hS:SOk tw tm tv rate cs)(h9:t.length≤9)(v:Bool)(hT:truthB tw tm tv cs t=v):FSpec Try.prog 53 [(knoS tw tm tv cs),(.sl 1 (.sym fun _=>zi (t).length) (fun ix=>[.int .i64 (.sym fun _=>(t).getD ix.den.toNat 0)]))] [] (fun r _=>r = .bool (.lit v)):=
  (istruth53 tw tm tv rate cs t hS.few (by omega)).post fun r bs e=>⟨_,by subst e;exact qF hT,rfl⟩
theorem law14t (tw tm:List Int)(tv:List (List Int))(rate:Int)(cs:List Csk)(t:List Int)(ht:thinS tw tm tv cs=false):FSpec Try.prog 14 [(stoS tw tm tv rate cs),(.sl 1 (.sym fun _=>zi (t).length) (fun ix=>[.int .i64 (.sym fun _=>(t).getD ix.den.toNat 0)]))] [] (fun r _=>r=(.bool (.lit true))):=by
  have c18:=thin18 tw tm tv rate cs
  have c21:=awake21
  refine FSpec.is fun R hR=>qW (sc:=sc14) tyok mix Try.func14 rfl Try.call14 (by kernel_rfl) (by kernel_rfl) ?_
  generalize Try.prog=P at c18 c21⊢
  cbv
  repeat' (first
      |with_reducible refine hold ?_ ?_
      |with_reducible refine And.intro ?_ ?_
      | (with_reducible refine qS ?_ ?_ ?_
         try cbv)
      | (with_reducible refine qT ?_ ?_
         try cbv)
      |(with_reducible intro hcd;(try simp only [zA,zB,zC,zD,zE,zF,zG,zH,zI,zJ,zK,zL,zM,zN,zO,zP]at hcd);try cbv)
      | (refine qP ?_ (c18) ?hfit
         case hfit=>((repeat' (first|exact qB|refine qD ?_ ?_|exact qE (by rfl)|exact qF (by rfl)|exact Fit.refl _|exact qA|refine qC ?_ rfl ?_));done)
         try cbv)
      | (refine qP ?_ (c21) ?hfit
         case hfit=>((repeat' (first|exact qB|refine qD ?_ ?_|exact qE (by rfl)|exact qF (by rfl)|exact Fit.refl _|exact qA|refine qC ?_ rfl ?_));done)
         try cbv)
      |fail)
  all_goals first
    |trivial
    |((try simp only [qV]at *);(try simp only [zQ,zA,zB,zC,zD,zE,zF,zG,zH,zI,zJ,zK,zL,zM,zN,zO,zP,zR,zS]at *);first|(refine qN ?_;omega)|(simp only [Hold];omega))
    |(subst hR;(repeat' (first|exact qA|exact qB|refine qC ?_ rfl ?_|refine qD ?_ ?_|exact qE (by rfl)|exact qF (by rfl)|exact Fit.refl _|exact qG _|(refine qE ?_;(try simp only [qV]at *);simp only [zQ,zA,zB,zC,zD,zE,zF,zG,zH,zI,zJ,zK,zL,zM,zN,zO,zP,zR,zS]at *;omega)));done)
    |(exact Bool.noConfusion (ht.symm.trans (by assumption:thinS tw tm tv cs=true)))
    |(simp only [Hold];decide)
    |skip
theorem law14l (tw tm:List Int)(tv:List (List Int))(rate:Int)(cs:List Csk)(t:List Int)(ht:thinS tw tm tv cs=true)(h9:9<t.length):FSpec Try.prog 14 [(stoS tw tm tv rate cs),(.sl 1 (.sym fun _=>zi (t).length) (fun ix=>[.int .i64 (.sym fun _=>(t).getD ix.den.toNat 0)]))] [] (fun r _=>r=(.bool (.lit true))):=by
  have c18:=thin18 tw tm tv rate cs
  have c21:=awake21
  refine FSpec.is fun R hR=>qW (sc:=sc14) tyok mix Try.func14 rfl Try.call14 (by kernel_rfl) (by kernel_rfl) ?_
  generalize Try.prog=P at c18 c21⊢
  cbv
  repeat' (first
      |with_reducible refine hold ?_ ?_
      |with_reducible refine And.intro ?_ ?_
      | (with_reducible refine qS ?_ ?_ ?_
         try cbv)
      | (with_reducible refine qT ?_ ?_
         try cbv)
      |(with_reducible intro hcd;(try simp only [zA,zB,zC,zD,zE,zF,zG,zH,zI,zJ,zK,zL,zM,zN,zO,zP]at hcd);try cbv)
      | (refine qP ?_ (c18) ?hfit
         case hfit=>((repeat' (first|exact qB|refine qD ?_ ?_|exact qE (by rfl)|exact qF (by rfl)|exact Fit.refl _|exact qA|refine qC ?_ rfl ?_));done)
         try cbv)
      | (refine qP ?_ (c21) ?hfit
         case hfit=>((repeat' (first|exact qB|refine qD ?_ ?_|exact qE (by rfl)|exact qF (by rfl)|exact Fit.refl _|exact qA|refine qC ?_ rfl ?_));done)
         try cbv)
      |fail)
  all_goals first
    |trivial
    |((try simp only [qV]at *);(try simp only [zQ,zA,zB,zC,zD,zE,zF,zG,zH,zI,zJ,zK,zL,zM,zN,zO,zP,zR,zS]at *);first|(refine qN ?_;omega)|(simp only [Hold];omega))
    |(subst hR;(repeat' (first|exact qA|exact qB|refine qC ?_ rfl ?_|refine qD ?_ ?_|exact qE (by rfl)|exact qF (by rfl)|exact Fit.refl _|exact qG _|(refine qE ?_;(try simp only [qV]at *);simp only [zQ,zA,zB,zC,zD,zE,zF,zG,zH,zI,zJ,zK,zL,zM,zN,zO,zP,zR,zS]at *;omega)));done)
    |(exact Bool.noConfusion (ht.symm.trans (by assumption:thinS tw tm tv cs=false)))
    |(exfalso;(try simp only [qV]at *);(try simp only [zQ,zA,zB,zC,zD,zE,zF,zG,zH,zI,zJ,zK,zL,zM,zN,zO,zP,zR,zS]at *);omega)
    |(simp only [Hold];decide)
    |skip
theorem law14f (tw tm:List Int)(tv:List (List Int))(rate:Int)(cs:List Csk)(t:List Int)(ht:thinS tw tm tv cs=true)(h9:t.length≤9)(hf0:faultS tw tm tv rate cs≠0):FSpec Try.prog 14 [(stoS tw tm tv rate cs),(.sl 1 (.sym fun _=>zi (t).length) (fun ix=>[.int .i64 (.sym fun _=>(t).getD ix.den.toNat 0)]))] [] (fun r _=>r=(.bool (.lit true))):=by
  have c18:=thin18 tw tm tv rate cs
  have c21:=awake21
  have c28:=list28 t (by omega)
  have c23:=store23 tw tm tv rate cs (thinS_iff.1 ht).1 (thinS_iff.1 ht).2
  have c24:=fault24 tw tm tv rate cs
  have c52:=check52 tw tm tv rate cs
  have c51:=strengths51b tw tm tv rate cs hf0
  have c45:=tenths45b tw tm tv rate cs t hf0
  have c44:=duty44b tw tm tv rate cs t hf0
  refine FSpec.is fun R hR=>qW (sc:=sc14) tyok mix Try.func14 rfl Try.call14 (by kernel_rfl) (by kernel_rfl) ?_
  generalize Try.prog=P at c18 c21 c28 c23 c24 c52 c51 c45 c44⊢
  cbv
  repeat' (first
      |with_reducible refine hold ?_ ?_
      |with_reducible refine And.intro ?_ ?_
      | (with_reducible refine qS ?_ ?_ ?_
         try cbv)
      | (with_reducible refine qT ?_ ?_
         try cbv)
      |(with_reducible intro hcd;(try simp only [zA,zB,zC,zD,zE,zF,zG,zH,zI,zJ,zK,zL,zM,zN,zO,zP]at hcd);try cbv)
      | (refine qP ?_ (c18) ?hfit
         case hfit=>((repeat' (first|exact qB|refine qD ?_ ?_|exact qE (by rfl)|exact qF (by rfl)|exact Fit.refl _|exact qA|refine qC ?_ rfl ?_));done)
         try cbv)
      | (refine qP ?_ (c21) ?hfit
         case hfit=>((repeat' (first|exact qB|refine qD ?_ ?_|exact qE (by rfl)|exact qF (by rfl)|exact Fit.refl _|exact qA|refine qC ?_ rfl ?_));done)
         try cbv)
      | (refine qP ?_ (c24) ?hfit
         case hfit=>((repeat' (first|exact qB|refine qD ?_ ?_|exact qE (by rfl)|exact qF (by rfl)|exact Fit.refl _|exact qA|refine qC ?_ rfl ?_));done)
         try cbv)
      | (refine qP ?_ (c23) ?hfit
         case hfit=>((repeat' (first|exact qB|refine qD ?_ ?_|exact qE (by rfl)|exact qF (by rfl)|exact Fit.refl _|exact qA|refine qC ?_ rfl ?_));done)
         try cbv)
      | (refine qP ?_ (c28) ?hfit
         case hfit=>((repeat' (first|exact qB|refine qD ?_ ?_|exact qE (by rfl)|exact qF (by rfl)|exact Fit.refl _|exact qA|refine qC ?_ rfl ?_));done)
         try cbv)
      | (refine qP ?_ (c51) ?hfit
         case hfit=>((repeat' (first|exact qB|refine qD ?_ ?_|exact qE (by rfl)|exact qF (by rfl)|exact Fit.refl _|exact qA|refine qC ?_ rfl ?_));done)
         try cbv)
      | (refine qP ?_ (c45) ?hfit
         case hfit=>((repeat' (first|exact qB|refine qD ?_ ?_|exact qE (by rfl)|exact qF (by rfl)|exact Fit.refl _|exact qA|refine qC ?_ rfl ?_));done)
         try cbv)
      | (refine qP ?_ (c44) ?hfit
         case hfit=>((repeat' (first|exact qB|refine qD ?_ ?_|exact qE (by rfl)|exact qF (by rfl)|exact Fit.refl _|exact qA|refine qC ?_ rfl ?_));done)
         try cbv)
      | (refine qP ?_ (c52) ?hfit
         case hfit=>((repeat' (first|exact qB|refine qD ?_ ?_|exact qE (by rfl)|exact qF (by rfl)|exact Fit.refl _|exact qA|refine qC ?_ rfl ?_));done)
         try cbv)
      | (refine qP ?_ (c20) ?hfit
         case hfit=>((repeat' (first|exact qB|refine qD ?_ ?_|exact qE (by rfl)|exact qF (by rfl)|exact Fit.refl _|exact qA|refine qC ?_ rfl ?_));done)
         try cbv)
      | (refine qP ?_ (c53) ?hfit
         case hfit=>((repeat' (first|exact qB|refine qD ?_ ?_|exact qE (by rfl)|exact qF (by rfl)|exact Fit.refl _|exact qA|refine qC ?_ rfl ?_));done)
         try cbv)
      | (refine qP ?_ (c54) ?hfit
         case hfit=>((repeat' (first|exact qB|refine qD ?_ ?_|exact qE (by rfl)|exact qF (by rfl)|exact Fit.refl _|exact qA|refine qC ?_ rfl ?_));done)
         try cbv)
      | (refine qP ?_ (c25 _ _) (by(repeat' (first|exact qB|refine qD ?_ ?_|exact qE (by rfl)|exact qF (by rfl)|exact Fit.refl _|exact qA|refine qC ?_ rfl ?_)))
         try cbv)
      |fail)
  all_goals first
    |trivial
    |((try simp only [qV]at *);(try simp only [zQ,zA,zB,zC,zD,zE,zF,zG,zH,zI,zJ,zK,zL,zM,zN,zO,zP,zR,zS]at *);first|(refine qN ?_;omega)|(simp only [Hold];omega))
    |(subst hR;(repeat' (first|exact qA|exact qB|refine qC ?_ rfl ?_|refine qD ?_ ?_|exact qE (by rfl)|exact qF (by rfl)|exact Fit.refl _|exact qG _|(refine qE ?_;(try simp only [qV]at *);simp only [zQ,zA,zB,zC,zD,zE,zF,zG,zH,zI,zJ,zK,zL,zM,zN,zO,zP,zR,zS]at *;omega)));done)
    |(exact Bool.noConfusion (ht.symm.trans (by assumption:thinS tw tm tv cs=false)))
    |(exact(hcd rfl).elim)
    |(exact(hf0 (by assumption)).elim)
    |(simp only [Hold];exact⟨h35,rfl⟩)
    |(exfalso;(try simp only [qV]at *);(try simp only [zQ,zA,zB,zC,zD,zE,zF,zG,zH,zI,zJ,zK,zL,zM,zN,zO,zP,zR,zS]at *);omega)
    |(simp only [Hold];decide)
    |skip
set_option maxHeartbeats 1000000 in
theorem law14r (tw tm:List Int)(tv:List (List Int))(rate:Int)(cs:List Csk)(t:List Int)(ht:thinS tw tm tv cs=true)(h9:t.length≤9)(hS:SOk tw tm tv rate cs)(hT:truthB tw tm tv cs t=false):FSpec Try.prog 14 [(stoS tw tm tv rate cs),(.sl 1 (.sym fun _=>zi (t).length) (fun ix=>[.int .i64 (.sym fun _=>(t).getD ix.den.toNat 0)]))] [] (fun r _=>r=(.bool (.lit true))):=by
  have c18:=thin18 tw tm tv rate cs
  have c21:=awake21
  have c28:=list28 t (by omega)
  have c23:=store23 tw tm tv rate cs (thinS_iff.1 ht).1 (thinS_iff.1 ht).2
  have c24:=(faultS_iff.2 hS)▸fault24 tw tm tv rate cs
  have c52:=(faultS_iff.2 hS)▸check52 tw tm tv rate cs
  have c51:=strengths51z tw tm tv rate cs hS
  have c20:=known20 tw tm tv rate cs hS
  have c25:=to25
  have h35:=eqOk35
  have c45:=tenths45rz tw tm tv rate cs t hS hT
  have c44:=duty44rz tw tm tv rate cs t hS hT
  have c53:=istruth53t tw tm tv rate cs t hS h9 false hT
  refine FSpec.is fun R hR=>qW (sc:=sc14) tyok mix Try.func14 rfl Try.call14 (by kernel_rfl) (by kernel_rfl) ?_
  generalize Try.prog=P at c18 c21 c28 c23 c24 c52 c51 c20 c25 h35 c45 c44 c53⊢
  cbv
  have hfew:=hS.few
  have hf1:=faultS_iff.2 hS
  repeat' (first
      |with_reducible refine hold ?_ ?_
      |with_reducible refine And.intro ?_ ?_
      | (with_reducible refine qS ?_ ?_ ?_
         try cbv)
      | (with_reducible refine qT ?_ ?_
         try cbv)
      |(with_reducible intro hcd;(try simp only [zA,zB,zC,zD,zE,zF,zG,zH,zI,zJ,zK,zL,zM,zN,zO,zP]at hcd);try cbv)
      | (refine qP ?_ (c18) ?hfit
         case hfit=>((repeat' (first|exact qB|refine qD ?_ ?_|exact qE (by rfl)|exact qF (by rfl)|exact Fit.refl _|exact qA|refine qC ?_ rfl ?_));done)
         try cbv)
      | (refine qP ?_ (c21) ?hfit
         case hfit=>((repeat' (first|exact qB|refine qD ?_ ?_|exact qE (by rfl)|exact qF (by rfl)|exact Fit.refl _|exact qA|refine qC ?_ rfl ?_));done)
         try cbv)
      | (refine qP ?_ (c24) ?hfit
         case hfit=>((repeat' (first|exact qB|refine qD ?_ ?_|exact qE (by rfl)|exact qF (by rfl)|exact Fit.refl _|exact qA|refine qC ?_ rfl ?_));done)
         try cbv)
      | (refine qP ?_ (c23) ?hfit
         case hfit=>((repeat' (first|exact qB|refine qD ?_ ?_|exact qE (by rfl)|exact qF (by rfl)|exact Fit.refl _|exact qA|refine qC ?_ rfl ?_));done)
         try cbv)
      | (refine qP ?_ (c28) ?hfit
         case hfit=>((repeat' (first|exact qB|refine qD ?_ ?_|exact qE (by rfl)|exact qF (by rfl)|exact Fit.refl _|exact qA|refine qC ?_ rfl ?_));done)
         try cbv)
      | (refine qP ?_ (c51) ?hfit
         case hfit=>((repeat' (first|exact qB|refine qD ?_ ?_|exact qE (by rfl)|exact qF (by rfl)|exact Fit.refl _|exact qA|refine qC ?_ rfl ?_));done)
         try cbv)
      | (refine qP ?_ (c45) ?hfit
         case hfit=>((repeat' (first|exact qB|refine qD ?_ ?_|exact qE (by rfl)|exact qF (by rfl)|exact Fit.refl _|exact qA|refine qC ?_ rfl ?_));done)
         try cbv)
      | (refine qP ?_ (c44) ?hfit
         case hfit=>((repeat' (first|exact qB|refine qD ?_ ?_|exact qE (by rfl)|exact qF (by rfl)|exact Fit.refl _|exact qA|refine qC ?_ rfl ?_));done)
         try cbv)
      | (refine qP ?_ (c52) ?hfit
         case hfit=>((repeat' (first|exact qB|refine qD ?_ ?_|exact qE (by rfl)|exact qF (by rfl)|exact Fit.refl _|exact qA|refine qC ?_ rfl ?_));done)
         try cbv)
      | (refine qP ?_ (c20) ?hfit
         case hfit=>((repeat' (first|exact qB|refine qD ?_ ?_|exact qE (by rfl)|exact qF (by rfl)|exact Fit.refl _|exact qA|refine qC ?_ rfl ?_));done)
         try cbv)
      | (refine qP ?_ (c53) ?hfit
         case hfit=>((repeat' (first|exact qB|refine qD ?_ ?_|exact qE (by rfl)|exact qF (by rfl)|exact Fit.refl _|exact qA|refine qC ?_ rfl ?_));done)
         try cbv)
      | (refine qP ?_ (c54) ?hfit
         case hfit=>((repeat' (first|exact qB|refine qD ?_ ?_|exact qE (by rfl)|exact qF (by rfl)|exact Fit.refl _|exact qA|refine qC ?_ rfl ?_));done)
         try cbv)
      | (refine qP ?_ (c25 _ _) (by(repeat' (first|exact qB|refine qD ?_ ?_|exact qE (by rfl)|exact qF (by rfl)|exact Fit.refl _|exact qA|refine qC ?_ rfl ?_)))
         try cbv)
      |fail)
  all_goals first
    |trivial
    |((try simp only [qV]at *);(try simp only [zQ,zA,zB,zC,zD,zE,zF,zG,zH,zI,zJ,zK,zL,zM,zN,zO,zP,zR,zS]at *);first|(refine qN ?_;omega)|(simp only [Hold];omega))
    |(subst hR;(repeat' (first|exact qA|exact qB|refine qC ?_ rfl ?_|refine qD ?_ ?_|exact qE (by rfl)|exact qF (by rfl)|exact Fit.refl _|exact qG _|(refine qE ?_;(try simp only [qV]at *);simp only [zQ,zA,zB,zC,zD,zE,zF,zG,zH,zI,zJ,zK,zL,zM,zN,zO,zP,zR,zS]at *;omega)));done)
    |(exact Bool.noConfusion (ht.symm.trans (by assumption:thinS tw tm tv cs=false)))
    |(exact(hcd rfl).elim)
    |(exact(hf0 (by assumption)).elim)
    |(simp only [Hold];exact⟨h35,rfl⟩)
    |(exact(hcd hf1).elim)
    |(exfalso;exact hcd rfl)
    |(exfalso;apply hcd;simp only [dens,den_sym])
    |(exfalso;(try simp only [qV]at *);(try simp only [zQ,zA,zB,zC,zD,zE,zF,zG,zH,zI,zJ,zK,zL,zM,zN,zO,zP,zR,zS]at *);omega)
    |(simp only [Hold];decide)
    |skip
  refine⟨none,[],{i:Nat // i≤cs.length},fun x=>⟨[(1,(.sl 1 (.sym fun _=>zi (t).length) (fun ix=>[.int .i64 (.sym fun _=>(t).getD ix.den.toNat 0)]))),(2,.own 0 0),(5,(knoS tw tm tv cs)),(6,(.int .i64 (.lit 0))),(7,(.val (.slice none 0 0))),(8,(.int .i64 (.lit 2))),(9,(.int .i64 (.lit 0))),(10,(.int .i64 (.lit 2))),(12,(knoS tw tm tv cs)),(13,(.int .i64 (.sym fun _=>zi x.1)))],[(0,.cells [(.sl 1 (.sym fun _=>zi (tw).length) (fun ix=>[.int .i64 (.sym fun _=>(tw).getD ix.den.toNat 0)])),(.sl 1 (.sym fun _=>zi (tm).length) (fun ix=>[.int .i64 (.sym fun _=>(tm).getD ix.den.toNat 0)])),(.sl 1 (.sym fun _=>zi (tv).length) (fun ix=>[(.sl 1 (.sym fun _=>zi ((tv).getD ix.den.toNat []).length) (fun jx=>[.int .i64 (.sym fun _=>((tv).getD ix.den.toNat []).getD jx.den.toNat 0)]))])),(.int .i64 (.sym fun _=>rate)),(.sl 5 (.sym fun _=>zi (cs).length) (fun ix=>[(.int .i64 (.sym fun _=>((cs).getD ix.den.toNat ck0).g)),(.int .i64 (.sym fun _=>((cs).getD ix.den.toNat ck0).wl)),(.int .i64 (.sym fun _=>((cs).getD ix.den.toNat ck0).wh)),(.int .i64 (.sym fun _=>((cs).getD ix.den.toNat ck0).ml)),(.int .i64 (.sym fun _=>((cs).getD ix.den.toNat ck0).mh))]))] 28)],100⟩,fun x=>cs.length-x.1,?_,?_⟩
  · refine⟨⟨0,by omega⟩,?_⟩
    cbv
    repeat' (first
      |with_reducible refine hold ?_ ?_
      |with_reducible refine And.intro ?_ ?_)
    all_goals first
      |trivial
      |exact qM (qE (by rfl))
      |exact qM (qF (by rfl))
      |exact qM (Fit.refl _)
      |exact qL (qK _)
      |(refine qM (qE ?_);(try simp only [qV]at *);simp only [zQ,zA,zB,zC,zD,zE,zF,zG,zH,zI,zJ,zK,zL,zM,zN,zO,zP,zR,zS]at *;omega)
      |skip
  · rintro ⟨i,hi⟩
    cbv
    repeat' (first
        |with_reducible refine hold ?_ ?_
        |with_reducible refine And.intro ?_ ?_
        | (with_reducible refine qS ?_ ?_ ?_
           try cbv)
        | (with_reducible refine qT ?_ ?_
           try cbv)
        |(with_reducible intro hcd;(try simp only [zA,zB,zC,zD,zE,zF,zG,zH,zI,zJ,zK,zL,zM,zN,zO,zP]at hcd);try cbv)
        | (refine qP ?_ (c18) ?hfit
           case hfit=>((repeat' (first|exact qB|refine qD ?_ ?_|exact qE (by rfl)|exact qF (by rfl)|exact Fit.refl _|exact qA|refine qC ?_ rfl ?_));done)
           try cbv)
        | (refine qP ?_ (c21) ?hfit
           case hfit=>((repeat' (first|exact qB|refine qD ?_ ?_|exact qE (by rfl)|exact qF (by rfl)|exact Fit.refl _|exact qA|refine qC ?_ rfl ?_));done)
           try cbv)
        | (refine qP ?_ (c24) ?hfit
           case hfit=>((repeat' (first|exact qB|refine qD ?_ ?_|exact qE (by rfl)|exact qF (by rfl)|exact Fit.refl _|exact qA|refine qC ?_ rfl ?_));done)
           try cbv)
        | (refine qP ?_ (c23) ?hfit
           case hfit=>((repeat' (first|exact qB|refine qD ?_ ?_|exact qE (by rfl)|exact qF (by rfl)|exact Fit.refl _|exact qA|refine qC ?_ rfl ?_));done)
           try cbv)
        | (refine qP ?_ (c28) ?hfit
           case hfit=>((repeat' (first|exact qB|refine qD ?_ ?_|exact qE (by rfl)|exact qF (by rfl)|exact Fit.refl _|exact qA|refine qC ?_ rfl ?_));done)
           try cbv)
        | (refine qP ?_ (c51) ?hfit
           case hfit=>((repeat' (first|exact qB|refine qD ?_ ?_|exact qE (by rfl)|exact qF (by rfl)|exact Fit.refl _|exact qA|refine qC ?_ rfl ?_));done)
           try cbv)
        | (refine qP ?_ (c45) ?hfit
           case hfit=>((repeat' (first|exact qB|refine qD ?_ ?_|exact qE (by rfl)|exact qF (by rfl)|exact Fit.refl _|exact qA|refine qC ?_ rfl ?_));done)
           try cbv)
        | (refine qP ?_ (c44) ?hfit
           case hfit=>((repeat' (first|exact qB|refine qD ?_ ?_|exact qE (by rfl)|exact qF (by rfl)|exact Fit.refl _|exact qA|refine qC ?_ rfl ?_));done)
           try cbv)
        | (refine qP ?_ (c52) ?hfit
           case hfit=>((repeat' (first|exact qB|refine qD ?_ ?_|exact qE (by rfl)|exact qF (by rfl)|exact Fit.refl _|exact qA|refine qC ?_ rfl ?_));done)
           try cbv)
        | (refine qP ?_ (c20) ?hfit
           case hfit=>((repeat' (first|exact qB|refine qD ?_ ?_|exact qE (by rfl)|exact qF (by rfl)|exact Fit.refl _|exact qA|refine qC ?_ rfl ?_));done)
           try cbv)
        | (refine qP ?_ (c53) ?hfit
           case hfit=>((repeat' (first|exact qB|refine qD ?_ ?_|exact qE (by rfl)|exact qF (by rfl)|exact Fit.refl _|exact qA|refine qC ?_ rfl ?_));done)
           try cbv)
        | (refine qP ?_ (c54) ?hfit
           case hfit=>((repeat' (first|exact qB|refine qD ?_ ?_|exact qE (by rfl)|exact qF (by rfl)|exact Fit.refl _|exact qA|refine qC ?_ rfl ?_));done)
           try cbv)
        | (refine qP ?_ (c25 _ _) (by(repeat' (first|exact qB|refine qD ?_ ?_|exact qE (by rfl)|exact qF (by rfl)|exact Fit.refl _|exact qA|refine qC ?_ rfl ?_)))
           try cbv)
        |fail)
    all_goals first
      |trivial
      |((try simp only [qV]at *);(try simp only [zQ,zA,zB,zC,zD,zE,zF,zG,zH,zI,zJ,zK,zL,zM,zN,zO,zP,zR,zS]at *);first|(refine qN ?_;omega)|(simp only [Hold];omega))
      |(subst hR;(repeat' (first|exact qA|exact qB|refine qC ?_ rfl ?_|refine qD ?_ ?_|exact qE (by rfl)|exact qF (by rfl)|exact Fit.refl _|exact qG _|(refine qE ?_;(try simp only [qV]at *);simp only [zQ,zA,zB,zC,zD,zE,zF,zG,zH,zI,zJ,zK,zL,zM,zN,zO,zP,zR,zS]at *;omega)));done)
      |(exact Bool.noConfusion (ht.symm.trans (by assumption:thinS tw tm tv cs=false)))
      |(exact(hcd rfl).elim)
      |(exact(hf0 (by assumption)).elim)
      |(simp only [Hold];exact⟨h35,rfl⟩)
      |(exact(hcd hf1).elim)
      |(exfalso;exact hcd rfl)
      |(exfalso;apply hcd;simp only [dens,den_sym])
      |(exfalso;(try simp only [qV]at *);(try simp only [zQ,zA,zB,zC,zD,zE,zF,zG,zH,zI,zJ,zK,zL,zM,zN,zO,zP,zR,zS]at *);omega)
      |((try simp only [zQ,zA,zB,zC,zD,zE,zF,zG,zH,zI,zJ,zK,zL,zM,zN,zO,zP,zR,zS]at *);refine⟨⟨i+1,by((try simp only [qV]at *);(try simp only [zQ,zA,zB,zC,zD,zE,zF,zG,zH,zI,zJ,zK,zL,zM,zN,zO,zP,zR,zS]at *);omega)⟩,by simp only [];omega,?_⟩;cbv;(repeat' (first|with_reducible refine hold ?_ ?_|with_reducible refine And.intro ?_ ?_));(all_goals first|trivial|exact qM (qE (by rfl))|exact qM (qF (by rfl))|exact qM (Fit.refl _)|exact qL (qK _)|(refine qM (qE ?_);(try simp only [qV]at *);simp only [zQ,zA,zB,zC,zD,zE,zF,zG,zH,zI,zJ,zK,zL,zM,zN,zO,zP,zR,zS]at *;omega)|skip))
      |(simp only [Hold];decide)
      |skip
set_option maxHeartbeats 1000000 in
theorem law14y (tw tm:List Int)(tv:List (List Int))(rate:Int)(cs:List Csk)(t:List Int)(ht:thinS tw tm tv cs=true)(h9:t.length≤9)(hS:SOk tw tm tv rate cs)(hT:truthB tw tm tv cs t=true):FSpec Try.prog 14 [(stoS tw tm tv rate cs),(.sl 1 (.sym fun _=>zi (t).length) (fun ix=>[.int .i64 (.sym fun _=>(t).getD ix.den.toNat 0)]))] [] (fun r _=>r=(.bool (.lit true))):=by
  have c18:=thin18 tw tm tv rate cs
  have c21:=awake21
  have c28:=list28 t (by omega)
  have c23:=store23 tw tm tv rate cs (thinS_iff.1 ht).1 (thinS_iff.1 ht).2
  have c24:=(faultS_iff.2 hS)▸fault24 tw tm tv rate cs
  have c52:=(faultS_iff.2 hS)▸check52 tw tm tv rate cs
  have c51:=strengths51z tw tm tv rate cs hS
  have c20:=known20 tw tm tv rate cs hS
  have c25:=to25
  have h35:=eqOk35
  have c45:=tenths45z tw tm tv rate cs t hS hT
  have c44:=duty44z tw tm tv rate cs t hS hT
  have c53:=istruth53t tw tm tv rate cs t hS h9 true hT
  have c54:=duty54z tw tm tv rate cs t hS hT
  have c55:=fun (k:Nat) (hk:k<cs.length)=>tenths55 (cs.getD k ck0).g (t.getD k 0) (hS.gal k hk) (truth_bd hS hT k)
  refine FSpec.is fun R hR=>qW (sc:=sc14) tyok mix Try.func14 rfl Try.call14 (by kernel_rfl) (by kernel_rfl) ?_
  generalize Try.prog=P at c18 c21 c28 c23 c24 c52 c51 c20 c25 h35 c45 c44 c53 c54 c55⊢
  cbv
  have hfew:=hS.few
  have hf1:=faultS_iff.2 hS
  have htl:=(truth_iff.1 hT).1
  repeat' (first
      |with_reducible refine hold ?_ ?_
      |with_reducible refine And.intro ?_ ?_
      | (with_reducible refine qS ?_ ?_ ?_
         try cbv)
      | (with_reducible refine qT ?_ ?_
         try cbv)
      |(with_reducible intro hcd;(try simp only [zA,zB,zC,zD,zE,zF,zG,zH,zI,zJ,zK,zL,zM,zN,zO,zP]at hcd);try cbv)
      | (refine qP ?_ (c18) ?hfit
         case hfit=>((repeat' (first|exact qB|refine qD ?_ ?_|exact qE (by rfl)|exact qF (by rfl)|exact Fit.refl _|exact qA|refine qC ?_ rfl ?_));done)
         try cbv)
      | (refine qP ?_ (c21) ?hfit
         case hfit=>((repeat' (first|exact qB|refine qD ?_ ?_|exact qE (by rfl)|exact qF (by rfl)|exact Fit.refl _|exact qA|refine qC ?_ rfl ?_));done)
         try cbv)
      | (refine qP ?_ (c24) ?hfit
         case hfit=>((repeat' (first|exact qB|refine qD ?_ ?_|exact qE (by rfl)|exact qF (by rfl)|exact Fit.refl _|exact qA|refine qC ?_ rfl ?_));done)
         try cbv)
      | (refine qP ?_ (c23) ?hfit
         case hfit=>((repeat' (first|exact qB|refine qD ?_ ?_|exact qE (by rfl)|exact qF (by rfl)|exact Fit.refl _|exact qA|refine qC ?_ rfl ?_));done)
         try cbv)
      | (refine qP ?_ (c28) ?hfit
         case hfit=>((repeat' (first|exact qB|refine qD ?_ ?_|exact qE (by rfl)|exact qF (by rfl)|exact Fit.refl _|exact qA|refine qC ?_ rfl ?_));done)
         try cbv)
      | (refine qP ?_ (c51) ?hfit
         case hfit=>((repeat' (first|exact qB|refine qD ?_ ?_|exact qE (by rfl)|exact qF (by rfl)|exact Fit.refl _|exact qA|refine qC ?_ rfl ?_));done)
         try cbv)
      | (refine qP ?_ (c45) ?hfit
         case hfit=>((repeat' (first|exact qB|refine qD ?_ ?_|exact qE (by rfl)|exact qF (by rfl)|exact Fit.refl _|exact qA|refine qC ?_ rfl ?_));done)
         try cbv)
      | (refine qP ?_ (c44) ?hfit
         case hfit=>((repeat' (first|exact qB|refine qD ?_ ?_|exact qE (by rfl)|exact qF (by rfl)|exact Fit.refl _|exact qA|refine qC ?_ rfl ?_));done)
         try cbv)
      | (refine qP ?_ (c52) ?hfit
         case hfit=>((repeat' (first|exact qB|refine qD ?_ ?_|exact qE (by rfl)|exact qF (by rfl)|exact Fit.refl _|exact qA|refine qC ?_ rfl ?_));done)
         try cbv)
      | (refine qP ?_ (c20) ?hfit
         case hfit=>((repeat' (first|exact qB|refine qD ?_ ?_|exact qE (by rfl)|exact qF (by rfl)|exact Fit.refl _|exact qA|refine qC ?_ rfl ?_));done)
         try cbv)
      | (refine qP ?_ (c53) ?hfit
         case hfit=>((repeat' (first|exact qB|refine qD ?_ ?_|exact qE (by rfl)|exact qF (by rfl)|exact Fit.refl _|exact qA|refine qC ?_ rfl ?_));done)
         try cbv)
      | (refine qP ?_ (c54) ?hfit
         case hfit=>((repeat' (first|exact qB|refine qD ?_ ?_|exact qE (by rfl)|exact qF (by rfl)|exact Fit.refl _|exact qA|refine qC ?_ rfl ?_));done)
         try cbv)
      | (refine qP ?_ (c25 _ _) (by(repeat' (first|exact qB|refine qD ?_ ?_|exact qE (by rfl)|exact qF (by rfl)|exact Fit.refl _|exact qA|refine qC ?_ rfl ?_)))
         try cbv)
      |fail)
  all_goals first
    |trivial
    |((try simp only [qV]at *);(try simp only [zQ,zA,zB,zC,zD,zE,zF,zG,zH,zI,zJ,zK,zL,zM,zN,zO,zP,zR,zS]at *);first|(refine qN ?_;omega)|(simp only [Hold];omega))
    |(subst hR;(repeat' (first|exact qA|exact qB|refine qC ?_ rfl ?_|refine qD ?_ ?_|exact qE (by rfl)|exact qF (by rfl)|exact Fit.refl _|exact qG _|(refine qE ?_;(try simp only [qV]at *);simp only [zQ,zA,zB,zC,zD,zE,zF,zG,zH,zI,zJ,zK,zL,zM,zN,zO,zP,zR,zS]at *;omega)));done)
    |(exact Bool.noConfusion (ht.symm.trans (by assumption:thinS tw tm tv cs=false)))
    |(exact(hcd rfl).elim)
    |(exact(hf0 (by assumption)).elim)
    |(simp only [Hold];exact⟨h35,rfl⟩)
    |(exact(hcd hf1).elim)
    |(exfalso;exact hcd rfl)
    |(exfalso;apply hcd;simp only [dens,den_sym])
    |(exfalso;(try simp only [qV]at *);(try simp only [zQ,zA,zB,zC,zD,zE,zF,zG,zH,zI,zJ,zK,zL,zM,zN,zO,zP,zR,zS]at *);omega)
    |(simp only [Hold];decide)
    |skip
  refine⟨none,[],{i:Nat // i≤cs.length},fun x=>⟨[(1,(.sl 1 (.sym fun _=>zi (t).length) (fun ix=>[.int .i64 (.sym fun _=>(t).getD ix.den.toNat 0)]))),(2,.own 0 0),(5,(knoS tw tm tv cs)),(6,(.int .i64 (.lit 0))),(7,(.sl 1 (.sym fun _=>zi cs.length) (fun ix=>[(.int .i64 (.sym fun _=>tenthsP (cs.getD ix.den.toNat ck0).g (t.getD ix.den.toNat 0)))]))),(8,(.int .i64 (.lit 0))),(9,(.int .i64 (.sym fun _=>dutyP rate cs (fun j=>t.getD j 0) cs.length))),(10,(.int .i64 (.lit 0))),(12,(knoS tw tm tv cs)),(13,(.int .i64 (.sym fun _=>zi x.1)))],[(0,.cells [(.sl 1 (.sym fun _=>zi (tw).length) (fun ix=>[.int .i64 (.sym fun _=>(tw).getD ix.den.toNat 0)])),(.sl 1 (.sym fun _=>zi (tm).length) (fun ix=>[.int .i64 (.sym fun _=>(tm).getD ix.den.toNat 0)])),(.sl 1 (.sym fun _=>zi (tv).length) (fun ix=>[(.sl 1 (.sym fun _=>zi ((tv).getD ix.den.toNat []).length) (fun jx=>[.int .i64 (.sym fun _=>((tv).getD ix.den.toNat []).getD jx.den.toNat 0)]))])),(.int .i64 (.sym fun _=>rate)),(.sl 5 (.sym fun _=>zi (cs).length) (fun ix=>[(.int .i64 (.sym fun _=>((cs).getD ix.den.toNat ck0).g)),(.int .i64 (.sym fun _=>((cs).getD ix.den.toNat ck0).wl)),(.int .i64 (.sym fun _=>((cs).getD ix.den.toNat ck0).wh)),(.int .i64 (.sym fun _=>((cs).getD ix.den.toNat ck0).ml)),(.int .i64 (.sym fun _=>((cs).getD ix.den.toNat ck0).mh))]))] 28)],100⟩,fun x=>cs.length-x.1,?_,?_⟩
  · refine⟨⟨0,by omega⟩,?_⟩
    cbv
    repeat' (first
      |with_reducible refine hold ?_ ?_
      |with_reducible refine And.intro ?_ ?_)
    all_goals first
      |trivial
      |exact qM (qE (by rfl))
      |exact qM (qF (by rfl))
      |exact qM (Fit.refl _)
      |exact qL (qK _)
      |(refine qM (qE ?_);(try simp only [qV]at *);simp only [zQ,zA,zB,zC,zD,zE,zF,zG,zH,zI,zJ,zK,zL,zM,zN,zO,zP,zR,zS]at *;omega)
      |skip
  · rintro ⟨i,hi⟩
    cbv
    repeat' (first
        |with_reducible refine hold ?_ ?_
        |with_reducible refine And.intro ?_ ?_
        | (with_reducible refine qS ?_ ?_ ?_
           try cbv)
        | (with_reducible refine qT ?_ ?_
           try cbv)
        |(with_reducible intro hcd;(try simp only [zA,zB,zC,zD,zE,zF,zG,zH,zI,zJ,zK,zL,zM,zN,zO,zP]at hcd);try cbv)
        | (refine qP ?_ (c18) ?hfit
           case hfit=>((repeat' (first|exact qB|refine qD ?_ ?_|exact qE (by rfl)|exact qF (by rfl)|exact Fit.refl _|exact qA|refine qC ?_ rfl ?_));done)
           try cbv)
        | (refine qP ?_ (c21) ?hfit
           case hfit=>((repeat' (first|exact qB|refine qD ?_ ?_|exact qE (by rfl)|exact qF (by rfl)|exact Fit.refl _|exact qA|refine qC ?_ rfl ?_));done)
           try cbv)
        | (refine qP ?_ (c24) ?hfit
           case hfit=>((repeat' (first|exact qB|refine qD ?_ ?_|exact qE (by rfl)|exact qF (by rfl)|exact Fit.refl _|exact qA|refine qC ?_ rfl ?_));done)
           try cbv)
        | (refine qP ?_ (c23) ?hfit
           case hfit=>((repeat' (first|exact qB|refine qD ?_ ?_|exact qE (by rfl)|exact qF (by rfl)|exact Fit.refl _|exact qA|refine qC ?_ rfl ?_));done)
           try cbv)
        | (refine qP ?_ (c28) ?hfit
           case hfit=>((repeat' (first|exact qB|refine qD ?_ ?_|exact qE (by rfl)|exact qF (by rfl)|exact Fit.refl _|exact qA|refine qC ?_ rfl ?_));done)
           try cbv)
        | (refine qP ?_ (c51) ?hfit
           case hfit=>((repeat' (first|exact qB|refine qD ?_ ?_|exact qE (by rfl)|exact qF (by rfl)|exact Fit.refl _|exact qA|refine qC ?_ rfl ?_));done)
           try cbv)
        | (refine qP ?_ (c45) ?hfit
           case hfit=>((repeat' (first|exact qB|refine qD ?_ ?_|exact qE (by rfl)|exact qF (by rfl)|exact Fit.refl _|exact qA|refine qC ?_ rfl ?_));done)
           try cbv)
        | (refine qP ?_ (c44) ?hfit
           case hfit=>((repeat' (first|exact qB|refine qD ?_ ?_|exact qE (by rfl)|exact qF (by rfl)|exact Fit.refl _|exact qA|refine qC ?_ rfl ?_));done)
           try cbv)
        | (refine qP ?_ (c52) ?hfit
           case hfit=>((repeat' (first|exact qB|refine qD ?_ ?_|exact qE (by rfl)|exact qF (by rfl)|exact Fit.refl _|exact qA|refine qC ?_ rfl ?_));done)
           try cbv)
        | (refine qP ?_ (c20) ?hfit
           case hfit=>((repeat' (first|exact qB|refine qD ?_ ?_|exact qE (by rfl)|exact qF (by rfl)|exact Fit.refl _|exact qA|refine qC ?_ rfl ?_));done)
           try cbv)
        | (refine qP ?_ (c53) ?hfit
           case hfit=>((repeat' (first|exact qB|refine qD ?_ ?_|exact qE (by rfl)|exact qF (by rfl)|exact Fit.refl _|exact qA|refine qC ?_ rfl ?_));done)
           try cbv)
        | (refine qP ?_ (c54) ?hfit
           case hfit=>((repeat' (first|exact qB|refine qD ?_ ?_|exact qE (by rfl)|exact qF (by rfl)|exact Fit.refl _|exact qA|refine qC ?_ rfl ?_));done)
           try cbv)
        | (refine qP ?_ (c25 _ _) (by(repeat' (first|exact qB|refine qD ?_ ?_|exact qE (by rfl)|exact qF (by rfl)|exact Fit.refl _|exact qA|refine qC ?_ rfl ?_)))
           try cbv)
        |fail)
    all_goals first
      |trivial
      |((try simp only [qV]at *);(try simp only [zQ,zA,zB,zC,zD,zE,zF,zG,zH,zI,zJ,zK,zL,zM,zN,zO,zP,zR,zS]at *);first|(refine qN ?_;omega)|(simp only [Hold];omega))
      |(subst hR;(repeat' (first|exact qA|exact qB|refine qC ?_ rfl ?_|refine qD ?_ ?_|exact qE (by rfl)|exact qF (by rfl)|exact Fit.refl _|exact qG _|(refine qE ?_;(try simp only [qV]at *);simp only [zQ,zA,zB,zC,zD,zE,zF,zG,zH,zI,zJ,zK,zL,zM,zN,zO,zP,zR,zS]at *;omega)));done)
      |(exact Bool.noConfusion (ht.symm.trans (by assumption:thinS tw tm tv cs=false)))
      |(exact(hcd rfl).elim)
      |(exact(hf0 (by assumption)).elim)
      |(simp only [Hold];exact⟨h35,rfl⟩)
      |(exact(hcd hf1).elim)
      |(exfalso;exact hcd rfl)
      |(exfalso;apply hcd;simp only [dens,den_sym])
      |(exfalso;(try simp only [qV]at *);(try simp only [zQ,zA,zB,zC,zD,zE,zF,zG,zH,zI,zJ,zK,zL,zM,zN,zO,zP,zR,zS]at *);omega)
      |((try simp only [zQ,zA,zB,zC,zD,zE,zF,zG,zH,zI,zJ,zK,zL,zM,zN,zO,zP,zR,zS]at *);refine⟨⟨i+1,by((try simp only [qV]at *);(try simp only [zQ,zA,zB,zC,zD,zE,zF,zG,zH,zI,zJ,zK,zL,zM,zN,zO,zP,zR,zS]at *);omega)⟩,by simp only [];omega,?_⟩;cbv;(repeat' (first|with_reducible refine hold ?_ ?_|with_reducible refine And.intro ?_ ?_));(all_goals first|trivial|exact qM (qE (by rfl))|exact qM (qF (by rfl))|exact qM (Fit.refl _)|exact qL (qK _)|(refine qM (qE ?_);(try simp only [qV]at *);simp only [zQ,zA,zB,zC,zD,zE,zF,zG,zH,zI,zJ,zK,zL,zM,zN,zO,zP,zR,zS]at *;omega)|skip))
      |(simp only [Hold];decide)
      |skip
    refine⟨none,[],{i:Nat // i≤cs.length},fun x=>⟨[(1,(.sl 1 (.sym fun _=>zi (t).length) (fun ix=>[.int .i64 (.sym fun _=>(t).getD ix.den.toNat 0)]))),(2,.own 0 0),(7,(.sl 1 (.sym fun _=>zi cs.length) (fun ix=>[(.int .i64 (.sym fun _=>tenthsP (cs.getD ix.den.toNat ck0).g (t.getD ix.den.toNat 0)))]))),(14,(.int .i64 (.sym fun _=>zi x.1)))],[(0,.cells [(.sl 1 (.sym fun _=>zi (tw).length) (fun ix=>[.int .i64 (.sym fun _=>(tw).getD ix.den.toNat 0)])),(.sl 1 (.sym fun _=>zi (tm).length) (fun ix=>[.int .i64 (.sym fun _=>(tm).getD ix.den.toNat 0)])),(.sl 1 (.sym fun _=>zi (tv).length) (fun ix=>[(.sl 1 (.sym fun _=>zi ((tv).getD ix.den.toNat []).length) (fun jx=>[.int .i64 (.sym fun _=>((tv).getD ix.den.toNat []).getD jx.den.toNat 0)]))])),(.int .i64 (.sym fun _=>rate)),(.sl 5 (.sym fun _=>zi (cs).length) (fun ix=>[(.int .i64 (.sym fun _=>((cs).getD ix.den.toNat ck0).g)),(.int .i64 (.sym fun _=>((cs).getD ix.den.toNat ck0).wl)),(.int .i64 (.sym fun _=>((cs).getD ix.den.toNat ck0).wh)),(.int .i64 (.sym fun _=>((cs).getD ix.den.toNat ck0).ml)),(.int .i64 (.sym fun _=>((cs).getD ix.den.toNat ck0).mh))]))] 28)],200⟩,fun x=>cs.length-x.1,?_,?_⟩
    · refine⟨⟨0,by omega⟩,?_⟩
      cbv
      repeat' (first
        |with_reducible refine hold ?_ ?_
        |with_reducible refine And.intro ?_ ?_)
      all_goals first
        |trivial
        |exact qM (qE (by rfl))
        |exact qM (qF (by rfl))
        |exact qM (Fit.refl _)
        |exact qL (qK _)
        |(refine qM (qE ?_);(try simp only [qV]at *);simp only [zQ,zA,zB,zC,zD,zE,zF,zG,zH,zI,zJ,zK,zL,zM,zN,zO,zP,zR,zS]at *;omega)
        |skip
    · rintro ⟨k,hk⟩
      cbv
      repeat' (first
          |with_reducible refine hold ?_ ?_
          |with_reducible refine And.intro ?_ ?_
          | (with_reducible refine qS ?_ ?_ ?_
             try cbv)
          | (with_reducible refine qT ?_ ?_
             try cbv)
          |(with_reducible intro hcd;(try simp only [zA,zB,zC,zD,zE,zF,zG,zH,zI,zJ,zK,zL,zM,zN,zO,zP]at hcd);try cbv)
          | (refine qP ?_ (c18) ?hfit
             case hfit=>((repeat' (first|exact qB|refine qD ?_ ?_|exact qE (by rfl)|exact qF (by rfl)|exact Fit.refl _|exact qA|refine qC ?_ rfl ?_));done)
             try cbv)
          | (refine qP ?_ (c21) ?hfit
             case hfit=>((repeat' (first|exact qB|refine qD ?_ ?_|exact qE (by rfl)|exact qF (by rfl)|exact Fit.refl _|exact qA|refine qC ?_ rfl ?_));done)
             try cbv)
          | (refine qP ?_ (c24) ?hfit
             case hfit=>((repeat' (first|exact qB|refine qD ?_ ?_|exact qE (by rfl)|exact qF (by rfl)|exact Fit.refl _|exact qA|refine qC ?_ rfl ?_));done)
             try cbv)
          | (refine qP ?_ (c23) ?hfit
             case hfit=>((repeat' (first|exact qB|refine qD ?_ ?_|exact qE (by rfl)|exact qF (by rfl)|exact Fit.refl _|exact qA|refine qC ?_ rfl ?_));done)
             try cbv)
          | (refine qP ?_ (c28) ?hfit
             case hfit=>((repeat' (first|exact qB|refine qD ?_ ?_|exact qE (by rfl)|exact qF (by rfl)|exact Fit.refl _|exact qA|refine qC ?_ rfl ?_));done)
             try cbv)
          | (refine qP ?_ (c51) ?hfit
             case hfit=>((repeat' (first|exact qB|refine qD ?_ ?_|exact qE (by rfl)|exact qF (by rfl)|exact Fit.refl _|exact qA|refine qC ?_ rfl ?_));done)
             try cbv)
          | (refine qP ?_ (c45) ?hfit
             case hfit=>((repeat' (first|exact qB|refine qD ?_ ?_|exact qE (by rfl)|exact qF (by rfl)|exact Fit.refl _|exact qA|refine qC ?_ rfl ?_));done)
             try cbv)
          | (refine qP ?_ (c44) ?hfit
             case hfit=>((repeat' (first|exact qB|refine qD ?_ ?_|exact qE (by rfl)|exact qF (by rfl)|exact Fit.refl _|exact qA|refine qC ?_ rfl ?_));done)
             try cbv)
          | (refine qP ?_ (c52) ?hfit
             case hfit=>((repeat' (first|exact qB|refine qD ?_ ?_|exact qE (by rfl)|exact qF (by rfl)|exact Fit.refl _|exact qA|refine qC ?_ rfl ?_));done)
             try cbv)
          | (refine qP ?_ (c20) ?hfit
             case hfit=>((repeat' (first|exact qB|refine qD ?_ ?_|exact qE (by rfl)|exact qF (by rfl)|exact Fit.refl _|exact qA|refine qC ?_ rfl ?_));done)
             try cbv)
          | (refine qP ?_ (c53) ?hfit
             case hfit=>((repeat' (first|exact qB|refine qD ?_ ?_|exact qE (by rfl)|exact qF (by rfl)|exact Fit.refl _|exact qA|refine qC ?_ rfl ?_));done)
             try cbv)
          | (refine qP ?_ (c54) ?hfit
             case hfit=>((repeat' (first|exact qB|refine qD ?_ ?_|exact qE (by rfl)|exact qF (by rfl)|exact Fit.refl _|exact qA|refine qC ?_ rfl ?_));done)
             try cbv)
          | (refine qP ?_ (c25 _ _) (by(repeat' (first|exact qB|refine qD ?_ ?_|exact qE (by rfl)|exact qF (by rfl)|exact Fit.refl _|exact qA|refine qC ?_ rfl ?_)))
             try cbv)
          | (refine qP ?_ (c55 k (show Hold _ from ?_)) ?hfit
             case hfit=>((repeat' (first|exact qB|refine qD ?_ ?_|exact qE (by rfl)|exact qF (by rfl)|exact Fit.refl _|exact qA|refine qC ?_ rfl ?_));done)
             try cbv)
          |fail)
      all_goals first
        |trivial
        |((try simp only [qV]at *);(try simp only [zQ,zA,zB,zC,zD,zE,zF,zG,zH,zI,zJ,zK,zL,zM,zN,zO,zP,zR,zS]at *);first|(refine qN ?_;omega)|(simp only [Hold];omega))
        |(subst hR;(repeat' (first|exact qA|exact qB|refine qC ?_ rfl ?_|refine qD ?_ ?_|exact qE (by rfl)|exact qF (by rfl)|exact Fit.refl _|exact qG _|(refine qE ?_;(try simp only [qV]at *);simp only [zQ,zA,zB,zC,zD,zE,zF,zG,zH,zI,zJ,zK,zL,zM,zN,zO,zP,zR,zS]at *;omega)));done)
        |(exact Bool.noConfusion (ht.symm.trans (by assumption:thinS tw tm tv cs=false)))
        |(exact(hcd rfl).elim)
        |(exact(hf0 (by assumption)).elim)
        |(simp only [Hold];exact⟨h35,rfl⟩)
        |(exact(hcd hf1).elim)
        |(exfalso;exact hcd rfl)
        |(exfalso;apply hcd;simp only [dens,den_sym])
        |(exfalso;(try simp only [qV]at *);(try simp only [zQ,zA,zB,zC,zD,zE,zF,zG,zH,zI,zJ,zK,zL,zM,zN,zO,zP,zR,zS]at *);omega)
        |((try simp only [qV]at *);(try simp only [zQ,zA,zB,zC,zD,zE,zF,zG,zH,zI,zJ,zK,zL,zM,zN,zO,zP,zR,zS]at *);simp only [Hold];omega)
        |((try simp only [zQ,zA,zB,zC,zD,zE,zF,zG,zH,zI,zJ,zK,zL,zM,zN,zO,zP,zR,zS]at *);refine⟨⟨k+1,by((try simp only [qV]at *);(try simp only [zQ,zA,zB,zC,zD,zE,zF,zG,zH,zI,zJ,zK,zL,zM,zN,zO,zP,zR,zS]at *);omega)⟩,by simp only [];omega,?_⟩;cbv;(repeat' (first|with_reducible refine hold ?_ ?_|with_reducible refine And.intro ?_ ?_));(all_goals first|trivial|exact qM (qE (by rfl))|exact qM (qF (by rfl))|exact qM (Fit.refl _)|exact qL (qK _)|(refine qM (qE ?_);(try simp only [qV]at *);simp only [zQ,zA,zB,zC,zD,zE,zF,zG,zH,zI,zJ,zK,zL,zM,zN,zO,zP,zR,zS]at *;omega)|skip))
        |(simp only [Hold];decide)
        |skip
theorem law14 (tw tm:List Int)(tv:List (List Int))(rate:Int)(cs:List Csk)(t:List Int):FSpec Try.prog 14 [(stoS tw tm tv rate cs),(.sl 1 (.sym fun _=>zi (t).length) (fun ix=>[.int .i64 (.sym fun _=>(t).getD ix.den.toNat 0)]))] [] (fun r _=>r = .bool (.lit true)):=by
  cases ht:thinS tw tm tv cs with
  |false=>exact law14t tw tm tv rate cs t ht
  | true=>
    by_cases h9:t.length≤9
    · by_cases hf:faultS tw tm tv rate cs=0
      · cases hT:truthB tw tm tv cs t with
        |true=>exact law14y tw tm tv rate cs t ht h9 (faultS_iff.1 hf) hT
        |false=>exact law14r tw tm tv rate cs t ht h9 (faultS_iff.1 hf) hT
      · exact law14f tw tm tv rate cs t ht h9 hf
    · exact law14l tw tm tv rate cs t ht (by omega)
end Go.Proofs.Ytkdgpdlfakcgdaa
