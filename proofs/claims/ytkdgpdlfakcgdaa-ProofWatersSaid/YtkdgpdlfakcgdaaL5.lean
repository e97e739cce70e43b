/- ProofWaters: what the law computes. No condition. -/
import Derived.Test.YtkdgpdlfakcgdaaT7
set_option linter.unusedVariables false
set_option linter.unusedSimpArgs false
set_option linter.deprecated false
set_option linter.all false

namespace Go.Proofs.Ytkdgpdlfakcgdaa
open Go Go.Eng Go.Proofs
set_option maxRecDepth 10000
theorem wat_known (tw tm:List Int)(tv:List (List Int))(rate:Int)(cs:List Csk)(l:List Int)(s:Int)(hS:SOk tw tm tv rate cs)(hl:InCs cs.length l)(h0:0<l.length)(hs:1≤s∧s≤2000):watP cs l (hiA tw tm tv cs cs.length) s=if watQ cs l (fun j=>sHi tw tm tv (cs.getD j ck0)) s≤99 then max 0 (watQ cs l (fun j=>sHi tw tm tv (cs.getD j ck0)) s)else -1:=by
  have hg:=gal_bd hS.gal hl l.length (Nat.le_refl _)
  have hsp:=spi_bd (t:=(hiA tw tm tv cs cs.length)) hS.gal hl (fun j=>by have:=lo_bd hS j;omega) l.length (Nat.le_refl _)
  have he:watQ cs l (hiA tw tm tv cs cs.length) s=watQ cs l (fun j=>sHi tw tm tv (cs.getD j ck0)) s:=by
    unfold watQ
    rw [spi_congr hl (fun j hj=>by simp only [hiA];rw [if_pos hj]) l.length (Nat.le_refl _)]
  unfold watP
  rw [fidx_from (q:=watQ cs l (fun j=>sHi tw tm tv (cs.getD j ck0)) s) (fun n=>by
    rw [←he]
    congr 1
    exact decide_eq_decide.2 (str_le_iff (by omega) (by simp only [zi_den];omega) (by omega) hsp.1)) 100 0]
  by_cases q:watQ cs l (fun j=>sHi tw tm tv (cs.getD j ck0)) s≤99
  · rw [if_pos (by omega),if_pos q];simp
  · rw [if_neg (by omega),if_neg q]
theorem water34y (tw tm:List Int)(tv:List (List Int))(rate:Int)(cs:List Csk)(l:List Int)(s:Int)(hS:SOk tw tm tv rate cs)(hll:l.length≤1000)(hb:blendB cs.length l=true)(hs:1≤s∧s≤2000)(hn:watQ cs l (fun j=>sHi tw tm tv (cs.getD j ck0)) s≤99):FSpec Try.prog 34 [(stoS tw tm tv rate cs),(.sl 2 (.sym fun _=>zi cs.length) (fun ix=>[(.int .i64 (.sym fun _=>loA tw tm tv cs cs.length ix.den.toNat)),(.int .i64 (.sym fun _=>hiA tw tm tv cs cs.length ix.den.toNat))])),(.sl 1 (.sym fun _=>zi (l).length) (fun ix=>[.int .i64 (.sym fun _=>(l).getD ix.den.toNat 0)])),(.int .i64 (.sym fun _=>s))] [] (fun r _=>r=(.tup [(.int .i64 (.sym fun _=>max 0 (watQ cs l (fun j=>sHi tw tm tv (cs.getD j ck0)) s))),(.bool (.sym fun _=>true))])):=by
  have hl:=blend_in hb hll
  have hfew:=hS.few
  have h:=water34 tw tm tv rate cs (loA tw tm tv cs cs.length) (hiA tw tm tv cs cs.length) l s hS.gal hl (blend_iff.1 hb).1 (lo_bd hS) (by omega)
  rw [wat_known tw tm tv rate cs l s hS hl (blend_iff.1 hb).1 hs]at h
  rw [if_pos hn]at h
  refine h.post fun r bs e=>⟨_,?_,rfl⟩
  subst e
  refine qD (qE ?_) (qD (qF ?_) qB)
  · exact if_pos (by omega)
  · exact decide_eq_true (by omega)
theorem water34n (tw tm:List Int)(tv:List (List Int))(rate:Int)(cs:List Csk)(l:List Int)(s:Int)(hS:SOk tw tm tv rate cs)(hll:l.length≤1000)(hb:blendB cs.length l=true)(hs:1≤s∧s≤2000)(hn:99<watQ cs l (fun j=>sHi tw tm tv (cs.getD j ck0)) s):FSpec Try.prog 34 [(stoS tw tm tv rate cs),(.sl 2 (.sym fun _=>zi cs.length) (fun ix=>[(.int .i64 (.sym fun _=>loA tw tm tv cs cs.length ix.den.toNat)),(.int .i64 (.sym fun _=>hiA tw tm tv cs cs.length ix.den.toNat))])),(.sl 1 (.sym fun _=>zi (l).length) (fun ix=>[.int .i64 (.sym fun _=>(l).getD ix.den.toNat 0)])),(.int .i64 (.sym fun _=>s))] [] (fun r _=>r=(.tup [(.int .i64 (.sym fun _=>0)),(.bool (.sym fun _=>false))])):=by
  have hl:=blend_in hb hll
  have hfew:=hS.few
  have h:=water34 tw tm tv rate cs (loA tw tm tv cs cs.length) (hiA tw tm tv cs cs.length) l s hS.gal hl (blend_iff.1 hb).1 (lo_bd hS) (by omega)
  rw [wat_known tw tm tv rate cs l s hS hl (blend_iff.1 hb).1 hs]at h
  rw [if_neg (show ¬(watQ cs l (fun j=>sHi tw tm tv (cs.getD j ck0)) s≤99) by omega)]at h
  refine h.post fun r bs e=>⟨_,?_,rfl⟩
  subst e
  refine qD (qE ?_) (qD (qF ?_) qB)
  · rfl
  · rfl
theorem law5t (tw tm:List Int)(tv:List (List Int))(rate:Int)(cs:List Csk)(l:List Int)(s:Int)(ht:thinS tw tm tv cs=false):FSpec Try.prog 5 [(stoS tw tm tv rate cs),(.sl 1 (.sym fun _=>zi (l).length) (fun ix=>[.int .i64 (.sym fun _=>(l).getD ix.den.toNat 0)])),(.int .i64 (.sym fun _=>s))] [] (fun r _=>r=(.bool (.lit true))):=by
  have c18:=thin18 tw tm tv rate cs
  have c21:=awake21
  refine FSpec.is fun R hR=>qW (sc:=sc5) tyok mix Try.func5 rfl Try.call5 (by kernel_rfl) (by kernel_rfl) ?_
  generalize Try.prog=P at c18 c21⊢
  cbv
  repeat' (first
      |with_reducible refine hold ?_ ?_
      |with_reducible refine And.intro ?_ ?_
      | (with_reducible refine qS ?_ ?_ ?_
         try cbv)
      | (with_reducible refine qT ?_ ?_
         try cbv)
      |(with_reducible intro hcd;(try simp only [zA,zB,zC,zD,zE,zF,zG,zH,zI,zJ,zK,zL,zM,zN,zO,zP]at hcd);try cbv)
      | (refine qP ?_ (c18) ?hfit
         case hfit=>((repeat' (first|exact qB|refine qD ?_ ?_|exact qE (by rfl)|exact qF (by rfl)|exact Fit.refl _|exact qA|refine qC ?_ rfl ?_));done)
         try cbv)
      | (refine qP ?_ (c21) ?hfit
         case hfit=>((repeat' (first|exact qB|refine qD ?_ ?_|exact qE (by rfl)|exact qF (by rfl)|exact Fit.refl _|exact qA|refine qC ?_ rfl ?_));done)
         try cbv)
      |fail)
  all_goals first
    |trivial
    |((try simp only [qV]at *);(try simp only [zQ,zA,zB,zC,zD,zE,zF,zG,zH,zI,zJ,zK,zL,zM,zN,zO,zP,zR,zS]at *);first|(refine qN ?_;omega)|(simp only [Hold];omega))
    |(subst hR;(repeat' (first|exact qA|exact qB|refine qC ?_ rfl ?_|refine qD ?_ ?_|exact qE (by rfl)|exact qF (by rfl)|exact Fit.refl _|exact qG _|(refine qE ?_;(try simp only [qV]at *);simp only [zQ,zA,zB,zC,zD,zE,zF,zG,zH,zI,zJ,zK,zL,zM,zN,zO,zP,zR,zS]at *;omega)));done)
    |(exact Bool.noConfusion (ht.symm.trans (by assumption:thinS tw tm tv cs=true)))
    |(simp only [Hold];decide)
    |skip
theorem law5l (tw tm:List Int)(tv:List (List Int))(rate:Int)(cs:List Csk)(l:List Int)(s:Int)(ht:thinS tw tm tv cs=true)(hl9:9<l.length):FSpec Try.prog 5 [(stoS tw tm tv rate cs),(.sl 1 (.sym fun _=>zi (l).length) (fun ix=>[.int .i64 (.sym fun _=>(l).getD ix.den.toNat 0)])),(.int .i64 (.sym fun _=>s))] [] (fun r _=>r=(.bool (.lit true))):=by
  have c18:=thin18 tw tm tv rate cs
  have c21:=awake21
  refine FSpec.is fun R hR=>qW (sc:=sc5) tyok mix Try.func5 rfl Try.call5 (by kernel_rfl) (by kernel_rfl) ?_
  generalize Try.prog=P at c18 c21⊢
  cbv
  repeat' (first
      |with_reducible refine hold ?_ ?_
      |with_reducible refine And.intro ?_ ?_
      | (with_reducible refine qS ?_ ?_ ?_
         try cbv)
      | (with_reducible refine qT ?_ ?_
         try cbv)
      |(with_reducible intro hcd;(try simp only [zA,zB,zC,zD,zE,zF,zG,zH,zI,zJ,zK,zL,zM,zN,zO,zP]at hcd);try cbv)
      | (refine qP ?_ (c18) ?hfit
         case hfit=>((repeat' (first|exact qB|refine qD ?_ ?_|exact qE (by rfl)|exact qF (by rfl)|exact Fit.refl _|exact qA|refine qC ?_ rfl ?_));done)
         try cbv)
      | (refine qP ?_ (c21) ?hfit
         case hfit=>((repeat' (first|exact qB|refine qD ?_ ?_|exact qE (by rfl)|exact qF (by rfl)|exact Fit.refl _|exact qA|refine qC ?_ rfl ?_));done)
         try cbv)
      |fail)
  all_goals first
    |trivial
    |((try simp only [qV]at *);(try simp only [zQ,zA,zB,zC,zD,zE,zF,zG,zH,zI,zJ,zK,zL,zM,zN,zO,zP,zR,zS]at *);first|(refine qN ?_;omega)|(simp only [Hold];omega))
    |(subst hR;(repeat' (first|exact qA|exact qB|refine qC ?_ rfl ?_|refine qD ?_ ?_|exact qE (by rfl)|exact qF (by rfl)|exact Fit.refl _|exact qG _|(refine qE ?_;(try simp only [qV]at *);simp only [zQ,zA,zB,zC,zD,zE,zF,zG,zH,zI,zJ,zK,zL,zM,zN,zO,zP,zR,zS]at *;omega)));done)
    |(exact Bool.noConfusion (ht.symm.trans (by assumption:thinS tw tm tv cs=false)))
    |(exfalso;(try simp only [qV]at *);(try simp only [zQ,zA,zB,zC,zD,zE,zF,zG,zH,zI,zJ,zK,zL,zM,zN,zO,zP,zR,zS]at *);omega)
    |(simp only [Hold];decide)
    |skip
theorem law5f (tw tm:List Int)(tv:List (List Int))(rate:Int)(cs:List Csk)(l:List Int)(s:Int)(ht:thinS tw tm tv cs=true)(hl9:l.length≤9)(hf0:faultS tw tm tv rate cs≠0):FSpec Try.prog 5 [(stoS tw tm tv rate cs),(.sl 1 (.sym fun _=>zi (l).length) (fun ix=>[.int .i64 (.sym fun _=>(l).getD ix.den.toNat 0)])),(.int .i64 (.sym fun _=>s))] [] (fun r _=>r=(.bool (.lit true))):=by
  have c18:=thin18 tw tm tv rate cs
  have c21:=awake21
  have c23:=store23 tw tm tv rate cs (thinS_iff.1 ht).1 (thinS_iff.1 ht).2
  have c24:=fault24 tw tm tv rate cs
  have c28:=list28 l (by omega)
  have c33:=water33e tw tm tv rate cs l s hf0
  refine FSpec.is fun R hR=>qW (sc:=sc5) tyok mix Try.func5 rfl Try.call5 (by kernel_rfl) (by kernel_rfl) ?_
  generalize Try.prog=P at c18 c21 c23 c24 c28 c33⊢
  cbv
  repeat' (first
      |with_reducible refine hold ?_ ?_
      |with_reducible refine And.intro ?_ ?_
      | (with_reducible refine qS ?_ ?_ ?_
         try cbv)
      | (with_reducible refine qT ?_ ?_
         try cbv)
      |(with_reducible intro hcd;(try simp only [zA,zB,zC,zD,zE,zF,zG,zH,zI,zJ,zK,zL,zM,zN,zO,zP]at hcd);try cbv)
      | (refine qP ?_ (c18) ?hfit
         case hfit=>((repeat' (first|exact qB|refine qD ?_ ?_|exact qE (by rfl)|exact qF (by rfl)|exact Fit.refl _|exact qA|refine qC ?_ rfl ?_));done)
         try cbv)
      | (refine qP ?_ (c21) ?hfit
         case hfit=>((repeat' (first|exact qB|refine qD ?_ ?_|exact qE (by rfl)|exact qF (by rfl)|exact Fit.refl _|exact qA|refine qC ?_ rfl ?_));done)
         try cbv)
      | (refine qP ?_ (c20) ?hfit
         case hfit=>((repeat' (first|exact qB|refine qD ?_ ?_|exact qE (by rfl)|exact qF (by rfl)|exact Fit.refl _|exact qA|refine qC ?_ rfl ?_));done)
         try cbv)
      | (refine qP ?_ (c23) ?hfit
         case hfit=>((repeat' (first|exact qB|refine qD ?_ ?_|exact qE (by rfl)|exact qF (by rfl)|exact Fit.refl _|exact qA|refine qC ?_ rfl ?_));done)
         try cbv)
      | (refine qP ?_ (c28) ?hfit
         case hfit=>((repeat' (first|exact qB|refine qD ?_ ?_|exact qE (by rfl)|exact qF (by rfl)|exact Fit.refl _|exact qA|refine qC ?_ rfl ?_));done)
         try cbv)
      | (refine qP ?_ (c33) ?hfit
         case hfit=>((repeat' (first|exact qB|refine qD ?_ ?_|exact qE (by rfl)|exact qF (by rfl)|exact Fit.refl _|exact qA|refine qC ?_ rfl ?_));done)
         try cbv)
      | (refine qP ?_ (c24) ?hfit
         case hfit=>((repeat' (first|exact qB|refine qD ?_ ?_|exact qE (by rfl)|exact qF (by rfl)|exact Fit.refl _|exact qA|refine qC ?_ rfl ?_));done)
         try cbv)
      | (refine qP ?_ (c30) ?hfit
         case hfit=>((repeat' (first|exact qB|refine qD ?_ ?_|exact qE (by rfl)|exact qF (by rfl)|exact Fit.refl _|exact qA|refine qC ?_ rfl ?_));done)
         try cbv)
      | (refine qP ?_ (c31 _ _ _) (by(repeat' (first|exact qB|refine qD ?_ ?_|exact qE (by rfl)|exact qF (by rfl)|exact Fit.refl _|exact qA|refine qC ?_ rfl ?_)))
         try cbv)
      | (refine qP ?_ (c34) ?hfit
         case hfit=>((repeat' (first|(refine fit_sl (by rfl) (fun ix h0 h1=> ?_);refine qC (qE ?_) rfl (qC (qE ?_) rfl qA)<;>(simp only [den_sym,loA,hiA];rw [if_pos (by simp only [den_sym,zi_den]at h1;omega)]))|exact qB|refine qD ?_ ?_|exact qE (by rfl)|exact qF (by rfl)|exact Fit.refl _|exact qA|refine qC ?_ rfl ?_));done)
         try cbv)
      |fail)
  all_goals first
    |trivial
    |((try simp only [qV]at *);(try simp only [zQ,zA,zB,zC,zD,zE,zF,zG,zH,zI,zJ,zK,zL,zM,zN,zO,zP,zR,zS]at *);first|(refine qN ?_;omega)|(simp only [Hold];omega))
    |(subst hR;(repeat' (first|exact qA|exact qB|refine qC ?_ rfl ?_|refine qD ?_ ?_|exact qE (by rfl)|exact qF (by rfl)|exact Fit.refl _|exact qG _|(refine qE ?_;(try simp only [qV]at *);simp only [zQ,zA,zB,zC,zD,zE,zF,zG,zH,zI,zJ,zK,zL,zM,zN,zO,zP,zR,zS]at *;omega)));done)
    |(exact Bool.noConfusion (ht.symm.trans (by assumption:thinS tw tm tv cs=false)))
    |(exact(hcd rfl).elim)
    |(exact(hf0 (by assumption)).elim)
    |(simp only [Hold];exact⟨h35,rfl⟩)
    |(exfalso;(try simp only [qV]at *);(try simp only [zQ,zA,zB,zC,zD,zE,zF,zG,zH,zI,zJ,zK,zL,zM,zN,zO,zP,zR,zS]at *);omega)
    |(simp only [Hold];decide)
    |skip
theorem law5r (tw tm:List Int)(tv:List (List Int))(rate:Int)(cs:List Csk)(l:List Int)(s:Int)(ht:thinS tw tm tv cs=true)(hl9:l.length≤9)(hS:SOk tw tm tv rate cs)(hb:¬(blendB cs.length l=true∧1≤s∧s≤2000)):FSpec Try.prog 5 [(stoS tw tm tv rate cs),(.sl 1 (.sym fun _=>zi (l).length) (fun ix=>[.int .i64 (.sym fun _=>(l).getD ix.den.toNat 0)])),(.int .i64 (.sym fun _=>s))] [] (fun r _=>r=(.bool (.lit true))):=by
  have c18:=thin18 tw tm tv rate cs
  have c21:=awake21
  have c23:=store23 tw tm tv rate cs (thinS_iff.1 ht).1 (thinS_iff.1 ht).2
  have c24:=(faultS_iff.2 hS)▸fault24 tw tm tv rate cs
  have c20:=known20 tw tm tv rate cs hS
  have c28:=list28 l (by omega)
  have c33:=water33r tw tm tv rate cs l s hS (by omega) hb
  have c30:=isblend30 tw tm tv rate cs l (by have:=hS.few;omega) (by omega)
  have c31:= @in31
  refine FSpec.is fun R hR=>qW (sc:=sc5) tyok mix Try.func5 rfl Try.call5 (by kernel_rfl) (by kernel_rfl) ?_
  generalize Try.prog=P at c18 c21 c23 c24 c20 c28 c33 c30 c31⊢
  cbv
  repeat' (first
      |with_reducible refine hold ?_ ?_
      |with_reducible refine And.intro ?_ ?_
      | (with_reducible refine qS ?_ ?_ ?_
         try cbv)
      | (with_reducible refine qT ?_ ?_
         try cbv)
      |(with_reducible intro hcd;(try simp only [zA,zB,zC,zD,zE,zF,zG,zH,zI,zJ,zK,zL,zM,zN,zO,zP]at hcd);try cbv)
      | (refine qP ?_ (c18) ?hfit
         case hfit=>((repeat' (first|exact qB|refine qD ?_ ?_|exact qE (by rfl)|exact qF (by rfl)|exact Fit.refl _|exact qA|refine qC ?_ rfl ?_));done)
         try cbv)
      | (refine qP ?_ (c21) ?hfit
         case hfit=>((repeat' (first|exact qB|refine qD ?_ ?_|exact qE (by rfl)|exact qF (by rfl)|exact Fit.refl _|exact qA|refine qC ?_ rfl ?_));done)
         try cbv)
      | (refine qP ?_ (c20) ?hfit
         case hfit=>((repeat' (first|exact qB|refine qD ?_ ?_|exact qE (by rfl)|exact qF (by rfl)|exact Fit.refl _|exact qA|refine qC ?_ rfl ?_));done)
         try cbv)
      | (refine qP ?_ (c23) ?hfit
         case hfit=>((repeat' (first|exact qB|refine qD ?_ ?_|exact qE (by rfl)|exact qF (by rfl)|exact Fit.refl _|exact qA|refine qC ?_ rfl ?_));done)
         try cbv)
      | (refine qP ?_ (c28) ?hfit
         case hfit=>((repeat' (first|exact qB|refine qD ?_ ?_|exact qE (by rfl)|exact qF (by rfl)|exact Fit.refl _|exact qA|refine qC ?_ rfl ?_));done)
         try cbv)
      | (refine qP ?_ (c33) ?hfit
         case hfit=>((repeat' (first|exact qB|refine qD ?_ ?_|exact qE (by rfl)|exact qF (by rfl)|exact Fit.refl _|exact qA|refine qC ?_ rfl ?_));done)
         try cbv)
      | (refine qP ?_ (c24) ?hfit
         case hfit=>((repeat' (first|exact qB|refine qD ?_ ?_|exact qE (by rfl)|exact qF (by rfl)|exact Fit.refl _|exact qA|refine qC ?_ rfl ?_));done)
         try cbv)
      | (refine qP ?_ (c30) ?hfit
         case hfit=>((repeat' (first|exact qB|refine qD ?_ ?_|exact qE (by rfl)|exact qF (by rfl)|exact Fit.refl _|exact qA|refine qC ?_ rfl ?_));done)
         try cbv)
      | (refine qP ?_ (c31 _ _ _) (by(repeat' (first|exact qB|refine qD ?_ ?_|exact qE (by rfl)|exact qF (by rfl)|exact Fit.refl _|exact qA|refine qC ?_ rfl ?_)))
         try cbv)
      | (refine qP ?_ (c34) ?hfit
         case hfit=>((repeat' (first|(refine fit_sl (by rfl) (fun ix h0 h1=> ?_);refine qC (qE ?_) rfl (qC (qE ?_) rfl qA)<;>(simp only [den_sym,loA,hiA];rw [if_pos (by simp only [den_sym,zi_den]at h1;omega)]))|exact qB|refine qD ?_ ?_|exact qE (by rfl)|exact qF (by rfl)|exact Fit.refl _|exact qA|refine qC ?_ rfl ?_));done)
         try cbv)
      |fail)
  all_goals first
    |trivial
    |((try simp only [qV]at *);(try simp only [zQ,zA,zB,zC,zD,zE,zF,zG,zH,zI,zJ,zK,zL,zM,zN,zO,zP,zR,zS]at *);first|(refine qN ?_;omega)|(simp only [Hold];omega))
    |(subst hR;(repeat' (first|exact qA|exact qB|refine qC ?_ rfl ?_|refine qD ?_ ?_|exact qE (by rfl)|exact qF (by rfl)|exact Fit.refl _|exact qG _|(refine qE ?_;(try simp only [qV]at *);simp only [zQ,zA,zB,zC,zD,zE,zF,zG,zH,zI,zJ,zK,zL,zM,zN,zO,zP,zR,zS]at *;omega)));done)
    |(exact Bool.noConfusion (ht.symm.trans (by assumption:thinS tw tm tv cs=false)))
    |(exact(hcd rfl).elim)
    |(exact(hf0 (by assumption)).elim)
    |(simp only [Hold];exact⟨h35,rfl⟩)
    |(exact(hb ⟨by assumption,of_decide_eq_true ((Bool.and_eq_true_iff.1 (by assumption)).1),of_decide_eq_true ((Bool.and_eq_true_iff.1 (by assumption)).2)⟩).elim)
    |(exfalso;(try simp only [qV]at *);(try simp only [zQ,zA,zB,zC,zD,zE,zF,zG,zH,zI,zJ,zK,zL,zM,zN,zO,zP,zR,zS]at *);omega)
    |(simp only [Hold];decide)
    |skip
set_option maxHeartbeats 1000000 in
theorem law5y (tw tm:List Int)(tv:List (List Int))(rate:Int)(cs:List Csk)(l:List Int)(s:Int)(ht:thinS tw tm tv cs=true)(hl9:l.length≤9)(hS:SOk tw tm tv rate cs)(hb:blendB cs.length l=true)(hs:1≤s∧s≤2000)(hn:watQ cs l (fun j=>sHi tw tm tv (cs.getD j ck0)) s≤99):FSpec Try.prog 5 [(stoS tw tm tv rate cs),(.sl 1 (.sym fun _=>zi (l).length) (fun ix=>[.int .i64 (.sym fun _=>(l).getD ix.den.toNat 0)])),(.int .i64 (.sym fun _=>s))] [] (fun r _=>r=(.bool (.lit true))):=by
  have c18:=thin18 tw tm tv rate cs
  have c21:=awake21
  have c23:=store23 tw tm tv rate cs (thinS_iff.1 ht).1 (thinS_iff.1 ht).2
  have c24:=(faultS_iff.2 hS)▸fault24 tw tm tv rate cs
  have c20:=known20 tw tm tv rate cs hS
  have c28:=list28 l (by omega)
  have c33:=water33 tw tm tv rate cs l s hS (by omega) hb hs hn
  have c34:=water34y tw tm tv rate cs l s hS (by omega) hb hs hn
  have c30:=isblend30 tw tm tv rate cs l (by have:=hS.few;omega) (by omega)
  have c31:= @in31
  refine FSpec.is fun R hR=>qW (sc:=sc5) tyok mix Try.func5 rfl Try.call5 (by kernel_rfl) (by kernel_rfl) ?_
  generalize Try.prog=P at c18 c21 c23 c24 c20 c28 c33 c34 c30 c31⊢
  cbv
  repeat' (first
      |with_reducible refine hold ?_ ?_
      |with_reducible refine And.intro ?_ ?_
      | (with_reducible refine qS ?_ ?_ ?_
         try cbv)
      | (with_reducible refine qT ?_ ?_
         try cbv)
      |(with_reducible intro hcd;(try simp only [zA,zB,zC,zD,zE,zF,zG,zH,zI,zJ,zK,zL,zM,zN,zO,zP]at hcd);try cbv)
      | (refine qP ?_ (c18) ?hfit
         case hfit=>((repeat' (first|exact qB|refine qD ?_ ?_|exact qE (by rfl)|exact qF (by rfl)|exact Fit.refl _|exact qA|refine qC ?_ rfl ?_));done)
         try cbv)
      | (refine qP ?_ (c21) ?hfit
         case hfit=>((repeat' (first|exact qB|refine qD ?_ ?_|exact qE (by rfl)|exact qF (by rfl)|exact Fit.refl _|exact qA|refine qC ?_ rfl ?_));done)
         try cbv)
      | (refine qP ?_ (c20) ?hfit
         case hfit=>((repeat' (first|exact qB|refine qD ?_ ?_|exact qE (by rfl)|exact qF (by rfl)|exact Fit.refl _|exact qA|refine qC ?_ rfl ?_));done)
         try cbv)
      | (refine qP ?_ (c23) ?hfit
         case hfit=>((repeat' (first|exact qB|refine qD ?_ ?_|exact qE (by rfl)|exact qF (by rfl)|exact Fit.refl _|exact qA|refine qC ?_ rfl ?_));done)
         try cbv)
      | (refine qP ?_ (c28) ?hfit
         case hfit=>((repeat' (first|exact qB|refine qD ?_ ?_|exact qE (by rfl)|exact qF (by rfl)|exact Fit.refl _|exact qA|refine qC ?_ rfl ?_));done)
         try cbv)
      | (refine qP ?_ (c33) ?hfit
         case hfit=>((repeat' (first|exact qB|refine qD ?_ ?_|exact qE (by rfl)|exact qF (by rfl)|exact Fit.refl _|exact qA|refine qC ?_ rfl ?_));done)
         try cbv)
      | (refine qP ?_ (c24) ?hfit
         case hfit=>((repeat' (first|exact qB|refine qD ?_ ?_|exact qE (by rfl)|exact qF (by rfl)|exact Fit.refl _|exact qA|refine qC ?_ rfl ?_));done)
         try cbv)
      | (refine qP ?_ (c30) ?hfit
         case hfit=>((repeat' (first|exact qB|refine qD ?_ ?_|exact qE (by rfl)|exact qF (by rfl)|exact Fit.refl _|exact qA|refine qC ?_ rfl ?_));done)
         try cbv)
      | (refine qP ?_ (c31 _ _ _) (by(repeat' (first|exact qB|refine qD ?_ ?_|exact qE (by rfl)|exact qF (by rfl)|exact Fit.refl _|exact qA|refine qC ?_ rfl ?_)))
         try cbv)
      | (refine qP ?_ (c34) ?hfit
         case hfit=>((repeat' (first|(refine fit_sl (by rfl) (fun ix h0 h1=> ?_);refine qC (qE ?_) rfl (qC (qE ?_) rfl qA)<;>(simp only [den_sym,loA,hiA];rw [if_pos (by simp only [den_sym,zi_den]at h1;omega)]))|exact qB|refine qD ?_ ?_|exact qE (by rfl)|exact qF (by rfl)|exact Fit.refl _|exact qA|refine qC ?_ rfl ?_));done)
         try cbv)
      |fail)
  all_goals first
    |trivial
    |((try simp only [qV]at *);(try simp only [zQ,zA,zB,zC,zD,zE,zF,zG,zH,zI,zJ,zK,zL,zM,zN,zO,zP,zR,zS]at *);first|(refine qN ?_;omega)|(simp only [Hold];omega))
    |(subst hR;(repeat' (first|exact qA|exact qB|refine qC ?_ rfl ?_|refine qD ?_ ?_|exact qE (by rfl)|exact qF (by rfl)|exact Fit.refl _|exact qG _|(refine qE ?_;(try simp only [qV]at *);simp only [zQ,zA,zB,zC,zD,zE,zF,zG,zH,zI,zJ,zK,zL,zM,zN,zO,zP,zR,zS]at *;omega)));done)
    |(exact Bool.noConfusion ((Bool.and_eq_true_iff.2 ⟨decide_eq_true hs.1,decide_eq_true hs.2⟩).symm.trans (by assumption)))
    |(exact Bool.noConfusion (hb.symm.trans (by assumption:blendB cs.length l=false)))
    |(exact Bool.noConfusion (ht.symm.trans (by assumption:thinS tw tm tv cs=false)))
    |(exact(hcd rfl).elim)
    |(exact(hf0 (by assumption)).elim)
    |(simp only [Hold];exact⟨h35,rfl⟩)
    |(exfalso;(try simp only [qV]at *);(try simp only [zQ,zA,zB,zC,zD,zE,zF,zG,zH,zI,zJ,zK,zL,zM,zN,zO,zP,zR,zS]at *);omega)
    |(simp only [Hold];decide)
    |skip
set_option maxHeartbeats 1000000 in
theorem law5n (tw tm:List Int)(tv:List (List Int))(rate:Int)(cs:List Csk)(l:List Int)(s:Int)(ht:thinS tw tm tv cs=true)(hl9:l.length≤9)(hS:SOk tw tm tv rate cs)(hb:blendB cs.length l=true)(hs:1≤s∧s≤2000)(hn:99<watQ cs l (fun j=>sHi tw tm tv (cs.getD j ck0)) s):FSpec Try.prog 5 [(stoS tw tm tv rate cs),(.sl 1 (.sym fun _=>zi (l).length) (fun ix=>[.int .i64 (.sym fun _=>(l).getD ix.den.toNat 0)])),(.int .i64 (.sym fun _=>s))] [] (fun r _=>r=(.bool (.lit true))):=by
  have c18:=thin18 tw tm tv rate cs
  have c21:=awake21
  have c23:=store23 tw tm tv rate cs (thinS_iff.1 ht).1 (thinS_iff.1 ht).2
  have c24:=(faultS_iff.2 hS)▸fault24 tw tm tv rate cs
  have c20:=known20 tw tm tv rate cs hS
  have c28:=list28 l (by omega)
  have c33:=water33x tw tm tv rate cs l s hS (by omega) hb hs hn
  have c34:=water34n tw tm tv rate cs l s hS (by omega) hb hs hn
  have c30:=isblend30 tw tm tv rate cs l (by have:=hS.few;omega) (by omega)
  have c31:= @in31
  refine FSpec.is fun R hR=>qW (sc:=sc5) tyok mix Try.func5 rfl Try.call5 (by kernel_rfl) (by kernel_rfl) ?_
  generalize Try.prog=P at c18 c21 c23 c24 c20 c28 c33 c34 c30 c31⊢
  cbv
  repeat' (first
      |with_reducible refine hold ?_ ?_
      |with_reducible refine And.intro ?_ ?_
      | (with_reducible refine qS ?_ ?_ ?_
         try cbv)
      | (with_reducible refine qT ?_ ?_
         try cbv)
      |(with_reducible intro hcd;(try simp only [zA,zB,zC,zD,zE,zF,zG,zH,zI,zJ,zK,zL,zM,zN,zO,zP]at hcd);try cbv)
      | (refine qP ?_ (c18) ?hfit
         case hfit=>((repeat' (first|exact qB|refine qD ?_ ?_|exact qE (by rfl)|exact qF (by rfl)|exact Fit.refl _|exact qA|refine qC ?_ rfl ?_));done)
         try cbv)
      | (refine qP ?_ (c21) ?hfit
         case hfit=>((repeat' (first|exact qB|refine qD ?_ ?_|exact qE (by rfl)|exact qF (by rfl)|exact Fit.refl _|exact qA|refine qC ?_ rfl ?_));done)
         try cbv)
      | (refine qP ?_ (c20) ?hfit
         case hfit=>((repeat' (first|exact qB|refine qD ?_ ?_|exact qE (by rfl)|exact qF (by rfl)|exact Fit.refl _|exact qA|refine qC ?_ rfl ?_));done)
         try cbv)
      | (refine qP ?_ (c23) ?hfit
         case hfit=>((repeat' (first|exact qB|refine qD ?_ ?_|exact qE (by rfl)|exact qF (by rfl)|exact Fit.refl _|exact qA|refine qC ?_ rfl ?_));done)
         try cbv)
      | (refine qP ?_ (c28) ?hfit
         case hfit=>((repeat' (first|exact qB|refine qD ?_ ?_|exact qE (by rfl)|exact qF (by rfl)|exact Fit.refl _|exact qA|refine qC ?_ rfl ?_));done)
         try cbv)
      | (refine qP ?_ (c33) ?hfit
         case hfit=>((repeat' (first|exact qB|refine qD ?_ ?_|exact qE (by rfl)|exact qF (by rfl)|exact Fit.refl _|exact qA|refine qC ?_ rfl ?_));done)
         try cbv)
      | (refine qP ?_ (c24) ?hfit
         case hfit=>((repeat' (first|exact qB|refine qD ?_ ?_|exact qE (by rfl)|exact qF (by rfl)|exact Fit.refl _|exact qA|refine qC ?_ rfl ?_));done)
         try cbv)
      | (refine qP ?_ (c30) ?hfit
         case hfit=>((repeat' (first|exact qB|refine qD ?_ ?_|exact qE (by rfl)|exact qF (by rfl)|exact Fit.refl _|exact qA|refine qC ?_ rfl ?_));done)
         try cbv)
      | (refine qP ?_ (c31 _ _ _) (by(repeat' (first|exact qB|refine qD ?_ ?_|exact qE (by rfl)|exact qF (by rfl)|exact Fit.refl _|exact qA|refine qC ?_ rfl ?_)))
         try cbv)
      | (refine qP ?_ (c34) ?hfit
         case hfit=>((repeat' (first|(refine fit_sl (by rfl) (fun ix h0 h1=> ?_);refine qC (qE ?_) rfl (qC (qE ?_) rfl qA)<;>(simp only [den_sym,loA,hiA];rw [if_pos (by simp only [den_sym,zi_den]at h1;omega)]))|exact qB|refine qD ?_ ?_|exact qE (by rfl)|exact qF (by rfl)|exact Fit.refl _|exact qA|refine qC ?_ rfl ?_));done)
         try cbv)
      |fail)
  all_goals first
    |trivial
    |((try simp only [qV]at *);(try simp only [zQ,zA,zB,zC,zD,zE,zF,zG,zH,zI,zJ,zK,zL,zM,zN,zO,zP,zR,zS]at *);first|(refine qN ?_;omega)|(simp only [Hold];omega))
    |(subst hR;(repeat' (first|exact qA|exact qB|refine qC ?_ rfl ?_|refine qD ?_ ?_|exact qE (by rfl)|exact qF (by rfl)|exact Fit.refl _|exact qG _|(refine qE ?_;(try simp only [qV]at *);simp only [zQ,zA,zB,zC,zD,zE,zF,zG,zH,zI,zJ,zK,zL,zM,zN,zO,zP,zR,zS]at *;omega)));done)
    |(exact Bool.noConfusion ((Bool.and_eq_true_iff.2 ⟨decide_eq_true hs.1,decide_eq_true hs.2⟩).symm.trans (by assumption)))
    |(exact Bool.noConfusion (hb.symm.trans (by assumption:blendB cs.length l=false)))
    |(exact Bool.noConfusion (ht.symm.trans (by assumption:thinS tw tm tv cs=false)))
    |(exact(hcd rfl).elim)
    |(exact(hf0 (by assumption)).elim)
    |(simp only [Hold];exact⟨h35,rfl⟩)
    |(exfalso;(try simp only [qV]at *);(try simp only [zQ,zA,zB,zC,zD,zE,zF,zG,zH,zI,zJ,zK,zL,zM,zN,zO,zP,zR,zS]at *);omega)
    |(simp only [Hold];decide)
    |skip
theorem law5 (tw tm:List Int)(tv:List (List Int))(rate:Int)(cs:List Csk)(l:List Int)(s:Int):FSpec Try.prog 5 [(stoS tw tm tv rate cs),(.sl 1 (.sym fun _=>zi (l).length) (fun ix=>[.int .i64 (.sym fun _=>(l).getD ix.den.toNat 0)])),(.int .i64 (.sym fun _=>s))] [] (fun r _=>r = .bool (.lit true)):=by
  cases ht:thinS tw tm tv cs with
  |false=>exact law5t tw tm tv rate cs l s ht
  | true=>
    by_cases hl9:l.length≤9
    · by_cases hf:faultS tw tm tv rate cs=0
      · by_cases hb:blendB cs.length l=true∧1≤s∧s≤2000
        · by_cases hn:watQ cs l (fun j=>sHi tw tm tv (cs.getD j ck0)) s≤99
          · exact law5y tw tm tv rate cs l s ht hl9 (faultS_iff.1 hf) hb.1 hb.2 hn
          · exact law5n tw tm tv rate cs l s ht hl9 (faultS_iff.1 hf) hb.1 hb.2 (by omega)
        · exact law5r tw tm tv rate cs l s ht hl9 (faultS_iff.1 hf) hb
      · exact law5f tw tm tv rate cs l s ht hl9 hf
    · exact law5l tw tm tv rate cs l s ht (by omega)
end Go.Proofs.Ytkdgpdlfakcgdaa
