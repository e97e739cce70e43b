/- ProofLess: what the law computes. No condition. -/
import Derived.Test.YtkdgpdlfakcgdaaT7
set_option linter.unusedVariables false
set_option linter.unusedSimpArgs false
set_option linter.deprecated false
set_option linter.all false

namespace Go.Proofs.Ytkdgpdlfakcgdaa
open Go Go.Eng Go.Proofs
set_option maxRecDepth 10000
theorem water33z (tw tm:List Int)(tv:List (List Int))(rate:Int)(cs:List Csk)(l:List Int)(s:Int)(hS:SOk tw tm tv rate cs)(hll:l.length≤1000)(hb:blendB cs.length l=true)(hs:1≤s∧s≤2000)(hn:watQ cs l (fun j=>sHi tw tm tv (cs.getD j ck0)) s≤99):FSpec Try.prog 33 [(stoS tw tm tv rate cs),(.sl 1 (.sym fun _=>zi (l).length) (fun ix=>[.int .i64 (.sym fun _=>(l).getD ix.den.toNat 0)])),(.int .i64 (.sym fun _=>s))] [] (fun r _=>r=(.tup [(.int .i64 (.sym fun _=>max 0 (watQ cs l (fun j=>sHi tw tm tv (cs.getD j ck0)) s))),(.int .i64 (.lit 0))])):=
  (water33 tw tm tv rate cs l s hS hll hb hs hn).post fun r bs e=>⟨_,by subst e;(repeat' (first|exact qA|exact qB|refine qC ?_ rfl ?_|refine qD ?_ ?_|exact qE (by rfl)|exact qF (by rfl)|exact Fit.refl _)),rfl⟩
theorem water33xz (tw tm:List Int)(tv:List (List Int))(rate:Int)(cs:List Csk)(l:List Int)(s:Int)(hS:SOk tw tm tv rate cs)(hll:l.length≤1000)(hb:blendB cs.length l=true)(hs:1≤s∧s≤2000)(hn:99<watQ cs l (fun j=>sHi tw tm tv (cs.getD j ck0)) s):FSpec Try.prog 33 [(stoS tw tm tv rate cs),(.sl 1 (.sym fun _=>zi (l).length) (fun ix=>[.int .i64 (.sym fun _=>(l).getD ix.den.toNat 0)])),(.int .i64 (.sym fun _=>s))] [] (fun r _=>r=(.tup [(.int .i64 (.lit 0)),(.int .i64 (.lit 10))])):=
  (water33x tw tm tv rate cs l s hS hll hb hs hn).post fun r bs e=>⟨_,by subst e;(repeat' (first|exact qA|exact qB|refine qC ?_ rfl ?_|refine qD ?_ ?_|exact qE (by rfl)|exact qF (by rfl)|exact Fit.refl _)),rfl⟩
theorem prove29w (tw tm:List Int)(tv:List (List Int))(rate:Int)(cs:List Csk)(l:List Int)(w a e:Int)(v:Bool)(hS:SOk tw tm tv rate cs)(hll:l.length≤1000)(hbl:blendB cs.length l=true)(hw:0≤w∧w≤99)(hs:(decide (a≤strP cs l w (fun j=>sLo tw tm tv (cs.getD j ck0)))&&decide (strP cs l w (fun j=>sHi tw tm tv (cs.getD j ck0))≤e))=v):FSpec Try.prog 29 [(stoS tw tm tv rate cs),(.sl 1 (.sym fun _=>zi (l).length) (fun ix=>[.int .i64 (.sym fun _=>(l).getD ix.den.toNat 0)])),(.int .i64 (.sym fun _=>w)),(.agg [(.int .i64 (.sym fun _=>a)),(.int .i64 (.sym fun _=>e))])] [] (fun r _=>r = .bool (.lit v)):=
  (prove29 tw tm tv rate cs l w a e hS hll hbl hw).post fun r bs q=>⟨_,by subst q;exact qF hs,rfl⟩
theorem law9n (tw tm:List Int)(tv:List (List Int))(rate:Int)(cs:List Csk)(b s m:Int)(hr:(thinS tw tm tv cs&&decide (faultS tw tm tv rate cs=0)&&decide (0<cs.length))=false):FSpec Try.prog 9 [(stoS tw tm tv rate cs),(.int .u8 (.sym fun _=>b)),(.int .u16 (.sym fun _=>s)),(.int .u16 (.sym fun _=>m))] [] (fun r _=>r=(.bool (.lit true))):=by
  have c41:=ready41n tw tm tv rate cs hr
  have c21:=awake21
  refine FSpec.is fun R hR=>qW (sc:=sc9) tyok mix Try.func9 rfl Try.call9 (by kernel_rfl) (by kernel_rfl) ?_
  generalize Try.prog=P at c41 c21⊢
  cbv
  repeat' (first
      |with_reducible refine hold ?_ ?_
      |with_reducible refine And.intro ?_ ?_
      | (with_reducible refine qS ?_ ?_ ?_
         try cbv)
      | (with_reducible refine qT ?_ ?_
         try cbv)
      |(with_reducible intro hcd;(try simp only [zA,zB,zC,zD,zE,zF,zG,zH,zI,zJ,zK,zL,zM,zN,zO,zP]at hcd);try cbv)
      | (refine qP ?_ (c41) ?hfit
         case hfit=>((repeat' (first|exact qB|refine qD ?_ ?_|exact qE (by rfl)|exact qF (by rfl)|exact Fit.refl _|exact qA|refine qC ?_ rfl ?_));done)
         try cbv)
      | (refine qP ?_ (c21) ?hfit
         case hfit=>((repeat' (first|exact qB|refine qD ?_ ?_|exact qE (by rfl)|exact qF (by rfl)|exact Fit.refl _|exact qA|refine qC ?_ rfl ?_));done)
         try cbv)
      |fail)
  all_goals first
    |trivial
    |((try simp only [qV]at *);(try simp only [zQ,zA,zB,zC,zD,zE,zF,zG,zH,zI,zJ,zK,zL,zM,zN,zO,zP,zR,zS]at *);first|(refine qN ?_;omega)|(simp only [Hold];omega))
    |(subst hR;(repeat' (first|exact qA|exact qB|refine qC ?_ rfl ?_|refine qD ?_ ?_|exact qE (by rfl)|exact qF (by rfl)|exact Fit.refl _|exact qG _|(refine qE ?_;(try simp only [qV]at *);simp only [zQ,zA,zB,zC,zD,zE,zF,zG,zH,zI,zJ,zK,zL,zM,zN,zO,zP,zR,zS]at *;omega)));done)
    |(simp only [Hold];decide)
    |skip
set_option maxHeartbeats 1000000 in
theorem law9a (tw tm:List Int)(tv:List (List Int))(rate:Int)(cs:List Csk)(b s m:Int)(hrd:Rdy tw tm tv rate cs)(hs:0≤s∧s≤65535)(hm:0≤m∧m≤65535)(hb:0≤b∧b≤255)(l:List Int)(hl:someP cs.length b=l)(hbl:blendB cs.length l=true)(hll:l.length≤1000)(hnk:1≤(1+s.tmod 2000)∧(1+s.tmod 2000)≤(if 1+s.tmod 2000+m.tmod 200<2000 then 1+s.tmod 2000+m.tmod 200 else 2000)∧(if 1+s.tmod 2000+m.tmod 200<2000 then 1+s.tmod 2000+m.tmod 200 else 2000)≤2000)(hq:99<watQ cs l (fun j=>sHi tw tm tv (cs.getD j ck0)) (1+s.tmod 2000))(hq2:watQ cs l (fun j=>sHi tw tm tv (cs.getD j ck0)) (if 1+s.tmod 2000+m.tmod 200<2000 then 1+s.tmod 2000+m.tmod 200 else 2000)≤99)(hgt:(1+s.tmod 2000)<strP cs l 99 (fun j=>sHi tw tm tv (cs.getD j ck0))):FSpec Try.prog 9 [(stoS tw tm tv rate cs),(.int .u8 (.sym fun _=>b)),(.int .u16 (.sym fun _=>s)),(.int .u16 (.sym fun _=>m))] [] (fun r _=>r=(.bool (.lit true))):=by
  have c41:=ready41y tw tm tv rate cs hrd
  have c21:=awake21
  have c43:=hl▸some43 tw tm tv rate cs b ⟨hrd.some,hrd.ok.few⟩ hb
  have c23:=store23 tw tm tv rate cs (thinS_iff.1 hrd.thin).1 (thinS_iff.1 hrd.thin).2
  have c28:=list28 l hll
  have c33:=water33xz tw tm tv rate cs l (1+s.tmod 2000) hrd.ok hll hbl (by omega) hq
  have c33k:=water33z tw tm tv rate cs l (if 1+s.tmod 2000+m.tmod 200<2000 then 1+s.tmod 2000+m.tmod 200 else 2000) hrd.ok hll hbl (by omega) hq2
  have c27:=blend27z tw tm tv rate cs l 99 hrd.ok hll hbl (by decide)
  refine FSpec.is fun R hR=>qW (sc:=sc9) tyok mix Try.func9 rfl Try.call9 (by kernel_rfl) (by kernel_rfl) ?_
  generalize Try.prog=P at c41 c21 c43 c23 c28 c33 c33k c27⊢
  cbv
  have hS:=hrd.ok
  have hfew:=hS.few
  have hs2:=tmod_bd2 (a:=s) (b:=2000) (by omega) (by decide)
  have hm2:=tmod_bd2 (a:=m) (b:=200) (by omega) (by decide)
  repeat' (first
      |with_reducible refine hold ?_ ?_
      |with_reducible refine And.intro ?_ ?_
      | (with_reducible refine qS ?_ ?_ ?_
         try cbv)
      | (with_reducible refine qT ?_ ?_
         try cbv)
      |(with_reducible intro hcd;(try simp only [zA,zB,zC,zD,zE,zF,zG,zH,zI,zJ,zK,zL,zM,zN,zO,zP]at hcd);try cbv)
      | (refine qP ?_ (c41) ?hfit
         case hfit=>((repeat' (first|exact qB|refine qD ?_ ?_|exact qE (by rfl)|exact qF (by rfl)|exact Fit.refl _|exact qA|refine qC ?_ rfl ?_));done)
         try cbv)
      | (refine qP ?_ (c21) ?hfit
         case hfit=>((repeat' (first|exact qB|refine qD ?_ ?_|exact qE (by rfl)|exact qF (by rfl)|exact Fit.refl _|exact qA|refine qC ?_ rfl ?_));done)
         try cbv)
      | (refine qP ?_ (c43) ?hfit
         case hfit=>((repeat' (first|exact qB|refine qD ?_ ?_|exact qE (by rfl)|exact qF (by rfl)|exact Fit.refl _|exact qA|refine qC ?_ rfl ?_));done)
         try cbv)
      | (refine qP ?_ (c23) ?hfit
         case hfit=>((repeat' (first|exact qB|refine qD ?_ ?_|exact qE (by rfl)|exact qF (by rfl)|exact Fit.refl _|exact qA|refine qC ?_ rfl ?_));done)
         try cbv)
      | (refine qP ?_ (c28) ?hfit
         case hfit=>((repeat' (first|exact qB|refine qD ?_ ?_|exact qE (by rfl)|exact qF (by rfl)|exact Fit.refl _|exact qA|refine qC ?_ rfl ?_));done)
         try cbv)
      | (refine qP ?_ (c33) ?hfit
         case hfit=>((repeat' (first|exact qB|refine qD ?_ ?_|exact qE (by rfl)|exact qF (by rfl)|exact Fit.refl _|exact qA|refine qC ?_ rfl ?_));done)
         try cbv)
      | (refine qP ?_ (c33k) ?hfit
         case hfit=>((repeat' (first|exact qB|refine qD ?_ ?_|exact qE (by rfl)|exact qF (by rfl)|exact Fit.refl _|exact qA|refine qC ?_ rfl ?_));done)
         try cbv)
      | (refine qP ?_ (c27) ?hfit
         case hfit=>((repeat' (first|exact qB|refine qD ?_ ?_|exact qE (by rfl)|exact qF (by rfl)|exact Fit.refl _|exact qA|refine qC ?_ rfl ?_));done)
         try cbv)
      |fail)
  all_goals first
    |trivial
    |((try simp only [qV]at *);(try simp only [zQ,zA,zB,zC,zD,zE,zF,zG,zH,zI,zJ,zK,zL,zM,zN,zO,zP,zR,zS]at *);first|(refine qN ?_;omega)|(simp only [Hold];omega))
    |(subst hR;(repeat' (first|exact qA|exact qB|refine qC ?_ rfl ?_|refine qD ?_ ?_|exact qE (by rfl)|exact qF (by rfl)|exact Fit.refl _|exact qG _|(refine qE ?_;(try simp only [qV]at *);simp only [zQ,zA,zB,zC,zD,zE,zF,zG,zH,zI,zJ,zK,zL,zM,zN,zO,zP,zR,zS]at *;omega)));done)
    |(exfalso;(try simp only [Hold]at *);(try simp only [qV]at *);(try simp only [zQ,zA,zB,zC,zD,zE,zF,zG,zH,zI,zJ,zK,zL,zM,zN,zO,zP,zR,zS]at *);omega)
    |(simp only [Hold];decide)
    |skip
set_option maxHeartbeats 1000000 in
theorem law9b (tw tm:List Int)(tv:List (List Int))(rate:Int)(cs:List Csk)(b s m:Int)(hrd:Rdy tw tm tv rate cs)(hs:0≤s∧s≤65535)(hm:0≤m∧m≤65535)(hb:0≤b∧b≤255)(l:List Int)(hl:someP cs.length b=l)(hbl:blendB cs.length l=true)(hll:l.length≤1000)(hnk:1≤(1+s.tmod 2000)∧(1+s.tmod 2000)≤(if 1+s.tmod 2000+m.tmod 200<2000 then 1+s.tmod 2000+m.tmod 200 else 2000)∧(if 1+s.tmod 2000+m.tmod 200<2000 then 1+s.tmod 2000+m.tmod 200 else 2000)≤2000)(hq:99<watQ cs l (fun j=>sHi tw tm tv (cs.getD j ck0)) (1+s.tmod 2000))(hq2:99<watQ cs l (fun j=>sHi tw tm tv (cs.getD j ck0)) (if 1+s.tmod 2000+m.tmod 200<2000 then 1+s.tmod 2000+m.tmod 200 else 2000))(hgt:(1+s.tmod 2000)<strP cs l 99 (fun j=>sHi tw tm tv (cs.getD j ck0))):FSpec Try.prog 9 [(stoS tw tm tv rate cs),(.int .u8 (.sym fun _=>b)),(.int .u16 (.sym fun _=>s)),(.int .u16 (.sym fun _=>m))] [] (fun r _=>r=(.bool (.lit true))):=by
  have c41:=ready41y tw tm tv rate cs hrd
  have c21:=awake21
  have c43:=hl▸some43 tw tm tv rate cs b ⟨hrd.some,hrd.ok.few⟩ hb
  have c23:=store23 tw tm tv rate cs (thinS_iff.1 hrd.thin).1 (thinS_iff.1 hrd.thin).2
  have c28:=list28 l hll
  have c33:=water33xz tw tm tv rate cs l (1+s.tmod 2000) hrd.ok hll hbl (by omega) hq
  have c33k:=water33xz tw tm tv rate cs l (if 1+s.tmod 2000+m.tmod 200<2000 then 1+s.tmod 2000+m.tmod 200 else 2000) hrd.ok hll hbl (by omega) hq2
  have c27:=blend27z tw tm tv rate cs l 99 hrd.ok hll hbl (by decide)
  refine FSpec.is fun R hR=>qW (sc:=sc9) tyok mix Try.func9 rfl Try.call9 (by kernel_rfl) (by kernel_rfl) ?_
  generalize Try.prog=P at c41 c21 c43 c23 c28 c33 c33k c27⊢
  cbv
  have hS:=hrd.ok
  have hfew:=hS.few
  have hs2:=tmod_bd2 (a:=s) (b:=2000) (by omega) (by decide)
  have hm2:=tmod_bd2 (a:=m) (b:=200) (by omega) (by decide)
  repeat' (first
      |with_reducible refine hold ?_ ?_
      |with_reducible refine And.intro ?_ ?_
      | (with_reducible refine qS ?_ ?_ ?_
         try cbv)
      | (with_reducible refine qT ?_ ?_
         try cbv)
      |(with_reducible intro hcd;(try simp only [zA,zB,zC,zD,zE,zF,zG,zH,zI,zJ,zK,zL,zM,zN,zO,zP]at hcd);try cbv)
      | (refine qP ?_ (c41) ?hfit
         case hfit=>((repeat' (first|exact qB|refine qD ?_ ?_|exact qE (by rfl)|exact qF (by rfl)|exact Fit.refl _|exact qA|refine qC ?_ rfl ?_));done)
         try cbv)
      | (refine qP ?_ (c21) ?hfit
         case hfit=>((repeat' (first|exact qB|refine qD ?_ ?_|exact qE (by rfl)|exact qF (by rfl)|exact Fit.refl _|exact qA|refine qC ?_ rfl ?_));done)
         try cbv)
      | (refine qP ?_ (c43) ?hfit
         case hfit=>((repeat' (first|exact qB|refine qD ?_ ?_|exact qE (by rfl)|exact qF (by rfl)|exact Fit.refl _|exact qA|refine qC ?_ rfl ?_));done)
         try cbv)
      | (refine qP ?_ (c23) ?hfit
         case hfit=>((repeat' (first|exact qB|refine qD ?_ ?_|exact qE (by rfl)|exact qF (by rfl)|exact Fit.refl _|exact qA|refine qC ?_ rfl ?_));done)
         try cbv)
      | (refine qP ?_ (c28) ?hfit
         case hfit=>((repeat' (first|exact qB|refine qD ?_ ?_|exact qE (by rfl)|exact qF (by rfl)|exact Fit.refl _|exact qA|refine qC ?_ rfl ?_));done)
         try cbv)
      | (refine qP ?_ (c33) ?hfit
         case hfit=>((repeat' (first|exact qB|refine qD ?_ ?_|exact qE (by rfl)|exact qF (by rfl)|exact Fit.refl _|exact qA|refine qC ?_ rfl ?_));done)
         try cbv)
      | (refine qP ?_ (c33k) ?hfit
         case hfit=>((repeat' (first|exact qB|refine qD ?_ ?_|exact qE (by rfl)|exact qF (by rfl)|exact Fit.refl _|exact qA|refine qC ?_ rfl ?_));done)
         try cbv)
      | (refine qP ?_ (c27) ?hfit
         case hfit=>((repeat' (first|exact qB|refine qD ?_ ?_|exact qE (by rfl)|exact qF (by rfl)|exact Fit.refl _|exact qA|refine qC ?_ rfl ?_));done)
         try cbv)
      |fail)
  all_goals first
    |trivial
    |((try simp only [qV]at *);(try simp only [zQ,zA,zB,zC,zD,zE,zF,zG,zH,zI,zJ,zK,zL,zM,zN,zO,zP,zR,zS]at *);first|(refine qN ?_;omega)|(simp only [Hold];omega))
    |(subst hR;(repeat' (first|exact qA|exact qB|refine qC ?_ rfl ?_|refine qD ?_ ?_|exact qE (by rfl)|exact qF (by rfl)|exact Fit.refl _|exact qG _|(refine qE ?_;(try simp only [qV]at *);simp only [zQ,zA,zB,zC,zD,zE,zF,zG,zH,zI,zJ,zK,zL,zM,zN,zO,zP,zR,zS]at *;omega)));done)
    |(exfalso;(try simp only [Hold]at *);(try simp only [qV]at *);(try simp only [zQ,zA,zB,zC,zD,zE,zF,zG,zH,zI,zJ,zK,zL,zM,zN,zO,zP,zR,zS]at *);omega)
    |(simp only [Hold];decide)
    |skip
set_option maxHeartbeats 1000000 in
theorem law9c (tw tm:List Int)(tv:List (List Int))(rate:Int)(cs:List Csk)(b s m:Int)(hrd:Rdy tw tm tv rate cs)(hs:0≤s∧s≤65535)(hm:0≤m∧m≤65535)(hb:0≤b∧b≤255)(l:List Int)(hl:someP cs.length b=l)(hbl:blendB cs.length l=true)(hll:l.length≤1000)(hnk:1≤(1+s.tmod 2000)∧(1+s.tmod 2000)≤(if 1+s.tmod 2000+m.tmod 200<2000 then 1+s.tmod 2000+m.tmod 200 else 2000)∧(if 1+s.tmod 2000+m.tmod 200<2000 then 1+s.tmod 2000+m.tmod 200 else 2000)≤2000)(hq:watQ cs l (fun j=>sHi tw tm tv (cs.getD j ck0)) (1+s.tmod 2000)≤99)(hq2:watQ cs l (fun j=>sHi tw tm tv (cs.getD j ck0)) (if 1+s.tmod 2000+m.tmod 200<2000 then 1+s.tmod 2000+m.tmod 200 else 2000)≤99)(hle:max 0 (watQ cs l (fun j=>sHi tw tm tv (cs.getD j ck0)) (if 1+s.tmod 2000+m.tmod 200<2000 then 1+s.tmod 2000+m.tmod 200 else 2000))≤(max 0 (watQ cs l (fun j=>sHi tw tm tv (cs.getD j ck0)) (1+s.tmod 2000))))(hp:(decide (0≤strP cs l (max 0 (watQ cs l (fun j=>sHi tw tm tv (cs.getD j ck0)) (1+s.tmod 2000))) (fun j=>sLo tw tm tv (cs.getD j ck0)))&&decide (strP cs l (max 0 (watQ cs l (fun j=>sHi tw tm tv (cs.getD j ck0)) (1+s.tmod 2000))) (fun j=>sHi tw tm tv (cs.getD j ck0))≤(1+s.tmod 2000)))=true)(hw0:(max 0 (watQ cs l (fun j=>sHi tw tm tv (cs.getD j ck0)) (1+s.tmod 2000)))=0):FSpec Try.prog 9 [(stoS tw tm tv rate cs),(.int .u8 (.sym fun _=>b)),(.int .u16 (.sym fun _=>s)),(.int .u16 (.sym fun _=>m))] [] (fun r _=>r=(.bool (.lit true))):=by
  have c41:=ready41y tw tm tv rate cs hrd
  have c21:=awake21
  have c43:=hl▸some43 tw tm tv rate cs b ⟨hrd.some,hrd.ok.few⟩ hb
  have c23:=store23 tw tm tv rate cs (thinS_iff.1 hrd.thin).1 (thinS_iff.1 hrd.thin).2
  have c28:=list28 l hll
  have c33:=water33z tw tm tv rate cs l (1+s.tmod 2000) hrd.ok hll hbl (by omega) hq
  have c33k:=water33z tw tm tv rate cs l (if 1+s.tmod 2000+m.tmod 200<2000 then 1+s.tmod 2000+m.tmod 200 else 2000) hrd.ok hll hbl (by omega) hq2
  have c47:=between47 0 (1+s.tmod 2000)
  have c29:=prove29w tw tm tv rate cs l (max 0 (watQ cs l (fun j=>sHi tw tm tv (cs.getD j ck0)) (1+s.tmod 2000))) 0 (1+s.tmod 2000) true hrd.ok hll hbl (by omega) hp
  refine FSpec.is fun R hR=>qW (sc:=sc9) tyok mix Try.func9 rfl Try.call9 (by kernel_rfl) (by kernel_rfl) ?_
  generalize Try.prog=P at c41 c21 c43 c23 c28 c33 c33k c47 c29⊢
  cbv
  have hS:=hrd.ok
  have hfew:=hS.few
  have hs2:=tmod_bd2 (a:=s) (b:=2000) (by omega) (by decide)
  have hm2:=tmod_bd2 (a:=m) (b:=200) (by omega) (by decide)
  repeat' (first
      |with_reducible refine hold ?_ ?_
      |with_reducible refine And.intro ?_ ?_
      | (with_reducible refine qS ?_ ?_ ?_
         try cbv)
      | (with_reducible refine qT ?_ ?_
         try cbv)
      |(with_reducible intro hcd;(try simp only [zA,zB,zC,zD,zE,zF,zG,zH,zI,zJ,zK,zL,zM,zN,zO,zP]at hcd);try cbv)
      | (refine qP ?_ (c41) ?hfit
         case hfit=>((repeat' (first|exact qB|refine qD ?_ ?_|exact qE (by rfl)|exact qF (by rfl)|exact Fit.refl _|exact qA|refine qC ?_ rfl ?_));done)
         try cbv)
      | (refine qP ?_ (c21) ?hfit
         case hfit=>((repeat' (first|exact qB|refine qD ?_ ?_|exact qE (by rfl)|exact qF (by rfl)|exact Fit.refl _|exact qA|refine qC ?_ rfl ?_));done)
         try cbv)
      | (refine qP ?_ (c43) ?hfit
         case hfit=>((repeat' (first|exact qB|refine qD ?_ ?_|exact qE (by rfl)|exact qF (by rfl)|exact Fit.refl _|exact qA|refine qC ?_ rfl ?_));done)
         try cbv)
      | (refine qP ?_ (c23) ?hfit
         case hfit=>((repeat' (first|exact qB|refine qD ?_ ?_|exact qE (by rfl)|exact qF (by rfl)|exact Fit.refl _|exact qA|refine qC ?_ rfl ?_));done)
         try cbv)
      | (refine qP ?_ (c28) ?hfit
         case hfit=>((repeat' (first|exact qB|refine qD ?_ ?_|exact qE (by rfl)|exact qF (by rfl)|exact Fit.refl _|exact qA|refine qC ?_ rfl ?_));done)
         try cbv)
      | (refine qP ?_ (c33) ?hfit
         case hfit=>((repeat' (first|exact qB|refine qD ?_ ?_|exact qE (by rfl)|exact qF (by rfl)|exact Fit.refl _|exact qA|refine qC ?_ rfl ?_));done)
         try cbv)
      | (refine qP ?_ (c33k) ?hfit
         case hfit=>((repeat' (first|exact qB|refine qD ?_ ?_|exact qE (by rfl)|exact qF (by rfl)|exact Fit.refl _|exact qA|refine qC ?_ rfl ?_));done)
         try cbv)
      | (refine qP ?_ (c47) ?hfit
         case hfit=>((repeat' (first|exact qB|refine qD ?_ ?_|exact qE (by rfl)|exact qF (by rfl)|exact Fit.refl _|exact qA|refine qC ?_ rfl ?_));done)
         try cbv)
      | (refine qP ?_ (c29) ?hfit
         case hfit=>((repeat' (first|exact qB|refine qD ?_ ?_|exact qE (by rfl)|exact qF (by rfl)|exact Fit.refl _|exact qA|refine qC ?_ rfl ?_));done)
         try cbv)
      |fail)
  all_goals first
    |trivial
    |((try simp only [qV]at *);(try simp only [zQ,zA,zB,zC,zD,zE,zF,zG,zH,zI,zJ,zK,zL,zM,zN,zO,zP,zR,zS]at *);first|(refine qN ?_;omega)|(simp only [Hold];omega))
    |(subst hR;(repeat' (first|exact qA|exact qB|refine qC ?_ rfl ?_|refine qD ?_ ?_|exact qE (by rfl)|exact qF (by rfl)|exact Fit.refl _|exact qG _|(refine qE ?_;(try simp only [qV]at *);simp only [zQ,zA,zB,zC,zD,zE,zF,zG,zH,zI,zJ,zK,zL,zM,zN,zO,zP,zR,zS]at *;omega)));done)
    |(exfalso;(try simp only [Hold]at *);(try simp only [qV]at *);(try simp only [zQ,zA,zB,zC,zD,zE,zF,zG,zH,zI,zJ,zK,zL,zM,zN,zO,zP,zR,zS]at *);omega)
    |(simp only [Hold];decide)
    |skip
set_option maxHeartbeats 1000000 in
theorem law9d (tw tm:List Int)(tv:List (List Int))(rate:Int)(cs:List Csk)(b s m:Int)(hrd:Rdy tw tm tv rate cs)(hs:0≤s∧s≤65535)(hm:0≤m∧m≤65535)(hb:0≤b∧b≤255)(l:List Int)(hl:someP cs.length b=l)(hbl:blendB cs.length l=true)(hll:l.length≤1000)(hnk:1≤(1+s.tmod 2000)∧(1+s.tmod 2000)≤(if 1+s.tmod 2000+m.tmod 200<2000 then 1+s.tmod 2000+m.tmod 200 else 2000)∧(if 1+s.tmod 2000+m.tmod 200<2000 then 1+s.tmod 2000+m.tmod 200 else 2000)≤2000)(hq:watQ cs l (fun j=>sHi tw tm tv (cs.getD j ck0)) (1+s.tmod 2000)≤99)(hq2:watQ cs l (fun j=>sHi tw tm tv (cs.getD j ck0)) (if 1+s.tmod 2000+m.tmod 200<2000 then 1+s.tmod 2000+m.tmod 200 else 2000)≤99)(hle:max 0 (watQ cs l (fun j=>sHi tw tm tv (cs.getD j ck0)) (if 1+s.tmod 2000+m.tmod 200<2000 then 1+s.tmod 2000+m.tmod 200 else 2000))≤(max 0 (watQ cs l (fun j=>sHi tw tm tv (cs.getD j ck0)) (1+s.tmod 2000))))(hp:(decide (0≤strP cs l (max 0 (watQ cs l (fun j=>sHi tw tm tv (cs.getD j ck0)) (1+s.tmod 2000))) (fun j=>sLo tw tm tv (cs.getD j ck0)))&&decide (strP cs l (max 0 (watQ cs l (fun j=>sHi tw tm tv (cs.getD j ck0)) (1+s.tmod 2000))) (fun j=>sHi tw tm tv (cs.getD j ck0))≤(1+s.tmod 2000)))=true)(hw0:0<(max 0 (watQ cs l (fun j=>sHi tw tm tv (cs.getD j ck0)) (1+s.tmod 2000))))(hp2:(decide (0≤strP cs l ((max 0 (watQ cs l (fun j=>sHi tw tm tv (cs.getD j ck0)) (1+s.tmod 2000)))-1) (fun j=>sLo tw tm tv (cs.getD j ck0)))&&decide (strP cs l ((max 0 (watQ cs l (fun j=>sHi tw tm tv (cs.getD j ck0)) (1+s.tmod 2000)))-1) (fun j=>sHi tw tm tv (cs.getD j ck0))≤(1+s.tmod 2000)))=false):FSpec Try.prog 9 [(stoS tw tm tv rate cs),(.int .u8 (.sym fun _=>b)),(.int .u16 (.sym fun _=>s)),(.int .u16 (.sym fun _=>m))] [] (fun r _=>r=(.bool (.lit true))):=by
  have c41:=ready41y tw tm tv rate cs hrd
  have c21:=awake21
  have c43:=hl▸some43 tw tm tv rate cs b ⟨hrd.some,hrd.ok.few⟩ hb
  have c23:=store23 tw tm tv rate cs (thinS_iff.1 hrd.thin).1 (thinS_iff.1 hrd.thin).2
  have c28:=list28 l hll
  have c33:=water33z tw tm tv rate cs l (1+s.tmod 2000) hrd.ok hll hbl (by omega) hq
  have c33k:=water33z tw tm tv rate cs l (if 1+s.tmod 2000+m.tmod 200<2000 then 1+s.tmod 2000+m.tmod 200 else 2000) hrd.ok hll hbl (by omega) hq2
  have c47:=between47 0 (1+s.tmod 2000)
  have c29:=prove29w tw tm tv rate cs l (max 0 (watQ cs l (fun j=>sHi tw tm tv (cs.getD j ck0)) (1+s.tmod 2000))) 0 (1+s.tmod 2000) true hrd.ok hll hbl (by omega) hp
  have c29p:=prove29w tw tm tv rate cs l ((max 0 (watQ cs l (fun j=>sHi tw tm tv (cs.getD j ck0)) (1+s.tmod 2000)))-1) 0 (1+s.tmod 2000) false hrd.ok hll hbl (by omega) hp2
  refine FSpec.is fun R hR=>qW (sc:=sc9) tyok mix Try.func9 rfl Try.call9 (by kernel_rfl) (by kernel_rfl) ?_
  generalize Try.prog=P at c41 c21 c43 c23 c28 c33 c33k c47 c29 c29p⊢
  cbv
  have hS:=hrd.ok
  have hfew:=hS.few
  have hs2:=tmod_bd2 (a:=s) (b:=2000) (by omega) (by decide)
  have hm2:=tmod_bd2 (a:=m) (b:=200) (by omega) (by decide)
  repeat' (first
      |with_reducible refine hold ?_ ?_
      |with_reducible refine And.intro ?_ ?_
      | (with_reducible refine qS ?_ ?_ ?_
         try cbv)
      | (with_reducible refine qT ?_ ?_
         try cbv)
      |(with_reducible intro hcd;(try simp only [zA,zB,zC,zD,zE,zF,zG,zH,zI,zJ,zK,zL,zM,zN,zO,zP]at hcd);try cbv)
      | (refine qP ?_ (c41) ?hfit
         case hfit=>((repeat' (first|exact qB|refine qD ?_ ?_|exact qE (by rfl)|exact qF (by rfl)|exact Fit.refl _|exact qA|refine qC ?_ rfl ?_));done)
         try cbv)
      | (refine qP ?_ (c21) ?hfit
         case hfit=>((repeat' (first|exact qB|refine qD ?_ ?_|exact qE (by rfl)|exact qF (by rfl)|exact Fit.refl _|exact qA|refine qC ?_ rfl ?_));done)
         try cbv)
      | (refine qP ?_ (c43) ?hfit
         case hfit=>((repeat' (first|exact qB|refine qD ?_ ?_|exact qE (by rfl)|exact qF (by rfl)|exact Fit.refl _|exact qA|refine qC ?_ rfl ?_));done)
         try cbv)
      | (refine qP ?_ (c23) ?hfit
         case hfit=>((repeat' (first|exact qB|refine qD ?_ ?_|exact qE (by rfl)|exact qF (by rfl)|exact Fit.refl _|exact qA|refine qC ?_ rfl ?_));done)
         try cbv)
      | (refine qP ?_ (c28) ?hfit
         case hfit=>((repeat' (first|exact qB|refine qD ?_ ?_|exact qE (by rfl)|exact qF (by rfl)|exact Fit.refl _|exact qA|refine qC ?_ rfl ?_));done)
         try cbv)
      | (refine qP ?_ (c33) ?hfit
         case hfit=>((repeat' (first|exact qB|refine qD ?_ ?_|exact qE (by rfl)|exact qF (by rfl)|exact Fit.refl _|exact qA|refine qC ?_ rfl ?_));done)
         try cbv)
      | (refine qP ?_ (c33k) ?hfit
         case hfit=>((repeat' (first|exact qB|refine qD ?_ ?_|exact qE (by rfl)|exact qF (by rfl)|exact Fit.refl _|exact qA|refine qC ?_ rfl ?_));done)
         try cbv)
      | (refine qP ?_ (c47) ?hfit
         case hfit=>((repeat' (first|exact qB|refine qD ?_ ?_|exact qE (by rfl)|exact qF (by rfl)|exact Fit.refl _|exact qA|refine qC ?_ rfl ?_));done)
         try cbv)
      | (refine qP ?_ (c29) ?hfit
         case hfit=>((repeat' (first|exact qB|refine qD ?_ ?_|exact qE (by rfl)|exact qF (by rfl)|exact Fit.refl _|exact qA|refine qC ?_ rfl ?_));done)
         try cbv)
      | (refine qP ?_ (c29p) ?hfit
         case hfit=>((repeat' (first|exact qB|refine qD ?_ ?_|exact qE (by rfl)|exact qF (by rfl)|exact Fit.refl _|exact qA|refine qC ?_ rfl ?_));done)
         try cbv)
      |fail)
  all_goals first
    |trivial
    |((try simp only [qV]at *);(try simp only [zQ,zA,zB,zC,zD,zE,zF,zG,zH,zI,zJ,zK,zL,zM,zN,zO,zP,zR,zS]at *);first|(refine qN ?_;omega)|(simp only [Hold];omega))
    |(subst hR;(repeat' (first|exact qA|exact qB|refine qC ?_ rfl ?_|refine qD ?_ ?_|exact qE (by rfl)|exact qF (by rfl)|exact Fit.refl _|exact qG _|(refine qE ?_;(try simp only [qV]at *);simp only [zQ,zA,zB,zC,zD,zE,zF,zG,zH,zI,zJ,zK,zL,zM,zN,zO,zP,zR,zS]at *;omega)));done)
    |(exfalso;(try simp only [Hold]at *);(try simp only [qV]at *);(try simp only [zQ,zA,zB,zC,zD,zE,zF,zG,zH,zI,zJ,zK,zL,zM,zN,zO,zP,zR,zS]at *);omega)
    |(simp only [Hold];decide)
    |skip
theorem law9 (tw tm:List Int)(tv:List (List Int))(rate:Int)(cs:List Csk)(b s m:Int)(hb:0≤b∧b≤255)(hs:0≤s∧s≤65535)(hm:0≤m∧m≤65535):FSpec Try.prog 9 [(stoS tw tm tv rate cs),(.int .u8 (.sym fun _=>b)),(.int .u16 (.sym fun _=>s)),(.int .u16 (.sym fun _=>m))] [] (fun r _=>r = .bool (.lit true)):=by
  rcases rdy_or tw tm tv rate cs with h|h
  · have hb2:=some_blend h.some h.ok.few hb
    have h1:=tmod_bd2 (a:=s) (b:=2000) hs.1 (by decide)
    have h2:=tmod_bd2 (a:=m) (b:=200) hm.1 (by decide)
    have hnk:1≤(1+s.tmod 2000)∧(1+s.tmod 2000)≤(if 1+s.tmod 2000+m.tmod 200<2000 then 1+s.tmod 2000+m.tmod 200 else 2000)∧(if 1+s.tmod 2000+m.tmod 200<2000 then 1+s.tmod 2000+m.tmod 200 else 2000)≤2000:=by omega
    generalize hl:someP cs.length b=l at hb2
    have han:=wat_anti h.ok hb2.1 hb2.2 (by omega) hnk.2.1
    by_cases hq:watQ cs l (fun j=>sHi tw tm tv (cs.getD j ck0)) (1+s.tmod 2000)≤99
    · have hle:max 0 (watQ cs l (fun j=>sHi tw tm tv (cs.getD j ck0)) (if 1+s.tmod 2000+m.tmod 200<2000 then 1+s.tmod 2000+m.tmod 200 else 2000))≤(max 0 (watQ cs l (fun j=>sHi tw tm tv (cs.getD j ck0)) (1+s.tmod 2000))):=by omega
      have hp:(decide (0≤strP cs l (max 0 (watQ cs l (fun j=>sHi tw tm tv (cs.getD j ck0)) (1+s.tmod 2000))) (fun j=>sLo tw tm tv (cs.getD j ck0)))&&decide (strP cs l (max 0 (watQ cs l (fun j=>sHi tw tm tv (cs.getD j ck0)) (1+s.tmod 2000))) (fun j=>sHi tw tm tv (cs.getD j ck0))≤(1+s.tmod 2000)))=true:=by
        rw [decide_eq_true (str_nn h.ok hb2.1 hb2.2 (by omega)),decide_eq_true ((wat_iff h.ok hb2.1 hb2.2 (by omega) (by omega)).2 (by omega))];rfl
      by_cases hw0:(max 0 (watQ cs l (fun j=>sHi tw tm tv (cs.getD j ck0)) (1+s.tmod 2000)))=0
      · exact law9c tw tm tv rate cs b s m h hs hm hb l hl hb2.1 hb2.2 hnk hq (by omega) hle hp hw0
      · refine law9d tw tm tv rate cs b s m h hs hm hb l hl hb2.1 hb2.2 hnk hq (by omega) hle hp (by omega) ?_
        have hf:¬strP cs l ((max 0 (watQ cs l (fun j=>sHi tw tm tv (cs.getD j ck0)) (1+s.tmod 2000)))-1) (fun j=>sHi tw tm tv (cs.getD j ck0))≤(1+s.tmod 2000):=fun q=>by
          have:=(wat_iff h.ok hb2.1 hb2.2 (by omega) (by omega)).1 q
          omega
        rw [decide_eq_false hf,Bool.and_false]
    · have hgt:(1+s.tmod 2000)<strP cs l 99 (fun j=>sHi tw tm tv (cs.getD j ck0)):=by
        refine Int.not_le.1 fun q=>hq ?_
        exact(wat_iff h.ok hb2.1 hb2.2 (by omega) (by omega)).1 q
      by_cases hq2:watQ cs l (fun j=>sHi tw tm tv (cs.getD j ck0)) (if 1+s.tmod 2000+m.tmod 200<2000 then 1+s.tmod 2000+m.tmod 200 else 2000)≤99
      · exact law9a tw tm tv rate cs b s m h hs hm hb l hl hb2.1 hb2.2 hnk (by omega) hq2 hgt
      · exact law9b tw tm tv rate cs b s m h hs hm hb l hl hb2.1 hb2.2 hnk (by omega) (by omega) hgt
  · exact law9n tw tm tv rate cs b s m h
end Go.Proofs.Ytkdgpdlfakcgdaa
