/- ProofShortest: what the law computes. No condition. -/
import Derived.Test.YtkdgpdlfakcgdaaT7
set_option linter.unusedVariables false
set_option linter.unusedSimpArgs false
set_option linter.deprecated false
set_option linter.all false

namespace Go.Proofs.Ytkdgpdlfakcgdaa
open Go Go.Eng Go.Proofs
set_option maxRecDepth 10000
theorem prove29t (tw tm:List Int)(tv:List (List Int))(rate:Int)(cs:List Csk)(l:List Int)(a e:Int)(hS:SOk tw tm tv rate cs)(hll:l.length≤1000)(hbl:blendB cs.length l=true)(hs:surB cs (fun j=>sLo tw tm tv (cs.getD j ck0)) (fun j=>sHi tw tm tv (cs.getD j ck0)) a e l=true):FSpec Try.prog 29 [(stoS tw tm tv rate cs),(.sl 1 (.sym fun _=>zi (l).length) (fun ix=>[.int .i64 (.sym fun _=>(l).getD ix.den.toNat 0)])),(.int .i64 (.sym fun _=>0)),(.agg [(.int .i64 (.sym fun _=>a)),(.int .i64 (.sym fun _=>e))])] [] (fun r _=>r=(.bool (.lit true))):=
  (prove29 tw tm tv rate cs l 0 a e hS hll hbl (by decide)).post fun r bs q=>⟨_,by subst q;exact qF hs,rfl⟩
theorem prove29f (tw tm:List Int)(tv:List (List Int))(rate:Int)(cs:List Csk)(l:List Int)(a e:Int)(hS:SOk tw tm tv rate cs)(hll:l.length≤1000)(hbl:blendB cs.length l=true)(hs:surB cs (fun j=>sLo tw tm tv (cs.getD j ck0)) (fun j=>sHi tw tm tv (cs.getD j ck0)) a e l=false):FSpec Try.prog 29 [(stoS tw tm tv rate cs),(.sl 1 (.sym fun _=>zi (l).length) (fun ix=>[.int .i64 (.sym fun _=>(l).getD ix.den.toNat 0)])),(.int .i64 (.sym fun _=>0)),(.agg [(.int .i64 (.sym fun _=>a)),(.int .i64 (.sym fun _=>e))])] [] (fun r _=>r=(.bool (.lit false))):=
  (prove29 tw tm tv rate cs l 0 a e hS hll hbl (by decide)).post fun r bs q=>⟨_,by subst q;exact qF hs,rfl⟩
theorem shorter48f (a b:List Int)(h:a.length≤1000∧b.length≤1000)(hs:shorterP a b=false):FSpec Try.prog 48 [(.sl 1 (.sym fun _=>zi (a).length) (fun ix=>[.int .i64 (.sym fun _=>(a).getD ix.den.toNat 0)])),(.sl 1 (.sym fun _=>zi (b).length) (fun ix=>[.int .i64 (.sym fun _=>(b).getD ix.den.toNat 0)]))] [] (fun r _=>r=(.bool (.lit false))):=
  (shorter48 a b h).post fun r bs e=>⟨_,by subst e;exact qF hs,rfl⟩
theorem fewest35z (tw tm:List Int)(tv:List (List Int))(rate:Int)(cs:List Csk)(a b:Int)(F:List Int)(hS:SOk tw tm tv rate cs)(hab:a≤b)(hch:fewP cs.length (surB cs (fun j=>sLo tw tm tv (cs.getD j ck0)) (fun j=>sHi tw tm tv (cs.getD j ck0)) a b)=some F):FSpec Try.prog 35 [(stoS tw tm tv rate cs),(.agg [(.int .i64 (.sym fun _=>a)),(.int .i64 (.sym fun _=>b))])] [] (fun r _=>r=(.tup [(.sl 1 (.sym fun _=>zi (F).length) (fun ix=>[.int .i64 (.sym fun _=>(F).getD ix.den.toNat 0)])),(.int .i64 (.lit 0))])):=
  (fewest35 tw tm tv rate cs a b F hS hab hch).post fun r bs e=>⟨_,by subst e;(repeat' (first|exact qA|exact qB|refine qC ?_ rfl ?_|refine qD ?_ ?_|exact qE (by rfl)|exact qF (by rfl)|exact Fit.refl _)),rfl⟩
theorem fewest35nz (tw tm:List Int)(tv:List (List Int))(rate:Int)(cs:List Csk)(a b:Int)(hS:SOk tw tm tv rate cs)(hab:a≤b)(hch:fewP cs.length (surB cs (fun j=>sLo tw tm tv (cs.getD j ck0)) (fun j=>sHi tw tm tv (cs.getD j ck0)) a b)=none):FSpec Try.prog 35 [(stoS tw tm tv rate cs),(.agg [(.int .i64 (.sym fun _=>a)),(.int .i64 (.sym fun _=>b))])] [] (fun r _=>r=(.tup [(.val (.slice none 0 0)),(.int .i64 (.lit 7))])):=
  (fewest35n tw tm tv rate cs a b hS hab hch).post fun r bs e=>⟨_,by subst e;(repeat' (first|exact qA|exact qB|refine qC ?_ rfl ?_|refine qD ?_ ?_|exact qE (by rfl)|exact qF (by rfl)|exact Fit.refl _)),rfl⟩
theorem law10n (tw tm:List Int)(tv:List (List Int))(rate:Int)(cs:List Csk)(lo wi b:Int)(hr:(thinS tw tm tv cs&&decide (faultS tw tm tv rate cs=0)&&decide (0<cs.length))=false):FSpec Try.prog 10 [(stoS tw tm tv rate cs),(.int .u16 (.sym fun _=>lo)),(.int .u16 (.sym fun _=>wi)),(.int .u8 (.sym fun _=>b))] [] (fun r _=>r=(.bool (.lit true))):=by
  have c41:=ready41n tw tm tv rate cs hr
  have c21:=awake21
  refine FSpec.is fun R hR=>qW (sc:=sc10) tyok mix Try.func10 rfl Try.call10 (by kernel_rfl) (by kernel_rfl) ?_
  generalize Try.prog=P at c41 c21⊢
  cbv
  repeat' (first
      |with_reducible refine hold ?_ ?_
      |with_reducible refine And.intro ?_ ?_
      | (with_reducible refine qS ?_ ?_ ?_
         try cbv)
      | (with_reducible refine qT ?_ ?_
         try cbv)
      |(with_reducible intro hcd;(try simp only [zA,zB,zC,zD,zE,zF,zG,zH,zI,zJ,zK,zL,zM,zN,zO,zP]at hcd);try cbv)
      | (refine qP ?_ (c41) ?hfit
         case hfit=>((repeat' (first|exact qB|refine qD ?_ ?_|exact qE (by rfl)|exact qF (by rfl)|exact Fit.refl _|exact qA|refine qC ?_ rfl ?_));done)
         try cbv)
      | (refine qP ?_ (c21) ?hfit
         case hfit=>((repeat' (first|exact qB|refine qD ?_ ?_|exact qE (by rfl)|exact qF (by rfl)|exact Fit.refl _|exact qA|refine qC ?_ rfl ?_));done)
         try cbv)
      |fail)
  all_goals first
    |trivial
    |((try simp only [qV]at *);(try simp only [zQ,zA,zB,zC,zD,zE,zF,zG,zH,zI,zJ,zK,zL,zM,zN,zO,zP,zR,zS]at *);first|(refine qN ?_;omega)|(simp only [Hold];omega))
    |(subst hR;(repeat' (first|exact qA|exact qB|refine qC ?_ rfl ?_|refine qD ?_ ?_|exact qE (by rfl)|exact qF (by rfl)|exact Fit.refl _|exact qG _|(refine qE ?_;(try simp only [qV]at *);simp only [zQ,zA,zB,zC,zD,zE,zF,zG,zH,zI,zJ,zK,zL,zM,zN,zO,zP,zR,zS]at *;omega)));done)
    |(simp only [Hold];decide)
    |skip
set_option maxHeartbeats 1000000 in
theorem law10a (tw tm:List Int)(tv:List (List Int))(rate:Int)(cs:List Csk)(lo wi b:Int)(hrd:Rdy tw tm tv rate cs)(hlo:0≤lo∧lo≤65535)(hwi:0≤wi∧wi≤65535)(hb:0≤b∧b≤255)(l:List Int)(hl:someP cs.length b=l)(hbl:blendB cs.length l=true)(hll:l.length≤1000)(hab:0≤lo.tmod 2001∧lo.tmod 2001≤2000∧0≤wi.tmod 600∧wi.tmod 600≤599)(hf:fewP cs.length (surB cs (fun j=>sLo tw tm tv (cs.getD j ck0)) (fun j=>sHi tw tm tv (cs.getD j ck0)) (lo.tmod 2001) (lo.tmod 2001+wi.tmod 600))=none)(hs:surB cs (fun j=>sLo tw tm tv (cs.getD j ck0)) (fun j=>sHi tw tm tv (cs.getD j ck0)) (lo.tmod 2001) (lo.tmod 2001+wi.tmod 600) l=false):FSpec Try.prog 10 [(stoS tw tm tv rate cs),(.int .u16 (.sym fun _=>lo)),(.int .u16 (.sym fun _=>wi)),(.int .u8 (.sym fun _=>b))] [] (fun r _=>r=(.bool (.lit true))):=by
  have c41:=ready41y tw tm tv rate cs hrd
  have c21:=awake21
  have c43:=hl▸some43 tw tm tv rate cs b ⟨hrd.some,hrd.ok.few⟩ hb
  have c23:=store23 tw tm tv rate cs (thinS_iff.1 hrd.thin).1 (thinS_iff.1 hrd.thin).2
  have c28:=list28 l hll
  have c47:=between47 (lo.tmod 2001) (lo.tmod 2001+wi.tmod 600)
  have c35:=fewest35nz tw tm tv rate cs (lo.tmod 2001) (lo.tmod 2001+wi.tmod 600) hrd.ok (by omega) hf
  have c29:=prove29f tw tm tv rate cs l (lo.tmod 2001) (lo.tmod 2001+wi.tmod 600) hrd.ok hll hbl hs
  refine FSpec.is fun R hR=>qW (sc:=sc10) tyok mix Try.func10 rfl Try.call10 (by kernel_rfl) (by kernel_rfl) ?_
  generalize Try.prog=P at c41 c21 c43 c23 c28 c47 c35 c29⊢
  cbv
  have hS:=hrd.ok
  have hfew:=hS.few
  repeat' (first
      |with_reducible refine hold ?_ ?_
      |with_reducible refine And.intro ?_ ?_
      | (with_reducible refine qS ?_ ?_ ?_
         try cbv)
      | (with_reducible refine qT ?_ ?_
         try cbv)
      |(with_reducible intro hcd;(try simp only [zA,zB,zC,zD,zE,zF,zG,zH,zI,zJ,zK,zL,zM,zN,zO,zP]at hcd);try cbv)
      | (refine qP ?_ (c41) ?hfit
         case hfit=>((repeat' (first|exact qB|refine qD ?_ ?_|exact qE (by rfl)|exact qF (by rfl)|exact Fit.refl _|exact qA|refine qC ?_ rfl ?_));done)
         try cbv)
      | (refine qP ?_ (c21) ?hfit
         case hfit=>((repeat' (first|exact qB|refine qD ?_ ?_|exact qE (by rfl)|exact qF (by rfl)|exact Fit.refl _|exact qA|refine qC ?_ rfl ?_));done)
         try cbv)
      | (refine qP ?_ (c43) ?hfit
         case hfit=>((repeat' (first|exact qB|refine qD ?_ ?_|exact qE (by rfl)|exact qF (by rfl)|exact Fit.refl _|exact qA|refine qC ?_ rfl ?_));done)
         try cbv)
      | (refine qP ?_ (c47) ?hfit
         case hfit=>((repeat' (first|exact qB|refine qD ?_ ?_|exact qE (by rfl)|exact qF (by rfl)|exact Fit.refl _|exact qA|refine qC ?_ rfl ?_));done)
         try cbv)
      | (refine qP ?_ (c23) ?hfit
         case hfit=>((repeat' (first|exact qB|refine qD ?_ ?_|exact qE (by rfl)|exact qF (by rfl)|exact Fit.refl _|exact qA|refine qC ?_ rfl ?_));done)
         try cbv)
      | (refine qP ?_ (c28) ?hfit
         case hfit=>((repeat' (first|exact qB|refine qD ?_ ?_|exact qE (by rfl)|exact qF (by rfl)|exact Fit.refl _|exact qA|refine qC ?_ rfl ?_));done)
         try cbv)
      | (refine qP ?_ (c35) ?hfit
         case hfit=>((repeat' (first|exact qB|refine qD ?_ ?_|exact qE (by rfl)|exact qF (by rfl)|exact Fit.refl _|exact qA|refine qC ?_ rfl ?_));done)
         try cbv)
      | (refine qP ?_ (c29) ?hfit
         case hfit=>((repeat' (first|exact qB|refine qD ?_ ?_|exact qE (by rfl)|exact qF (by rfl)|exact Fit.refl _|exact qA|refine qC ?_ rfl ?_));done)
         try cbv)
      |fail)
  all_goals first
    |trivial
    |((try simp only [qV]at *);(try simp only [zQ,zA,zB,zC,zD,zE,zF,zG,zH,zI,zJ,zK,zL,zM,zN,zO,zP,zR,zS]at *);first|(refine qN ?_;omega)|(simp only [Hold];omega))
    |(subst hR;(repeat' (first|exact qA|exact qB|refine qC ?_ rfl ?_|refine qD ?_ ?_|exact qE (by rfl)|exact qF (by rfl)|exact Fit.refl _|exact qG _|(refine qE ?_;(try simp only [qV]at *);simp only [zQ,zA,zB,zC,zD,zE,zF,zG,zH,zI,zJ,zK,zL,zM,zN,zO,zP,zR,zS]at *;omega)));done)
    |(exfalso;(try simp only [Hold]at *);(try simp only [qV]at *);(try simp only [zQ,zA,zB,zC,zD,zE,zF,zG,zH,zI,zJ,zK,zL,zM,zN,zO,zP,zR,zS]at *);omega)
    |(simp only [Hold];decide)
    |skip
set_option maxHeartbeats 1000000 in
theorem law10b (tw tm:List Int)(tv:List (List Int))(rate:Int)(cs:List Csk)(lo wi b:Int)(hrd:Rdy tw tm tv rate cs)(hlo:0≤lo∧lo≤65535)(hwi:0≤wi∧wi≤65535)(hb:0≤b∧b≤255)(l:List Int)(hl:someP cs.length b=l)(hbl:blendB cs.length l=true)(hll:l.length≤1000)(hab:0≤lo.tmod 2001∧lo.tmod 2001≤2000∧0≤wi.tmod 600∧wi.tmod 600≤599)(F:List Int)(hf:fewP cs.length (surB cs (fun j=>sLo tw tm tv (cs.getD j ck0)) (fun j=>sHi tw tm tv (cs.getD j ck0)) (lo.tmod 2001) (lo.tmod 2001+wi.tmod 600))=some F)(hsF:surB cs (fun j=>sLo tw tm tv (cs.getD j ck0)) (fun j=>sHi tw tm tv (cs.getD j ck0)) (lo.tmod 2001) (lo.tmod 2001+wi.tmod 600) F=true)(hbF:blendB cs.length F=true)(hlF:F.length≤1000)(hs:surB cs (fun j=>sLo tw tm tv (cs.getD j ck0)) (fun j=>sHi tw tm tv (cs.getD j ck0)) (lo.tmod 2001) (lo.tmod 2001+wi.tmod 600) l=true)(hsh:shorterP l F=false):FSpec Try.prog 10 [(stoS tw tm tv rate cs),(.int .u16 (.sym fun _=>lo)),(.int .u16 (.sym fun _=>wi)),(.int .u8 (.sym fun _=>b))] [] (fun r _=>r=(.bool (.lit true))):=by
  have c41:=ready41y tw tm tv rate cs hrd
  have c21:=awake21
  have c43:=hl▸some43 tw tm tv rate cs b ⟨hrd.some,hrd.ok.few⟩ hb
  have c23:=store23 tw tm tv rate cs (thinS_iff.1 hrd.thin).1 (thinS_iff.1 hrd.thin).2
  have c28:=list28 l hll
  have c47:=between47 (lo.tmod 2001) (lo.tmod 2001+wi.tmod 600)
  have c35:=fewest35z tw tm tv rate cs (lo.tmod 2001) (lo.tmod 2001+wi.tmod 600) F hrd.ok (by omega) hf
  have c29:=prove29t tw tm tv rate cs l (lo.tmod 2001) (lo.tmod 2001+wi.tmod 600) hrd.ok hll hbl hs
  have c29F:=prove29t tw tm tv rate cs F (lo.tmod 2001) (lo.tmod 2001+wi.tmod 600) hrd.ok hlF hbF hsF
  have c28F:=list28 F hlF
  have c48:=shorter48f l F ⟨hll,hlF⟩ hsh
  refine FSpec.is fun R hR=>qW (sc:=sc10) tyok mix Try.func10 rfl Try.call10 (by kernel_rfl) (by kernel_rfl) ?_
  generalize Try.prog=P at c41 c21 c43 c23 c28 c47 c35 c29 c29F c28F c48⊢
  cbv
  have hS:=hrd.ok
  have hfew:=hS.few
  repeat' (first
      |with_reducible refine hold ?_ ?_
      |with_reducible refine And.intro ?_ ?_
      | (with_reducible refine qS ?_ ?_ ?_
         try cbv)
      | (with_reducible refine qT ?_ ?_
         try cbv)
      |(with_reducible intro hcd;(try simp only [zA,zB,zC,zD,zE,zF,zG,zH,zI,zJ,zK,zL,zM,zN,zO,zP]at hcd);try cbv)
      | (refine qP ?_ (c41) ?hfit
         case hfit=>((repeat' (first|exact qB|refine qD ?_ ?_|exact qE (by rfl)|exact qF (by rfl)|exact Fit.refl _|exact qA|refine qC ?_ rfl ?_));done)
         try cbv)
      | (refine qP ?_ (c21) ?hfit
         case hfit=>((repeat' (first|exact qB|refine qD ?_ ?_|exact qE (by rfl)|exact qF (by rfl)|exact Fit.refl _|exact qA|refine qC ?_ rfl ?_));done)
         try cbv)
      | (refine qP ?_ (c43) ?hfit
         case hfit=>((repeat' (first|exact qB|refine qD ?_ ?_|exact qE (by rfl)|exact qF (by rfl)|exact Fit.refl _|exact qA|refine qC ?_ rfl ?_));done)
         try cbv)
      | (refine qP ?_ (c47) ?hfit
         case hfit=>((repeat' (first|exact qB|refine qD ?_ ?_|exact qE (by rfl)|exact qF (by rfl)|exact Fit.refl _|exact qA|refine qC ?_ rfl ?_));done)
         try cbv)
      | (refine qP ?_ (c23) ?hfit
         case hfit=>((repeat' (first|exact qB|refine qD ?_ ?_|exact qE (by rfl)|exact qF (by rfl)|exact Fit.refl _|exact qA|refine qC ?_ rfl ?_));done)
         try cbv)
      | (refine qP ?_ (c28) ?hfit
         case hfit=>((repeat' (first|exact qB|refine qD ?_ ?_|exact qE (by rfl)|exact qF (by rfl)|exact Fit.refl _|exact qA|refine qC ?_ rfl ?_));done)
         try cbv)
      | (refine qP ?_ (c28F) ?hfit
         case hfit=>((repeat' (first|exact qB|refine qD ?_ ?_|exact qE (by rfl)|exact qF (by rfl)|exact Fit.refl _|exact qA|refine qC ?_ rfl ?_));done)
         try cbv)
      | (refine qP ?_ (c35) ?hfit
         case hfit=>((repeat' (first|exact qB|refine qD ?_ ?_|exact qE (by rfl)|exact qF (by rfl)|exact Fit.refl _|exact qA|refine qC ?_ rfl ?_));done)
         try cbv)
      | (refine qP ?_ (c29) ?hfit
         case hfit=>((repeat' (first|exact qB|refine qD ?_ ?_|exact qE (by rfl)|exact qF (by rfl)|exact Fit.refl _|exact qA|refine qC ?_ rfl ?_));done)
         try cbv)
      | (refine qP ?_ (c29F) ?hfit
         case hfit=>((repeat' (first|exact qB|refine qD ?_ ?_|exact qE (by rfl)|exact qF (by rfl)|exact Fit.refl _|exact qA|refine qC ?_ rfl ?_));done)
         try cbv)
      | (refine qP ?_ (c48) ?hfit
         case hfit=>((repeat' (first|exact qB|refine qD ?_ ?_|exact qE (by rfl)|exact qF (by rfl)|exact Fit.refl _|exact qA|refine qC ?_ rfl ?_));done)
         try cbv)
      |fail)
  all_goals first
    |trivial
    |((try simp only [qV]at *);(try simp only [zQ,zA,zB,zC,zD,zE,zF,zG,zH,zI,zJ,zK,zL,zM,zN,zO,zP,zR,zS]at *);first|(refine qN ?_;omega)|(simp only [Hold];omega))
    |(subst hR;(repeat' (first|exact qA|exact qB|refine qC ?_ rfl ?_|refine qD ?_ ?_|exact qE (by rfl)|exact qF (by rfl)|exact Fit.refl _|exact qG _|(refine qE ?_;(try simp only [qV]at *);simp only [zQ,zA,zB,zC,zD,zE,zF,zG,zH,zI,zJ,zK,zL,zM,zN,zO,zP,zR,zS]at *;omega)));done)
    |(exfalso;(try simp only [Hold]at *);(try simp only [qV]at *);(try simp only [zQ,zA,zB,zC,zD,zE,zF,zG,zH,zI,zJ,zK,zL,zM,zN,zO,zP,zR,zS]at *);omega)
    |(simp only [Hold];decide)
    |skip
set_option maxHeartbeats 1000000 in
theorem law10c (tw tm:List Int)(tv:List (List Int))(rate:Int)(cs:List Csk)(lo wi b:Int)(hrd:Rdy tw tm tv rate cs)(hlo:0≤lo∧lo≤65535)(hwi:0≤wi∧wi≤65535)(hb:0≤b∧b≤255)(l:List Int)(hl:someP cs.length b=l)(hbl:blendB cs.length l=true)(hll:l.length≤1000)(hab:0≤lo.tmod 2001∧lo.tmod 2001≤2000∧0≤wi.tmod 600∧wi.tmod 600≤599)(F:List Int)(hf:fewP cs.length (surB cs (fun j=>sLo tw tm tv (cs.getD j ck0)) (fun j=>sHi tw tm tv (cs.getD j ck0)) (lo.tmod 2001) (lo.tmod 2001+wi.tmod 600))=some F)(hsF:surB cs (fun j=>sLo tw tm tv (cs.getD j ck0)) (fun j=>sHi tw tm tv (cs.getD j ck0)) (lo.tmod 2001) (lo.tmod 2001+wi.tmod 600) F=true)(hbF:blendB cs.length F=true)(hlF:F.length≤1000)(hs:surB cs (fun j=>sLo tw tm tv (cs.getD j ck0)) (fun j=>sHi tw tm tv (cs.getD j ck0)) (lo.tmod 2001) (lo.tmod 2001+wi.tmod 600) l=false):FSpec Try.prog 10 [(stoS tw tm tv rate cs),(.int .u16 (.sym fun _=>lo)),(.int .u16 (.sym fun _=>wi)),(.int .u8 (.sym fun _=>b))] [] (fun r _=>r=(.bool (.lit true))):=by
  have c41:=ready41y tw tm tv rate cs hrd
  have c21:=awake21
  have c43:=hl▸some43 tw tm tv rate cs b ⟨hrd.some,hrd.ok.few⟩ hb
  have c23:=store23 tw tm tv rate cs (thinS_iff.1 hrd.thin).1 (thinS_iff.1 hrd.thin).2
  have c28:=list28 l hll
  have c47:=between47 (lo.tmod 2001) (lo.tmod 2001+wi.tmod 600)
  have c35:=fewest35z tw tm tv rate cs (lo.tmod 2001) (lo.tmod 2001+wi.tmod 600) F hrd.ok (by omega) hf
  have c29:=prove29f tw tm tv rate cs l (lo.tmod 2001) (lo.tmod 2001+wi.tmod 600) hrd.ok hll hbl hs
  have c29F:=prove29t tw tm tv rate cs F (lo.tmod 2001) (lo.tmod 2001+wi.tmod 600) hrd.ok hlF hbF hsF
  have c28F:=list28 F hlF
  refine FSpec.is fun R hR=>qW (sc:=sc10) tyok mix Try.func10 rfl Try.call10 (by kernel_rfl) (by kernel_rfl) ?_
  generalize Try.prog=P at c41 c21 c43 c23 c28 c47 c35 c29 c29F c28F⊢
  cbv
  have hS:=hrd.ok
  have hfew:=hS.few
  repeat' (first
      |with_reducible refine hold ?_ ?_
      |with_reducible refine And.intro ?_ ?_
      | (with_reducible refine qS ?_ ?_ ?_
         try cbv)
      | (with_reducible refine qT ?_ ?_
         try cbv)
      |(with_reducible intro hcd;(try simp only [zA,zB,zC,zD,zE,zF,zG,zH,zI,zJ,zK,zL,zM,zN,zO,zP]at hcd);try cbv)
      | (refine qP ?_ (c41) ?hfit
         case hfit=>((repeat' (first|exact qB|refine qD ?_ ?_|exact qE (by rfl)|exact qF (by rfl)|exact Fit.refl _|exact qA|refine qC ?_ rfl ?_));done)
         try cbv)
      | (refine qP ?_ (c21) ?hfit
         case hfit=>((repeat' (first|exact qB|refine qD ?_ ?_|exact qE (by rfl)|exact qF (by rfl)|exact Fit.refl _|exact qA|refine qC ?_ rfl ?_));done)
         try cbv)
      | (refine qP ?_ (c43) ?hfit
         case hfit=>((repeat' (first|exact qB|refine qD ?_ ?_|exact qE (by rfl)|exact qF (by rfl)|exact Fit.refl _|exact qA|refine qC ?_ rfl ?_));done)
         try cbv)
      | (refine qP ?_ (c47) ?hfit
         case hfit=>((repeat' (first|exact qB|refine qD ?_ ?_|exact qE (by rfl)|exact qF (by rfl)|exact Fit.refl _|exact qA|refine qC ?_ rfl ?_));done)
         try cbv)
      | (refine qP ?_ (c23) ?hfit
         case hfit=>((repeat' (first|exact qB|refine qD ?_ ?_|exact qE (by rfl)|exact qF (by rfl)|exact Fit.refl _|exact qA|refine qC ?_ rfl ?_));done)
         try cbv)
      | (refine qP ?_ (c28) ?hfit
         case hfit=>((repeat' (first|exact qB|refine qD ?_ ?_|exact qE (by rfl)|exact qF (by rfl)|exact Fit.refl _|exact qA|refine qC ?_ rfl ?_));done)
         try cbv)
      | (refine qP ?_ (c28F) ?hfit
         case hfit=>((repeat' (first|exact qB|refine qD ?_ ?_|exact qE (by rfl)|exact qF (by rfl)|exact Fit.refl _|exact qA|refine qC ?_ rfl ?_));done)
         try cbv)
      | (refine qP ?_ (c35) ?hfit
         case hfit=>((repeat' (first|exact qB|refine qD ?_ ?_|exact qE (by rfl)|exact qF (by rfl)|exact Fit.refl _|exact qA|refine qC ?_ rfl ?_));done)
         try cbv)
      | (refine qP ?_ (c29) ?hfit
         case hfit=>((repeat' (first|exact qB|refine qD ?_ ?_|exact qE (by rfl)|exact qF (by rfl)|exact Fit.refl _|exact qA|refine qC ?_ rfl ?_));done)
         try cbv)
      | (refine qP ?_ (c29F) ?hfit
         case hfit=>((repeat' (first|exact qB|refine qD ?_ ?_|exact qE (by rfl)|exact qF (by rfl)|exact Fit.refl _|exact qA|refine qC ?_ rfl ?_));done)
         try cbv)
      |fail)
  all_goals first
    |trivial
    |((try simp only [qV]at *);(try simp only [zQ,zA,zB,zC,zD,zE,zF,zG,zH,zI,zJ,zK,zL,zM,zN,zO,zP,zR,zS]at *);first|(refine qN ?_;omega)|(simp only [Hold];omega))
    |(subst hR;(repeat' (first|exact qA|exact qB|refine qC ?_ rfl ?_|refine qD ?_ ?_|exact qE (by rfl)|exact qF (by rfl)|exact Fit.refl _|exact qG _|(refine qE ?_;(try simp only [qV]at *);simp only [zQ,zA,zB,zC,zD,zE,zF,zG,zH,zI,zJ,zK,zL,zM,zN,zO,zP,zR,zS]at *;omega)));done)
    |(exfalso;(try simp only [Hold]at *);(try simp only [qV]at *);(try simp only [zQ,zA,zB,zC,zD,zE,zF,zG,zH,zI,zJ,zK,zL,zM,zN,zO,zP,zR,zS]at *);omega)
    |(simp only [Hold];decide)
    |skip
theorem law10 (tw tm:List Int)(tv:List (List Int))(rate:Int)(cs:List Csk)(lo wi b:Int)(hlo:0≤lo∧lo≤65535)(hwi:0≤wi∧wi≤65535)(hb:0≤b∧b≤255):FSpec Try.prog 10 [(stoS tw tm tv rate cs),(.int .u16 (.sym fun _=>lo)),(.int .u16 (.sym fun _=>wi)),(.int .u8 (.sym fun _=>b))] [] (fun r _=>r = .bool (.lit true)):=by
  rcases rdy_or tw tm tv rate cs with h|h
  · have hb2:=some_blend h.some h.ok.few hb
    have hal:=some_all h.some h.ok.few hb
    have h1:=tmod_bd2 (a:=lo) (b:=2001) hlo.1 (by decide)
    have h2:=tmod_bd2 (a:=wi) (b:=600) hwi.1 (by decide)
    have hab:0≤lo.tmod 2001∧lo.tmod 2001≤2000∧0≤wi.tmod 600∧wi.tmod 600≤599:=by omega
    cases hf:fewP cs.length (surB cs (fun j=>sLo tw tm tv (cs.getD j ck0)) (fun j=>sHi tw tm tv (cs.getD j ck0)) (lo.tmod 2001) (lo.tmod 2001+wi.tmod 600))with
    |none=>exact law10a tw tm tv rate cs lo wi b h hlo hwi hb _ rfl hb2.1 hb2.2 hab hf (few_none hf hal)
    | some F=>
      have hF:=few_blend h.ok.few hf
      cases hs:surB cs (fun j=>sLo tw tm tv (cs.getD j ck0)) (fun j=>sHi tw tm tv (cs.getD j ck0)) (lo.tmod 2001) (lo.tmod 2001+wi.tmod 600) (someP cs.length b)with
      |true=>exact law10b tw tm tv rate cs lo wi b h hlo hwi hb _ rfl hb2.1 hb2.2 hab F hf hF.1 hF.2.1 hF.2.2.2 hs (few_least h.ok.few hf hal hs)
      |false=>exact law10c tw tm tv rate cs lo wi b h hlo hwi hb _ rfl hb2.1 hb2.2 hab F hf hF.1 hF.2.1 hF.2.2.2 hs
  · exact law10n tw tm tv rate cs lo wi b h
end Go.Proofs.Ytkdgpdlfakcgdaa
