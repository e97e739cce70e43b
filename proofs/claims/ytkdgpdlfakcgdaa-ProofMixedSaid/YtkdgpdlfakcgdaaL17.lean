/- ProofMixed: what the law computes. No condition. -/
import Derived.Test.YtkdgpdlfakcgdaaT7
set_option linter.unusedVariables false
set_option linter.unusedSimpArgs false
set_option linter.deprecated false
set_option linter.all false

namespace Go.Proofs.Ytkdgpdlfakcgdaa
open Go Go.Eng Go.Proofs
set_option maxRecDepth 10000
theorem law17n (tw tm:List Int)(tv:List (List Int))(rate:Int)(cs:List Csk)(b:Int)(hr:(thinS tw tm tv cs&&decide (faultS tw tm tv rate cs=0)&&decide (0<cs.length))=false):FSpec Try.prog 17 [(stoS tw tm tv rate cs),(.int .u8 (.sym fun _=>b))] [] (fun r _=>r=(.bool (.lit true))):=by
  have c41:=ready41n tw tm tv rate cs hr
  have c21:=awake21
  refine FSpec.is fun R hR=>qW (sc:=sc17) tyok mix Try.func17 rfl Try.call17 (by kernel_rfl) (by kernel_rfl) ?_
  generalize Try.prog=P at c41 c21⊢
  cbv
  repeat' (first
      |with_reducible refine hold ?_ ?_
      |with_reducible refine And.intro ?_ ?_
      | (with_reducible refine qS ?_ ?_ ?_
         try cbv)
      | (with_reducible refine qT ?_ ?_
         try cbv)
      |(with_reducible intro hcd;(try simp only [zA,zB,zC,zD,zE,zF,zG,zH,zI,zJ,zK,zL,zM,zN,zO,zP]at hcd);try cbv)
      | (refine qP ?_ (c41) ?hfit
         case hfit=>((repeat' (first|exact qB|refine qD ?_ ?_|exact qE (by rfl)|exact qF (by rfl)|exact Fit.refl _|exact qA|refine qC ?_ rfl ?_));done)
         try cbv)
      | (refine qP ?_ (c21) ?hfit
         case hfit=>((repeat' (first|exact qB|refine qD ?_ ?_|exact qE (by rfl)|exact qF (by rfl)|exact Fit.refl _|exact qA|refine qC ?_ rfl ?_));done)
         try cbv)
      |fail)
  all_goals first
    |trivial
    |((try simp only [qV]at *);(try simp only [zQ,zA,zB,zC,zD,zE,zF,zG,zH,zI,zJ,zK,zL,zM,zN,zO,zP,zR,zS]at *);first|(refine qN ?_;omega)|(simp only [Hold];omega))
    |(subst hR;(repeat' (first|exact qA|exact qB|refine qC ?_ rfl ?_|refine qD ?_ ?_|exact qE (by rfl)|exact qF (by rfl)|exact Fit.refl _|exact qG _|(refine qE ?_;(try simp only [qV]at *);simp only [zQ,zA,zB,zC,zD,zE,zF,zG,zH,zI,zJ,zK,zL,zM,zN,zO,zP,zR,zS]at *;omega)));done)
    |(simp only [Hold];decide)
    |skip
theorem stox_fit (tw tm:List Int)(tv:List (List Int))(rate:Int)(cs:List Csk)(ds:List Csk)(hds:ds=cs.map fixC)(i:Nat)(hi:i=cs.length):Fit (.agg [(.sl 1 (.sym fun _=>zi (tw).length) (fun ix=>[.int .i64 (.sym fun _=>(tw).getD ix.den.toNat 0)])),(.sl 1 (.sym fun _=>zi (tm).length) (fun ix=>[.int .i64 (.sym fun _=>(tm).getD ix.den.toNat 0)])),(.sl 1 (.sym fun _=>zi (tv).length) (fun ix=>[(.sl 1 (.sym fun _=>zi ((tv).getD ix.den.toNat []).length) (fun jx=>[.int .i64 (.sym fun _=>((tv).getD ix.den.toNat []).getD jx.den.toNat 0)]))])),(.int .i64 (.sym fun _=>rate)),(.sl 5 (.sym fun _=>zi cs.length) (fun ix=>[(.int .i64 (.sym fun _=>(cs.getD ix.den.toNat ck0).g)),(.int .i64 (.sym fun _=>(cs.getD ix.den.toNat ck0).wl)),(.int .i64 (.sym fun _=>if ix.den.toNat<i then(cs.getD ix.den.toNat ck0).wl else(cs.getD ix.den.toNat ck0).wh)),(.int .i64 (.sym fun _=>(cs.getD ix.den.toNat ck0).ml)),(.int .i64 (.sym fun _=>if ix.den.toNat<i then(cs.getD ix.den.toNat ck0).ml else(cs.getD ix.den.toNat ck0).mh))]))]) (.agg [(.sl 1 (.sym fun _=>zi (tw).length) (fun ix=>[.int .i64 (.sym fun _=>(tw).getD ix.den.toNat 0)])),(.sl 1 (.sym fun _=>zi (tm).length) (fun ix=>[.int .i64 (.sym fun _=>(tm).getD ix.den.toNat 0)])),(.sl 1 (.sym fun _=>zi (tv).length) (fun ix=>[(.sl 1 (.sym fun _=>zi ((tv).getD ix.den.toNat []).length) (fun jx=>[.int .i64 (.sym fun _=>((tv).getD ix.den.toNat []).getD jx.den.toNat 0)]))])),(.int .i64 (.sym fun _=>rate)),(.sl 5 (.sym fun _=>zi (ds).length) (fun ix=>[(.int .i64 (.sym fun _=>((ds).getD ix.den.toNat ck0).g)),(.int .i64 (.sym fun _=>((ds).getD ix.den.toNat ck0).wl)),(.int .i64 (.sym fun _=>((ds).getD ix.den.toNat ck0).wh)),(.int .i64 (.sym fun _=>((ds).getD ix.den.toNat ck0).ml)),(.int .i64 (.sym fun _=>((ds).getD ix.den.toNat ck0).mh))]))]):=by
  subst hds
  refine qC (Fit.refl _) rfl (qC (Fit.refl _) rfl (qC (Fit.refl _) rfl (qC (Fit.refl _) rfl (qC (fit_sl (by simp) fun ix h0 h1=> ?_) rfl qA))))
  have hlt:ix.den.toNat<i:=by simp only [den_sym,zi_den]at h1;omega
  rw [fix_get]
  simp only [if_pos hlt]
  exact Fit.refl _
theorem stox_pre (tw tm:List Int)(tv:List (List Int))(rate:Int)(cs:List Csk)(ds:List Csk)(hds:ds=cs.map fixC)(i:Nat)(hi:i=cs.length) {f:Nat} {l:List SV} {post:SV→List Blk→Prop}(h:FSpec Try.prog f ((.agg [(.sl 1 (.sym fun _=>zi (tw).length) (fun ix=>[.int .i64 (.sym fun _=>(tw).getD ix.den.toNat 0)])),(.sl 1 (.sym fun _=>zi (tm).length) (fun ix=>[.int .i64 (.sym fun _=>(tm).getD ix.den.toNat 0)])),(.sl 1 (.sym fun _=>zi (tv).length) (fun ix=>[(.sl 1 (.sym fun _=>zi ((tv).getD ix.den.toNat []).length) (fun jx=>[.int .i64 (.sym fun _=>((tv).getD ix.den.toNat []).getD jx.den.toNat 0)]))])),(.int .i64 (.sym fun _=>rate)),(.sl 5 (.sym fun _=>zi (ds).length) (fun ix=>[(.int .i64 (.sym fun _=>((ds).getD ix.den.toNat ck0).g)),(.int .i64 (.sym fun _=>((ds).getD ix.den.toNat ck0).wl)),(.int .i64 (.sym fun _=>((ds).getD ix.den.toNat ck0).wh)),(.int .i64 (.sym fun _=>((ds).getD ix.den.toNat ck0).ml)),(.int .i64 (.sym fun _=>((ds).getD ix.den.toNat ck0).mh))]))])::l) [] post)(hl:Fit (.tup l) (.tup l)):FSpec Try.prog f ((.agg [(.sl 1 (.sym fun _=>zi (tw).length) (fun ix=>[.int .i64 (.sym fun _=>(tw).getD ix.den.toNat 0)])),(.sl 1 (.sym fun _=>zi (tm).length) (fun ix=>[.int .i64 (.sym fun _=>(tm).getD ix.den.toNat 0)])),(.sl 1 (.sym fun _=>zi (tv).length) (fun ix=>[(.sl 1 (.sym fun _=>zi ((tv).getD ix.den.toNat []).length) (fun jx=>[.int .i64 (.sym fun _=>((tv).getD ix.den.toNat []).getD jx.den.toNat 0)]))])),(.int .i64 (.sym fun _=>rate)),(.sl 5 (.sym fun _=>zi cs.length) (fun ix=>[(.int .i64 (.sym fun _=>(cs.getD ix.den.toNat ck0).g)),(.int .i64 (.sym fun _=>(cs.getD ix.den.toNat ck0).wl)),(.int .i64 (.sym fun _=>if ix.den.toNat<i then(cs.getD ix.den.toNat ck0).wl else(cs.getD ix.den.toNat ck0).wh)),(.int .i64 (.sym fun _=>(cs.getD ix.den.toNat ck0).ml)),(.int .i64 (.sym fun _=>if ix.den.toNat<i then(cs.getD ix.den.toNat ck0).ml else(cs.getD ix.den.toNat ck0).mh))]))])::l) [] post:=
  h.pre (qD (stox_fit tw tm tv rate cs ds hds i hi) hl)
set_option maxHeartbeats 1000000 in
theorem law17y (tw tm:List Int)(tv:List (List Int))(rate:Int)(cs:List Csk)(b:Int)(hrd:Rdy tw tm tv rate cs)(hb:0≤b∧b≤255)(ds:List Csk)(hds:ds=cs.map fixC)(hSd:SOk tw tm tv rate ds)(l:List Int)(hl:someP ds.length b=l)(hbl:blendB ds.length l=true)(hll:l.length≤1000):FSpec Try.prog 17 [(stoS tw tm tv rate cs),(.int .u8 (.sym fun _=>b))] [] (fun r _=>r=(.bool (.lit true))):=by
  have c41:=ready41y tw tm tv rate cs hrd
  have c21:=awake21
  have c43x:=fun (i:Nat) (hi:i=cs.length)=>stox_pre tw tm tv rate cs ds hds i hi (hl▸some43 tw tm tv rate ds b ⟨by rw [hds];simpa using hrd.some,by rw [hds];simpa using hrd.ok.few⟩ hb) (Fit.refl _)
  have c23x:=fun (i:Nat) (hi:i=cs.length)=>stox_pre tw tm tv rate cs ds hds i hi (store23 tw tm tv rate ds (thinS_iff.1 hrd.thin).1 (by rw [hds];simpa using (thinS_iff.1 hrd.thin).2)) (Fit.refl _)
  have c51:=strengths51z tw tm tv rate ds hSd
  have c28:=list28 l hll
  have c27:=blend27z tw tm tv rate ds l 0 hSd hll hbl (by decide)
  refine FSpec.is fun R hR=>qW (sc:=sc17) tyok mix Try.func17 rfl Try.call17 (by kernel_rfl) (by kernel_rfl) ?_
  generalize Try.prog=P at c41 c21 c43x c23x c51 c28 c27⊢
  cbv
  have hS:=hrd.ok
  have hfew:=hS.few
  have hlen:ds.length=cs.length:=(by rw [hds];simp)
  have hin:=blend_in hbl hll
  have h0:=(blend_iff.1 hbl).1
  have hone:∀j,j<ds.length→sLo tw tm tv (ds.getD j ck0)=sHi tw tm tv (ds.getD j ck0):=fun j hj=>by
    subst hds;exact fix_one hS hj
  have hsb:∀j,j<ds.length→0≤sLo tw tm tv (ds.getD j ck0)∧sLo tw tm tv (ds.getD j ck0)≤2000:=fun j hj=>by
    have:=s_bd hSd.t (hSd.box j hj);omega
  have hmx:=mixed hSd.gal hin h0 (t:=(fun j=>sLo tw tm tv (ds.getD j ck0))) hsb
  have heq:strP ds l 0 (fun j=>sLo tw tm tv (ds.getD j ck0))=strP ds l 0 (fun j=>sHi tw tm tv (ds.getD j ck0)):=str_congr hin hone
  repeat' (first
      |with_reducible refine hold ?_ ?_
      |with_reducible refine And.intro ?_ ?_
      | (with_reducible refine qS ?_ ?_ ?_
         try cbv)
      | (with_reducible refine qT ?_ ?_
         try cbv)
      |(with_reducible intro hcd;(try simp only [zA,zB,zC,zD,zE,zF,zG,zH,zI,zJ,zK,zL,zM,zN,zO,zP]at hcd);try cbv)
      | (refine qP ?_ (c41) ?hfit
         case hfit=>((repeat' (first|exact qB|refine qD ?_ ?_|exact qE (by rfl)|exact qF (by rfl)|exact Fit.refl _|exact qA|refine qC ?_ rfl ?_));done)
         try cbv)
      | (refine qP ?_ (c21) ?hfit
         case hfit=>((repeat' (first|exact qB|refine qD ?_ ?_|exact qE (by rfl)|exact qF (by rfl)|exact Fit.refl _|exact qA|refine qC ?_ rfl ?_));done)
         try cbv)
      |fail)
  all_goals first
    |trivial
    |((try simp only [qV]at *);(try simp only [zQ,zA,zB,zC,zD,zE,zF,zG,zH,zI,zJ,zK,zL,zM,zN,zO,zP,zR,zS]at *);first|(refine qN ?_;omega)|(simp only [Hold];omega))
    |(subst hR;(repeat' (first|exact qA|exact qB|refine qC ?_ rfl ?_|refine qD ?_ ?_|exact qE (by rfl)|exact qF (by rfl)|exact Fit.refl _|exact qG _|(refine qE ?_;(try simp only [qV]at *);simp only [zQ,zA,zB,zC,zD,zE,zF,zG,zH,zI,zJ,zK,zL,zM,zN,zO,zP,zR,zS]at *;omega)));done)
    |(exfalso;(try simp only [Hold]at *);(try simp only [qV]at *);(try simp only [zQ,zA,zB,zC,zD,zE,zF,zG,zH,zI,zJ,zK,zL,zM,zN,zO,zP,zR,zS]at *);omega)
    |(simp only [Hold];decide)
    |skip
  refine⟨none,[],{i:Nat // i≤cs.length},fun x=>⟨[(1,(.int .u8 (.sym fun _=>b))),(2,.own 0 0),(5,.own 6 0),(6,(.int .i64 (.sym fun _=>zi x.1)))],[(6,.cells [(.sl 1 (.sym fun _=>zi (tw).length) (fun ix=>[.int .i64 (.sym fun _=>(tw).getD ix.den.toNat 0)])),(.sl 1 (.sym fun _=>zi (tm).length) (fun ix=>[.int .i64 (.sym fun _=>(tm).getD ix.den.toNat 0)])),(.sl 1 (.sym fun _=>zi (tv).length) (fun ix=>[(.sl 1 (.sym fun _=>zi ((tv).getD ix.den.toNat []).length) (fun jx=>[.int .i64 (.sym fun _=>((tv).getD ix.den.toNat []).getD jx.den.toNat 0)]))])),(.int .i64 (.sym fun _=>rate)),.row 11] 28),(11,.row 81 5 (.sym fun _=>zi cs.length) (fun ix=>[(.int .i64 (.sym fun _=>(cs.getD ix.den.toNat ck0).g)),(.int .i64 (.sym fun _=>(cs.getD ix.den.toNat ck0).wl)),(.int .i64 (.sym fun _=>if ix.den.toNat<x.1 then(cs.getD ix.den.toNat ck0).wl else(cs.getD ix.den.toNat ck0).wh)),(.int .i64 (.sym fun _=>(cs.getD ix.den.toNat ck0).ml)),(.int .i64 (.sym fun _=>if ix.den.toNat<x.1 then(cs.getD ix.den.toNat ck0).ml else(cs.getD ix.den.toNat ck0).mh))])),(0,.cells [(.sl 1 (.sym fun _=>zi (tw).length) (fun ix=>[.int .i64 (.sym fun _=>(tw).getD ix.den.toNat 0)])),(.sl 1 (.sym fun _=>zi (tm).length) (fun ix=>[.int .i64 (.sym fun _=>(tm).getD ix.den.toNat 0)])),(.sl 1 (.sym fun _=>zi (tv).length) (fun ix=>[(.sl 1 (.sym fun _=>zi ((tv).getD ix.den.toNat []).length) (fun jx=>[.int .i64 (.sym fun _=>((tv).getD ix.den.toNat []).getD jx.den.toNat 0)]))])),(.int .i64 (.sym fun _=>rate)),(.sl 5 (.sym fun _=>zi (cs).length) (fun ix=>[(.int .i64 (.sym fun _=>((cs).getD ix.den.toNat ck0).g)),(.int .i64 (.sym fun _=>((cs).getD ix.den.toNat ck0).wl)),(.int .i64 (.sym fun _=>((cs).getD ix.den.toNat ck0).wh)),(.int .i64 (.sym fun _=>((cs).getD ix.den.toNat ck0).ml)),(.int .i64 (.sym fun _=>((cs).getD ix.den.toNat ck0).mh))]))] 28)],30⟩,fun x=>cs.length-x.1,?_,?_⟩
  · refine⟨⟨0,by omega⟩,?_⟩
    cbv
    repeat' (first
      |with_reducible refine hold ?_ ?_
      |with_reducible refine And.intro ?_ ?_)
    all_goals first
      |trivial
      |exact qM (qE (by rfl))
      |exact qM (qF (by rfl))
      |exact qM (Fit.refl _)
      |exact qL (qK _)
      |(refine qM (qE ?_);(try simp only [qV]at *);simp only [zQ,zA,zB,zC,zD,zE,zF,zG,zH,zI,zJ,zK,zL,zM,zN,zO,zP,zR,zS]at *;omega)
      |(refine qL (ble_row ?_ ?_);(first|rfl|((try simp only [qV]at *);(try simp only [zQ,zA,zB,zC,zD,zE,zF,zG,zH,zI,zJ,zK,zL,zM,zN,zO,zP,zR,zS]at *);omega));intro ix h0 h1;(repeat' (first|exact qA|exact Fit.refl _|refine qC (qE ?_) rfl ?_))<;>((try simp only [qV]at *);(try simp only [zQ,zA,zB,zC,zD,zE,zF,zG,zH,zI,zJ,zK,zL,zM,zN,zO,zP,zR,zS]at *);(try simp only []);first|rfl|(split<;>first|rfl|omega)))
      |skip
  · rintro ⟨i,hi⟩
    cbv
    repeat' (first
        |with_reducible refine hold ?_ ?_
        |with_reducible refine And.intro ?_ ?_
        | (with_reducible refine qS ?_ ?_ ?_
           try cbv)
        | (with_reducible refine qT ?_ ?_
           try cbv)
        |(with_reducible intro hcd;(try simp only [zA,zB,zC,zD,zE,zF,zG,zH,zI,zJ,zK,zL,zM,zN,zO,zP]at hcd);try cbv)
        | (refine qP ?_ (c41) ?hfit
           case hfit=>((repeat' (first|exact qB|refine qD ?_ ?_|exact qE (by rfl)|exact qF (by rfl)|exact Fit.refl _|exact qA|refine qC ?_ rfl ?_));done)
           try cbv)
        | (refine qP ?_ (c21) ?hfit
           case hfit=>((repeat' (first|exact qB|refine qD ?_ ?_|exact qE (by rfl)|exact qF (by rfl)|exact Fit.refl _|exact qA|refine qC ?_ rfl ?_));done)
           try cbv)
        | (refine qP ?_ (c51) ?hfit
           case hfit=>((repeat' (first|exact qB|refine qD ?_ ?_|exact qE (by rfl)|exact qF (by rfl)|exact Fit.refl _|exact qA|refine qC ?_ rfl ?_));done)
           try cbv)
        | (refine qP ?_ (c28) ?hfit
           case hfit=>((repeat' (first|exact qB|refine qD ?_ ?_|exact qE (by rfl)|exact qF (by rfl)|exact Fit.refl _|exact qA|refine qC ?_ rfl ?_));done)
           try cbv)
        | (refine qP ?_ (c27) ?hfit
           case hfit=>((repeat' (first|exact qB|refine qD ?_ ?_|exact qE (by rfl)|exact qF (by rfl)|exact Fit.refl _|exact qA|refine qC ?_ rfl ?_));done)
           try cbv)
        | (refine qP ?_ (c23x i (show Hold _ from ?_)) ?hfit
           case hfit=>((repeat' (first|exact qB|refine qD ?_ ?_|exact qE (by rfl)|exact qF (by rfl)|exact Fit.refl _|exact qA|refine qC ?_ rfl ?_));done)
           try cbv)
        | (refine⟨fun ix=>[(.int .i64 (.sym fun _=>(cs.getD ix.den.toNat ck0).g)),(.int .i64 (.sym fun _=>(cs.getD ix.den.toNat ck0).wl)),(.int .i64 (.sym fun _=>if ix.den.toNat<i+1 then(cs.getD ix.den.toNat ck0).wl else(cs.getD ix.den.toNat ck0).wh)),(.int .i64 (.sym fun _=>(cs.getD ix.den.toNat ck0).ml)),(.int .i64 (.sym fun _=>if ix.den.toNat<i then(cs.getD ix.den.toNat ck0).ml else(cs.getD ix.den.toNat ck0).mh))],?_⟩
           cbv
           refine hold (hold_rowupd (o2:=2) (x:=_) (by(try simp only [qV]at *);(try simp only [zQ,zA,zB,zC,zD,zE,zF,zG,zH,zI,zJ,zK,zL,zM,zN,zO,zP,zR,zS]at *);omega) (by intro jx h0 h1 h2;(repeat' (first|exact qA|exact Fit.refl _|refine qC (qE ?_) rfl ?_))<;>(first|rfl|((have q:(jx.den.toNat<i+1↔jx.den.toNat<i):=by((try simp only [qV]at *);(try simp only [zQ,zA,zB,zC,zD,zE,zF,zG,zH,zI,zJ,zK,zL,zM,zN,zO,zP,zR,zS]at *);omega));simp only [den_sym,q];done))) (by intro jx h0 h1 h2;refine⟨_,rfl,?_⟩;(repeat' (first|exact qA|exact Fit.refl _|refine qC (qE ?_) rfl ?_))<;>(first|rfl|((have q:jx.den.toNat=i:=by((try simp only [qV]at *);(try simp only [zQ,zA,zB,zC,zD,zE,zF,zG,zH,zI,zJ,zK,zL,zM,zN,zO,zP,zR,zS]at *);omega));simp only [den_sym,q,if_pos (Nat.lt_succ_self i),if_neg (Nat.lt_irrefl i),zi_den,Int.toNat_natCast];done)))) ?_
           try cbv)
        | (refine⟨fun ix=>[(.int .i64 (.sym fun _=>(cs.getD ix.den.toNat ck0).g)),(.int .i64 (.sym fun _=>(cs.getD ix.den.toNat ck0).wl)),(.int .i64 (.sym fun _=>if ix.den.toNat<i+1 then(cs.getD ix.den.toNat ck0).wl else(cs.getD ix.den.toNat ck0).wh)),(.int .i64 (.sym fun _=>(cs.getD ix.den.toNat ck0).ml)),(.int .i64 (.sym fun _=>if ix.den.toNat<i+1 then(cs.getD ix.den.toNat ck0).ml else(cs.getD ix.den.toNat ck0).mh))],?_⟩
           cbv
           refine hold (hold_rowupd (o2:=4) (x:=_) (by(try simp only [qV]at *);(try simp only [zQ,zA,zB,zC,zD,zE,zF,zG,zH,zI,zJ,zK,zL,zM,zN,zO,zP,zR,zS]at *);omega) (by intro jx h0 h1 h2;(repeat' (first|exact qA|exact Fit.refl _|refine qC (qE ?_) rfl ?_))<;>(first|rfl|((have q:(jx.den.toNat<i+1↔jx.den.toNat<i):=by((try simp only [qV]at *);(try simp only [zQ,zA,zB,zC,zD,zE,zF,zG,zH,zI,zJ,zK,zL,zM,zN,zO,zP,zR,zS]at *);omega));simp only [den_sym,q];done))) (by intro jx h0 h1 h2;refine⟨_,rfl,?_⟩;(repeat' (first|exact qA|exact Fit.refl _|refine qC (qE ?_) rfl ?_))<;>(first|rfl|((have q:jx.den.toNat=i:=by((try simp only [qV]at *);(try simp only [zQ,zA,zB,zC,zD,zE,zF,zG,zH,zI,zJ,zK,zL,zM,zN,zO,zP,zR,zS]at *);omega));simp only [den_sym,q,if_pos (Nat.lt_succ_self i),if_neg (Nat.lt_irrefl i),zi_den,Int.toNat_natCast];done)))) ?_
           try cbv)
        | (refine⟨some [],(11:Nat),?_⟩
           cbv
           refine setl_k ?_ (c43x i (show Hold _ from ?_)) (by cbv;(repeat' (first|exact qB|refine qD ?_ ?_|exact qE (by rfl)|exact qF (by rfl)|exact Fit.refl _|exact qA|refine qC ?_ rfl ?_)))
           try cbv)
        |fail)
    all_goals first
      |trivial
      |((try simp only [qV]at *);(try simp only [zQ,zA,zB,zC,zD,zE,zF,zG,zH,zI,zJ,zK,zL,zM,zN,zO,zP,zR,zS]at *);first|(refine qN ?_;omega)|(simp only [Hold];omega))
      |(subst hR;(repeat' (first|exact qA|exact qB|refine qC ?_ rfl ?_|refine qD ?_ ?_|exact qE (by rfl)|exact qF (by rfl)|exact Fit.refl _|exact qG _|(refine qE ?_;(try simp only [qV]at *);simp only [zQ,zA,zB,zC,zD,zE,zF,zG,zH,zI,zJ,zK,zL,zM,zN,zO,zP,zR,zS]at *;omega)));done)
      |(exfalso;(try simp only [Hold]at *);(try simp only [qV]at *);(try simp only [zQ,zA,zB,zC,zD,zE,zF,zG,zH,zI,zJ,zK,zL,zM,zN,zO,zP,zR,zS]at *);omega)
      |((try simp only [qV]at *);(try simp only [zQ,zA,zB,zC,zD,zE,zF,zG,zH,zI,zJ,zK,zL,zM,zN,zO,zP,zR,zS]at *);simp only [Hold];omega)
      |((try simp only [zQ,zA,zB,zC,zD,zE,zF,zG,zH,zI,zJ,zK,zL,zM,zN,zO,zP,zR,zS]at *);refine⟨⟨i+1,by((try simp only [qV]at *);(try simp only [zQ,zA,zB,zC,zD,zE,zF,zG,zH,zI,zJ,zK,zL,zM,zN,zO,zP,zR,zS]at *);omega)⟩,by simp only [];omega,?_⟩;cbv;(repeat' (first|with_reducible refine hold ?_ ?_|with_reducible refine And.intro ?_ ?_));(all_goals first|trivial|exact qM (qE (by rfl))|exact qM (qF (by rfl))|exact qM (Fit.refl _)|exact qL (qK _)|(refine qM (qE ?_);(try simp only [qV]at *);simp only [zQ,zA,zB,zC,zD,zE,zF,zG,zH,zI,zJ,zK,zL,zM,zN,zO,zP,zR,zS]at *;omega)|(refine qL (ble_row ?_ ?_);(first|rfl|((try simp only [qV]at *);(try simp only [zQ,zA,zB,zC,zD,zE,zF,zG,zH,zI,zJ,zK,zL,zM,zN,zO,zP,zR,zS]at *);omega));intro ix h0 h1;(repeat' (first|exact qA|exact Fit.refl _|refine qC (qE ?_) rfl ?_))<;>((try simp only [qV]at *);(try simp only [zQ,zA,zB,zC,zD,zE,zF,zG,zH,zI,zJ,zK,zL,zM,zN,zO,zP,zR,zS]at *);(try simp only []);first|rfl|(split<;>first|rfl|omega)))|skip))
      |(simp only [Hold];decide)
      |skip
    refine⟨none,[],{q:Nat // q≤l.length},fun x=>⟨[(5,.own 6 0),(8,(.sl 1 (.sym fun _=>zi (l).length) (fun ix=>[.int .i64 (.sym fun _=>(l).getD ix.den.toNat 0)]))),(9,(.sl 2 (.sym fun _=>zi ds.length) (fun ix=>[(.int .i64 (.sym fun _=>sLo tw tm tv (ds.getD ix.den.toNat ck0))),(.int .i64 (.sym fun _=>sHi tw tm tv (ds.getD ix.den.toNat ck0)))]))),(11,.own 55 0),(13,(.int .i64 (.sym fun _=>galP ds l x.1))),(14,(.int .i64 (.sym fun _=>ownP ds l (fun j=>sLo tw tm tv (ds.getD j ck0)) x.1))),(15,(.int .i64 (.sym fun _=>mnP l (fun j=>sLo tw tm tv (ds.getD j ck0)) x.1))),(16,(.int .i64 (.sym fun _=>mxP l (fun j=>sLo tw tm tv (ds.getD j ck0)) x.1))),(17,(.int .i64 (.sym fun _=>zi x.1)))],[(6,.cells [(.sl 1 (.sym fun _=>zi (tw).length) (fun ix=>[.int .i64 (.sym fun _=>(tw).getD ix.den.toNat 0)])),(.sl 1 (.sym fun _=>zi (tm).length) (fun ix=>[.int .i64 (.sym fun _=>(tm).getD ix.den.toNat 0)])),(.sl 1 (.sym fun _=>zi (tv).length) (fun ix=>[(.sl 1 (.sym fun _=>zi ((tv).getD ix.den.toNat []).length) (fun jx=>[.int .i64 (.sym fun _=>((tv).getD ix.den.toNat []).getD jx.den.toNat 0)]))])),(.int .i64 (.sym fun _=>rate)),(.sl 5 (.sym fun _=>zi (ds).length) (fun ix=>[(.int .i64 (.sym fun _=>((ds).getD ix.den.toNat ck0).g)),(.int .i64 (.sym fun _=>((ds).getD ix.den.toNat ck0).wl)),(.int .i64 (.sym fun _=>((ds).getD ix.den.toNat ck0).wh)),(.int .i64 (.sym fun _=>((ds).getD ix.den.toNat ck0).ml)),(.int .i64 (.sym fun _=>((ds).getD ix.den.toNat ck0).mh))]))] 28),(55,.cells [(.int .i64 (.sym fun _=>strP ds l 0 (fun j=>sLo tw tm tv (ds.getD j ck0)))),(.int .i64 (.sym fun _=>strP ds l 0 (fun j=>sHi tw tm tv (ds.getD j ck0))))] 35)],90⟩,fun x=>l.length-x.1,?_,?_⟩
    · refine⟨⟨0,by omega⟩,?_⟩
      cbv
      repeat' (first
        |with_reducible refine hold ?_ ?_
        |with_reducible refine And.intro ?_ ?_)
      all_goals first
        |trivial
        |exact qM (qE (by rfl))
        |exact qM (qF (by rfl))
        |exact qM (Fit.refl _)
        |exact qL (qK _)
        |(refine qM (qE ?_);(try simp only [qV]at *);simp only [zQ,zA,zB,zC,zD,zE,zF,zG,zH,zI,zJ,zK,zL,zM,zN,zO,zP,zR,zS]at *;omega)
        |(refine qL (qJ ?_);first|exact stox_fit tw tm tv rate cs ds hds i (by((try simp only [qV]at *);(try simp only [zQ,zA,zB,zC,zD,zE,zF,zG,zH,zI,zJ,zK,zL,zM,zN,zO,zP,zR,zS]at *);omega))|((repeat' (first|exact qA|exact qB|refine qC ?_ rfl ?_|refine qD ?_ ?_|exact qE (by rfl)|exact qF (by rfl)|exact Fit.refl _|exact qG _|(refine qE ?_;(try simp only [qV]at *);simp only [zQ,zA,zB,zC,zD,zE,zF,zG,zH,zI,zJ,zK,zL,zM,zN,zO,zP,zR,zS]at *;omega)));done))
        |skip
    · rintro ⟨q,hq⟩
      cbv
      repeat' (first
          |with_reducible refine hold ?_ ?_
          |with_reducible refine And.intro ?_ ?_
          | (with_reducible refine qS ?_ ?_ ?_
             try cbv)
          | (with_reducible refine qT ?_ ?_
             try cbv)
          |(with_reducible intro hcd;(try simp only [zA,zB,zC,zD,zE,zF,zG,zH,zI,zJ,zK,zL,zM,zN,zO,zP]at hcd);try cbv)
          | (refine qP ?_ (c41) ?hfit
             case hfit=>((repeat' (first|exact qB|refine qD ?_ ?_|exact qE (by rfl)|exact qF (by rfl)|exact Fit.refl _|exact qA|refine qC ?_ rfl ?_));done)
             try cbv)
          | (refine qP ?_ (c21) ?hfit
             case hfit=>((repeat' (first|exact qB|refine qD ?_ ?_|exact qE (by rfl)|exact qF (by rfl)|exact Fit.refl _|exact qA|refine qC ?_ rfl ?_));done)
             try cbv)
          | (refine qP ?_ (c51) ?hfit
             case hfit=>((repeat' (first|exact qB|refine qD ?_ ?_|exact qE (by rfl)|exact qF (by rfl)|exact Fit.refl _|exact qA|refine qC ?_ rfl ?_));done)
             try cbv)
          | (refine qP ?_ (c28) ?hfit
             case hfit=>((repeat' (first|exact qB|refine qD ?_ ?_|exact qE (by rfl)|exact qF (by rfl)|exact Fit.refl _|exact qA|refine qC ?_ rfl ?_));done)
             try cbv)
          | (refine qP ?_ (c27) ?hfit
             case hfit=>((repeat' (first|exact qB|refine qD ?_ ?_|exact qE (by rfl)|exact qF (by rfl)|exact Fit.refl _|exact qA|refine qC ?_ rfl ?_));done)
             try cbv)
          | (refine qP ?_ (c23x i (show Hold _ from ?_)) ?hfit
             case hfit=>((repeat' (first|exact qB|refine qD ?_ ?_|exact qE (by rfl)|exact qF (by rfl)|exact Fit.refl _|exact qA|refine qC ?_ rfl ?_));done)
             try cbv)
          |fail)
      all_goals first
        |trivial
        |((try simp only [qV]at *);(try simp only [zQ,zA,zB,zC,zD,zE,zF,zG,zH,zI,zJ,zK,zL,zM,zN,zO,zP,zR,zS]at *);first|(refine qN ?_;omega)|(simp only [Hold];omega))
        |(subst hR;(repeat' (first|exact qA|exact qB|refine qC ?_ rfl ?_|refine qD ?_ ?_|exact qE (by rfl)|exact qF (by rfl)|exact Fit.refl _|exact qG _|(refine qE ?_;(try simp only [qV]at *);simp only [zQ,zA,zB,zC,zD,zE,zF,zG,zH,zI,zJ,zK,zL,zM,zN,zO,zP,zR,zS]at *;omega)));done)
        |((have hlt:q<l.length:=by((try simp only [qV]at *);(try simp only [zQ,zA,zB,zC,zD,zE,zF,zG,zH,zI,zJ,zK,zL,zM,zN,zO,zP,zR,zS]at *);omega));(have ha:=hin.at' q hlt);(have hgq:=hSd.gal (l.getD q 0).toNat (by omega));(have htq:=hsb (l.getD q 0).toNat (by omega));(have hgb:=gal_bd hSd.gal hin q (Nat.le_of_lt hlt));(have hob:=own_sp hSd.gal hin hsb q (Nat.le_of_lt hlt));(have hmb:=mn_bd hin hsb q (Nat.le_of_lt hlt));(have hmm:=mul_le2 (by omega:(0:Int)≤(ds.getD (l.getD q 0).toNat ck0).g) hgq.2 htq.1 htq.2);(have htb:=tenths_bd (by omega) hgq.2 htq.1 htq.2);(have hoq:=hone (l.getD q 0).toNat (by omega));(try simp only [tenthsP]at *);(try simp only [qV]at *);(try simp only [zQ,zA,zB,zC,zD,zE,zF,zG,zH,zI,zJ,zK,zL,zM,zN,zO,zP,zR,zS]at *);first|(refine qN ?_;omega)|(simp only [Hold];omega))
        |(exfalso;(have hlt:q<l.length:=by((try simp only [qV]at *);(try simp only [zQ,zA,zB,zC,zD,zE,zF,zG,zH,zI,zJ,zK,zL,zM,zN,zO,zP,zR,zS]at *);omega));(have ha:=hin.at' q hlt);(have hgq:=hSd.gal (l.getD q 0).toNat (by omega));(have htq:=hsb (l.getD q 0).toNat (by omega));(have hgb:=gal_bd hSd.gal hin q (Nat.le_of_lt hlt));(have hob:=own_sp hSd.gal hin hsb q (Nat.le_of_lt hlt));(have hmb:=mn_bd hin hsb q (Nat.le_of_lt hlt));(have hmm:=mul_le2 (by omega:(0:Int)≤(ds.getD (l.getD q 0).toNat ck0).g) hgq.2 htq.1 htq.2);(have htb:=tenths_bd (by omega) hgq.2 htq.1 htq.2);(have hoq:=hone (l.getD q 0).toNat (by omega));(try simp only [qV]at *);(try simp only [zQ,zA,zB,zC,zD,zE,zF,zG,zH,zI,zJ,zK,zL,zM,zN,zO,zP,zR,zS]at *);omega)
        |((have hqe:q=l.length:=by((try simp only [qV]at *);(try simp only [zQ,zA,zB,zC,zD,zE,zF,zG,zH,zI,zJ,zK,zL,zM,zN,zO,zP,zR,zS]at *);omega));subst hqe;(have hgb:=gal_bd hSd.gal hin l.length (Nat.le_refl _));(have hob:=own_sp hSd.gal hin hsb l.length (Nat.le_refl _));(have hmb:=mn_bd hin hsb l.length (Nat.le_refl _));(have hc1:=tdiv_bd0 (show(0:Int)≤galP ds l l.length+99 by omega) (show(0:Int)<100 by decide));(have hc2:=tdiv_bd0 hmx.2.2.1.1 (show(0:Int)<100 by decide));(try simp only [qV]at *);(try simp only [zQ,zA,zB,zC,zD,zE,zF,zG,zH,zI,zJ,zK,zL,zM,zN,zO,zP,zR,zS]at *);first|(refine qN ?_;omega)|(simp only [Hold];omega))
        |(exfalso;(have hqe:q=l.length:=by((try simp only [qV]at *);(try simp only [zQ,zA,zB,zC,zD,zE,zF,zG,zH,zI,zJ,zK,zL,zM,zN,zO,zP,zR,zS]at *);omega));subst hqe;(have hgb:=gal_bd hSd.gal hin l.length (Nat.le_refl _));(have hob:=own_sp hSd.gal hin hsb l.length (Nat.le_refl _));(have hmb:=mn_bd hin hsb l.length (Nat.le_refl _));(have hc1:=tdiv_bd0 (show(0:Int)≤galP ds l l.length+99 by omega) (show(0:Int)<100 by decide));(have hc2:=tdiv_bd0 hmx.2.2.1.1 (show(0:Int)<100 by decide));(try simp only [qV]at *);(try simp only [zQ,zA,zB,zC,zD,zE,zF,zG,zH,zI,zJ,zK,zL,zM,zN,zO,zP,zR,zS]at *);omega)
        |((try simp only [zQ,zA,zB,zC,zD,zE,zF,zG,zH,zI,zJ,zK,zL,zM,zN,zO,zP,zR,zS]at *);refine⟨⟨q+1,by((try simp only [qV]at *);(try simp only [zQ,zA,zB,zC,zD,zE,zF,zG,zH,zI,zJ,zK,zL,zM,zN,zO,zP,zR,zS]at *);omega)⟩,by simp only [];omega,?_⟩;cbv;(repeat' (first|with_reducible refine hold ?_ ?_|with_reducible refine And.intro ?_ ?_));(all_goals first|trivial|exact qM (qE (by rfl))|exact qM (qF (by rfl))|exact qM (Fit.refl _)|exact qL (qK _)|(refine qM (qE ?_);(try simp only [qV]at *);simp only [zQ,zA,zB,zC,zD,zE,zF,zG,zH,zI,zJ,zK,zL,zM,zN,zO,zP,zR,zS]at *;omega)|skip))
        |(simp only [Hold];decide)
        |skip
theorem law17 (tw tm:List Int)(tv:List (List Int))(rate:Int)(cs:List Csk)(b:Int)(hb:0≤b∧b≤255):FSpec Try.prog 17 [(stoS tw tm tv rate cs),(.int .u8 (.sym fun _=>b))] [] (fun r _=>r = .bool (.lit true)):=by
  rcases rdy_or tw tm tv rate cs with h|h
  · have hSd:=fix_ok h.ok
    have hb2:=some_blend (n:=(cs.map fixC).length) (b:=b) (by simpa using h.some) hSd.few hb
    exact law17y tw tm tv rate cs b h hb _ rfl hSd _ rfl hb2.1 hb2.2
  · exact law17n tw tm tv rate cs b h
end Go.Proofs.Ytkdgpdlfakcgdaa
