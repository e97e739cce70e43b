/- ProofTruth: what the law computes. No condition. -/
import Derived.Test.YtkdgpdlfakcgdaaT7
set_option linter.unusedVariables false
set_option linter.unusedSimpArgs false
set_option linter.deprecated false
set_option linter.all false

namespace Go.Proofs.Ytkdgpdlfakcgdaa
open Go Go.Eng Go.Proofs
set_option maxRecDepth 10000
theorem duty_next {tw tm:List Int} {tv:List (List Int)} {rate:Int} {cs:List Csk} {t:List Int}(hS:SOk tw tm tv rate cs)(hbd:∀j,0≤t.getD j 0∧t.getD j 0≤2000) {i:Nat}(hlt:i<cs.length):
    0≤dutyP rate cs (fun j=>t.getD j 0) i+(tenthsP (cs.getD i ck0).g (t.getD i 0)*rate+9).tdiv 10∧dutyP rate cs (fun j=>t.getD j 0) i+(tenthsP (cs.getD i ck0).g (t.getD i 0)*rate+9).tdiv 10≤39601*((i:Int)+1):=by
  have h:=duty_bd hS (l:=fun j=>t.getD j 0) hbd (n:=i+1) hlt
  rw [←duty_at]at h
  exact⟨h.1,by have:=h.2;omega⟩
theorem law8n (tw tm:List Int)(tv:List (List Int))(rate:Int)(cs:List Csk)(ws:List Int)(b w:Int)(hr:(thinS tw tm tv cs&&decide (faultS tw tm tv rate cs=0)&&decide (0<cs.length))=false):FSpec Try.prog 8 [(stoS tw tm tv rate cs),(.sl 1 (.sym fun _=>zi ws.length) (fun ix=>[.int .u16 (.sym fun _=>ws.getD ix.den.toNat 0)])),(.int .u8 (.sym fun _=>b)),(.int .u8 (.sym fun _=>w))] [] (fun r _=>r=(.bool (.lit true))):=by
  have c41:=ready41n tw tm tv rate cs hr
  have c21:=awake21
  refine FSpec.is fun R hR=>qW (sc:=sc8) tyok mix Try.func8 rfl Try.call8 (by kernel_rfl) (by kernel_rfl) ?_
  generalize Try.prog=P at c41 c21⊢
  cbv
  repeat' (first
      |with_reducible refine hold ?_ ?_
      |with_reducible refine And.intro ?_ ?_
      | (with_reducible refine qS ?_ ?_ ?_
         try cbv)
      | (with_reducible refine qT ?_ ?_
         try cbv)
      |(with_reducible intro hcd;(try simp only [zA,zB,zC,zD,zE,zF,zG,zH,zI,zJ,zK,zL,zM,zN,zO,zP]at hcd);try cbv)
      | (refine qP ?_ (c41) ?hfit
         case hfit=>((repeat' (first|exact qB|refine qD ?_ ?_|exact qE (by rfl)|exact qF (by rfl)|exact Fit.refl _|exact qA|refine qC ?_ rfl ?_));done)
         try cbv)
      | (refine qP ?_ (c21) ?hfit
         case hfit=>((repeat' (first|exact qB|refine qD ?_ ?_|exact qE (by rfl)|exact qF (by rfl)|exact Fit.refl _|exact qA|refine qC ?_ rfl ?_));done)
         try cbv)
      |fail)
  all_goals first
    |trivial
    |((try simp only [qV]at *);(try simp only [zQ,zA,zB,zC,zD,zE,zF,zG,zH,zI,zJ,zK,zL,zM,zN,zO,zP,zR,zS]at *);first|(refine qN ?_;omega)|(simp only [Hold];omega))
    |(subst hR;(repeat' (first|exact qA|exact qB|refine qC ?_ rfl ?_|refine qD ?_ ?_|exact qE (by rfl)|exact qF (by rfl)|exact Fit.refl _|exact qG _|(refine qE ?_;(try simp only [qV]at *);simp only [zQ,zA,zB,zC,zD,zE,zF,zG,zH,zI,zJ,zK,zL,zM,zN,zO,zP,zR,zS]at *;omega)));done)
    |(simp only [Hold];decide)
    |skip
set_option maxHeartbeats 2000000 in
theorem law8y (tw tm:List Int)(tv:List (List Int))(rate:Int)(cs:List Csk)(ws:List Int)(b w:Int)(hrd:Rdy tw tm tv rate cs)(hws:∀i,0≤ws.getD i 0∧ws.getD i 0≤65535)(hwl:ws.length≤9223372036854775807)(hb:0≤b∧b≤255)(hw:0≤w∧w≤255)(t l:List Int)(ht:pickL tw tm tv cs ws=t)(hl:someP cs.length b=l)(hT:truthB tw tm tv cs t=true)(hbl:blendB cs.length l=true)(hll:l.length≤1000):FSpec Try.prog 8 [(stoS tw tm tv rate cs),(.sl 1 (.sym fun _=>zi ws.length) (fun ix=>[.int .u16 (.sym fun _=>ws.getD ix.den.toNat 0)])),(.int .u8 (.sym fun _=>b)),(.int .u8 (.sym fun _=>w))] [] (fun r _=>r=(.bool (.lit true))):=by
  have c41:=ready41y tw tm tv rate cs hrd
  have c21:=awake21
  have c42:=ht▸picked42l tw tm tv rate cs ws hrd.ok hws hwl
  have c43:=hl▸some43 tw tm tv rate cs b ⟨hrd.some,hrd.ok.few⟩ hb
  have c23:=store23 tw tm tv rate cs (thinS_iff.1 hrd.thin).1 (thinS_iff.1 hrd.thin).2
  have c28:=list28 t (by have:=(truth_iff.1 hT).1;have:=hrd.ok.few;omega)
  have c28l:=list28 l hll
  have c44:=duty44z tw tm tv rate cs t hrd.ok hT
  have c22:=duties22z tw tm tv rate cs hrd.ok
  have c27:=blend27z tw tm tv rate cs l (w.tmod 100) hrd.ok hll hbl (by have:=tmod_bd2 (a:=w) (b:=100) (by omega) (by decide);omega)
  have c45:=tenths45z tw tm tv rate cs t hrd.ok hT
  have c46:=strength46 tw tm tv rate cs l (w.tmod 100) (fun j=>t.getD j 0) t.length hrd.ok.gal (blend_in hbl hll) (blend_iff.1 hbl).1 (by have:=tmod_bd2 (a:=w) (b:=100) (by omega) (by decide);omega) (truth_bd hrd.ok hT) (by have:=(truth_iff.1 hT).1;omega)
  refine FSpec.is fun R hR=>qW (sc:=sc8) tyok mix Try.func8 rfl Try.call8 (by kernel_rfl) (by kernel_rfl) ?_
  generalize Try.prog=P at c41 c21 c42 c43 c23 c28 c28l c44 c22 c27 c45 c46⊢
  cbv
  have hS:=hrd.ok
  have hfew:=hS.few
  have hgal:=hS.gal
  have htl:=truth_iff.1 hT
  have hbd:=truth_bd hS hT
  have hd:=truth_duty hS hT
  have hs:=truth_str (w:=w.tmod 100) hS hT hbl hll (by have:=tmod_bd2 (a:=w) (b:=100) (by omega) (by decide);omega)
  have hwm:=tmod_bd2 (a:=w) (b:=100) (by omega) (by decide)
  repeat' (first
      |with_reducible refine hold ?_ ?_
      |with_reducible refine And.intro ?_ ?_
      | (with_reducible refine qS ?_ ?_ ?_
         try cbv)
      | (with_reducible refine qT ?_ ?_
         try cbv)
      |(with_reducible intro hcd;(try simp only [zA,zB,zC,zD,zE,zF,zG,zH,zI,zJ,zK,zL,zM,zN,zO,zP]at hcd);try cbv)
      | (refine qP ?_ (c41) ?hfit
         case hfit=>((repeat' (first|exact qB|refine qD ?_ ?_|exact qE (by rfl)|exact qF (by rfl)|exact Fit.refl _|exact qA|refine qC ?_ rfl ?_));done)
         try cbv)
      | (refine qP ?_ (c21) ?hfit
         case hfit=>((repeat' (first|exact qB|refine qD ?_ ?_|exact qE (by rfl)|exact qF (by rfl)|exact Fit.refl _|exact qA|refine qC ?_ rfl ?_));done)
         try cbv)
      | (refine qP ?_ (c42) ?hfit
         case hfit=>((repeat' (first|exact qB|refine qD ?_ ?_|exact qE (by rfl)|exact qF (by rfl)|exact Fit.refl _|exact qA|refine qC ?_ rfl ?_));done)
         try cbv)
      | (refine qP ?_ (c43) ?hfit
         case hfit=>((repeat' (first|exact qB|refine qD ?_ ?_|exact qE (by rfl)|exact qF (by rfl)|exact Fit.refl _|exact qA|refine qC ?_ rfl ?_));done)
         try cbv)
      | (refine qP ?_ (c23) ?hfit
         case hfit=>((repeat' (first|exact qB|refine qD ?_ ?_|exact qE (by rfl)|exact qF (by rfl)|exact Fit.refl _|exact qA|refine qC ?_ rfl ?_));done)
         try cbv)
      | (refine qP ?_ (c28) ?hfit
         case hfit=>((repeat' (first|exact qB|refine qD ?_ ?_|exact qE (by rfl)|exact qF (by rfl)|exact Fit.refl _|exact qA|refine qC ?_ rfl ?_));done)
         try cbv)
      | (refine qP ?_ (c28l) ?hfit
         case hfit=>((repeat' (first|exact qB|refine qD ?_ ?_|exact qE (by rfl)|exact qF (by rfl)|exact Fit.refl _|exact qA|refine qC ?_ rfl ?_));done)
         try cbv)
      | (refine qP ?_ (c44) ?hfit
         case hfit=>((repeat' (first|exact qB|refine qD ?_ ?_|exact qE (by rfl)|exact qF (by rfl)|exact Fit.refl _|exact qA|refine qC ?_ rfl ?_));done)
         try cbv)
      | (refine qP ?_ (c22) ?hfit
         case hfit=>((repeat' (first|exact qB|refine qD ?_ ?_|exact qE (by rfl)|exact qF (by rfl)|exact Fit.refl _|exact qA|refine qC ?_ rfl ?_));done)
         try cbv)
      | (refine qP ?_ (c27) ?hfit
         case hfit=>((repeat' (first|exact qB|refine qD ?_ ?_|exact qE (by rfl)|exact qF (by rfl)|exact Fit.refl _|exact qA|refine qC ?_ rfl ?_));done)
         try cbv)
      | (refine qP ?_ (c45) ?hfit
         case hfit=>((repeat' (first|exact qB|refine qD ?_ ?_|exact qE (by rfl)|exact qF (by rfl)|exact Fit.refl _|exact qA|refine qC ?_ rfl ?_));done)
         try cbv)
      | (refine qP ?_ (c46) ?hfit
         case hfit=>((repeat' (first|exact qB|refine qD ?_ ?_|exact qE (by rfl)|exact qF (by rfl)|exact Fit.refl _|exact qA|refine qC ?_ rfl ?_));done)
         try cbv)
      |fail)
  all_goals first
    |trivial
    |((try simp only [qV]at *);(try simp only [zQ,zA,zB,zC,zD,zE,zF,zG,zH,zI,zJ,zK,zL,zM,zN,zO,zP,zR,zS]at *);first|(refine qN ?_;omega)|(simp only [Hold];omega))
    |(subst hR;(repeat' (first|exact qA|exact qB|refine qC ?_ rfl ?_|refine qD ?_ ?_|exact qE (by rfl)|exact qF (by rfl)|exact Fit.refl _|exact qG _|(refine qE ?_;(try simp only [qV]at *);simp only [zQ,zA,zB,zC,zD,zE,zF,zG,zH,zI,zJ,zK,zL,zM,zN,zO,zP,zR,zS]at *;omega)));done)
    |(exfalso;(try simp only [Hold]at *);(try simp only [qV]at *);(try simp only [zQ,zA,zB,zC,zD,zE,zF,zG,zH,zI,zJ,zK,zL,zM,zN,zO,zP,zR,zS]at *);omega)
    |(simp only [Hold];decide)
    |skip
  refine⟨none,[],{i:Nat // i≤cs.length},fun x=>⟨[(4,.own 0 0),(9,(.sl 1 (.sym fun _=>zi (t).length) (fun ix=>[.int .i64 (.sym fun _=>(t).getD ix.den.toNat 0)]))),(12,(.int .i64 (.sym fun _=>dutyP rate cs (fun j=>t.getD j 0) cs.length))),(18,(.sl 1 (.sym fun _=>zi cs.length) (fun ix=>[(.int .i64 (.sym fun _=>tenthsP (cs.getD ix.den.toNat ck0).g (t.getD ix.den.toNat 0)))]))),(21,(.int .i64 (.sym fun _=>dutyP rate cs (fun j=>t.getD j 0) x.1))),(22,(.int .i64 (.sym fun _=>zi x.1)))],[(0,.cells [(.sl 1 (.sym fun _=>zi (tw).length) (fun ix=>[.int .i64 (.sym fun _=>(tw).getD ix.den.toNat 0)])),(.sl 1 (.sym fun _=>zi (tm).length) (fun ix=>[.int .i64 (.sym fun _=>(tm).getD ix.den.toNat 0)])),(.sl 1 (.sym fun _=>zi (tv).length) (fun ix=>[(.sl 1 (.sym fun _=>zi ((tv).getD ix.den.toNat []).length) (fun jx=>[.int .i64 (.sym fun _=>((tv).getD ix.den.toNat []).getD jx.den.toNat 0)]))])),(.int .i64 (.sym fun _=>rate)),(.sl 5 (.sym fun _=>zi (cs).length) (fun ix=>[(.int .i64 (.sym fun _=>((cs).getD ix.den.toNat ck0).g)),(.int .i64 (.sym fun _=>((cs).getD ix.den.toNat ck0).wl)),(.int .i64 (.sym fun _=>((cs).getD ix.den.toNat ck0).wh)),(.int .i64 (.sym fun _=>((cs).getD ix.den.toNat ck0).ml)),(.int .i64 (.sym fun _=>((cs).getD ix.den.toNat ck0).mh))]))] 28)],130⟩,fun x=>cs.length-x.1,?_,?_⟩
  · refine⟨⟨0,by omega⟩,?_⟩
    cbv
    repeat' (first
      |with_reducible refine hold ?_ ?_
      |with_reducible refine And.intro ?_ ?_)
    all_goals first
      |trivial
      |exact qM (qE (by rfl))
      |exact qM (qF (by rfl))
      |exact qM (Fit.refl _)
      |exact qL (qK _)
      |(refine qM (qE ?_);(try simp only [qV]at *);simp only [zQ,zA,zB,zC,zD,zE,zF,zG,zH,zI,zJ,zK,zL,zM,zN,zO,zP,zR,zS]at *;omega)
      |skip
  · rintro ⟨i,hi⟩
    cbv
    have hdi:=duty_bd hS hbd (n:=i) hi
    repeat' (first
        |with_reducible refine hold ?_ ?_
        |with_reducible refine And.intro ?_ ?_
        | (with_reducible refine qS ?_ ?_ ?_
           try cbv)
        | (with_reducible refine qT ?_ ?_
           try cbv)
        |(with_reducible intro hcd;(try simp only [zA,zB,zC,zD,zE,zF,zG,zH,zI,zJ,zK,zL,zM,zN,zO,zP]at hcd);try cbv)
        | (refine qP ?_ (c21) ?hfit
           case hfit=>((repeat' (first|exact qB|refine qD ?_ ?_|exact qE (by rfl)|exact qF (by rfl)|exact Fit.refl _|exact qA|refine qC ?_ rfl ?_));done)
           try cbv)
        |fail)
    all_goals first
      |trivial
      |((try simp only [qV]at *);(try simp only [zQ,zA,zB,zC,zD,zE,zF,zG,zH,zI,zJ,zK,zL,zM,zN,zO,zP,zR,zS]at *);first|(refine qN ?_;omega)|(simp only [Hold];omega))
      |((have hlt:i<cs.length:=by((try simp only [qV]at *);(try simp only [zQ,zA,zB,zC,zD,zE,zF,zG,zH,zI,zJ,zK,zL,zM,zN,zO,zP,zR,zS]at *);omega));(have hgi:=hgal i hlt);(have hti:=hbd i);(have hmi:=mul_le2 (by omega:(0:Int)≤(cs.getD i ck0).g) hgi.2 hti.1 hti.2);(have hsp:=tenths_spec hmi.1);(have htb:=tenths_bd (by omega) hgi.2 hti.1 hti.2);(have hrb:=hS.rate);(have hdn:=duty_next hS hbd hlt);(have hmr:=mul_le2 htb.1 htb.2 hrb.1 hrb.2);(try simp only [qV]at *);(try simp only [zQ,zA,zB,zC,zD,zE,zF,zG,zH,zI,zJ,zK,zL,zM,zN,zO,zP,zR,zS]at *);first|(refine qN ?_;omega)|(simp only [Hold];omega))
      |(exfalso;(have hlt:i<cs.length:=by((try simp only [qV]at *);(try simp only [zQ,zA,zB,zC,zD,zE,zF,zG,zH,zI,zJ,zK,zL,zM,zN,zO,zP,zR,zS]at *);omega));(have hgi:=hgal i hlt);(have hti:=hbd i);(have hmi:=mul_le2 (by omega:(0:Int)≤(cs.getD i ck0).g) hgi.2 hti.1 hti.2);(have hsp:=tenths_spec hmi.1);(have htb:=tenths_bd (by omega) hgi.2 hti.1 hti.2);(have hrb:=hS.rate);(have hdn:=duty_next hS hbd hlt);(have hmr:=mul_le2 htb.1 htb.2 hrb.1 hrb.2);(try simp only [qV]at *);(try simp only [zQ,zA,zB,zC,zD,zE,zF,zG,zH,zI,zJ,zK,zL,zM,zN,zO,zP,zR,zS]at *);omega)
      |(subst hR;(have hie:i=cs.length:=by((try simp only [qV]at *);(try simp only [zQ,zA,zB,zC,zD,zE,zF,zG,zH,zI,zJ,zK,zL,zM,zN,zO,zP,zR,zS]at *);omega));(try rw [hie]at *);first|exact Fit.refl _|exact absurd rfl (by assumption))
      |(exfalso;(have hie:i=cs.length:=by((try simp only [qV]at *);(try simp only [zQ,zA,zB,zC,zD,zE,zF,zG,zH,zI,zJ,zK,zL,zM,zN,zO,zP,zR,zS]at *);omega));(try rw [hie]at hcd);exact hcd rfl)
      |((try simp only [zQ,zA,zB,zC,zD,zE,zF,zG,zH,zI,zJ,zK,zL,zM,zN,zO,zP,zR,zS]at *);refine⟨⟨i+1,by((try simp only [qV]at *);(try simp only [zQ,zA,zB,zC,zD,zE,zF,zG,zH,zI,zJ,zK,zL,zM,zN,zO,zP,zR,zS]at *);omega)⟩,by simp only [];omega,?_⟩;cbv;(repeat' (first|with_reducible refine hold ?_ ?_|with_reducible refine And.intro ?_ ?_));(all_goals first|trivial|exact qM (qE (by rfl))|exact qM (qF (by rfl))|exact qM (Fit.refl _)|exact qL (qK _)|(refine qM (qE ?_);(try simp only [qV]at *);simp only [zQ,zA,zB,zC,zD,zE,zF,zG,zH,zI,zJ,zK,zL,zM,zN,zO,zP,zR,zS]at *;omega)|(refine qM (qE ?_);exact duty_at)|skip))
      |(simp only [Hold];decide)
      |skip
theorem law8 (tw tm:List Int)(tv:List (List Int))(rate:Int)(cs:List Csk)(ws:List Int)(b w:Int)(hws:∀i,0≤ws.getD i 0∧ws.getD i 0≤65535)(hwl:ws.length≤9223372036854775807)(hb:0≤b∧b≤255)(hw:0≤w∧w≤255):FSpec Try.prog 8 [(stoS tw tm tv rate cs),(.sl 1 (.sym fun _=>zi ws.length) (fun ix=>[.int .u16 (.sym fun _=>ws.getD ix.den.toNat 0)])),(.int .u8 (.sym fun _=>b)),(.int .u8 (.sym fun _=>w))] [] (fun r _=>r = .bool (.lit true)):=by
  rcases rdy_or tw tm tv rate cs with h|h
  · have hb2:=some_blend h.some h.ok.few hb
    exact law8y tw tm tv rate cs ws b w h hws hwl hb hw _ _ rfl rfl (pick_truth h.ok fun i=>(hws i).1) hb2.1 hb2.2
  · exact law8n tw tm tv rate cs ws b w h
end Go.Proofs.Ytkdgpdlfakcgdaa
