/- ProofDeclares: what the law computes. No condition. -/
import Derived.Test.YtkdgpdlfakcgdaaT7
set_option linter.unusedVariables false
set_option linter.unusedSimpArgs false
set_option linter.deprecated false
set_option linter.all false

namespace Go.Proofs.Ytkdgpdlfakcgdaa
open Go Go.Eng Go.Proofs
set_option maxRecDepth 10000
theorem list28n (l:List Int)(hl:l.length≤1000):FSpecN Try.prog 28 [(.sl 1 (.sym fun _=>zi (l).length) (fun ix=>[.int .i64 (.sym fun _=>(l).getD ix.den.toNat 0)]))] [] (fun r bs=>r = .row 0∧bs=[.row 3 1 (.sym fun _=>zi l.length) (fun ix=>[.int .i64 (.sym fun _=>l.getD ix.den.toNat 0)])]):=by
  refine FSpecN.is rfl rfl fun R B hR hB=>fspecN_vc (sc:=sc28) tyok mix Try.func28 rfl Try.call28 (by kernel_rfl) (by kernel_rfl) ?_
  generalize Try.prog=P
  cbv
  repeat' (first
      |with_reducible refine hold ?_ ?_
      |with_reducible refine And.intro ?_ ?_
      | (with_reducible refine qS ?_ ?_ ?_
         try cbv)
      | (with_reducible refine qT ?_ ?_
         try cbv)
      |(with_reducible intro hcd;(try simp only [zA,zB,zC,zD,zE,zF,zG,zH,zI,zJ,zK,zL,zM,zN,zO,zP]at hcd);try cbv)
      | (refine⟨intsE l,?_⟩
         cbv
         refine hold (hold_rowapp (fun ix jx h0 h1 h2=>(by exfalso;(try simp only [qV]at *);(try simp only [zQ,zA,zB,zC,zD,zE,zF,zG,zH,zI,zJ,zK,zL,zM,zN,zO,zP,zR,zS]at *);omega)) (fun ix jx h0 h1 h2=>qC (qE (by simp only [den_sym];rw [h2];simp)) rfl qA) (by(try simp only [qV]at *);(try simp only [zQ,zA,zB,zC,zD,zE,zF,zG,zH,zI,zJ,zK,zL,zM,zN,zO,zP,zR,zS]at *);omega)) (Or.inl ?_)
         try cbv)
      |(with_reducible intro hcd;(try simp only [zA,zB,zC,zD,zE,zF,zG,zH,zI,zJ,zK,zL,zM,zN,zO,zP]at hcd);try cbv)
      |fail)
  all_goals first
    |trivial
    |((try simp only [qV]at *);(try simp only [zQ,zA,zB,zC,zD,zE,zF,zG,zH,zI,zJ,zK,zL,zM,zN,zO,zP,zR,zS]at *);first|(refine qN ?_;omega)|(simp only [Hold];omega))
    |(refine⟨[⟨.tmp 2,3,1⟩],(4:Nat),?_⟩;cbv;subst hR;subst hB;refine⟨?_,?_⟩;(first|exact Fit.refl _|((repeat' (first|exact qA|exact qB|refine qC ?_ rfl ?_|refine qD ?_ ?_|exact qE (by rfl)|exact qF (by rfl)|exact Fit.refl _|exact qG _|(refine qE ?_;(try simp only [qV]at *);simp only [zQ,zA,zB,zC,zD,zE,zF,zG,zH,zI,zJ,zK,zL,zM,zN,zO,zP,zR,zS]at *;omega)));done));(repeat' (first|exact qH|refine qI ?_ ?_));(all_goals first|exact qK _|(refine qJ ?_;(repeat' (first|exact qA|exact qB|refine qC ?_ rfl ?_|refine qD ?_ ?_|exact qE (by rfl)|exact qF (by rfl)|exact Fit.refl _|exact qG _|(refine qE ?_;(try simp only [qV]at *);simp only [zQ,zA,zB,zC,zD,zE,zF,zG,zH,zI,zJ,zK,zL,zM,zN,zO,zP,zR,zS]at *;omega)));done)|(refine ble_row ?_ ?_;(first|rfl|((try simp only [qV]at *);(try simp only [zQ,zA,zB,zC,zD,zE,zF,zG,zH,zI,zJ,zK,zL,zM,zN,zO,zP,zR,zS]at *);omega));intro ix h0 h1;first|exact Fit.refl _|(exfalso;(try simp only [qV]at *);(try simp only [zQ,zA,zB,zC,zD,zE,zF,zG,zH,zI,zJ,zK,zL,zM,zN,zO,zP,zR,zS]at *);omega))))
    |(refine⟨[],(4:Nat),?_⟩;cbv;subst hR;subst hB;refine⟨?_,?_⟩;(first|exact Fit.refl _|((repeat' (first|exact qA|exact qB|refine qC ?_ rfl ?_|refine qD ?_ ?_|exact qE (by rfl)|exact qF (by rfl)|exact Fit.refl _|exact qG _|(refine qE ?_;(try simp only [qV]at *);simp only [zQ,zA,zB,zC,zD,zE,zF,zG,zH,zI,zJ,zK,zL,zM,zN,zO,zP,zR,zS]at *;omega)));done));(repeat' (first|exact qH|refine qI ?_ ?_));(all_goals first|exact qK _|(refine qJ ?_;(repeat' (first|exact qA|exact qB|refine qC ?_ rfl ?_|refine qD ?_ ?_|exact qE (by rfl)|exact qF (by rfl)|exact Fit.refl _|exact qG _|(refine qE ?_;(try simp only [qV]at *);simp only [zQ,zA,zB,zC,zD,zE,zF,zG,zH,zI,zJ,zK,zL,zM,zN,zO,zP,zR,zS]at *;omega)));done)|(refine ble_row ?_ ?_;(first|rfl|((try simp only [qV]at *);(try simp only [zQ,zA,zB,zC,zD,zE,zF,zG,zH,zI,zJ,zK,zL,zM,zN,zO,zP,zR,zS]at *);omega));intro ix h0 h1;first|exact Fit.refl _|(exfalso;(try simp only [qV]at *);(try simp only [zQ,zA,zB,zC,zD,zE,zF,zG,zH,zI,zJ,zK,zL,zM,zN,zO,zP,zR,zS]at *);omega))))
    |(refine⟨[],(5:Nat),?_⟩;cbv;subst hR;subst hB;refine⟨?_,?_⟩;(first|exact Fit.refl _|((repeat' (first|exact qA|exact qB|refine qC ?_ rfl ?_|refine qD ?_ ?_|exact qE (by rfl)|exact qF (by rfl)|exact Fit.refl _|exact qG _|(refine qE ?_;(try simp only [qV]at *);simp only [zQ,zA,zB,zC,zD,zE,zF,zG,zH,zI,zJ,zK,zL,zM,zN,zO,zP,zR,zS]at *;omega)));done));(repeat' (first|exact qH|refine qI ?_ ?_));(all_goals first|exact qK _|(refine qJ ?_;(repeat' (first|exact qA|exact qB|refine qC ?_ rfl ?_|refine qD ?_ ?_|exact qE (by rfl)|exact qF (by rfl)|exact Fit.refl _|exact qG _|(refine qE ?_;(try simp only [qV]at *);simp only [zQ,zA,zB,zC,zD,zE,zF,zG,zH,zI,zJ,zK,zL,zM,zN,zO,zP,zR,zS]at *;omega)));done)|(refine ble_row ?_ ?_;(first|rfl|((try simp only [qV]at *);(try simp only [zQ,zA,zB,zC,zD,zE,zF,zG,zH,zI,zJ,zK,zL,zM,zN,zO,zP,zR,zS]at *);omega));intro ix h0 h1;first|exact Fit.refl _|(exfalso;(try simp only [qV]at *);(try simp only [zQ,zA,zB,zC,zD,zE,zF,zG,zH,zI,zJ,zK,zL,zM,zN,zO,zP,zR,zS]at *);omega))))
    |(refine⟨[],(6:Nat),?_⟩;cbv;subst hR;subst hB;refine⟨?_,?_⟩;(first|exact Fit.refl _|((repeat' (first|exact qA|exact qB|refine qC ?_ rfl ?_|refine qD ?_ ?_|exact qE (by rfl)|exact qF (by rfl)|exact Fit.refl _|exact qG _|(refine qE ?_;(try simp only [qV]at *);simp only [zQ,zA,zB,zC,zD,zE,zF,zG,zH,zI,zJ,zK,zL,zM,zN,zO,zP,zR,zS]at *;omega)));done));(repeat' (first|exact qH|refine qI ?_ ?_));(all_goals first|exact qK _|(refine qJ ?_;(repeat' (first|exact qA|exact qB|refine qC ?_ rfl ?_|refine qD ?_ ?_|exact qE (by rfl)|exact qF (by rfl)|exact Fit.refl _|exact qG _|(refine qE ?_;(try simp only [qV]at *);simp only [zQ,zA,zB,zC,zD,zE,zF,zG,zH,zI,zJ,zK,zL,zM,zN,zO,zP,zR,zS]at *;omega)));done)|(refine ble_row ?_ ?_;(first|rfl|((try simp only [qV]at *);(try simp only [zQ,zA,zB,zC,zD,zE,zF,zG,zH,zI,zJ,zK,zL,zM,zN,zO,zP,zR,zS]at *);omega));intro ix h0 h1;first|exact Fit.refl _|(exfalso;(try simp only [qV]at *);(try simp only [zQ,zA,zB,zC,zD,zE,zF,zG,zH,zI,zJ,zK,zL,zM,zN,zO,zP,zR,zS]at *);omega))))
    |(refine⟨[],(3:Nat),?_⟩;cbv;subst hR;subst hB;refine⟨?_,?_⟩;(first|exact Fit.refl _|((repeat' (first|exact qA|exact qB|refine qC ?_ rfl ?_|refine qD ?_ ?_|exact qE (by rfl)|exact qF (by rfl)|exact Fit.refl _|exact qG _|(refine qE ?_;(try simp only [qV]at *);simp only [zQ,zA,zB,zC,zD,zE,zF,zG,zH,zI,zJ,zK,zL,zM,zN,zO,zP,zR,zS]at *;omega)));done));(repeat' (first|exact qH|refine qI ?_ ?_));(all_goals first|exact qK _|(refine qJ ?_;(repeat' (first|exact qA|exact qB|refine qC ?_ rfl ?_|refine qD ?_ ?_|exact qE (by rfl)|exact qF (by rfl)|exact Fit.refl _|exact qG _|(refine qE ?_;(try simp only [qV]at *);simp only [zQ,zA,zB,zC,zD,zE,zF,zG,zH,zI,zJ,zK,zL,zM,zN,zO,zP,zR,zS]at *;omega)));done)|(refine ble_row ?_ ?_;(first|rfl|((try simp only [qV]at *);(try simp only [zQ,zA,zB,zC,zD,zE,zF,zG,zH,zI,zJ,zK,zL,zM,zN,zO,zP,zR,zS]at *);omega));intro ix h0 h1;first|exact Fit.refl _|(exfalso;(try simp only [qV]at *);(try simp only [zQ,zA,zB,zC,zD,zE,zF,zG,zH,zI,zJ,zK,zL,zM,zN,zO,zP,zR,zS]at *);omega))))
    |(refine⟨[],(2:Nat),?_⟩;cbv;subst hR;subst hB;refine⟨?_,?_⟩;(first|exact Fit.refl _|((repeat' (first|exact qA|exact qB|refine qC ?_ rfl ?_|refine qD ?_ ?_|exact qE (by rfl)|exact qF (by rfl)|exact Fit.refl _|exact qG _|(refine qE ?_;(try simp only [qV]at *);simp only [zQ,zA,zB,zC,zD,zE,zF,zG,zH,zI,zJ,zK,zL,zM,zN,zO,zP,zR,zS]at *;omega)));done));(repeat' (first|exact qH|refine qI ?_ ?_));(all_goals first|exact qK _|(refine qJ ?_;(repeat' (first|exact qA|exact qB|refine qC ?_ rfl ?_|refine qD ?_ ?_|exact qE (by rfl)|exact qF (by rfl)|exact Fit.refl _|exact qG _|(refine qE ?_;(try simp only [qV]at *);simp only [zQ,zA,zB,zC,zD,zE,zF,zG,zH,zI,zJ,zK,zL,zM,zN,zO,zP,zR,zS]at *;omega)));done)|(refine ble_row ?_ ?_;(first|rfl|((try simp only [qV]at *);(try simp only [zQ,zA,zB,zC,zD,zE,zF,zG,zH,zI,zJ,zK,zL,zM,zN,zO,zP,zR,zS]at *);omega));intro ix h0 h1;first|exact Fit.refl _|(exfalso;(try simp only [qV]at *);(try simp only [zQ,zA,zB,zC,zD,zE,zF,zG,zH,zI,zJ,zK,zL,zM,zN,zO,zP,zR,zS]at *);omega))))
    |((try simp only [qV]at *);(try simp only [zQ,zA,zB,zC,zD,zE,zF,zG,zH,zI,zJ,zK,zL,zM,zN,zO,zP,zR,zS]at *);simp only [Hold];omega)
    |(simp only [Hold];decide)
    |skip
theorem tenths45e (tw tm:List Int)(tv:List (List Int))(rate:Int)(cs:List Csk)(t:List Int)(f:Nat→Int)(hS:SOk tw tm tv rate cs)(hl:t.length=cs.length)(hf:∀j,j<cs.length→sLo tw tm tv (cs.getD j ck0)≤f j∧f j≤sHi tw tm tv (cs.getD j ck0)):
    FSpec Try.prog 45 [(stoS tw tm tv rate cs),(.sl 1 (.sym fun _=>zi t.length) (fun ix=>[(.int .i64 (.sym fun _=>f ix.den.toNat))]))] [] (fun r _=>r=(.tup [(.sl 1 (.sym fun _=>zi cs.length) (fun ix=>[(.int .i64 (.sym fun _=>tenthsP (cs.getD ix.den.toNat ck0).g (f ix.den.toNat)))])),(.int .i64 (.lit 0))])):=by
  have hT:truthB tw tm tv cs ((List.range cs.length).map f)=true:=truth_iff.2 ⟨by simp,fun i hi=>by rw [map_getD hi];exact hf i hi⟩
  have h:=(tenths45z tw tm tv rate cs _ hS hT).post (post':=fun r _=>r=(.tup [(.sl 1 (.sym fun _=>zi cs.length) (fun ix=>[(.int .i64 (.sym fun _=>tenthsP (cs.getD ix.den.toNat ck0).g (f ix.den.toNat)))])),(.int .i64 (.lit 0))])) fun r bs e=>⟨_,by
    subst e
    refine qD (fit_sl rfl fun ix h0 h1=>qC (qE ?_) rfl qA) (qD (Fit.refl _) qB)
    simp only [den_sym,zi_den]at *
    rw [map_getD (by omega)],rfl⟩
  rw [hl]
  exact h.pre (qD (Fit.refl _) (qD (fit_fn (f:=f)) qB))
theorem false38D (tw tm:List Int)(tv:List (List Int))(rate:Int)(cs:List Csk)(D:List (Int×Int))(L:List Int)(hS:SOk tw tm tv rate cs)(hl:D.length≤1000)(hd:decB cs.length D=true)(hL:falL (canB cs (fun j=>sLo tw tm tv (cs.getD j ck0)) (fun j=>sHi tw tm tv (cs.getD j ck0)) cs.length) D D.length=L):FSpec Try.prog 38 [(stoS tw tm tv rate cs),(.sl 2 (.sym fun _=>zi D.length) (fun ix=>[(.int .i64 (.sym fun _=>(D.getD ix.den.toNat (0,0)).1)),(.int .i64 (.sym fun _=>(D.getD ix.den.toNat (0,0)).2))]))] [] (fun r _=>r=(.tup [(.sl 1 (.sym fun _=>zi (L).length) (fun ix=>[.int .i64 (.sym fun _=>(L).getD ix.den.toNat 0)])),(.int .i64 (.lit 0))])):=
  (false38 tw tm tv rate cs D hS hl hd).post fun r bs e=>⟨_,by subst e;subst hL;(repeat' (first|exact qA|exact qB|refine qC ?_ rfl ?_|refine qD ?_ ?_|exact qE (by rfl)|exact qF (by rfl)|exact Fit.refl _)),rfl⟩
theorem law11n (tw tm:List Int)(tv:List (List Int))(rate:Int)(cs:List Csk)(ws:List Int)(w y:Int)(hr:(thinS tw tm tv cs&&decide (faultS tw tm tv rate cs=0)&&decide (0<cs.length))=false):FSpec Try.prog 11 [(stoS tw tm tv rate cs),(.sl 1 (.sym fun _=>zi ws.length) (fun ix=>[.int .u16 (.sym fun _=>ws.getD ix.den.toNat 0)])),(.int .u8 (.sym fun _=>w)),(.int .u8 (.sym fun _=>y))] [] (fun r _=>r=(.bool (.lit true))):=by
  have c41:=ready41n tw tm tv rate cs hr
  have c21:=awake21
  refine FSpec.is fun R hR=>qW (sc:=sc11) tyok mix Try.func11 rfl Try.call11 (by kernel_rfl) (by kernel_rfl) ?_
  generalize Try.prog=P at c41 c21⊢
  cbv
  repeat' (first
      |with_reducible refine hold ?_ ?_
      |with_reducible refine And.intro ?_ ?_
      | (with_reducible refine qS ?_ ?_ ?_
         try cbv)
      | (with_reducible refine qT ?_ ?_
         try cbv)
      |(with_reducible intro hcd;(try simp only [zA,zB,zC,zD,zE,zF,zG,zH,zI,zJ,zK,zL,zM,zN,zO,zP]at hcd);try cbv)
      | (refine qP ?_ (c41) ?hfit
         case hfit=>((repeat' (first|exact qB|refine qD ?_ ?_|exact qE (by rfl)|exact qF (by rfl)|exact Fit.refl _|exact qA|refine qC ?_ rfl ?_));done)
         try cbv)
      | (refine qP ?_ (c21) ?hfit
         case hfit=>((repeat' (first|exact qB|refine qD ?_ ?_|exact qE (by rfl)|exact qF (by rfl)|exact Fit.refl _|exact qA|refine qC ?_ rfl ?_));done)
         try cbv)
      |fail)
  all_goals first
    |trivial
    |((try simp only [qV]at *);(try simp only [zQ,zA,zB,zC,zD,zE,zF,zG,zH,zI,zJ,zK,zL,zM,zN,zO,zP,zR,zS]at *);first|(refine qN ?_;omega)|(simp only [Hold];omega))
    |(subst hR;(repeat' (first|exact qA|exact qB|refine qC ?_ rfl ?_|refine qD ?_ ?_|exact qE (by rfl)|exact qF (by rfl)|exact Fit.refl _|exact qG _|(refine qE ?_;(try simp only [qV]at *);simp only [zQ,zA,zB,zC,zD,zE,zF,zG,zH,zI,zJ,zK,zL,zM,zN,zO,zP,zR,zS]at *;omega)));done)
    |(simp only [Hold];decide)
    |skip
theorem ends_in {tw tm:List Int} {tv:List (List Int)} {rate:Int} {cs:List Csk} {t:List Int} {k:Nat} {v:Nat→Int}(hS:SOk tw tm tv rate cs)(hT:truthB tw tm tv cs t=true)(hv:∀j,v j=sLo tw tm tv (cs.getD j ck0)∨v j=sHi tw tm tv (cs.getD j ck0)):
    ∀j,j<cs.length→sLo tw tm tv (cs.getD j ck0)≤(if j=k then v k else t.getD j 0)∧(if j=k then v k else t.getD j 0)≤sHi tw tm tv (cs.getD j ck0):=fun j hj=>by
  have h1:=(truth_iff.1 hT).2 j hj
  have h2:=s_bd hS.t (hS.box j hj)
  by_cases e:j=k
  · subst e
    rw [if_pos rfl]
    rcases hv j with q|q<;>omega
  · rw [if_neg e];exact h1
theorem declared_at {tw tm:List Int} {tv:List (List Int)} {rate:Int} {cs:List Csk} {t:List Int} {k:Nat} {y:Int}(hS:SOk tw tm tv rate cs)(hT:truthB tw tm tv cs t=true)(hk:k<cs.length)(hy:0≤y):
    falL (canB cs (fun j=>sLo tw tm tv (cs.getD j ck0)) (fun j=>sHi tw tm tv (cs.getD j ck0)) cs.length) (decD cs t k (tenthsP (cs.getD k ck0).g (sLo tw tm tv (cs.getD k ck0))) (tenthsP (cs.getD k ck0).g (sHi tw tm tv (cs.getD k ck0))) y) (decD cs t k (tenthsP (cs.getD k ck0).g (sLo tw tm tv (cs.getD k ck0))) (tenthsP (cs.getD k ck0).g (sHi tw tm tv (cs.getD k ck0))) y).length=[((cs.length+2:Nat):Int),((cs.length+3:Nat):Int)]:=
  declared (fun i hi=>by have:=hS.gal i hi;omega) (fun i hi=>by have:=s_bd hS.t (hS.box i hi);omega) (truth_iff.1 hT).2 hk rfl rfl hy
set_option maxHeartbeats 1000000 in
theorem law11y (tw tm:List Int)(tv:List (List Int))(rate:Int)(cs:List Csk)(ws:List Int)(w y:Int)(hrd:Rdy tw tm tv rate cs)(hws:∀i,0≤ws.getD i 0∧ws.getD i 0≤65535)(hwl:ws.length≤9223372036854775807)(hw:0≤w∧w≤255)(hy:0≤y∧y≤255)(t:List Int)(ht:pickL tw tm tv cs ws=t)(hT:truthB tw tm tv cs t=true)(hkn:(w.tmod (zi cs.length)).toNat<cs.length):FSpec Try.prog 11 [(stoS tw tm tv rate cs),(.sl 1 (.sym fun _=>zi ws.length) (fun ix=>[.int .u16 (.sym fun _=>ws.getD ix.den.toNat 0)])),(.int .u8 (.sym fun _=>w)),(.int .u8 (.sym fun _=>y))] [] (fun r _=>r=(.bool (.lit true))):=by
  have c41:=ready41y tw tm tv rate cs hrd
  have c21:=awake21
  have c42:=ht▸picked42l tw tm tv rate cs ws hrd.ok hws hwl
  have c49:=strengths49 tw tm tv rate cs hrd.ok
  have c23:=store23 tw tm tv rate cs (thinS_iff.1 hrd.thin).1 (thinS_iff.1 hrd.thin).2
  have c28:=list28n t (by have:=(truth_iff.1 hT).1;have:=hrd.ok.few;omega)
  have c45t:=tenths45e tw tm tv rate cs t (fun j=>t.getD j 0) hrd.ok (truth_iff.1 hT).1 (truth_iff.1 hT).2
  have c45l:=tenths45e tw tm tv rate cs t (fun j=>if j=(w.tmod (zi cs.length)).toNat then sLo tw tm tv (cs.getD (w.tmod (zi cs.length)).toNat ck0)else t.getD j 0) hrd.ok (truth_iff.1 hT).1 (ends_in hrd.ok hT (fun j=>.inl rfl))
  have c45h:=tenths45e tw tm tv rate cs t (fun j=>if j=(w.tmod (zi cs.length)).toNat then sHi tw tm tv (cs.getD (w.tmod (zi cs.length)).toNat ck0)else t.getD j 0) hrd.ok (truth_iff.1 hT).1 (ends_in hrd.ok hT (fun j=>.inr rfl))
  have c38:=false38D tw tm tv rate cs (decD cs t (w.tmod (zi cs.length)).toNat (tenthsP (cs.getD (w.tmod (zi cs.length)).toNat ck0).g (sLo tw tm tv (cs.getD (w.tmod (zi cs.length)).toNat ck0))) (tenthsP (cs.getD (w.tmod (zi cs.length)).toNat ck0).g (sHi tw tm tv (cs.getD (w.tmod (zi cs.length)).toNat ck0))) y) [((cs.length+2:Nat):Int),((cs.length+3:Nat):Int)] hrd.ok (by rw [decD_len];have:=hrd.ok.few;omega) (decD_ok hkn) (declared_at hrd.ok hT hkn hy.1)
  have c37:=same37 [((cs.length+2:Nat):Int),((cs.length+3:Nat):Int)] [((cs.length+2:Nat):Int),((cs.length+3:Nat):Int)] ⟨by simp,by simp⟩
  refine FSpec.is fun R hR=>qW (sc:=sc11) tyok mix Try.func11 rfl Try.call11 (by kernel_rfl) (by kernel_rfl) ?_
  generalize Try.prog=P at c41 c21 c42 c49 c23 c28 c45t c45l c45h c38 c37⊢
  cbv
  have hS:=hrd.ok
  have hfew:=hS.few
  have htl:=(truth_iff.1 hT).1
  have hbd:=truth_bd hS hT
  have h0:=hrd.some
  have hkm:=tmod_bd2 (a:=w) (b:=(cs.length:Int)) hw.1 (by omega)
  have hgal:=hS.gal
  repeat' (first
      |with_reducible refine hold ?_ ?_
      |with_reducible refine And.intro ?_ ?_
      | (with_reducible refine qS ?_ ?_ ?_
         try cbv)
      | (with_reducible refine qT ?_ ?_
         try cbv)
      |(with_reducible intro hcd;(try simp only [zA,zB,zC,zD,zE,zF,zG,zH,zI,zJ,zK,zL,zM,zN,zO,zP]at hcd);try cbv)
      | (refine qP ?_ (c41) ?hfit
         case hfit=>((repeat' (first|exact qB|refine qD ?_ ?_|exact qE (by rfl)|exact qF (by rfl)|exact Fit.refl _|exact qA|refine qC ?_ rfl ?_));done)
         try cbv)
      | (refine qP ?_ (c21) ?hfit
         case hfit=>((repeat' (first|exact qB|refine qD ?_ ?_|exact qE (by rfl)|exact qF (by rfl)|exact Fit.refl _|exact qA|refine qC ?_ rfl ?_));done)
         try cbv)
      | (refine qP ?_ (c42) ?hfit
         case hfit=>((repeat' (first|exact qB|refine qD ?_ ?_|exact qE (by rfl)|exact qF (by rfl)|exact Fit.refl _|exact qA|refine qC ?_ rfl ?_));done)
         try cbv)
      | (refine qP ?_ (c49) ?hfit
         case hfit=>((repeat' (first|exact qB|refine qD ?_ ?_|exact qE (by rfl)|exact qF (by rfl)|exact Fit.refl _|exact qA|refine qC ?_ rfl ?_));done)
         try cbv)
      | (refine qP ?_ (c23) ?hfit
         case hfit=>((repeat' (first|exact qB|refine qD ?_ ?_|exact qE (by rfl)|exact qF (by rfl)|exact Fit.refl _|exact qA|refine qC ?_ rfl ?_));done)
         try cbv)
      | (refine Or.inr ⟨true,?_⟩
         cbv
         refine qU ?_ (c28) (by cbv;(repeat' (first|exact qB|refine qD ?_ ?_|exact qE (by rfl)|exact qF (by rfl)|exact Fit.refl _|exact qA|refine qC ?_ rfl ?_))) (by cbv;(repeat' (first|exact qH|refine qI ?_ ?_|exact qK _|refine qJ ?_|exact qA|exact qE (by rfl)|exact qF (by rfl)|exact Fit.refl _|exact qG _|refine qC ?_ rfl ?_)))
         try cbv)
      | (refine⟨some [],(22:Nat),?_⟩
         cbv
         refine setl_k ?_ (c45t) (by cbv;(repeat' (first|exact qB|refine qD ?_ ?_|exact qE (by rfl)|exact qF (by rfl)|exact Fit.refl _|exact qA|refine qC ?_ rfl ?_)))
         try cbv)
      | (refine⟨some [],(30:Nat),?_⟩
         cbv
         refine setl_k ?_ (c45l) (by cbv;(repeat' (first|exact qB|refine qD ?_ ?_|exact qE (by rfl)|exact qF (by rfl)|exact Fit.refl _|exact qA|refine qC ?_ rfl ?_)))
         try cbv)
      | (refine⟨some [],(32:Nat),?_⟩
         cbv
         refine setl_k ?_ (c45h) (by cbv;(repeat' (first|exact qB|refine qD ?_ ?_|exact qE (by rfl)|exact qF (by rfl)|exact Fit.refl _|exact qA|refine qC ?_ rfl ?_)))
         try cbv)
      | (refine⟨fun ix=>[(.int .i64 (.sym fun _=>if ix.den.toNat=(w.tmod (zi cs.length)).toNat then sLo tw tm tv (cs.getD (w.tmod (zi cs.length)).toNat ck0)else t.getD ix.den.toNat 0))],?_⟩
         cbv
         refine hold (hold_rowupd (o2:=0) (x:=[(.int .i64 (.sym fun _=>sLo tw tm tv (cs.getD (w.tmod (zi cs.length)).toNat ck0)))]) (by(try simp only [qV]at *);(try simp only [zQ,zA,zB,zC,zD,zE,zF,zG,zH,zI,zJ,zK,zL,zM,zN,zO,zP,zR,zS]at *);omega) (by intro jx h0 h1 h2;(repeat' (first|exact qA|exact Fit.refl _|refine qC (qE ?_) rfl ?_))<;>(simp only [den_sym];rw [if_neg (by(try simp only [qV]at *);(try simp only [zQ,zA,zB,zC,zD,zE,zF,zG,zH,zI,zJ,zK,zL,zM,zN,zO,zP,zR,zS]at *);omega)])) (by intro jx h0 h1 h2;refine⟨_,rfl,?_⟩;(repeat' (first|exact qA|exact Fit.refl _|refine qC (qE ?_) rfl ?_))<;>(simp only [den_sym];rw [if_pos (by(try simp only [qV]at *);(try simp only [zQ,zA,zB,zC,zD,zE,zF,zG,zH,zI,zJ,zK,zL,zM,zN,zO,zP,zR,zS]at *);omega)]))) ?_
         try cbv)
      | (refine⟨fun ix=>[(.int .i64 (.sym fun _=>if ix.den.toNat=(w.tmod (zi cs.length)).toNat then sHi tw tm tv (cs.getD (w.tmod (zi cs.length)).toNat ck0)else t.getD ix.den.toNat 0))],?_⟩
         cbv
         refine hold (hold_rowupd (o2:=0) (x:=[(.int .i64 (.sym fun _=>sHi tw tm tv (cs.getD (w.tmod (zi cs.length)).toNat ck0)))]) (by(try simp only [qV]at *);(try simp only [zQ,zA,zB,zC,zD,zE,zF,zG,zH,zI,zJ,zK,zL,zM,zN,zO,zP,zR,zS]at *);omega) (by intro jx h0 h1 h2;(repeat' (first|exact qA|exact Fit.refl _|refine qC (qE ?_) rfl ?_))<;>(simp only [den_sym];rw [if_neg (by(try simp only [qV]at *);(try simp only [zQ,zA,zB,zC,zD,zE,zF,zG,zH,zI,zJ,zK,zL,zM,zN,zO,zP,zR,zS]at *);omega)])) (by intro jx h0 h1 h2;refine⟨_,rfl,?_⟩;(repeat' (first|exact qA|exact Fit.refl _|refine qC (qE ?_) rfl ?_))<;>(simp only [den_sym];rw [if_pos (by(try simp only [qV]at *);(try simp only [zQ,zA,zB,zC,zD,zE,zF,zG,zH,zI,zJ,zK,zL,zM,zN,zO,zP,zR,zS]at *);omega)]))) ?_
         try cbv)
      | (refine Exists.intro (α:=Nat) 30 ?_
         cbv)
      | (refine Exists.intro (α:=Nat) 32 ?_
         cbv)
      |fail)
  all_goals first
    |trivial
    |((try simp only [qV]at *);(try simp only [zQ,zA,zB,zC,zD,zE,zF,zG,zH,zI,zJ,zK,zL,zM,zN,zO,zP,zR,zS]at *);first|(refine qN ?_;omega)|(simp only [Hold];omega))
    |(subst hR;(repeat' (first|exact qA|exact qB|refine qC ?_ rfl ?_|refine qD ?_ ?_|exact qE (by rfl)|exact qF (by rfl)|exact Fit.refl _|exact qG _|(refine qE ?_;(try simp only [qV]at *);simp only [zQ,zA,zB,zC,zD,zE,zF,zG,zH,zI,zJ,zK,zL,zM,zN,zO,zP,zR,zS]at *;omega)));done)
    |(exfalso;(try simp only [Hold]at *);(try simp only [qV]at *);(try simp only [zQ,zA,zB,zC,zD,zE,zF,zG,zH,zI,zJ,zK,zL,zM,zN,zO,zP,zR,zS]at *);omega)
    |(simp only [Hold];decide)
    |skip
  refine⟨none,[⟨.tmp 20,87,2⟩],{i:Nat // i≤cs.length},fun x=>⟨[(3,(.int .u8 (.sym fun _=>y))),(4,.own 0 0),(10,(.int .i64 (.sym fun _=>w.tmod (zi cs.length)))),(12,(.sl 1 (.sym fun _=>zi cs.length) (fun ix=>[(.int .i64 (.sym fun _=>tenthsP (cs.getD ix.den.toNat ck0).g (t.getD ix.den.toNat 0)))]))),(16,(.sl 1 (.sym fun _=>zi cs.length) (fun ix=>[(.int .i64 (.sym fun _=>tenthsP (cs.getD ix.den.toNat ck0).g (if ix.den.toNat=(w.tmod (zi cs.length)).toNat then sLo tw tm tv (cs.getD (w.tmod (zi cs.length)).toNat ck0)else t.getD ix.den.toNat 0)))]))),(18,(.sl 1 (.sym fun _=>zi cs.length) (fun ix=>[(.int .i64 (.sym fun _=>tenthsP (cs.getD ix.den.toNat ck0).g (if ix.den.toNat=(w.tmod (zi cs.length)).toNat then sHi tw tm tv (cs.getD (w.tmod (zi cs.length)).toNat ck0)else t.getD ix.den.toNat 0)))]))),(20,.row 104),(21,(.int .i64 (.sym fun _=>zi x.1)))],[(104,.row 87 2 (.sym fun _=>zi x.1) (fun ix=>[(.int .i64 (.sym fun _=>zi ix.den.toNat)),(.int .i64 (.sym fun _=>tenthsP (cs.getD ix.den.toNat ck0).g (t.getD ix.den.toNat 0)))])),(0,.cells [(.sl 1 (.sym fun _=>zi (tw).length) (fun ix=>[.int .i64 (.sym fun _=>(tw).getD ix.den.toNat 0)])),(.sl 1 (.sym fun _=>zi (tm).length) (fun ix=>[.int .i64 (.sym fun _=>(tm).getD ix.den.toNat 0)])),(.sl 1 (.sym fun _=>zi (tv).length) (fun ix=>[(.sl 1 (.sym fun _=>zi ((tv).getD ix.den.toNat []).length) (fun jx=>[.int .i64 (.sym fun _=>((tv).getD ix.den.toNat []).getD jx.den.toNat 0)]))])),(.int .i64 (.sym fun _=>rate)),(.sl 5 (.sym fun _=>zi (cs).length) (fun ix=>[(.int .i64 (.sym fun _=>((cs).getD ix.den.toNat ck0).g)),(.int .i64 (.sym fun _=>((cs).getD ix.den.toNat ck0).wl)),(.int .i64 (.sym fun _=>((cs).getD ix.den.toNat ck0).wh)),(.int .i64 (.sym fun _=>((cs).getD ix.den.toNat ck0).ml)),(.int .i64 (.sym fun _=>((cs).getD ix.den.toNat ck0).mh))]))] 28)],150⟩,fun x=>cs.length-x.1,?_,?_⟩
  · refine⟨⟨0,by omega⟩,?_⟩
    cbv
    repeat' (first
      |with_reducible refine hold ?_ ?_
      |with_reducible refine And.intro ?_ ?_)
    all_goals first
      |trivial
      |exact qM (qE (by rfl))
      |exact qM (qF (by rfl))
      |exact qM (Fit.refl _)
      |exact qL (qK _)
      |(refine qM (qE ?_);(try simp only [qV]at *);simp only [zQ,zA,zB,zC,zD,zE,zF,zG,zH,zI,zJ,zK,zL,zM,zN,zO,zP,zR,zS]at *;omega)
      |(refine qL (ble_row ?_ ?_);(first|rfl|((try simp only [qV]at *);(try simp only [zQ,zA,zB,zC,zD,zE,zF,zG,zH,zI,zJ,zK,zL,zM,zN,zO,zP,zR,zS]at *);omega));intro ix h0 h1;first|exact Fit.refl _|(exfalso;(try simp only [qV]at *);(try simp only [zQ,zA,zB,zC,zD,zE,zF,zG,zH,zI,zJ,zK,zL,zM,zN,zO,zP,zR,zS]at *);omega))
      |skip
  · rintro ⟨i,hi⟩
    cbv
    repeat' (first
        |with_reducible refine hold ?_ ?_
        |with_reducible refine And.intro ?_ ?_
        | (with_reducible refine qS ?_ ?_ ?_
           try cbv)
        | (with_reducible refine qT ?_ ?_
           try cbv)
        |(with_reducible intro hcd;(try simp only [zA,zB,zC,zD,zE,zF,zG,zH,zI,zJ,zK,zL,zM,zN,zO,zP]at hcd);try cbv)
        | (refine qP ?_ (c41) ?hfit
           case hfit=>((repeat' (first|exact qB|refine qD ?_ ?_|exact qE (by rfl)|exact qF (by rfl)|exact Fit.refl _|exact qA|refine qC ?_ rfl ?_));done)
           try cbv)
        | (refine qP ?_ (c21) ?hfit
           case hfit=>((repeat' (first|exact qB|refine qD ?_ ?_|exact qE (by rfl)|exact qF (by rfl)|exact Fit.refl _|exact qA|refine qC ?_ rfl ?_));done)
           try cbv)
        | (refine qP ?_ (c42) ?hfit
           case hfit=>((repeat' (first|exact qB|refine qD ?_ ?_|exact qE (by rfl)|exact qF (by rfl)|exact Fit.refl _|exact qA|refine qC ?_ rfl ?_));done)
           try cbv)
        | (refine qP ?_ (c49) ?hfit
           case hfit=>((repeat' (first|exact qB|refine qD ?_ ?_|exact qE (by rfl)|exact qF (by rfl)|exact Fit.refl _|exact qA|refine qC ?_ rfl ?_));done)
           try cbv)
        | (refine qP ?_ (c23) ?hfit
           case hfit=>((repeat' (first|exact qB|refine qD ?_ ?_|exact qE (by rfl)|exact qF (by rfl)|exact Fit.refl _|exact qA|refine qC ?_ rfl ?_));done)
           try cbv)
        | (refine⟨(fun ix=>[(.int .i64 (.sym fun _=>zi ix.den.toNat)),(.int .i64 (.sym fun _=>tenthsP (cs.getD ix.den.toNat ck0).g (t.getD ix.den.toNat 0)))]:IX→List SV),?_⟩
           cbv
           refine hold (hold_rowapp (by intro ix jx h0 h1 h2;simp only [h2];exact Fit.refl _) (by intro ix jx h0 h1 h2;(have h3:jx.den.toNat=i:=by((try simp only [qV]at *);(try simp only [zQ,zA,zB,zC,zD,zE,zF,zG,zH,zI,zJ,zK,zL,zM,zN,zO,zP,zR,zS]at *);omega));simp only [h3];(first|exact Fit.refl _|(repeat' (first|exact qA|exact Fit.refl _|exact qE (by rfl)|refine qC ?_ rfl ?_)))) (by(try simp only [qV]at *);(try simp only [zQ,zA,zB,zC,zD,zE,zF,zG,zH,zI,zJ,zK,zL,zM,zN,zO,zP,zR,zS]at *);omega)) (Or.inl ?_)
           try cbv)
        | (refine⟨fun ix=>[(.int .i64 (.sym fun _=>((decD cs t (w.tmod (zi cs.length)).toNat (tenthsP (cs.getD (w.tmod (zi cs.length)).toNat ck0).g (sLo tw tm tv (cs.getD (w.tmod (zi cs.length)).toNat ck0))) (tenthsP (cs.getD (w.tmod (zi cs.length)).toNat ck0).g (sHi tw tm tv (cs.getD (w.tmod (zi cs.length)).toNat ck0))) y).getD ix.den.toNat (0,0)).1)),(.int .i64 (.sym fun _=>((decD cs t (w.tmod (zi cs.length)).toNat (tenthsP (cs.getD (w.tmod (zi cs.length)).toNat ck0).g (sLo tw tm tv (cs.getD (w.tmod (zi cs.length)).toNat ck0))) (tenthsP (cs.getD (w.tmod (zi cs.length)).toNat ck0).g (sHi tw tm tv (cs.getD (w.tmod (zi cs.length)).toNat ck0))) y).getD ix.den.toNat (0,0)).2))],?_⟩
           cbv
           refine hold (hold_rowapp (by intro ix jx h0 h1 h2;(have hj:jx.den.toNat=ix.den.toNat:=by rw [h2]);(have hlt:ix.den.toNat<cs.length:=by((try simp only [qV]at *);(try simp only [zQ,zA,zB,zC,zD,zE,zF,zG,zH,zI,zJ,zK,zL,zM,zN,zO,zP,zR,zS]at *);omega));refine qC (qE ?_) rfl (qC (qE ?_) rfl qA)<;>simp only [den_sym,hj,decD_get hlt,zi_den]) (by intro ix jx h0 h1 h2;(have hx:ix.den.toNat=0∨ix.den.toNat=1∨ix.den.toNat=2∨ix.den.toNat=3:=by(have h3:ix.den<4:=h1);omega);(have hj:jx.den.toNat=cs.length+ix.den.toNat:=by((try simp only [qV]at *);(try simp only [zQ,zA,zB,zC,zD,zE,zF,zG,zH,zI,zJ,zK,zL,zM,zN,zO,zP,zR,zS]at *);omega));(rcases hx with hx|hx|hx|hx<;>(rw [hx]at hj;(try simp only [hx]);refine qC (qE ?_) rfl (qC (qE ?_) rfl qA)<;>(simp only [den_sym,den_lit,hj,decD_end,List.getD_cons_zero,List.getD_cons_succ,subI_den,addI_den,if_true,eq_self]<;>(first|rfl|((try simp only [qV]at *);(try simp only [zQ,zA,zB,zC,zD,zE,zF,zG,zH,zI,zJ,zK,zL,zM,zN,zO,zP,zR,zS]at *);omega)))))) (by(have e4:(Int.ofNat 4)=4:=rfl);(try simp only [qV]at *);(try simp only [zQ,zA,zB,zC,zD,zE,zF,zG,zH,zI,zJ,zK,zL,zM,zN,zO,zP,zR,zS]at *);(try simp only [e4]at *);omega)) (Or.inl ?_)
           try cbv)
        | (refine⟨some [],(104:Nat),?_⟩
           cbv
           refine setl_k ?_ (c38) (by cbv;(repeat' (first|exact Fit.refl _|(refine fit_sl ?_ (fun ix h0 h1=>Fit.refl _);rw [decD_len];(show(zi i)+(4:Int)=_);(try simp only [qV]at *);(try simp only [zQ,zA,zB,zC,zD,zE,zF,zG,zH,zI,zJ,zK,zL,zM,zN,zO,zP,zR,zS]at *);omega)|exact qB|refine qD ?_ ?_|exact qE (by rfl)|exact qF (by rfl)|exact Fit.refl _|exact qA|refine qC ?_ rfl ?_)))
           try cbv)
        | ((first|(refine qR ?_ (c37) rfl (by cbv;(repeat' (first|exact Fit.refl _|(refine fit_sl (by rfl) (fun ix h0 h1=> ?_);(have hx:ix.den.toNat=0∨ix.den.toNat=1:=by(have h3:ix.den<2:=h1);omega);(rcases hx with hx|hx<;>(simp only [hx];refine qC (qE ?_) rfl qA;simp only [den_sym,den_lit,subI_den,List.getD_cons_zero,List.getD_cons_succ];(have e4:(Int.ofNat 4)=4:=rfl);(try simp only [qV]at *);(try simp only [zQ,zA,zB,zC,zD,zE,zF,zG,zH,zI,zJ,zK,zL,zM,zN,zO,zP,zR,zS]at *);(try simp only [e4]at *);omega)))|exact qB|refine qD ?_ ?_|exact qE (by rfl)|exact qF (by rfl)|exact Fit.refl _|exact qA|refine qC ?_ rfl ?_))))|(refine⟨none,?_⟩;refine qR ?_ (c37) rfl (by cbv;(repeat' (first|exact Fit.refl _|(refine fit_sl (by rfl) (fun ix h0 h1=> ?_);(have hx:ix.den.toNat=0∨ix.den.toNat=1:=by(have h3:ix.den<2:=h1);omega);(rcases hx with hx|hx<;>(simp only [hx];refine qC (qE ?_) rfl qA;simp only [den_sym,den_lit,subI_den,List.getD_cons_zero,List.getD_cons_succ];(have e4:(Int.ofNat 4)=4:=rfl);(try simp only [qV]at *);(try simp only [zQ,zA,zB,zC,zD,zE,zF,zG,zH,zI,zJ,zK,zL,zM,zN,zO,zP,zR,zS]at *);(try simp only [e4]at *);omega)))|exact qB|refine qD ?_ ?_|exact qE (by rfl)|exact qF (by rfl)|exact Fit.refl _|exact qA|refine qC ?_ rfl ?_)))))
           try cbv)
        |fail)
    all_goals first
      |trivial
      |((try simp only [qV]at *);(try simp only [zQ,zA,zB,zC,zD,zE,zF,zG,zH,zI,zJ,zK,zL,zM,zN,zO,zP,zR,zS]at *);first|(refine qN ?_;omega)|(simp only [Hold];omega))
      |(subst hR;(repeat' (first|exact qA|exact qB|refine qC ?_ rfl ?_|refine qD ?_ ?_|exact qE (by rfl)|exact qF (by rfl)|exact Fit.refl _|exact qG _|(refine qE ?_;(try simp only [qV]at *);simp only [zQ,zA,zB,zC,zD,zE,zF,zG,zH,zI,zJ,zK,zL,zM,zN,zO,zP,zR,zS]at *;omega)));done)
      |(exfalso;(try simp only [Hold]at *);(try simp only [qV]at *);(try simp only [zQ,zA,zB,zC,zD,zE,zF,zG,zH,zI,zJ,zK,zL,zM,zN,zO,zP,zR,zS]at *);omega)
      |((have hgk:=hgal (w.tmod (zi cs.length)).toNat hkn);(have hbk:=s_bd hS.t (hS.box (w.tmod (zi cs.length)).toNat hkn));(have htk1:=tenths_bd (g:=(cs.getD (w.tmod (zi cs.length)).toNat ck0).g) (s:=sLo tw tm tv (cs.getD (w.tmod (zi cs.length)).toNat ck0)) (by omega) hgk.2 (by omega) (by omega));(have htk2:=tenths_bd (g:=(cs.getD (w.tmod (zi cs.length)).toNat ck0).g) (s:=sHi tw tm tv (cs.getD (w.tmod (zi cs.length)).toNat ck0)) (by omega) hgk.2 (by omega) (by omega));(try simp only [qV]at *);(try simp only [zQ,zA,zB,zC,zD,zE,zF,zG,zH,zI,zJ,zK,zL,zM,zN,zO,zP,zR,zS]at *);(try simp only [if_true,eq_self]at *);first|(refine qN ?_;omega)|(simp only [Hold];omega))
      |((have e4:(Int.ofNat 4)=4:=rfl);(try simp only [qV]at *);(try simp only [zQ,zA,zB,zC,zD,zE,zF,zG,zH,zI,zJ,zK,zL,zM,zN,zO,zP,zR,zS]at *);(try simp only [e4]at *);first|(refine qN ?_;omega)|(simp only [Hold];omega))
      |(exfalso;exact hcd rfl)
      |((try simp only [zQ,zA,zB,zC,zD,zE,zF,zG,zH,zI,zJ,zK,zL,zM,zN,zO,zP,zR,zS]at *);refine⟨⟨i+1,by((try simp only [qV]at *);(try simp only [zQ,zA,zB,zC,zD,zE,zF,zG,zH,zI,zJ,zK,zL,zM,zN,zO,zP,zR,zS]at *);omega)⟩,by simp only [];omega,?_⟩;cbv;(repeat' (first|with_reducible refine hold ?_ ?_|with_reducible refine And.intro ?_ ?_));(all_goals first|trivial|exact qM (qE (by rfl))|exact qM (qF (by rfl))|exact qM (Fit.refl _)|exact qL (qK _)|(refine qM (qE ?_);(try simp only [qV]at *);simp only [zQ,zA,zB,zC,zD,zE,zF,zG,zH,zI,zJ,zK,zL,zM,zN,zO,zP,zR,zS]at *;omega)|(refine qL (ble_row ?_ ?_);(first|rfl|((try simp only [qV]at *);(try simp only [zQ,zA,zB,zC,zD,zE,zF,zG,zH,zI,zJ,zK,zL,zM,zN,zO,zP,zR,zS]at *);omega));intro ix h0 h1;first|exact Fit.refl _|(exfalso;(try simp only [qV]at *);(try simp only [zQ,zA,zB,zC,zD,zE,zF,zG,zH,zI,zJ,zK,zL,zM,zN,zO,zP,zR,zS]at *);omega))|skip))
      |(simp only [Hold];decide)
      |skip
theorem law11 (tw tm:List Int)(tv:List (List Int))(rate:Int)(cs:List Csk)(ws:List Int)(w y:Int)(hws:∀i,0≤ws.getD i 0∧ws.getD i 0≤65535)(hwl:ws.length≤9223372036854775807)(hw:0≤w∧w≤255)(hy:0≤y∧y≤255):FSpec Try.prog 11 [(stoS tw tm tv rate cs),(.sl 1 (.sym fun _=>zi ws.length) (fun ix=>[.int .u16 (.sym fun _=>ws.getD ix.den.toNat 0)])),(.int .u8 (.sym fun _=>w)),(.int .u8 (.sym fun _=>y))] [] (fun r _=>r = .bool (.lit true)):=by
  rcases rdy_or tw tm tv rate cs with h|h
  · have h1:=tmod_bd2 (a:=w) (b:=(cs.length:Int)) hw.1 (by have:=h.some;omega)
    exact law11y tw tm tv rate cs ws w y h hws hwl hw hy _ rfl (pick_truth h.ok fun i=>(hws i).1) (by simp only [zi_den];omega)
  · exact law11n tw tm tv rate cs ws w y h
end Go.Proofs.Ytkdgpdlfakcgdaa
