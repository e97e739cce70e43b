/- ProofEnds: what the law computes. No condition. -/
import Derived.Test.YtkdgpdlfakcgdaaT6
set_option linter.unusedVariables false
set_option linter.unusedSimpArgs false
set_option linter.deprecated false
set_option linter.all false

namespace Go.Proofs.Ytkdgpdlfakcgdaa
open Go Go.Eng Go.Proofs
set_option maxRecDepth 10000
def sc16b :SC:=[(13,[⟨0,false,[],false,0,none⟩,⟨1,false,[],false,0,none⟩,⟨2,false,[],false,0,none⟩,⟨3,false,[1,2],false,0,none⟩,⟨4,false,[1,2,3],false,0,none⟩,⟨5,false,[1,2,3,4],false,0,none⟩,⟨6,false,[1,2,3,4,5],false,0,none⟩,⟨8,false,[],false,0,none⟩,⟨9,false,[],false,0,none⟩,⟨10,false,[],false,0,none⟩,⟨11,false,[9,10],false,1,none⟩,⟨12,false,[9,10,11],false,1,none⟩,⟨13,false,[9,10,11,12],false,1,none⟩,⟨14,false,[9,10,11,12,13],false,1,none⟩,⟨7,true,[0,1,2,3,4,5,6],false,2,none⟩,⟨15,true,[0,1,2,3,4,5,6,7,8,9,10,11,12,13,14],false,0,none⟩,⟨16,true,[0,1,2,3,4,5,6,7,8,9,10,11,12,13,14,15],false,0,none⟩,⟨17,true,[0,1,2,3,4,5,6,7,8,9,10,11,12,13,14,15,16],false,0,none⟩]),(16,[⟨0,true,[],false,0,none⟩,⟨1,true,[0],false,0,none⟩,⟨2,true,[0,1],true,0,none⟩,⟨3,true,[0,1,2],false,0,none⟩,⟨4,true,[0,1,2,3],false,0,none⟩,⟨5,true,[0,1,2,3,4],false,0,none⟩,⟨6,true,[0,1,2,3,4,5],true,0,none⟩,⟨7,false,[0,1,2,3,4,5,6],false,0,none⟩,⟨8,false,[0,1,2,3,4,5,6],false,0,none⟩,⟨9,false,[0,1,2,3,4,5,6],false,0,none⟩,⟨10,false,[0,1,2,3,4,5,6,8,9],false,0,none⟩,⟨11,true,[0,1,2,3,4,5,6,7,8,9,10],false,0,none⟩,⟨12,true,[0,1,2,3,4,5,6,7,8,9,10,11],false,0,none⟩,⟨13,true,[0,1,2,3,4,5,6,7,8,9,10,11,12],true,0,none⟩,⟨14,false,[0,1,2,3,4,5,6,7,8,9,10,11,12,13],false,0,none⟩,⟨15,false,[0,1,2,3,4,5,6,7,8,9,10,11,12,13],false,0,none⟩,⟨16,false,[0,1,2,3,4,5,6,7,8,9,10,11,12,13],false,0,none⟩,⟨17,false,[0,1,2,3,4,5,6,7,8,9,10,11,12,13],false,0,none⟩,⟨18,false,[0,1,2,3,4,5,6,7,8,9,10,11,12,13,17],false,0,none⟩,⟨19,false,[0,1,2,3,4,5,6,7,8,9,10,11,12,13,17,18],false,0,none⟩,⟨20,false,[0,1,2,3,4,5,6,7,8,9,10,11,12,13],false,0,none⟩,⟨22,false,[0,1,2,3,4,5,6,7,8,9,10,11,12,13],false,0,none⟩,⟨23,false,[0,1,2,3,4,5,6,7,8,9,10,11,12,13],false,0,none⟩,⟨24,false,[0,1,2,3,4,5,6,7,8,9,10,11,12,13],false,0,none⟩,⟨25,false,[0,1,2,3,4,5,6,7,8,9,10,11,12,13,24],false,0,none⟩,⟨26,false,[0,1,2,3,4,5,6,7,8,9,10,11,12,13,24,25],false,0,none⟩,⟨27,false,[0,1,2,3,4,5,6,7,8,9,10,11,12,13],false,0,none⟩,⟨21,false,[0,1,2,3,4,5,6,7,8,9,10,11,12,13,15,16,17,18,19,20],false,0,none⟩,⟨28,false,[0,1,2,3,4,5,6,7,8,9,10,11,12,13,15,16,17,18,19,20,21,22,23,24,25,26,27],false,0,none⟩,⟨29,false,[0,1,2,3,4,5,6,7,8,9,10,11,12,13,15,16,17,18,19,20,21,22,23,24,25,26,27,28],false,0,none⟩,⟨30,true,[0,1,2,3,4,5,6,7,8,9,10,11,12,13,14,15,16,17,18,19,20,21,22,23,24,25,26,27,28,29],false,0,none⟩,⟨31,true,[0,1,2,3,4,5,6,7,8,9,10,11,12,13,14,15,16,17,18,19,20,21,22,23,24,25,26,27,28,29,30],false,0,none⟩,⟨32,true,[0,1,2,3,4,5,6,7,8,9,10,11,12,13,14,15,16,17,18,19,20,21,22,23,24,25,26,27,28,29,30,31],true,0,none⟩,⟨33,true,[0,1,2,3,4,5,6,7,8,9,10,11,12,13,14,15,16,17,18,19,20,21,22,23,24,25,26,27,28,29,30,31,32],false,0,none⟩,⟨34,true,[0,1,2,3,4,5,6,7,8,9,10,11,12,13,14,15,16,17,18,19,20,21,22,23,24,25,26,27,28,29,30,31,32,33],false,0,none⟩,⟨35,true,[0,1,2,3,4,5,6,7,8,9,10,11,12,13,14,15,16,17,18,19,20,21,22,23,24,25,26,27,28,29,30,31,32,33,34],false,0,none⟩])]
theorem ends_truth (tw tm:List Int)(tv:List (List Int))(rate:Int)(cs:List Csk)(hS:SOk tw tm tv rate cs):truthB tw tm tv cs ((List.range cs.length).map (fun j=>sLo tw tm tv (cs.getD j ck0)))=true∧truthB tw tm tv cs ((List.range cs.length).map (fun j=>sHi tw tm tv (cs.getD j ck0)))=true:=by
  refine⟨truth_iff.2 ⟨by simp,fun i hi=> ?_⟩,truth_iff.2 ⟨by simp,fun i hi=> ?_⟩⟩
  · rw [map_getD hi];have:=s_bd hS.t (hS.box i hi);omega
  · rw [map_getD hi];have:=s_bd hS.t (hS.box i hi);omega
theorem list28l (tw tm:List Int)(tv:List (List Int))(rate:Int)(cs:List Csk)(hS:SOk tw tm tv rate cs)(i:Nat)(h:i=cs.length):FSpec Try.prog 28 [(.sl 1 (.sym fun _=>zi i) (fun ix=>[(.int .i64 (.sym fun _=>sLo tw tm tv (cs.getD ix.den.toNat ck0)))]))] [] (fun r _=>r=(.sl 1 (.sym fun _=>zi (((List.range cs.length).map (fun j=>sLo tw tm tv (cs.getD j ck0)))).length) (fun ix=>[.int .i64 (.sym fun _=>(((List.range cs.length).map (fun j=>sLo tw tm tv (cs.getD j ck0)))).getD ix.den.toNat 0)]))):=by
  subst h
  have hfew:=hS.few
  exact(list28 ((List.range cs.length).map (fun j=>sLo tw tm tv (cs.getD j ck0))) (by simp;omega)).pre (qD (fit_fn (f:=(fun j=>sLo tw tm tv (cs.getD j ck0)))) qB)
theorem duty44l (tw tm:List Int)(tv:List (List Int))(rate:Int)(cs:List Csk)(hS:SOk tw tm tv rate cs):FSpec Try.prog 44 [(stoS tw tm tv rate cs),(.sl 1 (.sym fun _=>zi (((List.range cs.length).map (fun j=>sLo tw tm tv (cs.getD j ck0)))).length) (fun ix=>[.int .i64 (.sym fun _=>(((List.range cs.length).map (fun j=>sLo tw tm tv (cs.getD j ck0)))).getD ix.den.toNat 0)]))] [] (fun r _=>r=(.tup [(.int .i64 (.sym fun _=>dutyP rate cs (loA tw tm tv cs cs.length) cs.length)),(.int .i64 (.lit 0))])):=by
  have h:=duty44z tw tm tv rate cs ((List.range cs.length).map (fun j=>sLo tw tm tv (cs.getD j ck0))) hS (ends_truth tw tm tv rate cs hS).1
  rw [duty_congr (l:=fun j=>((List.range cs.length).map (fun j=>sLo tw tm tv (cs.getD j ck0))).getD j 0) (l':=(loA tw tm tv cs cs.length)) (n:=cs.length) (fun j hj=>by rw [map_getD hj,loA_k hj])]at h
  exact h
theorem list28h (tw tm:List Int)(tv:List (List Int))(rate:Int)(cs:List Csk)(hS:SOk tw tm tv rate cs)(i:Nat)(h:i=cs.length):FSpec Try.prog 28 [(.sl 1 (.sym fun _=>zi i) (fun ix=>[(.int .i64 (.sym fun _=>sHi tw tm tv (cs.getD ix.den.toNat ck0)))]))] [] (fun r _=>r=(.sl 1 (.sym fun _=>zi (((List.range cs.length).map (fun j=>sHi tw tm tv (cs.getD j ck0)))).length) (fun ix=>[.int .i64 (.sym fun _=>(((List.range cs.length).map (fun j=>sHi tw tm tv (cs.getD j ck0)))).getD ix.den.toNat 0)]))):=by
  subst h
  have hfew:=hS.few
  exact(list28 ((List.range cs.length).map (fun j=>sHi tw tm tv (cs.getD j ck0))) (by simp;omega)).pre (qD (fit_fn (f:=(fun j=>sHi tw tm tv (cs.getD j ck0)))) qB)
theorem duty44h (tw tm:List Int)(tv:List (List Int))(rate:Int)(cs:List Csk)(hS:SOk tw tm tv rate cs):FSpec Try.prog 44 [(stoS tw tm tv rate cs),(.sl 1 (.sym fun _=>zi (((List.range cs.length).map (fun j=>sHi tw tm tv (cs.getD j ck0)))).length) (fun ix=>[.int .i64 (.sym fun _=>(((List.range cs.length).map (fun j=>sHi tw tm tv (cs.getD j ck0)))).getD ix.den.toNat 0)]))] [] (fun r _=>r=(.tup [(.int .i64 (.sym fun _=>dutyP rate cs (hiA tw tm tv cs cs.length) cs.length)),(.int .i64 (.lit 0))])):=by
  have h:=duty44z tw tm tv rate cs ((List.range cs.length).map (fun j=>sHi tw tm tv (cs.getD j ck0))) hS (ends_truth tw tm tv rate cs hS).2
  rw [duty_congr (l:=fun j=>((List.range cs.length).map (fun j=>sHi tw tm tv (cs.getD j ck0))).getD j 0) (l':=(hiA tw tm tv cs cs.length)) (n:=cs.length) (fun j hj=>by rw [map_getD hj,hiA_k hj])]at h
  exact h
theorem str46l (tw tm:List Int)(tv:List (List Int))(rate:Int)(cs:List Csk)(hS:SOk tw tm tv rate cs)(l:List Int)(w:Int)(hb:blendB cs.length l=true)(hll:l.length≤1000)(hw:0≤w∧w≤99)(i:Nat)(h:i=cs.length):FSpec Try.prog 46 [(stoS tw tm tv rate cs),(.sl 1 (.sym fun _=>zi (l).length) (fun ix=>[.int .i64 (.sym fun _=>(l).getD ix.den.toNat 0)])),(.int .i64 (.sym fun _=>w)),(.sl 1 (.sym fun _=>zi i) (fun ix=>[(.int .i64 (.sym fun _=>sLo tw tm tv (cs.getD ix.den.toNat ck0)))]))] [] (fun r _=>r=(.int .i64 (.sym fun _=>strP cs l w (fun j=>sLo tw tm tv (cs.getD j ck0))))):=by
  subst h
  have h:=strength46 tw tm tv rate cs l w (loA tw tm tv cs cs.length) cs.length hS.gal (blend_in hb hll) (blend_iff.1 hb).1 (by omega) (fun j=>by have:=lo_bd hS j;omega) (Nat.le_refl _)
  rw [str_congr (t':=(fun j=>sLo tw tm tv (cs.getD j ck0))) (blend_in hb hll) (fun j hj=>loA_k hj)]at h
  refine h.pre (qD (Fit.refl _) (qD (Fit.refl _) (qD (Fit.refl _) (qD (fit_sl rfl fun ix h0 h1=>qC (qE ?_) rfl qA) qB))))
  simp only [den_sym,zi_den]at h1⊢
  rw [loA_k (by omega)]
theorem str46h (tw tm:List Int)(tv:List (List Int))(rate:Int)(cs:List Csk)(hS:SOk tw tm tv rate cs)(l:List Int)(w:Int)(hb:blendB cs.length l=true)(hll:l.length≤1000)(hw:0≤w∧w≤99)(i:Nat)(h:i=cs.length):FSpec Try.prog 46 [(stoS tw tm tv rate cs),(.sl 1 (.sym fun _=>zi (l).length) (fun ix=>[.int .i64 (.sym fun _=>(l).getD ix.den.toNat 0)])),(.int .i64 (.sym fun _=>w)),(.sl 1 (.sym fun _=>zi i) (fun ix=>[(.int .i64 (.sym fun _=>sHi tw tm tv (cs.getD ix.den.toNat ck0)))]))] [] (fun r _=>r=(.int .i64 (.sym fun _=>strP cs l w (fun j=>sHi tw tm tv (cs.getD j ck0))))):=by
  subst h
  have h:=strength46 tw tm tv rate cs l w (hiA tw tm tv cs cs.length) cs.length hS.gal (blend_in hb hll) (blend_iff.1 hb).1 (by omega) (fun j=>by have:=lo_bd hS j;omega) (Nat.le_refl _)
  rw [str_congr (t':=(fun j=>sHi tw tm tv (cs.getD j ck0))) (blend_in hb hll) (fun j hj=>hiA_k hj)]at h
  refine h.pre (qD (Fit.refl _) (qD (Fit.refl _) (qD (Fit.refl _) (qD (fit_sl rfl fun ix h0 h1=>qC (qE ?_) rfl qA) qB))))
  simp only [den_sym,zi_den]at h1⊢
  rw [hiA_k (by omega)]
theorem law16n (tw tm:List Int)(tv:List (List Int))(rate:Int)(cs:List Csk)(b w:Int)(hr:(thinS tw tm tv cs&&decide (faultS tw tm tv rate cs=0)&&decide (0<cs.length))=false):FSpec Try.prog 16 [(stoS tw tm tv rate cs),(.int .u8 (.sym fun _=>b)),(.int .u8 (.sym fun _=>w))] [] (fun r _=>r=(.bool (.lit true))):=by
  have c41:=ready41n tw tm tv rate cs hr
  have c21:=awake21
  refine FSpec.is fun R hR=>qW (sc:=sc16b) tyok mix Try.func16 rfl Try.call16 (by kernel_rfl) (by kernel_rfl) ?_
  generalize Try.prog=P at c41 c21⊢
  cbv
  repeat' (first
      |with_reducible refine hold ?_ ?_
      |with_reducible refine And.intro ?_ ?_
      | (with_reducible refine qS ?_ ?_ ?_
         try cbv)
      | (with_reducible refine qT ?_ ?_
         try cbv)
      |(with_reducible intro hcd;(try simp only [zA,zB,zC,zD,zE,zF,zG,zH,zI,zJ,zK,zL,zM,zN,zO,zP]at hcd);try cbv)
      | (refine qP ?_ (c41) ?hfit
         case hfit=>((repeat' (first|exact qB|refine qD ?_ ?_|exact qE (by rfl)|exact qF (by rfl)|exact Fit.refl _|exact qA|refine qC ?_ rfl ?_));done)
         try cbv)
      | (refine qP ?_ (c21) ?hfit
         case hfit=>((repeat' (first|exact qB|refine qD ?_ ?_|exact qE (by rfl)|exact qF (by rfl)|exact Fit.refl _|exact qA|refine qC ?_ rfl ?_));done)
         try cbv)
      |fail)
  all_goals first
    |trivial
    |((try simp only [qV]at *);(try simp only [zQ,zA,zB,zC,zD,zE,zF,zG,zH,zI,zJ,zK,zL,zM,zN,zO,zP,zR,zS]at *);first|(refine qN ?_;omega)|(simp only [Hold];omega))
    |(subst hR;(repeat' (first|exact qA|exact qB|refine qC ?_ rfl ?_|refine qD ?_ ?_|exact qE (by rfl)|exact qF (by rfl)|exact Fit.refl _|exact qG _|(refine qE ?_;(try simp only [qV]at *);simp only [zQ,zA,zB,zC,zD,zE,zF,zG,zH,zI,zJ,zK,zL,zM,zN,zO,zP,zR,zS]at *;omega)));done)
    |(simp only [Hold];decide)
    |skip
set_option maxHeartbeats 1000000 in
theorem law16y (tw tm:List Int)(tv:List (List Int))(rate:Int)(cs:List Csk)(b w:Int)(hrd:Rdy tw tm tv rate cs)(hb:0≤b∧b≤255)(l:List Int)(hl:someP cs.length b=l)(hbl:blendB cs.length l=true)(hll:l.length≤1000)(hw:0≤w∧w≤255):FSpec Try.prog 16 [(stoS tw tm tv rate cs),(.int .u8 (.sym fun _=>b)),(.int .u8 (.sym fun _=>w))] [] (fun r _=>r=(.bool (.lit true))):=by
  have c41:=ready41y tw tm tv rate cs hrd
  have c21:=awake21
  have c43:=hl▸some43 tw tm tv rate cs b ⟨hrd.some,hrd.ok.few⟩ hb
  have c23:=store23 tw tm tv rate cs (thinS_iff.1 hrd.thin).1 (thinS_iff.1 hrd.thin).2
  have c28:=list28 l hll
  have c51:=strengths51z tw tm tv rate cs hrd.ok
  have c22:=duties22z tw tm tv rate cs hrd.ok
  have c27:=blend27z tw tm tv rate cs l (w.tmod 100) hrd.ok hll hbl (by have:=tmod_bd2 (a:=w) (b:=100) hw.1 (by decide);omega)
  have c28l:=list28l tw tm tv rate cs hrd.ok
  have c28h:=list28h tw tm tv rate cs hrd.ok
  have c44l:=duty44l tw tm tv rate cs hrd.ok
  have c44h:=duty44h tw tm tv rate cs hrd.ok
  have c46l:=str46l tw tm tv rate cs hrd.ok l (w.tmod 100) hbl hll (by have:=tmod_bd2 (a:=w) (b:=100) hw.1 (by decide);omega)
  have c46h:=str46h tw tm tv rate cs hrd.ok l (w.tmod 100) hbl hll (by have:=tmod_bd2 (a:=w) (b:=100) hw.1 (by decide);omega)
  have c47:= @between47
  have h35:=eqOk35
  refine FSpec.is fun R hR=>qW (sc:=sc16b) tyok mix Try.func16 rfl Try.call16 (by kernel_rfl) (by kernel_rfl) ?_
  generalize Try.prog=P at c41 c21 c43 c23 c28 c51 c22 c27 c28l c28h c44l c44h c46l c46h c47 h35⊢
  cbv
  have hS:=hrd.ok
  have hfew:=hS.few
  have hwm:=tmod_bd2 (a:=w) (b:=100) hw.1 (by decide)
  repeat' (first
      |with_reducible refine hold ?_ ?_
      |with_reducible refine And.intro ?_ ?_
      | (with_reducible refine qS ?_ ?_ ?_
         try cbv)
      | (with_reducible refine qT ?_ ?_
         try cbv)
      |(with_reducible intro hcd;(try simp only [zA,zB,zC,zD,zE,zF,zG,zH,zI,zJ,zK,zL,zM,zN,zO,zP]at hcd);try cbv)
      | (refine qP ?_ (c41) ?hfit
         case hfit=>((repeat' (first|exact qB|refine qD ?_ ?_|exact qE (by rfl)|exact qF (by rfl)|exact Fit.refl _|exact qA|refine qC ?_ rfl ?_));done)
         try cbv)
      | (refine qP ?_ (c21) ?hfit
         case hfit=>((repeat' (first|exact qB|refine qD ?_ ?_|exact qE (by rfl)|exact qF (by rfl)|exact Fit.refl _|exact qA|refine qC ?_ rfl ?_));done)
         try cbv)
      | (refine qP ?_ (c43) ?hfit
         case hfit=>((repeat' (first|exact qB|refine qD ?_ ?_|exact qE (by rfl)|exact qF (by rfl)|exact Fit.refl _|exact qA|refine qC ?_ rfl ?_));done)
         try cbv)
      | (refine qP ?_ (c23) ?hfit
         case hfit=>((repeat' (first|exact qB|refine qD ?_ ?_|exact qE (by rfl)|exact qF (by rfl)|exact Fit.refl _|exact qA|refine qC ?_ rfl ?_));done)
         try cbv)
      | (refine qP ?_ (c51) ?hfit
         case hfit=>((repeat' (first|exact qB|refine qD ?_ ?_|exact qE (by rfl)|exact qF (by rfl)|exact Fit.refl _|exact qA|refine qC ?_ rfl ?_));done)
         try cbv)
      | (refine qP ?_ (c22) ?hfit
         case hfit=>((repeat' (first|exact qB|refine qD ?_ ?_|exact qE (by rfl)|exact qF (by rfl)|exact Fit.refl _|exact qA|refine qC ?_ rfl ?_));done)
         try cbv)
      | (refine qP ?_ (c28) ?hfit
         case hfit=>((repeat' (first|exact qB|refine qD ?_ ?_|exact qE (by rfl)|exact qF (by rfl)|exact Fit.refl _|exact qA|refine qC ?_ rfl ?_));done)
         try cbv)
      | (refine qP ?_ (c27) ?hfit
         case hfit=>((repeat' (first|exact qB|refine qD ?_ ?_|exact qE (by rfl)|exact qF (by rfl)|exact Fit.refl _|exact qA|refine qC ?_ rfl ?_));done)
         try cbv)
      |fail)
  all_goals first
    |trivial
    |((try simp only [qV]at *);(try simp only [zQ,zA,zB,zC,zD,zE,zF,zG,zH,zI,zJ,zK,zL,zM,zN,zO,zP,zR,zS]at *);first|(refine qN ?_;omega)|(simp only [Hold];omega))
    |(subst hR;(repeat' (first|exact qA|exact qB|refine qC ?_ rfl ?_|refine qD ?_ ?_|exact qE (by rfl)|exact qF (by rfl)|exact Fit.refl _|exact qG _|(refine qE ?_;(try simp only [qV]at *);simp only [zQ,zA,zB,zC,zD,zE,zF,zG,zH,zI,zJ,zK,zL,zM,zN,zO,zP,zR,zS]at *;omega)));done)
    |(exfalso;(try simp only [Hold]at *);(try simp only [qV]at *);(try simp only [zQ,zA,zB,zC,zD,zE,zF,zG,zH,zI,zJ,zK,zL,zM,zN,zO,zP,zR,zS]at *);omega)
    |(simp only [Hold];decide)
    |skip
  refine⟨none,[⟨.tmp 14,3,1⟩,⟨.tmp 15,3,1⟩],{i:Nat // i≤cs.length},fun x=>⟨[(2,(.int .u8 (.sym fun _=>w))),(3,.own 0 0),(7,(knoS tw tm tv cs)),(9,.own 19 0),(11,(.sl 1 (.sym fun _=>zi (l).length) (fun ix=>[.int .i64 (.sym fun _=>(l).getD ix.den.toNat 0)]))),(12,.own 37 0),(14,.row 61),(15,.row 62),(16,(.int .i64 (.sym fun _=>zi x.1)))],[(0,.cells [(.sl 1 (.sym fun _=>zi (tw).length) (fun ix=>[.int .i64 (.sym fun _=>(tw).getD ix.den.toNat 0)])),(.sl 1 (.sym fun _=>zi (tm).length) (fun ix=>[.int .i64 (.sym fun _=>(tm).getD ix.den.toNat 0)])),(.sl 1 (.sym fun _=>zi (tv).length) (fun ix=>[(.sl 1 (.sym fun _=>zi ((tv).getD ix.den.toNat []).length) (fun jx=>[.int .i64 (.sym fun _=>((tv).getD ix.den.toNat []).getD jx.den.toNat 0)]))])),(.int .i64 (.sym fun _=>rate)),(.sl 5 (.sym fun _=>zi (cs).length) (fun ix=>[(.int .i64 (.sym fun _=>((cs).getD ix.den.toNat ck0).g)),(.int .i64 (.sym fun _=>((cs).getD ix.den.toNat ck0).wl)),(.int .i64 (.sym fun _=>((cs).getD ix.den.toNat ck0).wh)),(.int .i64 (.sym fun _=>((cs).getD ix.den.toNat ck0).ml)),(.int .i64 (.sym fun _=>((cs).getD ix.den.toNat ck0).mh))]))] 28),(19,.cells [(.int .i64 (.sym fun _=>dutyP rate cs (loA tw tm tv cs cs.length) cs.length)),(.int .i64 (.sym fun _=>dutyP rate cs (hiA tw tm tv cs cs.length) cs.length))] 35),(37,.cells [(.int .i64 (.sym fun _=>strP cs l (w.tmod 100) (fun j=>sLo tw tm tv (cs.getD j ck0)))),(.int .i64 (.sym fun _=>strP cs l (w.tmod 100) (fun j=>sHi tw tm tv (cs.getD j ck0))))] 35),(61,.row 3 1 (.sym fun _=>zi x.1) (fun ix=>[(.int .i64 (.sym fun _=>sLo tw tm tv (cs.getD ix.den.toNat ck0)))])),(62,.row 3 1 (.sym fun _=>zi x.1) (fun ix=>[(.int .i64 (.sym fun _=>sHi tw tm tv (cs.getD ix.den.toNat ck0)))]))],150⟩,fun x=>cs.length-x.1,?_,?_⟩
  · refine⟨⟨0,by omega⟩,?_⟩
    cbv
    repeat' (first
      |with_reducible refine hold ?_ ?_
      |with_reducible refine And.intro ?_ ?_)
    all_goals first
      |trivial
      |exact qM (qE (by rfl))
      |exact qM (qF (by rfl))
      |exact qM (Fit.refl _)
      |exact qL (qK _)
      |(refine qM (qE ?_);(try simp only [qV]at *);simp only [zQ,zA,zB,zC,zD,zE,zF,zG,zH,zI,zJ,zK,zL,zM,zN,zO,zP,zR,zS]at *;omega)
      |(refine qL (ble_row ?_ ?_);(first|rfl|((try simp only [qV]at *);(try simp only [zQ,zA,zB,zC,zD,zE,zF,zG,zH,zI,zJ,zK,zL,zM,zN,zO,zP,zR,zS]at *);omega));intro ix h0 h1;first|exact Fit.refl _|(exfalso;(try simp only [qV]at *);(try simp only [zQ,zA,zB,zC,zD,zE,zF,zG,zH,zI,zJ,zK,zL,zM,zN,zO,zP,zR,zS]at *);omega))
      |skip
  · rintro ⟨i,hi⟩
    cbv
    repeat' (first
        |with_reducible refine hold ?_ ?_
        |with_reducible refine And.intro ?_ ?_
        | (with_reducible refine qS ?_ ?_ ?_
           try cbv)
        | (with_reducible refine qT ?_ ?_
           try cbv)
        |(with_reducible intro hcd;(try simp only [zA,zB,zC,zD,zE,zF,zG,zH,zI,zJ,zK,zL,zM,zN,zO,zP]at hcd);try cbv)
        | (refine qP ?_ (c41) ?hfit
           case hfit=>((repeat' (first|exact qB|refine qD ?_ ?_|exact qE (by rfl)|exact qF (by rfl)|exact Fit.refl _|exact qA|refine qC ?_ rfl ?_));done)
           try cbv)
        | (refine qP ?_ (c21) ?hfit
           case hfit=>((repeat' (first|exact qB|refine qD ?_ ?_|exact qE (by rfl)|exact qF (by rfl)|exact Fit.refl _|exact qA|refine qC ?_ rfl ?_));done)
           try cbv)
        | (refine qP ?_ (c43) ?hfit
           case hfit=>((repeat' (first|exact qB|refine qD ?_ ?_|exact qE (by rfl)|exact qF (by rfl)|exact Fit.refl _|exact qA|refine qC ?_ rfl ?_));done)
           try cbv)
        | (refine qP ?_ (c23) ?hfit
           case hfit=>((repeat' (first|exact qB|refine qD ?_ ?_|exact qE (by rfl)|exact qF (by rfl)|exact Fit.refl _|exact qA|refine qC ?_ rfl ?_));done)
           try cbv)
        | (refine qP ?_ (c51) ?hfit
           case hfit=>((repeat' (first|exact qB|refine qD ?_ ?_|exact qE (by rfl)|exact qF (by rfl)|exact Fit.refl _|exact qA|refine qC ?_ rfl ?_));done)
           try cbv)
        | (refine qP ?_ (c22) ?hfit
           case hfit=>((repeat' (first|exact qB|refine qD ?_ ?_|exact qE (by rfl)|exact qF (by rfl)|exact Fit.refl _|exact qA|refine qC ?_ rfl ?_));done)
           try cbv)
        | (refine qP ?_ (c28) ?hfit
           case hfit=>((repeat' (first|exact qB|refine qD ?_ ?_|exact qE (by rfl)|exact qF (by rfl)|exact Fit.refl _|exact qA|refine qC ?_ rfl ?_));done)
           try cbv)
        | (refine qP ?_ (c27) ?hfit
           case hfit=>((repeat' (first|exact qB|refine qD ?_ ?_|exact qE (by rfl)|exact qF (by rfl)|exact Fit.refl _|exact qA|refine qC ?_ rfl ?_));done)
           try cbv)
        | (refine qP ?_ (c47 _ _) (by(repeat' (first|exact qB|refine qD ?_ ?_|exact qE (by rfl)|exact qF (by rfl)|exact Fit.refl _|exact qA|refine qC ?_ rfl ?_)))
           try cbv)
        | (refine qP ?_ (c44l) ?hfit
           case hfit=>((repeat' (first|exact qB|refine qD ?_ ?_|exact qE (by rfl)|exact qF (by rfl)|exact Fit.refl _|exact qA|refine qC ?_ rfl ?_));done)
           try cbv)
        | (refine qP ?_ (c44h) ?hfit
           case hfit=>((repeat' (first|exact qB|refine qD ?_ ?_|exact qE (by rfl)|exact qF (by rfl)|exact Fit.refl _|exact qA|refine qC ?_ rfl ?_));done)
           try cbv)
        | (refine qP ?_ (c46l i (show Hold _ from ?_)) ?hfit
           case hfit=>((repeat' (first|exact qB|refine qD ?_ ?_|exact qE (by rfl)|exact qF (by rfl)|exact Fit.refl _|exact qA|refine qC ?_ rfl ?_));done)
           try cbv)
        | (refine qP ?_ (c46h i (show Hold _ from ?_)) ?hfit
           case hfit=>((repeat' (first|exact qB|refine qD ?_ ?_|exact qE (by rfl)|exact qF (by rfl)|exact Fit.refl _|exact qA|refine qC ?_ rfl ?_));done)
           try cbv)
        | (refine⟨fun ix=>[(.int .i64 (.sym fun _=>sLo tw tm tv (cs.getD ix.den.toNat ck0)))],?_⟩
           cbv
           refine hold (hold_rowapp (by intro ix jx h0 h1 h2;simp only [h2];exact Fit.refl _) (by intro ix jx h0 h1 h2;(have h3:jx.den.toNat=i:=by((try simp only [qV]at *);(try simp only [zQ,zA,zB,zC,zD,zE,zF,zG,zH,zI,zJ,zK,zL,zM,zN,zO,zP,zR,zS]at *);omega));simp only [h3];(first|exact Fit.refl _|(repeat' (first|exact qA|exact Fit.refl _|exact qE (by rfl)|refine qC ?_ rfl ?_)))) (by(try simp only [qV]at *);(try simp only [zQ,zA,zB,zC,zD,zE,zF,zG,zH,zI,zJ,zK,zL,zM,zN,zO,zP,zR,zS]at *);omega)) (Or.inl ?_)
           try cbv)
        | (refine⟨fun ix=>[(.int .i64 (.sym fun _=>sHi tw tm tv (cs.getD ix.den.toNat ck0)))],?_⟩
           cbv
           refine hold (hold_rowapp (by intro ix jx h0 h1 h2;simp only [h2];exact Fit.refl _) (by intro ix jx h0 h1 h2;(have h3:jx.den.toNat=i:=by((try simp only [qV]at *);(try simp only [zQ,zA,zB,zC,zD,zE,zF,zG,zH,zI,zJ,zK,zL,zM,zN,zO,zP,zR,zS]at *);omega));simp only [h3];(first|exact Fit.refl _|(repeat' (first|exact qA|exact Fit.refl _|exact qE (by rfl)|refine qC ?_ rfl ?_)))) (by(try simp only [qV]at *);(try simp only [zQ,zA,zB,zC,zD,zE,zF,zG,zH,zI,zJ,zK,zL,zM,zN,zO,zP,zR,zS]at *);omega)) (Or.inl ?_)
           try cbv)
        | (refine⟨(61:Nat),?_⟩
           cbv)
        | (refine⟨some [],(61:Nat),?_⟩
           cbv
           refine setl_k ?_ (c28l i (show Hold _ from ?_)) (by cbv;(repeat' (first|exact qB|refine qD ?_ ?_|exact qE (by rfl)|exact qF (by rfl)|exact Fit.refl _|exact qA|refine qC ?_ rfl ?_)))
           try cbv)
        | (refine⟨some [],(62:Nat),?_⟩
           cbv
           refine setl_k ?_ (c28h i (show Hold _ from ?_)) (by cbv;(repeat' (first|exact qB|refine qD ?_ ?_|exact qE (by rfl)|exact qF (by rfl)|exact Fit.refl _|exact qA|refine qC ?_ rfl ?_)))
           try cbv)
        |fail)
    all_goals first
      |trivial
      |((try simp only [qV]at *);(try simp only [zQ,zA,zB,zC,zD,zE,zF,zG,zH,zI,zJ,zK,zL,zM,zN,zO,zP,zR,zS]at *);first|(refine qN ?_;omega)|(simp only [Hold];omega))
      |(subst hR;(repeat' (first|exact qA|exact qB|refine qC ?_ rfl ?_|refine qD ?_ ?_|exact qE (by rfl)|exact qF (by rfl)|exact Fit.refl _|exact qG _|(refine qE ?_;(try simp only [qV]at *);simp only [zQ,zA,zB,zC,zD,zE,zF,zG,zH,zI,zJ,zK,zL,zM,zN,zO,zP,zR,zS]at *;omega)));done)
      |(exact Bool.noConfusion (ht.symm.trans (by assumption:thinS tw tm tv cs=false)))
      |(exact(hcd rfl).elim)
      |(exact(hf0 (by assumption)).elim)
      |(simp only [Hold];exact⟨h35,rfl⟩)
      |(exfalso;(try simp only [Hold]at *);(try simp only [qV]at *);(try simp only [zQ,zA,zB,zC,zD,zE,zF,zG,zH,zI,zJ,zK,zL,zM,zN,zO,zP,zR,zS]at *);omega)
      |((try simp only [zQ,zA,zB,zC,zD,zE,zF,zG,zH,zI,zJ,zK,zL,zM,zN,zO,zP,zR,zS]at *);refine⟨⟨i+1,by((try simp only [qV]at *);(try simp only [zQ,zA,zB,zC,zD,zE,zF,zG,zH,zI,zJ,zK,zL,zM,zN,zO,zP,zR,zS]at *);omega)⟩,by simp only [];omega,?_⟩;cbv;(repeat' (first|with_reducible refine hold ?_ ?_|with_reducible refine And.intro ?_ ?_));(all_goals first|trivial|exact qM (qE (by rfl))|exact qM (qF (by rfl))|exact qM (Fit.refl _)|exact qL (qK _)|(refine qM (qE ?_);(try simp only [qV]at *);simp only [zQ,zA,zB,zC,zD,zE,zF,zG,zH,zI,zJ,zK,zL,zM,zN,zO,zP,zR,zS]at *;omega)|(refine qL (ble_row ?_ ?_);(first|rfl|((try simp only [qV]at *);(try simp only [zQ,zA,zB,zC,zD,zE,zF,zG,zH,zI,zJ,zK,zL,zM,zN,zO,zP,zR,zS]at *);omega));intro ix h0 h1;first|exact Fit.refl _|(exfalso;(try simp only [qV]at *);(try simp only [zQ,zA,zB,zC,zD,zE,zF,zG,zH,zI,zJ,zK,zL,zM,zN,zO,zP,zR,zS]at *);omega))|skip))
      |(simp only [Hold];decide)
      |skip
theorem law16 (tw tm:List Int)(tv:List (List Int))(rate:Int)(cs:List Csk)(b w:Int)(hb:0≤b∧b≤255)(hw:0≤w∧w≤255):FSpec Try.prog 16 [(stoS tw tm tv rate cs),(.int .u8 (.sym fun _=>b)),(.int .u8 (.sym fun _=>w))] [] (fun r _=>r = .bool (.lit true)):=by
  rcases rdy_or tw tm tv rate cs with h|h
  · have hb2:=some_blend h.some h.ok.few hb
    exact law16y tw tm tv rate cs b w h hb _ rfl hb2.1 hb2.2 hw
  · exact law16n tw tm tv rate cs b w h
end Go.Proofs.Ytkdgpdlfakcgdaa
