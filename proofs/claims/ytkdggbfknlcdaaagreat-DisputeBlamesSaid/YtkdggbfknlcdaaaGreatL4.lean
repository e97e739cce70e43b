/- DisputeBlames: what the law computes. No condition. -/
import Derived.Test.YtkdggbfknlcdaaaGreatT7
set_option linter.unusedVariables false
set_option linter.unusedSimpArgs false
set_option linter.deprecated false
set_option linter.all false

namespace Go.Proofs.YtkdggbfknlcdaaaGreat
open Go Go.Eng Go.Proofs Go.Eng.Dif Go.Eng.Few
set_option maxRecDepth 10000
theorem ubi {sz:Nat} {n m:IX} {e e':IX→List SV}(h:n.den=0)(h':m.den=0):Fit (.sl sz n e) (.sl sz m e'):=ua1 (h.trans h'.symm) (fun ix h0 h1=>by exfalso;omega)
theorem ueB {d:Dsp}(hE:ua9 d=0):Agree d.pn.toNat (okPa d) (refP d):=by
 have hF:=(uao hE).1
 have hd:=ua3.1 hF
 have p4:=hd.p4
 have hl:=ucV d d.fs
 have q:=uog (okk hd hd.f) (pt:=ptD d) (P:=d.pn.toNat) (by omega) (fun i hi=>by
  rw [hl]at hi
  have:=hd.f i hi
  unfold ubN at this
  unfold ptD
  omega) (by rw [←ueI];exact(uao hE).2)
 rw [hl]at q
 rw [uis hd]
 exact q
theorem upq {d:Dsp}(hE:ua9 d=0):umm (bsN (Few.shN d.pn.toNat (refP d) (2^d.pn.toNat)) (lsN (refP d) (2^d.pn.toNat)) (lsN (refP d) (2^d.pn.toNat)).length)=belL d:=by
 obtain⟨b,h1,h2⟩:=uu0 (ueB hE)
 rw [h1]
 show ua7 b 16=belL d
 rw [h2]
 unfold belL
 rw [if_pos hE]
theorem ule {d:Dsp}(hE:ua9 d=0):ua7 (evN d.pn.toNat (Few.shN d.pn.toNat (refP d) (2^d.pn.toNat)) (lsN (refP d) (2^d.pn.toNat)) (lsN (refP d) (2^d.pn.toNat)).length) 16=mstL d:=by
 rw [usS (ueB hE)]
 unfold mstL
 rw [if_pos hE];rfl
theorem uk7 {d:Dsp}(hE:ua9 d=0):ua7 (smN (Few.shN d.pn.toNat (refP d) (2^d.pn.toNat)) (lsN (refP d) (2^d.pn.toNat)) (lsN (refP d) (2^d.pn.toNat)).length) 16=mayL d:=by
 rw [uvJ (ueB hE)]
 unfold mayL
 rw [if_pos hE];rfl
theorem uds {d:Dsp}(h:¬ua9 d=0):belL d=[]∧mstL d=[]∧mayL d=[]:=⟨if_neg h,if_neg h,if_neg h⟩
theorem upj {d:Dsp}(hE:ua9 d=0):(belL d).length≤1000∧(mstL d).length≤1000∧(mayL d).length≤1000:=by
 have hd:=ua3.1 (uao hE).1
 have p4:=hd.p4
 have c:=fun (b:Nat)=>ugo b 16
 refine⟨?_,?_,?_⟩
 ·have:=ug2 (ueB hE).all
  unfold belL
  rw [if_pos hE]
  omega
 ·rw [←ule hE]
  exact Nat.le_trans (c _) (by decide)
 ·rw [←uk7 hE]
  exact Nat.le_trans (c _) (by decide)
theorem uwV (d:Dsp)(n:Int)(h:ueg d=false):ua0 Tryz.prog 4 [(dspS d),(iv fun _=>n)] [] (fun r _=>r=(.bool (.lit true))):=by
 have c9:=uqb (uhf d) h
 have c10:=ufr
 refine ua0.is fun R hR=>qW (sc:=sc4) tyok mix Tryz.func4 rfl Tryz.call4 (by kernel_rfl) (by kernel_rfl) ?_
 generalize Tryz.prog=P at c9 c10⊢
 cbv
 repeat' (first
  | (refine qP ?_ (c9) ?hfit
     case hfit=>((repeat' (first|exact qB|refine qD ?_ ?_|exact qE (by rfl)|exact qF (by rfl)|exact Fit.refl _|exact qA|refine qC ?_ rfl ?_));done)
     try cbv)
  | (refine qP ?_ (c10) ?hfit
     case hfit=>((repeat' (first|exact qB|refine qD ?_ ?_|exact qE (by rfl)|exact qF (by rfl)|exact Fit.refl _|exact qA|refine qC ?_ rfl ?_));done)
     try cbv)
  |fail)
 all_goals first
  |(subst hR;(repeat' (first|exact qA|exact qB|refine qC ?_ rfl ?_|refine qD ?_ ?_|exact qE (by rfl)|exact qF (by rfl)|exact Fit.refl _|exact qG _|(refine qE ?_;(try simp only [qV]at *);simp only [zQ,zA,zB,zC,zD,zE,zF,zG,zH,zI,zJ,zK,zL,zM,zN,zO,zP,zR,zS]at *;omega)));done)
  |skip
theorem uxK (d:Dsp)(n:Int)(h:ueg d=true)(hF:¬ua4 d=0):ua0 Tryz.prog 4 [(dspS d),(iv fun _=>n)] [] (fun r _=>r=(.bool (.lit true))):=by
 have c10:=ufr
 have hth:=ugk.1 h
 have c9:=ucB (uhf d) h
 have c12:=udU d hth.1 (by omega) (by omega)
 have c18:=ucR d
 have c19:=udP d
 have c20:=uep d n
 have c21:=uer d
 have hE:¬ua9 d=0:=by rw [ulX hF];exact hF
 have c14:=usK d hF
 have z:=uku (n:=n) hF
 obtain⟨e,he⟩:∃e,e=ua4 d:=⟨_,rfl⟩
 have he9:ua9 d=e:=by rw [he];exact ulX hF
 have hc9:coE d n=e:=by rw [he];exact z.1
 rw [←he]at c14 c21 hF
 have c18:=ua0.fitZ c18 (B:=(.tup [(.sl 1 (.lit 0) (fun _=>[])),(iv fun _=>e)])) (by rw [(uds hE).1];exact qD (ubi rfl rfl) (qD (qE he9) qB))
 have c19:=ua0.fitZ c19 (B:=(.tup [(.sl 1 (.lit 0) (fun _=>[])),(.sl 1 (.lit 0) (fun _=>[])),(iv fun _=>e)])) (by rw [(uds hE).2.1,(uds hE).2.2];exact qD (ubi rfl rfl) (qD (ubi rfl rfl) (qD (qE he9) qB)))
 have c20:=ua0.fitZ c20 (B:=(.tup [(.sl 1 (.lit 0) (fun _=>[])),(iv fun _=>e)])) (qD (ubi (by exact(z).2) rfl) (qD (qE hc9) qB))
 clear z he h hth hE he9 hc9
 refine ua0.is fun R hR=>qW (sc:=sc4) tyok mix Tryz.func4 rfl Tryz.call4 (by kernel_rfl) (by kernel_rfl) ?_
 generalize Tryz.prog=P at c10 c9 c12 c18 c19 c20 c14 c21⊢
 cbv
 repeat' (first
  |(with_reducible intro hcd;exfalso;(try simp only [zQ,zA,zB,zC,zD,zE,zF,zG,zH,zI,zJ,zK,zL,zM,zN,zO,zP,zR,zS]at hcd);omega)
  |with_reducible refine And.intro ?_ ?_
  |(with_reducible intro hcd;(try simp only [zA,zB,zC,zD,zE,zF,zG,zH,zI,zJ,zK,zL,zM,zN,zO,zP]at hcd);try cbv)
  | (refine qP ?_ (c9) ?hfit
     case hfit=>((repeat' (first|exact qB|refine qD ?_ ?_|exact qE (by rfl)|exact qF (by rfl)|exact Fit.refl _|exact qA|refine qC ?_ rfl ?_));done)
     try cbv)
  | (refine qP ?_ (c10) ?hfit
     case hfit=>((repeat' (first|exact qB|refine qD ?_ ?_|exact qE (by rfl)|exact qF (by rfl)|exact Fit.refl _|exact qA|refine qC ?_ rfl ?_));done)
     try cbv)
  | (refine qP ?_ (c12) ?hfit
     case hfit=>((repeat' (first|exact qB|refine qD ?_ ?_|exact qE (by rfl)|exact qF (by rfl)|exact Fit.refl _|exact qA|refine qC ?_ rfl ?_));done)
     try cbv)
  | (refine qP ?_ (c18) ?hfit
     case hfit=>((repeat' (first|exact qB|refine qD ?_ ?_|exact qE (by rfl)|exact qF (by rfl)|exact Fit.refl _|exact qA|refine qC ?_ rfl ?_));done)
     try cbv)
  | (refine qP ?_ (c19) ?hfit
     case hfit=>((repeat' (first|exact qB|refine qD ?_ ?_|exact qE (by rfl)|exact qF (by rfl)|exact Fit.refl _|exact qA|refine qC ?_ rfl ?_));done)
     try cbv)
  | (refine qP ?_ (c20) ?hfit
     case hfit=>((repeat' (first|exact qB|refine qD ?_ ?_|exact qE (by rfl)|exact qF (by rfl)|exact Fit.refl _|exact qA|refine qC ?_ rfl ?_));done)
     try cbv)
  | (refine qP ?_ (c14) ?hfit
     case hfit=>((repeat' (first|exact qB|refine qD ?_ ?_|exact qE (by rfl)|exact qF (by rfl)|exact Fit.refl _|exact qA|refine qC ?_ rfl ?_));done)
     try cbv)
  | (refine qP ?_ (c21) ?hfit
     case hfit=>((repeat' (first|exact qB|refine qD ?_ ?_|exact qE (by rfl)|exact qF (by rfl)|exact Fit.refl _|exact qA|refine qC ?_ rfl ?_));done)
     try cbv)
  |fail)
 all_goals first
  |(subst hR;(repeat' (first|exact qA|exact qB|refine qC ?_ rfl ?_|refine qD ?_ ?_|exact qE (by rfl)|exact qF (by rfl)|exact Fit.refl _|exact qG _|(refine qE ?_;(try simp only [qV]at *);simp only [zQ,zA,zB,zC,zD,zE,zF,zG,zH,zI,zJ,zK,zL,zM,zN,zO,zP,zR,zS]at *;omega)));done)
  |(exfalso;exact(by assumption:¬True) True.intro)
  |skip
theorem uxg (d:Dsp)(n:Int)(h:ueg d=true)(hF:ua4 d=0)(hE:¬ua9 d=0)(ho:0≤n∧n≤1000000):ua0 Tryz.prog 4 [(dspS d),(iv fun _=>n)] [] (fun r _=>r=(.bool (.lit true))):=by
 have c10:=ufr
 have hth:=ugk.1 h
 have c9:=ucB (uhf d) h
 have c12:=udU d hth.1 (by omega) (by omega)
 have c18:=ucR d
 have c19:=udP d
 have c20:=uep d n
 have c21:=uer d
 have c14:=uiA d hF
 have z:=uhJ (n:=n) hF (show coOk n from ho) hE
 have he9:=uq9 hF hE
 have hc9:=z.1.trans he9
 have c14:=ua0.fitZ c14 (B:=(.tup [(.sl 2 (.sym fun _=>zi (d.fs).length) (fun ix=>[(iv fun _=>((FO d d.fs).getD ix.den.toNat f0).lo),(iv fun _=>((FO d d.fs).getD ix.den.toNat f0).hi)])),(.int .i64 (.lit (9)))])) (qD (Fit.refl _) (qD (qE he9) qB))
 have c18:=ua0.fitZ c18 (B:=(.tup [(.sl 1 (.lit 0) (fun _=>[])),(.int .i64 (.lit (9)))])) (by rw [(uds hE).1];exact qD (ubi rfl rfl) (qD (qE he9) qB))
 have c19:=ua0.fitZ c19 (B:=(.tup [(.sl 1 (.lit 0) (fun _=>[])),(.sl 1 (.lit 0) (fun _=>[])),(.int .i64 (.lit (9)))])) (by rw [(uds hE).2.1,(uds hE).2.2];exact qD (ubi rfl rfl) (qD (ubi rfl rfl) (qD (qE he9) qB)))
 have c20:=ua0.fitZ c20 (B:=(.tup [(.sl 1 (.lit 0) (fun _=>[])),(.int .i64 (.lit (9)))])) (qD (ubi (by exact(z).2) rfl) (qD (qE hc9) qB))
 have c21:=ua0.fitZ c21 (B:=(.int .i64 (.lit (0)))) (qE hF)
 have c22:=(ucB (in17 n 0 1000000) (by rw [uaM];exact ho))
 clear z h hth hE he9 hc9 hF
 refine ua0.is fun R hR=>qW (sc:=sc4) tyok mix Tryz.func4 rfl Tryz.call4 (by kernel_rfl) (by kernel_rfl) ?_
 generalize Tryz.prog=P at c10 c9 c12 c18 c19 c20 c14 c21 c22⊢
 cbv
 repeat' (first
  | (refine qP ?_ (c9) ?hfit
     case hfit=>((repeat' (first|exact qB|refine qD ?_ ?_|exact qE (by rfl)|exact qF (by rfl)|exact Fit.refl _|exact qA|refine qC ?_ rfl ?_));done)
     try cbv)
  | (refine qP ?_ (c10) ?hfit
     case hfit=>((repeat' (first|exact qB|refine qD ?_ ?_|exact qE (by rfl)|exact qF (by rfl)|exact Fit.refl _|exact qA|refine qC ?_ rfl ?_));done)
     try cbv)
  | (refine qP ?_ (c12) ?hfit
     case hfit=>((repeat' (first|exact qB|refine qD ?_ ?_|exact qE (by rfl)|exact qF (by rfl)|exact Fit.refl _|exact qA|refine qC ?_ rfl ?_));done)
     try cbv)
  | (refine qP ?_ (c18) ?hfit
     case hfit=>((repeat' (first|exact qB|refine qD ?_ ?_|exact qE (by rfl)|exact qF (by rfl)|exact Fit.refl _|exact qA|refine qC ?_ rfl ?_));done)
     try cbv)
  | (refine qP ?_ (c19) ?hfit
     case hfit=>((repeat' (first|exact qB|refine qD ?_ ?_|exact qE (by rfl)|exact qF (by rfl)|exact Fit.refl _|exact qA|refine qC ?_ rfl ?_));done)
     try cbv)
  | (refine qP ?_ (c20) ?hfit
     case hfit=>((repeat' (first|exact qB|refine qD ?_ ?_|exact qE (by rfl)|exact qF (by rfl)|exact Fit.refl _|exact qA|refine qC ?_ rfl ?_));done)
     try cbv)
  | (refine qP ?_ (c14) ?hfit
     case hfit=>((repeat' (first|exact qB|refine qD ?_ ?_|exact qE (by rfl)|exact qF (by rfl)|exact Fit.refl _|exact qA|refine qC ?_ rfl ?_));done)
     try cbv)
  | (refine qP ?_ (c21) ?hfit
     case hfit=>((repeat' (first|exact qB|refine qD ?_ ?_|exact qE (by rfl)|exact qF (by rfl)|exact Fit.refl _|exact qA|refine qC ?_ rfl ?_));done)
     try cbv)
  | (refine qP ?_ (c22) ?hfit
     case hfit=>((repeat' (first|exact qB|refine qD ?_ ?_|exact qE (by rfl)|exact qF (by rfl)|exact Fit.refl _|exact qA|refine qC ?_ rfl ?_));done)
     try cbv)
  |fail)
 all_goals first
  |(subst hR;(repeat' (first|exact qA|exact qB|refine qC ?_ rfl ?_|refine qD ?_ ?_|exact qE (by rfl)|exact qF (by rfl)|exact Fit.refl _|exact qG _|(refine qE ?_;(try simp only [qV]at *);simp only [zQ,zA,zB,zC,zD,zE,zF,zG,zH,zI,zJ,zK,zL,zM,zN,zO,zP,zR,zS]at *;omega)));done)
  |skip
theorem ux2 (d:Dsp)(n:Int)(h:ueg d=true)(hF:ua4 d=0)(hE:¬ua9 d=0)(ho:¬(0≤n∧n≤1000000)):ua0 Tryz.prog 4 [(dspS d),(iv fun _=>n)] [] (fun r _=>r=(.bool (.lit true))):=by
 have c10:=ufr
 have hth:=ugk.1 h
 have c9:=ucB (uhf d) h
 have c12:=udU d hth.1 (by omega) (by omega)
 have c18:=ucR d
 have c19:=udP d
 have c20:=uep d n
 have c21:=uer d
 have c14:=uiA d hF
 have z:=um8 (n:=n) hF (show ¬coOk n from ho)
 have he9:=uq9 hF hE
 have hc9:=z.1
 have c14:=ua0.fitZ c14 (B:=(.tup [(.sl 2 (.sym fun _=>zi (d.fs).length) (fun ix=>[(iv fun _=>((FO d d.fs).getD ix.den.toNat f0).lo),(iv fun _=>((FO d d.fs).getD ix.den.toNat f0).hi)])),(.int .i64 (.lit (9)))])) (qD (Fit.refl _) (qD (qE he9) qB))
 have c18:=ua0.fitZ c18 (B:=(.tup [(.sl 1 (.lit 0) (fun _=>[])),(.int .i64 (.lit (9)))])) (by rw [(uds hE).1];exact qD (ubi rfl rfl) (qD (qE he9) qB))
 have c19:=ua0.fitZ c19 (B:=(.tup [(.sl 1 (.lit 0) (fun _=>[])),(.sl 1 (.lit 0) (fun _=>[])),(.int .i64 (.lit (9)))])) (by rw [(uds hE).2.1,(uds hE).2.2];exact qD (ubi rfl rfl) (qD (ubi rfl rfl) (qD (qE he9) qB)))
 have c20:=ua0.fitZ c20 (B:=(.tup [(.sl 1 (.lit 0) (fun _=>[])),(.int .i64 (.lit (2)))])) (qD (ubi (by exact(z).2) rfl) (qD (qE hc9) qB))
 have c21:=ua0.fitZ c21 (B:=(.int .i64 (.lit (0)))) (qE hF)
 have c22:=(uqb (in17 n 0 1000000) (by rw [uaV];exact ho))
 clear z h hth hE he9 hc9 hF
 refine ua0.is fun R hR=>qW (sc:=sc4) tyok mix Tryz.func4 rfl Tryz.call4 (by kernel_rfl) (by kernel_rfl) ?_
 generalize Tryz.prog=P at c10 c9 c12 c18 c19 c20 c14 c21 c22⊢
 cbv
 repeat' (first
  | (refine qP ?_ (c9) ?hfit
     case hfit=>((repeat' (first|exact qB|refine qD ?_ ?_|exact qE (by rfl)|exact qF (by rfl)|exact Fit.refl _|exact qA|refine qC ?_ rfl ?_));done)
     try cbv)
  | (refine qP ?_ (c10) ?hfit
     case hfit=>((repeat' (first|exact qB|refine qD ?_ ?_|exact qE (by rfl)|exact qF (by rfl)|exact Fit.refl _|exact qA|refine qC ?_ rfl ?_));done)
     try cbv)
  | (refine qP ?_ (c12) ?hfit
     case hfit=>((repeat' (first|exact qB|refine qD ?_ ?_|exact qE (by rfl)|exact qF (by rfl)|exact Fit.refl _|exact qA|refine qC ?_ rfl ?_));done)
     try cbv)
  | (refine qP ?_ (c18) ?hfit
     case hfit=>((repeat' (first|exact qB|refine qD ?_ ?_|exact qE (by rfl)|exact qF (by rfl)|exact Fit.refl _|exact qA|refine qC ?_ rfl ?_));done)
     try cbv)
  | (refine qP ?_ (c19) ?hfit
     case hfit=>((repeat' (first|exact qB|refine qD ?_ ?_|exact qE (by rfl)|exact qF (by rfl)|exact Fit.refl _|exact qA|refine qC ?_ rfl ?_));done)
     try cbv)
  | (refine qP ?_ (c20) ?hfit
     case hfit=>((repeat' (first|exact qB|refine qD ?_ ?_|exact qE (by rfl)|exact qF (by rfl)|exact Fit.refl _|exact qA|refine qC ?_ rfl ?_));done)
     try cbv)
  | (refine qP ?_ (c14) ?hfit
     case hfit=>((repeat' (first|exact qB|refine qD ?_ ?_|exact qE (by rfl)|exact qF (by rfl)|exact Fit.refl _|exact qA|refine qC ?_ rfl ?_));done)
     try cbv)
  | (refine qP ?_ (c21) ?hfit
     case hfit=>((repeat' (first|exact qB|refine qD ?_ ?_|exact qE (by rfl)|exact qF (by rfl)|exact Fit.refl _|exact qA|refine qC ?_ rfl ?_));done)
     try cbv)
  | (refine qP ?_ (c22) ?hfit
     case hfit=>((repeat' (first|exact qB|refine qD ?_ ?_|exact qE (by rfl)|exact qF (by rfl)|exact Fit.refl _|exact qA|refine qC ?_ rfl ?_));done)
     try cbv)
  |fail)
 all_goals first
  |(subst hR;(repeat' (first|exact qA|exact qB|refine qC ?_ rfl ?_|refine qD ?_ ?_|exact qE (by rfl)|exact qF (by rfl)|exact Fit.refl _|exact qG _|(refine qE ?_;(try simp only [qV]at *);simp only [zQ,zA,zB,zC,zD,zE,zF,zG,zH,zI,zJ,zK,zL,zM,zN,zO,zP,zR,zS]at *;omega)));done)
  |skip
theorem uwX (d:Dsp)(n:Int)(h:ueg d=true)(hF:ua4 d=0)(hE:ua9 d=0)(ho:0≤n∧n≤1000000):ua0 Tryz.prog 4 [(dspS d),(iv fun _=>n)] [] (fun r _=>r=(.bool (.lit true))):=by
 have c10:=ufr
 have hth:=ugk.1 h
 have c9:=ucB (uhf d) h
 have c12:=udU d hth.1 (by omega) (by omega)
 have c18:=ucR d
 have c19:=udP d
 have c20:=uep d n
 have c21:=uer d
 have hd:=ua3.1 hF
 have c14:=ua0.fitZ (uiA d hF) (B:=(.tup [(.sl 2 (.sym fun _=>zi (d.fs).length) (fun ix=>[(iv fun _=>((FO d d.fs).getD ix.den.toNat f0).lo),(iv fun _=>((FO d d.fs).getD ix.den.toNat f0).hi)])),(.int .i64 (.lit (0)))])) (qD (Fit.refl _) (qD (qE hE) qB))
 have z:=ufy (n:=n) hF (show coOk n from ho) hE
 have hl:=upj hE
 have p1:=hd.p1
 have p4:=hd.p4
 have c23:=uwa d _ hd rfl
 rw [upq hE,ule hE,uk7 hE]at c23
 rw [hE]at c18 c19
 have c24:=uu4 d n hE ho.1 ho.2
 obtain⟨g,hg⟩:∃g,g=cosF d n:=⟨_,rfl⟩
 rw [←hg]at c20 c24
 have c20:=ua0.fitZ c20 (B:=(.tup [(.sl 1 (.sym fun _=>d.pn) (fun ix=>[(iv fun _=>g ix.den.toNat)])),(.int .i64 (.lit (0)))])) (qD (ua1 z.2 fun _ _ _=>Fit.refl _) (qD (qE z.1) qB))
 have c15d:=ucB (uen d.pn.toNat d.pn.toNat g g (by omega) (by omega)) (udS rfl fun _ _=>rfl)
 clear hg
 have c18:=ua0.fitZ c18 (B:=(.tup [(iS ((belL d))),(.int .i64 (.lit (0)))])) (qD (Fit.refl _) (qD (qE rfl) qB))
 have c19:=ua0.fitZ c19 (B:=(.tup [(iS ((mstL d))),(iS ((mayL d))),(.int .i64 (.lit (0)))])) (qD (Fit.refl _) (qD (Fit.refl _) (qD (qE rfl) qB)))
 obtain⟨L1,h1⟩:∃L,L=belL d:=⟨_,rfl⟩
 obtain⟨L2,h2⟩:∃L,L=mstL d:=⟨_,rfl⟩
 obtain⟨L3,h3⟩:∃L,L=mayL d:=⟨_,rfl⟩
 rw [←h1]at c18 c23 hl
 rw [←h2]at c19 c23 hl c24
 rw [←h3]at c19 c23 hl
 have c15a:=ucB (uen L1.length L1.length (fun n=>L1.getD n 0) (fun n=>L1.getD n 0) (by omega) (by omega)) (udS rfl fun _ _=>rfl)
 have c15b:=ucB (uen L2.length L2.length (fun n=>L2.getD n 0) (fun n=>L2.getD n 0) (by omega) (by omega)) (udS rfl fun _ _=>rfl)
 have c15e:=ucB (uen L3.length L3.length (fun n=>L3.getD n 0) (fun n=>L3.getD n 0) (by omega) (by omega)) (udS rfl fun _ _=>rfl)
 have c21:=ua0.fitZ c21 (B:=(.int .i64 (.lit (0)))) (qE hF)
 have c22:=(ucB (in17 n 0 1000000) (by rw [uaM];exact ho))
 clear z h hth hE hF hd h1 h2 h3
 refine ua0.is fun R hR=>qW (sc:=sc4) tyok mix Tryz.func4 rfl Tryz.call4 (by kernel_rfl) (by kernel_rfl) ?_
 generalize Tryz.prog=P at c10 c9 c12 c18 c19 c20 c14 c21 c22 c23 c15a c15b c15e c24 c15d⊢
 cbv
 repeat' (first
  | (refine qP ?_ (c9) ?hfit
     case hfit=>((repeat' (first|exact qB|refine qD ?_ ?_|exact qE (by rfl)|exact qF (by rfl)|exact Fit.refl _|exact qA|refine qC ?_ rfl ?_));done)
     try cbv)
  | (refine qP ?_ (c10) ?hfit
     case hfit=>((repeat' (first|exact qB|refine qD ?_ ?_|exact qE (by rfl)|exact qF (by rfl)|exact Fit.refl _|exact qA|refine qC ?_ rfl ?_));done)
     try cbv)
  | (refine qP ?_ (c12) ?hfit
     case hfit=>((repeat' (first|exact qB|refine qD ?_ ?_|exact qE (by rfl)|exact qF (by rfl)|exact Fit.refl _|exact qA|refine qC ?_ rfl ?_));done)
     try cbv)
  | (refine qP ?_ (c18) ?hfit
     case hfit=>((repeat' (first|exact qB|refine qD ?_ ?_|exact qE (by rfl)|exact qF (by rfl)|exact Fit.refl _|exact qA|refine qC ?_ rfl ?_));done)
     try cbv)
  | (refine qP ?_ (c19) ?hfit
     case hfit=>((repeat' (first|exact qB|refine qD ?_ ?_|exact qE (by rfl)|exact qF (by rfl)|exact Fit.refl _|exact qA|refine qC ?_ rfl ?_));done)
     try cbv)
  | (refine qP ?_ (c20) ?hfit
     case hfit=>((repeat' (first|exact qB|refine qD ?_ ?_|exact qE (by rfl)|exact qF (by rfl)|exact Fit.refl _|exact qA|refine qC ?_ rfl ?_));done)
     try cbv)
  | (refine qP ?_ (c14) ?hfit
     case hfit=>((repeat' (first|exact qB|refine qD ?_ ?_|exact qE (by rfl)|exact qF (by rfl)|exact Fit.refl _|exact qA|refine qC ?_ rfl ?_));done)
     try cbv)
  | (refine qP ?_ (c21) ?hfit
     case hfit=>((repeat' (first|exact qB|refine qD ?_ ?_|exact qE (by rfl)|exact qF (by rfl)|exact Fit.refl _|exact qA|refine qC ?_ rfl ?_));done)
     try cbv)
  | (refine qP ?_ (c22) ?hfit
     case hfit=>((repeat' (first|exact qB|refine qD ?_ ?_|exact qE (by rfl)|exact qF (by rfl)|exact Fit.refl _|exact qA|refine qC ?_ rfl ?_));done)
     try cbv)
  | (refine qP ?_ (c23) ?hfit
     case hfit=>((repeat' (first|exact qB|refine qD ?_ ?_|exact qE (by rfl)|exact qF (by rfl)|exact Fit.refl _|exact qA|refine qC ?_ rfl ?_));done)
     try cbv)
  | (refine qP ?_ (c24) ?hfit
     case hfit=>((repeat' (first|exact qB|refine qD ?_ ?_|exact qE (by rfl)|exact qF (by rfl)|exact Fit.refl _|exact qA|refine qC ?_ rfl ?_));done)
     try cbv)
  | (refine qP ?_ (c15a) ?hfit
     case hfit=>((repeat' (first|exact qB|refine qD ?_ ?_|exact qE (by rfl)|exact qF (by rfl)|exact Fit.refl _|exact qA|refine qC ?_ rfl ?_));done)
     try cbv)
  | (refine qP ?_ (c15b) ?hfit
     case hfit=>((repeat' (first|exact qB|refine qD ?_ ?_|exact qE (by rfl)|exact qF (by rfl)|exact Fit.refl _|exact qA|refine qC ?_ rfl ?_));done)
     try cbv)
  | (refine qP ?_ (c15e) ?hfit
     case hfit=>((repeat' (first|exact qB|refine qD ?_ ?_|exact qE (by rfl)|exact qF (by rfl)|exact Fit.refl _|exact qA|refine qC ?_ rfl ?_));done)
     try cbv)
  | (refine qP ?_ c15d ?hfit
     case hfit=>(refine qD (ua1 (by((try simp only [qV]at *);(try simp only [zQ,zA,zB,zC,zD,zE,zF,zG,zH,zI,zJ,zK,zL,zM,zN,zO,zP,zR,zS]at *);omega)) (fun _ _ _=>Fit.refl _)) (qD (ua1 (by((try simp only [qV]at *);(try simp only [zQ,zA,zB,zC,zD,zE,zF,zG,zH,zI,zJ,zK,zL,zM,zN,zO,zP,zR,zS]at *);omega)) (fun _ _ _=>Fit.refl _)) qB);done)
     try cbv)
  |fail)
 all_goals first
  |(subst hR;(repeat' (first|exact qA|exact qB|refine qC ?_ rfl ?_|refine qD ?_ ?_|exact qE (by rfl)|exact qF (by rfl)|exact Fit.refl _|exact qG _|(refine qE ?_;(try simp only [qV]at *);simp only [zQ,zA,zB,zC,zD,zE,zF,zG,zH,zI,zJ,zK,zL,zM,zN,zO,zP,zR,zS]at *;omega)));done)
  |skip
theorem uxu (d:Dsp)(n:Int)(h:ueg d=true)(hF:ua4 d=0)(hE:ua9 d=0)(ho:¬(0≤n∧n≤1000000)):ua0 Tryz.prog 4 [(dspS d),(iv fun _=>n)] [] (fun r _=>r=(.bool (.lit true))):=by
 have c10:=ufr
 have hth:=ugk.1 h
 have c9:=ucB (uhf d) h
 have c12:=udU d hth.1 (by omega) (by omega)
 have c18:=ucR d
 have c19:=udP d
 have c20:=uep d n
 have c21:=uer d
 have hd:=ua3.1 hF
 have c14:=ua0.fitZ (uiA d hF) (B:=(.tup [(.sl 2 (.sym fun _=>zi (d.fs).length) (fun ix=>[(iv fun _=>((FO d d.fs).getD ix.den.toNat f0).lo),(iv fun _=>((FO d d.fs).getD ix.den.toNat f0).hi)])),(.int .i64 (.lit (0)))])) (qD (Fit.refl _) (qD (qE hE) qB))
 have z:=um8 (n:=n) hF (show ¬coOk n from ho)
 have hl:=upj hE
 have p1:=hd.p1
 have p4:=hd.p4
 have c23:=uwa d _ hd rfl
 rw [upq hE,ule hE,uk7 hE]at c23
 rw [hE]at c18 c19
 have c20:=ua0.fitZ c20 (B:=(.tup [(.sl 1 (.lit 0) (fun _=>[])),(.int .i64 (.lit (2)))])) (qD (ubi (by exact z.2) rfl) (qD (qE z.1) qB))
 have c18:=ua0.fitZ c18 (B:=(.tup [(iS ((belL d))),(.int .i64 (.lit (0)))])) (qD (Fit.refl _) (qD (qE rfl) qB))
 have c19:=ua0.fitZ c19 (B:=(.tup [(iS ((mstL d))),(iS ((mayL d))),(.int .i64 (.lit (0)))])) (qD (Fit.refl _) (qD (Fit.refl _) (qD (qE rfl) qB)))
 obtain⟨L1,h1⟩:∃L,L=belL d:=⟨_,rfl⟩
 obtain⟨L2,h2⟩:∃L,L=mstL d:=⟨_,rfl⟩
 obtain⟨L3,h3⟩:∃L,L=mayL d:=⟨_,rfl⟩
 rw [←h1]at c18 c23 hl
 rw [←h2]at c19 c23 hl
 rw [←h3]at c19 c23 hl
 have c15a:=ucB (uen L1.length L1.length (fun n=>L1.getD n 0) (fun n=>L1.getD n 0) (by omega) (by omega)) (udS rfl fun _ _=>rfl)
 have c15b:=ucB (uen L2.length L2.length (fun n=>L2.getD n 0) (fun n=>L2.getD n 0) (by omega) (by omega)) (udS rfl fun _ _=>rfl)
 have c15e:=ucB (uen L3.length L3.length (fun n=>L3.getD n 0) (fun n=>L3.getD n 0) (by omega) (by omega)) (udS rfl fun _ _=>rfl)
 have c21:=ua0.fitZ c21 (B:=(.int .i64 (.lit (0)))) (qE hF)
 have c22:=(uqb (in17 n 0 1000000) (by rw [uaV];exact ho))
 clear z h hth hE hF hd h1 h2 h3
 refine ua0.is fun R hR=>qW (sc:=sc4) tyok mix Tryz.func4 rfl Tryz.call4 (by kernel_rfl) (by kernel_rfl) ?_
 generalize Tryz.prog=P at c10 c9 c12 c18 c19 c20 c14 c21 c22 c23 c15a c15b c15e⊢
 cbv
 repeat' (first
  | (refine qP ?_ (c9) ?hfit
     case hfit=>((repeat' (first|exact qB|refine qD ?_ ?_|exact qE (by rfl)|exact qF (by rfl)|exact Fit.refl _|exact qA|refine qC ?_ rfl ?_));done)
     try cbv)
  | (refine qP ?_ (c10) ?hfit
     case hfit=>((repeat' (first|exact qB|refine qD ?_ ?_|exact qE (by rfl)|exact qF (by rfl)|exact Fit.refl _|exact qA|refine qC ?_ rfl ?_));done)
     try cbv)
  | (refine qP ?_ (c12) ?hfit
     case hfit=>((repeat' (first|exact qB|refine qD ?_ ?_|exact qE (by rfl)|exact qF (by rfl)|exact Fit.refl _|exact qA|refine qC ?_ rfl ?_));done)
     try cbv)
  | (refine qP ?_ (c18) ?hfit
     case hfit=>((repeat' (first|exact qB|refine qD ?_ ?_|exact qE (by rfl)|exact qF (by rfl)|exact Fit.refl _|exact qA|refine qC ?_ rfl ?_));done)
     try cbv)
  | (refine qP ?_ (c19) ?hfit
     case hfit=>((repeat' (first|exact qB|refine qD ?_ ?_|exact qE (by rfl)|exact qF (by rfl)|exact Fit.refl _|exact qA|refine qC ?_ rfl ?_));done)
     try cbv)
  | (refine qP ?_ (c20) ?hfit
     case hfit=>((repeat' (first|exact qB|refine qD ?_ ?_|exact qE (by rfl)|exact qF (by rfl)|exact Fit.refl _|exact qA|refine qC ?_ rfl ?_));done)
     try cbv)
  | (refine qP ?_ (c14) ?hfit
     case hfit=>((repeat' (first|exact qB|refine qD ?_ ?_|exact qE (by rfl)|exact qF (by rfl)|exact Fit.refl _|exact qA|refine qC ?_ rfl ?_));done)
     try cbv)
  | (refine qP ?_ (c21) ?hfit
     case hfit=>((repeat' (first|exact qB|refine qD ?_ ?_|exact qE (by rfl)|exact qF (by rfl)|exact Fit.refl _|exact qA|refine qC ?_ rfl ?_));done)
     try cbv)
  | (refine qP ?_ (c22) ?hfit
     case hfit=>((repeat' (first|exact qB|refine qD ?_ ?_|exact qE (by rfl)|exact qF (by rfl)|exact Fit.refl _|exact qA|refine qC ?_ rfl ?_));done)
     try cbv)
  | (refine qP ?_ (c23) ?hfit
     case hfit=>((repeat' (first|exact qB|refine qD ?_ ?_|exact qE (by rfl)|exact qF (by rfl)|exact Fit.refl _|exact qA|refine qC ?_ rfl ?_));done)
     try cbv)
  | (refine qP ?_ (c15a) ?hfit
     case hfit=>((repeat' (first|exact qB|refine qD ?_ ?_|exact qE (by rfl)|exact qF (by rfl)|exact Fit.refl _|exact qA|refine qC ?_ rfl ?_));done)
     try cbv)
  | (refine qP ?_ (c15b) ?hfit
     case hfit=>((repeat' (first|exact qB|refine qD ?_ ?_|exact qE (by rfl)|exact qF (by rfl)|exact Fit.refl _|exact qA|refine qC ?_ rfl ?_));done)
     try cbv)
  | (refine qP ?_ (c15e) ?hfit
     case hfit=>((repeat' (first|exact qB|refine qD ?_ ?_|exact qE (by rfl)|exact qF (by rfl)|exact Fit.refl _|exact qA|refine qC ?_ rfl ?_));done)
     try cbv)
  |fail)
 all_goals first
  |(subst hR;(repeat' (first|exact qA|exact qB|refine qC ?_ rfl ?_|refine qD ?_ ?_|exact qE (by rfl)|exact qF (by rfl)|exact Fit.refl _|exact qG _|(refine qE ?_;(try simp only [qV]at *);simp only [zQ,zA,zB,zC,zD,zE,zF,zG,zH,zI,zJ,zK,zL,zM,zN,zO,zP,zR,zS]at *;omega)));done)
  |skip
theorem law4 (d:Dsp)(n:Int):ua0 Tryz.prog 4 [(dspS d),(iv fun _=>n)] [] (fun r _=>r = .bool (.lit true)):=by
 cases h:ueg d with
 |false=>exact uwV d n h
 | true=>
  by_cases hF:ua4 d=0
  ·by_cases ho:0≤n∧n≤1000000
   ·by_cases hE:ua9 d=0
    ·exact uwX d n h hF hE ho
    ·exact uxg d n h hF hE ho
   ·by_cases hE:ua9 d=0
    ·exact uxu d n h hF hE ho
    ·exact ux2 d n h hF hE ho
  ·exact uxK d n h hF
end Go.Proofs.YtkdggbfknlcdaaaGreat
