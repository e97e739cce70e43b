/- Contracts of the functions that the laws come to. No condition. -/
import Derived.Test.YtkdggbfknlcdaaaT5
set_option linter.unusedVariables false
set_option linter.unusedSimpArgs false
set_option linter.deprecated false
set_option linter.all false

namespace Go.Proofs.Ytkdggbfknlcdaaa
open Go Go.Eng Go.Proofs Go.Eng.Dif Go.Eng.Few
set_option maxRecDepth 10000
theorem fit_fn {n:Int} {f:Nat→Int} {L:List Int}(hn:n=(L.length:Int))(h:∀i,i<L.length→f i=L.getD i 0):Fit (.sl 1 (.sym fun _=>n) (fun ix=>[.int .i64 (.sym fun _=>f ix.den.toNat)])) (.sl 1 (.sym fun _=>zi (L).length) (fun ix=>[.int .i64 (.sym fun _=>(L).getD ix.den.toNat 0)])):=
  fit_sl hn (fun ix h0 h1=>qC (qE (h _ (by have h2:ix.den<n:=h1;omega))) rfl qA)
theorem fit_fn2 {n:Int} {f g:Nat→Int} {L:List (Int×Int)}(hn:n=(L.length:Int))(h:∀i,i<L.length→f i=(L.getD i (0,0)).1∧g i=(L.getD i (0,0)).2):Fit (.sl 2 (.sym fun _=>n) (fun ix=>[.int .i64 (.sym fun _=>f ix.den.toNat),.int .i64 (.sym fun _=>g ix.den.toNat)])) (.sl 2 (.sym fun _=>zi (L).length) (fun ix=>[(.int .i64 (.sym fun _=>((L).getD ix.den.toNat (0,0)).1)),(.int .i64 (.sym fun _=>((L).getD ix.den.toNat (0,0)).2))])):=
  fit_sl hn (fun ix h0 h1=>qC (qE (h _ (by have h2:ix.den<n:=h1;omega)).1) rfl (qC (qE (h _ (by have h2:ix.den<n:=h1;omega)).2) rfl qA))
theorem meanX :FSpec Try.prog 13 [(dspS d3),(.int .i64 (.sym fun _=>0))] [] (fun r _=>r=(.tup [(.agg [(.int .i64 (.lit (115))),(.int .i64 (.lit (119)))]),(.int .i64 (.lit (0)))])):=
  (mean13 d3 0 (by decide)).post fun r bs h=>⟨_,by subst h;exact qD (qC (qE meanE3.2.1) rfl (qC (qE meanE3.2.2) rfl qA)) (qD (qE meanE3.1) qB),rfl⟩
theorem firstX :FSpec Try.prog 27 [(dspS d3)] [] (fun r _=>r=(.tup [(.int .i64 (.lit (1))),(.int .i64 (.lit (0)))])):=
  (first27 d3).post fun r bs h=>⟨_,by subst h;exact qD (qE firE3.2) (qD (qE firE3.1) qB),rfl⟩
theorem leaveX :FSpec Try.prog 22 [(dspS d3)] [] (fun r _=>r=(.tup [(.sl 1 (.sym fun _=>zi ([1]).length) (fun ix=>[.int .i64 (.sym fun _=>([1]).getD ix.den.toNat 0)])),(.int .i64 (.lit (0)))])):=
  (leave22 d3).post fun r bs h=>⟨_,by subst h;rw [lea3];exact qD (Fit.refl _) (qD (qE firm3) qB),rfl⟩
theorem believeX :FSpec Try.prog 23 [(dspS d3)] [] (fun r _=>r=(.tup [(.sl 1 (.sym fun _=>zi ([1]).length) (fun ix=>[.int .i64 (.sym fun _=>([1]).getD ix.den.toNat 0)])),(.int .i64 (.lit (0)))])):=
  (believe23 d3).post fun r bs h=>⟨_,by subst h;rw [bel3];exact qD (Fit.refl _) (qD (qE firm3) qB),rfl⟩
theorem blameX :FSpec Try.prog 33 [(dspS d3)] [] (fun r _=>r=(.tup [(.sl 1 (.sym fun _=>zi ([1]).length) (fun ix=>[.int .i64 (.sym fun _=>([1]).getD ix.den.toNat 0)])),(.sl 1 (.sym fun _=>zi ([1]).length) (fun ix=>[.int .i64 (.sym fun _=>([1]).getD ix.den.toNat 0)])),(.int .i64 (.lit (0)))])):=
  (blame33 d3).post fun r bs h=>⟨_,by subst h;rw [mst3,may3];exact qD (Fit.refl _) (qD (Fit.refl _) (qD (qE firm3) qB)),rfl⟩
def B2X :List (Int×Int):=[(116,119),(116,116)]
theorem boundsX :FSpec Try.prog 21 [(dspS d2)] [] (fun r _=>r=(.tup [(.sl 2 (.sym fun _=>zi (B2X).length) (fun ix=>[(.int .i64 (.sym fun _=>((B2X).getD ix.den.toNat (0,0)).1)),(.int .i64 (.sym fun _=>((B2X).getD ix.den.toNat (0,0)).2))])),(.int .i64 (.lit (0)))])):=
  (bounds21 d2).post fun r bs h=>⟨_,by subst h;exact qD (fit_fn2 (f:=loT d2 []) (g:=hiT d2 []) (L:=B2X) bnd2.2 (fun i hi=>by
    have hi:i<2:=hi
    rcases(show i=0∨i=1 by omega)with e|e<;>subst e<;>(first|exact bd2.1|exact bd2.2))) (qD (qE bnd2.1) qB),rfl⟩
theorem chargeX :FSpec Try.prog 36 [(dspS d3),(.int .i64 (.sym fun _=>0)),(.int .i64 (.sym fun _=>1000))] [] (fun r _=>r=(.tup [(.agg [(.int .i64 (.lit (116))),(.int .i64 (.lit (119)))]),(.int .i64 (.lit (0)))])):=
  (charge36 d3 0 1000).post fun r bs h=>⟨_,by subst h;exact qD (qC (qE ch3.2.1) rfl (qC (qE ch3.2.2) rfl qA)) (qD (qE ch3.1) qB),rfl⟩
theorem costs3X :FSpec Try.prog 34 [(dspS d3),(.int .i64 (.sym fun _=>100))] [] (fun r _=>r=(.tup [(.sl 1 (.sym fun _=>zi ([0,100,0]).length) (fun ix=>[.int .i64 (.sym fun _=>([0,100,0]).getD ix.den.toNat 0)])),(.int .i64 (.lit (0)))])):=
  (costs34 d3 100).post fun r bs h=>⟨_,by subst h;exact qD (fit_fn (f:=cosF d3 100) (L:=[0,100,0]) co3.2 (fun i hi=>by
    have hi:i<3:=hi
    rcases(show i=0∨i=1∨i=2 by omega)with e|e|e<;>subst e<;>(first|exact cos3.1|exact cos3.2.1|exact cos3.2.2))) (qD (qE co3.1) qB),rfl⟩
theorem costs2X :FSpec Try.prog 34 [(dspS d2),(.int .i64 (.sym fun _=>100))] [] (fun r _=>r=(.tup [(.sl 1 (.sym fun _=>zi ([34,33,33]).length) (fun ix=>[.int .i64 (.sym fun _=>([34,33,33]).getD ix.den.toNat 0)])),(.int .i64 (.lit (0)))])):=
  (costs34 d2 100).post fun r bs h=>⟨_,by subst h;exact qD (fit_fn (f:=cosF d2 100) (L:=[34,33,33]) co2.2 (fun i hi=>by
    have hi:i<3:=hi
    rcases(show i=0∨i=1∨i=2 by omega)with e|e|e<;>subst e<;>(first|exact cos2.1|exact cos2.2.1|exact cos2.2.2))) (qD (qE co2.1) qB),rfl⟩
theorem intsXa :FSpec Try.prog 26 [(.sl 1 (.sym fun _=>zi ([1]).length) (fun ix=>[.int .i64 (.sym fun _=>([1]).getD ix.den.toNat 0)])),(.sl 1 (.sym fun _=>zi ([1]).length) (fun ix=>[.int .i64 (.sym fun _=>([1]).getD ix.den.toNat 0)]))] [] (fun r _=>r=(.bool (.lit true))):=
  (ints26 1 1 (fun n=>([1]).getD n 0) (fun n=>([1]).getD n 0) (by decide) (by decide)).post fun r bs h=>⟨_,by subst h;(repeat' (first|exact qA|exact qB|refine qC ?_ rfl ?_|refine qD ?_ ?_|exact qE (by rfl)|exact qF (by rfl)|exact qE (by kernel_rfl)|exact qF (by kernel_rfl)|exact Fit.refl _|(exact qO (by rfl))|(first|(refine fit_sl (by rfl) (fun ix h0 h1=> ?_);(have h2:ix.den<2:=h1);(have hx:ix.den.toNat=0∨ix.den.toNat=1:=by omega);(rcases hx with hx|hx<;>simp only [hx]))|(refine fit_sl (by rfl) (fun ix h0 h1=> ?_);(have h2:ix.den<3:=h1);(have hx:ix.den.toNat=0∨ix.den.toNat=1∨ix.den.toNat=2:=by omega);(rcases hx with hx|hx|hx<;>simp only [hx]))|(refine fit_sl (by rfl) (fun ix h0 h1=> ?_);(have h2:ix.den<4:=h1);(have hx:ix.den.toNat=0∨ix.den.toNat=1∨ix.den.toNat=2∨ix.den.toNat=3:=by omega);(rcases hx with hx|hx|hx|hx<;>simp only [hx]))|(refine fit_sl (by rfl) (fun ix h0 h1=> ?_);(have h2:ix.den<1:=h1);(have hx:ix.den.toNat=0:=by omega);(rcases hx with hx<;>simp only [hx]))|(refine fit_sl (by rfl) (fun ix h0 h1=> ?_);(have h2:ix.den<5:=h1);(have hx:ix.den.toNat=0∨ix.den.toNat=1∨ix.den.toNat=2∨ix.den.toNat=3∨ix.den.toNat=4:=by omega);(rcases hx with hx|hx|hx|hx|hx<;>simp only [hx]))))),rfl⟩
theorem intsXb :FSpec Try.prog 26 [(.sl 1 (.sym fun _=>zi ([0,100,0]).length) (fun ix=>[.int .i64 (.sym fun _=>([0,100,0]).getD ix.den.toNat 0)])),(.sl 1 (.sym fun _=>zi ([0,100,0]).length) (fun ix=>[.int .i64 (.sym fun _=>([0,100,0]).getD ix.den.toNat 0)]))] [] (fun r _=>r=(.bool (.lit true))):=
  (ints26 3 3 (fun n=>([0,100,0]).getD n 0) (fun n=>([0,100,0]).getD n 0) (by decide) (by decide)).post fun r bs h=>⟨_,by subst h;(repeat' (first|exact qA|exact qB|refine qC ?_ rfl ?_|refine qD ?_ ?_|exact qE (by rfl)|exact qF (by rfl)|exact qE (by kernel_rfl)|exact qF (by kernel_rfl)|exact Fit.refl _|(exact qO (by rfl))|(first|(refine fit_sl (by rfl) (fun ix h0 h1=> ?_);(have h2:ix.den<2:=h1);(have hx:ix.den.toNat=0∨ix.den.toNat=1:=by omega);(rcases hx with hx|hx<;>simp only [hx]))|(refine fit_sl (by rfl) (fun ix h0 h1=> ?_);(have h2:ix.den<3:=h1);(have hx:ix.den.toNat=0∨ix.den.toNat=1∨ix.den.toNat=2:=by omega);(rcases hx with hx|hx|hx<;>simp only [hx]))|(refine fit_sl (by rfl) (fun ix h0 h1=> ?_);(have h2:ix.den<4:=h1);(have hx:ix.den.toNat=0∨ix.den.toNat=1∨ix.den.toNat=2∨ix.den.toNat=3:=by omega);(rcases hx with hx|hx|hx|hx<;>simp only [hx]))|(refine fit_sl (by rfl) (fun ix h0 h1=> ?_);(have h2:ix.den<1:=h1);(have hx:ix.den.toNat=0:=by omega);(rcases hx with hx<;>simp only [hx]))|(refine fit_sl (by rfl) (fun ix h0 h1=> ?_);(have h2:ix.den<5:=h1);(have hx:ix.den.toNat=0∨ix.den.toNat=1∨ix.den.toNat=2∨ix.den.toNat=3∨ix.den.toNat=4:=by omega);(rcases hx with hx|hx|hx|hx|hx<;>simp only [hx]))))),rfl⟩
theorem intsXc :FSpec Try.prog 26 [(.sl 1 (.sym fun _=>zi ([34,33,33]).length) (fun ix=>[.int .i64 (.sym fun _=>([34,33,33]).getD ix.den.toNat 0)])),(.sl 1 (.sym fun _=>zi ([34,33,33]).length) (fun ix=>[.int .i64 (.sym fun _=>([34,33,33]).getD ix.den.toNat 0)]))] [] (fun r _=>r=(.bool (.lit true))):=
  (ints26 3 3 (fun n=>([34,33,33]).getD n 0) (fun n=>([34,33,33]).getD n 0) (by decide) (by decide)).post fun r bs h=>⟨_,by subst h;(repeat' (first|exact qA|exact qB|refine qC ?_ rfl ?_|refine qD ?_ ?_|exact qE (by rfl)|exact qF (by rfl)|exact qE (by kernel_rfl)|exact qF (by kernel_rfl)|exact Fit.refl _|(exact qO (by rfl))|(first|(refine fit_sl (by rfl) (fun ix h0 h1=> ?_);(have h2:ix.den<2:=h1);(have hx:ix.den.toNat=0∨ix.den.toNat=1:=by omega);(rcases hx with hx|hx<;>simp only [hx]))|(refine fit_sl (by rfl) (fun ix h0 h1=> ?_);(have h2:ix.den<3:=h1);(have hx:ix.den.toNat=0∨ix.den.toNat=1∨ix.den.toNat=2:=by omega);(rcases hx with hx|hx|hx<;>simp only [hx]))|(refine fit_sl (by rfl) (fun ix h0 h1=> ?_);(have h2:ix.den<4:=h1);(have hx:ix.den.toNat=0∨ix.den.toNat=1∨ix.den.toNat=2∨ix.den.toNat=3:=by omega);(rcases hx with hx|hx|hx|hx<;>simp only [hx]))|(refine fit_sl (by rfl) (fun ix h0 h1=> ?_);(have h2:ix.den<1:=h1);(have hx:ix.den.toNat=0:=by omega);(rcases hx with hx<;>simp only [hx]))|(refine fit_sl (by rfl) (fun ix h0 h1=> ?_);(have h2:ix.den<5:=h1);(have hx:ix.den.toNat=0∨ix.den.toNat=1∨ix.den.toNat=2∨ix.den.toNat=3∨ix.den.toNat=4:=by omega);(rcases hx with hx|hx|hx|hx|hx<;>simp only [hx]))))),rfl⟩
set_option maxHeartbeats 1000000 in
theorem awake12 :FSpec Try.prog 12 [] [] (fun r _=>r=(.bool (.lit true))):=by
  have k37:=three37
  have k39:=two39
  have kmeanX:=meanX
  have kfirstX:=firstX
  have kleaveX:=leaveX
  have kbelieveX:=believeX
  have kblameX:=blameX
  have kboundsX:=boundsX
  have kchargeX:=chargeX
  have kcosts3X:=costs3X
  have kcosts2X:=costs2X
  have kintsXa:=intsXa
  have kintsXb:=intsXb
  have kintsXc:=intsXc
  have c40:= @between40
  have h33:=eqOk33
  refine FSpec.is fun R hR=>qW (sc:=sc12) tyok mix Try.func12 rfl Try.call12 (by kernel_rfl) (by kernel_rfl) ?_
  generalize Try.prog=P at k37 k39 kmeanX kfirstX kleaveX kbelieveX kblameX kboundsX kchargeX kcosts3X kcosts2X kintsXa kintsXb kintsXc c40 h33⊢
  cbv
  repeat' (first
      |with_reducible refine hold ?_ ?_
      |with_reducible refine And.intro ?_ ?_
      |(with_reducible intro hcd;(try simp only [zA,zB,zC,zD,zE,zF,zG,zH,zI,zJ,zK,zL,zM,zN,zO,zP]at hcd);try cbv)
      | (refine qP ?_ (c40 _ _) (by(repeat' (first|exact qB|refine qD ?_ ?_|exact qE (by rfl)|exact qF (by rfl)|exact Fit.refl _|exact qA|refine qC ?_ rfl ?_)))
         try cbv)
      | (refine qP ?_ (k37) ?hfit
         case hfit=>((repeat' (first|exact qA|exact qB|refine qC ?_ rfl ?_|refine qD ?_ ?_|exact qE (by rfl)|exact qF (by rfl)|exact Fit.refl _|(exact qO (by rfl))|(first|(refine fit_sl (by rfl) (fun ix h0 h1=> ?_);(have h2:ix.den<2:=h1);(have hx:ix.den.toNat=0∨ix.den.toNat=1:=by omega);(rcases hx with hx|hx<;>simp only [hx]))|(refine fit_sl (by rfl) (fun ix h0 h1=> ?_);(have h2:ix.den<3:=h1);(have hx:ix.den.toNat=0∨ix.den.toNat=1∨ix.den.toNat=2:=by omega);(rcases hx with hx|hx|hx<;>simp only [hx]))|(refine fit_sl (by rfl) (fun ix h0 h1=> ?_);(have h2:ix.den<4:=h1);(have hx:ix.den.toNat=0∨ix.den.toNat=1∨ix.den.toNat=2∨ix.den.toNat=3:=by omega);(rcases hx with hx|hx|hx|hx<;>simp only [hx]))|(refine fit_sl (by rfl) (fun ix h0 h1=> ?_);(have h2:ix.den<1:=h1);(have hx:ix.den.toNat=0:=by omega);(rcases hx with hx<;>simp only [hx]))|(refine fit_sl (by rfl) (fun ix h0 h1=> ?_);(have h2:ix.den<5:=h1);(have hx:ix.den.toNat=0∨ix.den.toNat=1∨ix.den.toNat=2∨ix.den.toNat=3∨ix.den.toNat=4:=by omega);(rcases hx with hx|hx|hx|hx|hx<;>simp only [hx])))));done)
         try cbv)
      | (refine qP ?_ (k39) ?hfit
         case hfit=>((repeat' (first|exact qA|exact qB|refine qC ?_ rfl ?_|refine qD ?_ ?_|exact qE (by rfl)|exact qF (by rfl)|exact Fit.refl _|(exact qO (by rfl))|(first|(refine fit_sl (by rfl) (fun ix h0 h1=> ?_);(have h2:ix.den<2:=h1);(have hx:ix.den.toNat=0∨ix.den.toNat=1:=by omega);(rcases hx with hx|hx<;>simp only [hx]))|(refine fit_sl (by rfl) (fun ix h0 h1=> ?_);(have h2:ix.den<3:=h1);(have hx:ix.den.toNat=0∨ix.den.toNat=1∨ix.den.toNat=2:=by omega);(rcases hx with hx|hx|hx<;>simp only [hx]))|(refine fit_sl (by rfl) (fun ix h0 h1=> ?_);(have h2:ix.den<4:=h1);(have hx:ix.den.toNat=0∨ix.den.toNat=1∨ix.den.toNat=2∨ix.den.toNat=3:=by omega);(rcases hx with hx|hx|hx|hx<;>simp only [hx]))|(refine fit_sl (by rfl) (fun ix h0 h1=> ?_);(have h2:ix.den<1:=h1);(have hx:ix.den.toNat=0:=by omega);(rcases hx with hx<;>simp only [hx]))|(refine fit_sl (by rfl) (fun ix h0 h1=> ?_);(have h2:ix.den<5:=h1);(have hx:ix.den.toNat=0∨ix.den.toNat=1∨ix.den.toNat=2∨ix.den.toNat=3∨ix.den.toNat=4:=by omega);(rcases hx with hx|hx|hx|hx|hx<;>simp only [hx])))));done)
         try cbv)
      | (refine qP ?_ (kmeanX) ?hfit
         case hfit=>((repeat' (first|exact qA|exact qB|refine qC ?_ rfl ?_|refine qD ?_ ?_|exact qE (by rfl)|exact qF (by rfl)|exact Fit.refl _|(exact qO (by rfl))|(first|(refine fit_sl (by rfl) (fun ix h0 h1=> ?_);(have h2:ix.den<2:=h1);(have hx:ix.den.toNat=0∨ix.den.toNat=1:=by omega);(rcases hx with hx|hx<;>simp only [hx]))|(refine fit_sl (by rfl) (fun ix h0 h1=> ?_);(have h2:ix.den<3:=h1);(have hx:ix.den.toNat=0∨ix.den.toNat=1∨ix.den.toNat=2:=by omega);(rcases hx with hx|hx|hx<;>simp only [hx]))|(refine fit_sl (by rfl) (fun ix h0 h1=> ?_);(have h2:ix.den<4:=h1);(have hx:ix.den.toNat=0∨ix.den.toNat=1∨ix.den.toNat=2∨ix.den.toNat=3:=by omega);(rcases hx with hx|hx|hx|hx<;>simp only [hx]))|(refine fit_sl (by rfl) (fun ix h0 h1=> ?_);(have h2:ix.den<1:=h1);(have hx:ix.den.toNat=0:=by omega);(rcases hx with hx<;>simp only [hx]))|(refine fit_sl (by rfl) (fun ix h0 h1=> ?_);(have h2:ix.den<5:=h1);(have hx:ix.den.toNat=0∨ix.den.toNat=1∨ix.den.toNat=2∨ix.den.toNat=3∨ix.den.toNat=4:=by omega);(rcases hx with hx|hx|hx|hx|hx<;>simp only [hx])))));done)
         try cbv)
      | (refine qP ?_ (kfirstX) ?hfit
         case hfit=>((repeat' (first|exact qA|exact qB|refine qC ?_ rfl ?_|refine qD ?_ ?_|exact qE (by rfl)|exact qF (by rfl)|exact Fit.refl _|(exact qO (by rfl))|(first|(refine fit_sl (by rfl) (fun ix h0 h1=> ?_);(have h2:ix.den<2:=h1);(have hx:ix.den.toNat=0∨ix.den.toNat=1:=by omega);(rcases hx with hx|hx<;>simp only [hx]))|(refine fit_sl (by rfl) (fun ix h0 h1=> ?_);(have h2:ix.den<3:=h1);(have hx:ix.den.toNat=0∨ix.den.toNat=1∨ix.den.toNat=2:=by omega);(rcases hx with hx|hx|hx<;>simp only [hx]))|(refine fit_sl (by rfl) (fun ix h0 h1=> ?_);(have h2:ix.den<4:=h1);(have hx:ix.den.toNat=0∨ix.den.toNat=1∨ix.den.toNat=2∨ix.den.toNat=3:=by omega);(rcases hx with hx|hx|hx|hx<;>simp only [hx]))|(refine fit_sl (by rfl) (fun ix h0 h1=> ?_);(have h2:ix.den<1:=h1);(have hx:ix.den.toNat=0:=by omega);(rcases hx with hx<;>simp only [hx]))|(refine fit_sl (by rfl) (fun ix h0 h1=> ?_);(have h2:ix.den<5:=h1);(have hx:ix.den.toNat=0∨ix.den.toNat=1∨ix.den.toNat=2∨ix.den.toNat=3∨ix.den.toNat=4:=by omega);(rcases hx with hx|hx|hx|hx|hx<;>simp only [hx])))));done)
         try cbv)
      | (refine qP ?_ (kleaveX) ?hfit
         case hfit=>((repeat' (first|exact qA|exact qB|refine qC ?_ rfl ?_|refine qD ?_ ?_|exact qE (by rfl)|exact qF (by rfl)|exact Fit.refl _|(exact qO (by rfl))|(first|(refine fit_sl (by rfl) (fun ix h0 h1=> ?_);(have h2:ix.den<2:=h1);(have hx:ix.den.toNat=0∨ix.den.toNat=1:=by omega);(rcases hx with hx|hx<;>simp only [hx]))|(refine fit_sl (by rfl) (fun ix h0 h1=> ?_);(have h2:ix.den<3:=h1);(have hx:ix.den.toNat=0∨ix.den.toNat=1∨ix.den.toNat=2:=by omega);(rcases hx with hx|hx|hx<;>simp only [hx]))|(refine fit_sl (by rfl) (fun ix h0 h1=> ?_);(have h2:ix.den<4:=h1);(have hx:ix.den.toNat=0∨ix.den.toNat=1∨ix.den.toNat=2∨ix.den.toNat=3:=by omega);(rcases hx with hx|hx|hx|hx<;>simp only [hx]))|(refine fit_sl (by rfl) (fun ix h0 h1=> ?_);(have h2:ix.den<1:=h1);(have hx:ix.den.toNat=0:=by omega);(rcases hx with hx<;>simp only [hx]))|(refine fit_sl (by rfl) (fun ix h0 h1=> ?_);(have h2:ix.den<5:=h1);(have hx:ix.den.toNat=0∨ix.den.toNat=1∨ix.den.toNat=2∨ix.den.toNat=3∨ix.den.toNat=4:=by omega);(rcases hx with hx|hx|hx|hx|hx<;>simp only [hx])))));done)
         try cbv)
      | (refine qP ?_ (kbelieveX) ?hfit
         case hfit=>((repeat' (first|exact qA|exact qB|refine qC ?_ rfl ?_|refine qD ?_ ?_|exact qE (by rfl)|exact qF (by rfl)|exact Fit.refl _|(exact qO (by rfl))|(first|(refine fit_sl (by rfl) (fun ix h0 h1=> ?_);(have h2:ix.den<2:=h1);(have hx:ix.den.toNat=0∨ix.den.toNat=1:=by omega);(rcases hx with hx|hx<;>simp only [hx]))|(refine fit_sl (by rfl) (fun ix h0 h1=> ?_);(have h2:ix.den<3:=h1);(have hx:ix.den.toNat=0∨ix.den.toNat=1∨ix.den.toNat=2:=by omega);(rcases hx with hx|hx|hx<;>simp only [hx]))|(refine fit_sl (by rfl) (fun ix h0 h1=> ?_);(have h2:ix.den<4:=h1);(have hx:ix.den.toNat=0∨ix.den.toNat=1∨ix.den.toNat=2∨ix.den.toNat=3:=by omega);(rcases hx with hx|hx|hx|hx<;>simp only [hx]))|(refine fit_sl (by rfl) (fun ix h0 h1=> ?_);(have h2:ix.den<1:=h1);(have hx:ix.den.toNat=0:=by omega);(rcases hx with hx<;>simp only [hx]))|(refine fit_sl (by rfl) (fun ix h0 h1=> ?_);(have h2:ix.den<5:=h1);(have hx:ix.den.toNat=0∨ix.den.toNat=1∨ix.den.toNat=2∨ix.den.toNat=3∨ix.den.toNat=4:=by omega);(rcases hx with hx|hx|hx|hx|hx<;>simp only [hx])))));done)
         try cbv)
      | (refine qP ?_ (kblameX) ?hfit
         case hfit=>((repeat' (first|exact qA|exact qB|refine qC ?_ rfl ?_|refine qD ?_ ?_|exact qE (by rfl)|exact qF (by rfl)|exact Fit.refl _|(exact qO (by rfl))|(first|(refine fit_sl (by rfl) (fun ix h0 h1=> ?_);(have h2:ix.den<2:=h1);(have hx:ix.den.toNat=0∨ix.den.toNat=1:=by omega);(rcases hx with hx|hx<;>simp only [hx]))|(refine fit_sl (by rfl) (fun ix h0 h1=> ?_);(have h2:ix.den<3:=h1);(have hx:ix.den.toNat=0∨ix.den.toNat=1∨ix.den.toNat=2:=by omega);(rcases hx with hx|hx|hx<;>simp only [hx]))|(refine fit_sl (by rfl) (fun ix h0 h1=> ?_);(have h2:ix.den<4:=h1);(have hx:ix.den.toNat=0∨ix.den.toNat=1∨ix.den.toNat=2∨ix.den.toNat=3:=by omega);(rcases hx with hx|hx|hx|hx<;>simp only [hx]))|(refine fit_sl (by rfl) (fun ix h0 h1=> ?_);(have h2:ix.den<1:=h1);(have hx:ix.den.toNat=0:=by omega);(rcases hx with hx<;>simp only [hx]))|(refine fit_sl (by rfl) (fun ix h0 h1=> ?_);(have h2:ix.den<5:=h1);(have hx:ix.den.toNat=0∨ix.den.toNat=1∨ix.den.toNat=2∨ix.den.toNat=3∨ix.den.toNat=4:=by omega);(rcases hx with hx|hx|hx|hx|hx<;>simp only [hx])))));done)
         try cbv)
      | (refine qP ?_ (kboundsX) ?hfit
         case hfit=>((repeat' (first|exact qA|exact qB|refine qC ?_ rfl ?_|refine qD ?_ ?_|exact qE (by rfl)|exact qF (by rfl)|exact Fit.refl _|(exact qO (by rfl))|(first|(refine fit_sl (by rfl) (fun ix h0 h1=> ?_);(have h2:ix.den<2:=h1);(have hx:ix.den.toNat=0∨ix.den.toNat=1:=by omega);(rcases hx with hx|hx<;>simp only [hx]))|(refine fit_sl (by rfl) (fun ix h0 h1=> ?_);(have h2:ix.den<3:=h1);(have hx:ix.den.toNat=0∨ix.den.toNat=1∨ix.den.toNat=2:=by omega);(rcases hx with hx|hx|hx<;>simp only [hx]))|(refine fit_sl (by rfl) (fun ix h0 h1=> ?_);(have h2:ix.den<4:=h1);(have hx:ix.den.toNat=0∨ix.den.toNat=1∨ix.den.toNat=2∨ix.den.toNat=3:=by omega);(rcases hx with hx|hx|hx|hx<;>simp only [hx]))|(refine fit_sl (by rfl) (fun ix h0 h1=> ?_);(have h2:ix.den<1:=h1);(have hx:ix.den.toNat=0:=by omega);(rcases hx with hx<;>simp only [hx]))|(refine fit_sl (by rfl) (fun ix h0 h1=> ?_);(have h2:ix.den<5:=h1);(have hx:ix.den.toNat=0∨ix.den.toNat=1∨ix.den.toNat=2∨ix.den.toNat=3∨ix.den.toNat=4:=by omega);(rcases hx with hx|hx|hx|hx|hx<;>simp only [hx])))));done)
         try cbv)
      | (refine qP ?_ (kchargeX) ?hfit
         case hfit=>((repeat' (first|exact qA|exact qB|refine qC ?_ rfl ?_|refine qD ?_ ?_|exact qE (by rfl)|exact qF (by rfl)|exact Fit.refl _|(exact qO (by rfl))|(first|(refine fit_sl (by rfl) (fun ix h0 h1=> ?_);(have h2:ix.den<2:=h1);(have hx:ix.den.toNat=0∨ix.den.toNat=1:=by omega);(rcases hx with hx|hx<;>simp only [hx]))|(refine fit_sl (by rfl) (fun ix h0 h1=> ?_);(have h2:ix.den<3:=h1);(have hx:ix.den.toNat=0∨ix.den.toNat=1∨ix.den.toNat=2:=by omega);(rcases hx with hx|hx|hx<;>simp only [hx]))|(refine fit_sl (by rfl) (fun ix h0 h1=> ?_);(have h2:ix.den<4:=h1);(have hx:ix.den.toNat=0∨ix.den.toNat=1∨ix.den.toNat=2∨ix.den.toNat=3:=by omega);(rcases hx with hx|hx|hx|hx<;>simp only [hx]))|(refine fit_sl (by rfl) (fun ix h0 h1=> ?_);(have h2:ix.den<1:=h1);(have hx:ix.den.toNat=0:=by omega);(rcases hx with hx<;>simp only [hx]))|(refine fit_sl (by rfl) (fun ix h0 h1=> ?_);(have h2:ix.den<5:=h1);(have hx:ix.den.toNat=0∨ix.den.toNat=1∨ix.den.toNat=2∨ix.den.toNat=3∨ix.den.toNat=4:=by omega);(rcases hx with hx|hx|hx|hx|hx<;>simp only [hx])))));done)
         try cbv)
      | (refine qP ?_ (kcosts3X) ?hfit
         case hfit=>((repeat' (first|exact qA|exact qB|refine qC ?_ rfl ?_|refine qD ?_ ?_|exact qE (by rfl)|exact qF (by rfl)|exact Fit.refl _|(exact qO (by rfl))|(first|(refine fit_sl (by rfl) (fun ix h0 h1=> ?_);(have h2:ix.den<2:=h1);(have hx:ix.den.toNat=0∨ix.den.toNat=1:=by omega);(rcases hx with hx|hx<;>simp only [hx]))|(refine fit_sl (by rfl) (fun ix h0 h1=> ?_);(have h2:ix.den<3:=h1);(have hx:ix.den.toNat=0∨ix.den.toNat=1∨ix.den.toNat=2:=by omega);(rcases hx with hx|hx|hx<;>simp only [hx]))|(refine fit_sl (by rfl) (fun ix h0 h1=> ?_);(have h2:ix.den<4:=h1);(have hx:ix.den.toNat=0∨ix.den.toNat=1∨ix.den.toNat=2∨ix.den.toNat=3:=by omega);(rcases hx with hx|hx|hx|hx<;>simp only [hx]))|(refine fit_sl (by rfl) (fun ix h0 h1=> ?_);(have h2:ix.den<1:=h1);(have hx:ix.den.toNat=0:=by omega);(rcases hx with hx<;>simp only [hx]))|(refine fit_sl (by rfl) (fun ix h0 h1=> ?_);(have h2:ix.den<5:=h1);(have hx:ix.den.toNat=0∨ix.den.toNat=1∨ix.den.toNat=2∨ix.den.toNat=3∨ix.den.toNat=4:=by omega);(rcases hx with hx|hx|hx|hx|hx<;>simp only [hx])))));done)
         try cbv)
      | (refine qP ?_ (kcosts2X) ?hfit
         case hfit=>((repeat' (first|exact qA|exact qB|refine qC ?_ rfl ?_|refine qD ?_ ?_|exact qE (by rfl)|exact qF (by rfl)|exact Fit.refl _|(exact qO (by rfl))|(first|(refine fit_sl (by rfl) (fun ix h0 h1=> ?_);(have h2:ix.den<2:=h1);(have hx:ix.den.toNat=0∨ix.den.toNat=1:=by omega);(rcases hx with hx|hx<;>simp only [hx]))|(refine fit_sl (by rfl) (fun ix h0 h1=> ?_);(have h2:ix.den<3:=h1);(have hx:ix.den.toNat=0∨ix.den.toNat=1∨ix.den.toNat=2:=by omega);(rcases hx with hx|hx|hx<;>simp only [hx]))|(refine fit_sl (by rfl) (fun ix h0 h1=> ?_);(have h2:ix.den<4:=h1);(have hx:ix.den.toNat=0∨ix.den.toNat=1∨ix.den.toNat=2∨ix.den.toNat=3:=by omega);(rcases hx with hx|hx|hx|hx<;>simp only [hx]))|(refine fit_sl (by rfl) (fun ix h0 h1=> ?_);(have h2:ix.den<1:=h1);(have hx:ix.den.toNat=0:=by omega);(rcases hx with hx<;>simp only [hx]))|(refine fit_sl (by rfl) (fun ix h0 h1=> ?_);(have h2:ix.den<5:=h1);(have hx:ix.den.toNat=0∨ix.den.toNat=1∨ix.den.toNat=2∨ix.den.toNat=3∨ix.den.toNat=4:=by omega);(rcases hx with hx|hx|hx|hx|hx<;>simp only [hx])))));done)
         try cbv)
      | (refine qP ?_ (kintsXb) ?hfit
         case hfit=>((repeat' (first|exact qA|exact qB|refine qC ?_ rfl ?_|refine qD ?_ ?_|exact qE (by rfl)|exact qF (by rfl)|exact Fit.refl _|(exact qO (by rfl))|(first|(refine fit_sl (by rfl) (fun ix h0 h1=> ?_);(have h2:ix.den<2:=h1);(have hx:ix.den.toNat=0∨ix.den.toNat=1:=by omega);(rcases hx with hx|hx<;>simp only [hx]))|(refine fit_sl (by rfl) (fun ix h0 h1=> ?_);(have h2:ix.den<3:=h1);(have hx:ix.den.toNat=0∨ix.den.toNat=1∨ix.den.toNat=2:=by omega);(rcases hx with hx|hx|hx<;>simp only [hx]))|(refine fit_sl (by rfl) (fun ix h0 h1=> ?_);(have h2:ix.den<4:=h1);(have hx:ix.den.toNat=0∨ix.den.toNat=1∨ix.den.toNat=2∨ix.den.toNat=3:=by omega);(rcases hx with hx|hx|hx|hx<;>simp only [hx]))|(refine fit_sl (by rfl) (fun ix h0 h1=> ?_);(have h2:ix.den<1:=h1);(have hx:ix.den.toNat=0:=by omega);(rcases hx with hx<;>simp only [hx]))|(refine fit_sl (by rfl) (fun ix h0 h1=> ?_);(have h2:ix.den<5:=h1);(have hx:ix.den.toNat=0∨ix.den.toNat=1∨ix.den.toNat=2∨ix.den.toNat=3∨ix.den.toNat=4:=by omega);(rcases hx with hx|hx|hx|hx|hx<;>simp only [hx])))));done)
         try cbv)
      | (refine qP ?_ (kintsXc) ?hfit
         case hfit=>((repeat' (first|exact qA|exact qB|refine qC ?_ rfl ?_|refine qD ?_ ?_|exact qE (by rfl)|exact qF (by rfl)|exact Fit.refl _|(exact qO (by rfl))|(first|(refine fit_sl (by rfl) (fun ix h0 h1=> ?_);(have h2:ix.den<2:=h1);(have hx:ix.den.toNat=0∨ix.den.toNat=1:=by omega);(rcases hx with hx|hx<;>simp only [hx]))|(refine fit_sl (by rfl) (fun ix h0 h1=> ?_);(have h2:ix.den<3:=h1);(have hx:ix.den.toNat=0∨ix.den.toNat=1∨ix.den.toNat=2:=by omega);(rcases hx with hx|hx|hx<;>simp only [hx]))|(refine fit_sl (by rfl) (fun ix h0 h1=> ?_);(have h2:ix.den<4:=h1);(have hx:ix.den.toNat=0∨ix.den.toNat=1∨ix.den.toNat=2∨ix.den.toNat=3:=by omega);(rcases hx with hx|hx|hx|hx<;>simp only [hx]))|(refine fit_sl (by rfl) (fun ix h0 h1=> ?_);(have h2:ix.den<1:=h1);(have hx:ix.den.toNat=0:=by omega);(rcases hx with hx<;>simp only [hx]))|(refine fit_sl (by rfl) (fun ix h0 h1=> ?_);(have h2:ix.den<5:=h1);(have hx:ix.den.toNat=0∨ix.den.toNat=1∨ix.den.toNat=2∨ix.den.toNat=3∨ix.den.toNat=4:=by omega);(rcases hx with hx|hx|hx|hx|hx<;>simp only [hx])))));done)
         try cbv)
      | (refine⟨none,?_⟩
         refine qR ?_ (kintsXa) rfl ?hfit
         case hfit=>(cbv;(repeat' (first|exact qA|exact qB|refine qC ?_ rfl ?_|refine qD ?_ ?_|exact qE (by rfl)|exact qF (by rfl)|exact Fit.refl _|(exact qO (by rfl))|(first|(refine fit_sl (by rfl) (fun ix h0 h1=> ?_);(have h2:ix.den<2:=h1);(have hx:ix.den.toNat=0∨ix.den.toNat=1:=by omega);(rcases hx with hx|hx<;>simp only [hx]))|(refine fit_sl (by rfl) (fun ix h0 h1=> ?_);(have h2:ix.den<3:=h1);(have hx:ix.den.toNat=0∨ix.den.toNat=1∨ix.den.toNat=2:=by omega);(rcases hx with hx|hx|hx<;>simp only [hx]))|(refine fit_sl (by rfl) (fun ix h0 h1=> ?_);(have h2:ix.den<4:=h1);(have hx:ix.den.toNat=0∨ix.den.toNat=1∨ix.den.toNat=2∨ix.den.toNat=3:=by omega);(rcases hx with hx|hx|hx|hx<;>simp only [hx]))|(refine fit_sl (by rfl) (fun ix h0 h1=> ?_);(have h2:ix.den<1:=h1);(have hx:ix.den.toNat=0:=by omega);(rcases hx with hx<;>simp only [hx]))|(refine fit_sl (by rfl) (fun ix h0 h1=> ?_);(have h2:ix.den<5:=h1);(have hx:ix.den.toNat=0∨ix.den.toNat=1∨ix.den.toNat=2∨ix.den.toNat=3∨ix.den.toNat=4:=by omega);(rcases hx with hx|hx|hx|hx|hx<;>simp only [hx])))));done)
         try cbv)
      |fail)
  all_goals first
    |trivial
    |(subst hR;(repeat' (first|exact qA|exact qB|refine qC ?_ rfl ?_|refine qD ?_ ?_|exact qE (by rfl)|exact qF (by rfl)|exact Fit.refl _|exact qG _|(refine qE ?_;(try simp only [qV]at *);simp only [zQ,zA,zB,zC,zD,zE,zF,zG,zH,zI,zJ,zK,zL,zM,zN,zO,zP,zR,zS]at *;omega)));done)
    |skip
end Go.Proofs.Ytkdggbfknlcdaaa

namespace Go.Proofs.Ytkdggbfknlcdaaa
open Go Go.Eng Go.Proofs
set_option maxRecDepth 10000
theorem table61 (tw tm:List Int)(tv:List (List Int))(hT:ThinT tw tm tv):FSpec Try.prog 46 [(.agg [(.sl 1 (.sym fun _=>zi (tw).length) (fun ix=>[.int .i64 (.sym fun _=>(tw).getD ix.den.toNat 0)])),(.sl 1 (.sym fun _=>zi (tm).length) (fun ix=>[.int .i64 (.sym fun _=>(tm).getD ix.den.toNat 0)])),(.sl 1 (.sym fun _=>zi (tv).length) (fun ix=>[(.sl 1 (.sym fun _=>zi ((tv).getD ix.den.toNat []).length) (fun jx=>[.int .i64 (.sym fun _=>((tv).getD ix.den.toNat []).getD jx.den.toNat 0)]))]))])] [] (fun r _=>r=(.agg [(.sl 1 (.sym fun _=>zi (tw).length) (fun ix=>[.int .i64 (.sym fun _=>(tw).getD ix.den.toNat 0)])),(.sl 1 (.sym fun _=>zi (tm).length) (fun ix=>[.int .i64 (.sym fun _=>(tm).getD ix.den.toNat 0)])),(.sl 1 (.sym fun _=>zi (tv).length) (fun ix=>[(.sl 1 (.sym fun _=>zi ((tv).getD ix.den.toNat []).length) (fun jx=>[.int .i64 (.sym fun _=>((tv).getD ix.den.toNat []).getD jx.den.toNat 0)]))]))])):=by
  have c87w:=list87 tw (by have:=hT.w;omega)
  have c87m:=list87 tm (by have:=hT.m;omega)
  have c87r:=fun (i:Nat) (hi:i<tv.length)=>list87 (tv.getD i []) (by have:=hT.r i hi;omega)
  refine FSpec.is fun R hR=>qW (sc:=sc46) tyok mix Try.func46 rfl Try.call46 (by kernel_rfl) (by kernel_rfl) ?_
  generalize Try.prog=P at c87w c87m c87r⊢
  cbv
  repeat' (first
      | (refine qP ?_ (c87w) ?hfit
         case hfit=>((repeat' (first|exact qB|refine qD ?_ ?_|exact qE (by rfl)|exact qF (by rfl)|exact Fit.refl _|exact qA|refine qC ?_ rfl ?_));done)
         try cbv)
      | (refine qP ?_ (c87m) ?hfit
         case hfit=>((repeat' (first|exact qB|refine qD ?_ ?_|exact qE (by rfl)|exact qF (by rfl)|exact Fit.refl _|exact qA|refine qC ?_ rfl ?_));done)
         try cbv)
      |fail)
  all_goals first
    |skip
  refine⟨none,[⟨.cell 9 2,22,1⟩],{i:Nat // i≤tv.length},fun x=>⟨[(1,.own 0 0),(2,.own 1 0),(3,.own 9 0),(4,(.int .i64 (.sym fun _=>zi x.1)))],[(0,.cells [(.sl 1 (.sym fun _=>zi (tw).length) (fun ix=>[.int .i64 (.sym fun _=>(tw).getD ix.den.toNat 0)])),(.sl 1 (.sym fun _=>zi (tm).length) (fun ix=>[.int .i64 (.sym fun _=>(tm).getD ix.den.toNat 0)])),(.sl 1 (.sym fun _=>zi (tv).length) (fun ix=>[(.sl 1 (.sym fun _=>zi ((tv).getD ix.den.toNat []).length) (fun jx=>[.int .i64 (.sym fun _=>((tv).getD ix.den.toNat []).getD jx.den.toNat 0)]))]))] 25),(1,.cells [.val (.slice none 0 0),.val (.slice none 0 0),.val (.slice none 0 0)] 37),(9,.cells [(.sl 1 (.sym fun _=>zi (tw).length) (fun ix=>[.int .i64 (.sym fun _=>(tw).getD ix.den.toNat 0)])),(.sl 1 (.sym fun _=>zi (tm).length) (fun ix=>[.int .i64 (.sym fun _=>(tm).getD ix.den.toNat 0)])),.row 12] 37),(12,.row 22 1 (.sym fun _=>zi x.1) (fun ix=>[(.sl 1 (.sym fun _=>zi (tv.getD ix.den.toNat []).length) (fun jx=>[.int .i64 (.sym fun _=>(tv.getD ix.den.toNat []).getD jx.den.toNat 0)]))]))],60⟩,fun x=>tv.length-x.1,?_,?_⟩
  · refine⟨⟨0,by omega⟩,?_⟩
    cbv
    repeat' (first
      |with_reducible refine hold ?_ ?_
      |with_reducible refine And.intro ?_ ?_)
    all_goals first
      |trivial
      |exact qM (qE (by rfl))
      |exact qM (Fit.refl _)
      |exact qL (qK _)
      |(refine qL (ble_row ?_ ?_);(first|rfl|((try simp only [qV]at *);(try simp only [zQ,zA,zB,zC,zD,zE,zF,zG,zH,zI,zJ,zK,zL,zM,zN,zO,zP,zR,zS]at *);omega));intro ix h0 h1;first|exact Fit.refl _|(exfalso;(try simp only [qV]at *);(try simp only [zQ,zA,zB,zC,zD,zE,zF,zG,zH,zI,zJ,zK,zL,zM,zN,zO,zP,zR,zS]at *);omega))
      |skip
  · rintro ⟨i,hi⟩
    cbv
    have tv8:=hT.v
    repeat' (first
        |with_reducible refine hold ?_ ?_
        |with_reducible refine And.intro ?_ ?_
        |(with_reducible intro hcd;(try simp only [zA,zB,zC,zD,zE,zF,zG,zH,zI,zJ,zK,zL,zM,zN,zO,zP]at hcd);try cbv)
        | (refine qP ?_ (c87r i (show Hold _ from ?_)) ?hfit
           case hfit=>((repeat' (first|exact qB|refine qD ?_ ?_|exact qE (by rfl)|exact qF (by rfl)|exact Fit.refl _|exact qA|refine qC ?_ rfl ?_));done)
           try cbv)
        | (refine⟨fun ix=>[(.sl 1 (.sym fun _=>zi (tv.getD ix.den.toNat []).length) (fun jx=>[.int .i64 (.sym fun _=>(tv.getD ix.den.toNat []).getD jx.den.toNat 0)]))],?_⟩
           cbv
           refine hold (hold_rowapp (by intro ix jx h0 h1 h2;simp only [h2];exact Fit.refl _) (by intro ix jx h0 h1 h2;(have h3:jx.den.toNat=i:=by((try simp only [qV]at *);(try simp only [zQ,zA,zB,zC,zD,zE,zF,zG,zH,zI,zJ,zK,zL,zM,zN,zO,zP,zR,zS]at *);omega));simp only [h3];(first|exact Fit.refl _|(repeat' (first|exact qA|exact Fit.refl _|exact qE (by rfl)|refine qC ?_ rfl ?_)))) (by(try simp only [qV]at *);(try simp only [zQ,zA,zB,zC,zD,zE,zF,zG,zH,zI,zJ,zK,zL,zM,zN,zO,zP,zR,zS]at *);omega)) (Or.inl ?_)
           try cbv)
        |fail)
    all_goals first
      |((try simp only [qV]at *);(try simp only [zQ,zA,zB,zC,zD,zE,zF,zG,zH,zI,zJ,zK,zL,zM,zN,zO,zP,zR,zS]at *);first|(refine qN ?_;omega)|(simp only [Hold];omega))
      |(subst hR;(have hie:i=tv.length:=by((try simp only [qV]at *);(try simp only [zQ,zA,zB,zC,zD,zE,zF,zG,zH,zI,zJ,zK,zL,zM,zN,zO,zP,zR,zS]at *);omega));subst hie;(repeat' (first|exact qA|exact Fit.refl _|exact qE (by rfl)|refine qC ?_ rfl ?_));done;done)
      |((try simp only [zQ,zA,zB,zC,zD,zE,zF,zG,zH,zI,zJ,zK,zL,zM,zN,zO,zP,zR,zS]at *);refine⟨⟨i+1,by omega⟩,by simp only [];omega,?_⟩;cbv;(repeat' (first|with_reducible refine hold ?_ ?_|with_reducible refine And.intro ?_ ?_));(all_goals first|trivial|exact qM (qE (by rfl))|exact qM (qF (by rfl))|exact qM (Fit.refl _)|exact qL (qK _)|(refine qM (qE ?_);(try simp only [qV]at *);simp only [zQ,zA,zB,zC,zD,zE,zF,zG,zH,zI,zJ,zK,zL,zM,zN,zO,zP,zR,zS]at *;omega)|(refine qL (ble_row ?_ ?_);(first|rfl|((try simp only [qV]at *);(try simp only [zQ,zA,zB,zC,zD,zE,zF,zG,zH,zI,zJ,zK,zL,zM,zN,zO,zP,zR,zS]at *);omega));intro ix h0 h1;first|exact Fit.refl _|(exfalso;(try simp only [qV]at *);(try simp only [zQ,zA,zB,zC,zD,zE,zF,zG,zH,zI,zJ,zK,zL,zM,zN,zO,zP,zR,zS]at *);omega))|skip))
      |skip
theorem rising_le {l:List Int} {most:Int}(h:rising l most=true) {i j:Nat}(hij:i≤j)(hj:j<l.length):l.getD i 0≤l.getD j 0:=by
  by_cases e:i=j
  · subst e;exact Int.le_refl _
  · exact Int.le_of_lt (rising_lt h (by omega) hj)
theorem round_law {n q:Int}(hq:0<q)(hn:0≤n):(2*n+q)/(2*q)=if q≤2*(n-n/q*q)then n/q+1 else n/q:=by
  have h1:=Int.emod_add_mul_ediv n q
  have h2:=Int.emod_nonneg n (show q≠0 by omega)
  have h3:=Int.emod_lt_of_pos n hq
  have e:n-n/q*q=n%q:=by rw [Int.mul_comm];omega
  rw [e]
  have key:∀k r:Int,n=q*k+r→0≤r→r<q→(2*n+q)/(2*q)=if q≤2*r then k+1 else k:=fun k r hk h0 hr=>by
    split
    · rename_i hle
      have:2*n+q=(2*r-q)+(k+1)*(2*q):=by
        have h5:(k+1)*(2*q)=2*(q*k)+2*q:=by rw [Int.add_mul,Int.one_mul,Int.mul_left_comm,Int.mul_comm k q]
        omega
      rw [this,Int.add_mul_ediv_right _ _ (by omega),Int.ediv_eq_zero_of_lt (by omega) (by omega)]
      omega
    · rename_i hle
      have:2*n+q=(2*r+q)+k*(2*q):=by
        have h5:k*(2*q)=2*(q*k):=by rw [Int.mul_left_comm,Int.mul_comm k q]
        omega
      rw [this,Int.add_mul_ediv_right _ _ (by omega),Int.ediv_eq_zero_of_lt (by omega) (by omega)]
      omega
  exact key (n/q) (n%q) (by omega) h2 h3
theorem IsB.unique {f:Int→Int→Int} {wl wh ml mh lo hi lo' hi':Int}(h:IsB f wl wh ml mh lo hi)(h':IsB f wl wh ml mh lo' hi'):lo=lo'∧hi=hi':=by
  obtain⟨w1,m1,a1,a2,a3,a4,a5⟩:=h.lo
  obtain⟨w2,m2,b1,b2,b3,b4,b5⟩:=h'.lo
  obtain⟨w3,m3,c1,c2,c3,c4,c5⟩:=h.hi
  obtain⟨w4,m4,d1,d2,d3,d4,d5⟩:=h'.hi
  have q1:=h.le w2 m2 b1 b2 b3 b4
  have q2:=h'.le w1 m1 a1 a2 a3 a4
  have q3:=h.le w4 m4 d1 d2 d3 d4
  have q4:=h'.le w3 m3 c1 c2 c3 c4
  omega
theorem cell_unique {l:List Int} {most n:Int}(hr:rising l most=true) {i j:Nat}(hi:InCell l n i)(hj:InCell l n j):i=j:=by
  have key:∀{i j:Nat},InCell l n i→InCell l n j→¬i<j:=fun {i j} hi hj hlt=>by
    have h1:=hi.hi
    have h2:=hj.lt
    have h3:=hj.lo
    have:=rising_le hr (i:=i+1) (j:=j) (by omega) (by omega)
    rcases h1 with h1|h1<;>omega
  have a:=key hi hj
  have b:=key hj hi
  omega
set_option maxHeartbeats 1000000 in
theorem at95 (tw tm:List Int)(tv:List (List Int))(w m:Int)(h:TOk tw tm tv∧Pt tw tm w m):FSpec Try.prog 86 [(.agg [(.sl 1 (.sym fun _=>zi (tw).length) (fun ix=>[.int .i64 (.sym fun _=>(tw).getD ix.den.toNat 0)])),(.sl 1 (.sym fun _=>zi (tm).length) (fun ix=>[.int .i64 (.sym fun _=>(tm).getD ix.den.toNat 0)])),(.sl 1 (.sym fun _=>zi (tv).length) (fun ix=>[(.sl 1 (.sym fun _=>zi ((tv).getD ix.den.toNat []).length) (fun jx=>[.int .i64 (.sym fun _=>((tv).getD ix.den.toNat []).getD jx.den.toNat 0)]))]))]),(.int .i64 (.sym fun _=>w)),(.int .i64 (.sym fun _=>m))] [] (fun r _=>r=(.int .i64 (.sym fun _=>atS tw tm tv w m))):=by
  obtain⟨h,hp⟩:=h
  have d1:=h.w5;have d2:=h.m5;have d3:=h.w2;have d4:=h.m2
  have e:=h.len
  have q0:=hp.w0;have q1:=hp.w1;have q2:=hp.m0;have q3:=hp.m1
  refine FSpec.is fun R hR=>qW (sc:=sc86) tyok mix Try.func86 rfl Try.call86 (by kernel_rfl) (by kernel_rfl) ?_
  generalize Try.prog=P
  cbv
  repeat' (first
      |with_reducible refine hold ?_ ?_
      |(with_reducible intro hcd;(try simp only [zi_den,zA,zB,zC,zD,zE,zF,zG,zH,zI,zJ,zK,zL,zM,zN,zO,zP]at hcd);try cbv))
  all_goals first
    |((try simp only [zi_den,zA,zB,zC,zD,zE,zF,zG,zH,zI,zJ,zK,zL,zM,zN,zO,zP]at⊢);first|(refine qN ?_;omega)|(simp only [Hold];omega))
    |skip
  refine⟨none,[],{i:Nat // i+2≤tw.length∧(i+2=tw.length∨w<tw.getD (i+1) 0)},fun x=>⟨[(3,.own 0 0),(1,(.int .i64 (.sym fun _=>w))),(2,(.int .i64 (.sym fun _=>m))),(7,(.int .i64 (.sym fun _=>zi x.1))),(8,(.int .i64 (.sym fun _=>zi (tm.length-2))))],[(0,.cells [(.sl 1 (.sym fun _=>zi (tw).length) (fun ix=>[.int .i64 (.sym fun _=>(tw).getD ix.den.toNat 0)])),(.sl 1 (.sym fun _=>zi (tm).length) (fun ix=>[.int .i64 (.sym fun _=>(tm).getD ix.den.toNat 0)])),(.sl 1 (.sym fun _=>zi (tv).length) (fun ix=>[(.sl 1 (.sym fun _=>zi ((tv).getD ix.den.toNat []).length) (fun jx=>[.int .i64 (.sym fun _=>((tv).getD ix.den.toNat []).getD jx.den.toNat 0)]))]))] 25)],12⟩,fun x=>x.1,?_,?_⟩
  · obtain⟨i0,ei0⟩:∃i0,i0=tw.length-2:=⟨_,rfl⟩
    refine⟨⟨i0,by omega,by omega⟩,?_⟩
    cbv
    repeat' (first
      |with_reducible refine hold ?_ ?_
      |with_reducible refine And.intro ?_ ?_)
    all_goals first
      |trivial
      |exact qM (qE (by rfl))
      |exact qM (Fit.refl _)
      |exact qL (qK _)
      |(refine qM (qE ?_);simp only [zi_den,zA,zB,zC,zD,zE,zF,zG,zH,zI,zJ,zK,zL,zM,zN,zO,zP];omega)
      |skip
  · rintro ⟨i, hi1,hi2⟩
    cbv
    have ei:(i:Int).toNat=i:=by omega
    repeat' (first
        |with_reducible refine hold ?_ ?_
        |with_reducible refine And.intro ?_ ?_
        |(with_reducible intro hcd;(try simp only [zi_den,zA,zB,zC,zD,zE,zF,zG,zH,zI,zJ,zK,zL,zM,zN,zO,zP,ei]at hcd);try cbv))
    all_goals first
      |((try simp only [zi_den,zA,zB,zC,zD,zE,zF,zG,zH,zI,zJ,zK,zL,zM,zN,zO,zP,ei]at⊢);first|(refine qN ?_;omega)|(simp only [Hold];omega))
      |(have ip:w<tw.getD i 0→0<i:=(fun q=>Nat.pos_of_ne_zero fun q2=>by rw [q2]at q;omega);obtain⟨i1,ei1⟩:∃i1,i1=i-1:=⟨_,rfl⟩;refine⟨⟨i1,by have:=ip (by omega);refine⟨by omega,.inr ?_⟩;rw [show i1+1=i by omega];assumption⟩,by have:=ip (by omega);simp only [];omega,?_⟩;cbv;(repeat' (first|with_reducible refine hold ?_ ?_|with_reducible refine And.intro ?_ ?_));(all_goals first|trivial|exact qM (qE (by rfl))|exact qM (qF (by rfl))|exact qM (Fit.refl _)|exact qL (qK _)|(refine qM (qE ?_);simp only [zi_den,zA,zB,zC,zD,zE,zF,zG,zH,zI,zJ,zK,zL,zM,zN,zO,zP];omega)|(refine qM (qE ?_);simp only [zi_den,zA,zB,zC,zD,zE,zF,zG,zH,zI,zJ,zK,zL,zM,zN,zO,zP];have:=ip (by omega);omega)|skip))
      |skip
    have hi0:tw.getD i 0≤w:=by omega
    refine⟨none,[],{k:Nat // k+2≤tm.length∧(k+2=tm.length∨m<tm.getD (k+1) 0)},fun x=>⟨[(3,.own 0 0),(1,(.int .i64 (.sym fun _=>w))),(2,(.int .i64 (.sym fun _=>m))),(7,(.int .i64 (.sym fun _=>zi i))),(8,(.int .i64 (.sym fun _=>zi x.1)))],[(0,.cells [(.sl 1 (.sym fun _=>zi (tw).length) (fun ix=>[.int .i64 (.sym fun _=>(tw).getD ix.den.toNat 0)])),(.sl 1 (.sym fun _=>zi (tm).length) (fun ix=>[.int .i64 (.sym fun _=>(tm).getD ix.den.toNat 0)])),(.sl 1 (.sym fun _=>zi (tv).length) (fun ix=>[(.sl 1 (.sym fun _=>zi ((tv).getD ix.den.toNat []).length) (fun jx=>[.int .i64 (.sym fun _=>((tv).getD ix.den.toNat []).getD jx.den.toNat 0)]))]))] 25)],20⟩,fun x=>x.1,?_,?_⟩
    · obtain⟨k0,ek0⟩:∃k0,k0=tm.length-2:=⟨_,rfl⟩
      refine⟨⟨k0,by omega,by omega⟩,?_⟩
      cbv
      repeat' (first
        |with_reducible refine hold ?_ ?_
        |with_reducible refine And.intro ?_ ?_)
      all_goals first
        |trivial
        |exact qM (qE (by rfl))
        |exact qM (Fit.refl _)
        |exact qL (qK _)
        |(refine qM (qE ?_);simp only [zi_den,zA,zB,zC,zD,zE,zF,zG,zH,zI,zJ,zK,zL,zM,zN,zO,zP];omega)
        |skip
    · rintro ⟨k,hk1,hk2⟩
      cbv
      have ek:(k:Int).toNat=k:=by omega
      by_cases hx:m<tm.getD k 0
      · skip
        repeat' (first
            |with_reducible refine hold ?_ ?_
            |with_reducible refine And.intro ?_ ?_
            | (with_reducible refine qS ?_ ?_ ?_
               try cbv)
            |(with_reducible intro hcd;(try simp only [zi_den,zA,zB,zC,zD,zE,zF,zG,zH,zI,zJ,zK,zL,zM,zN,zO,zP,ek]at hcd);try cbv))
        all_goals first
          |trivial
          |((try simp only [zi_den,zA,zB,zC,zD,zE,zF,zG,zH,zI,zJ,zK,zL,zM,zN,zO,zP,ek]at⊢);first|(refine qN ?_;omega)|(simp only [Hold];omega))
          |(have kp:m<tm.getD k 0→0<k:=(fun q=>Nat.pos_of_ne_zero fun q2=>by rw [q2]at q;omega);obtain⟨k1,ek1⟩:∃k1,k1=k-1:=⟨_,rfl⟩;refine⟨⟨k1,by have:=kp (by omega);refine⟨by omega,.inr ?_⟩;rw [show k1+1=k by omega];assumption⟩,by have:=kp (by omega);simp only [];omega,?_⟩;cbv;(repeat' (first|with_reducible refine hold ?_ ?_|with_reducible refine And.intro ?_ ?_));(all_goals first|trivial|exact qM (qE (by rfl))|exact qM (qF (by rfl))|exact qM (Fit.refl _)|exact qL (qK _)|(refine qM (qE ?_);simp only [zi_den,zA,zB,zC,zD,zE,zF,zG,zH,zI,zJ,zK,zL,zM,zN,zO,zP];omega)|(refine qM (qE ?_);simp only [zi_den,zA,zB,zC,zD,zE,zF,zG,zH,zI,zJ,zK,zL,zM,zN,zO,zP];have:=kp (by omega);omega)|skip))
          |skip
      · skip
        have ei1:((i:Int)+1).toNat=i+1:=by omega
        have ek1:((k:Int)+1).toNat=k+1:=by omega
        have hci:InCell tw w i:=⟨hi1,hi0,hi2⟩
        have hck:InCell tm m k:=⟨hk1,by omega,hk2⟩
        have hii:=cell_unique h.rw hci (cell_in d3 q0)
        have hkk:=cell_unique h.rm hck (cell_in d4 q2)
        have a1:=rising_spec h.rw i (by omega)
        have a2:=rising_spec h.rw (i+1) (by omega)
        have a3:=rising_spec h.rm k (by omega)
        have a4:=rising_spec h.rm (k+1) (by omega)
        simp only [risingAt,Nat.add_sub_cancel]at a1 a2 a3 a4
        have r1:=h.row i (by omega)
        have r2:=h.row (i+1) (by omega)
        have v1:=h.val i (by omega) k (by omega)
        have v2:=h.val (i+1) (by omega) k (by omega)
        have v3:=h.val i (by omega) (k+1) (by omega)
        have v4:=h.val (i+1) (by omega) (k+1) (by omega)
        have b1:=hci.le_hi q1
        have b2:=hck.le_hi q3
        have c1:=hci.lo
        have c2:=hck.lo
        have hat:atS tw tm tv w m=atI tw tm tv w m i k:=by rw [atS,←hii,←hkk]
        obtain⟨l1,hl1⟩:∃l1,(tv.getD i []).length=l1:=⟨_,rfl⟩
        obtain⟨l2,hl2⟩:∃l2,(tv.getD (i+1) []).length=l2:=⟨_,rfl⟩
        obtain⟨a,ha⟩:∃a,tw.getD i 0=a:=⟨_,rfl⟩
        obtain⟨b,hb⟩:∃b,tw.getD (i+1) 0=b:=⟨_,rfl⟩
        obtain⟨c,hc⟩:∃c,tm.getD k 0=c:=⟨_,rfl⟩
        obtain⟨d,hd⟩:∃d,tm.getD (k+1) 0=d:=⟨_,rfl⟩
        obtain⟨v00,h00⟩:∃v,(tv.getD i []).getD k 0=v:=⟨_,rfl⟩
        obtain⟨v10,h10⟩:∃v,(tv.getD (i+1) []).getD k 0=v:=⟨_,rfl⟩
        obtain⟨v01,h01⟩:∃v,(tv.getD i []).getD (k+1) 0=v:=⟨_,rfl⟩
        obtain⟨v11,h11⟩:∃v,(tv.getD (i+1) []).getD (k+1) 0=v:=⟨_,rfl⟩
        rw [atI,ha,hb,hc,hd,h00,h10,h01,h11]at hat
        rw [hl1]at r1
        rw [hl2]at r2
        rw [ha]at a1 a2 c1
        rw [hb]at a2 b1
        rw [hc]at a3 a4 c2
        rw [hd]at a4 b2
        rw [h00]at v1
        rw [h10]at v2
        rw [h01]at v3
        rw [h11]at v4
        have s1:=mul_bd (x:=v00) (y:=b-w) 2000 40 v1 (by omega)
        have s2:=mul_bd (x:=v10) (y:=w-a) 2000 40 v2 (by omega)
        have s3:=mul_bd (x:=v01) (y:=b-w) 2000 40 v3 (by omega)
        have s4:=mul_bd (x:=v11) (y:=w-a) 2000 40 v4 (by omega)
        have t1:=mul_bd (x:=v00*(b-w)) (y:=d-m) 80000 60 s1 (by omega)
        have t2:=mul_bd (x:=v10*(w-a)) (y:=d-m) 80000 60 s2 (by omega)
        have t3:=mul_bd (x:=v01*(b-w)) (y:=m-c) 80000 60 s3 (by omega)
        have t4:=mul_bd (x:=v11*(w-a)) (y:=m-c) 80000 60 s4 (by omega)
        have u1:=mul_bd (x:=b-w+(w-a)) (y:=d-m+(m-c)) 40 60 (by omega) (by omega)
        have u2:1≤(b-w+(w-a))*(d-m+(m-c)):=Int.mul_pos (by omega) (by omega)
        obtain⟨q,hq⟩:∃q,(b-w+(w-a))*(d-m+(m-c))=q:=⟨_,rfl⟩
        obtain⟨n,hn⟩:∃n,v00*(b-w)*(d-m)+v10*(w-a)*(d-m)+v01*(b-w)*(m-c)+v11*(w-a)*(m-c)=n:=⟨_,rfl⟩
        rw [hq]at u1 u2
        have hn0:0≤n∧n≤20000000:=by omega
        have ht:n.tdiv q=n/q:=Int.tdiv_eq_ediv_of_nonneg hn0.1
        have hd0:0≤n/q:=Int.ediv_nonneg hn0.1 (by omega)
        have hd1:n/q*q≤n:=Int.ediv_mul_le n (by omega)
        have hd2:n/q≤n:=Int.ediv_le_self q hn0.1
        have hd3:0≤n/q*q:=Int.mul_nonneg hd0 (by omega)
        have hat2:atS tw tm tv w m=if q≤2*(n-n/q*q)then n/q+1 else n/q:=by
          rw [hat,mixAt,mix_eq,hn,←round_law (by omega) hn0.1]
          have e1:(b-a)*(d-c)=q:=by rw [←hq];congr 1<;>omega
          rw [Int.mul_assoc,e1,Int.tdiv_eq_ediv_of_nonneg (by omega)]
        repeat' (first
            |with_reducible refine hold ?_ ?_
            |with_reducible refine And.intro ?_ ?_
            | (with_reducible refine qS ?_ ?_ ?_
               try cbv)
            |(with_reducible intro hcd;(try simp only [zi_den,zA,zB,zC,zD,zE,zF,zG,zH,zI,zJ,zK,zL,zM,zN,zO,zP,ei,ek,ei1,ek1,hl1,hl2,ha,hb,hc,hd,h00,h10,h01,h11,hq,hn,ht]at hcd);try cbv))
        all_goals first
          |((try simp only [zi_den,zA,zB,zC,zD,zE,zF,zG,zH,zI,zJ,zK,zL,zM,zN,zO,zP,ei,ek,ei1,ek1,hl1,hl2,ha,hb,hc,hd,h00,h10,h01,h11,hq,hn,ht]at⊢);first|(refine qN ?_;omega)|(simp only [Hold];omega))
          |(exfalso;omega)
          |(subst hR;refine qE ?_;simp only [zi_den,zA,zB,zC,zD,zE,zF,zG,zH,zI,zJ,zK,zL,zM,zN,zO,zP,ei,ek,ei1,ek1,hl1,hl2,ha,hb,hc,hd,h00,h10,h01,h11,hq,hn,ht];rw [hat2];split<;>omega)
          |skip
def Seen (wl ml mh:Int)(i j:Nat)(w m:Int):Prop:=ml≤m∧m≤mh∧((wl≤w∧w<wl+i)∨(w=wl+i∧m<ml+j))
structure Scan (f:Int→Int→Int)(wl ml mh:Int)(i j:Nat)(lo hi:Int):Prop where
  le:∀w m,Seen wl ml mh i j w m→lo≤f w m∧f w m≤hi
  hit:(lo=9999∧hi = -1∧∀w m,¬Seen wl ml mh i j w m)∨((∃w m,Seen wl ml mh i j w m∧lo=f w m)∧∃w m,Seen wl ml mh i j w m∧hi=f w m)
theorem scan0 (f:Int→Int→Int)(wl ml mh:Int):Scan f wl ml mh 0 0 9999 (-1):=by
  have h:∀w m,¬Seen wl ml mh 0 0 w m:=fun w m h=>by unfold Seen at h;omega
  exact⟨fun w m s=>absurd s (h w m),.inl ⟨rfl,rfl,h⟩⟩
theorem scan_step {f:Int→Int→Int} {wl ml mh:Int} {i j:Nat} {lo hi:Int}(h:Scan f wl ml mh i j lo hi)(hm:ml+j≤mh)(hf:0≤f (wl+i) (ml+j)∧f (wl+i) (ml+j)≤2000):
    Scan f wl ml mh i (j+1) (if f (wl+i) (ml+j)<lo then f (wl+i) (ml+j)else lo) (if f (wl+i) (ml+j)>hi then f (wl+i) (ml+j)else hi):=by
  have hs:∀w m,Seen wl ml mh i (j+1) w m↔Seen wl ml mh i j w m∨(w=wl+i∧m=ml+j):=fun w m=>by unfold Seen;omega
  refine⟨fun w m s=> ?_,.inr ?_⟩
  · rcases(hs w m).1 s with s|⟨rfl,rfl⟩
    · have:=h.le w m s
      split<;>split<;>omega
    · split<;>split<;>omega
  · have hn:Seen wl ml mh i (j+1) (wl+i) (ml+j):=(hs _ _).2 (.inr ⟨rfl,rfl⟩)
    rcases h.hit with⟨rfl,rfl,_⟩|⟨⟨w,m,s,e⟩,w',m',s',e'⟩
    · rw [if_pos (by omega),if_pos (by omega)]
      exact⟨⟨_,_,hn,rfl⟩,_,_,hn,rfl⟩
    · refine⟨?_,?_⟩
      · split
        · exact⟨_,_,hn,rfl⟩
        · exact⟨w,m,(hs _ _).2 (.inl s),e⟩
      · split
        · exact⟨_,_,hn,rfl⟩
        · exact⟨w',m',(hs _ _).2 (.inl s'),e'⟩
theorem Scan.congr {f:Int→Int→Int} {wl ml mh:Int} {i j i' j':Nat} {lo hi:Int}(h:Scan f wl ml mh i j lo hi)(hs:∀w m,Seen wl ml mh i j w m↔Seen wl ml mh i' j' w m):Scan f wl ml mh i' j' lo hi:=
  ⟨fun w m s=>h.le w m ((hs w m).2 s),h.hit.imp (fun q=>⟨q.1,q.2.1,fun w m s=>q.2.2 w m ((hs w m).2 s)⟩) fun q=>⟨let ⟨w,m,s,e⟩:=q.1;⟨w,m,(hs w m).1 s,e⟩,let ⟨w,m,s,e⟩:=q.2;⟨w,m,(hs w m).1 s,e⟩⟩⟩
theorem scan_next {f:Int→Int→Int} {wl ml mh:Int} {i j:Nat} {lo hi:Int}(h:Scan f wl ml mh i j lo hi)(hj:mh<ml+j):Scan f wl ml mh (i+1) 0 lo hi:=
  h.congr fun w m=>by unfold Seen;omega
theorem scan_end {f:Int→Int→Int} {wl wh ml mh:Int} {i:Nat} {lo hi:Int}(h:Scan f wl ml mh i 0 lo hi)(hend:wl+i=wh+1)(hw:wl≤wh)(hm:ml≤mh):IsB f wl wh ml mh lo hi:=by
  have hs:∀w m,Seen wl ml mh i 0 w m↔wl≤w∧w≤wh∧ml≤m∧m≤mh:=fun w m=>by unfold Seen;omega
  rcases h.hit with⟨_,_,q⟩|⟨⟨w,m,s,e⟩,w',m',s',e'⟩
  · exact absurd ((hs wl ml).2 ⟨by omega,hw,by omega,hm⟩) (q wl ml)
  · refine⟨fun w m a b c d=>h.le w m ((hs w m).2 ⟨a,b,c,d⟩),?_,?_⟩
    · obtain⟨a,b,c,d⟩:=(hs w m).1 s;exact⟨w,m,a,b,c,d,e⟩
    · obtain⟨a,b,c,d⟩:=(hs w' m').1 s';exact⟨w',m',a,b,c,d,e'⟩
theorem tok_bd {tw tm:List Int} {tv:List (List Int)}(h:TOk tw tm tv):(0≤tw.getD 0 0∧tw.getD (tw.length-1) 0≤40)∧0≤tm.getD 0 0∧tm.getD (tm.length-1) 0≤60:=by
  have a:=h.w2;have b:=h.m2
  have p1:=rising_spec h.rw 0 (by omega)
  have p2:=rising_spec h.rw (tw.length-1) (by omega)
  have p3:=rising_spec h.rm 0 (by omega)
  have p4:=rising_spec h.rm (tm.length-1) (by omega)
  unfold risingAt at p1 p2 p3 p4
  omega
theorem bounds78 (tw tm:List Int)(tv:List (List Int))(wl wh ml mh:Int)(hT:TOk tw tm tv)(hB:Box tw tm wl wh ml mh):FSpec Try.prog 53 [(.agg [(.sl 1 (.sym fun _=>zi (tw).length) (fun ix=>[.int .i64 (.sym fun _=>(tw).getD ix.den.toNat 0)])),(.sl 1 (.sym fun _=>zi (tm).length) (fun ix=>[.int .i64 (.sym fun _=>(tm).getD ix.den.toNat 0)])),(.sl 1 (.sym fun _=>zi (tv).length) (fun ix=>[(.sl 1 (.sym fun _=>zi ((tv).getD ix.den.toNat []).length) (fun jx=>[.int .i64 (.sym fun _=>((tv).getD ix.den.toNat []).getD jx.den.toNat 0)]))]))]),(.agg [(.int .i64 (.sym fun _=>wl)),(.int .i64 (.sym fun _=>wh))]),(.agg [(.int .i64 (.sym fun _=>ml)),(.int .i64 (.sym fun _=>mh))])] [] (fun r _=>r=(.agg [(.int .i64 (.sym fun _=>bLo tw tm tv wl wh ml mh)),(.int .i64 (.sym fun _=>bHi tw tm tv wl wh ml mh))])):=by
  have c95:=fun (i j:Nat) (h:wl+zi i≤wh∧ml+zi j≤mh)=>at95 tw tm tv (wl+zi i) (ml+zi j) ⟨hT,hB.pt (by simp only [zi_den];omega) h.1 (by simp only [zi_den];omega) h.2⟩
  have hbd:∀i j:Nat,wl+zi i≤wh→ml+zi j≤mh→0≤atS tw tm tv (wl+(i:Int)) (ml+(j:Int))∧atS tw tm tv (wl+(i:Int)) (ml+(j:Int))≤2000:=fun i j h1 h2=>at_bd hT (hB.pt (by omega) h1 (by omega) h2)
  have b1:=hB.w0;have b2:=hB.w1;have b3:=hB.m0;have b4:=hB.m1;have b5:=hB.w;have b6:=hB.m
  have hpr:=tok_bd hT
  refine FSpec.is fun R hR=>qW (sc:=sc53) tyok mix Try.func53 rfl Try.call53 (by kernel_rfl) (by kernel_rfl) ?_
  generalize Try.prog=P at c95⊢
  cbv
  obtain⟨p1,p2⟩:=hpr
  repeat' (first
      |fail)
  all_goals first
    |skip
  refine⟨none,[],{p:Nat×Int×Int // wl+zi p.1≤wh+1∧Scan (atS tw tm tv) wl ml mh p.1 0 p.2.1 p.2.2},fun x=>⟨[(3,.own 0 0),(4,.own 1 0),(5,.own 2 0),(6,.own 3 0),(7,.own 5 0),(8,(.int .i64 (.sym fun _=>wl+zi x.1.1)))],[(0,.cells [(.sl 1 (.sym fun _=>zi (tw).length) (fun ix=>[.int .i64 (.sym fun _=>(tw).getD ix.den.toNat 0)])),(.sl 1 (.sym fun _=>zi (tm).length) (fun ix=>[.int .i64 (.sym fun _=>(tm).getD ix.den.toNat 0)])),(.sl 1 (.sym fun _=>zi (tv).length) (fun ix=>[(.sl 1 (.sym fun _=>zi ((tv).getD ix.den.toNat []).length) (fun jx=>[.int .i64 (.sym fun _=>((tv).getD ix.den.toNat []).getD jx.den.toNat 0)]))]))] 25),(1,.cells [(.int .i64 (.sym fun _=>wl)),(.int .i64 (.sym fun _=>wh))] 47),(2,.cells [(.int .i64 (.sym fun _=>ml)),(.int .i64 (.sym fun _=>mh))] 47),(3,.cells [.int .i64 (.lit 0),.int .i64 (.lit 0)] 47),(5,.cells [(.int .i64 (.sym fun _=>x.1.2.1)),(.int .i64 (.sym fun _=>x.1.2.2))] 47)],60⟩,fun x=>(wh+1-wl).toNat-x.1.1,?_,?_⟩
  · refine⟨⟨(0,9999,-1),by simp only [zi_den];omega,scan0 _ _ _ _⟩,?_⟩
    cbv
    repeat' (first
      |with_reducible refine hold ?_ ?_
      |with_reducible refine And.intro ?_ ?_)
    all_goals first
      |trivial
      |exact qM (Fit.refl _)
      |exact qL (qK _)
      |(refine qM (qE ?_);(try simp only [qV]at *);simp only [zQ,zA,zB,zC,zD,zE,zF,zG,zH,zI,zJ,zK,zL,zM,zN,zO,zP,zR,zS]at *;omega)
      |(refine qL (qJ ?_);refine qC (qE ?_) rfl (qC (qE ?_) rfl qA)<;>first|rfl|(simp only [enlo,enhi];rfl)|((try simp only [qV]at *);(try simp only [zQ,zA,zB,zC,zD,zE,zF,zG,zH,zI,zJ,zK,zL,zM,zN,zO,zP,zR,zS]at *);omega))
      |skip
  · rintro ⟨⟨i,lo,hi⟩,hi2,hs⟩
    cbv
    repeat' (first
        |with_reducible refine And.intro ?_ ?_
        |(with_reducible intro hcd;(try simp only [zA,zB,zC,zD,zE,zF,zG,zH,zI,zJ,zK,zL,zM,zN,zO,zP]at hcd);try cbv)
        |fail)
    all_goals first
      |(subst hR;(have hu:=(scan_end hs (by((try simp only [qV]at *);(try simp only [zQ,zA,zB,zC,zD,zE,zF,zG,zH,zI,zJ,zK,zL,zM,zN,zO,zP,zR,zS]at *);omega)) hB.w hB.m).unique (b_isB hT hB));(repeat' (first|exact qA|exact qE hu.1|exact qE hu.2|refine qC ?_ rfl ?_));done;done)
      |skip
    refine⟨none,[],{p:Nat×Int×Int // ml+zi p.1≤mh+1∧Scan (atS tw tm tv) wl ml mh i p.1 p.2.1 p.2.2},fun x=>⟨[(3,.own 0 0),(4,.own 1 0),(5,.own 2 0),(6,.own 3 0),(7,.own 5 0),(8,(.int .i64 (.sym fun _=>wl+zi i))),(9,(.int .i64 (.sym fun _=>ml+zi x.1.1)))],[(0,.cells [(.sl 1 (.sym fun _=>zi (tw).length) (fun ix=>[.int .i64 (.sym fun _=>(tw).getD ix.den.toNat 0)])),(.sl 1 (.sym fun _=>zi (tm).length) (fun ix=>[.int .i64 (.sym fun _=>(tm).getD ix.den.toNat 0)])),(.sl 1 (.sym fun _=>zi (tv).length) (fun ix=>[(.sl 1 (.sym fun _=>zi ((tv).getD ix.den.toNat []).length) (fun jx=>[.int .i64 (.sym fun _=>((tv).getD ix.den.toNat []).getD jx.den.toNat 0)]))]))] 25),(1,.cells [(.int .i64 (.sym fun _=>wl)),(.int .i64 (.sym fun _=>wh))] 47),(2,.cells [(.int .i64 (.sym fun _=>ml)),(.int .i64 (.sym fun _=>mh))] 47),(3,.cells [.int .i64 (.lit 0),.int .i64 (.lit 0)] 47),(5,.cells [(.int .i64 (.sym fun _=>x.1.2.1)),(.int .i64 (.sym fun _=>x.1.2.2))] 47)],60⟩,fun x=>(mh+1-ml).toNat-x.1.1,?_,?_⟩
    · refine⟨⟨(0,lo,hi),by simp only [zi_den];omega,hs⟩,?_⟩
      cbv
      repeat' (first
        |with_reducible refine hold ?_ ?_
        |with_reducible refine And.intro ?_ ?_)
      all_goals first
        |trivial
        |exact qM (qE (by rfl))
        |exact qM (Fit.refl _)
        |exact qL (qK _)
        |(refine qM (qE ?_);(try simp only [qV]at *);simp only [zQ,zA,zB,zC,zD,zE,zF,zG,zH,zI,zJ,zK,zL,zM,zN,zO,zP,zR,zS]at *;omega)
        |skip
    · rintro ⟨⟨j,lo2,hi2⟩,hj,hs2⟩
      cbv
      repeat' (first
          |with_reducible refine hold ?_ ?_
          |with_reducible refine And.intro ?_ ?_
          |(with_reducible intro hcd;(try simp only [zA,zB,zC,zD,zE,zF,zG,zH,zI,zJ,zK,zL,zM,zN,zO,zP]at hcd);try cbv)
          | (refine qP ?_ (c95 i j (show Hold _ from ?_)) ?hfit
             case hfit=>((repeat' (first|exact qB|refine qD ?_ ?_|exact qE (by rfl)|exact qF (by rfl)|exact Fit.refl _|exact qA|refine qC ?_ rfl ?_));done)
             try cbv)
          |fail)
      all_goals first
        |trivial
        |((try simp only [qV]at *);(try simp only [zQ,zA,zB,zC,zD,zE,zF,zG,zH,zI,zJ,zK,zL,zM,zN,zO,zP,zR,zS]at *);first|(refine qN ?_;omega)|(simp only [Hold];omega))
        |((try simp only [zQ,zA,zB,zC,zD,zE,zF,zG,zH,zI,zJ,zK,zL,zM,zN,zO,zP,zR,zS]at *);obtain⟨nlo,enlo⟩:∃nlo,nlo=if atS tw tm tv (wl+zi i) (ml+zi j)<lo2 then atS tw tm tv (wl+zi i) (ml+zi j)else lo2:=⟨_,rfl⟩;obtain⟨nhi,enhi⟩:∃nhi,nhi=if atS tw tm tv (wl+zi i) (ml+zi j)>hi2 then atS tw tm tv (wl+zi i) (ml+zi j)else hi2:=⟨_,rfl⟩;refine⟨⟨(j+1,nlo,nhi),by((try simp only [qV]at *);(try simp only [zQ,zA,zB,zC,zD,zE,zF,zG,zH,zI,zJ,zK,zL,zM,zN,zO,zP,zR,zS]at *);omega),by rw [enlo,enhi];exact scan_step hs2 (by((try simp only [qV]at *);(try simp only [zQ,zA,zB,zC,zD,zE,zF,zG,zH,zI,zJ,zK,zL,zM,zN,zO,zP,zR,zS]at *);omega)) (hbd i j (by((try simp only [qV]at *);(try simp only [zQ,zA,zB,zC,zD,zE,zF,zG,zH,zI,zJ,zK,zL,zM,zN,zO,zP,zR,zS]at *);omega)) (by((try simp only [qV]at *);(try simp only [zQ,zA,zB,zC,zD,zE,zF,zG,zH,zI,zJ,zK,zL,zM,zN,zO,zP,zR,zS]at *);omega)))⟩,by simp only [];omega,?_⟩;cbv;(repeat' (first|with_reducible refine hold ?_ ?_|with_reducible refine And.intro ?_ ?_));(all_goals first|trivial|exact qM (qE (by rfl))|exact qM (qF (by rfl))|exact qM (Fit.refl _)|exact qL (qK _)|(refine qM (qE ?_);(try simp only [qV]at *);simp only [zQ,zA,zB,zC,zD,zE,zF,zG,zH,zI,zJ,zK,zL,zM,zN,zO,zP,zR,zS]at *;omega)|(refine qL (qJ ?_);refine qC (qE ?_) rfl (qC (qE ?_) rfl qA)<;>first|rfl|(simp only [enlo,enhi];rfl)|((try simp only [qV]at *);(try simp only [zQ,zA,zB,zC,zD,zE,zF,zG,zH,zI,zJ,zK,zL,zM,zN,zO,zP,zR,zS]at *);omega))|skip))
        |((try simp only [zQ,zA,zB,zC,zD,zE,zF,zG,zH,zI,zJ,zK,zL,zM,zN,zO,zP,zR,zS]at *);refine⟨⟨(i+1,lo2,hi2),by((try simp only [qV]at *);(try simp only [zQ,zA,zB,zC,zD,zE,zF,zG,zH,zI,zJ,zK,zL,zM,zN,zO,zP,zR,zS]at *);omega),scan_next hs2 (by((try simp only [qV]at *);(try simp only [zQ,zA,zB,zC,zD,zE,zF,zG,zH,zI,zJ,zK,zL,zM,zN,zO,zP,zR,zS]at *);omega))⟩,by simp only [];omega,?_⟩;cbv;(repeat' (first|with_reducible refine hold ?_ ?_|with_reducible refine And.intro ?_ ?_));(all_goals first|trivial|exact qM (qE (by rfl))|exact qM (qF (by rfl))|exact qM (Fit.refl _)|exact qL (qK _)|(refine qM (qE ?_);(try simp only [qV]at *);simp only [zQ,zA,zB,zC,zD,zE,zF,zG,zH,zI,zJ,zK,zL,zM,zN,zO,zP,zR,zS]at *;omega)|(refine qL (qJ ?_);refine qC (qE ?_) rfl (qC (qE ?_) rfl qA)<;>first|rfl|(simp only [enlo,enhi];rfl)|((try simp only [qV]at *);(try simp only [zQ,zA,zB,zC,zD,zE,zF,zG,zH,zI,zJ,zK,zL,zM,zN,zO,zP,zR,zS]at *);omega))|skip))
        |skip
end Go.Proofs.Ytkdggbfknlcdaaa

namespace Go.Proofs.Ytkdggbfknlcdaaa
open Go Go.Eng Go.Proofs Go.Eng.Dif Go.Eng.Few
set_option maxRecDepth 10000
set_option maxHeartbeats 2000000 in
theorem dispute14 (d:Dsp)(hT:ThinT d.tw d.tm d.tv)(h1:d.ls.length≤1000)(h2:d.fs.length≤1000):FSpec Try.prog 14 [(dspS d)] [] (fun r _=>r=(dspS d)):=by
  have c46:=table61 d.tw d.tm d.tv hT
  have c18:= @to18
  refine FSpec.is fun R hR=>qW (sc:=sc14) tyok mix Try.func14 rfl Try.call14 (by kernel_rfl) (by kernel_rfl) ?_
  generalize Try.prog=P at c46 c18⊢
  cbv
  repeat' (first
      | (refine qP ?_ (c46) ?hfit
         case hfit=>((repeat' (first|exact qB|refine qD ?_ ?_|exact qE (by rfl)|exact qF (by rfl)|exact Fit.refl _|exact qA|refine qC ?_ rfl ?_));done)
         try cbv)
      |fail)
  all_goals first
    |skip
  refine⟨none,[⟨.cell 10 5,87,4⟩],{i:Nat // i≤d.ls.length},fun x=>⟨[(1,.own 0 0),(2,.own 1 0),(3,.own 10 0),(4,(.int .i64 (.sym fun _=>zi x.1)))],[(0,.cells [(.sl 1 (.sym fun _=>zi (d.tw).length) (fun ix=>[.int .i64 (.sym fun _=>(d.tw).getD ix.den.toNat 0)])),(.sl 1 (.sym fun _=>zi (d.tm).length) (fun ix=>[.int .i64 (.sym fun _=>(d.tm).getD ix.den.toNat 0)])),(.sl 1 (.sym fun _=>zi (d.tv).length) (fun ix=>[(.sl 1 (.sym fun _=>zi ((d.tv).getD ix.den.toNat []).length) (fun jx=>[.int .i64 (.sym fun _=>((d.tv).getD ix.den.toNat []).getD jx.den.toNat 0)]))])),(.int .i64 (.sym fun _=>d.sn)),(.int .i64 (.sym fun _=>d.pn)),(.sl 4 (.sym fun _=>zi (d.ls).length) (fun ix=>[(.int .i64 (.sym fun _=>((d.ls).getD ix.den.toNat l0T).a)),(.int .i64 (.sym fun _=>((d.ls).getD ix.den.toNat l0T).b)),(.int .i64 (.sym fun _=>((d.ls).getD ix.den.toNat l0T).lo)),(.int .i64 (.sym fun _=>((d.ls).getD ix.den.toNat l0T).hi))])),(.sl 6 (.sym fun _=>zi (d.fs).length) (fun ix=>[(.int .i64 (.sym fun _=>((d.fs).getD ix.den.toNat f0T).p)),(.int .i64 (.sym fun _=>((d.fs).getD ix.den.toNat f0T).s)),(.int .i64 (.sym fun _=>((d.fs).getD ix.den.toNat f0T).wl)),(.int .i64 (.sym fun _=>((d.fs).getD ix.den.toNat f0T).wh)),(.int .i64 (.sym fun _=>((d.fs).getD ix.den.toNat f0T).ml)),(.int .i64 (.sym fun _=>((d.fs).getD ix.den.toNat f0T).mh))]))] 29),(1,.cells [.val (Value.slice none 0 0),.val (Value.slice none 0 0),.val (Value.slice none 0 0),.int .i64 (.lit 0),.int .i64 (.lit 0),.val (Value.slice none 0 0),.val (Value.slice none 0 0)] 41),(10,.cells [(.sl 1 (.sym fun _=>zi (d.tw).length) (fun ix=>[.int .i64 (.sym fun _=>(d.tw).getD ix.den.toNat 0)])),(.sl 1 (.sym fun _=>zi (d.tm).length) (fun ix=>[.int .i64 (.sym fun _=>(d.tm).getD ix.den.toNat 0)])),(.sl 1 (.sym fun _=>zi (d.tv).length) (fun ix=>[(.sl 1 (.sym fun _=>zi ((d.tv).getD ix.den.toNat []).length) (fun jx=>[.int .i64 (.sym fun _=>((d.tv).getD ix.den.toNat []).getD jx.den.toNat 0)]))])),(.int .i64 (.sym fun _=>d.sn)),(.int .i64 (.sym fun _=>d.pn)),.row 13,.val (Value.slice none 0 0)] 41),(13,.row 87 4 (.sym fun _=>zi x.1) (fun ix=>[(.int .i64 (.sym fun _=>(d.ls.getD ix.den.toNat l0T).a)),(.int .i64 (.sym fun _=>(d.ls.getD ix.den.toNat l0T).b)),(.int .i64 (.sym fun _=>(d.ls.getD ix.den.toNat l0T).lo)),(.int .i64 (.sym fun _=>(d.ls.getD ix.den.toNat l0T).hi))]))],120⟩,fun x=>d.ls.length-x.1,?_,?_⟩
  · refine⟨⟨0,by omega⟩,?_⟩
    cbv
    repeat' (first
      |with_reducible refine hold ?_ ?_
      |with_reducible refine And.intro ?_ ?_)
    all_goals first
      |trivial
      |exact qM (qE (by rfl))
      |exact qM (Fit.refl _)
      |exact qL (qK _)
      |(refine qL (ble_row ?_ ?_);(first|rfl|((try simp only [qV]at *);(try simp only [zQ,zA,zB,zC,zD,zE,zF,zG,zH,zI,zJ,zK,zL,zM,zN,zO,zP,zR,zS]at *);omega));intro ix h0 h1;exfalso;(try simp only [qV]at *);(try simp only [zQ,zA,zB,zC,zD,zE,zF,zG,zH,zI,zJ,zK,zL,zM,zN,zO,zP,zR,zS]at *);omega)
      |skip
  · rintro ⟨i,hi⟩
    cbv
    repeat' (first
        |with_reducible refine hold ?_ ?_
        |with_reducible refine And.intro ?_ ?_
        |(with_reducible intro hcd;(try simp only [zA,zB,zC,zD,zE,zF,zG,zH,zI,zJ,zK,zL,zM,zN,zO,zP]at hcd);try cbv)
        | (refine qP ?_ (c18 _ _) (by(repeat' (first|exact qB|refine qD ?_ ?_|exact qE (by rfl)|exact qF (by rfl)|exact Fit.refl _|exact qA|refine qC ?_ rfl ?_)))
           try cbv)
        | (refine⟨fun ix=>[(.int .i64 (.sym fun _=>(d.ls.getD ix.den.toNat l0T).a)),(.int .i64 (.sym fun _=>(d.ls.getD ix.den.toNat l0T).b)),(.int .i64 (.sym fun _=>(d.ls.getD ix.den.toNat l0T).lo)),(.int .i64 (.sym fun _=>(d.ls.getD ix.den.toNat l0T).hi))],?_⟩
           cbv
           refine hold (hold_rowapp (by intro ix jx h0 h1 h2;simp only [h2];exact Fit.refl _) (by intro ix jx h0 h1 h2;(have h3:jx.den.toNat=i:=by((try simp only [qV]at *);(try simp only [zQ,zA,zB,zC,zD,zE,zF,zG,zH,zI,zJ,zK,zL,zM,zN,zO,zP,zR,zS]at *);omega));simp only [h3];exact(qC (qE rfl) rfl (qC (qE rfl) rfl (qC (qE rfl) rfl (qC (qE rfl) rfl qA))))) (by(try simp only [qV]at *);(try simp only [zQ,zA,zB,zC,zD,zE,zF,zG,zH,zI,zJ,zK,zL,zM,zN,zO,zP,zR,zS]at *);omega)) (Or.inl ?_)
           try cbv)
        |fail)
    all_goals first
      |((try simp only [qV]at *);(try simp only [zQ,zA,zB,zC,zD,zE,zF,zG,zH,zI,zJ,zK,zL,zM,zN,zO,zP,zR,zS]at *);first|(refine qN ?_;omega)|(simp only [Hold];omega))
      |((try simp only [zQ,zA,zB,zC,zD,zE,zF,zG,zH,zI,zJ,zK,zL,zM,zN,zO,zP,zR,zS]at *);refine⟨⟨i+1,by omega⟩,by simp only [];omega,?_⟩;cbv;(repeat' (first|with_reducible refine hold ?_ ?_|with_reducible refine And.intro ?_ ?_));(all_goals first|trivial|exact qM (qE (by rfl))|exact qM (qF (by rfl))|exact qM (Fit.refl _)|exact qL (qK _)|(refine qM (qE ?_);(try simp only [qV]at *);simp only [zQ,zA,zB,zC,zD,zE,zF,zG,zH,zI,zJ,zK,zL,zM,zN,zO,zP,zR,zS]at *;omega)|(refine qL (qJ ?_);(repeat' (first|exact qA|exact qB|refine qC ?_ rfl ?_|refine qD ?_ ?_|exact qE (by rfl)|exact qF (by rfl)|exact Fit.refl _|exact qG _|(refine qE ?_;(try simp only [qV]at *);simp only [zQ,zA,zB,zC,zD,zE,zF,zG,zH,zI,zJ,zK,zL,zM,zN,zO,zP,zR,zS]at *;omega)));done)|(refine qL (ble_row ?_ ?_)<;>first|rfl|((try simp only [qV]at *);(try simp only [zQ,zA,zB,zC,zD,zE,zF,zG,zH,zI,zJ,zK,zL,zM,zN,zO,zP,zR,zS]at *);omega)|(intro ix h0 h1;exact Fit.refl _))|skip))
      |skip
    have hil:i=d.ls.length:=(by((try simp only [qV]at *);(try simp only [zQ,zA,zB,zC,zD,zE,zF,zG,zH,zI,zJ,zK,zL,zM,zN,zO,zP,zR,zS]at *);omega))
    subst hil
    refine⟨none,[⟨.cell 10 6,89,6⟩],{j:Nat // j≤d.fs.length},fun x=>⟨[(1,.own 0 0),(2,.own 1 0),(3,.own 10 0),(5,(.int .i64 (.sym fun _=>zi x.1)))],[(0,.cells [(.sl 1 (.sym fun _=>zi (d.tw).length) (fun ix=>[.int .i64 (.sym fun _=>(d.tw).getD ix.den.toNat 0)])),(.sl 1 (.sym fun _=>zi (d.tm).length) (fun ix=>[.int .i64 (.sym fun _=>(d.tm).getD ix.den.toNat 0)])),(.sl 1 (.sym fun _=>zi (d.tv).length) (fun ix=>[(.sl 1 (.sym fun _=>zi ((d.tv).getD ix.den.toNat []).length) (fun jx=>[.int .i64 (.sym fun _=>((d.tv).getD ix.den.toNat []).getD jx.den.toNat 0)]))])),(.int .i64 (.sym fun _=>d.sn)),(.int .i64 (.sym fun _=>d.pn)),(.sl 4 (.sym fun _=>zi (d.ls).length) (fun ix=>[(.int .i64 (.sym fun _=>((d.ls).getD ix.den.toNat l0T).a)),(.int .i64 (.sym fun _=>((d.ls).getD ix.den.toNat l0T).b)),(.int .i64 (.sym fun _=>((d.ls).getD ix.den.toNat l0T).lo)),(.int .i64 (.sym fun _=>((d.ls).getD ix.den.toNat l0T).hi))])),(.sl 6 (.sym fun _=>zi (d.fs).length) (fun ix=>[(.int .i64 (.sym fun _=>((d.fs).getD ix.den.toNat f0T).p)),(.int .i64 (.sym fun _=>((d.fs).getD ix.den.toNat f0T).s)),(.int .i64 (.sym fun _=>((d.fs).getD ix.den.toNat f0T).wl)),(.int .i64 (.sym fun _=>((d.fs).getD ix.den.toNat f0T).wh)),(.int .i64 (.sym fun _=>((d.fs).getD ix.den.toNat f0T).ml)),(.int .i64 (.sym fun _=>((d.fs).getD ix.den.toNat f0T).mh))]))] 29),(1,.cells [.val (Value.slice none 0 0),.val (Value.slice none 0 0),.val (Value.slice none 0 0),.int .i64 (.lit 0),.int .i64 (.lit 0),.val (Value.slice none 0 0),.val (Value.slice none 0 0)] 41),(10,.cells [(.sl 1 (.sym fun _=>zi (d.tw).length) (fun ix=>[.int .i64 (.sym fun _=>(d.tw).getD ix.den.toNat 0)])),(.sl 1 (.sym fun _=>zi (d.tm).length) (fun ix=>[.int .i64 (.sym fun _=>(d.tm).getD ix.den.toNat 0)])),(.sl 1 (.sym fun _=>zi (d.tv).length) (fun ix=>[(.sl 1 (.sym fun _=>zi ((d.tv).getD ix.den.toNat []).length) (fun jx=>[.int .i64 (.sym fun _=>((d.tv).getD ix.den.toNat []).getD jx.den.toNat 0)]))])),(.int .i64 (.sym fun _=>d.sn)),(.int .i64 (.sym fun _=>d.pn)),.row 13,.row 126] 41),(13,.row 87 4 (.sym fun _=>zi d.ls.length) (fun ix=>[(.int .i64 (.sym fun _=>(d.ls.getD ix.den.toNat l0T).a)),(.int .i64 (.sym fun _=>(d.ls.getD ix.den.toNat l0T).b)),(.int .i64 (.sym fun _=>(d.ls.getD ix.den.toNat l0T).lo)),(.int .i64 (.sym fun _=>(d.ls.getD ix.den.toNat l0T).hi))])),(126,.row 89 6 (.sym fun _=>zi x.1) (fun ix=>[(.int .i64 (.sym fun _=>(d.fs.getD ix.den.toNat f0T).p)),(.int .i64 (.sym fun _=>(d.fs.getD ix.den.toNat f0T).s)),(.int .i64 (.sym fun _=>(d.fs.getD ix.den.toNat f0T).wl)),(.int .i64 (.sym fun _=>(d.fs.getD ix.den.toNat f0T).wh)),(.int .i64 (.sym fun _=>(d.fs.getD ix.den.toNat f0T).ml)),(.int .i64 (.sym fun _=>(d.fs.getD ix.den.toNat f0T).mh))]))],200⟩,fun x=>d.fs.length-x.1,?_,?_⟩
    · refine⟨⟨0,by omega⟩,?_⟩
      cbv
      repeat' (first
        |with_reducible refine hold ?_ ?_
        |with_reducible refine And.intro ?_ ?_)
      all_goals first
        |trivial
        |exact qM (qE (by rfl))
        |exact qM (Fit.refl _)
        |exact qL (qK _)
        |(refine qL (ble_row ?_ ?_);(first|rfl|((try simp only [qV]at *);(try simp only [zQ,zA,zB,zC,zD,zE,zF,zG,zH,zI,zJ,zK,zL,zM,zN,zO,zP,zR,zS]at *);omega));intro ix h0 h1;exfalso;(try simp only [qV]at *);(try simp only [zQ,zA,zB,zC,zD,zE,zF,zG,zH,zI,zJ,zK,zL,zM,zN,zO,zP,zR,zS]at *);omega)
        |skip
    · rintro ⟨j,hj⟩
      cbv
      repeat' (first
          |with_reducible refine hold ?_ ?_
          |with_reducible refine And.intro ?_ ?_
          |(with_reducible intro hcd;(try simp only [zA,zB,zC,zD,zE,zF,zG,zH,zI,zJ,zK,zL,zM,zN,zO,zP]at hcd);try cbv)
          | (refine qP ?_ (c18 _ _) (by(repeat' (first|exact qB|refine qD ?_ ?_|exact qE (by rfl)|exact qF (by rfl)|exact Fit.refl _|exact qA|refine qC ?_ rfl ?_)))
             try cbv)
          | (refine⟨fun ix=>[(.int .i64 (.sym fun _=>(d.fs.getD ix.den.toNat f0T).p)),(.int .i64 (.sym fun _=>(d.fs.getD ix.den.toNat f0T).s)),(.int .i64 (.sym fun _=>(d.fs.getD ix.den.toNat f0T).wl)),(.int .i64 (.sym fun _=>(d.fs.getD ix.den.toNat f0T).wh)),(.int .i64 (.sym fun _=>(d.fs.getD ix.den.toNat f0T).ml)),(.int .i64 (.sym fun _=>(d.fs.getD ix.den.toNat f0T).mh))],?_⟩
             cbv
             refine hold (hold_rowapp (by intro ix jx h0 h1 h2;simp only [h2];exact Fit.refl _) (by intro ix jx h0 h1 h2;(have h3:jx.den.toNat=j:=by((try simp only [qV]at *);(try simp only [zQ,zA,zB,zC,zD,zE,zF,zG,zH,zI,zJ,zK,zL,zM,zN,zO,zP,zR,zS]at *);omega));simp only [h3];exact(qC (qE rfl) rfl (qC (qE rfl) rfl (qC (qE rfl) rfl (qC (qE rfl) rfl (qC (qE rfl) rfl (qC (qE rfl) rfl qA))))))) (by(try simp only [qV]at *);(try simp only [zQ,zA,zB,zC,zD,zE,zF,zG,zH,zI,zJ,zK,zL,zM,zN,zO,zP,zR,zS]at *);omega)) (Or.inl ?_)
             try cbv)
          |fail)
      all_goals first
        |((try simp only [qV]at *);(try simp only [zQ,zA,zB,zC,zD,zE,zF,zG,zH,zI,zJ,zK,zL,zM,zN,zO,zP,zR,zS]at *);first|(refine qN ?_;omega)|(simp only [Hold];omega))
        |((have hit:j=d.fs.length:=(by((try simp only [qV]at *);(try simp only [zQ,zA,zB,zC,zD,zE,zF,zG,zH,zI,zJ,zK,zL,zM,zN,zO,zP,zR,zS]at *);omega)));subst hR;subst hit;exact Fit.refl _)
        |((try simp only [zQ,zA,zB,zC,zD,zE,zF,zG,zH,zI,zJ,zK,zL,zM,zN,zO,zP,zR,zS]at *);refine⟨⟨j+1,by omega⟩,by simp only [];omega,?_⟩;cbv;(repeat' (first|with_reducible refine hold ?_ ?_|with_reducible refine And.intro ?_ ?_));(all_goals first|trivial|exact qM (qE (by rfl))|exact qM (qF (by rfl))|exact qM (Fit.refl _)|exact qL (qK _)|(refine qM (qE ?_);(try simp only [qV]at *);simp only [zQ,zA,zB,zC,zD,zE,zF,zG,zH,zI,zJ,zK,zL,zM,zN,zO,zP,zR,zS]at *;omega)|(refine qL (qJ ?_);(repeat' (first|exact qA|exact qB|refine qC ?_ rfl ?_|refine qD ?_ ?_|exact qE (by rfl)|exact qF (by rfl)|exact Fit.refl _|exact qG _|(refine qE ?_;(try simp only [qV]at *);simp only [zQ,zA,zB,zC,zD,zE,zF,zG,zH,zI,zJ,zK,zL,zM,zN,zO,zP,zR,zS]at *;omega)));done)|(refine qL (ble_row ?_ ?_)<;>first|rfl|((try simp only [qV]at *);(try simp only [zQ,zA,zB,zC,zD,zE,zF,zG,zH,zI,zJ,zK,zL,zM,zN,zO,zP,zR,zS]at *);omega)|(intro ix h0 h1;exact Fit.refl _))|skip))
        |skip
def thinD (d:Dsp):Bool:=thinT d.tw d.tm d.tv&&(decide (d.ls.length≤7)&&decide (d.fs.length≤9))
theorem thinD_t {d:Dsp}:thinD d=true↔ThinT d.tw d.tm d.tv∧d.ls.length≤7∧d.fs.length≤9:=by
  unfold thinD
  rw [Bool.and_eq_true,Bool.and_eq_true,decide_eq_true_eq,decide_eq_true_eq,thinT_iff]
theorem thinD_1 {d:Dsp}(h:thinT d.tw d.tm d.tv=false):thinD d=false:=by unfold thinD;rw [h];rfl
theorem thinD_2 {d:Dsp}(h:thinT d.tw d.tm d.tv=true)(h':¬d.ls.length≤7):thinD d=false:=by unfold thinD;rw [h,decide_eq_false h'];rfl
theorem thinD_d {d:Dsp}(h:thinT d.tw d.tm d.tv=true)(h':d.ls.length≤7):thinD d=decide (d.fs.length≤9):=by unfold thinD;rw [h,decide_eq_true h'];rfl
theorem thin11 (d:Dsp):FSpec Try.prog 11 [(dspS d)] [] (fun r _=>r=(.bool (.sym fun _=>thinD d))):=by
  have c42:=thin57 d.tw d.tm d.tv
  refine FSpec.is fun R hR=>qW (sc:=sc11) tyok mix Try.func11 rfl Try.call11 (by kernel_rfl) (by kernel_rfl) ?_
  generalize Try.prog=P at c42⊢
  cbv
  repeat' (first
      |with_reducible refine And.intro ?_ ?_
      |(with_reducible intro hcd;(try simp only [zA,zB,zC,zD,zE,zF,zG,zH,zI,zJ,zK,zL,zM,zN,zO,zP]at hcd);try cbv)
      | (refine qP ?_ (c42) ?hfit
         case hfit=>((repeat' (first|exact qB|refine qD ?_ ?_|exact qE (by rfl)|exact qF (by rfl)|exact Fit.refl _|exact qA|refine qC ?_ rfl ?_));done)
         try cbv)
      |fail)
  all_goals first
    |(subst hR;(refine qF ?_;(try simp only [qV]at *);(try simp only [zQ,zA,zB,zC,zD,zE,zF,zG,zH,zI,zJ,zK,zL,zM,zN,zO,zP,zR,zS]at *);(try simp only [allB_t,allB_f,inB_t,inB_f,ofB_t,ofB_f,linkB_t,linkB_f,factB_t,factB_f]at *);first|exact(thinD_1 (by assumption)).symm|exact(thinD_2 (by assumption) (by omega)).symm|(rw [thinD_d (by assumption) (by omega)];first|rfl|(apply Bool.eq_iff_iff.2;simp only [decide_eq_true_eq];omega)));done)
    |skip
theorem points76 (a b:Int)(l:List Int)(h:1≤l.length∧l.length≤1000):FSpec Try.prog 76 [(.sl 1 (.sym fun _=>zi (l).length) (fun ix=>[.int .i64 (.sym fun _=>(l).getD ix.den.toNat 0)])),(.agg [(.int .i64 (.sym fun _=>a)),(.int .i64 (.sym fun _=>b))])] [] (fun r _=>r=(.bool (.sym fun _=>ofB (l.getD 0 0) a b (l.getD (l.length-1) 0)))):=by
  have c25:=last50 l h
  refine FSpec.is fun R hR=>qW (sc:=sc76) tyok mix Try.func76 rfl Try.call76 (by kernel_rfl) (by kernel_rfl) ?_
  generalize Try.prog=P at c25⊢
  cbv
  repeat' (first
      |with_reducible refine hold ?_ ?_
      |with_reducible refine And.intro ?_ ?_
      |(with_reducible intro hcd;(try simp only [zA,zB,zC,zD,zE,zF,zG,zH,zI,zJ,zK,zL,zM,zN,zO,zP]at hcd);try cbv)
      | (refine qP ?_ (c25) ?hfit
         case hfit=>((repeat' (first|exact qB|refine qD ?_ ?_|exact qE (by rfl)|exact qF (by rfl)|exact Fit.refl _|exact qA|refine qC ?_ rfl ?_));done)
         try cbv)
      |fail)
  all_goals first
    |((try simp only [qV]at *);(try simp only [zQ,zA,zB,zC,zD,zE,zF,zG,zH,zI,zJ,zK,zL,zM,zN,zO,zP,zR,zS,allB_t,allB_f,inB_t,inB_f,ofB_t,ofB_f,linkB_t,linkB_f,factB_t,factB_f]at *);first|(refine qN ?_;omega)|(simp only [Hold];omega))
    |(subst hR;(refine qF ?_;(try simp only [qV]at *);(try simp only [zQ,zA,zB,zC,zD,zE,zF,zG,zH,zI,zJ,zK,zL,zM,zN,zO,zP,zR,zS]at *);(try simp only [allB_t,allB_f,inB_t,inB_f,ofB_t,ofB_f,linkB_t,linkB_f,factB_t,factB_f]at *);(try simp only [show Int.toNat 0=0 from rfl]at *);apply Bool.eq_iff_iff.2;simp only [ofB_t,allB_t,allB_f,inB_t,inB_f,ofB_t,ofB_f,linkB_t,linkB_f,factB_t,factB_f,Bool.and_eq_true,Bool.or_eq_true,Bool.not_eq_true',decide_eq_true_eq,decide_eq_false_iff_not,Bool.false_eq_true,reduceCtorEq,Bool.true_and,Bool.and_true,Bool.false_and,Bool.and_false,iff_true,true_iff,Bool.not_true,Bool.not_false]at *;constructor<;>intro q<;>first|omega|(exact q.elim)|(exact absurd q (by omega)));done)
    |skip
end Go.Proofs.Ytkdggbfknlcdaaa

namespace Go.Proofs.Ytkdggbfknlcdaaa
open Go Go.Eng Go.Proofs Go.Eng.Dif Go.Eng.Few
set_option maxRecDepth 10000
theorem in_and (n lo hi:Int):(decide (lo≤n)&&decide (n≤hi))=inB lo n hi:=by
  apply Bool.eq_iff_iff.2
  rw [inB_t,Bool.and_eq_true,decide_eq_true_eq,decide_eq_true_eq]
theorem in17 (n lo hi:Int):FSpec Try.prog 17 [(.int .i64 (.sym fun _=>n)),(.int .i64 (.sym fun _=>lo)),(.int .i64 (.sym fun _=>hi))] [] (fun r _=>r=(.bool (.sym fun _=>inB lo n hi))):=by
  have:=in31 n lo hi
  simp only [in_and]at this
  exact this
set_option maxHeartbeats 1000000 in
theorem fault47 (d:Dsp):FSpec Try.prog 47 [(dspS d)] [] (fun r _=>r=(.int .i64 (.sym fun _=>faultD d))):=by
  have c75:=fault83 d.tw d.tm d.tv
  have c17:= @in17
  have c76:= @points76
  have hwm:=fun h:faultT d.tw d.tm d.tv=0=>faultT_zero h
  refine FSpec.is fun R hR=>qW (sc:=sc47) tyok mix Try.func47 rfl Try.call47 (by kernel_rfl) (by kernel_rfl) ?_
  generalize Try.prog=P at c75 c17 c76⊢
  cbv
  repeat' (first
      |with_reducible refine And.intro ?_ ?_
      |(with_reducible intro hcd;(try simp only [zA,zB,zC,zD,zE,zF,zG,zH,zI,zJ,zK,zL,zM,zN,zO,zP]at hcd);try cbv)
      | (refine qP ?_ (c75) ?hfit
         case hfit=>((repeat' (first|exact qB|refine qD ?_ ?_|exact qE (by rfl)|exact qF (by rfl)|exact Fit.refl _|exact qA|refine qC ?_ rfl ?_));done)
         try cbv)
      |fail)
  all_goals first
    |(subst hR;(refine qE ?_;(try simp only [qV]at *);(try simp only [zQ,zA,zB,zC,zD,zE,zF,zG,zH,zI,zJ,zK,zL,zM,zN,zO,zP,zR,zS]at *);exact(fault_bad (by first|assumption|omega)).symm);done)
    |(subst hR;(refine qE ?_;(try simp only [qV]at *);(try simp only [zQ,zA,zB,zC,zD,zE,zF,zG,zH,zI,zJ,zK,zL,zM,zN,zO,zP,zR,zS]at *);exact(fault_many (by first|assumption|omega) (by unfold manyD;omega)).symm);done)
    |(subst hR;(refine qE ?_;(try simp only [qV]at *);(try simp only [zQ,zA,zB,zC,zD,zE,zF,zG,zH,zI,zJ,zK,zL,zM,zN,zO,zP,zR,zS]at *);exact(fault_no (by first|assumption|omega) (by unfold manyD;omega) (fun g=>by have a1:=g.1;have a2:=g.2.1;omega)).symm);done)
    |skip
  have hF:faultT d.tw d.tm d.tv=0:=by((try simp only [qV]at *);(try simp only [zQ,zA,zB,zC,zD,zE,zF,zG,zH,zI,zJ,zK,zL,zM,zN,zO,zP,zR,zS]at *);first|assumption|omega)
  have hm:¬manyD d:=by unfold manyD;((try simp only [qV]at *);(try simp only [zQ,zA,zB,zC,zD,zE,zF,zG,zH,zI,zJ,zK,zL,zM,zN,zO,zP,zR,zS]at *);omega)
  have hs1:1≤d.sn:=by((try simp only [qV]at *);(try simp only [zQ,zA,zB,zC,zD,zE,zF,zG,zH,zI,zJ,zK,zL,zM,zN,zO,zP,zR,zS]at *);omega)
  have hp1:1≤d.pn:=by((try simp only [qV]at *);(try simp only [zQ,zA,zB,zC,zD,zE,zF,zG,zH,zI,zJ,zK,zL,zM,zN,zO,zP,zR,zS]at *);omega)
  have hT:=hwm hF
  have hw2:=hT.w2
  have hw5:=hT.w5
  have hm2:=hT.m2
  have hm5:=hT.m5
  have hsm:d.sn≤3:=by((try simp only [qV]at *);(try simp only [zQ,zA,zB,zC,zD,zE,zF,zG,zH,zI,zJ,zK,zL,zM,zN,zO,zP,zR,zS]at *);omega)
  have hpm:d.pn≤4:=by((try simp only [qV]at *);(try simp only [zQ,zA,zB,zC,zD,zE,zF,zG,zH,zI,zJ,zK,zL,zM,zN,zO,zP,zR,zS]at *);omega)
  have c76w:=fun (a b:Int)=>c76 a b d.tw ⟨by omega,by omega⟩
  have c76m:=fun (a b:Int)=>c76 a b d.tm ⟨by omega,by omega⟩
  refine⟨none,[],{i:Nat // i≤d.ls.length∧∀k,k<i→linkP d.sn (d.ls.getD k l0T)},fun x=>⟨[(1,.own 0 0),(4,(.int .i64 (.sym fun _=>zi x.1)))],[(0,.cells [(.sl 1 (.sym fun _=>zi (d.tw).length) (fun ix=>[.int .i64 (.sym fun _=>(d.tw).getD ix.den.toNat 0)])),(.sl 1 (.sym fun _=>zi (d.tm).length) (fun ix=>[.int .i64 (.sym fun _=>(d.tm).getD ix.den.toNat 0)])),(.sl 1 (.sym fun _=>zi (d.tv).length) (fun ix=>[(.sl 1 (.sym fun _=>zi ((d.tv).getD ix.den.toNat []).length) (fun jx=>[.int .i64 (.sym fun _=>((d.tv).getD ix.den.toNat []).getD jx.den.toNat 0)]))])),(.int .i64 (.sym fun _=>d.sn)),(.int .i64 (.sym fun _=>d.pn)),(.sl 4 (.sym fun _=>zi (d.ls).length) (fun ix=>[(.int .i64 (.sym fun _=>((d.ls).getD ix.den.toNat l0T).a)),(.int .i64 (.sym fun _=>((d.ls).getD ix.den.toNat l0T).b)),(.int .i64 (.sym fun _=>((d.ls).getD ix.den.toNat l0T).lo)),(.int .i64 (.sym fun _=>((d.ls).getD ix.den.toNat l0T).hi))])),(.sl 6 (.sym fun _=>zi (d.fs).length) (fun ix=>[(.int .i64 (.sym fun _=>((d.fs).getD ix.den.toNat f0T).p)),(.int .i64 (.sym fun _=>((d.fs).getD ix.den.toNat f0T).s)),(.int .i64 (.sym fun _=>((d.fs).getD ix.den.toNat f0T).wl)),(.int .i64 (.sym fun _=>((d.fs).getD ix.den.toNat f0T).wh)),(.int .i64 (.sym fun _=>((d.fs).getD ix.den.toNat f0T).ml)),(.int .i64 (.sym fun _=>((d.fs).getD ix.den.toNat f0T).mh))]))] 29)],100⟩,fun x=>d.ls.length-x.1,?_,?_⟩
  · refine⟨⟨0,by omega,fun k hk=>by omega⟩,?_⟩
    cbv
    repeat' (first
      |with_reducible refine hold ?_ ?_
      |with_reducible refine And.intro ?_ ?_)
    all_goals first
      |trivial
      |exact qM (qE (by rfl))
      |exact qM (Fit.refl _)
      |exact qL (qK _)
      |skip
  · rintro ⟨i,hi,hq⟩
    cbv
    repeat' (first
        |with_reducible refine hold ?_ ?_
        |with_reducible refine And.intro ?_ ?_
        |(with_reducible intro hcd;(try simp only [zA,zB,zC,zD,zE,zF,zG,zH,zI,zJ,zK,zL,zM,zN,zO,zP]at hcd);try cbv)
        | (refine qP ?_ (c17 _ _ _) (by(repeat' (first|exact qB|refine qD ?_ ?_|exact qE (by rfl)|exact qF (by rfl)|exact Fit.refl _|exact qA|refine qC ?_ rfl ?_)))
           try cbv)
        |fail)
    all_goals first
      |((try simp only [qV]at *);(try simp only [zQ,zA,zB,zC,zD,zE,zF,zG,zH,zI,zJ,zK,zL,zM,zN,zO,zP,zR,zS,allB_t,allB_f,inB_t,inB_f,ofB_t,ofB_f,linkB_t,linkB_f,factB_t,factB_f]at *);first|(refine qN ?_;omega)|(simp only [Hold];omega))
      |(subst hR;(refine qE ?_;(try simp only [qV]at *);(try simp only [zQ,zA,zB,zC,zD,zE,zF,zG,zH,zI,zJ,zK,zL,zM,zN,zO,zP,zR,zS]at *);(try simp only [allB_t,allB_f,inB_t,inB_f,ofB_t,ofB_f,linkB_t,linkB_f,factB_t,factB_f]at *);exact(fault_no hF hm (fun g=>by have g:=good_iff.1 g;have q:=g.2.2.1 i (by omega);unfold linkP at q;omega)).symm);done)
      |((try simp only [zQ,zA,zB,zC,zD,zE,zF,zG,zH,zI,zJ,zK,zL,zM,zN,zO,zP,zR,zS,allB_t,allB_f,inB_t,inB_f,ofB_t,ofB_f,linkB_t,linkB_f,factB_t,factB_f]at *);refine⟨⟨i+1,by omega,fun k hk=>(Nat.lt_or_ge k i).elim (hq k) fun q=>by rw [show k=i by omega];unfold linkP;omega⟩,by simp only [];omega,?_⟩;cbv;(repeat' (first|with_reducible refine hold ?_ ?_|with_reducible refine And.intro ?_ ?_));(all_goals first|trivial|exact qM (qE (by rfl))|exact qM (qF (by rfl))|exact qM (Fit.refl _)|exact qL (qK _)|(refine qM (qE ?_);(try simp only [qV]at *);simp only [zQ,zA,zB,zC,zD,zE,zF,zG,zH,zI,zJ,zK,zL,zM,zN,zO,zP,zR,zS]at *;omega)|(refine qL (qJ ?_);(repeat' (first|exact qA|exact qB|refine qC ?_ rfl ?_|refine qD ?_ ?_|exact qE (by rfl)|exact qF (by rfl)|exact Fit.refl _|exact qG _|(refine qE ?_;(try simp only [qV]at *);simp only [zQ,zA,zB,zC,zD,zE,zF,zG,zH,zI,zJ,zK,zL,zM,zN,zO,zP,zR,zS]at *;omega)));done)|skip))
      |skip
    have hq:∀k,k<d.ls.length→linkP d.sn (d.ls.getD k l0T):=fun k hk=>hq k (by((try simp only [qV]at *);(try simp only [zQ,zA,zB,zC,zD,zE,zF,zG,zH,zI,zJ,zK,zL,zM,zN,zO,zP,zR,zS]at *);omega))
    refine⟨none,[],{j:Nat // j≤d.fs.length∧∀k,k<j→factP d (d.fs.getD k f0T)},fun x=>⟨[(1,.own 0 0),(6,(.int .i64 (.sym fun _=>zi x.1)))],[(0,.cells [(.sl 1 (.sym fun _=>zi (d.tw).length) (fun ix=>[.int .i64 (.sym fun _=>(d.tw).getD ix.den.toNat 0)])),(.sl 1 (.sym fun _=>zi (d.tm).length) (fun ix=>[.int .i64 (.sym fun _=>(d.tm).getD ix.den.toNat 0)])),(.sl 1 (.sym fun _=>zi (d.tv).length) (fun ix=>[(.sl 1 (.sym fun _=>zi ((d.tv).getD ix.den.toNat []).length) (fun jx=>[.int .i64 (.sym fun _=>((d.tv).getD ix.den.toNat []).getD jx.den.toNat 0)]))])),(.int .i64 (.sym fun _=>d.sn)),(.int .i64 (.sym fun _=>d.pn)),(.sl 4 (.sym fun _=>zi (d.ls).length) (fun ix=>[(.int .i64 (.sym fun _=>((d.ls).getD ix.den.toNat l0T).a)),(.int .i64 (.sym fun _=>((d.ls).getD ix.den.toNat l0T).b)),(.int .i64 (.sym fun _=>((d.ls).getD ix.den.toNat l0T).lo)),(.int .i64 (.sym fun _=>((d.ls).getD ix.den.toNat l0T).hi))])),(.sl 6 (.sym fun _=>zi (d.fs).length) (fun ix=>[(.int .i64 (.sym fun _=>((d.fs).getD ix.den.toNat f0T).p)),(.int .i64 (.sym fun _=>((d.fs).getD ix.den.toNat f0T).s)),(.int .i64 (.sym fun _=>((d.fs).getD ix.den.toNat f0T).wl)),(.int .i64 (.sym fun _=>((d.fs).getD ix.den.toNat f0T).wh)),(.int .i64 (.sym fun _=>((d.fs).getD ix.den.toNat f0T).ml)),(.int .i64 (.sym fun _=>((d.fs).getD ix.den.toNat f0T).mh))]))] 29)],200⟩,fun x=>d.fs.length-x.1,?_,?_⟩
    · refine⟨⟨0,by omega,fun k hk=>by omega⟩,?_⟩
      cbv
      repeat' (first
        |with_reducible refine hold ?_ ?_
        |with_reducible refine And.intro ?_ ?_)
      all_goals first
        |trivial
        |exact qM (qE (by rfl))
        |exact qM (Fit.refl _)
        |exact qL (qK _)
        |skip
    · rintro ⟨j,hj,hr⟩
      cbv
      repeat' (first
          |with_reducible refine hold ?_ ?_
          |with_reducible refine And.intro ?_ ?_
          |(with_reducible intro hcd;(try simp only [zA,zB,zC,zD,zE,zF,zG,zH,zI,zJ,zK,zL,zM,zN,zO,zP]at hcd);try cbv)
          | (refine qP ?_ (c17 _ _ _) (by(repeat' (first|exact qB|refine qD ?_ ?_|exact qE (by rfl)|exact qF (by rfl)|exact Fit.refl _|exact qA|refine qC ?_ rfl ?_)))
             try cbv)
          | (refine qP ?_ (c76w (d.fs.getD j f0T).wl (d.fs.getD j f0T).wh) ?hfit
             case hfit=>((repeat' (first|exact qB|refine qD ?_ ?_|exact qE (by rfl)|exact qF (by rfl)|exact Fit.refl _|exact qA|refine qC ?_ rfl ?_));done)
             try cbv)
          | (refine qP ?_ (c76m (d.fs.getD j f0T).ml (d.fs.getD j f0T).mh) ?hfit
             case hfit=>((repeat' (first|exact qB|refine qD ?_ ?_|exact qE (by rfl)|exact qF (by rfl)|exact Fit.refl _|exact qA|refine qC ?_ rfl ?_));done)
             try cbv)
          |fail)
      all_goals first
        |((try simp only [qV]at *);(try simp only [zQ,zA,zB,zC,zD,zE,zF,zG,zH,zI,zJ,zK,zL,zM,zN,zO,zP,zR,zS,allB_t,allB_f,inB_t,inB_f,ofB_t,ofB_f,linkB_t,linkB_f,factB_t,factB_f]at *);first|(refine qN ?_;omega)|(simp only [Hold];omega))
        |(subst hR;(refine qE ?_;(try simp only [qV]at *);(try simp only [zQ,zA,zB,zC,zD,zE,zF,zG,zH,zI,zJ,zK,zL,zM,zN,zO,zP,zR,zS]at *);(try simp only [allB_t,allB_f,inB_t,inB_f,ofB_t,ofB_f,linkB_t,linkB_f,factB_t,factB_f]at *);exact(fault_no hF hm (fun g=>by have g:=good_iff.1 g;have q:=g.2.2.2 j (by omega);unfold factP at q;first|omega|(rw [show ofB (d.tw.getD 0 0) (d.fs.getD j f0T).wl (d.fs.getD j f0T).wh (d.tw.getD (d.tw.length-1) 0)=false by assumption]at *;omega))).symm);done)
        |(subst hR;(refine qE ?_;(try simp only [qV]at *);(try simp only [zQ,zA,zB,zC,zD,zE,zF,zG,zH,zI,zJ,zK,zL,zM,zN,zO,zP,zR,zS]at *);(try simp only [allB_t,allB_f,inB_t,inB_f,ofB_t,ofB_f,linkB_t,linkB_f,factB_t,factB_f]at *);exact(fault_yes hF hm (good_iff.2 ⟨hs1,hp1,fun k hk=>hq k (by omega),fun k hk=>hr k (by omega)⟩)).symm);done)
        |((try simp only [zQ,zA,zB,zC,zD,zE,zF,zG,zH,zI,zJ,zK,zL,zM,zN,zO,zP,zR,zS,allB_t,allB_f,inB_t,inB_f,ofB_t,ofB_f,linkB_t,linkB_f,factB_t,factB_f]at *);refine⟨⟨j+1,by omega,fun k hk=>(Nat.lt_or_ge k j).elim (hr k) fun q=>by rw [show k=j by omega];unfold factP;omega⟩,by simp only [];omega,?_⟩;cbv;(repeat' (first|with_reducible refine hold ?_ ?_|with_reducible refine And.intro ?_ ?_));(all_goals first|trivial|exact qM (qE (by rfl))|exact qM (qF (by rfl))|exact qM (Fit.refl _)|exact qL (qK _)|(refine qM (qE ?_);(try simp only [qV]at *);simp only [zQ,zA,zB,zC,zD,zE,zF,zG,zH,zI,zJ,zK,zL,zM,zN,zO,zP,zR,zS]at *;omega)|(refine qL (qJ ?_);(repeat' (first|exact qA|exact qB|refine qC ?_ rfl ?_|refine qD ?_ ?_|exact qE (by rfl)|exact qF (by rfl)|exact Fit.refl _|exact qG _|(refine qE ?_;(try simp only [qV]at *);simp only [zQ,zA,zB,zC,zD,zE,zF,zG,zH,zI,zJ,zK,zL,zM,zN,zO,zP,zR,zS]at *;omega)));done)|skip))
        |skip
theorem fault15 (d:Dsp):FSpec Try.prog 15 [(dspS d)] [] (fun r _=>r=(.int .i64 (.sym fun _=>faultD d))):=by
  have c47:=fault47 d
  refine FSpec.is fun R hR=>qW (sc:=sc15) tyok mix Try.func15 rfl Try.call15 (by kernel_rfl) (by kernel_rfl) ?_
  generalize Try.prog=P at c47⊢
  cbv
  repeat' (first
      | (refine qP ?_ (c47) ?hfit
         case hfit=>((repeat' (first|exact qB|refine qD ?_ ?_|exact qE (by rfl)|exact qF (by rfl)|exact Fit.refl _|exact qA|refine qC ?_ rfl ?_));done)
         try cbv)
      |fail)
  all_goals first
    |(subst hR;(repeat' (first|exact qA|exact qB|refine qC ?_ rfl ?_|refine qD ?_ ?_|exact qE (by rfl)|exact qF (by rfl)|exact Fit.refl _|exact qG _|(refine qE ?_;(try simp only [qV]at *);simp only [zQ,zA,zB,zC,zD,zE,zF,zG,zH,zI,zJ,zK,zL,zM,zN,zO,zP,zR,zS]at *;omega)));done)
    |skip
theorem mean19 (d:Dsp)(f:FaT)(hT:TOk d.tw d.tm d.tv)(hf:factP d f):FSpec Try.prog 19 [(dspS d),(.agg [(.int .i64 (.sym fun _=>f.p)),(.int .i64 (.sym fun _=>f.s)),(.int .i64 (.sym fun _=>f.wl)),(.int .i64 (.sym fun _=>f.wh)),(.int .i64 (.sym fun _=>f.ml)),(.int .i64 (.sym fun _=>f.mh))])] [] (fun r _=>r=(.agg [(.int .i64 (.sym fun _=>mLo d f)),(.int .i64 (.sym fun _=>mHi d f))])):=by
  have c53:=bounds78 d.tw d.tm d.tv f.wl f.wh f.ml f.mh hT (fact_box hf)
  refine FSpec.is fun R hR=>qW (sc:=sc19) tyok mix Try.func19 rfl Try.call19 (by kernel_rfl) (by kernel_rfl) ?_
  generalize Try.prog=P at c53⊢
  cbv
  repeat' (first
      | (refine qP ?_ (c53) ?hfit
         case hfit=>((repeat' (first|exact qB|refine qD ?_ ?_|exact qE (by rfl)|exact qF (by rfl)|exact Fit.refl _|exact qA|refine qC ?_ rfl ?_));done)
         try cbv)
      |fail)
  all_goals first
    |(subst hR;(repeat' (first|exact qA|exact qB|refine qC ?_ rfl ?_|refine qD ?_ ?_|exact qE (by rfl)|exact qF (by rfl)|exact Fit.refl _|exact qG _|(refine qE ?_;(try simp only [qV]at *);simp only [zQ,zA,zB,zC,zD,zE,zF,zG,zH,zI,zJ,zK,zL,zM,zN,zO,zP,zR,zS]at *;omega)));done)
    |skip
end Go.Proofs.Ytkdggbfknlcdaaa
