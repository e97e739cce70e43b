/- Contracts of the functions that the laws come to. No condition. -/
import Derived.Test.YtkdggbfknlcdaaaT5
set_option linter.unusedVariables false
set_option linter.unusedSimpArgs false
set_option linter.deprecated false
set_option linter.all false

namespace Go.Proofs.Ytkdggbfknlcdaaa
open Go Go.Eng Go.Proofs Go.Eng.Dif Go.Eng.Few
set_option maxRecDepth 10000
theorem uru {n:Int} {f:Nat→Int} {L:List Int}(hn:n=(L.length:Int))(h:∀i,i<L.length→f i=L.getD i 0):Fit (.sl 1 (.sym fun _=>n) (fun ix=>[(iv fun _=>f ix.den.toNat)])) (iS L):=
  ua1 hn (fun ix h0 h1=>qC (qE (h _ (by have h2:ix.den<n:=h1;omega))) rfl qA)
theorem ut4 {n:Int} {f g:Nat→Int} {L:List (Int×Int)}(hn:n=(L.length:Int))(h:∀i,i<L.length→f i=(L.getD i (0,0)).1∧g i=(L.getD i (0,0)).2):Fit (.sl 2 (.sym fun _=>n) (fun ix=>[(iv fun _=>f ix.den.toNat),(iv fun _=>g ix.den.toNat)])) (.sl 2 (.sym fun _=>zi (L).length) (fun ix=>[(iv fun _=>((L).getD ix.den.toNat (0,0)).1),(iv fun _=>((L).getD ix.den.toNat (0,0)).2)])):=
  ua1 hn (fun ix h0 h1=>qC (qE (h _ (by have h2:ix.den<n:=h1;omega)).1) rfl (qC (qE (h _ (by have h2:ix.den<n:=h1;omega)).2) rfl qA))
theorem uwh :ua0 Try.prog 13 [(dspS d3),(iv fun _=>0)] [] (fun r _=>r=(.tup [(.agg [(.int .i64 (.lit (115))),(.int .i64 (.lit (119)))]),(.int .i64 (.lit (0)))])):=
  (uuX d3 0 (by decide)).post fun r bs h=>⟨_,by subst h;exact qD (qC (qE uoe.2.1) rfl (qC (qE uoe.2.2) rfl qA)) (qD (qE uoe.1) qB),rfl⟩
theorem uua :ua0 Try.prog 27 [(dspS d3)] [] (fun r _=>r=(.tup [(.int .i64 (.lit (1))),(.int .i64 (.lit (0)))])):=
  (utG d3).post fun r bs h=>⟨_,by subst h;exact qD (qE uv8.2) (qD (qE uv8.1) qB),rfl⟩
theorem uu4 :ua0 Try.prog 22 [(dspS d3)] [] (fun r _=>r=(.tup [(iS ([1])),(.int .i64 (.lit (0)))])):=
  (ubG d3).post fun r bs h=>⟨_,by subst h;rw [lea3];exact qD (Fit.refl _) (qD (qE ugO) qB),rfl⟩
theorem uqg :ua0 Try.prog 23 [(dspS d3)] [] (fun r _=>r=(.tup [(iS ([1])),(.int .i64 (.lit (0)))])):=
  (up5 d3).post fun r bs h=>⟨_,by subst h;rw [bel3];exact qD (Fit.refl _) (qD (qE ugO) qB),rfl⟩
theorem utS :ua0 Try.prog 33 [(dspS d3)] [] (fun r _=>r=(.tup [(iS ([1])),(iS ([1])),(.int .i64 (.lit (0)))])):=
  (ukn d3).post fun r bs h=>⟨_,by subst h;rw [mst3,may3];exact qD (Fit.refl _) (qD (Fit.refl _) (qD (qE ugO) qB)),rfl⟩
def B2X :List (Int×Int):=[(116,119),(116,116)]
theorem usL :ua0 Try.prog 21 [(dspS d2)] [] (fun r _=>r=(.tup [(.sl 2 (.sym fun _=>zi (B2X).length) (fun ix=>[(iv fun _=>((B2X).getD ix.den.toNat (0,0)).1),(iv fun _=>((B2X).getD ix.den.toNat (0,0)).2)])),(.int .i64 (.lit (0)))])):=
  (ubi d2).post fun r bs h=>⟨_,by subst h;exact qD (ut4 (f:=loT d2 []) (g:=hiT d2 []) (L:=B2X) bnd2.2 (fun i hi=>by
    have hi:i<2:=hi
    rcases(show i=0∨i=1 by omega)with e|e<;>subst e<;>(first|exact bd2.1|exact bd2.2))) (qD (qE bnd2.1) qB),rfl⟩
theorem utK :ua0 Try.prog 36 [(dspS d3),(iv fun _=>0),(iv fun _=>1000)] [] (fun r _=>r=(.tup [(.agg [(.int .i64 (.lit (116))),(.int .i64 (.lit (119)))]),(.int .i64 (.lit (0)))])):=
  (upB d3 0 1000).post fun r bs h=>⟨_,by subst h;exact qD (qC (qE ch3.2.1) rfl (qC (qE ch3.2.2) rfl qA)) (qD (qE ch3.1) qB),rfl⟩
theorem utJ :ua0 Try.prog 34 [(dspS d3),(iv fun _=>100)] [] (fun r _=>r=(.tup [(iS ([0,100,0])),(.int .i64 (.lit (0)))])):=
  (unZ d3 100).post fun r bs h=>⟨_,by subst h;exact qD (uru (f:=cosF d3 100) (L:=[0,100,0]) co3.2 (fun i hi=>by
    have hi:i<3:=hi
    rcases(show i=0∨i=1∨i=2 by omega)with e|e|e<;>subst e<;>(first|exact cos3.1|exact cos3.2.1|exact cos3.2.2))) (qD (qE co3.1) qB),rfl⟩
theorem ut3 :ua0 Try.prog 34 [(dspS d2),(iv fun _=>100)] [] (fun r _=>r=(.tup [(iS ([34,33,33])),(.int .i64 (.lit (0)))])):=
  (unZ d2 100).post fun r bs h=>⟨_,by subst h;exact qD (uru (f:=cosF d2 100) (L:=[34,33,33]) co2.2 (fun i hi=>by
    have hi:i<3:=hi
    rcases(show i=0∨i=1∨i=2 by omega)with e|e|e<;>subst e<;>(first|exact cos2.1|exact cos2.2.1|exact cos2.2.2))) (qD (qE co2.1) qB),rfl⟩
theorem uuN :ua0 Try.prog 26 [(iS ([1])),(iS ([1]))] [] (fun r _=>r=(.bool (.lit true))):=
  (uge 1 1 (fun n=>([1]).getD n 0) (fun n=>([1]).getD n 0) (by decide) (by decide)).post fun r bs h=>⟨_,by subst h;(repeat' (first|exact qA|exact qB|refine qC ?_ rfl ?_|refine qD ?_ ?_|exact qE (by rfl)|exact qF (by rfl)|exact qE (by kernel_rfl)|exact qF (by kernel_rfl)|exact Fit.refl _|(exact qO (by rfl))|(first|(refine ua1 (by rfl) (fun ix h0 h1=> ?_);(have h2:ix.den<2:=h1);(have hx:ix.den.toNat=0∨ix.den.toNat=1:=by omega);(rcases hx with hx|hx<;>simp only [hx]))|(refine ua1 (by rfl) (fun ix h0 h1=> ?_);(have h2:ix.den<3:=h1);(have hx:ix.den.toNat=0∨ix.den.toNat=1∨ix.den.toNat=2:=by omega);(rcases hx with hx|hx|hx<;>simp only [hx]))|(refine ua1 (by rfl) (fun ix h0 h1=> ?_);(have h2:ix.den<4:=h1);(have hx:ix.den.toNat=0∨ix.den.toNat=1∨ix.den.toNat=2∨ix.den.toNat=3:=by omega);(rcases hx with hx|hx|hx|hx<;>simp only [hx]))|(refine ua1 (by rfl) (fun ix h0 h1=> ?_);(have h2:ix.den<1:=h1);(have hx:ix.den.toNat=0:=by omega);(rcases hx with hx<;>simp only [hx]))|(refine ua1 (by rfl) (fun ix h0 h1=> ?_);(have h2:ix.den<5:=h1);(have hx:ix.den.toNat=0∨ix.den.toNat=1∨ix.den.toNat=2∨ix.den.toNat=3∨ix.den.toNat=4:=by omega);(rcases hx with hx|hx|hx|hx|hx<;>simp only [hx]))))),rfl⟩
theorem uu5 :ua0 Try.prog 26 [(iS ([0,100,0])),(iS ([0,100,0]))] [] (fun r _=>r=(.bool (.lit true))):=
  (uge 3 3 (fun n=>([0,100,0]).getD n 0) (fun n=>([0,100,0]).getD n 0) (by decide) (by decide)).post fun r bs h=>⟨_,by subst h;(repeat' (first|exact qA|exact qB|refine qC ?_ rfl ?_|refine qD ?_ ?_|exact qE (by rfl)|exact qF (by rfl)|exact qE (by kernel_rfl)|exact qF (by kernel_rfl)|exact Fit.refl _|(exact qO (by rfl))|(first|(refine ua1 (by rfl) (fun ix h0 h1=> ?_);(have h2:ix.den<2:=h1);(have hx:ix.den.toNat=0∨ix.den.toNat=1:=by omega);(rcases hx with hx|hx<;>simp only [hx]))|(refine ua1 (by rfl) (fun ix h0 h1=> ?_);(have h2:ix.den<3:=h1);(have hx:ix.den.toNat=0∨ix.den.toNat=1∨ix.den.toNat=2:=by omega);(rcases hx with hx|hx|hx<;>simp only [hx]))|(refine ua1 (by rfl) (fun ix h0 h1=> ?_);(have h2:ix.den<4:=h1);(have hx:ix.den.toNat=0∨ix.den.toNat=1∨ix.den.toNat=2∨ix.den.toNat=3:=by omega);(rcases hx with hx|hx|hx|hx<;>simp only [hx]))|(refine ua1 (by rfl) (fun ix h0 h1=> ?_);(have h2:ix.den<1:=h1);(have hx:ix.den.toNat=0:=by omega);(rcases hx with hx<;>simp only [hx]))|(refine ua1 (by rfl) (fun ix h0 h1=> ?_);(have h2:ix.den<5:=h1);(have hx:ix.den.toNat=0∨ix.den.toNat=1∨ix.den.toNat=2∨ix.den.toNat=3∨ix.den.toNat=4:=by omega);(rcases hx with hx|hx|hx|hx|hx<;>simp only [hx]))))),rfl⟩
theorem uue :ua0 Try.prog 26 [(iS ([34,33,33])),(iS ([34,33,33]))] [] (fun r _=>r=(.bool (.lit true))):=
  (uge 3 3 (fun n=>([34,33,33]).getD n 0) (fun n=>([34,33,33]).getD n 0) (by decide) (by decide)).post fun r bs h=>⟨_,by subst h;(repeat' (first|exact qA|exact qB|refine qC ?_ rfl ?_|refine qD ?_ ?_|exact qE (by rfl)|exact qF (by rfl)|exact qE (by kernel_rfl)|exact qF (by kernel_rfl)|exact Fit.refl _|(exact qO (by rfl))|(first|(refine ua1 (by rfl) (fun ix h0 h1=> ?_);(have h2:ix.den<2:=h1);(have hx:ix.den.toNat=0∨ix.den.toNat=1:=by omega);(rcases hx with hx|hx<;>simp only [hx]))|(refine ua1 (by rfl) (fun ix h0 h1=> ?_);(have h2:ix.den<3:=h1);(have hx:ix.den.toNat=0∨ix.den.toNat=1∨ix.den.toNat=2:=by omega);(rcases hx with hx|hx|hx<;>simp only [hx]))|(refine ua1 (by rfl) (fun ix h0 h1=> ?_);(have h2:ix.den<4:=h1);(have hx:ix.den.toNat=0∨ix.den.toNat=1∨ix.den.toNat=2∨ix.den.toNat=3:=by omega);(rcases hx with hx|hx|hx|hx<;>simp only [hx]))|(refine ua1 (by rfl) (fun ix h0 h1=> ?_);(have h2:ix.den<1:=h1);(have hx:ix.den.toNat=0:=by omega);(rcases hx with hx<;>simp only [hx]))|(refine ua1 (by rfl) (fun ix h0 h1=> ?_);(have h2:ix.den<5:=h1);(have hx:ix.den.toNat=0∨ix.den.toNat=1∨ix.den.toNat=2∨ix.den.toNat=3∨ix.den.toNat=4:=by omega);(rcases hx with hx|hx|hx|hx|hx<;>simp only [hx]))))),rfl⟩
set_option maxHeartbeats 1000000 in
theorem ug9 :ua0 Try.prog 12 [] [] (fun r _=>r=(.bool (.lit true))):=by
  have k37:=usf
  have k39:=uvh
  have kmeanX:=uwh
  have kfirstX:=uua
  have kleaveX:=uu4
  have kbelieveX:=uqg
  have kblameX:=utS
  have kboundsX:=usL
  have kchargeX:=utK
  have kcosts3X:=utJ
  have kcosts2X:=ut3
  have kintsXa:=uuN
  have kintsXb:=uu5
  have kintsXc:=uue
  have c40:= @ugf
  have h33:=uj8
  refine ua0.is fun R hR=>qW (sc:=sc12) tyok mix Try.func12 rfl Try.call12 (by kernel_rfl) (by kernel_rfl) ?_
  generalize Try.prog=P at k37 k39 kmeanX kfirstX kleaveX kbelieveX kblameX kboundsX kchargeX kcosts3X kcosts2X kintsXa kintsXb kintsXc c40 h33⊢
  cbv
  repeat' (first
      |with_reducible refine hold ?_ ?_
      |with_reducible refine And.intro ?_ ?_
      |(with_reducible intro hcd;(try simp only [zA,zB,zC,zD,zE,zF,zG,zH,zI,zJ,zK,zL,zM,zN,zO,zP]at hcd);try cbv)
      | (refine qP ?_ (c40 _ _) (by(repeat' (first|exact qB|refine qD ?_ ?_|exact qE (by rfl)|exact qF (by rfl)|exact Fit.refl _|exact qA|refine qC ?_ rfl ?_)))
         try cbv)
      | (refine qP ?_ (k37) ?hfit
         case hfit=>((repeat' (first|exact qA|exact qB|refine qC ?_ rfl ?_|refine qD ?_ ?_|exact qE (by rfl)|exact qF (by rfl)|exact Fit.refl _|(exact qO (by rfl))|(first|(refine ua1 (by rfl) (fun ix h0 h1=> ?_);(have h2:ix.den<2:=h1);(have hx:ix.den.toNat=0∨ix.den.toNat=1:=by omega);(rcases hx with hx|hx<;>simp only [hx]))|(refine ua1 (by rfl) (fun ix h0 h1=> ?_);(have h2:ix.den<3:=h1);(have hx:ix.den.toNat=0∨ix.den.toNat=1∨ix.den.toNat=2:=by omega);(rcases hx with hx|hx|hx<;>simp only [hx]))|(refine ua1 (by rfl) (fun ix h0 h1=> ?_);(have h2:ix.den<4:=h1);(have hx:ix.den.toNat=0∨ix.den.toNat=1∨ix.den.toNat=2∨ix.den.toNat=3:=by omega);(rcases hx with hx|hx|hx|hx<;>simp only [hx]))|(refine ua1 (by rfl) (fun ix h0 h1=> ?_);(have h2:ix.den<1:=h1);(have hx:ix.den.toNat=0:=by omega);(rcases hx with hx<;>simp only [hx]))|(refine ua1 (by rfl) (fun ix h0 h1=> ?_);(have h2:ix.den<5:=h1);(have hx:ix.den.toNat=0∨ix.den.toNat=1∨ix.den.toNat=2∨ix.den.toNat=3∨ix.den.toNat=4:=by omega);(rcases hx with hx|hx|hx|hx|hx<;>simp only [hx])))));done)
         try cbv)
      | (refine qP ?_ (k39) ?hfit
         case hfit=>((repeat' (first|exact qA|exact qB|refine qC ?_ rfl ?_|refine qD ?_ ?_|exact qE (by rfl)|exact qF (by rfl)|exact Fit.refl _|(exact qO (by rfl))|(first|(refine ua1 (by rfl) (fun ix h0 h1=> ?_);(have h2:ix.den<2:=h1);(have hx:ix.den.toNat=0∨ix.den.toNat=1:=by omega);(rcases hx with hx|hx<;>simp only [hx]))|(refine ua1 (by rfl) (fun ix h0 h1=> ?_);(have h2:ix.den<3:=h1);(have hx:ix.den.toNat=0∨ix.den.toNat=1∨ix.den.toNat=2:=by omega);(rcases hx with hx|hx|hx<;>simp only [hx]))|(refine ua1 (by rfl) (fun ix h0 h1=> ?_);(have h2:ix.den<4:=h1);(have hx:ix.den.toNat=0∨ix.den.toNat=1∨ix.den.toNat=2∨ix.den.toNat=3:=by omega);(rcases hx with hx|hx|hx|hx<;>simp only [hx]))|(refine ua1 (by rfl) (fun ix h0 h1=> ?_);(have h2:ix.den<1:=h1);(have hx:ix.den.toNat=0:=by omega);(rcases hx with hx<;>simp only [hx]))|(refine ua1 (by rfl) (fun ix h0 h1=> ?_);(have h2:ix.den<5:=h1);(have hx:ix.den.toNat=0∨ix.den.toNat=1∨ix.den.toNat=2∨ix.den.toNat=3∨ix.den.toNat=4:=by omega);(rcases hx with hx|hx|hx|hx|hx<;>simp only [hx])))));done)
         try cbv)
      | (refine qP ?_ (kmeanX) ?hfit
         case hfit=>((repeat' (first|exact qA|exact qB|refine qC ?_ rfl ?_|refine qD ?_ ?_|exact qE (by rfl)|exact qF (by rfl)|exact Fit.refl _|(exact qO (by rfl))|(first|(refine ua1 (by rfl) (fun ix h0 h1=> ?_);(have h2:ix.den<2:=h1);(have hx:ix.den.toNat=0∨ix.den.toNat=1:=by omega);(rcases hx with hx|hx<;>simp only [hx]))|(refine ua1 (by rfl) (fun ix h0 h1=> ?_);(have h2:ix.den<3:=h1);(have hx:ix.den.toNat=0∨ix.den.toNat=1∨ix.den.toNat=2:=by omega);(rcases hx with hx|hx|hx<;>simp only [hx]))|(refine ua1 (by rfl) (fun ix h0 h1=> ?_);(have h2:ix.den<4:=h1);(have hx:ix.den.toNat=0∨ix.den.toNat=1∨ix.den.toNat=2∨ix.den.toNat=3:=by omega);(rcases hx with hx|hx|hx|hx<;>simp only [hx]))|(refine ua1 (by rfl) (fun ix h0 h1=> ?_);(have h2:ix.den<1:=h1);(have hx:ix.den.toNat=0:=by omega);(rcases hx with hx<;>simp only [hx]))|(refine ua1 (by rfl) (fun ix h0 h1=> ?_);(have h2:ix.den<5:=h1);(have hx:ix.den.toNat=0∨ix.den.toNat=1∨ix.den.toNat=2∨ix.den.toNat=3∨ix.den.toNat=4:=by omega);(rcases hx with hx|hx|hx|hx|hx<;>simp only [hx])))));done)
         try cbv)
      | (refine qP ?_ (kfirstX) ?hfit
         case hfit=>((repeat' (first|exact qA|exact qB|refine qC ?_ rfl ?_|refine qD ?_ ?_|exact qE (by rfl)|exact qF (by rfl)|exact Fit.refl _|(exact qO (by rfl))|(first|(refine ua1 (by rfl) (fun ix h0 h1=> ?_);(have h2:ix.den<2:=h1);(have hx:ix.den.toNat=0∨ix.den.toNat=1:=by omega);(rcases hx with hx|hx<;>simp only [hx]))|(refine ua1 (by rfl) (fun ix h0 h1=> ?_);(have h2:ix.den<3:=h1);(have hx:ix.den.toNat=0∨ix.den.toNat=1∨ix.den.toNat=2:=by omega);(rcases hx with hx|hx|hx<;>simp only [hx]))|(refine ua1 (by rfl) (fun ix h0 h1=> ?_);(have h2:ix.den<4:=h1);(have hx:ix.den.toNat=0∨ix.den.toNat=1∨ix.den.toNat=2∨ix.den.toNat=3:=by omega);(rcases hx with hx|hx|hx|hx<;>simp only [hx]))|(refine ua1 (by rfl) (fun ix h0 h1=> ?_);(have h2:ix.den<1:=h1);(have hx:ix.den.toNat=0:=by omega);(rcases hx with hx<;>simp only [hx]))|(refine ua1 (by rfl) (fun ix h0 h1=> ?_);(have h2:ix.den<5:=h1);(have hx:ix.den.toNat=0∨ix.den.toNat=1∨ix.den.toNat=2∨ix.den.toNat=3∨ix.den.toNat=4:=by omega);(rcases hx with hx|hx|hx|hx|hx<;>simp only [hx])))));done)
         try cbv)
      | (refine qP ?_ (kleaveX) ?hfit
         case hfit=>((repeat' (first|exact qA|exact qB|refine qC ?_ rfl ?_|refine qD ?_ ?_|exact qE (by rfl)|exact qF (by rfl)|exact Fit.refl _|(exact qO (by rfl))|(first|(refine ua1 (by rfl) (fun ix h0 h1=> ?_);(have h2:ix.den<2:=h1);(have hx:ix.den.toNat=0∨ix.den.toNat=1:=by omega);(rcases hx with hx|hx<;>simp only [hx]))|(refine ua1 (by rfl) (fun ix h0 h1=> ?_);(have h2:ix.den<3:=h1);(have hx:ix.den.toNat=0∨ix.den.toNat=1∨ix.den.toNat=2:=by omega);(rcases hx with hx|hx|hx<;>simp only [hx]))|(refine ua1 (by rfl) (fun ix h0 h1=> ?_);(have h2:ix.den<4:=h1);(have hx:ix.den.toNat=0∨ix.den.toNat=1∨ix.den.toNat=2∨ix.den.toNat=3:=by omega);(rcases hx with hx|hx|hx|hx<;>simp only [hx]))|(refine ua1 (by rfl) (fun ix h0 h1=> ?_);(have h2:ix.den<1:=h1);(have hx:ix.den.toNat=0:=by omega);(rcases hx with hx<;>simp only [hx]))|(refine ua1 (by rfl) (fun ix h0 h1=> ?_);(have h2:ix.den<5:=h1);(have hx:ix.den.toNat=0∨ix.den.toNat=1∨ix.den.toNat=2∨ix.den.toNat=3∨ix.den.toNat=4:=by omega);(rcases hx with hx|hx|hx|hx|hx<;>simp only [hx])))));done)
         try cbv)
      | (refine qP ?_ (kbelieveX) ?hfit
         case hfit=>((repeat' (first|exact qA|exact qB|refine qC ?_ rfl ?_|refine qD ?_ ?_|exact qE (by rfl)|exact qF (by rfl)|exact Fit.refl _|(exact qO (by rfl))|(first|(refine ua1 (by rfl) (fun ix h0 h1=> ?_);(have h2:ix.den<2:=h1);(have hx:ix.den.toNat=0∨ix.den.toNat=1:=by omega);(rcases hx with hx|hx<;>simp only [hx]))|(refine ua1 (by rfl) (fun ix h0 h1=> ?_);(have h2:ix.den<3:=h1);(have hx:ix.den.toNat=0∨ix.den.toNat=1∨ix.den.toNat=2:=by omega);(rcases hx with hx|hx|hx<;>simp only [hx]))|(refine ua1 (by rfl) (fun ix h0 h1=> ?_);(have h2:ix.den<4:=h1);(have hx:ix.den.toNat=0∨ix.den.toNat=1∨ix.den.toNat=2∨ix.den.toNat=3:=by omega);(rcases hx with hx|hx|hx|hx<;>simp only [hx]))|(refine ua1 (by rfl) (fun ix h0 h1=> ?_);(have h2:ix.den<1:=h1);(have hx:ix.den.toNat=0:=by omega);(rcases hx with hx<;>simp only [hx]))|(refine ua1 (by rfl) (fun ix h0 h1=> ?_);(have h2:ix.den<5:=h1);(have hx:ix.den.toNat=0∨ix.den.toNat=1∨ix.den.toNat=2∨ix.den.toNat=3∨ix.den.toNat=4:=by omega);(rcases hx with hx|hx|hx|hx|hx<;>simp only [hx])))));done)
         try cbv)
      | (refine qP ?_ (kblameX) ?hfit
         case hfit=>((repeat' (first|exact qA|exact qB|refine qC ?_ rfl ?_|refine qD ?_ ?_|exact qE (by rfl)|exact qF (by rfl)|exact Fit.refl _|(exact qO (by rfl))|(first|(refine ua1 (by rfl) (fun ix h0 h1=> ?_);(have h2:ix.den<2:=h1);(have hx:ix.den.toNat=0∨ix.den.toNat=1:=by omega);(rcases hx with hx|hx<;>simp only [hx]))|(refine ua1 (by rfl) (fun ix h0 h1=> ?_);(have h2:ix.den<3:=h1);(have hx:ix.den.toNat=0∨ix.den.toNat=1∨ix.den.toNat=2:=by omega);(rcases hx with hx|hx|hx<;>simp only [hx]))|(refine ua1 (by rfl) (fun ix h0 h1=> ?_);(have h2:ix.den<4:=h1);(have hx:ix.den.toNat=0∨ix.den.toNat=1∨ix.den.toNat=2∨ix.den.toNat=3:=by omega);(rcases hx with hx|hx|hx|hx<;>simp only [hx]))|(refine ua1 (by rfl) (fun ix h0 h1=> ?_);(have h2:ix.den<1:=h1);(have hx:ix.den.toNat=0:=by omega);(rcases hx with hx<;>simp only [hx]))|(refine ua1 (by rfl) (fun ix h0 h1=> ?_);(have h2:ix.den<5:=h1);(have hx:ix.den.toNat=0∨ix.den.toNat=1∨ix.den.toNat=2∨ix.den.toNat=3∨ix.den.toNat=4:=by omega);(rcases hx with hx|hx|hx|hx|hx<;>simp only [hx])))));done)
         try cbv)
      | (refine qP ?_ (kboundsX) ?hfit
         case hfit=>((repeat' (first|exact qA|exact qB|refine qC ?_ rfl ?_|refine qD ?_ ?_|exact qE (by rfl)|exact qF (by rfl)|exact Fit.refl _|(exact qO (by rfl))|(first|(refine ua1 (by rfl) (fun ix h0 h1=> ?_);(have h2:ix.den<2:=h1);(have hx:ix.den.toNat=0∨ix.den.toNat=1:=by omega);(rcases hx with hx|hx<;>simp only [hx]))|(refine ua1 (by rfl) (fun ix h0 h1=> ?_);(have h2:ix.den<3:=h1);(have hx:ix.den.toNat=0∨ix.den.toNat=1∨ix.den.toNat=2:=by omega);(rcases hx with hx|hx|hx<;>simp only [hx]))|(refine ua1 (by rfl) (fun ix h0 h1=> ?_);(have h2:ix.den<4:=h1);(have hx:ix.den.toNat=0∨ix.den.toNat=1∨ix.den.toNat=2∨ix.den.toNat=3:=by omega);(rcases hx with hx|hx|hx|hx<;>simp only [hx]))|(refine ua1 (by rfl) (fun ix h0 h1=> ?_);(have h2:ix.den<1:=h1);(have hx:ix.den.toNat=0:=by omega);(rcases hx with hx<;>simp only [hx]))|(refine ua1 (by rfl) (fun ix h0 h1=> ?_);(have h2:ix.den<5:=h1);(have hx:ix.den.toNat=0∨ix.den.toNat=1∨ix.den.toNat=2∨ix.den.toNat=3∨ix.den.toNat=4:=by omega);(rcases hx with hx|hx|hx|hx|hx<;>simp only [hx])))));done)
         try cbv)
      | (refine qP ?_ (kchargeX) ?hfit
         case hfit=>((repeat' (first|exact qA|exact qB|refine qC ?_ rfl ?_|refine qD ?_ ?_|exact qE (by rfl)|exact qF (by rfl)|exact Fit.refl _|(exact qO (by rfl))|(first|(refine ua1 (by rfl) (fun ix h0 h1=> ?_);(have h2:ix.den<2:=h1);(have hx:ix.den.toNat=0∨ix.den.toNat=1:=by omega);(rcases hx with hx|hx<;>simp only [hx]))|(refine ua1 (by rfl) (fun ix h0 h1=> ?_);(have h2:ix.den<3:=h1);(have hx:ix.den.toNat=0∨ix.den.toNat=1∨ix.den.toNat=2:=by omega);(rcases hx with hx|hx|hx<;>simp only [hx]))|(refine ua1 (by rfl) (fun ix h0 h1=> ?_);(have h2:ix.den<4:=h1);(have hx:ix.den.toNat=0∨ix.den.toNat=1∨ix.den.toNat=2∨ix.den.toNat=3:=by omega);(rcases hx with hx|hx|hx|hx<;>simp only [hx]))|(refine ua1 (by rfl) (fun ix h0 h1=> ?_);(have h2:ix.den<1:=h1);(have hx:ix.den.toNat=0:=by omega);(rcases hx with hx<;>simp only [hx]))|(refine ua1 (by rfl) (fun ix h0 h1=> ?_);(have h2:ix.den<5:=h1);(have hx:ix.den.toNat=0∨ix.den.toNat=1∨ix.den.toNat=2∨ix.den.toNat=3∨ix.den.toNat=4:=by omega);(rcases hx with hx|hx|hx|hx|hx<;>simp only [hx])))));done)
         try cbv)
      | (refine qP ?_ (kcosts3X) ?hfit
         case hfit=>((repeat' (first|exact qA|exact qB|refine qC ?_ rfl ?_|refine qD ?_ ?_|exact qE (by rfl)|exact qF (by rfl)|exact Fit.refl _|(exact qO (by rfl))|(first|(refine ua1 (by rfl) (fun ix h0 h1=> ?_);(have h2:ix.den<2:=h1);(have hx:ix.den.toNat=0∨ix.den.toNat=1:=by omega);(rcases hx with hx|hx<;>simp only [hx]))|(refine ua1 (by rfl) (fun ix h0 h1=> ?_);(have h2:ix.den<3:=h1);(have hx:ix.den.toNat=0∨ix.den.toNat=1∨ix.den.toNat=2:=by omega);(rcases hx with hx|hx|hx<;>simp only [hx]))|(refine ua1 (by rfl) (fun ix h0 h1=> ?_);(have h2:ix.den<4:=h1);(have hx:ix.den.toNat=0∨ix.den.toNat=1∨ix.den.toNat=2∨ix.den.toNat=3:=by omega);(rcases hx with hx|hx|hx|hx<;>simp only [hx]))|(refine ua1 (by rfl) (fun ix h0 h1=> ?_);(have h2:ix.den<1:=h1);(have hx:ix.den.toNat=0:=by omega);(rcases hx with hx<;>simp only [hx]))|(refine ua1 (by rfl) (fun ix h0 h1=> ?_);(have h2:ix.den<5:=h1);(have hx:ix.den.toNat=0∨ix.den.toNat=1∨ix.den.toNat=2∨ix.den.toNat=3∨ix.den.toNat=4:=by omega);(rcases hx with hx|hx|hx|hx|hx<;>simp only [hx])))));done)
         try cbv)
      | (refine qP ?_ (kcosts2X) ?hfit
         case hfit=>((repeat' (first|exact qA|exact qB|refine qC ?_ rfl ?_|refine qD ?_ ?_|exact qE (by rfl)|exact qF (by rfl)|exact Fit.refl _|(exact qO (by rfl))|(first|(refine ua1 (by rfl) (fun ix h0 h1=> ?_);(have h2:ix.den<2:=h1);(have hx:ix.den.toNat=0∨ix.den.toNat=1:=by omega);(rcases hx with hx|hx<;>simp only [hx]))|(refine ua1 (by rfl) (fun ix h0 h1=> ?_);(have h2:ix.den<3:=h1);(have hx:ix.den.toNat=0∨ix.den.toNat=1∨ix.den.toNat=2:=by omega);(rcases hx with hx|hx|hx<;>simp only [hx]))|(refine ua1 (by rfl) (fun ix h0 h1=> ?_);(have h2:ix.den<4:=h1);(have hx:ix.den.toNat=0∨ix.den.toNat=1∨ix.den.toNat=2∨ix.den.toNat=3:=by omega);(rcases hx with hx|hx|hx|hx<;>simp only [hx]))|(refine ua1 (by rfl) (fun ix h0 h1=> ?_);(have h2:ix.den<1:=h1);(have hx:ix.den.toNat=0:=by omega);(rcases hx with hx<;>simp only [hx]))|(refine ua1 (by rfl) (fun ix h0 h1=> ?_);(have h2:ix.den<5:=h1);(have hx:ix.den.toNat=0∨ix.den.toNat=1∨ix.den.toNat=2∨ix.den.toNat=3∨ix.den.toNat=4:=by omega);(rcases hx with hx|hx|hx|hx|hx<;>simp only [hx])))));done)
         try cbv)
      | (refine qP ?_ (kintsXb) ?hfit
         case hfit=>((repeat' (first|exact qA|exact qB|refine qC ?_ rfl ?_|refine qD ?_ ?_|exact qE (by rfl)|exact qF (by rfl)|exact Fit.refl _|(exact qO (by rfl))|(first|(refine ua1 (by rfl) (fun ix h0 h1=> ?_);(have h2:ix.den<2:=h1);(have hx:ix.den.toNat=0∨ix.den.toNat=1:=by omega);(rcases hx with hx|hx<;>simp only [hx]))|(refine ua1 (by rfl) (fun ix h0 h1=> ?_);(have h2:ix.den<3:=h1);(have hx:ix.den.toNat=0∨ix.den.toNat=1∨ix.den.toNat=2:=by omega);(rcases hx with hx|hx|hx<;>simp only [hx]))|(refine ua1 (by rfl) (fun ix h0 h1=> ?_);(have h2:ix.den<4:=h1);(have hx:ix.den.toNat=0∨ix.den.toNat=1∨ix.den.toNat=2∨ix.den.toNat=3:=by omega);(rcases hx with hx|hx|hx|hx<;>simp only [hx]))|(refine ua1 (by rfl) (fun ix h0 h1=> ?_);(have h2:ix.den<1:=h1);(have hx:ix.den.toNat=0:=by omega);(rcases hx with hx<;>simp only [hx]))|(refine ua1 (by rfl) (fun ix h0 h1=> ?_);(have h2:ix.den<5:=h1);(have hx:ix.den.toNat=0∨ix.den.toNat=1∨ix.den.toNat=2∨ix.den.toNat=3∨ix.den.toNat=4:=by omega);(rcases hx with hx|hx|hx|hx|hx<;>simp only [hx])))));done)
         try cbv)
      | (refine qP ?_ (kintsXc) ?hfit
         case hfit=>((repeat' (first|exact qA|exact qB|refine qC ?_ rfl ?_|refine qD ?_ ?_|exact qE (by rfl)|exact qF (by rfl)|exact Fit.refl _|(exact qO (by rfl))|(first|(refine ua1 (by rfl) (fun ix h0 h1=> ?_);(have h2:ix.den<2:=h1);(have hx:ix.den.toNat=0∨ix.den.toNat=1:=by omega);(rcases hx with hx|hx<;>simp only [hx]))|(refine ua1 (by rfl) (fun ix h0 h1=> ?_);(have h2:ix.den<3:=h1);(have hx:ix.den.toNat=0∨ix.den.toNat=1∨ix.den.toNat=2:=by omega);(rcases hx with hx|hx|hx<;>simp only [hx]))|(refine ua1 (by rfl) (fun ix h0 h1=> ?_);(have h2:ix.den<4:=h1);(have hx:ix.den.toNat=0∨ix.den.toNat=1∨ix.den.toNat=2∨ix.den.toNat=3:=by omega);(rcases hx with hx|hx|hx|hx<;>simp only [hx]))|(refine ua1 (by rfl) (fun ix h0 h1=> ?_);(have h2:ix.den<1:=h1);(have hx:ix.den.toNat=0:=by omega);(rcases hx with hx<;>simp only [hx]))|(refine ua1 (by rfl) (fun ix h0 h1=> ?_);(have h2:ix.den<5:=h1);(have hx:ix.den.toNat=0∨ix.den.toNat=1∨ix.den.toNat=2∨ix.den.toNat=3∨ix.den.toNat=4:=by omega);(rcases hx with hx|hx|hx|hx|hx<;>simp only [hx])))));done)
         try cbv)
      | (refine⟨none,?_⟩
         refine qR ?_ (kintsXa) rfl ?hfit
         case hfit=>(cbv;(repeat' (first|exact qA|exact qB|refine qC ?_ rfl ?_|refine qD ?_ ?_|exact qE (by rfl)|exact qF (by rfl)|exact Fit.refl _|(exact qO (by rfl))|(first|(refine ua1 (by rfl) (fun ix h0 h1=> ?_);(have h2:ix.den<2:=h1);(have hx:ix.den.toNat=0∨ix.den.toNat=1:=by omega);(rcases hx with hx|hx<;>simp only [hx]))|(refine ua1 (by rfl) (fun ix h0 h1=> ?_);(have h2:ix.den<3:=h1);(have hx:ix.den.toNat=0∨ix.den.toNat=1∨ix.den.toNat=2:=by omega);(rcases hx with hx|hx|hx<;>simp only [hx]))|(refine ua1 (by rfl) (fun ix h0 h1=> ?_);(have h2:ix.den<4:=h1);(have hx:ix.den.toNat=0∨ix.den.toNat=1∨ix.den.toNat=2∨ix.den.toNat=3:=by omega);(rcases hx with hx|hx|hx|hx<;>simp only [hx]))|(refine ua1 (by rfl) (fun ix h0 h1=> ?_);(have h2:ix.den<1:=h1);(have hx:ix.den.toNat=0:=by omega);(rcases hx with hx<;>simp only [hx]))|(refine ua1 (by rfl) (fun ix h0 h1=> ?_);(have h2:ix.den<5:=h1);(have hx:ix.den.toNat=0∨ix.den.toNat=1∨ix.den.toNat=2∨ix.den.toNat=3∨ix.den.toNat=4:=by omega);(rcases hx with hx|hx|hx|hx|hx<;>simp only [hx])))));done)
         try cbv)
      |fail)
  all_goals first
    |trivial
    |(subst hR;(repeat' (first|exact qA|exact qB|refine qC ?_ rfl ?_|refine qD ?_ ?_|exact qE (by rfl)|exact qF (by rfl)|exact Fit.refl _|exact qG _|(refine qE ?_;(try simp only [qV]at *);simp only [zQ,zA,zB,zC,zD,zE,zF,zG,zH,zI,zJ,zK,zL,zM,zN,zO,zP,zR,zS]at *;omega)));done)
    |skip
end Go.Proofs.Ytkdggbfknlcdaaa
namespace Go.Proofs.Ytkdggbfknlcdaaa
open Go Go.Eng Go.Proofs
set_option maxRecDepth 10000
theorem uty (tw tm:List Int)(tv:List (List Int))(hT:ThinT tw tm tv):ua0 Try.prog 46 [(.agg [(iS tw),(iS tm),(.sl 1 (.sym fun _=>zi (tv).length) (fun ix=>[(.sl 1 (.sym fun _=>zi ((tv).getD ix.den.toNat []).length) (fun jx=>[(iv fun _=>((tv).getD ix.den.toNat []).getD jx.den.toNat 0)]))]))])] [] (fun r _=>r=(.agg [(iS tw),(iS tm),(.sl 1 (.sym fun _=>zi (tv).length) (fun ix=>[(.sl 1 (.sym fun _=>zi ((tv).getD ix.den.toNat []).length) (fun jx=>[(iv fun _=>((tv).getD ix.den.toNat []).getD jx.den.toNat 0)]))]))])):=by
  have c87w:=unh tw (by have:=hT.w;omega)
  have c87m:=unh tm (by have:=hT.m;omega)
  have c87r:=fun (i:Nat) (hi:i<tv.length)=>unh (tv.getD i []) (by have:=hT.r i hi;omega)
  refine ua0.is fun R hR=>qW (sc:=sc46) tyok mix Try.func46 rfl Try.call46 (by kernel_rfl) (by kernel_rfl) ?_
  generalize Try.prog=P at c87w c87m c87r⊢
  cbv
  repeat' (first
      | (refine qP ?_ (c87w) ?hfit
         case hfit=>((repeat' (first|exact qB|refine qD ?_ ?_|exact qE (by rfl)|exact qF (by rfl)|exact Fit.refl _|exact qA|refine qC ?_ rfl ?_));done)
         try cbv)
      | (refine qP ?_ (c87m) ?hfit
         case hfit=>((repeat' (first|exact qB|refine qD ?_ ?_|exact qE (by rfl)|exact qF (by rfl)|exact Fit.refl _|exact qA|refine qC ?_ rfl ?_));done)
         try cbv)
      |fail)
  all_goals first
    |skip
  refine⟨none,[⟨.cell 9 2,22,1⟩],{i:Nat // i≤tv.length},fun x=>⟨[(1,.own 0 0),(2,.own 1 0),(3,.own 9 0),(4,(iv fun _=>zi x.1))],[(0,.cells [(iS tw),(iS tm),(.sl 1 (.sym fun _=>zi (tv).length) (fun ix=>[(.sl 1 (.sym fun _=>zi ((tv).getD ix.den.toNat []).length) (fun jx=>[(iv fun _=>((tv).getD ix.den.toNat []).getD jx.den.toNat 0)]))]))] 25),(1,.cells [.val (.slice none 0 0),.val (.slice none 0 0),.val (.slice none 0 0)] 37),(9,.cells [(iS tw),(iS tm),.row 12] 37),(12,.row 22 1 (.sym fun _=>zi x.1) (fun ix=>[(.sl 1 (.sym fun _=>zi (tv.getD ix.den.toNat []).length) (fun jx=>[(iv fun _=>(tv.getD ix.den.toNat []).getD jx.den.toNat 0)]))]))],60⟩,fun x=>tv.length-x.1,?_,?_⟩
  · refine⟨⟨0,by omega⟩,?_⟩
    cbv
    repeat' (first
      |with_reducible refine hold ?_ ?_
      |with_reducible refine And.intro ?_ ?_)
    all_goals first
      |trivial
      |exact qM (qE (by rfl))
      |exact qM (Fit.refl _)
      |exact qL (qK _)
      |(refine qL (uae ?_ ?_);(first|rfl|((try simp only [qV]at *);(try simp only [zQ,zA,zB,zC,zD,zE,zF,zG,zH,zI,zJ,zK,zL,zM,zN,zO,zP,zR,zS]at *);omega));intro ix h0 h1;first|exact Fit.refl _|(exfalso;(try simp only [qV]at *);(try simp only [zQ,zA,zB,zC,zD,zE,zF,zG,zH,zI,zJ,zK,zL,zM,zN,zO,zP,zR,zS]at *);omega))
      |skip
  · rintro ⟨i,hi⟩
    cbv
    have tv8:=hT.v
    repeat' (first
        |with_reducible refine hold ?_ ?_
        |with_reducible refine And.intro ?_ ?_
        |(with_reducible intro hcd;(try simp only [zA,zB,zC,zD,zE,zF,zG,zH,zI,zJ,zK,zL,zM,zN,zO,zP]at hcd);try cbv)
        | (refine qP ?_ (c87r i (show Hold _ from ?_)) ?hfit
           case hfit=>((repeat' (first|exact qB|refine qD ?_ ?_|exact qE (by rfl)|exact qF (by rfl)|exact Fit.refl _|exact qA|refine qC ?_ rfl ?_));done)
           try cbv)
        | (refine⟨fun ix=>[(.sl 1 (.sym fun _=>zi (tv.getD ix.den.toNat []).length) (fun jx=>[(iv fun _=>(tv.getD ix.den.toNat []).getD jx.den.toNat 0)]))],?_⟩
           cbv
           refine hold (ubX (by intro ix jx h0 h1 h2;simp only [h2];exact Fit.refl _) (by intro ix jx h0 h1 h2;(have h3:jx.den.toNat=i:=by((try simp only [qV]at *);(try simp only [zQ,zA,zB,zC,zD,zE,zF,zG,zH,zI,zJ,zK,zL,zM,zN,zO,zP,zR,zS]at *);omega));simp only [h3];(first|exact Fit.refl _|(repeat' (first|exact qA|exact Fit.refl _|exact qE (by rfl)|refine qC ?_ rfl ?_)))) (by(try simp only [qV]at *);(try simp only [zQ,zA,zB,zC,zD,zE,zF,zG,zH,zI,zJ,zK,zL,zM,zN,zO,zP,zR,zS]at *);omega)) (Or.inl ?_)
           try cbv)
        |fail)
    all_goals first
      |((try simp only [qV]at *);(try simp only [zQ,zA,zB,zC,zD,zE,zF,zG,zH,zI,zJ,zK,zL,zM,zN,zO,zP,zR,zS]at *);first|(refine qN ?_;omega)|(simp only [Hold];omega))
      |(subst hR;(have hie:i=tv.length:=by((try simp only [qV]at *);(try simp only [zQ,zA,zB,zC,zD,zE,zF,zG,zH,zI,zJ,zK,zL,zM,zN,zO,zP,zR,zS]at *);omega));subst hie;(repeat' (first|exact qA|exact Fit.refl _|exact qE (by rfl)|refine qC ?_ rfl ?_));done;done)
      |((try simp only [zQ,zA,zB,zC,zD,zE,zF,zG,zH,zI,zJ,zK,zL,zM,zN,zO,zP,zR,zS]at *);refine⟨⟨i+1,by omega⟩,by simp only [];omega,?_⟩;cbv;(repeat' (first|with_reducible refine hold ?_ ?_|with_reducible refine And.intro ?_ ?_));(all_goals first|trivial|exact qM (qE (by rfl))|exact qM (qF (by rfl))|exact qM (Fit.refl _)|exact qL (qK _)|(refine qM (qE ?_);(try simp only [qV]at *);simp only [zQ,zA,zB,zC,zD,zE,zF,zG,zH,zI,zJ,zK,zL,zM,zN,zO,zP,zR,zS]at *;omega)|(refine qL (uae ?_ ?_);(first|rfl|((try simp only [qV]at *);(try simp only [zQ,zA,zB,zC,zD,zE,zF,zG,zH,zI,zJ,zK,zL,zM,zN,zO,zP,zR,zS]at *);omega));intro ix h0 h1;first|exact Fit.refl _|(exfalso;(try simp only [qV]at *);(try simp only [zQ,zA,zB,zC,zD,zE,zF,zG,zH,zI,zJ,zK,zL,zM,zN,zO,zP,zR,zS]at *);omega))|skip))
      |skip
def Seen (wl ml mh:Int)(i j:Nat)(w m:Int):Prop:=ml≤m∧m≤mh∧((wl≤w∧w<wl+i)∨(w=wl+i∧m<ml+j))
structure Scan (f:Int→Int→Int)(wl ml mh:Int)(i j:Nat)(lo hi:Int):Prop where
  le:∀w m,Seen wl ml mh i j w m→lo≤f w m∧f w m≤hi
  hit:(lo=9999∧hi = -1∧∀w m,¬Seen wl ml mh i j w m)∨((∃w m,Seen wl ml mh i j w m∧lo=f w m)∧∃w m,Seen wl ml mh i j w m∧hi=f w m)
theorem Scan.congr {f:Int→Int→Int} {wl ml mh:Int} {i j i' j':Nat} {lo hi:Int}(h:Scan f wl ml mh i j lo hi)(hs:∀w m,Seen wl ml mh i j w m↔Seen wl ml mh i' j' w m):Scan f wl ml mh i' j' lo hi:=
  ⟨fun w m s=>h.le w m ((hs w m).2 s),h.hit.imp (fun q=>⟨q.1,q.2.1,fun w m s=>q.2.2 w m ((hs w m).2 s)⟩) fun q=>⟨let ⟨w,m,s,e⟩:=q.1;⟨w,m,(hs w m).1 s,e⟩,let ⟨w,m,s,e⟩:=q.2;⟨w,m,(hs w m).1 s,e⟩⟩⟩
theorem ulH {tw tm:List Int} {tv:List (List Int)}(h:TOk tw tm tv):(0≤tw.getD 0 0∧tw.getD (tw.length-1) 0≤40)∧0≤tm.getD 0 0∧tm.getD (tm.length-1) 0≤60:=by
  have a:=h.w2;have b:=h.m2
  have p1:=uaI h.rw 0 (by omega)
  have p2:=uaI h.rw (tw.length-1) (by omega)
  have p3:=uaI h.rm 0 (by omega)
  have p4:=uaI h.rm (tm.length-1) (by omega)
  unfold ubs at p1 p2 p3 p4
  omega
end Go.Proofs.Ytkdggbfknlcdaaa
namespace Go.Proofs.Ytkdggbfknlcdaaa
open Go Go.Eng Go.Proofs Go.Eng.Dif Go.Eng.Few
set_option maxRecDepth 10000
set_option maxHeartbeats 2000000 in
theorem ub5 (d:Dsp)(hT:ThinT d.tw d.tm d.tv)(h1:d.ls.length≤1000)(h2:d.fs.length≤1000):ua0 Try.prog 14 [(dspS d)] [] (fun r _=>r=(dspS d)):=by
  have c46:=uty d.tw d.tm d.tv hT
  have c18:= @to18
  refine ua0.is fun R hR=>qW (sc:=sc14) tyok mix Try.func14 rfl Try.call14 (by kernel_rfl) (by kernel_rfl) ?_
  generalize Try.prog=P at c46 c18⊢
  cbv
  repeat' (first
      | (refine qP ?_ (c46) ?hfit
         case hfit=>((repeat' (first|exact qB|refine qD ?_ ?_|exact qE (by rfl)|exact qF (by rfl)|exact Fit.refl _|exact qA|refine qC ?_ rfl ?_));done)
         try cbv)
      |fail)
  all_goals first
    |skip
  refine⟨none,[⟨.cell 10 5,87,4⟩],{i:Nat // i≤d.ls.length},fun x=>⟨[(1,.own 0 0),(2,.own 1 0),(3,.own 10 0),(4,(iv fun _=>zi x.1))],[(0,.cells [(iS d.tw),(iS d.tm),(.sl 1 (.sym fun _=>zi (d.tv).length) (fun ix=>[(.sl 1 (.sym fun _=>zi ((d.tv).getD ix.den.toNat []).length) (fun jx=>[(iv fun _=>((d.tv).getD ix.den.toNat []).getD jx.den.toNat 0)]))])),(iv fun _=>d.sn),(iv fun _=>d.pn),(.sl 4 (.sym fun _=>zi (d.ls).length) (fun ix=>[(iv fun _=>((d.ls).getD ix.den.toNat l0T).a),(iv fun _=>((d.ls).getD ix.den.toNat l0T).b),(iv fun _=>((d.ls).getD ix.den.toNat l0T).lo),(iv fun _=>((d.ls).getD ix.den.toNat l0T).hi)])),(.sl 6 (.sym fun _=>zi (d.fs).length) (fun ix=>[(iv fun _=>((d.fs).getD ix.den.toNat f0T).p),(iv fun _=>((d.fs).getD ix.den.toNat f0T).s),(iv fun _=>((d.fs).getD ix.den.toNat f0T).wl),(iv fun _=>((d.fs).getD ix.den.toNat f0T).wh),(iv fun _=>((d.fs).getD ix.den.toNat f0T).ml),(iv fun _=>((d.fs).getD ix.den.toNat f0T).mh)]))] 29),(1,.cells [.val (Value.slice none 0 0),.val (Value.slice none 0 0),.val (Value.slice none 0 0),.int .i64 (.lit 0),.int .i64 (.lit 0),.val (Value.slice none 0 0),.val (Value.slice none 0 0)] 41),(10,.cells [(iS d.tw),(iS d.tm),(.sl 1 (.sym fun _=>zi (d.tv).length) (fun ix=>[(.sl 1 (.sym fun _=>zi ((d.tv).getD ix.den.toNat []).length) (fun jx=>[(iv fun _=>((d.tv).getD ix.den.toNat []).getD jx.den.toNat 0)]))])),(iv fun _=>d.sn),(iv fun _=>d.pn),.row 13,.val (Value.slice none 0 0)] 41),(13,.row 87 4 (.sym fun _=>zi x.1) (fun ix=>[(iv fun _=>(d.ls.getD ix.den.toNat l0T).a),(iv fun _=>(d.ls.getD ix.den.toNat l0T).b),(iv fun _=>(d.ls.getD ix.den.toNat l0T).lo),(iv fun _=>(d.ls.getD ix.den.toNat l0T).hi)]))],120⟩,fun x=>d.ls.length-x.1,?_,?_⟩
  · refine⟨⟨0,by omega⟩,?_⟩
    cbv
    repeat' (first
      |with_reducible refine hold ?_ ?_
      |with_reducible refine And.intro ?_ ?_)
    all_goals first
      |trivial
      |exact qM (qE (by rfl))
      |exact qM (Fit.refl _)
      |exact qL (qK _)
      |(refine qL (uae ?_ ?_);(first|rfl|((try simp only [qV]at *);(try simp only [zQ,zA,zB,zC,zD,zE,zF,zG,zH,zI,zJ,zK,zL,zM,zN,zO,zP,zR,zS]at *);omega));intro ix h0 h1;exfalso;(try simp only [qV]at *);(try simp only [zQ,zA,zB,zC,zD,zE,zF,zG,zH,zI,zJ,zK,zL,zM,zN,zO,zP,zR,zS]at *);omega)
      |skip
  · rintro ⟨i,hi⟩
    cbv
    repeat' (first
        |with_reducible refine hold ?_ ?_
        |with_reducible refine And.intro ?_ ?_
        |(with_reducible intro hcd;(try simp only [zA,zB,zC,zD,zE,zF,zG,zH,zI,zJ,zK,zL,zM,zN,zO,zP]at hcd);try cbv)
        | (refine qP ?_ (c18 _ _) (by(repeat' (first|exact qB|refine qD ?_ ?_|exact qE (by rfl)|exact qF (by rfl)|exact Fit.refl _|exact qA|refine qC ?_ rfl ?_)))
           try cbv)
        | (refine⟨fun ix=>[(iv fun _=>(d.ls.getD ix.den.toNat l0T).a),(iv fun _=>(d.ls.getD ix.den.toNat l0T).b),(iv fun _=>(d.ls.getD ix.den.toNat l0T).lo),(iv fun _=>(d.ls.getD ix.den.toNat l0T).hi)],?_⟩
           cbv
           refine hold (ubX (by intro ix jx h0 h1 h2;simp only [h2];exact Fit.refl _) (by intro ix jx h0 h1 h2;(have h3:jx.den.toNat=i:=by((try simp only [qV]at *);(try simp only [zQ,zA,zB,zC,zD,zE,zF,zG,zH,zI,zJ,zK,zL,zM,zN,zO,zP,zR,zS]at *);omega));simp only [h3];exact(qC (qE rfl) rfl (qC (qE rfl) rfl (qC (qE rfl) rfl (qC (qE rfl) rfl qA))))) (by(try simp only [qV]at *);(try simp only [zQ,zA,zB,zC,zD,zE,zF,zG,zH,zI,zJ,zK,zL,zM,zN,zO,zP,zR,zS]at *);omega)) (Or.inl ?_)
           try cbv)
        |fail)
    all_goals first
      |((try simp only [qV]at *);(try simp only [zQ,zA,zB,zC,zD,zE,zF,zG,zH,zI,zJ,zK,zL,zM,zN,zO,zP,zR,zS]at *);first|(refine qN ?_;omega)|(simp only [Hold];omega))
      |((try simp only [zQ,zA,zB,zC,zD,zE,zF,zG,zH,zI,zJ,zK,zL,zM,zN,zO,zP,zR,zS]at *);refine⟨⟨i+1,by omega⟩,by simp only [];omega,?_⟩;cbv;(repeat' (first|with_reducible refine hold ?_ ?_|with_reducible refine And.intro ?_ ?_));(all_goals first|trivial|exact qM (qE (by rfl))|exact qM (qF (by rfl))|exact qM (Fit.refl _)|exact qL (qK _)|(refine qM (qE ?_);(try simp only [qV]at *);simp only [zQ,zA,zB,zC,zD,zE,zF,zG,zH,zI,zJ,zK,zL,zM,zN,zO,zP,zR,zS]at *;omega)|(refine qL (qJ ?_);(repeat' (first|exact qA|exact qB|refine qC ?_ rfl ?_|refine qD ?_ ?_|exact qE (by rfl)|exact qF (by rfl)|exact Fit.refl _|exact qG _|(refine qE ?_;(try simp only [qV]at *);simp only [zQ,zA,zB,zC,zD,zE,zF,zG,zH,zI,zJ,zK,zL,zM,zN,zO,zP,zR,zS]at *;omega)));done)|(refine qL (uae ?_ ?_)<;>first|rfl|((try simp only [qV]at *);(try simp only [zQ,zA,zB,zC,zD,zE,zF,zG,zH,zI,zJ,zK,zL,zM,zN,zO,zP,zR,zS]at *);omega)|(intro ix h0 h1;exact Fit.refl _))|skip))
      |skip
    have hil:i=d.ls.length:=(by((try simp only [qV]at *);(try simp only [zQ,zA,zB,zC,zD,zE,zF,zG,zH,zI,zJ,zK,zL,zM,zN,zO,zP,zR,zS]at *);omega))
    subst hil
    refine⟨none,[⟨.cell 10 6,89,6⟩],{j:Nat // j≤d.fs.length},fun x=>⟨[(1,.own 0 0),(2,.own 1 0),(3,.own 10 0),(5,(iv fun _=>zi x.1))],[(0,.cells [(iS d.tw),(iS d.tm),(.sl 1 (.sym fun _=>zi (d.tv).length) (fun ix=>[(.sl 1 (.sym fun _=>zi ((d.tv).getD ix.den.toNat []).length) (fun jx=>[(iv fun _=>((d.tv).getD ix.den.toNat []).getD jx.den.toNat 0)]))])),(iv fun _=>d.sn),(iv fun _=>d.pn),(.sl 4 (.sym fun _=>zi (d.ls).length) (fun ix=>[(iv fun _=>((d.ls).getD ix.den.toNat l0T).a),(iv fun _=>((d.ls).getD ix.den.toNat l0T).b),(iv fun _=>((d.ls).getD ix.den.toNat l0T).lo),(iv fun _=>((d.ls).getD ix.den.toNat l0T).hi)])),(.sl 6 (.sym fun _=>zi (d.fs).length) (fun ix=>[(iv fun _=>((d.fs).getD ix.den.toNat f0T).p),(iv fun _=>((d.fs).getD ix.den.toNat f0T).s),(iv fun _=>((d.fs).getD ix.den.toNat f0T).wl),(iv fun _=>((d.fs).getD ix.den.toNat f0T).wh),(iv fun _=>((d.fs).getD ix.den.toNat f0T).ml),(iv fun _=>((d.fs).getD ix.den.toNat f0T).mh)]))] 29),(1,.cells [.val (Value.slice none 0 0),.val (Value.slice none 0 0),.val (Value.slice none 0 0),.int .i64 (.lit 0),.int .i64 (.lit 0),.val (Value.slice none 0 0),.val (Value.slice none 0 0)] 41),(10,.cells [(iS d.tw),(iS d.tm),(.sl 1 (.sym fun _=>zi (d.tv).length) (fun ix=>[(.sl 1 (.sym fun _=>zi ((d.tv).getD ix.den.toNat []).length) (fun jx=>[(iv fun _=>((d.tv).getD ix.den.toNat []).getD jx.den.toNat 0)]))])),(iv fun _=>d.sn),(iv fun _=>d.pn),.row 13,.row 126] 41),(13,.row 87 4 (.sym fun _=>zi d.ls.length) (fun ix=>[(iv fun _=>(d.ls.getD ix.den.toNat l0T).a),(iv fun _=>(d.ls.getD ix.den.toNat l0T).b),(iv fun _=>(d.ls.getD ix.den.toNat l0T).lo),(iv fun _=>(d.ls.getD ix.den.toNat l0T).hi)])),(126,.row 89 6 (.sym fun _=>zi x.1) (fun ix=>[(iv fun _=>(d.fs.getD ix.den.toNat f0T).p),(iv fun _=>(d.fs.getD ix.den.toNat f0T).s),(iv fun _=>(d.fs.getD ix.den.toNat f0T).wl),(iv fun _=>(d.fs.getD ix.den.toNat f0T).wh),(iv fun _=>(d.fs.getD ix.den.toNat f0T).ml),(iv fun _=>(d.fs.getD ix.den.toNat f0T).mh)]))],200⟩,fun x=>d.fs.length-x.1,?_,?_⟩
    · refine⟨⟨0,by omega⟩,?_⟩
      cbv
      repeat' (first
        |with_reducible refine hold ?_ ?_
        |with_reducible refine And.intro ?_ ?_)
      all_goals first
        |trivial
        |exact qM (qE (by rfl))
        |exact qM (Fit.refl _)
        |exact qL (qK _)
        |(refine qL (uae ?_ ?_);(first|rfl|((try simp only [qV]at *);(try simp only [zQ,zA,zB,zC,zD,zE,zF,zG,zH,zI,zJ,zK,zL,zM,zN,zO,zP,zR,zS]at *);omega));intro ix h0 h1;exfalso;(try simp only [qV]at *);(try simp only [zQ,zA,zB,zC,zD,zE,zF,zG,zH,zI,zJ,zK,zL,zM,zN,zO,zP,zR,zS]at *);omega)
        |skip
    · rintro ⟨j,hj⟩
      cbv
      repeat' (first
          |with_reducible refine hold ?_ ?_
          |with_reducible refine And.intro ?_ ?_
          |(with_reducible intro hcd;(try simp only [zA,zB,zC,zD,zE,zF,zG,zH,zI,zJ,zK,zL,zM,zN,zO,zP]at hcd);try cbv)
          | (refine qP ?_ (c18 _ _) (by(repeat' (first|exact qB|refine qD ?_ ?_|exact qE (by rfl)|exact qF (by rfl)|exact Fit.refl _|exact qA|refine qC ?_ rfl ?_)))
             try cbv)
          | (refine⟨fun ix=>[(iv fun _=>(d.fs.getD ix.den.toNat f0T).p),(iv fun _=>(d.fs.getD ix.den.toNat f0T).s),(iv fun _=>(d.fs.getD ix.den.toNat f0T).wl),(iv fun _=>(d.fs.getD ix.den.toNat f0T).wh),(iv fun _=>(d.fs.getD ix.den.toNat f0T).ml),(iv fun _=>(d.fs.getD ix.den.toNat f0T).mh)],?_⟩
             cbv
             refine hold (ubX (by intro ix jx h0 h1 h2;simp only [h2];exact Fit.refl _) (by intro ix jx h0 h1 h2;(have h3:jx.den.toNat=j:=by((try simp only [qV]at *);(try simp only [zQ,zA,zB,zC,zD,zE,zF,zG,zH,zI,zJ,zK,zL,zM,zN,zO,zP,zR,zS]at *);omega));simp only [h3];exact(qC (qE rfl) rfl (qC (qE rfl) rfl (qC (qE rfl) rfl (qC (qE rfl) rfl (qC (qE rfl) rfl (qC (qE rfl) rfl qA))))))) (by(try simp only [qV]at *);(try simp only [zQ,zA,zB,zC,zD,zE,zF,zG,zH,zI,zJ,zK,zL,zM,zN,zO,zP,zR,zS]at *);omega)) (Or.inl ?_)
             try cbv)
          |fail)
      all_goals first
        |((try simp only [qV]at *);(try simp only [zQ,zA,zB,zC,zD,zE,zF,zG,zH,zI,zJ,zK,zL,zM,zN,zO,zP,zR,zS]at *);first|(refine qN ?_;omega)|(simp only [Hold];omega))
        |((have hit:j=d.fs.length:=(by((try simp only [qV]at *);(try simp only [zQ,zA,zB,zC,zD,zE,zF,zG,zH,zI,zJ,zK,zL,zM,zN,zO,zP,zR,zS]at *);omega)));subst hR;subst hit;exact Fit.refl _)
        |((try simp only [zQ,zA,zB,zC,zD,zE,zF,zG,zH,zI,zJ,zK,zL,zM,zN,zO,zP,zR,zS]at *);refine⟨⟨j+1,by omega⟩,by simp only [];omega,?_⟩;cbv;(repeat' (first|with_reducible refine hold ?_ ?_|with_reducible refine And.intro ?_ ?_));(all_goals first|trivial|exact qM (qE (by rfl))|exact qM (qF (by rfl))|exact qM (Fit.refl _)|exact qL (qK _)|(refine qM (qE ?_);(try simp only [qV]at *);simp only [zQ,zA,zB,zC,zD,zE,zF,zG,zH,zI,zJ,zK,zL,zM,zN,zO,zP,zR,zS]at *;omega)|(refine qL (qJ ?_);(repeat' (first|exact qA|exact qB|refine qC ?_ rfl ?_|refine qD ?_ ?_|exact qE (by rfl)|exact qF (by rfl)|exact Fit.refl _|exact qG _|(refine qE ?_;(try simp only [qV]at *);simp only [zQ,zA,zB,zC,zD,zE,zF,zG,zH,zI,zJ,zK,zL,zM,zN,zO,zP,zR,zS]at *;omega)));done)|(refine qL (uae ?_ ?_)<;>first|rfl|((try simp only [qV]at *);(try simp only [zQ,zA,zB,zC,zD,zE,zF,zG,zH,zI,zJ,zK,zL,zM,zN,zO,zP,zR,zS]at *);omega)|(intro ix h0 h1;exact Fit.refl _))|skip))
        |skip
def ufO (d:Dsp):Bool:=ukG d.tw d.tm d.tv&&(decide (d.ls.length≤7)&&decide (d.fs.length≤9))
theorem uhF {d:Dsp}:ufO d=true↔ThinT d.tw d.tm d.tv∧d.ls.length≤7∧d.fs.length≤9:=by
  unfold ufO
  rw [Bool.and_eq_true,Bool.and_eq_true,decide_eq_true_eq,decide_eq_true_eq,ueJ]
theorem ut9 {d:Dsp}(h:ukG d.tw d.tm d.tv=false):ufO d=false:=by unfold ufO;rw [h];rfl
theorem usM {d:Dsp}(h:ukG d.tw d.tm d.tv=true)(h':¬d.ls.length≤7):ufO d=false:=by unfold ufO;rw [h,decide_eq_false h'];rfl
theorem us1 {d:Dsp}(h:ukG d.tw d.tm d.tv=true)(h':d.ls.length≤7):ufO d=decide (d.fs.length≤9):=by unfold ufO;rw [h,decide_eq_true h'];rfl
theorem uuH (d:Dsp):ua0 Try.prog 11 [(dspS d)] [] (fun r _=>r=(.bool (.sym fun _=>ufO d))):=by
  have c42:=uva d.tw d.tm d.tv
  refine ua0.is fun R hR=>qW (sc:=sc11) tyok mix Try.func11 rfl Try.call11 (by kernel_rfl) (by kernel_rfl) ?_
  generalize Try.prog=P at c42⊢
  cbv
  repeat' (first
      |with_reducible refine And.intro ?_ ?_
      |(with_reducible intro hcd;(try simp only [zA,zB,zC,zD,zE,zF,zG,zH,zI,zJ,zK,zL,zM,zN,zO,zP]at hcd);try cbv)
      | (refine qP ?_ (c42) ?hfit
         case hfit=>((repeat' (first|exact qB|refine qD ?_ ?_|exact qE (by rfl)|exact qF (by rfl)|exact Fit.refl _|exact qA|refine qC ?_ rfl ?_));done)
         try cbv)
      |fail)
  all_goals first
    |(subst hR;(refine qF ?_;(try simp only [qV]at *);(try simp only [zQ,zA,zB,zC,zD,zE,zF,zG,zH,zI,zJ,zK,zL,zM,zN,zO,zP,zR,zS]at *);(try simp only [ual,uan,uaS,ub0,uaZ,ub1,uab,uad,uac,uaf]at *);first|exact(ut9 (by assumption)).symm|exact(usM (by assumption) (by omega)).symm|(rw [us1 (by assumption) (by omega)];first|rfl|(apply Bool.eq_iff_iff.2;simp only [decide_eq_true_eq];omega)));done)
    |skip
theorem uqi (a b:Int)(l:List Int)(h:1≤l.length∧l.length≤1000):ua0 Try.prog 76 [(iS l),(.agg [(iv fun _=>a),(iv fun _=>b)])] [] (fun r _=>r=(.bool (.sym fun _=>ofB (l.getD 0 0) a b (l.getD (l.length-1) 0)))):=by
  have c25:=ujC l h
  refine ua0.is fun R hR=>qW (sc:=sc76) tyok mix Try.func76 rfl Try.call76 (by kernel_rfl) (by kernel_rfl) ?_
  generalize Try.prog=P at c25⊢
  cbv
  repeat' (first
      |with_reducible refine hold ?_ ?_
      |with_reducible refine And.intro ?_ ?_
      |(with_reducible intro hcd;(try simp only [zA,zB,zC,zD,zE,zF,zG,zH,zI,zJ,zK,zL,zM,zN,zO,zP]at hcd);try cbv)
      | (refine qP ?_ (c25) ?hfit
         case hfit=>((repeat' (first|exact qB|refine qD ?_ ?_|exact qE (by rfl)|exact qF (by rfl)|exact Fit.refl _|exact qA|refine qC ?_ rfl ?_));done)
         try cbv)
      |fail)
  all_goals first
    |((try simp only [qV]at *);(try simp only [zQ,zA,zB,zC,zD,zE,zF,zG,zH,zI,zJ,zK,zL,zM,zN,zO,zP,zR,zS,ual,uan,uaS,ub0,uaZ,ub1,uab,uad,uac,uaf]at *);first|(refine qN ?_;omega)|(simp only [Hold];omega))
    |(subst hR;(refine qF ?_;(try simp only [qV]at *);(try simp only [zQ,zA,zB,zC,zD,zE,zF,zG,zH,zI,zJ,zK,zL,zM,zN,zO,zP,zR,zS]at *);(try simp only [ual,uan,uaS,ub0,uaZ,ub1,uab,uad,uac,uaf]at *);(try simp only [show Int.toNat 0=0 from rfl]at *);apply Bool.eq_iff_iff.2;simp only [uaZ,ual,uan,uaS,ub0,uaZ,ub1,uab,uad,uac,uaf,Bool.and_eq_true,Bool.or_eq_true,Bool.not_eq_true',decide_eq_true_eq,decide_eq_false_iff_not,Bool.false_eq_true,reduceCtorEq,Bool.true_and,Bool.and_true,Bool.false_and,Bool.and_false,iff_true,true_iff,Bool.not_true,Bool.not_false]at *;constructor<;>intro q<;>first|omega|(exact q.elim)|(exact absurd q (by omega)));done)
    |skip
theorem uu6 (n lo hi:Int):(decide (lo≤n)&&decide (n≤hi))=inB lo n hi:=by
  apply Bool.eq_iff_iff.2
  rw [uaS,Bool.and_eq_true,decide_eq_true_eq,decide_eq_true_eq]
theorem in17 (n lo hi:Int):ua0 Try.prog 17 [(iv fun _=>n),(iv fun _=>lo),(iv fun _=>hi)] [] (fun r _=>r=(.bool (.sym fun _=>inB lo n hi))):=by
  have:=in31 n lo hi
  simp only [uu6]at this
  exact this
set_option maxHeartbeats 1000000 in
theorem uta (d:Dsp):ua0 Try.prog 47 [(dspS d)] [] (fun r _=>r=(iv fun _=>ua7 d)):=by
  have c75:=us8 d.tw d.tm d.tv
  have c17:= @in17
  have c76:= @uqi
  have hwm:=fun h:ubK d.tw d.tm d.tv=0=>udk h
  refine ua0.is fun R hR=>qW (sc:=sc47) tyok mix Try.func47 rfl Try.call47 (by kernel_rfl) (by kernel_rfl) ?_
  generalize Try.prog=P at c75 c17 c76⊢
  cbv
  repeat' (first
      |with_reducible refine And.intro ?_ ?_
      |(with_reducible intro hcd;(try simp only [zA,zB,zC,zD,zE,zF,zG,zH,zI,zJ,zK,zL,zM,zN,zO,zP]at hcd);try cbv)
      | (refine qP ?_ (c75) ?hfit
         case hfit=>((repeat' (first|exact qB|refine qD ?_ ?_|exact qE (by rfl)|exact qF (by rfl)|exact Fit.refl _|exact qA|refine qC ?_ rfl ?_));done)
         try cbv)
      |fail)
  all_goals first
    |(subst hR;(refine qE ?_;(try simp only [qV]at *);(try simp only [zQ,zA,zB,zC,zD,zE,zF,zG,zH,zI,zJ,zK,zL,zM,zN,zO,zP,zR,zS]at *);exact(ugl (by first|assumption|omega)).symm);done)
    |(subst hR;(refine qE ?_;(try simp only [qV]at *);(try simp only [zQ,zA,zB,zC,zD,zE,zF,zG,zH,zI,zJ,zK,zL,zM,zN,zO,zP,zR,zS]at *);exact(ufj (by first|assumption|omega) (by unfold uea;omega)).symm);done)
    |(subst hR;(refine qE ?_;(try simp only [qV]at *);(try simp only [zQ,zA,zB,zC,zD,zE,zF,zG,zH,zI,zJ,zK,zL,zM,zN,zO,zP,zR,zS]at *);exact(ueT (by first|assumption|omega) (by unfold uea;omega) (fun g=>by have a1:=g.1;have a2:=g.2.1;omega)).symm);done)
    |skip
  have hF:ubK d.tw d.tm d.tv=0:=by((try simp only [qV]at *);(try simp only [zQ,zA,zB,zC,zD,zE,zF,zG,zH,zI,zJ,zK,zL,zM,zN,zO,zP,zR,zS]at *);first|assumption|omega)
  have hm:¬uea d:=by unfold uea;((try simp only [qV]at *);(try simp only [zQ,zA,zB,zC,zD,zE,zF,zG,zH,zI,zJ,zK,zL,zM,zN,zO,zP,zR,zS]at *);omega)
  have hs1:1≤d.sn:=by((try simp only [qV]at *);(try simp only [zQ,zA,zB,zC,zD,zE,zF,zG,zH,zI,zJ,zK,zL,zM,zN,zO,zP,zR,zS]at *);omega)
  have hp1:1≤d.pn:=by((try simp only [qV]at *);(try simp only [zQ,zA,zB,zC,zD,zE,zF,zG,zH,zI,zJ,zK,zL,zM,zN,zO,zP,zR,zS]at *);omega)
  have hT:=hwm hF
  have hw2:=hT.w2
  have hw5:=hT.w5
  have hm2:=hT.m2
  have hm5:=hT.m5
  have hsm:d.sn≤3:=by((try simp only [qV]at *);(try simp only [zQ,zA,zB,zC,zD,zE,zF,zG,zH,zI,zJ,zK,zL,zM,zN,zO,zP,zR,zS]at *);omega)
  have hpm:d.pn≤4:=by((try simp only [qV]at *);(try simp only [zQ,zA,zB,zC,zD,zE,zF,zG,zH,zI,zJ,zK,zL,zM,zN,zO,zP,zR,zS]at *);omega)
  have c76w:=fun (a b:Int)=>c76 a b d.tw ⟨by omega,by omega⟩
  have c76m:=fun (a b:Int)=>c76 a b d.tm ⟨by omega,by omega⟩
  refine⟨none,[],{i:Nat // i≤d.ls.length∧∀k,k<i→ubP d.sn (d.ls.getD k l0T)},fun x=>⟨[(1,.own 0 0),(4,(iv fun _=>zi x.1))],[(0,.cells [(iS d.tw),(iS d.tm),(.sl 1 (.sym fun _=>zi (d.tv).length) (fun ix=>[(.sl 1 (.sym fun _=>zi ((d.tv).getD ix.den.toNat []).length) (fun jx=>[(iv fun _=>((d.tv).getD ix.den.toNat []).getD jx.den.toNat 0)]))])),(iv fun _=>d.sn),(iv fun _=>d.pn),(.sl 4 (.sym fun _=>zi (d.ls).length) (fun ix=>[(iv fun _=>((d.ls).getD ix.den.toNat l0T).a),(iv fun _=>((d.ls).getD ix.den.toNat l0T).b),(iv fun _=>((d.ls).getD ix.den.toNat l0T).lo),(iv fun _=>((d.ls).getD ix.den.toNat l0T).hi)])),(.sl 6 (.sym fun _=>zi (d.fs).length) (fun ix=>[(iv fun _=>((d.fs).getD ix.den.toNat f0T).p),(iv fun _=>((d.fs).getD ix.den.toNat f0T).s),(iv fun _=>((d.fs).getD ix.den.toNat f0T).wl),(iv fun _=>((d.fs).getD ix.den.toNat f0T).wh),(iv fun _=>((d.fs).getD ix.den.toNat f0T).ml),(iv fun _=>((d.fs).getD ix.den.toNat f0T).mh)]))] 29)],100⟩,fun x=>d.ls.length-x.1,?_,?_⟩
  · refine⟨⟨0,by omega,fun k hk=>by omega⟩,?_⟩
    cbv
    repeat' (first
      |with_reducible refine hold ?_ ?_
      |with_reducible refine And.intro ?_ ?_)
    all_goals first
      |trivial
      |exact qM (qE (by rfl))
      |exact qM (Fit.refl _)
      |exact qL (qK _)
      |skip
  · rintro ⟨i,hi,hq⟩
    cbv
    repeat' (first
        |with_reducible refine hold ?_ ?_
        |with_reducible refine And.intro ?_ ?_
        |(with_reducible intro hcd;(try simp only [zA,zB,zC,zD,zE,zF,zG,zH,zI,zJ,zK,zL,zM,zN,zO,zP]at hcd);try cbv)
        | (refine qP ?_ (c17 _ _ _) (by(repeat' (first|exact qB|refine qD ?_ ?_|exact qE (by rfl)|exact qF (by rfl)|exact Fit.refl _|exact qA|refine qC ?_ rfl ?_)))
           try cbv)
        |fail)
    all_goals first
      |((try simp only [qV]at *);(try simp only [zQ,zA,zB,zC,zD,zE,zF,zG,zH,zI,zJ,zK,zL,zM,zN,zO,zP,zR,zS,ual,uan,uaS,ub0,uaZ,ub1,uab,uad,uac,uaf]at *);first|(refine qN ?_;omega)|(simp only [Hold];omega))
      |(subst hR;(refine qE ?_;(try simp only [qV]at *);(try simp only [zQ,zA,zB,zC,zD,zE,zF,zG,zH,zI,zJ,zK,zL,zM,zN,zO,zP,zR,zS]at *);(try simp only [ual,uan,uaS,ub0,uaZ,ub1,uab,uad,uac,uaf]at *);exact(ueT hF hm (fun g=>by have g:=ueC.1 g;have q:=g.2.2.1 i (by omega);unfold ubP at q;omega)).symm);done)
      |((try simp only [zQ,zA,zB,zC,zD,zE,zF,zG,zH,zI,zJ,zK,zL,zM,zN,zO,zP,zR,zS,ual,uan,uaS,ub0,uaZ,ub1,uab,uad,uac,uaf]at *);refine⟨⟨i+1,by omega,fun k hk=>(Nat.lt_or_ge k i).elim (hq k) fun q=>by rw [show k=i by omega];unfold ubP;omega⟩,by simp only [];omega,?_⟩;cbv;(repeat' (first|with_reducible refine hold ?_ ?_|with_reducible refine And.intro ?_ ?_));(all_goals first|trivial|exact qM (qE (by rfl))|exact qM (qF (by rfl))|exact qM (Fit.refl _)|exact qL (qK _)|(refine qM (qE ?_);(try simp only [qV]at *);simp only [zQ,zA,zB,zC,zD,zE,zF,zG,zH,zI,zJ,zK,zL,zM,zN,zO,zP,zR,zS]at *;omega)|(refine qL (qJ ?_);(repeat' (first|exact qA|exact qB|refine qC ?_ rfl ?_|refine qD ?_ ?_|exact qE (by rfl)|exact qF (by rfl)|exact Fit.refl _|exact qG _|(refine qE ?_;(try simp only [qV]at *);simp only [zQ,zA,zB,zC,zD,zE,zF,zG,zH,zI,zJ,zK,zL,zM,zN,zO,zP,zR,zS]at *;omega)));done)|skip))
      |skip
    have hq:∀k,k<d.ls.length→ubP d.sn (d.ls.getD k l0T):=fun k hk=>hq k (by((try simp only [qV]at *);(try simp only [zQ,zA,zB,zC,zD,zE,zF,zG,zH,zI,zJ,zK,zL,zM,zN,zO,zP,zR,zS]at *);omega))
    refine⟨none,[],{j:Nat // j≤d.fs.length∧∀k,k<j→ubo d (d.fs.getD k f0T)},fun x=>⟨[(1,.own 0 0),(6,(iv fun _=>zi x.1))],[(0,.cells [(iS d.tw),(iS d.tm),(.sl 1 (.sym fun _=>zi (d.tv).length) (fun ix=>[(.sl 1 (.sym fun _=>zi ((d.tv).getD ix.den.toNat []).length) (fun jx=>[(iv fun _=>((d.tv).getD ix.den.toNat []).getD jx.den.toNat 0)]))])),(iv fun _=>d.sn),(iv fun _=>d.pn),(.sl 4 (.sym fun _=>zi (d.ls).length) (fun ix=>[(iv fun _=>((d.ls).getD ix.den.toNat l0T).a),(iv fun _=>((d.ls).getD ix.den.toNat l0T).b),(iv fun _=>((d.ls).getD ix.den.toNat l0T).lo),(iv fun _=>((d.ls).getD ix.den.toNat l0T).hi)])),(.sl 6 (.sym fun _=>zi (d.fs).length) (fun ix=>[(iv fun _=>((d.fs).getD ix.den.toNat f0T).p),(iv fun _=>((d.fs).getD ix.den.toNat f0T).s),(iv fun _=>((d.fs).getD ix.den.toNat f0T).wl),(iv fun _=>((d.fs).getD ix.den.toNat f0T).wh),(iv fun _=>((d.fs).getD ix.den.toNat f0T).ml),(iv fun _=>((d.fs).getD ix.den.toNat f0T).mh)]))] 29)],200⟩,fun x=>d.fs.length-x.1,?_,?_⟩
    · refine⟨⟨0,by omega,fun k hk=>by omega⟩,?_⟩
      cbv
      repeat' (first
        |with_reducible refine hold ?_ ?_
        |with_reducible refine And.intro ?_ ?_)
      all_goals first
        |trivial
        |exact qM (qE (by rfl))
        |exact qM (Fit.refl _)
        |exact qL (qK _)
        |skip
    · rintro ⟨j,hj,hr⟩
      cbv
      repeat' (first
          |with_reducible refine hold ?_ ?_
          |with_reducible refine And.intro ?_ ?_
          |(with_reducible intro hcd;(try simp only [zA,zB,zC,zD,zE,zF,zG,zH,zI,zJ,zK,zL,zM,zN,zO,zP]at hcd);try cbv)
          | (refine qP ?_ (c17 _ _ _) (by(repeat' (first|exact qB|refine qD ?_ ?_|exact qE (by rfl)|exact qF (by rfl)|exact Fit.refl _|exact qA|refine qC ?_ rfl ?_)))
             try cbv)
          | (refine qP ?_ (c76w (d.fs.getD j f0T).wl (d.fs.getD j f0T).wh) ?hfit
             case hfit=>((repeat' (first|exact qB|refine qD ?_ ?_|exact qE (by rfl)|exact qF (by rfl)|exact Fit.refl _|exact qA|refine qC ?_ rfl ?_));done)
             try cbv)
          | (refine qP ?_ (c76m (d.fs.getD j f0T).ml (d.fs.getD j f0T).mh) ?hfit
             case hfit=>((repeat' (first|exact qB|refine qD ?_ ?_|exact qE (by rfl)|exact qF (by rfl)|exact Fit.refl _|exact qA|refine qC ?_ rfl ?_));done)
             try cbv)
          |fail)
      all_goals first
        |((try simp only [qV]at *);(try simp only [zQ,zA,zB,zC,zD,zE,zF,zG,zH,zI,zJ,zK,zL,zM,zN,zO,zP,zR,zS,ual,uan,uaS,ub0,uaZ,ub1,uab,uad,uac,uaf]at *);first|(refine qN ?_;omega)|(simp only [Hold];omega))
        |(subst hR;(refine qE ?_;(try simp only [qV]at *);(try simp only [zQ,zA,zB,zC,zD,zE,zF,zG,zH,zI,zJ,zK,zL,zM,zN,zO,zP,zR,zS]at *);(try simp only [ual,uan,uaS,ub0,uaZ,ub1,uab,uad,uac,uaf]at *);exact(ueT hF hm (fun g=>by have g:=ueC.1 g;have q:=g.2.2.2 j (by omega);unfold ubo at q;first|omega|(rw [show ofB (d.tw.getD 0 0) (d.fs.getD j f0T).wl (d.fs.getD j f0T).wh (d.tw.getD (d.tw.length-1) 0)=false by assumption]at *;omega))).symm);done)
        |(subst hR;(refine qE ?_;(try simp only [qV]at *);(try simp only [zQ,zA,zB,zC,zD,zE,zF,zG,zH,zI,zJ,zK,zL,zM,zN,zO,zP,zR,zS]at *);(try simp only [ual,uan,uaS,ub0,uaZ,ub1,uab,uad,uac,uaf]at *);exact(ugG hF hm (ueC.2 ⟨hs1,hp1,fun k hk=>hq k (by omega),fun k hk=>hr k (by omega)⟩)).symm);done)
        |((try simp only [zQ,zA,zB,zC,zD,zE,zF,zG,zH,zI,zJ,zK,zL,zM,zN,zO,zP,zR,zS,ual,uan,uaS,ub0,uaZ,ub1,uab,uad,uac,uaf]at *);refine⟨⟨j+1,by omega,fun k hk=>(Nat.lt_or_ge k j).elim (hr k) fun q=>by rw [show k=j by omega];unfold ubo;omega⟩,by simp only [];omega,?_⟩;cbv;(repeat' (first|with_reducible refine hold ?_ ?_|with_reducible refine And.intro ?_ ?_));(all_goals first|trivial|exact qM (qE (by rfl))|exact qM (qF (by rfl))|exact qM (Fit.refl _)|exact qL (qK _)|(refine qM (qE ?_);(try simp only [qV]at *);simp only [zQ,zA,zB,zC,zD,zE,zF,zG,zH,zI,zJ,zK,zL,zM,zN,zO,zP,zR,zS]at *;omega)|(refine qL (qJ ?_);(repeat' (first|exact qA|exact qB|refine qC ?_ rfl ?_|refine qD ?_ ?_|exact qE (by rfl)|exact qF (by rfl)|exact Fit.refl _|exact qG _|(refine qE ?_;(try simp only [qV]at *);simp only [zQ,zA,zB,zC,zD,zE,zF,zG,zH,zI,zJ,zK,zL,zM,zN,zO,zP,zR,zS]at *;omega)));done)|skip))
        |skip
end Go.Proofs.Ytkdggbfknlcdaaa
namespace Go.Proofs.Ytkdggbfknlcdaaa
open Go.Eng.Dif Go.Eng.Few
def udU (d:Dsp):Bool:=ufO d&&decide (ua7 d=0)
theorem ucG {d:Dsp}:udU d=true↔ufO d=true∧ua7 d=0:=by
  unfold udU
  rw [Bool.and_eq_true,decide_eq_true_eq]
theorem uhQ {d:Dsp}(hF:ua7 d=0)(h:¬ua4 d=0):ua4 d=9:=by
  cases hl:ucK d with
  |true=>exact absurd (ud6 hF hl) h
  |false=>exact uhW hF hl
end Go.Proofs.Ytkdggbfknlcdaaa
namespace Go.Proofs.Ytkdggbfknlcdaaa
open Go Go.Eng Go.Proofs Go.Eng.Dif Go.Eng.Few
set_option maxRecDepth 10000
theorem ugt (d:Dsp):ua0 Try.prog 20 [(dspS d)] [] (fun r _=>r=(.bool (.sym fun _=>udU d))):=by
  have c11:=uuH d
  have c47:=uta d
  refine ua0.is fun R hR=>qW (sc:=sc20) tyok mix Try.func20 rfl Try.call20 (by kernel_rfl) (by kernel_rfl) ?_
  generalize Try.prog=P at c11 c47⊢
  cbv
  repeat' (first
      |with_reducible refine And.intro ?_ ?_
      |(with_reducible intro hcd;(try simp only [zA,zB,zC,zD,zE,zF,zG,zH,zI,zJ,zK,zL,zM,zN,zO,zP]at hcd);try cbv)
      | (refine qP ?_ (c11) ?hfit
         case hfit=>((repeat' (first|exact qB|refine qD ?_ ?_|exact qE (by rfl)|exact qF (by rfl)|exact Fit.refl _|exact qA|refine qC ?_ rfl ?_));done)
         try cbv)
      | (refine qP ?_ (c47) ?hfit
         case hfit=>((repeat' (first|exact qB|refine qD ?_ ?_|exact qE (by rfl)|exact qF (by rfl)|exact Fit.refl _|exact qA|refine qC ?_ rfl ?_));done)
         try cbv)
      |fail)
  all_goals first
    |(subst hR;(refine qF ?_;(try simp only [qV]at *);(try simp only [zQ,zA,zB,zC,zD,zE,zF,zG,zH,zI,zJ,zK,zL,zM,zN,zO,zP,zR,zS]at *);first|(unfold udU;simp_all;done)|(unfold udU;rw [show ufO d=true by assumption,Bool.true_and];first|rfl|(apply Bool.eq_iff_iff.2;simp only [decide_eq_true_eq])));done)
    |skip
end Go.Proofs.Ytkdggbfknlcdaaa
namespace Go.Proofs.Ytkdggbfknlcdaaa
open Go.Eng.Dif Go.Eng.Few
theorem uvc {w n:Int}(h0:0≤w)(hn:1≤n):0≤w.tmod n∧w.tmod n≤n-1:=by
  have a:=Int.tmod_nonneg n h0
  have b:=Int.tmod_lt_of_pos w (show 0<n by omega)
  omega
theorem ueQ {d:Dsp}(hF:ua7 d=0)(h:¬ua4 d=0):bndE d=11∧bndN d=0:=by
  have hd:=ua2.1 hF
  refine ueh hF ?_
  cases hc:canT d d.fs []with
  |false=>rfl
  | true=>
    rw [udR]at hc
    exact absurd (ud6 hF (by rw [uda];exact uq2 (okk hd hd.f) hc)) h
def wL (a1 a2:Int)(x:LkT):LkT:=⟨x.a,x.b,max (-2000) (x.lo-a1),min 2000 (x.hi+a2)⟩
def wF (d:Dsp)(a3 a4:Int)(f:FaT):FaT:=⟨f.p,f.s,f.wl,f.wh,max (d.tm.getD 0 0) (f.ml-a3),min (d.tm.getD (d.tm.length-1) 0) (f.mh+a4)⟩
def tL (x:LkT):LkT:=⟨x.b,x.a,-x.hi,-x.lo⟩
def ub2 (d:Dsp)(k j:Nat)(a1 a2 a3 a4:Int):Dsp:=⟨d.tw,d.tm,d.tv,d.sn,d.pn,d.ls.set k (wL a1 a2 (d.ls.getD k l0T)),d.fs.set j (wF d a3 a4 (d.fs.getD j f0T))⟩
def ubr (d:Dsp)(k:Nat):Dsp:=⟨d.tw,d.tm,d.tv,d.sn,d.pn,d.ls.set k (tL (d.ls.getD k l0T)),d.fs⟩
theorem ulh {α:Type} {l:List α} {k:Nat} {v:α}(h:¬k<l.length):l.set k v=l:=List.set_eq_of_length_le (by omega)
theorem uky {α:Type} {l:List α} {k:Nat} {v z:α} {p:α→Prop}(h:∀i,i<l.length→p (l.getD i z))(hv:k<l.length→p v):∀i,i<(l.set k v).length→p ((l.set k v).getD i z):=by
  intro i hi
  rw [List.length_set]at hi
  by_cases hk:k<l.length
  · rw [uls hk]
    by_cases e:i=k
    · rw [if_pos e];exact hv hk
    · rw [if_neg e];exact h i hi
  · rw [ulh hk];exact h i hi
theorem ufs {d:Dsp}(h:DOk d) {k j:Nat} {a1 a2 a3 a4:Int}(h1:0≤a1)(h2:0≤a2)(h3:0≤a3)(h4:0≤a4):DOk (ub2 d k j a1 a2 a3 a4):=by
  refine⟨h.t,h.s1,h.s3,h.p1,h.p4,?_,?_,?_,?_⟩
  · show(d.ls.set k _).length≤4
    rw [List.length_set];exact h.l4
  · show(d.fs.set j _).length≤6
    rw [List.length_set];exact h.f6
  · refine uky (p:=ubP d.sn) h.l fun hk=> ?_
    have q:=h.l k hk
    unfold ubP at q⊢
    unfold wL
    simp only
    omega
  · refine uky (p:=ubo (ub2 d k j a1 a2 a3 a4)) (fun i hi=>h.f i hi) fun hk=> ?_
    have q:=h.f j hk
    unfold ubo at q⊢
    unfold wF ub2
    simp only
    omega
theorem uph {d:Dsp}(h:DOk d) {k:Nat}:DOk (ubr d k):=by
  refine⟨h.t,h.s1,h.s3,h.p1,h.p4,?_,h.f6,?_,fun i hi=>h.f i hi⟩
  · show(d.ls.set k _).length≤4
    rw [List.length_set];exact h.l4
  · refine uky (p:=ubP d.sn) h.l fun hk=> ?_
    have q:=h.l k hk
    unfold ubP at q⊢
    unfold tL
    simp only
    omega
theorem usk (d:Dsp)(k j:Nat)(a1 a2 a3 a4:Int):LO (ub2 d k j a1 a2 a3 a4)=(LO d).set k (lkO (wL a1 a2 (d.ls.getD k l0T))):=List.map_set
theorem usY (d:Dsp)(k:Nat):LO (ubr d k)=(LO d).set k (lkO (tL (d.ls.getD k l0T))):=List.map_set
theorem uod (d:Dsp)(k j:Nat)(a1 a2 a3 a4:Int):FO (ub2 d k j a1 a2 a3 a4) (ub2 d k j a1 a2 a3 a4).fs=(FO d d.fs).set j (faO d (wF d a3 a4 (d.fs.getD j f0T))):=List.map_set
theorem upu {d:Dsp}(hT:TOk d.tw d.tm d.tv) {a3 a4:Int} {f:FaT}(hf:ubo d f)(h3:0≤a3)(h4:0≤a4):mLo d (wF d a3 a4 f)≤mLo d f∧mHi d f≤mHi d (wF d a3 a4 f):=by
  have hf':ubo d (wF d a3 a4 f):=by
    unfold ubo at hf⊢
    unfold wF
    simp only
    omega
  have p:=us6 hT (uev hf)
  have q:=us6 hT (uev hf')
  have hb:=uev hf
  obtain⟨w,m,w0,w1,m0,m1,e⟩:=p.lo
  obtain⟨w',m',w0',w1',m0',m1',e'⟩:=p.hi
  unfold ubo at hf
  have c1:(wF d a3 a4 f).ml≤f.ml:=by unfold wF;simp only;omega
  have c2:f.mh≤(wF d a3 a4 f).mh:=by unfold wF;simp only;omega
  have x1:=q.le w m w0 w1 (by omega) (by omega)
  have x2:=q.le w' m' w0' w1' (by omega) (by omega)
  unfold mLo mHi
  rw [e,e']
  exact⟨x1.1,x2.2⟩
theorem uh9 {d:Dsp}(h:DOk d) {k j:Nat} {a1 a2 a3 a4:Int}(h1:0≤a1)(h2:0≤a2)(x:Nat→Int)(t:Tr (SN d) (LO d) [] x):Tr (SN d) (LO (ub2 d k j a1 a2 a3 a4)) [] x:=by
  rw [usk]
  by_cases hk:k<d.ls.length
  · have q:=h.l k hk
    unfold ubP at q
    have e:=usE hk
    have r:=uso (S:=SN d) (ls:=LO d) (k:=k) (by rw [uh0];exact hk) (lo:=max (-2000) ((d.ls.getD k l0T).lo-a1)) (hi:=min 2000 ((d.ls.getD k l0T).hi+a2)) (by rw [e];unfold lkO;simp only;omega) (by rw [e];unfold lkO;simp only;omega) x t
    rw [e]at r
    exact r
  · rw [ulh (by rw [uh0];exact hk)];exact t
theorem uho {d:Dsp}(h:DOk d) {k j:Nat} {a1 a2 a3 a4:Int}(h3:0≤a3)(h4:0≤a4)(i:Nat)(x:Nat→Int)(t:InF (FO d d.fs) i x):InF (FO (ub2 d k j a1 a2 a3 a4) (ub2 d k j a1 a2 a3 a4).fs) i x:=by
  rw [uod]
  by_cases hk:j<d.fs.length
  · have q:=upu h.t (h.f j hk) h3 h4
    have e:=usN (d:=d) hk
    have r:=ut5 (fs:=FO d d.fs) (k:=j) (by rw [udK];exact hk) (lo:=mLo d (wF d a3 a4 (d.fs.getD j f0T))) (hi:=mHi d (wF d a3 a4 (d.fs.getD j f0T))) (by rw [e];exact q.1) (by rw [e];exact q.2) i x t
    rw [e]at r
    exact r
  · rw [ulh (by rw [udK];exact hk)];exact t
theorem ulL (d:Dsp)(k j:Nat)(a1 a2 a3 a4:Int):(FO (ub2 d k j a1 a2 a3 a4) (ub2 d k j a1 a2 a3 a4).fs).length=(FO d d.fs).length:=by rw [uod,List.length_set]
theorem ucE {d:Dsp} {k j:Nat} {a1 a2 a3 a4:Int}(h1:0≤a1)(h2:0≤a2)(h3:0≤a3)(h4:0≤a4)(hf:ua4 d=0):ua4 (ub2 d k j a1 a2 a3 a4)=0∧(leaL (ub2 d k j a1 a2 a3 a4)).length≤(leaL d).length:=by
  have hF:=uau hf
  have hd:=ua2.1 hF.1
  have hx:=ufs hd (k:=k) (j:=j) h1 h2 h3 h4
  have q:=uqc (okk hd hd.f) (okk hx hx.f) (ulL d k j a1 a2 a3 a4) (fun x t=>uh9 hd (k:=k) (j:=j) (a3:=a3) (a4:=a4) h1 h2 x t) (fun i _ x t=>uho hd (k:=k) (j:=j) (a1:=a1) (a2:=a2) h3 h4 i x t) (by rw [←uda];exact hF.2)
  have hfx:ua4 (ub2 d k j a1 a2 a3 a4)=0:=ud6 (ua2.2 hx) (by rw [uda];exact q.1)
  refine⟨hfx,?_⟩
  have l1:leaL d=fewL d.fs.length (okFa d):=if_pos hf
  have l2:leaL (ub2 d k j a1 a2 a3 a4)=fewL (ub2 d k j a1 a2 a3 a4).fs.length (okFa (ub2 d k j a1 a2 a3 a4)):=if_pos hfx
  rw [l1,l2,ufu,ufu,←udK d d.fs,←udK (ub2 d k j a1 a2 a3 a4)]
  exact q.2
theorem udw {d:Dsp} {k j:Nat} {a1 a2 a3 a4:Int}(h1:0≤a1)(h2:0≤a2)(h3:0≤a3)(h4:0≤a4)(hb:bndE d=0):bndE (ub2 d k j a1 a2 a3 a4)=0∧∀s,s<d.sn.toNat→loT (ub2 d k j a1 a2 a3 a4) [] s≤loT d [] s∧hiT d [] s≤hiT (ub2 d k j a1 a2 a3 a4) [] s:=by
  have hF:=ugI hb
  have hd:=ua2.1 hF.1
  have hx:=ufs hd (k:=k) (j:=j) h1 h2 h3 h4
  have m:=uqO (ulL d k j a1 a2 a3 a4) (fun x t=>uh9 hd (k:=k) (j:=j) (a3:=a3) (a4:=a4) h1 h2 x t) (fun i _ x t=>uho hd (k:=k) (j:=j) (a1:=a1) (a2:=a2) h3 h4 i x t)
  have hc:canD (SN d) (LO d) (FO d d.fs)=true:=by rw [←udR];exact hF.2
  have w:=ufV (okk hd hd.f) (okk hx hx.f) m hc
  refine⟨(ucf (ua2.2 hx) (by rw [udR];exact w)).1,fun s hs=> ?_⟩
  rw [(udB d s).1,(udB d s).2,(udB (ub2 d k j a1 a2 a3 a4) s).1,(udB (ub2 d k j a1 a2 a3 a4) s).2]
  exact ukq (okk hd hd.f) (okk hx hx.f) m hc hs
theorem uhu {d:Dsp} {k:Nat}(x:Nat→Int):Tr (SN d) (LO d) [] x↔Tr (SN d) (LO (ubr d k)) [] x:=by
  rw [usY]
  by_cases hk:k<d.ls.length
  · have e:=usE hk
    have r:=usl (S:=SN d) (ls:=LO d) (k:=k) (by rw [uh0];exact hk) x
    rw [e]at r
    exact r
  · rw [ulh (by rw [uh0];exact hk)]
theorem ufP {d:Dsp} {k:Nat}(hF:ua7 d=0):ua4 (ubr d k)=ua4 d∧leaL (ubr d k)=leaL d:=by
  have hd:=ua2.1 hF
  have hx:=uph hd (k:=k)
  have q:=uq3 (okk hd hd.f) (okk hx (fs:=d.fs) hx.f) (fun x=>uhu (k:=k) x)
  have e:ucK (ubr d k)=ucK d:=by rw [uda,uda];exact q.2.symm
  have ef:ua4 (ubr d k)=ua4 d:=by
    unfold ua4
    rw [if_pos hF,if_pos (ua2.2 hx),e]
  refine⟨ef,?_⟩
  unfold leaL
  rw [ef,ufu,ufu]
  have q1:=q.1
  rw [udK]at q1
  exact congrArg (fun z=>if ua4 d=0 then z else []) q1.symm
theorem ufQ {d:Dsp} {k:Nat}(hF:ua7 d=0):bndE (ubr d k)=bndE d∧(bndE d=0→∀s,s<d.sn.toNat→loT (ubr d k) [] s=loT d [] s∧hiT (ubr d k) [] s=hiT d [] s):=by
  have hd:=ua2.1 hF
  have hx:=uph hd (k:=k)
  have m:∀x,Tr (SN d) (LO d) (FO d d.fs) x↔Tr (SN d) (LO (ubr d k)) (FO d d.fs) x:=fun x=>by
    rw [uog,uog (ls:=LO (ubr d k)),uhu (k:=k) x]
  have q:=unP (okk hd hd.f) (okk hx (fs:=d.fs) hx.f) m
  have e:canT (ubr d k) (ubr d k).fs []=canT d d.fs []:=by rw [udR,udR];exact q.1.symm
  constructor
  · unfold bndE
    rw [if_pos hF,if_pos (ua2.2 hx),e]
  · intro hb s hs
    rw [(udB d s).1,(udB d s).2,(udB (ubr d k) s).1,(udB (ubr d k) s).2]
    have r:=q.2 (by rw [←udR];exact(ugI hb).2) s hs
    exact⟨r.1.symm,r.2.symm⟩
end Go.Proofs.Ytkdggbfknlcdaaa
namespace Go.Proofs.Ytkdggbfknlcdaaa
open Go Go.Eng Go.Proofs Go.Eng.Dif Go.Eng.Few
set_option maxRecDepth 10000
theorem ufS (n:Nat)(a b c e:Nat→Int)(hn:n≤1000)(h:∀i,i<n→c i≤a i∧b i≤e i):ua0 Try.prog 24 [(.sl 2 (.sym fun _=>zi n) (fun ix=>[(iv fun _=>a ix.den.toNat),(iv fun _=>b ix.den.toNat)])),(.sl 2 (.sym fun _=>zi n) (fun ix=>[(iv fun _=>c ix.den.toNat),(iv fun _=>e ix.den.toNat)]))] [] (fun r _=>r=(.bool (.lit true))):=by
  refine ua0.is fun R hR=>qW (sc:=sc24) tyok mix Try.func24 rfl Try.call24 (by kernel_rfl) (by kernel_rfl) ?_
  generalize Try.prog=P
  cbv
  repeat' (first
      |with_reducible refine And.intro ?_ ?_
      |(with_reducible intro hcd;(try simp only [zA,zB,zC,zD,zE,zF,zG,zH,zI,zJ,zK,zL,zM,zN,zO,zP]at hcd);try cbv)
      |fail)
  all_goals first
    |trivial
    |skip
  refine⟨none,[],{i:Nat // i≤n},fun x=>⟨[(0,(.sl 2 (.sym fun _=>zi n) (fun ix=>[(iv fun _=>a ix.den.toNat),(iv fun _=>b ix.den.toNat)]))),(1,(.sl 2 (.sym fun _=>zi n) (fun ix=>[(iv fun _=>c ix.den.toNat),(iv fun _=>e ix.den.toNat)]))),(5,(iv fun _=>zi x.1))],[],60⟩,fun x=>n-x.1,?_,?_⟩
  · refine⟨⟨0,by omega⟩,?_⟩
    cbv
    repeat' (first
      |with_reducible refine hold ?_ ?_
      |with_reducible refine And.intro ?_ ?_)
    all_goals first
      |trivial
      |exact qM (qE (by rfl))
      |exact qM (Fit.refl _)
      |skip
  · rintro⟨i,hi⟩
    cbv
    cbv
    repeat' (first
        |with_reducible refine hold ?_ ?_
        |with_reducible refine And.intro ?_ ?_
        |(with_reducible intro hcd;(try simp only [zA,zB,zC,zD,zE,zF,zG,zH,zI,zJ,zK,zL,zM,zN,zO,zP]at hcd);try cbv)
        |fail)
    all_goals first
      |((try simp only [qV]at *);(try simp only [zQ,zA,zB,zC,zD,zE,zF,zG,zH,zI,zJ,zK,zL,zM,zN,zO,zP,zR,zS]at *);first|(refine qN ?_;omega)|(simp only [Hold];omega))
      |(subst hR;(repeat' (first|exact qA|exact qB|refine qC ?_ rfl ?_|refine qD ?_ ?_|exact qE (by rfl)|exact qF (by rfl)|exact Fit.refl _|exact qG _|(refine qE ?_;(try simp only [qV]at *);simp only [zQ,zA,zB,zC,zD,zE,zF,zG,zH,zI,zJ,zK,zL,zM,zN,zO,zP,zR,zS]at *;omega)));done)
      |(exfalso;(have hh:=h i (by((try simp only [qV]at *);(try simp only [zQ,zA,zB,zC,zD,zE,zF,zG,zH,zI,zJ,zK,zL,zM,zN,zO,zP,zR,zS]at *);omega)));(try simp only [qV]at *);(try simp only [zQ,zA,zB,zC,zD,zE,zF,zG,zH,zI,zJ,zK,zL,zM,zN,zO,zP,zR,zS]at *);omega)
      |((try simp only [zQ,zA,zB,zC,zD,zE,zF,zG,zH,zI,zJ,zK,zL,zM,zN,zO,zP,zR,zS]at *);refine⟨⟨i+1,by omega⟩,by simp only [];omega,?_⟩;cbv;(repeat' (first|with_reducible refine hold ?_ ?_|with_reducible refine And.intro ?_ ?_));(all_goals first|trivial|exact qM (qE (by rfl))|exact qM (qF (by rfl))|exact qM (Fit.refl _)|exact qL (qK _)|(refine qM (qE ?_);(try simp only [qV]at *);simp only [zQ,zA,zB,zC,zD,zE,zF,zG,zH,zI,zJ,zK,zL,zM,zN,zO,zP,zR,zS]at *;omega)|skip))
      |skip
theorem ufA {d:Dsp}(h:bndE d=0):bndN d=zi d.sn.toNat:=by
  have q:=ugI h
  rw [(ucf q.1 q.2).2]
  have:=(ua2.1 q.1).s1
  simp only [uax];omega
theorem ufF {d:Dsp}(h:bndE d=11):bndN d=0:=ukm (by omega)
theorem ufI {f:FuncId} {args:List SV} {b:Bool}(h:ua0 Try.prog f args [] (fun r _=>r = .bool (.sym fun _=>b)))(hb:b=true):ua0 Try.prog f args [] (fun r _=>r = .bool (.lit true)):=h.post fun r bs q=>⟨_,by subst q;exact qF hb,rfl⟩
end Go.Proofs.Ytkdggbfknlcdaaa
