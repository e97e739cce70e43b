/- Contracts of the functions that the laws come to. No condition. -/
import Derived.Test.YtkdggbfknlcdaaaGreatT5
set_option linter.unusedVariables false
set_option linter.unusedSimpArgs false
set_option linter.deprecated false
set_option linter.all false

namespace Go.Proofs.YtkdggbfknlcdaaaGreat
open Go Go.Eng Go.Proofs Go.Eng.Dif Go.Eng.Few
set_option maxRecDepth 10000
theorem uv2 {p:Nat→Bool} {n i:Nat}(hi:i<n)(h:p i=false):uh2 p n=false:=by
 rw [uau]
 intro q
 rw [q i hi]at h;cases h
theorem usC {p:Nat→Bool} {n:Nat}(h:∀i,i<n→p i=true):uh2 p n=true:=by rw [uaj];exact h
def eqI (na:Nat)(fa:Nat→Int)(nb:Nat)(fb:Nat→Int):Bool:=decide (na=nb)&&uh2 (fun i=>decide (fa i=fb i)) na
theorem uu9 {na nb:Nat} {fa fb:Nat→Int}(h:¬na=nb):eqI na fa nb fb=false:=by unfold eqI;rw [decide_eq_false h];rfl
theorem uwd {na nb:Nat} {fa fb:Nat→Int} {i:Nat}(hi:i<na)(h:¬fa i=fb i):eqI na fa nb fb=false:=by
 unfold eqI
 rw [uv2 (i:=i) hi (decide_eq_false h)];simp
theorem uuv {na nb:Nat} {fa fb:Nat→Int}(h:na=nb)(h':∀i,i<na→fa i=fb i):eqI na fa nb fb=true:=by
 unfold eqI
 rw [decide_eq_true h,usC fun i hi=>decide_eq_true (h' i hi)];rfl
theorem uxB :uo5 Tryz.prog 59 2:=uqO (by kernel_rfl)
theorem ulp {m b:Int} {c:List SV} {new e':IX→List SV}(h0:∀jx:IX,jx.den=0→Fit (.agg c) (.agg (e' jx)))(h1:∀ix jx:IX,0≤ix.den→ix.den<m→jx.den=1+ix.den→Fit (.agg (new ix)) (.agg (e' jx)))(hb:0<m∧(1+m)*b≤140737488355328):
 uaq (udI 1 (fun _=>c) m new e'∧0<m∧(1+m)*b≤140737488355328):=
 ⟨⟨fun μ ν ix v i0 i1 q jx hj=>(h0 jx (by omega)).le _ _ _ q,fun μ ν ix v i0 i1 q jx hj=>(h1 ix jx i0 i1 hj).le _ _ _ q⟩,hb⟩
theorem ugE (a b:Int):ua0 Tryz.prog 27 [(iv fun _=>a),(iv fun _=>b)] [] (fun r _=>r=(.agg [(iv fun _=>a),(iv fun _=>b)])):=by
 refine ua0.is fun R hR=>qW (sc:=uBC) uan mix Tryz.func27 rfl Tryz.call27 (by kernel_rfl) (by kernel_rfl) ?_
 generalize Tryz.prog=P
 cbv
 repeat' (first|fail)
 all_goals first|(subst hR;(repeat' (first|exact qA|exact qB|refine qC ?_ rfl ?_|refine qD ?_ ?_|exact qE (by rfl)|exact qF (by rfl)|exact Fit.refl _|exact qG _|(refine qE ?_;(try simp only [qV]at *);simp only [zQ,zA,zB,zC,zD,zE,zF,zG,zH,zI,zJ,zK,zL,zM,zN,zO,zP,zR,zS]at *;omega)));done)|skip
theorem uAm (a b:Int):ua0 Tryz.prog 36 [(.agg [(iv fun _=>a),(iv fun _=>b)])] [] (fun r _=>r=(.agg [(iv fun _=>a),(iv fun _=>b)])):=by
 refine ua0.is fun R hR=>qW (sc:=uBh) uan mix Tryz.func36 rfl Tryz.call36 (by kernel_rfl) (by kernel_rfl) ?_
 generalize Tryz.prog=P
 cbv
 repeat' (first|fail)
 all_goals first|(subst hR;(repeat' (first|exact qA|exact qB|refine qC ?_ rfl ?_|refine qD ?_ ?_|exact qE (by rfl)|exact qF (by rfl)|exact Fit.refl _|exact qG _|(refine qE ?_;(try simp only [qV]at *);simp only [zQ,zA,zB,zC,zD,zE,zF,zG,zH,zI,zJ,zK,zL,zM,zN,zO,zP,zR,zS]at *;omega)));done)|skip
theorem uqF (na nb:Nat)(fa fb:Nat→Int)(ha:na≤1000)(hb:nb≤1000):ua0 Tryz.prog 15 [(.sl 1 (.sym fun _=>zi na) (fun ix=>[(iv fun _=>fa ix.den.toNat)])),(.sl 1 (.sym fun _=>zi nb) (fun ix=>[(iv fun _=>fb ix.den.toNat)]))] [] (fun r _=>r=(bv fun _=>eqI na fa nb fb)):=by
 refine ua0.is fun R hR=>qW (sc:=uAT) uan mix Tryz.func15 rfl Tryz.call15 (by kernel_rfl) (by kernel_rfl) ?_
 generalize Tryz.prog=P
 cbv
 repeat' (first|with_reducible refine And.intro ?_ ?_|(with_reducible intro hcd;(try simp only [zA,zB,zC,zD,zE,zF,zG,zH,zI,zJ,zK,zL,zM,zN,zO,zP]at hcd);try cbv)|fail)
 all_goals first|(subst hR;(refine qF ?_;(try simp only [qV]at *);(try simp only [zQ,zA,zB,zC,zD,zE,zF,zG,zH,zI,zJ,zK,zL,zM,zN,zO,zP,zR,zS]at *);exact(uu9 (by omega)).symm);done)|skip
 refine⟨none,[],{i:Nat // i≤na∧∀j,j<i→fa j=fb j},fun x=>⟨[(0,(.sl 1 (.sym fun _=>zi na) (fun ix=>[(iv fun _=>fa ix.den.toNat)]))),(1,(.sl 1 (.sym fun _=>zi nb) (fun ix=>[(iv fun _=>fb ix.den.toNat)]))),(5,(iv fun _=>zi x.1))],[],40⟩,fun x=>na-x.1,?_,?_⟩
 ·refine⟨⟨0,by omega,fun j hj=>by omega⟩,?_⟩
  cbv
  repeat' (first|with_reducible refine ua4 ?_ ?_|with_reducible refine And.intro ?_ ?_)
  all_goals first|trivial|exact qM (qE (by rfl))|exact qM (Fit.refl _)|skip
 ·rintro⟨i,hi,hq⟩
  cbv
  repeat' (first|with_reducible refine ua4 ?_ ?_|with_reducible refine And.intro ?_ ?_|(with_reducible intro hcd;(try simp only [zA,zB,zC,zD,zE,zF,zG,zH,zI,zJ,zK,zL,zM,zN,zO,zP]at hcd);try cbv)|fail)
  all_goals first|((try simp only [qV]at *);(try simp only [zQ,zA,zB,zC,zD,zE,zF,zG,zH,zI,zJ,zK,zL,zM,zN,zO,zP,zR,zS]at *);first|(refine qN ?_;omega)|(simp only [uaq];omega))|(subst hR;(refine qF ?_;(try simp only [qV]at *);(try simp only [zQ,zA,zB,zC,zD,zE,zF,zG,zH,zI,zJ,zK,zL,zM,zN,zO,zP,zR,zS]at *);exact(uwd (i:=i) (by omega) (by assumption)).symm);done)|(subst hR;(refine qF ?_;(try simp only [qV]at *);(try simp only [zQ,zA,zB,zC,zD,zE,zF,zG,zH,zI,zJ,zK,zL,zM,zN,zO,zP,zR,zS]at *);exact(uuv (by omega) fun j hj=>hq j (by omega)).symm);done)|((try simp only [zQ,zA,zB,zC,zD,zE,zF,zG,zH,zI,zJ,zK,zL,zM,zN,zO,zP,zR,zS]at *);refine⟨⟨i+1,by omega,fun j hj=>(Nat.lt_or_ge j i).elim (hq j) fun q=>by rw [show j=i by omega];first|assumption|omega⟩,by simp only [];omega,?_⟩;cbv;(repeat' (first|with_reducible refine ua4 ?_ ?_|with_reducible refine And.intro ?_ ?_));(all_goals first|trivial|exact qM (qE (by rfl))|exact qM (qF (by rfl))|exact qM (Fit.refl _)|exact qL (qK _)|(refine qM (qE ?_);(try simp only [qV]at *);simp only [zQ,zA,zB,zC,zD,zE,zF,zG,zH,zI,zJ,zK,zL,zM,zN,zO,zP,zR,zS]at *;omega)|skip))|skip
theorem uuM :ua0 Tryz.prog 39 [] [] (fun r _=>r=(ubh d3)):=by
 have c40:= @ugE
 refine ua0.is fun R hR=>qW (sc:=uzT) uan mix Tryz.func39 rfl Tryz.call39 (by kernel_rfl) (by kernel_rfl) ?_
 generalize Tryz.prog=P at c40⊢
 cbv
 repeat' (first|(refine qP ?_ (c40 _ _) (by(repeat' (first|exact qB|refine qD ?_ ?_|exact qE (by rfl)|exact qF (by rfl)|exact Fit.refl _|exact qA|refine qC ?_ rfl ?_)));try cbv)|fail)
 all_goals first|(subst hR;(repeat' (first|exact qA|exact qB|refine qC ?_ rfl ?_|refine qD ?_ ?_|exact qE (by rfl)|exact qF (by rfl)|exact qE (by kernel_rfl)|exact qF (by kernel_rfl)|exact Fit.refl _|(exact qO (by rfl))|(first|(refine ua2 (by rfl) (fun ix h0 h1=> ?_);(have h2:ix.den<2:=h1);(have hx:ix.den.toNat=0∨ix.den.toNat=1:=by omega);(rcases hx with hx|hx<;>simp only [hx]))|(refine ua2 (by rfl) (fun ix h0 h1=> ?_);(have h2:ix.den<3:=h1);(have hx:ix.den.toNat=0∨ix.den.toNat=1∨ix.den.toNat=2:=by omega);(rcases hx with hx|hx|hx<;>simp only [hx]))|(refine ua2 (by rfl) (fun ix h0 h1=> ?_);(have h2:ix.den<4:=h1);(have hx:ix.den.toNat=0∨ix.den.toNat=1∨ix.den.toNat=2∨ix.den.toNat=3:=by omega);(rcases hx with hx|hx|hx|hx<;>simp only [hx]))|(refine ua2 (by rfl) (fun ix h0 h1=> ?_);(have h2:ix.den<1:=h1);(have hx:ix.den.toNat=0:=by omega);(rcases hx with hx<;>simp only [hx]))|(refine ua2 (by rfl) (fun ix h0 h1=> ?_);(have h2:ix.den<5:=h1);(have hx:ix.den.toNat=0∨ix.den.toNat=1∨ix.den.toNat=2∨ix.den.toNat=3∨ix.den.toNat=4:=by omega);(rcases hx with hx|hx|hx|hx|hx<;>simp only [hx])))));done)|skip
theorem urX :ubc Tryz.prog 39 [] [] (fun r bs=>r=(.agg [(iS d3.tw),(iS d3.tm),(.sl 1 (.sym fun _=>zi (d3.tv).length) (fun ix=>[(.sl 1 (.sym fun _=>zi ((d3.tv).getD ix.den.toNat []).length) (fun jx=>[(iv fun _=>((d3.tv).getD ix.den.toNat []).getD jx.den.toNat 0)]))])),(iv fun _=>d3.sn),(iv fun _=>d3.pn),(.sl 4 (.sym fun _=>zi (d3.ls).length) (fun ix=>[(iv fun _=>((d3.ls).getD ix.den.toNat l0T).a),(iv fun _=>((d3.ls).getD ix.den.toNat l0T).b),(iv fun _=>((d3.ls).getD ix.den.toNat l0T).lo),(iv fun _=>((d3.ls).getD ix.den.toNat l0T).hi)])),.ows 0 0 3 3 6])∧bs=[.cells [(.int .i64 (.lit (0))),(.int .i64 (.lit (0))),(.int .i64 (.lit (12))),(.int .i64 (.lit (12))),(.int .i64 (.lit (5))),(.int .i64 (.lit (6))),(.int .i64 (.lit (1))),(.int .i64 (.lit (0))),(.int .i64 (.lit (14))),(.int .i64 (.lit (14))),(.int .i64 (.lit (2))),(.int .i64 (.lit (3))),(.int .i64 (.lit (2))),(.int .i64 (.lit (1))),(.int .i64 (.lit (10))),(.int .i64 (.lit (10))),(.int .i64 (.lit (4))),(.int .i64 (.lit (4)))] 106]):=by
 have c40:= @ugE
 refine ubc.is rfl rfl fun R B hR hB=>uf2 (sc:=uzT) uan mix Tryz.func39 rfl Tryz.call39 (by kernel_rfl) (by kernel_rfl) ?_
 generalize Tryz.prog=P at c40⊢
 cbv
 repeat' (first|(refine qP ?_ (c40 _ _) (by(repeat' (first|exact qB|refine qD ?_ ?_|exact qE (by rfl)|exact qF (by rfl)|exact Fit.refl _|exact qA|refine qC ?_ rfl ?_)));try cbv)|fail)
 all_goals first|trivial|skip
 refine⟨[],(20:Nat),?_⟩
 cbv
 subst hR
 subst hB
 refine⟨?_,?_⟩
 ·(repeat' (first|exact qA|exact qB|refine qC ?_ rfl ?_|refine qD ?_ ?_|exact qE (by rfl)|exact qF (by rfl)|exact qE (by kernel_rfl)|exact qF (by kernel_rfl)|exact Fit.refl _|(exact qO (by rfl))|(first|(refine ua2 (by rfl) (fun ix h0 h1=> ?_);(have h2:ix.den<2:=h1);(have hx:ix.den.toNat=0∨ix.den.toNat=1:=by omega);(rcases hx with hx|hx<;>simp only [hx]))|(refine ua2 (by rfl) (fun ix h0 h1=> ?_);(have h2:ix.den<3:=h1);(have hx:ix.den.toNat=0∨ix.den.toNat=1∨ix.den.toNat=2:=by omega);(rcases hx with hx|hx|hx<;>simp only [hx]))|(refine ua2 (by rfl) (fun ix h0 h1=> ?_);(have h2:ix.den<4:=h1);(have hx:ix.den.toNat=0∨ix.den.toNat=1∨ix.den.toNat=2∨ix.den.toNat=3:=by omega);(rcases hx with hx|hx|hx|hx<;>simp only [hx]))|(refine ua2 (by rfl) (fun ix h0 h1=> ?_);(have h2:ix.den<1:=h1);(have hx:ix.den.toNat=0:=by omega);(rcases hx with hx<;>simp only [hx]))|(refine ua2 (by rfl) (fun ix h0 h1=> ?_);(have h2:ix.den<5:=h1);(have hx:ix.den.toNat=0∨ix.den.toNat=1∨ix.den.toNat=2∨ix.den.toNat=3∨ix.den.toNat=4:=by omega);(rcases hx with hx|hx|hx|hx|hx<;>simp only [hx])))))
 ·(repeat' (first|exact qH|refine qI ?_ ?_))
  refine qJ ?_
  (repeat' (first|exact qA|exact qB|refine qC ?_ rfl ?_|refine qD ?_ ?_|exact qE (by rfl)|exact qF (by rfl)|exact qE (by kernel_rfl)|exact qF (by kernel_rfl)|exact Fit.refl _|(exact qO (by rfl))|(first|(refine ua2 (by rfl) (fun ix h0 h1=> ?_);(have h2:ix.den<2:=h1);(have hx:ix.den.toNat=0∨ix.den.toNat=1:=by omega);(rcases hx with hx|hx<;>simp only [hx]))|(refine ua2 (by rfl) (fun ix h0 h1=> ?_);(have h2:ix.den<3:=h1);(have hx:ix.den.toNat=0∨ix.den.toNat=1∨ix.den.toNat=2:=by omega);(rcases hx with hx|hx|hx<;>simp only [hx]))|(refine ua2 (by rfl) (fun ix h0 h1=> ?_);(have h2:ix.den<4:=h1);(have hx:ix.den.toNat=0∨ix.den.toNat=1∨ix.den.toNat=2∨ix.den.toNat=3:=by omega);(rcases hx with hx|hx|hx|hx<;>simp only [hx]))|(refine ua2 (by rfl) (fun ix h0 h1=> ?_);(have h2:ix.den<1:=h1);(have hx:ix.den.toNat=0:=by omega);(rcases hx with hx<;>simp only [hx]))|(refine ua2 (by rfl) (fun ix h0 h1=> ?_);(have h2:ix.den<5:=h1);(have hx:ix.den.toNat=0∨ix.den.toNat=1∨ix.den.toNat=2∨ix.den.toNat=3∨ix.den.toNat=4:=by omega);(rcases hx with hx|hx|hx|hx|hx<;>simp only [hx])))))
theorem uzh :ua0 Tryz.prog 40 [] [] (fun r _=>r=(ubh d2)):=by
 have c37:=urX
 refine ua0.is fun R hR=>qW (sc:=uAL) uan mix Tryz.func40 rfl Tryz.call40 (by kernel_rfl) (by kernel_rfl) ?_
 generalize Tryz.prog=P at c37⊢
 cbv
 repeat' (first
  | (refine Or.inr ⟨true,?_⟩
     cbv
     refine qU ?_ (c37) (by cbv;(repeat' (first|exact qB|refine qD ?_ ?_|exact qE (by rfl)|exact qF (by rfl)|exact Fit.refl _|exact qA|refine qC ?_ rfl ?_))) (by cbv;(repeat' (first|exact qH|refine qI ?_ ?_|exact qK _|refine qJ ?_|exact qA|exact qE (by rfl)|exact qF (by rfl)|exact Fit.refl _|exact qG _|refine qC ?_ rfl ?_)))
     try cbv)
  | (refine⟨fun ix=>[(iv fun _=>(d2.fs.getD ix.den.toNat f0T).p),(iv fun _=>(d2.fs.getD ix.den.toNat f0T).s),(iv fun _=>(d2.fs.getD ix.den.toNat f0T).wl),(iv fun _=>(d2.fs.getD ix.den.toNat f0T).wh),(iv fun _=>(d2.fs.getD ix.den.toNat f0T).ml),(iv fun _=>(d2.fs.getD ix.den.toNat f0T).mh)],?_⟩
     cbv
     refine ua4 (ulp (fun jx h0=>(by(have h3:jx.den.toNat=0:=by omega);simp only [h3];(repeat' (first|exact qA|exact qB|refine qC ?_ rfl ?_|refine qD ?_ ?_|exact qE (by rfl)|exact qF (by rfl)|exact qE (by kernel_rfl)|exact qF (by kernel_rfl)|exact Fit.refl _|(exact qO (by rfl))|(first|(refine ua2 (by rfl) (fun ix h0 h1=> ?_);(have h2:ix.den<2:=h1);(have hx:ix.den.toNat=0∨ix.den.toNat=1:=by omega);(rcases hx with hx|hx<;>simp only [hx]))|(refine ua2 (by rfl) (fun ix h0 h1=> ?_);(have h2:ix.den<3:=h1);(have hx:ix.den.toNat=0∨ix.den.toNat=1∨ix.den.toNat=2:=by omega);(rcases hx with hx|hx|hx<;>simp only [hx]))|(refine ua2 (by rfl) (fun ix h0 h1=> ?_);(have h2:ix.den<4:=h1);(have hx:ix.den.toNat=0∨ix.den.toNat=1∨ix.den.toNat=2∨ix.den.toNat=3:=by omega);(rcases hx with hx|hx|hx|hx<;>simp only [hx]))|(refine ua2 (by rfl) (fun ix h0 h1=> ?_);(have h2:ix.den<1:=h1);(have hx:ix.den.toNat=0:=by omega);(rcases hx with hx<;>simp only [hx]))|(refine ua2 (by rfl) (fun ix h0 h1=> ?_);(have h2:ix.den<5:=h1);(have hx:ix.den.toNat=0∨ix.den.toNat=1∨ix.den.toNat=2∨ix.den.toNat=3∨ix.den.toNat=4:=by omega);(rcases hx with hx|hx|hx|hx|hx<;>simp only [hx]))))))) (fun ix jx h0 h1 h2=>(by(have h3:jx.den.toNat=1:=by(have h4:ix.den<1:=h1;omega));simp only [h3];(repeat' (first|exact qA|exact qB|refine qC ?_ rfl ?_|refine qD ?_ ?_|exact qE (by rfl)|exact qF (by rfl)|exact qE (by kernel_rfl)|exact qF (by kernel_rfl)|exact Fit.refl _|(exact qO (by rfl))|(first|(refine ua2 (by rfl) (fun ix h0 h1=> ?_);(have h2:ix.den<2:=h1);(have hx:ix.den.toNat=0∨ix.den.toNat=1:=by omega);(rcases hx with hx|hx<;>simp only [hx]))|(refine ua2 (by rfl) (fun ix h0 h1=> ?_);(have h2:ix.den<3:=h1);(have hx:ix.den.toNat=0∨ix.den.toNat=1∨ix.den.toNat=2:=by omega);(rcases hx with hx|hx|hx<;>simp only [hx]))|(refine ua2 (by rfl) (fun ix h0 h1=> ?_);(have h2:ix.den<4:=h1);(have hx:ix.den.toNat=0∨ix.den.toNat=1∨ix.den.toNat=2∨ix.den.toNat=3:=by omega);(rcases hx with hx|hx|hx|hx<;>simp only [hx]))|(refine ua2 (by rfl) (fun ix h0 h1=> ?_);(have h2:ix.den<1:=h1);(have hx:ix.den.toNat=0:=by omega);(rcases hx with hx<;>simp only [hx]))|(refine ua2 (by rfl) (fun ix h0 h1=> ?_);(have h2:ix.den<5:=h1);(have hx:ix.den.toNat=0∨ix.den.toNat=1∨ix.den.toNat=2∨ix.den.toNat=3∨ix.den.toNat=4:=by omega);(rcases hx with hx|hx|hx|hx|hx<;>simp only [hx]))))))) ⟨by decide,by decide⟩) ?_
     try cbv)
  |fail)
 all_goals first|(subst hR;(repeat' (first|exact qA|exact qB|refine qC ?_ rfl ?_|refine qD ?_ ?_|exact qE (by rfl)|exact qF (by rfl)|exact qE (by kernel_rfl)|exact qF (by kernel_rfl)|exact Fit.refl _|(exact qO (by rfl))|(first|(refine ua2 (by rfl) (fun ix h0 h1=> ?_);(have h2:ix.den<2:=h1);(have hx:ix.den.toNat=0∨ix.den.toNat=1:=by omega);(rcases hx with hx|hx<;>simp only [hx]))|(refine ua2 (by rfl) (fun ix h0 h1=> ?_);(have h2:ix.den<3:=h1);(have hx:ix.den.toNat=0∨ix.den.toNat=1∨ix.den.toNat=2:=by omega);(rcases hx with hx|hx|hx<;>simp only [hx]))|(refine ua2 (by rfl) (fun ix h0 h1=> ?_);(have h2:ix.den<4:=h1);(have hx:ix.den.toNat=0∨ix.den.toNat=1∨ix.den.toNat=2∨ix.den.toNat=3:=by omega);(rcases hx with hx|hx|hx|hx<;>simp only [hx]))|(refine ua2 (by rfl) (fun ix h0 h1=> ?_);(have h2:ix.den<1:=h1);(have hx:ix.den.toNat=0:=by omega);(rcases hx with hx<;>simp only [hx]))|(refine ua2 (by rfl) (fun ix h0 h1=> ?_);(have h2:ix.den<5:=h1);(have hx:ix.den.toNat=0∨ix.den.toNat=1∨ix.den.toNat=2∨ix.den.toNat=3∨ix.den.toNat=4:=by omega);(rcases hx with hx|hx|hx|hx|hx<;>simp only [hx])))));done)|skip
theorem utL {n:Int} {f:Nat→Int} {L:List Int}(hn:n=(L.length:Int))(h:∀i,i<L.length→f i=L.getD i 0):Fit (.sl 1 (.sym fun _=>n) (fun ix=>[(iv fun _=>f ix.den.toNat)])) (iS L):=
 ua2 hn (fun ix h0 h1=>qC (qE (h _ (by have h2:ix.den<n:=h1;omega))) rfl qA)
theorem uuR {n:Int} {f g:Nat→Int} {L:List (Int×Int)}(hn:n=(L.length:Int))(h:∀i,i<L.length→f i=(L.getD i (0,0)).1∧g i=(L.getD i (0,0)).2):Fit (.sl 2 (.sym fun _=>n) (fun ix=>[(iv fun _=>f ix.den.toNat),(iv fun _=>g ix.den.toNat)])) (.sl 2 (.sym fun _=>zi (L).length) (fun ix=>[(iv fun _=>((L).getD ix.den.toNat (0,0)).1),(iv fun _=>((L).getD ix.den.toNat (0,0)).2)])):=
 ua2 hn (fun ix h0 h1=>qC (qE (h _ (by have h2:ix.den<n:=h1;omega)).1) rfl (qC (qE (h _ (by have h2:ix.den<n:=h1;omega)).2) rfl qA))
theorem uzm :ua0 Tryz.prog 38 [(ubh d3),(iv fun _=>0)] [] (fun r _=>r=(.tup [(.agg [(.int .i64 (.lit (115))),(.int .i64 (.lit (119)))]),(.int .i64 (.lit (0)))])):=
 (uxp d3 0 (by decide)).post fun r bs h=>⟨_,by subst h;exact qD (qC (qE upQ.2.1) rfl (qC (qE upQ.2.2) rfl qA)) (qD (qE upQ.1) qB),rfl⟩
theorem uwR :ua0 Tryz.prog 11 [(ubh d3)] [] (fun r _=>r=(.tup [(.int .i64 (.lit (1))),(.int .i64 (.lit (0)))])):=
 (upp d3).post fun r bs h=>⟨_,by subst h;exact qD (qE uxj.2) (qD (qE uxj.1) qB),rfl⟩
theorem uxA :ua0 Tryz.prog 13 [(ubh d3)] [] (fun r _=>r=(.tup [(iS ([1])),(.int .i64 (.lit (0)))])):=
 (ul9 d3).post fun r bs h=>⟨_,by subst h;rw [uA1];exact qD (Fit.refl _) (qD (qE uh5) qB),rfl⟩
theorem ur8 :ua0 Tryz.prog 18 [(ubh d3)] [] (fun r _=>r=(.tup [(iS ([1])),(.int .i64 (.lit (0)))])):=
 (uk3 d3).post fun r bs h=>⟨_,by subst h;rw [uBB];exact qD (Fit.refl _) (qD (qE uh5) qB),rfl⟩
theorem uxf :ua0 Tryz.prog 19 [(ubh d3)] [] (fun r _=>r=(.tup [(iS ([1])),(iS ([1])),(.int .i64 (.lit (0)))])):=
 (uib d3).post fun r bs h=>⟨_,by subst h;rw [uzS,uB5];exact qD (Fit.refl _) (qD (Fit.refl _) (qD (qE uh5) qB)),rfl⟩
def B2X :List (Int×Int):=[(116,119),(116,116)]
theorem uvn :ua0 Tryz.prog 30 [(ubh d2)] [] (fun r _=>r=(.tup [(.sl 2 (.sym fun _=>zi (B2X).length) (fun ix=>[(iv fun _=>((B2X).getD ix.den.toNat (0,0)).1),(iv fun _=>((B2X).getD ix.den.toNat (0,0)).2)])),(.int .i64 (.lit (0)))])):=
 (umc d2).post fun r bs h=>⟨_,by subst h;exact qD (uuR (f:=loT d2 []) (g:=hiT d2 []) (L:=B2X) uA7.2 (fun i hi=>by
  have hi:i<2:=hi
  rcases(show i=0∨i=1 by omega)with e|e<;>subst e<;>(first|exact bd2.1|exact bd2.2))) (qD (qE uA7.1) qB),rfl⟩
theorem uv7 :ua0 Tryz.prog 25 [(ubh d3),(iv fun _=>0),(iv fun _=>1000)] [] (fun r _=>r=(.tup [(.agg [(.int .i64 (.lit (116))),(.int .i64 (.lit (119)))]),(.int .i64 (.lit (0)))])):=
 (usp d3 0 1000).post fun r bs h=>⟨_,by subst h;exact qD (qC (qE ch3.2.1) rfl (qC (qE ch3.2.2) rfl qA)) (qD (qE ch3.1) qB),rfl⟩
theorem uvt :ua0 Tryz.prog 20 [(ubh d3),(iv fun _=>100)] [] (fun r _=>r=(.tup [(iS ([0,100,0])),(.int .i64 (.lit (0)))])):=
 (ukS d3 100).post fun r bs h=>⟨_,by subst h;exact qD (utL (f:=ufG d3 100) (L:=[0,100,0]) co3.2 (fun i hi=>by
  have hi:i<3:=hi
  rcases(show i=0∨i=1∨i=2 by omega)with e|e|e<;>subst e<;>(first|exact uzx.1|exact uzx.2.1|exact uzx.2.2))) (qD (qE co3.1) qB),rfl⟩
theorem uus :ua0 Tryz.prog 20 [(ubh d2),(iv fun _=>100)] [] (fun r _=>r=(.tup [(iS ([34,33,33])),(.int .i64 (.lit (0)))])):=
 (ukS d2 100).post fun r bs h=>⟨_,by subst h;exact qD (utL (f:=ufG d2 100) (L:=[34,33,33]) co2.2 (fun i hi=>by
  have hi:i<3:=hi
  rcases(show i=0∨i=1∨i=2 by omega)with e|e|e<;>subst e<;>(first|exact uyC.1|exact uyC.2.1|exact uyC.2.2))) (qD (qE co2.1) qB),rfl⟩
theorem ux3 :ua0 Tryz.prog 15 [(iS ([1])),(iS ([1]))] [] (fun r _=>r=(.bool (.lit true))):=
 (uqF 1 1 (fun n=>([1]).getD n 0) (fun n=>([1]).getD n 0) (by decide) (by decide)).post fun r bs h=>⟨_,by subst h;(repeat' (first|exact qA|exact qB|refine qC ?_ rfl ?_|refine qD ?_ ?_|exact qE (by rfl)|exact qF (by rfl)|exact qE (by kernel_rfl)|exact qF (by kernel_rfl)|exact Fit.refl _|(exact qO (by rfl))|(first|(refine ua2 (by rfl) (fun ix h0 h1=> ?_);(have h2:ix.den<2:=h1);(have hx:ix.den.toNat=0∨ix.den.toNat=1:=by omega);(rcases hx with hx|hx<;>simp only [hx]))|(refine ua2 (by rfl) (fun ix h0 h1=> ?_);(have h2:ix.den<3:=h1);(have hx:ix.den.toNat=0∨ix.den.toNat=1∨ix.den.toNat=2:=by omega);(rcases hx with hx|hx|hx<;>simp only [hx]))|(refine ua2 (by rfl) (fun ix h0 h1=> ?_);(have h2:ix.den<4:=h1);(have hx:ix.den.toNat=0∨ix.den.toNat=1∨ix.den.toNat=2∨ix.den.toNat=3:=by omega);(rcases hx with hx|hx|hx|hx<;>simp only [hx]))|(refine ua2 (by rfl) (fun ix h0 h1=> ?_);(have h2:ix.den<1:=h1);(have hx:ix.den.toNat=0:=by omega);(rcases hx with hx<;>simp only [hx]))|(refine ua2 (by rfl) (fun ix h0 h1=> ?_);(have h2:ix.den<5:=h1);(have hx:ix.den.toNat=0∨ix.den.toNat=1∨ix.den.toNat=2∨ix.den.toNat=3∨ix.den.toNat=4:=by omega);(rcases hx with hx|hx|hx|hx|hx<;>simp only [hx]))))),rfl⟩
theorem uxC :ua0 Tryz.prog 15 [(iS ([0,100,0])),(iS ([0,100,0]))] [] (fun r _=>r=(.bool (.lit true))):=
 (uqF 3 3 (fun n=>([0,100,0]).getD n 0) (fun n=>([0,100,0]).getD n 0) (by decide) (by decide)).post fun r bs h=>⟨_,by subst h;(repeat' (first|exact qA|exact qB|refine qC ?_ rfl ?_|refine qD ?_ ?_|exact qE (by rfl)|exact qF (by rfl)|exact qE (by kernel_rfl)|exact qF (by kernel_rfl)|exact Fit.refl _|(exact qO (by rfl))|(first|(refine ua2 (by rfl) (fun ix h0 h1=> ?_);(have h2:ix.den<2:=h1);(have hx:ix.den.toNat=0∨ix.den.toNat=1:=by omega);(rcases hx with hx|hx<;>simp only [hx]))|(refine ua2 (by rfl) (fun ix h0 h1=> ?_);(have h2:ix.den<3:=h1);(have hx:ix.den.toNat=0∨ix.den.toNat=1∨ix.den.toNat=2:=by omega);(rcases hx with hx|hx|hx<;>simp only [hx]))|(refine ua2 (by rfl) (fun ix h0 h1=> ?_);(have h2:ix.den<4:=h1);(have hx:ix.den.toNat=0∨ix.den.toNat=1∨ix.den.toNat=2∨ix.den.toNat=3:=by omega);(rcases hx with hx|hx|hx|hx<;>simp only [hx]))|(refine ua2 (by rfl) (fun ix h0 h1=> ?_);(have h2:ix.den<1:=h1);(have hx:ix.den.toNat=0:=by omega);(rcases hx with hx<;>simp only [hx]))|(refine ua2 (by rfl) (fun ix h0 h1=> ?_);(have h2:ix.den<5:=h1);(have hx:ix.den.toNat=0∨ix.den.toNat=1∨ix.den.toNat=2∨ix.den.toNat=3∨ix.den.toNat=4:=by omega);(rcases hx with hx|hx|hx|hx|hx<;>simp only [hx]))))),rfl⟩
theorem uxJ :ua0 Tryz.prog 15 [(iS ([34,33,33])),(iS ([34,33,33]))] [] (fun r _=>r=(.bool (.lit true))):=
 (uqF 3 3 (fun n=>([34,33,33]).getD n 0) (fun n=>([34,33,33]).getD n 0) (by decide) (by decide)).post fun r bs h=>⟨_,by subst h;(repeat' (first|exact qA|exact qB|refine qC ?_ rfl ?_|refine qD ?_ ?_|exact qE (by rfl)|exact qF (by rfl)|exact qE (by kernel_rfl)|exact qF (by kernel_rfl)|exact Fit.refl _|(exact qO (by rfl))|(first|(refine ua2 (by rfl) (fun ix h0 h1=> ?_);(have h2:ix.den<2:=h1);(have hx:ix.den.toNat=0∨ix.den.toNat=1:=by omega);(rcases hx with hx|hx<;>simp only [hx]))|(refine ua2 (by rfl) (fun ix h0 h1=> ?_);(have h2:ix.den<3:=h1);(have hx:ix.den.toNat=0∨ix.den.toNat=1∨ix.den.toNat=2:=by omega);(rcases hx with hx|hx|hx<;>simp only [hx]))|(refine ua2 (by rfl) (fun ix h0 h1=> ?_);(have h2:ix.den<4:=h1);(have hx:ix.den.toNat=0∨ix.den.toNat=1∨ix.den.toNat=2∨ix.den.toNat=3:=by omega);(rcases hx with hx|hx|hx|hx<;>simp only [hx]))|(refine ua2 (by rfl) (fun ix h0 h1=> ?_);(have h2:ix.den<1:=h1);(have hx:ix.den.toNat=0:=by omega);(rcases hx with hx<;>simp only [hx]))|(refine ua2 (by rfl) (fun ix h0 h1=> ?_);(have h2:ix.den<5:=h1);(have hx:ix.den.toNat=0∨ix.den.toNat=1∨ix.den.toNat=2∨ix.den.toNat=3∨ix.den.toNat=4:=by omega);(rcases hx with hx|hx|hx|hx|hx<;>simp only [hx]))))),rfl⟩
set_option maxHeartbeats 1000000 in
theorem uoe :ua0 Tryz.prog 10 [] [] (fun r _=>r=(.bool (.lit true))):=by
 have k37:=uuM
 have k39:=uzh
 have kmeanX:=uzm
 have kfirstX:=uwR
 have kleaveX:=uxA
 have kbelieveX:=ur8
 have kblameX:=uxf
 have kboundsX:=uvn
 have kchargeX:=uv7
 have kcosts3X:=uvt
 have kcosts2X:=uus
 have kintsXa:=ux3
 have kintsXb:=uxC
 have kintsXc:=uxJ
 have c40:= @ugE
 have h33:=uxB
 refine ua0.is fun R hR=>qW (sc:=uAn) uan mix Tryz.func10 rfl Tryz.call10 (by kernel_rfl) (by kernel_rfl) ?_
 generalize Tryz.prog=P at k37 k39 kmeanX kfirstX kleaveX kbelieveX kblameX kboundsX kchargeX kcosts3X kcosts2X kintsXa kintsXb kintsXc c40 h33⊢
 cbv
 repeat' (first
  |with_reducible refine ua4 ?_ ?_
  |with_reducible refine And.intro ?_ ?_
  |(with_reducible intro hcd;(try simp only [zA,zB,zC,zD,zE,zF,zG,zH,zI,zJ,zK,zL,zM,zN,zO,zP]at hcd);try cbv)
  |(refine qP ?_ (c40 _ _) (by(repeat' (first|exact qB|refine qD ?_ ?_|exact qE (by rfl)|exact qF (by rfl)|exact Fit.refl _|exact qA|refine qC ?_ rfl ?_)));try cbv)
  |(refine qP ?_ (k37) ?hfit;(case hfit=>((repeat' (first|exact qA|exact qB|refine qC ?_ rfl ?_|refine qD ?_ ?_|exact qE (by rfl)|exact qF (by rfl)|exact Fit.refl _|(exact qO (by rfl))|(first|(refine ua2 (by rfl) (fun ix h0 h1=> ?_);(have h2:ix.den<2:=h1);(have hx:ix.den.toNat=0∨ix.den.toNat=1:=by omega);(rcases hx with hx|hx<;>simp only [hx]))|(refine ua2 (by rfl) (fun ix h0 h1=> ?_);(have h2:ix.den<3:=h1);(have hx:ix.den.toNat=0∨ix.den.toNat=1∨ix.den.toNat=2:=by omega);(rcases hx with hx|hx|hx<;>simp only [hx]))|(refine ua2 (by rfl) (fun ix h0 h1=> ?_);(have h2:ix.den<4:=h1);(have hx:ix.den.toNat=0∨ix.den.toNat=1∨ix.den.toNat=2∨ix.den.toNat=3:=by omega);(rcases hx with hx|hx|hx|hx<;>simp only [hx]))|(refine ua2 (by rfl) (fun ix h0 h1=> ?_);(have h2:ix.den<1:=h1);(have hx:ix.den.toNat=0:=by omega);(rcases hx with hx<;>simp only [hx]))|(refine ua2 (by rfl) (fun ix h0 h1=> ?_);(have h2:ix.den<5:=h1);(have hx:ix.den.toNat=0∨ix.den.toNat=1∨ix.den.toNat=2∨ix.den.toNat=3∨ix.den.toNat=4:=by omega);(rcases hx with hx|hx|hx|hx|hx<;>simp only [hx])))));done));try cbv)
  |(refine qP ?_ (k39) ?hfit;(case hfit=>((repeat' (first|exact qA|exact qB|refine qC ?_ rfl ?_|refine qD ?_ ?_|exact qE (by rfl)|exact qF (by rfl)|exact Fit.refl _|(exact qO (by rfl))|(first|(refine ua2 (by rfl) (fun ix h0 h1=> ?_);(have h2:ix.den<2:=h1);(have hx:ix.den.toNat=0∨ix.den.toNat=1:=by omega);(rcases hx with hx|hx<;>simp only [hx]))|(refine ua2 (by rfl) (fun ix h0 h1=> ?_);(have h2:ix.den<3:=h1);(have hx:ix.den.toNat=0∨ix.den.toNat=1∨ix.den.toNat=2:=by omega);(rcases hx with hx|hx|hx<;>simp only [hx]))|(refine ua2 (by rfl) (fun ix h0 h1=> ?_);(have h2:ix.den<4:=h1);(have hx:ix.den.toNat=0∨ix.den.toNat=1∨ix.den.toNat=2∨ix.den.toNat=3:=by omega);(rcases hx with hx|hx|hx|hx<;>simp only [hx]))|(refine ua2 (by rfl) (fun ix h0 h1=> ?_);(have h2:ix.den<1:=h1);(have hx:ix.den.toNat=0:=by omega);(rcases hx with hx<;>simp only [hx]))|(refine ua2 (by rfl) (fun ix h0 h1=> ?_);(have h2:ix.den<5:=h1);(have hx:ix.den.toNat=0∨ix.den.toNat=1∨ix.den.toNat=2∨ix.den.toNat=3∨ix.den.toNat=4:=by omega);(rcases hx with hx|hx|hx|hx|hx<;>simp only [hx])))));done));try cbv)
  |(refine qP ?_ (kmeanX) ?hfit;(case hfit=>((repeat' (first|exact qA|exact qB|refine qC ?_ rfl ?_|refine qD ?_ ?_|exact qE (by rfl)|exact qF (by rfl)|exact Fit.refl _|(exact qO (by rfl))|(first|(refine ua2 (by rfl) (fun ix h0 h1=> ?_);(have h2:ix.den<2:=h1);(have hx:ix.den.toNat=0∨ix.den.toNat=1:=by omega);(rcases hx with hx|hx<;>simp only [hx]))|(refine ua2 (by rfl) (fun ix h0 h1=> ?_);(have h2:ix.den<3:=h1);(have hx:ix.den.toNat=0∨ix.den.toNat=1∨ix.den.toNat=2:=by omega);(rcases hx with hx|hx|hx<;>simp only [hx]))|(refine ua2 (by rfl) (fun ix h0 h1=> ?_);(have h2:ix.den<4:=h1);(have hx:ix.den.toNat=0∨ix.den.toNat=1∨ix.den.toNat=2∨ix.den.toNat=3:=by omega);(rcases hx with hx|hx|hx|hx<;>simp only [hx]))|(refine ua2 (by rfl) (fun ix h0 h1=> ?_);(have h2:ix.den<1:=h1);(have hx:ix.den.toNat=0:=by omega);(rcases hx with hx<;>simp only [hx]))|(refine ua2 (by rfl) (fun ix h0 h1=> ?_);(have h2:ix.den<5:=h1);(have hx:ix.den.toNat=0∨ix.den.toNat=1∨ix.den.toNat=2∨ix.den.toNat=3∨ix.den.toNat=4:=by omega);(rcases hx with hx|hx|hx|hx|hx<;>simp only [hx])))));done));try cbv)
  |(refine qP ?_ (kfirstX) ?hfit;(case hfit=>((repeat' (first|exact qA|exact qB|refine qC ?_ rfl ?_|refine qD ?_ ?_|exact qE (by rfl)|exact qF (by rfl)|exact Fit.refl _|(exact qO (by rfl))|(first|(refine ua2 (by rfl) (fun ix h0 h1=> ?_);(have h2:ix.den<2:=h1);(have hx:ix.den.toNat=0∨ix.den.toNat=1:=by omega);(rcases hx with hx|hx<;>simp only [hx]))|(refine ua2 (by rfl) (fun ix h0 h1=> ?_);(have h2:ix.den<3:=h1);(have hx:ix.den.toNat=0∨ix.den.toNat=1∨ix.den.toNat=2:=by omega);(rcases hx with hx|hx|hx<;>simp only [hx]))|(refine ua2 (by rfl) (fun ix h0 h1=> ?_);(have h2:ix.den<4:=h1);(have hx:ix.den.toNat=0∨ix.den.toNat=1∨ix.den.toNat=2∨ix.den.toNat=3:=by omega);(rcases hx with hx|hx|hx|hx<;>simp only [hx]))|(refine ua2 (by rfl) (fun ix h0 h1=> ?_);(have h2:ix.den<1:=h1);(have hx:ix.den.toNat=0:=by omega);(rcases hx with hx<;>simp only [hx]))|(refine ua2 (by rfl) (fun ix h0 h1=> ?_);(have h2:ix.den<5:=h1);(have hx:ix.den.toNat=0∨ix.den.toNat=1∨ix.den.toNat=2∨ix.den.toNat=3∨ix.den.toNat=4:=by omega);(rcases hx with hx|hx|hx|hx|hx<;>simp only [hx])))));done));try cbv)
  |(refine qP ?_ (kleaveX) ?hfit;(case hfit=>((repeat' (first|exact qA|exact qB|refine qC ?_ rfl ?_|refine qD ?_ ?_|exact qE (by rfl)|exact qF (by rfl)|exact Fit.refl _|(exact qO (by rfl))|(first|(refine ua2 (by rfl) (fun ix h0 h1=> ?_);(have h2:ix.den<2:=h1);(have hx:ix.den.toNat=0∨ix.den.toNat=1:=by omega);(rcases hx with hx|hx<;>simp only [hx]))|(refine ua2 (by rfl) (fun ix h0 h1=> ?_);(have h2:ix.den<3:=h1);(have hx:ix.den.toNat=0∨ix.den.toNat=1∨ix.den.toNat=2:=by omega);(rcases hx with hx|hx|hx<;>simp only [hx]))|(refine ua2 (by rfl) (fun ix h0 h1=> ?_);(have h2:ix.den<4:=h1);(have hx:ix.den.toNat=0∨ix.den.toNat=1∨ix.den.toNat=2∨ix.den.toNat=3:=by omega);(rcases hx with hx|hx|hx|hx<;>simp only [hx]))|(refine ua2 (by rfl) (fun ix h0 h1=> ?_);(have h2:ix.den<1:=h1);(have hx:ix.den.toNat=0:=by omega);(rcases hx with hx<;>simp only [hx]))|(refine ua2 (by rfl) (fun ix h0 h1=> ?_);(have h2:ix.den<5:=h1);(have hx:ix.den.toNat=0∨ix.den.toNat=1∨ix.den.toNat=2∨ix.den.toNat=3∨ix.den.toNat=4:=by omega);(rcases hx with hx|hx|hx|hx|hx<;>simp only [hx])))));done));try cbv)
  |(refine qP ?_ (kbelieveX) ?hfit;(case hfit=>((repeat' (first|exact qA|exact qB|refine qC ?_ rfl ?_|refine qD ?_ ?_|exact qE (by rfl)|exact qF (by rfl)|exact Fit.refl _|(exact qO (by rfl))|(first|(refine ua2 (by rfl) (fun ix h0 h1=> ?_);(have h2:ix.den<2:=h1);(have hx:ix.den.toNat=0∨ix.den.toNat=1:=by omega);(rcases hx with hx|hx<;>simp only [hx]))|(refine ua2 (by rfl) (fun ix h0 h1=> ?_);(have h2:ix.den<3:=h1);(have hx:ix.den.toNat=0∨ix.den.toNat=1∨ix.den.toNat=2:=by omega);(rcases hx with hx|hx|hx<;>simp only [hx]))|(refine ua2 (by rfl) (fun ix h0 h1=> ?_);(have h2:ix.den<4:=h1);(have hx:ix.den.toNat=0∨ix.den.toNat=1∨ix.den.toNat=2∨ix.den.toNat=3:=by omega);(rcases hx with hx|hx|hx|hx<;>simp only [hx]))|(refine ua2 (by rfl) (fun ix h0 h1=> ?_);(have h2:ix.den<1:=h1);(have hx:ix.den.toNat=0:=by omega);(rcases hx with hx<;>simp only [hx]))|(refine ua2 (by rfl) (fun ix h0 h1=> ?_);(have h2:ix.den<5:=h1);(have hx:ix.den.toNat=0∨ix.den.toNat=1∨ix.den.toNat=2∨ix.den.toNat=3∨ix.den.toNat=4:=by omega);(rcases hx with hx|hx|hx|hx|hx<;>simp only [hx])))));done));try cbv)
  |(refine qP ?_ (kblameX) ?hfit;(case hfit=>((repeat' (first|exact qA|exact qB|refine qC ?_ rfl ?_|refine qD ?_ ?_|exact qE (by rfl)|exact qF (by rfl)|exact Fit.refl _|(exact qO (by rfl))|(first|(refine ua2 (by rfl) (fun ix h0 h1=> ?_);(have h2:ix.den<2:=h1);(have hx:ix.den.toNat=0∨ix.den.toNat=1:=by omega);(rcases hx with hx|hx<;>simp only [hx]))|(refine ua2 (by rfl) (fun ix h0 h1=> ?_);(have h2:ix.den<3:=h1);(have hx:ix.den.toNat=0∨ix.den.toNat=1∨ix.den.toNat=2:=by omega);(rcases hx with hx|hx|hx<;>simp only [hx]))|(refine ua2 (by rfl) (fun ix h0 h1=> ?_);(have h2:ix.den<4:=h1);(have hx:ix.den.toNat=0∨ix.den.toNat=1∨ix.den.toNat=2∨ix.den.toNat=3:=by omega);(rcases hx with hx|hx|hx|hx<;>simp only [hx]))|(refine ua2 (by rfl) (fun ix h0 h1=> ?_);(have h2:ix.den<1:=h1);(have hx:ix.den.toNat=0:=by omega);(rcases hx with hx<;>simp only [hx]))|(refine ua2 (by rfl) (fun ix h0 h1=> ?_);(have h2:ix.den<5:=h1);(have hx:ix.den.toNat=0∨ix.den.toNat=1∨ix.den.toNat=2∨ix.den.toNat=3∨ix.den.toNat=4:=by omega);(rcases hx with hx|hx|hx|hx|hx<;>simp only [hx])))));done));try cbv)
  |(refine qP ?_ (kboundsX) ?hfit;(case hfit=>((repeat' (first|exact qA|exact qB|refine qC ?_ rfl ?_|refine qD ?_ ?_|exact qE (by rfl)|exact qF (by rfl)|exact Fit.refl _|(exact qO (by rfl))|(first|(refine ua2 (by rfl) (fun ix h0 h1=> ?_);(have h2:ix.den<2:=h1);(have hx:ix.den.toNat=0∨ix.den.toNat=1:=by omega);(rcases hx with hx|hx<;>simp only [hx]))|(refine ua2 (by rfl) (fun ix h0 h1=> ?_);(have h2:ix.den<3:=h1);(have hx:ix.den.toNat=0∨ix.den.toNat=1∨ix.den.toNat=2:=by omega);(rcases hx with hx|hx|hx<;>simp only [hx]))|(refine ua2 (by rfl) (fun ix h0 h1=> ?_);(have h2:ix.den<4:=h1);(have hx:ix.den.toNat=0∨ix.den.toNat=1∨ix.den.toNat=2∨ix.den.toNat=3:=by omega);(rcases hx with hx|hx|hx|hx<;>simp only [hx]))|(refine ua2 (by rfl) (fun ix h0 h1=> ?_);(have h2:ix.den<1:=h1);(have hx:ix.den.toNat=0:=by omega);(rcases hx with hx<;>simp only [hx]))|(refine ua2 (by rfl) (fun ix h0 h1=> ?_);(have h2:ix.den<5:=h1);(have hx:ix.den.toNat=0∨ix.den.toNat=1∨ix.den.toNat=2∨ix.den.toNat=3∨ix.den.toNat=4:=by omega);(rcases hx with hx|hx|hx|hx|hx<;>simp only [hx])))));done));try cbv)
  |(refine qP ?_ (kchargeX) ?hfit;(case hfit=>((repeat' (first|exact qA|exact qB|refine qC ?_ rfl ?_|refine qD ?_ ?_|exact qE (by rfl)|exact qF (by rfl)|exact Fit.refl _|(exact qO (by rfl))|(first|(refine ua2 (by rfl) (fun ix h0 h1=> ?_);(have h2:ix.den<2:=h1);(have hx:ix.den.toNat=0∨ix.den.toNat=1:=by omega);(rcases hx with hx|hx<;>simp only [hx]))|(refine ua2 (by rfl) (fun ix h0 h1=> ?_);(have h2:ix.den<3:=h1);(have hx:ix.den.toNat=0∨ix.den.toNat=1∨ix.den.toNat=2:=by omega);(rcases hx with hx|hx|hx<;>simp only [hx]))|(refine ua2 (by rfl) (fun ix h0 h1=> ?_);(have h2:ix.den<4:=h1);(have hx:ix.den.toNat=0∨ix.den.toNat=1∨ix.den.toNat=2∨ix.den.toNat=3:=by omega);(rcases hx with hx|hx|hx|hx<;>simp only [hx]))|(refine ua2 (by rfl) (fun ix h0 h1=> ?_);(have h2:ix.den<1:=h1);(have hx:ix.den.toNat=0:=by omega);(rcases hx with hx<;>simp only [hx]))|(refine ua2 (by rfl) (fun ix h0 h1=> ?_);(have h2:ix.den<5:=h1);(have hx:ix.den.toNat=0∨ix.den.toNat=1∨ix.den.toNat=2∨ix.den.toNat=3∨ix.den.toNat=4:=by omega);(rcases hx with hx|hx|hx|hx|hx<;>simp only [hx])))));done));try cbv)
  |(refine qP ?_ (kcosts3X) ?hfit;(case hfit=>((repeat' (first|exact qA|exact qB|refine qC ?_ rfl ?_|refine qD ?_ ?_|exact qE (by rfl)|exact qF (by rfl)|exact Fit.refl _|(exact qO (by rfl))|(first|(refine ua2 (by rfl) (fun ix h0 h1=> ?_);(have h2:ix.den<2:=h1);(have hx:ix.den.toNat=0∨ix.den.toNat=1:=by omega);(rcases hx with hx|hx<;>simp only [hx]))|(refine ua2 (by rfl) (fun ix h0 h1=> ?_);(have h2:ix.den<3:=h1);(have hx:ix.den.toNat=0∨ix.den.toNat=1∨ix.den.toNat=2:=by omega);(rcases hx with hx|hx|hx<;>simp only [hx]))|(refine ua2 (by rfl) (fun ix h0 h1=> ?_);(have h2:ix.den<4:=h1);(have hx:ix.den.toNat=0∨ix.den.toNat=1∨ix.den.toNat=2∨ix.den.toNat=3:=by omega);(rcases hx with hx|hx|hx|hx<;>simp only [hx]))|(refine ua2 (by rfl) (fun ix h0 h1=> ?_);(have h2:ix.den<1:=h1);(have hx:ix.den.toNat=0:=by omega);(rcases hx with hx<;>simp only [hx]))|(refine ua2 (by rfl) (fun ix h0 h1=> ?_);(have h2:ix.den<5:=h1);(have hx:ix.den.toNat=0∨ix.den.toNat=1∨ix.den.toNat=2∨ix.den.toNat=3∨ix.den.toNat=4:=by omega);(rcases hx with hx|hx|hx|hx|hx<;>simp only [hx])))));done));try cbv)
  |(refine qP ?_ (kcosts2X) ?hfit;(case hfit=>((repeat' (first|exact qA|exact qB|refine qC ?_ rfl ?_|refine qD ?_ ?_|exact qE (by rfl)|exact qF (by rfl)|exact Fit.refl _|(exact qO (by rfl))|(first|(refine ua2 (by rfl) (fun ix h0 h1=> ?_);(have h2:ix.den<2:=h1);(have hx:ix.den.toNat=0∨ix.den.toNat=1:=by omega);(rcases hx with hx|hx<;>simp only [hx]))|(refine ua2 (by rfl) (fun ix h0 h1=> ?_);(have h2:ix.den<3:=h1);(have hx:ix.den.toNat=0∨ix.den.toNat=1∨ix.den.toNat=2:=by omega);(rcases hx with hx|hx|hx<;>simp only [hx]))|(refine ua2 (by rfl) (fun ix h0 h1=> ?_);(have h2:ix.den<4:=h1);(have hx:ix.den.toNat=0∨ix.den.toNat=1∨ix.den.toNat=2∨ix.den.toNat=3:=by omega);(rcases hx with hx|hx|hx|hx<;>simp only [hx]))|(refine ua2 (by rfl) (fun ix h0 h1=> ?_);(have h2:ix.den<1:=h1);(have hx:ix.den.toNat=0:=by omega);(rcases hx with hx<;>simp only [hx]))|(refine ua2 (by rfl) (fun ix h0 h1=> ?_);(have h2:ix.den<5:=h1);(have hx:ix.den.toNat=0∨ix.den.toNat=1∨ix.den.toNat=2∨ix.den.toNat=3∨ix.den.toNat=4:=by omega);(rcases hx with hx|hx|hx|hx|hx<;>simp only [hx])))));done));try cbv)
  |(refine qP ?_ (kintsXb) ?hfit;(case hfit=>((repeat' (first|exact qA|exact qB|refine qC ?_ rfl ?_|refine qD ?_ ?_|exact qE (by rfl)|exact qF (by rfl)|exact Fit.refl _|(exact qO (by rfl))|(first|(refine ua2 (by rfl) (fun ix h0 h1=> ?_);(have h2:ix.den<2:=h1);(have hx:ix.den.toNat=0∨ix.den.toNat=1:=by omega);(rcases hx with hx|hx<;>simp only [hx]))|(refine ua2 (by rfl) (fun ix h0 h1=> ?_);(have h2:ix.den<3:=h1);(have hx:ix.den.toNat=0∨ix.den.toNat=1∨ix.den.toNat=2:=by omega);(rcases hx with hx|hx|hx<;>simp only [hx]))|(refine ua2 (by rfl) (fun ix h0 h1=> ?_);(have h2:ix.den<4:=h1);(have hx:ix.den.toNat=0∨ix.den.toNat=1∨ix.den.toNat=2∨ix.den.toNat=3:=by omega);(rcases hx with hx|hx|hx|hx<;>simp only [hx]))|(refine ua2 (by rfl) (fun ix h0 h1=> ?_);(have h2:ix.den<1:=h1);(have hx:ix.den.toNat=0:=by omega);(rcases hx with hx<;>simp only [hx]))|(refine ua2 (by rfl) (fun ix h0 h1=> ?_);(have h2:ix.den<5:=h1);(have hx:ix.den.toNat=0∨ix.den.toNat=1∨ix.den.toNat=2∨ix.den.toNat=3∨ix.den.toNat=4:=by omega);(rcases hx with hx|hx|hx|hx|hx<;>simp only [hx])))));done));try cbv)
  |(refine qP ?_ (kintsXc) ?hfit;(case hfit=>((repeat' (first|exact qA|exact qB|refine qC ?_ rfl ?_|refine qD ?_ ?_|exact qE (by rfl)|exact qF (by rfl)|exact Fit.refl _|(exact qO (by rfl))|(first|(refine ua2 (by rfl) (fun ix h0 h1=> ?_);(have h2:ix.den<2:=h1);(have hx:ix.den.toNat=0∨ix.den.toNat=1:=by omega);(rcases hx with hx|hx<;>simp only [hx]))|(refine ua2 (by rfl) (fun ix h0 h1=> ?_);(have h2:ix.den<3:=h1);(have hx:ix.den.toNat=0∨ix.den.toNat=1∨ix.den.toNat=2:=by omega);(rcases hx with hx|hx|hx<;>simp only [hx]))|(refine ua2 (by rfl) (fun ix h0 h1=> ?_);(have h2:ix.den<4:=h1);(have hx:ix.den.toNat=0∨ix.den.toNat=1∨ix.den.toNat=2∨ix.den.toNat=3:=by omega);(rcases hx with hx|hx|hx|hx<;>simp only [hx]))|(refine ua2 (by rfl) (fun ix h0 h1=> ?_);(have h2:ix.den<1:=h1);(have hx:ix.den.toNat=0:=by omega);(rcases hx with hx<;>simp only [hx]))|(refine ua2 (by rfl) (fun ix h0 h1=> ?_);(have h2:ix.den<5:=h1);(have hx:ix.den.toNat=0∨ix.den.toNat=1∨ix.den.toNat=2∨ix.den.toNat=3∨ix.den.toNat=4:=by omega);(rcases hx with hx|hx|hx|hx|hx<;>simp only [hx])))));done));try cbv)
  | (refine⟨none,?_⟩
     refine qR ?_ (kintsXa) rfl ?hfit
     case hfit=>(cbv;(repeat' (first|exact qA|exact qB|refine qC ?_ rfl ?_|refine qD ?_ ?_|exact qE (by rfl)|exact qF (by rfl)|exact Fit.refl _|(exact qO (by rfl))|(first|(refine ua2 (by rfl) (fun ix h0 h1=> ?_);(have h2:ix.den<2:=h1);(have hx:ix.den.toNat=0∨ix.den.toNat=1:=by omega);(rcases hx with hx|hx<;>simp only [hx]))|(refine ua2 (by rfl) (fun ix h0 h1=> ?_);(have h2:ix.den<3:=h1);(have hx:ix.den.toNat=0∨ix.den.toNat=1∨ix.den.toNat=2:=by omega);(rcases hx with hx|hx|hx<;>simp only [hx]))|(refine ua2 (by rfl) (fun ix h0 h1=> ?_);(have h2:ix.den<4:=h1);(have hx:ix.den.toNat=0∨ix.den.toNat=1∨ix.den.toNat=2∨ix.den.toNat=3:=by omega);(rcases hx with hx|hx|hx|hx<;>simp only [hx]))|(refine ua2 (by rfl) (fun ix h0 h1=> ?_);(have h2:ix.den<1:=h1);(have hx:ix.den.toNat=0:=by omega);(rcases hx with hx<;>simp only [hx]))|(refine ua2 (by rfl) (fun ix h0 h1=> ?_);(have h2:ix.den<5:=h1);(have hx:ix.den.toNat=0∨ix.den.toNat=1∨ix.den.toNat=2∨ix.den.toNat=3∨ix.den.toNat=4:=by omega);(rcases hx with hx|hx|hx|hx|hx<;>simp only [hx])))));done)
     try cbv)
  |fail)
 all_goals first|trivial|(subst hR;(repeat' (first|exact qA|exact qB|refine qC ?_ rfl ?_|refine qD ?_ ?_|exact qE (by rfl)|exact qF (by rfl)|exact Fit.refl _|exact qG _|(refine qE ?_;(try simp only [qV]at *);simp only [zQ,zA,zB,zC,zD,zE,zF,zG,zH,zI,zJ,zK,zL,zM,zN,zO,zP,zR,zS]at *;omega)));done)|skip
end Go.Proofs.YtkdggbfknlcdaaaGreat
namespace Go.Proofs.YtkdggbfknlcdaaaGreat
open Go Go.Eng Go.Proofs
set_option maxRecDepth 10000
theorem uuY (tw tm:List Int)(tv:List (List Int))(hT:ThinT tw tm tv):ua0 Tryz.prog 43 [(.agg [(iS tw),(iS tm),(.sl 1 (.sym fun _=>zi (tv).length) (fun ix=>[(.sl 1 (.sym fun _=>zi ((tv).getD ix.den.toNat []).length) (fun jx=>[(iv fun _=>((tv).getD ix.den.toNat []).getD jx.den.toNat 0)]))]))])] [] (fun r _=>r=(.agg [(iS tw),(iS tm),(.sl 1 (.sym fun _=>zi (tv).length) (fun ix=>[(.sl 1 (.sym fun _=>zi ((tv).getD ix.den.toNat []).length) (fun jx=>[(iv fun _=>((tv).getD ix.den.toNat []).getD jx.den.toNat 0)]))]))])):=by
 have c87w:=upK tw (by have:=hT.w;omega)
 have c87m:=upK tm (by have:=hT.m;omega)
 have c87r:=fun (i:Nat) (hi:i<tv.length)=>upK (tv.getD i []) (by have:=hT.r i hi;omega)
 refine ua0.is fun R hR=>qW (sc:=uBD) uan mix Tryz.func43 rfl Tryz.call43 (by kernel_rfl) (by kernel_rfl) ?_
 generalize Tryz.prog=P at c87w c87m c87r⊢
 cbv
 repeat' (first|(refine qP ?_ (c87w) ?hfit;(case hfit=>((repeat' (first|exact qB|refine qD ?_ ?_|exact qE (by rfl)|exact qF (by rfl)|exact Fit.refl _|exact qA|refine qC ?_ rfl ?_));done));try cbv)|(refine qP ?_ (c87m) ?hfit;(case hfit=>((repeat' (first|exact qB|refine qD ?_ ?_|exact qE (by rfl)|exact qF (by rfl)|exact Fit.refl _|exact qA|refine qC ?_ rfl ?_));done));try cbv)|fail)
 all_goals first|skip
 refine⟨none,[⟨.cell 9 2,22,1⟩],{i:Nat // i≤tv.length},fun x=>⟨[(1,.own 0 0),(2,.own 1 0),(3,.own 9 0),(4,(iv fun _=>zi x.1))],[(0,.cells [(iS tw),(iS tm),(.sl 1 (.sym fun _=>zi (tv).length) (fun ix=>[(.sl 1 (.sym fun _=>zi ((tv).getD ix.den.toNat []).length) (fun jx=>[(iv fun _=>((tv).getD ix.den.toNat []).getD jx.den.toNat 0)]))]))] 25),(1,.cells [.val (.slice none 0 0),.val (.slice none 0 0),.val (.slice none 0 0)] 35),(9,.cells [(iS tw),(iS tm),.row 12] 35),(12,.row 22 1 (.sym fun _=>zi x.1) (fun ix=>[(.sl 1 (.sym fun _=>zi (tv.getD ix.den.toNat []).length) (fun jx=>[(iv fun _=>(tv.getD ix.den.toNat []).getD jx.den.toNat 0)]))]))],60⟩,fun x=>tv.length-x.1,?_,?_⟩
 ·refine⟨⟨0,by omega⟩,?_⟩
  cbv
  repeat' (first|with_reducible refine ua4 ?_ ?_|with_reducible refine And.intro ?_ ?_)
  all_goals first|trivial|exact qM (qE (by rfl))|exact qM (Fit.refl _)|exact qL (qK _)|(refine qL (ua9 ?_ ?_);(first|rfl|((try simp only [qV]at *);(try simp only [zQ,zA,zB,zC,zD,zE,zF,zG,zH,zI,zJ,zK,zL,zM,zN,zO,zP,zR,zS]at *);omega));intro ix h0 h1;first|exact Fit.refl _|(exfalso;(try simp only [qV]at *);(try simp only [zQ,zA,zB,zC,zD,zE,zF,zG,zH,zI,zJ,zK,zL,zM,zN,zO,zP,zR,zS]at *);omega))|skip
 ·rintro ⟨i,hi⟩
  cbv
  have tv8:=hT.v
  repeat' (first
   |with_reducible refine ua4 ?_ ?_
   |with_reducible refine And.intro ?_ ?_
   |(with_reducible intro hcd;(try simp only [zA,zB,zC,zD,zE,zF,zG,zH,zI,zJ,zK,zL,zM,zN,zO,zP]at hcd);try cbv)
   |(refine qP ?_ (c87r i (show uaq _ from ?_)) ?hfit;(case hfit=>((repeat' (first|exact qB|refine qD ?_ ?_|exact qE (by rfl)|exact qF (by rfl)|exact Fit.refl _|exact qA|refine qC ?_ rfl ?_));done));try cbv)
   | (refine⟨fun ix=>[(.sl 1 (.sym fun _=>zi (tv.getD ix.den.toNat []).length) (fun jx=>[(iv fun _=>(tv.getD ix.den.toNat []).getD jx.den.toNat 0)]))],?_⟩
      cbv
      refine ua4 (ubj (by intro ix jx h0 h1 h2;simp only [h2];exact Fit.refl _) (by intro ix jx h0 h1 h2;(have h3:jx.den.toNat=i:=by((try simp only [qV]at *);(try simp only [zQ,zA,zB,zC,zD,zE,zF,zG,zH,zI,zJ,zK,zL,zM,zN,zO,zP,zR,zS]at *);omega));simp only [h3];(first|exact Fit.refl _|(repeat' (first|exact qA|exact Fit.refl _|exact qE (by rfl)|refine qC ?_ rfl ?_)))) (by(try simp only [qV]at *);(try simp only [zQ,zA,zB,zC,zD,zE,zF,zG,zH,zI,zJ,zK,zL,zM,zN,zO,zP,zR,zS]at *);omega)) (Or.inl ?_)
      try cbv)
   |fail)
  all_goals first|((try simp only [qV]at *);(try simp only [zQ,zA,zB,zC,zD,zE,zF,zG,zH,zI,zJ,zK,zL,zM,zN,zO,zP,zR,zS]at *);first|(refine qN ?_;omega)|(simp only [uaq];omega))|(subst hR;(have hie:i=tv.length:=by((try simp only [qV]at *);(try simp only [zQ,zA,zB,zC,zD,zE,zF,zG,zH,zI,zJ,zK,zL,zM,zN,zO,zP,zR,zS]at *);omega));subst hie;(repeat' (first|exact qA|exact Fit.refl _|exact qE (by rfl)|refine qC ?_ rfl ?_));done;done)|((try simp only [zQ,zA,zB,zC,zD,zE,zF,zG,zH,zI,zJ,zK,zL,zM,zN,zO,zP,zR,zS]at *);refine⟨⟨i+1,by omega⟩,by simp only [];omega,?_⟩;cbv;(repeat' (first|with_reducible refine ua4 ?_ ?_|with_reducible refine And.intro ?_ ?_));(all_goals first|trivial|exact qM (qE (by rfl))|exact qM (qF (by rfl))|exact qM (Fit.refl _)|exact qL (qK _)|(refine qM (qE ?_);(try simp only [qV]at *);simp only [zQ,zA,zB,zC,zD,zE,zF,zG,zH,zI,zJ,zK,zL,zM,zN,zO,zP,zR,zS]at *;omega)|(refine qL (ua9 ?_ ?_);(first|rfl|((try simp only [qV]at *);(try simp only [zQ,zA,zB,zC,zD,zE,zF,zG,zH,zI,zJ,zK,zL,zM,zN,zO,zP,zR,zS]at *);omega));intro ix h0 h1;first|exact Fit.refl _|(exfalso;(try simp only [qV]at *);(try simp only [zQ,zA,zB,zC,zD,zE,zF,zG,zH,zI,zJ,zK,zL,zM,zN,zO,zP,zR,zS]at *);omega))|skip))|skip
theorem uqe {l:List Int} {most:Int}(h:ucq l most=true) {i j:Nat}(hij:i≤j)(hj:j<l.length):l.getD i 0≤l.getD j 0:=by
 by_cases e:i=j
 ·subst e;exact Int.le_refl _
 ·exact Int.le_of_lt (ue3 h (by omega) hj)
theorem uqh {n q:Int}(hq:0<q)(hn:0≤n):(2*n+q)/(2*q)=if q≤2*(n-n/q*q)then n/q+1 else n/q:=by
 have h1:=Int.emod_add_mul_ediv n q
 have h2:=Int.emod_nonneg n (show q≠0 by omega)
 have h3:=Int.emod_lt_of_pos n hq
 have e:n-n/q*q=n%q:=by rw [Int.mul_comm];omega
 rw [e]
 have key:∀k r:Int,n=q*k+r→0≤r→r<q→(2*n+q)/(2*q)=if q≤2*r then k+1 else k:=fun k r hk h0 hr=>by
  split
  ·rename_i hle
   have:2*n+q=(2*r-q)+(k+1)*(2*q):=by
    have h5:(k+1)*(2*q)=2*(q*k)+2*q:=by rw [Int.add_mul,Int.one_mul,Int.mul_left_comm,Int.mul_comm k q]
    omega
   rw [this,Int.add_mul_ediv_right _ _ (by omega),Int.ediv_eq_zero_of_lt (by omega) (by omega)]
   omega
  ·rename_i hle
   have:2*n+q=(2*r+q)+k*(2*q):=by
    have h5:k*(2*q)=2*(q*k):=by rw [Int.mul_left_comm,Int.mul_comm k q]
    omega
   rw [this,Int.add_mul_ediv_right _ _ (by omega),Int.ediv_eq_zero_of_lt (by omega) (by omega)]
   omega
 exact key (n/q) (n%q) (by omega) h2 h3
theorem ugJ {l:List Int} {most n:Int}(hr:ucq l most=true) {i j:Nat}(hi:InCell l n i)(hj:InCell l n j):i=j:=by
 have key:∀{i j:Nat},InCell l n i→InCell l n j→¬i<j:=fun {i j} hi hj hlt=>by
  have h1:=hi.hi
  have h2:=hj.lt
  have h3:=hj.lo
  have:=uqe hr (i:=i+1) (j:=j) (by omega) (by omega)
  rcases h1 with h1|h1<;>omega
 have a:=key hi hj
 have b:=key hj hi
 omega
set_option maxHeartbeats 1000000 in
theorem uAJ (tw tm:List Int)(tv:List (List Int))(w m:Int)(h:TOk tw tm tv∧Pt tw tm w m):ua0 Tryz.prog 69 [(.agg [(iS tw),(iS tm),(.sl 1 (.sym fun _=>zi (tv).length) (fun ix=>[(.sl 1 (.sym fun _=>zi ((tv).getD ix.den.toNat []).length) (fun jx=>[(iv fun _=>((tv).getD ix.den.toNat []).getD jx.den.toNat 0)]))]))]),(iv fun _=>w),(iv fun _=>m)] [] (fun r _=>r=(iv fun _=>atS tw tm tv w m)):=by
 obtain⟨h,hp⟩:=h
 have d1:=h.w5;have d2:=h.m5;have d3:=h.w2;have d4:=h.m2
 have e:=h.len
 have q0:=hp.w0;have q1:=hp.w1;have q2:=hp.m0;have q3:=hp.m1
 refine ua0.is fun R hR=>qW (sc:=uAQ) uan mix Tryz.func69 rfl Tryz.call69 (by kernel_rfl) (by kernel_rfl) ?_
 generalize Tryz.prog=P
 cbv
 repeat' (first|with_reducible refine ua4 ?_ ?_|(with_reducible intro hcd;(try simp only [uaa,zA,zB,zC,zD,zE,zF,zG,zH,zI,zJ,zK,zL,zM,zN,zO,zP]at hcd);try cbv))
 all_goals first|((try simp only [uaa,zA,zB,zC,zD,zE,zF,zG,zH,zI,zJ,zK,zL,zM,zN,zO,zP]at⊢);first|(refine qN ?_;omega)|(simp only [uaq];omega))|skip
 refine⟨none,[],{i:Nat // i+2≤tw.length∧(i+2=tw.length∨w<tw.getD (i+1) 0)},fun x=>⟨[(3,.own 0 0),(1,(iv fun _=>w)),(2,(iv fun _=>m)),(7,(iv fun _=>zi x.1)),(8,(iv fun _=>zi (tm.length-2)))],[(0,.cells [(iS tw),(iS tm),(.sl 1 (.sym fun _=>zi (tv).length) (fun ix=>[(.sl 1 (.sym fun _=>zi ((tv).getD ix.den.toNat []).length) (fun jx=>[(iv fun _=>((tv).getD ix.den.toNat []).getD jx.den.toNat 0)]))]))] 25)],12⟩,fun x=>x.1,?_,?_⟩
 ·obtain⟨i0,ei0⟩:∃i0,i0=tw.length-2:=⟨_,rfl⟩
  refine⟨⟨i0,by omega,by omega⟩,?_⟩
  cbv
  repeat' (first|with_reducible refine ua4 ?_ ?_|with_reducible refine And.intro ?_ ?_)
  all_goals first|trivial|exact qM (qE (by rfl))|exact qM (Fit.refl _)|exact qL (qK _)|(refine qM (qE ?_);simp only [uaa,zA,zB,zC,zD,zE,zF,zG,zH,zI,zJ,zK,zL,zM,zN,zO,zP];omega)|skip
 ·rintro ⟨i, hi1,hi2⟩
  cbv
  have ei:(i:Int).toNat=i:=by omega
  repeat' (first|with_reducible refine ua4 ?_ ?_|with_reducible refine And.intro ?_ ?_|(with_reducible intro hcd;(try simp only [uaa,zA,zB,zC,zD,zE,zF,zG,zH,zI,zJ,zK,zL,zM,zN,zO,zP,ei]at hcd);try cbv))
  all_goals first|((try simp only [uaa,zA,zB,zC,zD,zE,zF,zG,zH,zI,zJ,zK,zL,zM,zN,zO,zP,ei]at⊢);first|(refine qN ?_;omega)|(simp only [uaq];omega))|(have ip:w<tw.getD i 0→0<i:=(fun q=>Nat.pos_of_ne_zero fun q2=>by rw [q2]at q;omega);obtain⟨i1,ei1⟩:∃i1,i1=i-1:=⟨_,rfl⟩;refine⟨⟨i1,by have:=ip (by omega);refine⟨by omega,.inr ?_⟩;rw [show i1+1=i by omega];assumption⟩,by have:=ip (by omega);simp only [];omega,?_⟩;cbv;(repeat' (first|with_reducible refine ua4 ?_ ?_|with_reducible refine And.intro ?_ ?_));(all_goals first|trivial|exact qM (qE (by rfl))|exact qM (qF (by rfl))|exact qM (Fit.refl _)|exact qL (qK _)|(refine qM (qE ?_);simp only [uaa,zA,zB,zC,zD,zE,zF,zG,zH,zI,zJ,zK,zL,zM,zN,zO,zP];omega)|(refine qM (qE ?_);simp only [uaa,zA,zB,zC,zD,zE,zF,zG,zH,zI,zJ,zK,zL,zM,zN,zO,zP];have:=ip (by omega);omega)|skip))|skip
  have hi0:tw.getD i 0≤w:=by omega
  refine⟨none,[],{k:Nat // k+2≤tm.length∧(k+2=tm.length∨m<tm.getD (k+1) 0)},fun x=>⟨[(3,.own 0 0),(1,(iv fun _=>w)),(2,(iv fun _=>m)),(7,(iv fun _=>zi i)),(8,(iv fun _=>zi x.1))],[(0,.cells [(iS tw),(iS tm),(.sl 1 (.sym fun _=>zi (tv).length) (fun ix=>[(.sl 1 (.sym fun _=>zi ((tv).getD ix.den.toNat []).length) (fun jx=>[(iv fun _=>((tv).getD ix.den.toNat []).getD jx.den.toNat 0)]))]))] 25)],20⟩,fun x=>x.1,?_,?_⟩
  ·obtain⟨k0,ek0⟩:∃k0,k0=tm.length-2:=⟨_,rfl⟩
   refine⟨⟨k0,by omega,by omega⟩,?_⟩
   cbv
   repeat' (first|with_reducible refine ua4 ?_ ?_|with_reducible refine And.intro ?_ ?_)
   all_goals first|trivial|exact qM (qE (by rfl))|exact qM (Fit.refl _)|exact qL (qK _)|(refine qM (qE ?_);simp only [uaa,zA,zB,zC,zD,zE,zF,zG,zH,zI,zJ,zK,zL,zM,zN,zO,zP];omega)|skip
  ·rintro ⟨k,hk1,hk2⟩
   cbv
   have ek:(k:Int).toNat=k:=by omega
   by_cases hx:m<tm.getD k 0
   ·skip
    repeat' (first|with_reducible refine ua4 ?_ ?_|with_reducible refine And.intro ?_ ?_|(with_reducible refine qS ?_ ?_ ?_;try cbv)|(with_reducible intro hcd;(try simp only [uaa,zA,zB,zC,zD,zE,zF,zG,zH,zI,zJ,zK,zL,zM,zN,zO,zP,ek]at hcd);try cbv))
    all_goals first|trivial|((try simp only [uaa,zA,zB,zC,zD,zE,zF,zG,zH,zI,zJ,zK,zL,zM,zN,zO,zP,ek]at⊢);first|(refine qN ?_;omega)|(simp only [uaq];omega))|(have kp:m<tm.getD k 0→0<k:=(fun q=>Nat.pos_of_ne_zero fun q2=>by rw [q2]at q;omega);obtain⟨k1,ek1⟩:∃k1,k1=k-1:=⟨_,rfl⟩;refine⟨⟨k1,by have:=kp (by omega);refine⟨by omega,.inr ?_⟩;rw [show k1+1=k by omega];assumption⟩,by have:=kp (by omega);simp only [];omega,?_⟩;cbv;(repeat' (first|with_reducible refine ua4 ?_ ?_|with_reducible refine And.intro ?_ ?_));(all_goals first|trivial|exact qM (qE (by rfl))|exact qM (qF (by rfl))|exact qM (Fit.refl _)|exact qL (qK _)|(refine qM (qE ?_);simp only [uaa,zA,zB,zC,zD,zE,zF,zG,zH,zI,zJ,zK,zL,zM,zN,zO,zP];omega)|(refine qM (qE ?_);simp only [uaa,zA,zB,zC,zD,zE,zF,zG,zH,zI,zJ,zK,zL,zM,zN,zO,zP];have:=kp (by omega);omega)|skip))|skip
   ·skip
    have ei1:((i:Int)+1).toNat=i+1:=by omega
    have ek1:((k:Int)+1).toNat=k+1:=by omega
    have hci:InCell tw w i:=⟨hi1,hi0,hi2⟩
    have hck:InCell tm m k:=⟨hk1,by omega,hk2⟩
    have hii:=ugJ h.rw hci (uc6 d3 q0)
    have hkk:=ugJ h.rm hck (uc6 d4 q2)
    have a1:=uak h.rw i (by omega)
    have a2:=uak h.rw (i+1) (by omega)
    have a3:=uak h.rm k (by omega)
    have a4:=uak h.rm (k+1) (by omega)
    simp only [ubl,Nat.add_sub_cancel]at a1 a2 a3 a4
    have r1:=h.row i (by omega)
    have r2:=h.row (i+1) (by omega)
    have v1:=h.val i (by omega) k (by omega)
    have v2:=h.val (i+1) (by omega) k (by omega)
    have v3:=h.val i (by omega) (k+1) (by omega)
    have v4:=h.val (i+1) (by omega) (k+1) (by omega)
    have b1:=hci.le_hi q1
    have b2:=hck.le_hi q3
    have c1:=hci.lo
    have c2:=hck.lo
    have hat:atS tw tm tv w m=atI tw tm tv w m i k:=by rw [atS,←hii,←hkk]
    obtain⟨l1,hl1⟩:∃l1,(tv.getD i []).length=l1:=⟨_,rfl⟩
    obtain⟨l2,hl2⟩:∃l2,(tv.getD (i+1) []).length=l2:=⟨_,rfl⟩
    obtain⟨a,ha⟩:∃a,tw.getD i 0=a:=⟨_,rfl⟩
    obtain⟨b,hb⟩:∃b,tw.getD (i+1) 0=b:=⟨_,rfl⟩
    obtain⟨c,hc⟩:∃c,tm.getD k 0=c:=⟨_,rfl⟩
    obtain⟨d,hd⟩:∃d,tm.getD (k+1) 0=d:=⟨_,rfl⟩
    obtain⟨v00,h00⟩:∃v,(tv.getD i []).getD k 0=v:=⟨_,rfl⟩
    obtain⟨v10,h10⟩:∃v,(tv.getD (i+1) []).getD k 0=v:=⟨_,rfl⟩
    obtain⟨v01,h01⟩:∃v,(tv.getD i []).getD (k+1) 0=v:=⟨_,rfl⟩
    obtain⟨v11,h11⟩:∃v,(tv.getD (i+1) []).getD (k+1) 0=v:=⟨_,rfl⟩
    rw [atI,ha,hb,hc,hd,h00,h10,h01,h11]at hat
    rw [hl1]at r1
    rw [hl2]at r2
    rw [ha]at a1 a2 c1
    rw [hb]at a2 b1
    rw [hc]at a3 a4 c2
    rw [hd]at a4 b2
    rw [h00]at v1
    rw [h10]at v2
    rw [h01]at v3
    rw [h11]at v4
    have s1:=ubX (x:=v00) (y:=b-w) 2000 40 v1 (by omega)
    have s2:=ubX (x:=v10) (y:=w-a) 2000 40 v2 (by omega)
    have s3:=ubX (x:=v01) (y:=b-w) 2000 40 v3 (by omega)
    have s4:=ubX (x:=v11) (y:=w-a) 2000 40 v4 (by omega)
    have t1:=ubX (x:=v00*(b-w)) (y:=d-m) 80000 60 s1 (by omega)
    have t2:=ubX (x:=v10*(w-a)) (y:=d-m) 80000 60 s2 (by omega)
    have t3:=ubX (x:=v01*(b-w)) (y:=m-c) 80000 60 s3 (by omega)
    have t4:=ubX (x:=v11*(w-a)) (y:=m-c) 80000 60 s4 (by omega)
    have u1:=ubX (x:=b-w+(w-a)) (y:=d-m+(m-c)) 40 60 (by omega) (by omega)
    have u2:1≤(b-w+(w-a))*(d-m+(m-c)):=Int.mul_pos (by omega) (by omega)
    obtain⟨q,hq⟩:∃q,(b-w+(w-a))*(d-m+(m-c))=q:=⟨_,rfl⟩
    obtain⟨n,hn⟩:∃n,v00*(b-w)*(d-m)+v10*(w-a)*(d-m)+v01*(b-w)*(m-c)+v11*(w-a)*(m-c)=n:=⟨_,rfl⟩
    rw [hq]at u1 u2
    have hn0:0≤n∧n≤20000000:=by omega
    have ht:n.tdiv q=n/q:=Int.tdiv_eq_ediv_of_nonneg hn0.1
    have hd0:0≤n/q:=Int.ediv_nonneg hn0.1 (by omega)
    have hd1:n/q*q≤n:=Int.ediv_mul_le n (by omega)
    have hd2:n/q≤n:=Int.ediv_le_self q hn0.1
    have hd3:0≤n/q*q:=Int.mul_nonneg hd0 (by omega)
    have hat2:atS tw tm tv w m=if q≤2*(n-n/q*q)then n/q+1 else n/q:=by
     rw [hat,uqp,utd,hn,←uqh (by omega) hn0.1]
     have e1:(b-a)*(d-c)=q:=by rw [←hq];congr 1<;>omega
     rw [Int.mul_assoc,e1,Int.tdiv_eq_ediv_of_nonneg (by omega)]
    repeat' (first|with_reducible refine ua4 ?_ ?_|with_reducible refine And.intro ?_ ?_|(with_reducible refine qS ?_ ?_ ?_;try cbv)|(with_reducible intro hcd;(try simp only [uaa,zA,zB,zC,zD,zE,zF,zG,zH,zI,zJ,zK,zL,zM,zN,zO,zP,ei,ek,ei1,ek1,hl1,hl2,ha,hb,hc,hd,h00,h10,h01,h11,hq,hn,ht]at hcd);try cbv))
    all_goals first|((try simp only [uaa,zA,zB,zC,zD,zE,zF,zG,zH,zI,zJ,zK,zL,zM,zN,zO,zP,ei,ek,ei1,ek1,hl1,hl2,ha,hb,hc,hd,h00,h10,h01,h11,hq,hn,ht]at⊢);first|(refine qN ?_;omega)|(simp only [uaq];omega))|(exfalso;omega)|(subst hR;refine qE ?_;simp only [uaa,zA,zB,zC,zD,zE,zF,zG,zH,zI,zJ,zK,zL,zM,zN,zO,zP,ei,ek,ei1,ek1,hl1,hl2,ha,hb,hc,hd,h00,h10,h01,h11,hq,hn,ht];rw [hat2];split<;>omega)|skip
def urh (wl ml mh:Int)(i j:Nat)(w m:Int):Prop:=ml≤m∧m≤mh∧((wl≤w∧w<wl+i)∨(w=wl+i∧m<ml+j))
structure Scan (f:Int→Int→Int)(wl ml mh:Int)(i j:Nat)(lo hi:Int):Prop where
 le:∀w m,urh wl ml mh i j w m→lo≤f w m∧f w m≤hi
 hit:(lo=9999∧hi = -1∧∀w m,¬urh wl ml mh i j w m)∨((∃w m,urh wl ml mh i j w m∧lo=f w m)∧∃w m,urh wl ml mh i j w m∧hi=f w m)
theorem Scan.congr {f:Int→Int→Int} {wl ml mh:Int} {i j i' j':Nat} {lo hi:Int}(h:Scan f wl ml mh i j lo hi)(hs:∀w m,urh wl ml mh i j w m↔urh wl ml mh i' j' w m):Scan f wl ml mh i' j' lo hi:=
 ⟨fun w m s=>h.le w m ((hs w m).2 s),h.hit.imp (fun q=>⟨q.1,q.2.1,fun w m s=>q.2.2 w m ((hs w m).2 s)⟩) fun q=>⟨let ⟨w,m,s,e⟩:=q.1;⟨w,m,(hs w m).1 s,e⟩,let ⟨w,m,s,e⟩:=q.2;⟨w,m,(hs w m).1 s,e⟩⟩⟩
theorem uxH {tw tm:List Int} {tv:List (List Int)}(h:TOk tw tm tv):(0≤tw.getD 0 0∧tw.getD (tw.length-1) 0≤40)∧0≤tm.getD 0 0∧tm.getD (tm.length-1) 0≤60:=by
 have a:=h.w2;have b:=h.m2
 have p1:=uak h.rw 0 (by omega)
 have p2:=uak h.rw (tw.length-1) (by omega)
 have p3:=uak h.rm 0 (by omega)
 have p4:=uak h.rm (tm.length-1) (by omega)
 unfold ubl at p1 p2 p3 p4
 omega
end Go.Proofs.YtkdggbfknlcdaaaGreat
namespace Go.Proofs.YtkdggbfknlcdaaaGreat
open Go Go.Eng Go.Proofs Go.Eng.Dif Go.Eng.Few
set_option maxRecDepth 10000
set_option maxHeartbeats 2000000 in
theorem uoH (d:Dsp)(hT:ThinT d.tw d.tm d.tv)(h1:d.ls.length≤1000)(h2:d.fs.length≤1000):ua0 Tryz.prog 12 [(ubh d)] [] (fun r _=>r=(ubh d)):=by
 have c46:=uuY d.tw d.tm d.tv hT
 have c18:= @uAm
 refine ua0.is fun R hR=>qW (sc:=uBK) uan mix Tryz.func12 rfl Tryz.call12 (by kernel_rfl) (by kernel_rfl) ?_
 generalize Tryz.prog=P at c46 c18⊢
 cbv
 repeat' (first|(refine qP ?_ (c46) ?hfit;(case hfit=>((repeat' (first|exact qB|refine qD ?_ ?_|exact qE (by rfl)|exact qF (by rfl)|exact Fit.refl _|exact qA|refine qC ?_ rfl ?_));done));try cbv)|fail)
 all_goals first|skip
 refine⟨none,[⟨.cell 10 5,102,4⟩],{i:Nat // i≤d.ls.length},fun x=>⟨[(1,.own 0 0),(2,.own 1 0),(3,.own 10 0),(4,(iv fun _=>zi x.1))],[(0,.cells [(iS d.tw),(iS d.tm),(.sl 1 (.sym fun _=>zi (d.tv).length) (fun ix=>[(.sl 1 (.sym fun _=>zi ((d.tv).getD ix.den.toNat []).length) (fun jx=>[(iv fun _=>((d.tv).getD ix.den.toNat []).getD jx.den.toNat 0)]))])),(iv fun _=>d.sn),(iv fun _=>d.pn),(.sl 4 (.sym fun _=>zi (d.ls).length) (fun ix=>[(iv fun _=>((d.ls).getD ix.den.toNat l0T).a),(iv fun _=>((d.ls).getD ix.den.toNat l0T).b),(iv fun _=>((d.ls).getD ix.den.toNat l0T).lo),(iv fun _=>((d.ls).getD ix.den.toNat l0T).hi)])),(.sl 6 (.sym fun _=>zi (d.fs).length) (fun ix=>[(iv fun _=>((d.fs).getD ix.den.toNat f0T).p),(iv fun _=>((d.fs).getD ix.den.toNat f0T).s),(iv fun _=>((d.fs).getD ix.den.toNat f0T).wl),(iv fun _=>((d.fs).getD ix.den.toNat f0T).wh),(iv fun _=>((d.fs).getD ix.den.toNat f0T).ml),(iv fun _=>((d.fs).getD ix.den.toNat f0T).mh)]))] 29),(1,.cells [.val (Value.slice none 0 0),.val (Value.slice none 0 0),.val (Value.slice none 0 0),.int .i64 (.lit 0),.int .i64 (.lit 0),.val (Value.slice none 0 0),.val (Value.slice none 0 0)] 39),(10,.cells [(iS d.tw),(iS d.tm),(.sl 1 (.sym fun _=>zi (d.tv).length) (fun ix=>[(.sl 1 (.sym fun _=>zi ((d.tv).getD ix.den.toNat []).length) (fun jx=>[(iv fun _=>((d.tv).getD ix.den.toNat []).getD jx.den.toNat 0)]))])),(iv fun _=>d.sn),(iv fun _=>d.pn),.row 13,.val (Value.slice none 0 0)] 39),(13,.row 102 4 (.sym fun _=>zi x.1) (fun ix=>[(iv fun _=>(d.ls.getD ix.den.toNat l0T).a),(iv fun _=>(d.ls.getD ix.den.toNat l0T).b),(iv fun _=>(d.ls.getD ix.den.toNat l0T).lo),(iv fun _=>(d.ls.getD ix.den.toNat l0T).hi)]))],120⟩,fun x=>d.ls.length-x.1,?_,?_⟩
 ·refine⟨⟨0,by omega⟩,?_⟩
  cbv
  repeat' (first|with_reducible refine ua4 ?_ ?_|with_reducible refine And.intro ?_ ?_)
  all_goals first|trivial|exact qM (qE (by rfl))|exact qM (Fit.refl _)|exact qL (qK _)|(refine qL (ua9 ?_ ?_);(first|rfl|((try simp only [qV]at *);(try simp only [zQ,zA,zB,zC,zD,zE,zF,zG,zH,zI,zJ,zK,zL,zM,zN,zO,zP,zR,zS]at *);omega));intro ix h0 h1;exfalso;(try simp only [qV]at *);(try simp only [zQ,zA,zB,zC,zD,zE,zF,zG,zH,zI,zJ,zK,zL,zM,zN,zO,zP,zR,zS]at *);omega)|skip
 ·rintro ⟨i,hi⟩
  cbv
  repeat' (first
   |with_reducible refine ua4 ?_ ?_
   |with_reducible refine And.intro ?_ ?_
   |(with_reducible intro hcd;(try simp only [zA,zB,zC,zD,zE,zF,zG,zH,zI,zJ,zK,zL,zM,zN,zO,zP]at hcd);try cbv)
   |(refine qP ?_ (c18 _ _) (by(repeat' (first|exact qB|refine qD ?_ ?_|exact qE (by rfl)|exact qF (by rfl)|exact Fit.refl _|exact qA|refine qC ?_ rfl ?_)));try cbv)
   | (refine⟨fun ix=>[(iv fun _=>(d.ls.getD ix.den.toNat l0T).a),(iv fun _=>(d.ls.getD ix.den.toNat l0T).b),(iv fun _=>(d.ls.getD ix.den.toNat l0T).lo),(iv fun _=>(d.ls.getD ix.den.toNat l0T).hi)],?_⟩
      cbv
      refine ua4 (ubj (by intro ix jx h0 h1 h2;simp only [h2];exact Fit.refl _) (by intro ix jx h0 h1 h2;(have h3:jx.den.toNat=i:=by((try simp only [qV]at *);(try simp only [zQ,zA,zB,zC,zD,zE,zF,zG,zH,zI,zJ,zK,zL,zM,zN,zO,zP,zR,zS]at *);omega));simp only [h3];exact(qC (qE rfl) rfl (qC (qE rfl) rfl (qC (qE rfl) rfl (qC (qE rfl) rfl qA))))) (by(try simp only [qV]at *);(try simp only [zQ,zA,zB,zC,zD,zE,zF,zG,zH,zI,zJ,zK,zL,zM,zN,zO,zP,zR,zS]at *);omega)) (Or.inl ?_)
      try cbv)
   |fail)
  all_goals first|((try simp only [qV]at *);(try simp only [zQ,zA,zB,zC,zD,zE,zF,zG,zH,zI,zJ,zK,zL,zM,zN,zO,zP,zR,zS]at *);first|(refine qN ?_;omega)|(simp only [uaq];omega))|((try simp only [zQ,zA,zB,zC,zD,zE,zF,zG,zH,zI,zJ,zK,zL,zM,zN,zO,zP,zR,zS]at *);refine⟨⟨i+1,by omega⟩,by simp only [];omega,?_⟩;cbv;(repeat' (first|with_reducible refine ua4 ?_ ?_|with_reducible refine And.intro ?_ ?_));(all_goals first|trivial|exact qM (qE (by rfl))|exact qM (qF (by rfl))|exact qM (Fit.refl _)|exact qL (qK _)|(refine qM (qE ?_);(try simp only [qV]at *);simp only [zQ,zA,zB,zC,zD,zE,zF,zG,zH,zI,zJ,zK,zL,zM,zN,zO,zP,zR,zS]at *;omega)|(refine qL (qJ ?_);(repeat' (first|exact qA|exact qB|refine qC ?_ rfl ?_|refine qD ?_ ?_|exact qE (by rfl)|exact qF (by rfl)|exact Fit.refl _|exact qG _|(refine qE ?_;(try simp only [qV]at *);simp only [zQ,zA,zB,zC,zD,zE,zF,zG,zH,zI,zJ,zK,zL,zM,zN,zO,zP,zR,zS]at *;omega)));done)|(refine qL (ua9 ?_ ?_)<;>first|rfl|((try simp only [qV]at *);(try simp only [zQ,zA,zB,zC,zD,zE,zF,zG,zH,zI,zJ,zK,zL,zM,zN,zO,zP,zR,zS]at *);omega)|(intro ix h0 h1;exact Fit.refl _))|skip))|skip
  have hil:i=d.ls.length:=(by((try simp only [qV]at *);(try simp only [zQ,zA,zB,zC,zD,zE,zF,zG,zH,zI,zJ,zK,zL,zM,zN,zO,zP,zR,zS]at *);omega))
  subst hil
  refine⟨none,[⟨.cell 10 6,106,6⟩],{j:Nat // j≤d.fs.length},fun x=>⟨[(1,.own 0 0),(2,.own 1 0),(3,.own 10 0),(5,(iv fun _=>zi x.1))],[(0,.cells [(iS d.tw),(iS d.tm),(.sl 1 (.sym fun _=>zi (d.tv).length) (fun ix=>[(.sl 1 (.sym fun _=>zi ((d.tv).getD ix.den.toNat []).length) (fun jx=>[(iv fun _=>((d.tv).getD ix.den.toNat []).getD jx.den.toNat 0)]))])),(iv fun _=>d.sn),(iv fun _=>d.pn),(.sl 4 (.sym fun _=>zi (d.ls).length) (fun ix=>[(iv fun _=>((d.ls).getD ix.den.toNat l0T).a),(iv fun _=>((d.ls).getD ix.den.toNat l0T).b),(iv fun _=>((d.ls).getD ix.den.toNat l0T).lo),(iv fun _=>((d.ls).getD ix.den.toNat l0T).hi)])),(.sl 6 (.sym fun _=>zi (d.fs).length) (fun ix=>[(iv fun _=>((d.fs).getD ix.den.toNat f0T).p),(iv fun _=>((d.fs).getD ix.den.toNat f0T).s),(iv fun _=>((d.fs).getD ix.den.toNat f0T).wl),(iv fun _=>((d.fs).getD ix.den.toNat f0T).wh),(iv fun _=>((d.fs).getD ix.den.toNat f0T).ml),(iv fun _=>((d.fs).getD ix.den.toNat f0T).mh)]))] 29),(1,.cells [.val (Value.slice none 0 0),.val (Value.slice none 0 0),.val (Value.slice none 0 0),.int .i64 (.lit 0),.int .i64 (.lit 0),.val (Value.slice none 0 0),.val (Value.slice none 0 0)] 39),(10,.cells [(iS d.tw),(iS d.tm),(.sl 1 (.sym fun _=>zi (d.tv).length) (fun ix=>[(.sl 1 (.sym fun _=>zi ((d.tv).getD ix.den.toNat []).length) (fun jx=>[(iv fun _=>((d.tv).getD ix.den.toNat []).getD jx.den.toNat 0)]))])),(iv fun _=>d.sn),(iv fun _=>d.pn),.row 13,.row 126] 39),(13,.row 102 4 (.sym fun _=>zi d.ls.length) (fun ix=>[(iv fun _=>(d.ls.getD ix.den.toNat l0T).a),(iv fun _=>(d.ls.getD ix.den.toNat l0T).b),(iv fun _=>(d.ls.getD ix.den.toNat l0T).lo),(iv fun _=>(d.ls.getD ix.den.toNat l0T).hi)])),(126,.row 106 6 (.sym fun _=>zi x.1) (fun ix=>[(iv fun _=>(d.fs.getD ix.den.toNat f0T).p),(iv fun _=>(d.fs.getD ix.den.toNat f0T).s),(iv fun _=>(d.fs.getD ix.den.toNat f0T).wl),(iv fun _=>(d.fs.getD ix.den.toNat f0T).wh),(iv fun _=>(d.fs.getD ix.den.toNat f0T).ml),(iv fun _=>(d.fs.getD ix.den.toNat f0T).mh)]))],200⟩,fun x=>d.fs.length-x.1,?_,?_⟩
  ·refine⟨⟨0,by omega⟩,?_⟩
   cbv
   repeat' (first|with_reducible refine ua4 ?_ ?_|with_reducible refine And.intro ?_ ?_)
   all_goals first|trivial|exact qM (qE (by rfl))|exact qM (Fit.refl _)|exact qL (qK _)|(refine qL (ua9 ?_ ?_);(first|rfl|((try simp only [qV]at *);(try simp only [zQ,zA,zB,zC,zD,zE,zF,zG,zH,zI,zJ,zK,zL,zM,zN,zO,zP,zR,zS]at *);omega));intro ix h0 h1;exfalso;(try simp only [qV]at *);(try simp only [zQ,zA,zB,zC,zD,zE,zF,zG,zH,zI,zJ,zK,zL,zM,zN,zO,zP,zR,zS]at *);omega)|skip
  ·rintro ⟨j,hj⟩
   cbv
   repeat' (first
    |with_reducible refine ua4 ?_ ?_
    |with_reducible refine And.intro ?_ ?_
    |(with_reducible intro hcd;(try simp only [zA,zB,zC,zD,zE,zF,zG,zH,zI,zJ,zK,zL,zM,zN,zO,zP]at hcd);try cbv)
    |(refine qP ?_ (c18 _ _) (by(repeat' (first|exact qB|refine qD ?_ ?_|exact qE (by rfl)|exact qF (by rfl)|exact Fit.refl _|exact qA|refine qC ?_ rfl ?_)));try cbv)
    | (refine⟨fun ix=>[(iv fun _=>(d.fs.getD ix.den.toNat f0T).p),(iv fun _=>(d.fs.getD ix.den.toNat f0T).s),(iv fun _=>(d.fs.getD ix.den.toNat f0T).wl),(iv fun _=>(d.fs.getD ix.den.toNat f0T).wh),(iv fun _=>(d.fs.getD ix.den.toNat f0T).ml),(iv fun _=>(d.fs.getD ix.den.toNat f0T).mh)],?_⟩
       cbv
       refine ua4 (ubj (by intro ix jx h0 h1 h2;simp only [h2];exact Fit.refl _) (by intro ix jx h0 h1 h2;(have h3:jx.den.toNat=j:=by((try simp only [qV]at *);(try simp only [zQ,zA,zB,zC,zD,zE,zF,zG,zH,zI,zJ,zK,zL,zM,zN,zO,zP,zR,zS]at *);omega));simp only [h3];exact(qC (qE rfl) rfl (qC (qE rfl) rfl (qC (qE rfl) rfl (qC (qE rfl) rfl (qC (qE rfl) rfl (qC (qE rfl) rfl qA))))))) (by(try simp only [qV]at *);(try simp only [zQ,zA,zB,zC,zD,zE,zF,zG,zH,zI,zJ,zK,zL,zM,zN,zO,zP,zR,zS]at *);omega)) (Or.inl ?_)
       try cbv)
    |fail)
   all_goals first|((try simp only [qV]at *);(try simp only [zQ,zA,zB,zC,zD,zE,zF,zG,zH,zI,zJ,zK,zL,zM,zN,zO,zP,zR,zS]at *);first|(refine qN ?_;omega)|(simp only [uaq];omega))|((have hit:j=d.fs.length:=(by((try simp only [qV]at *);(try simp only [zQ,zA,zB,zC,zD,zE,zF,zG,zH,zI,zJ,zK,zL,zM,zN,zO,zP,zR,zS]at *);omega)));subst hR;subst hit;exact Fit.refl _)|((try simp only [zQ,zA,zB,zC,zD,zE,zF,zG,zH,zI,zJ,zK,zL,zM,zN,zO,zP,zR,zS]at *);refine⟨⟨j+1,by omega⟩,by simp only [];omega,?_⟩;cbv;(repeat' (first|with_reducible refine ua4 ?_ ?_|with_reducible refine And.intro ?_ ?_));(all_goals first|trivial|exact qM (qE (by rfl))|exact qM (qF (by rfl))|exact qM (Fit.refl _)|exact qL (qK _)|(refine qM (qE ?_);(try simp only [qV]at *);simp only [zQ,zA,zB,zC,zD,zE,zF,zG,zH,zI,zJ,zK,zL,zM,zN,zO,zP,zR,zS]at *;omega)|(refine qL (qJ ?_);(repeat' (first|exact qA|exact qB|refine qC ?_ rfl ?_|refine qD ?_ ?_|exact qE (by rfl)|exact qF (by rfl)|exact Fit.refl _|exact qG _|(refine qE ?_;(try simp only [qV]at *);simp only [zQ,zA,zB,zC,zD,zE,zF,zG,zH,zI,zJ,zK,zL,zM,zN,zO,zP,zR,zS]at *;omega)));done)|(refine qL (ua9 ?_ ?_)<;>first|rfl|((try simp only [qV]at *);(try simp only [zQ,zA,zB,zC,zD,zE,zF,zG,zH,zI,zJ,zK,zL,zM,zN,zO,zP,zR,zS]at *);omega)|(intro ix h0 h1;exact Fit.refl _))|skip))|skip
def ufW (d:Dsp):Bool:=ul0 d.tw d.tm d.tv&&(decide (d.ls.length≤7)&&decide (d.fs.length≤9))
theorem uuy {d:Dsp}:ufW d=true↔ThinT d.tw d.tm d.tv∧d.ls.length≤7∧d.fs.length≤9:=by
 unfold ufW
 rw [Bool.and_eq_true,Bool.and_eq_true,decide_eq_true_eq,decide_eq_true_eq,ueU]
theorem uuA {d:Dsp}(h:ul0 d.tw d.tm d.tv=false):ufW d=false:=by unfold ufW;rw [h];rfl
theorem uvQ {d:Dsp}(h:ul0 d.tw d.tm d.tv=true)(h':¬d.ls.length≤7):ufW d=false:=by unfold ufW;rw [h,decide_eq_false h'];rfl
theorem uuC {d:Dsp}(h:ul0 d.tw d.tm d.tv=true)(h':d.ls.length≤7):ufW d=decide (d.fs.length≤9):=by unfold ufW;rw [h,decide_eq_true h'];rfl
theorem uwy (d:Dsp):ua0 Tryz.prog 9 [(ubh d)] [] (fun r _=>r=(bv fun _=>ufW d)):=by
 have c42:=uwg d.tw d.tm d.tv
 refine ua0.is fun R hR=>qW (sc:=sc9) uan mix Tryz.func9 rfl Tryz.call9 (by kernel_rfl) (by kernel_rfl) ?_
 generalize Tryz.prog=P at c42⊢
 cbv
 repeat' (first|with_reducible refine And.intro ?_ ?_|(with_reducible intro hcd;(try simp only [zA,zB,zC,zD,zE,zF,zG,zH,zI,zJ,zK,zL,zM,zN,zO,zP]at hcd);try cbv)|(refine qP ?_ (c42) ?hfit;(case hfit=>((repeat' (first|exact qB|refine qD ?_ ?_|exact qE (by rfl)|exact qF (by rfl)|exact Fit.refl _|exact qA|refine qC ?_ rfl ?_));done));try cbv)|fail)
 all_goals first|(subst hR;(refine qF ?_;(try simp only [qV]at *);(try simp only [zQ,zA,zB,zC,zD,zE,zF,zG,zH,zI,zJ,zK,zL,zM,zN,zO,zP,zR,zS]at *);(try simp only [uaj,uau,uaP,ub4,ub2,ub5,uae,uaf,uad,uag]at *);first|exact(uuA (by assumption)).symm|exact(uvQ (by assumption) (by omega)).symm|(rw [uuC (by assumption) (by omega)];first|rfl|(apply Bool.eq_iff_iff.2;simp only [decide_eq_true_eq];omega)));done)|skip
theorem usu (a b:Int)(l:List Int)(h:1≤l.length∧l.length≤1000):ua0 Tryz.prog 97 [(iS l),(.agg [(iv fun _=>a),(iv fun _=>b)])] [] (fun r _=>r=(bv fun _=>ofB (l.getD 0 0) a b (l.getD (l.length-1) 0))):=by
 have c25:=uql l h
 refine ua0.is fun R hR=>qW (sc:=uAE) uan mix Tryz.func97 rfl Tryz.call97 (by kernel_rfl) (by kernel_rfl) ?_
 generalize Tryz.prog=P at c25⊢
 cbv
 repeat' (first|with_reducible refine ua4 ?_ ?_|with_reducible refine And.intro ?_ ?_|(with_reducible intro hcd;(try simp only [zA,zB,zC,zD,zE,zF,zG,zH,zI,zJ,zK,zL,zM,zN,zO,zP]at hcd);try cbv)|(refine qP ?_ (c25) ?hfit;(case hfit=>((repeat' (first|exact qB|refine qD ?_ ?_|exact qE (by rfl)|exact qF (by rfl)|exact Fit.refl _|exact qA|refine qC ?_ rfl ?_));done));try cbv)|fail)
 all_goals first|((try simp only [qV]at *);(try simp only [zQ,zA,zB,zC,zD,zE,zF,zG,zH,zI,zJ,zK,zL,zM,zN,zO,zP,zR,zS,uaj,uau,uaP,ub4,ub2,ub5,uae,uaf,uad,uag]at *);first|(refine qN ?_;omega)|(simp only [uaq];omega))|(subst hR;(refine qF ?_;(try simp only [qV]at *);(try simp only [zQ,zA,zB,zC,zD,zE,zF,zG,zH,zI,zJ,zK,zL,zM,zN,zO,zP,zR,zS]at *);(try simp only [uaj,uau,uaP,ub4,ub2,ub5,uae,uaf,uad,uag]at *);(try simp only [show Int.toNat 0=0 from rfl]at *);apply Bool.eq_iff_iff.2;simp only [ub2,uaj,uau,uaP,ub4,ub2,ub5,uae,uaf,uad,uag,Bool.and_eq_true,Bool.or_eq_true,Bool.not_eq_true',decide_eq_true_eq,decide_eq_false_iff_not,Bool.false_eq_true,reduceCtorEq,Bool.true_and,Bool.and_true,Bool.false_and,Bool.and_false,iff_true,true_iff,Bool.not_true,Bool.not_false]at *;constructor<;>intro q<;>first|omega|(exact q.elim)|(exact absurd q (by omega)));done)|skip
theorem uwU (n lo hi:Int):(decide (lo≤n)&&decide (n≤hi))=inB lo n hi:=by
 apply Bool.eq_iff_iff.2
 rw [uaP,Bool.and_eq_true,decide_eq_true_eq,decide_eq_true_eq]
theorem uBn (n lo hi:Int):ua0 Tryz.prog 22 [(iv fun _=>n),(iv fun _=>lo),(iv fun _=>hi)] [] (fun r _=>r=(bv fun _=>inB lo n hi)):=by
 have:=uzf n lo hi
 simp only [uwU]at this
 exact this
set_option maxHeartbeats 1000000 in
theorem uvH (d:Dsp):ua0 Tryz.prog 58 [(ubh d)] [] (fun r _=>r=(iv fun _=>ua7 d)):=by
 have c75:=uuQ d.tw d.tm d.tv
 have c17:= @uBn
 have c76:= @usu
 have hwm:=fun h:ubM d.tw d.tm d.tv=0=>udy h
 refine ua0.is fun R hR=>qW (sc:=uBt) uan mix Tryz.func58 rfl Tryz.call58 (by kernel_rfl) (by kernel_rfl) ?_
 generalize Tryz.prog=P at c75 c17 c76⊢
 cbv
 repeat' (first|with_reducible refine And.intro ?_ ?_|(with_reducible intro hcd;(try simp only [zA,zB,zC,zD,zE,zF,zG,zH,zI,zJ,zK,zL,zM,zN,zO,zP]at hcd);try cbv)|(refine qP ?_ (c75) ?hfit;(case hfit=>((repeat' (first|exact qB|refine qD ?_ ?_|exact qE (by rfl)|exact qF (by rfl)|exact Fit.refl _|exact qA|refine qC ?_ rfl ?_));done));try cbv)|fail)
 all_goals first|(subst hR;(refine qE ?_;(try simp only [qV]at *);(try simp only [zQ,zA,zB,zC,zD,zE,zF,zG,zH,zI,zJ,zK,zL,zM,zN,zO,zP,zR,zS]at *);exact(ugb (by first|assumption|omega)).symm);done)|(subst hR;(refine qE ?_;(try simp only [qV]at *);(try simp only [zQ,zA,zB,zC,zD,zE,zF,zG,zH,zI,zJ,zK,zL,zM,zN,zO,zP,zR,zS]at *);exact(ufp (by first|assumption|omega) (by unfold ueo;omega)).symm);done)|(subst hR;(refine qE ?_;(try simp only [qV]at *);(try simp only [zQ,zA,zB,zC,zD,zE,zF,zG,zH,zI,zJ,zK,zL,zM,zN,zO,zP,zR,zS]at *);exact(ueW (by first|assumption|omega) (by unfold ueo;omega) (fun g=>by have a1:=g.1;have a2:=g.2.1;omega)).symm);done)|skip
 have hF:ubM d.tw d.tm d.tv=0:=by((try simp only [qV]at *);(try simp only [zQ,zA,zB,zC,zD,zE,zF,zG,zH,zI,zJ,zK,zL,zM,zN,zO,zP,zR,zS]at *);first|assumption|omega)
 have hm:¬ueo d:=by unfold ueo;((try simp only [qV]at *);(try simp only [zQ,zA,zB,zC,zD,zE,zF,zG,zH,zI,zJ,zK,zL,zM,zN,zO,zP,zR,zS]at *);omega)
 have hs1:1≤d.sn:=by((try simp only [qV]at *);(try simp only [zQ,zA,zB,zC,zD,zE,zF,zG,zH,zI,zJ,zK,zL,zM,zN,zO,zP,zR,zS]at *);omega)
 have hp1:1≤d.pn:=by((try simp only [qV]at *);(try simp only [zQ,zA,zB,zC,zD,zE,zF,zG,zH,zI,zJ,zK,zL,zM,zN,zO,zP,zR,zS]at *);omega)
 have hT:=hwm hF
 have hw2:=hT.w2
 have hw5:=hT.w5
 have hm2:=hT.m2
 have hm5:=hT.m5
 have hsm:d.sn≤3:=by((try simp only [qV]at *);(try simp only [zQ,zA,zB,zC,zD,zE,zF,zG,zH,zI,zJ,zK,zL,zM,zN,zO,zP,zR,zS]at *);omega)
 have hpm:d.pn≤4:=by((try simp only [qV]at *);(try simp only [zQ,zA,zB,zC,zD,zE,zF,zG,zH,zI,zJ,zK,zL,zM,zN,zO,zP,zR,zS]at *);omega)
 have c76w:=fun (a b:Int)=>c76 a b d.tw ⟨by omega,by omega⟩
 have c76m:=fun (a b:Int)=>c76 a b d.tm ⟨by omega,by omega⟩
 refine⟨none,[],{i:Nat // i≤d.ls.length∧∀k,k<i→ucI d.sn (d.ls.getD k l0T)},fun x=>⟨[(1,.own 0 0),(4,(iv fun _=>zi x.1))],[(0,.cells [(iS d.tw),(iS d.tm),(.sl 1 (.sym fun _=>zi (d.tv).length) (fun ix=>[(.sl 1 (.sym fun _=>zi ((d.tv).getD ix.den.toNat []).length) (fun jx=>[(iv fun _=>((d.tv).getD ix.den.toNat []).getD jx.den.toNat 0)]))])),(iv fun _=>d.sn),(iv fun _=>d.pn),(.sl 4 (.sym fun _=>zi (d.ls).length) (fun ix=>[(iv fun _=>((d.ls).getD ix.den.toNat l0T).a),(iv fun _=>((d.ls).getD ix.den.toNat l0T).b),(iv fun _=>((d.ls).getD ix.den.toNat l0T).lo),(iv fun _=>((d.ls).getD ix.den.toNat l0T).hi)])),(.sl 6 (.sym fun _=>zi (d.fs).length) (fun ix=>[(iv fun _=>((d.fs).getD ix.den.toNat f0T).p),(iv fun _=>((d.fs).getD ix.den.toNat f0T).s),(iv fun _=>((d.fs).getD ix.den.toNat f0T).wl),(iv fun _=>((d.fs).getD ix.den.toNat f0T).wh),(iv fun _=>((d.fs).getD ix.den.toNat f0T).ml),(iv fun _=>((d.fs).getD ix.den.toNat f0T).mh)]))] 29)],100⟩,fun x=>d.ls.length-x.1,?_,?_⟩
 ·refine⟨⟨0,by omega,fun k hk=>by omega⟩,?_⟩
  cbv
  repeat' (first|with_reducible refine ua4 ?_ ?_|with_reducible refine And.intro ?_ ?_)
  all_goals first|trivial|exact qM (qE (by rfl))|exact qM (Fit.refl _)|exact qL (qK _)|skip
 ·rintro ⟨i,hi,hq⟩
  cbv
  repeat' (first|with_reducible refine ua4 ?_ ?_|with_reducible refine And.intro ?_ ?_|(with_reducible intro hcd;(try simp only [zA,zB,zC,zD,zE,zF,zG,zH,zI,zJ,zK,zL,zM,zN,zO,zP]at hcd);try cbv)|(refine qP ?_ (c17 _ _ _) (by(repeat' (first|exact qB|refine qD ?_ ?_|exact qE (by rfl)|exact qF (by rfl)|exact Fit.refl _|exact qA|refine qC ?_ rfl ?_)));try cbv)|fail)
  all_goals first|((try simp only [qV]at *);(try simp only [zQ,zA,zB,zC,zD,zE,zF,zG,zH,zI,zJ,zK,zL,zM,zN,zO,zP,zR,zS,uaj,uau,uaP,ub4,ub2,ub5,uae,uaf,uad,uag]at *);first|(refine qN ?_;omega)|(simp only [uaq];omega))|(subst hR;(refine qE ?_;(try simp only [qV]at *);(try simp only [zQ,zA,zB,zC,zD,zE,zF,zG,zH,zI,zJ,zK,zL,zM,zN,zO,zP,zR,zS]at *);(try simp only [uaj,uau,uaP,ub4,ub2,ub5,uae,uaf,uad,uag]at *);exact(ueW hF hm (fun g=>by have g:=ufa.1 g;have q:=g.2.2.1 i (by omega);unfold ucI at q;omega)).symm);done)|((try simp only [zQ,zA,zB,zC,zD,zE,zF,zG,zH,zI,zJ,zK,zL,zM,zN,zO,zP,zR,zS,uaj,uau,uaP,ub4,ub2,ub5,uae,uaf,uad,uag]at *);refine⟨⟨i+1,by omega,fun k hk=>(Nat.lt_or_ge k i).elim (hq k) fun q=>by rw [show k=i by omega];unfold ucI;omega⟩,by simp only [];omega,?_⟩;cbv;(repeat' (first|with_reducible refine ua4 ?_ ?_|with_reducible refine And.intro ?_ ?_));(all_goals first|trivial|exact qM (qE (by rfl))|exact qM (qF (by rfl))|exact qM (Fit.refl _)|exact qL (qK _)|(refine qM (qE ?_);(try simp only [qV]at *);simp only [zQ,zA,zB,zC,zD,zE,zF,zG,zH,zI,zJ,zK,zL,zM,zN,zO,zP,zR,zS]at *;omega)|(refine qL (qJ ?_);(repeat' (first|exact qA|exact qB|refine qC ?_ rfl ?_|refine qD ?_ ?_|exact qE (by rfl)|exact qF (by rfl)|exact Fit.refl _|exact qG _|(refine qE ?_;(try simp only [qV]at *);simp only [zQ,zA,zB,zC,zD,zE,zF,zG,zH,zI,zJ,zK,zL,zM,zN,zO,zP,zR,zS]at *;omega)));done)|skip))|skip
  have hq:∀k,k<d.ls.length→ucI d.sn (d.ls.getD k l0T):=fun k hk=>hq k (by((try simp only [qV]at *);(try simp only [zQ,zA,zB,zC,zD,zE,zF,zG,zH,zI,zJ,zK,zL,zM,zN,zO,zP,zR,zS]at *);omega))
  refine⟨none,[],{j:Nat // j≤d.fs.length∧∀k,k<j→uc8 d (d.fs.getD k f0T)},fun x=>⟨[(1,.own 0 0),(6,(iv fun _=>zi x.1))],[(0,.cells [(iS d.tw),(iS d.tm),(.sl 1 (.sym fun _=>zi (d.tv).length) (fun ix=>[(.sl 1 (.sym fun _=>zi ((d.tv).getD ix.den.toNat []).length) (fun jx=>[(iv fun _=>((d.tv).getD ix.den.toNat []).getD jx.den.toNat 0)]))])),(iv fun _=>d.sn),(iv fun _=>d.pn),(.sl 4 (.sym fun _=>zi (d.ls).length) (fun ix=>[(iv fun _=>((d.ls).getD ix.den.toNat l0T).a),(iv fun _=>((d.ls).getD ix.den.toNat l0T).b),(iv fun _=>((d.ls).getD ix.den.toNat l0T).lo),(iv fun _=>((d.ls).getD ix.den.toNat l0T).hi)])),(.sl 6 (.sym fun _=>zi (d.fs).length) (fun ix=>[(iv fun _=>((d.fs).getD ix.den.toNat f0T).p),(iv fun _=>((d.fs).getD ix.den.toNat f0T).s),(iv fun _=>((d.fs).getD ix.den.toNat f0T).wl),(iv fun _=>((d.fs).getD ix.den.toNat f0T).wh),(iv fun _=>((d.fs).getD ix.den.toNat f0T).ml),(iv fun _=>((d.fs).getD ix.den.toNat f0T).mh)]))] 29)],200⟩,fun x=>d.fs.length-x.1,?_,?_⟩
  ·refine⟨⟨0,by omega,fun k hk=>by omega⟩,?_⟩
   cbv
   repeat' (first|with_reducible refine ua4 ?_ ?_|with_reducible refine And.intro ?_ ?_)
   all_goals first|trivial|exact qM (qE (by rfl))|exact qM (Fit.refl _)|exact qL (qK _)|skip
  ·rintro ⟨j,hj,hr⟩
   cbv
   repeat' (first|with_reducible refine ua4 ?_ ?_|with_reducible refine And.intro ?_ ?_|(with_reducible intro hcd;(try simp only [zA,zB,zC,zD,zE,zF,zG,zH,zI,zJ,zK,zL,zM,zN,zO,zP]at hcd);try cbv)|(refine qP ?_ (c17 _ _ _) (by(repeat' (first|exact qB|refine qD ?_ ?_|exact qE (by rfl)|exact qF (by rfl)|exact Fit.refl _|exact qA|refine qC ?_ rfl ?_)));try cbv)|(refine qP ?_ (c76w (d.fs.getD j f0T).wl (d.fs.getD j f0T).wh) ?hfit;(case hfit=>((repeat' (first|exact qB|refine qD ?_ ?_|exact qE (by rfl)|exact qF (by rfl)|exact Fit.refl _|exact qA|refine qC ?_ rfl ?_));done));try cbv)|(refine qP ?_ (c76m (d.fs.getD j f0T).ml (d.fs.getD j f0T).mh) ?hfit;(case hfit=>((repeat' (first|exact qB|refine qD ?_ ?_|exact qE (by rfl)|exact qF (by rfl)|exact Fit.refl _|exact qA|refine qC ?_ rfl ?_));done));try cbv)|fail)
   all_goals first|((try simp only [qV]at *);(try simp only [zQ,zA,zB,zC,zD,zE,zF,zG,zH,zI,zJ,zK,zL,zM,zN,zO,zP,zR,zS,uaj,uau,uaP,ub4,ub2,ub5,uae,uaf,uad,uag]at *);first|(refine qN ?_;omega)|(simp only [uaq];omega))|(subst hR;(refine qE ?_;(try simp only [qV]at *);(try simp only [zQ,zA,zB,zC,zD,zE,zF,zG,zH,zI,zJ,zK,zL,zM,zN,zO,zP,zR,zS]at *);(try simp only [uaj,uau,uaP,ub4,ub2,ub5,uae,uaf,uad,uag]at *);exact(ueW hF hm (fun g=>by have g:=ufa.1 g;have q:=g.2.2.2 j (by omega);unfold uc8 at q;first|omega|(rw [show ofB (d.tw.getD 0 0) (d.fs.getD j f0T).wl (d.fs.getD j f0T).wh (d.tw.getD (d.tw.length-1) 0)=false by assumption]at *;omega))).symm);done)|(subst hR;(refine qE ?_;(try simp only [qV]at *);(try simp only [zQ,zA,zB,zC,zD,zE,zF,zG,zH,zI,zJ,zK,zL,zM,zN,zO,zP,zR,zS]at *);(try simp only [uaj,uau,uaP,ub4,ub2,ub5,uae,uaf,uad,uag]at *);exact(ugH hF hm (ufa.2 ⟨hs1,hp1,fun k hk=>hq k (by omega),fun k hk=>hr k (by omega)⟩)).symm);done)|((try simp only [zQ,zA,zB,zC,zD,zE,zF,zG,zH,zI,zJ,zK,zL,zM,zN,zO,zP,zR,zS,uaj,uau,uaP,ub4,ub2,ub5,uae,uaf,uad,uag]at *);refine⟨⟨j+1,by omega,fun k hk=>(Nat.lt_or_ge k j).elim (hr k) fun q=>by rw [show k=j by omega];unfold uc8;omega⟩,by simp only [];omega,?_⟩;cbv;(repeat' (first|with_reducible refine ua4 ?_ ?_|with_reducible refine And.intro ?_ ?_));(all_goals first|trivial|exact qM (qE (by rfl))|exact qM (qF (by rfl))|exact qM (Fit.refl _)|exact qL (qK _)|(refine qM (qE ?_);(try simp only [qV]at *);simp only [zQ,zA,zB,zC,zD,zE,zF,zG,zH,zI,zJ,zK,zL,zM,zN,zO,zP,zR,zS]at *;omega)|(refine qL (qJ ?_);(repeat' (first|exact qA|exact qB|refine qC ?_ rfl ?_|refine qD ?_ ?_|exact qE (by rfl)|exact qF (by rfl)|exact Fit.refl _|exact qG _|(refine qE ?_;(try simp only [qV]at *);simp only [zQ,zA,zB,zC,zD,zE,zF,zG,zH,zI,zJ,zK,zL,zM,zN,zO,zP,zR,zS]at *;omega)));done)|skip))|skip
end Go.Proofs.YtkdggbfknlcdaaaGreat
namespace Go.Proofs.YtkdggbfknlcdaaaGreat
open Go.Eng.Dif Go.Eng.Few
def ufL (d:Dsp):Bool:=ufW d&&decide (ua7 d=0)
theorem um2 {d:Dsp}:ufL d=true↔ufW d=true∧ua7 d=0:=by
 unfold ufL
 rw [Bool.and_eq_true,decide_eq_true_eq]
theorem urV {d:Dsp}(h:uah d=0)(hr:upZ d=none):ueT d=[]:=by
 have hd:=ua3.1 (uas h).1
 have hr':unN (SN d) (LO d) (FO d d.fs) (FO d d.fs).length 0=none:=by rw [udV];exact hr
 have q:=(usd (okk hd hd.f) (uas h).2 hr').2
 rw [udV]at q
 have e:ueT d=ud1 d.fs.length (udh d):=if_pos h
 rw [e,ukU];exact q
theorem ut2 {w n:Int}(h0:0≤w)(hn:1≤n):0≤w.tmod n∧w.tmod n≤n-1:=by
 have a:=Int.tmod_nonneg n h0
 have b:=Int.tmod_lt_of_pos w (show 0<n by omega)
 omega
theorem uvF {d:Dsp}(hf:uah d=0):Asc d.pn.toNat 0 (udK d)∧0<(udK d).length:=by
 have hd:=ua3.1 (uas hf).1
 have h1:=hd.p1
 refine ulK (by omega) ?_
 unfold ugm
 rw [if_pos hf];exact ukI
theorem uwc {f:Nat→Int} {m:Int}:∀{P:Nat},(∀p,p<P→0≤f p∧f p≤m)→0≤uiS f P∧uiS f P≤P*m:=by
 intro P
 induction P with
 |zero=>intro _;simp [uiS]
 | succ P ih=>
  intro h
  have a:=ih fun p hp=>h p (by omega)
  have b:=h P (by omega)
  simp only [uiS]
  rw [Int.natCast_succ,Int.add_mul]
  omega
def wL (a1 a2:Int)(x:LkT):LkT:=⟨x.a,x.b,max (-2000) (x.lo-a1),min 2000 (x.hi+a2)⟩
end Go.Proofs.YtkdggbfknlcdaaaGreat
namespace Go.Proofs.YtkdggbfknlcdaaaGreat
open Go Go.Eng Go.Proofs Go.Eng.Dif Go.Eng.Few
set_option maxRecDepth 10000
theorem ujU (t:List Int)(hfew:t.length≤1000)(i:Nat)(hi:i<t.length∧∀j,j<i→(inB 0 (t.getD (j) 0) 2000)=true):ua0 Tryz.prog 99 [(iv fun _=>t.getD (i) 0),.own 0 0] [.cells [.clo 71 [(.agg [(.int .i64 (.lit 0)),(.int .i64 (.lit 2000))])] []] 121] (fun r bs=>r=(bv fun _=> !(inB 0 (t.getD (i) 0) 2000))∧bs=[.cells [.clo 71 [(.agg [(.int .i64 (.lit 0)),(.int .i64 (.lit 2000))])] []] 121]):=by
 have cf:=uu0 0 2000 (t.getD i 0)
 refine ua0.isB rfl fun R B hR hB=>qW (sc:=uA9) uan mix Tryz.func99 rfl Tryz.call99 (by kernel_rfl) (by kernel_rfl) ?_
 generalize Tryz.prog=P at cf⊢
 cbv
 repeat' (first|with_reducible refine And.intro ?_ ?_|(refine qP ?_ (cf) ?hfit;(case hfit=>((repeat' (first|exact qB|refine qD ?_ ?_|exact qE (by rfl)|exact qF (by rfl)|exact Fit.refl _|exact qA|refine qC ?_ rfl ?_));done));try cbv)|fail)
 all_goals first|(subst hR;(repeat' (first|exact qA|exact qB|refine qC ?_ rfl ?_|refine qD ?_ ?_|exact qE (by rfl)|exact qF (by rfl)|exact Fit.refl _|exact qG _|(refine qE ?_;(try simp only [qV]at *);simp only [zQ,zA,zB,zC,zD,zE,zF,zG,zH,zI,zJ,zK,zL,zM,zN,zO,zP,zR,zS]at *;omega)));done)|(subst hB;(repeat' (first|exact qH|refine qI ?_ ?_|exact qK _|refine qJ ?_|exact qA|exact qE (by rfl)|exact qF (by rfl)|exact Fit.refl _|exact qG _|refine qC ?_ rfl ?_));done)|skip
theorem ujH (t:List Int)(hfew:t.length≤1000):ua0 Tryz.prog 114 [(iS t),.clo 99 [] [.own 0 0]] [.cells [.clo 71 [(.agg [(.int .i64 (.lit 0)),(.int .i64 (.lit 2000))])] []] 121] (fun r bs=>r=(iv fun _=>ubJ (fun i=>inB 0 (t.getD (i) 0) 2000) (t.length) 0)∧bs=[.cells [.clo 71 [(.agg [(.int .i64 (.lit 0)),(.int .i64 (.lit 2000))])] []] 121]):=by
 have cl:=ujU t hfew
 refine ua0.isB rfl fun R B hR hB=>qW (sc:=utS) uan mix Tryz.func114 rfl Tryz.call114 (by kernel_rfl) (by kernel_rfl) ?_
 generalize Tryz.prog=P at cl⊢
 cbv
 repeat' (first|fail)
 all_goals first|skip
 refine⟨none,[],{i:Nat // i≤t.length∧ubJ (fun i=>inB 0 (t.getD (i) 0) 2000) (t.length) 0=ubJ (fun i=>inB 0 (t.getD (i) 0) 2000) (t.length-i) i∧∀j,j<i→(inB 0 (t.getD (j) 0) 2000)=true},fun x=>⟨[(0,(iS t)),(1,.clo 99 [] [.own 0 0]),(7,(iv fun _=>zi (t.length))),(8,(iv fun _=>zi x.1))],[(0,.cells [.clo 71 [(.agg [(.int .i64 (.lit 0)),(.int .i64 (.lit 2000))])] []] 121)],20⟩,fun x=>t.length-x.1,?_,?_⟩
 ·refine⟨⟨0,by omega,rfl,fun j hj=>by omega⟩,?_⟩
  cbv
  repeat' (first|with_reducible refine ua4 ?_ ?_|with_reducible refine And.intro ?_ ?_)
  all_goals first|trivial|exact qM (qE (by rfl))|exact qM (Fit.refl _)|exact qL (qK _)|skip
 ·rintro ⟨i,hi,hr,hq⟩
  cbv
  repeat' (first
   |with_reducible refine ua4 ?_ ?_
   |with_reducible refine And.intro ?_ ?_
   |(with_reducible intro hcd;(try simp only [zA,zB,zC,zD,zE,zF,zG,zH,zI,zJ,zK,zL,zM,zN,zO,zP]at hcd);try cbv)
   | (refine⟨some [0],?_⟩
      cbv
      refine qQ ?_ (cl i ⟨by(try simp only [qV]at *);simp only [uaa]at *;omega,hq⟩) (by cbv;(repeat' (first|exact qB|refine qD ?_ ?_|exact qE (by rfl)|exact qF (by rfl)|exact Fit.refl _|exact qA|refine qC ?_ rfl ?_))) (by cbv;(repeat' (first|exact qH|refine qI ?_ ?_|exact qK _|refine qJ ?_|exact qA|exact qE (by rfl)|exact qF (by rfl)|exact Fit.refl _|exact qG _|refine qC ?_ rfl ?_)))
      try cbv)
   |fail)
  all_goals first|((try simp only [qV]at *);(try simp only [zQ,zA,zB,zC,zD,zE,zF,zG,zH,zI,zJ,zK,zL,zM,zN,zO,zP,zR,zS]at *);first|(refine qN ?_;omega)|(simp only [uaq];omega))|(subst hR;(refine qE ?_;simp only [zQ,zA,zB,zC,zD,zE,zF,zG,zH,zI,zJ,zK,zL,zM,zN,zO,zP,zR,zS]at *;rw [hr,ub9 (by omega) hcd]);done)|(subst hR;(refine qE ?_;simp only [zQ,zA,zB,zC,zD,zE,zF,zG,zH,zI,zJ,zK,zL,zM,zN,zO,zP,zR,zS]at *;rw [hr,show t.length-i=0 by omega];rfl);done)|(subst hB;(repeat' (first|exact qH|refine qI ?_ ?_|exact qK _|refine qJ ?_|exact qA|exact qE (by rfl)|exact qF (by rfl)|exact Fit.refl _|exact qG _|refine qC ?_ rfl ?_));done)|((try simp only [zQ,zA,zB,zC,zD,zE,zF,zG,zH,zI,zJ,zK,zL,zM,zN,zO,zP,zR,zS]at *);refine⟨⟨i+1,by omega,by rw [hr,ucl (by omega) hcd];(try congr 1)<;>omega,fun j hj=>(Nat.lt_or_ge j i).elim (hq j) (fun q=>by rw [show j=i by omega];exact hcd)⟩,by simp only [];omega,?_⟩;cbv;(repeat' (first|with_reducible refine ua4 ?_ ?_|with_reducible refine And.intro ?_ ?_));(all_goals first|trivial|exact qM (qE (by rfl))|exact qM (qF (by rfl))|exact qM (Fit.refl _)|exact qL (qK _)|(refine qM (qE ?_);(try simp only [qV]at *);simp only [zQ,zA,zB,zC,zD,zE,zF,zG,zH,zI,zJ,zK,zL,zM,zN,zO,zP,zR,zS]at *;omega)|(refine qL (qJ ?_);(repeat' (first|exact qA|exact qB|refine qC ?_ rfl ?_|refine qD ?_ ?_|exact qE (by rfl)|exact qF (by rfl)|exact Fit.refl _|exact qG _|(refine qE ?_;(try simp only [qV]at *);simp only [zQ,zA,zB,zC,zD,zE,zF,zG,zH,zI,zJ,zK,zL,zM,zN,zO,zP,zR,zS]at *;omega)));done)|skip))|skip
theorem ujk (t:List Int)(hfew:t.length≤1000):ua0 Tryz.prog 98 [(iS t),.clo 99 [] [.own 0 0]] [.cells [.clo 71 [(.agg [(.int .i64 (.lit 0)),(.int .i64 (.lit 2000))])] []] 121] (fun r bs=>r=(bv fun _=>decide (0≤ubJ (fun i=>inB 0 (t.getD (i) 0) 2000) (t.length) 0))∧bs=[.cells [.clo 71 [(.agg [(.int .i64 (.lit 0)),(.int .i64 (.lit 2000))])] []] 121]):=by
 have ci:=ujH t hfew
 refine ua0.isB rfl fun R B hR hB=>qW (sc:=uzL) uan mix Tryz.func98 rfl Tryz.call98 (by kernel_rfl) (by kernel_rfl) ?_
 generalize Tryz.prog=P at ci⊢
 cbv
 repeat' (first
  |with_reducible refine And.intro ?_ ?_
  | (refine⟨some [0],?_⟩
     cbv
     refine qQ ?_ (ci) (by cbv;(repeat' (first|exact qB|refine qD ?_ ?_|exact qE (by rfl)|exact qF (by rfl)|exact Fit.refl _|exact qA|refine qC ?_ rfl ?_))) (by cbv;(repeat' (first|exact qH|refine qI ?_ ?_|exact qK _|refine qJ ?_|exact qA|exact qE (by rfl)|exact qF (by rfl)|exact Fit.refl _|exact qG _|refine qC ?_ rfl ?_)))
     try cbv)
  |fail)
 all_goals first|(subst hR;(repeat' (first|exact qA|exact qB|refine qC ?_ rfl ?_|refine qD ?_ ?_|exact qE (by rfl)|exact qF (by rfl)|exact Fit.refl _|exact qG _|(refine qE ?_;(try simp only [qV]at *);simp only [zQ,zA,zB,zC,zD,zE,zF,zG,zH,zI,zJ,zK,zL,zM,zN,zO,zP,zR,zS]at *;omega)));done)|(subst hB;(repeat' (first|exact qH|refine qI ?_ ?_|exact qK _|refine qJ ?_|exact qA|exact qE (by rfl)|exact qF (by rfl)|exact Fit.refl _|exact qG _|refine qC ?_ rfl ?_));done)|skip
theorem ull (t:List Int)(hfew:t.length≤1000):ua0 Tryz.prog 70 [(iS t),.clo 71 [(.agg [(.int .i64 (.lit 0)),(.int .i64 (.lit 2000))])] []] [] (fun r _=>r=(bv fun _=>uh2 (fun i=>inB 0 (t.getD (i) 0) 2000) (t.length))):=by
 have cc:=ujk t hfew
 refine ua0.is fun R hR=>qW (sc:=uAA) uan mix Tryz.func70 rfl Tryz.call70 (by kernel_rfl) (by kernel_rfl) ?_
 generalize Tryz.prog=P at cc⊢
 cbv
 repeat' (first
  | (refine⟨some [0],?_⟩
     cbv
     refine qQ ?_ (cc) (by cbv;(repeat' (first|exact qB|refine qD ?_ ?_|exact qE (by rfl)|exact qF (by rfl)|exact Fit.refl _|exact qA|refine qC ?_ rfl ?_))) (by cbv;(repeat' (first|exact qH|refine qI ?_ ?_|exact qK _|refine qJ ?_|exact qA|exact qE (by rfl)|exact qF (by rfl)|exact Fit.refl _|exact qG _|refine qC ?_ rfl ?_)))
     try cbv)
  |fail)
 all_goals first|(subst hR;(repeat' (first|exact qA|exact qB|refine qC ?_ rfl ?_|refine qD ?_ ?_|exact qE (by rfl)|exact qF (by rfl)|exact Fit.refl _|exact qG _|(refine qE ?_;(try simp only [qV]at *);simp only [zQ,zA,zB,zC,zD,zE,zF,zG,zH,zI,zJ,zK,zL,zM,zN,zO,zP,zR,zS]at *;omega)));done)|skip
theorem uyv (d:Dsp)(t:List Int)(i:Nat)(hd:DOk d)(hl:(t.length:Int)=d.sn)(ht:∀i,i<t.length→0≤t.getD i 0∧t.getD i 0≤2000)(hi:i<d.ls.length):ua0 Tryz.prog 73 [(.agg [(iv fun _=>(d.ls.getD (i) l0T).a),(iv fun _=>(d.ls.getD (i) l0T).b),(iv fun _=>(d.ls.getD (i) l0T).lo),(iv fun _=>(d.ls.getD (i) l0T).hi)]),.own 0 0] [.cells [(iS t)] 22] (fun r bs=>r=(bv fun _=>inB (d.ls.getD (i) l0T).lo (t.getD (d.ls.getD (i) l0T).b.toNat 0-t.getD (d.ls.getD (i) l0T).a.toNat 0) (d.ls.getD (i) l0T).hi)∧bs=[.cells [(iS t)] 22]):=by
 have c70:= @uu0
 have hx:=hd.l i hi
 unfold ucI at hx
 have h1:=ht (d.ls.getD i l0T).a.toNat (by omega)
 have h2:=ht (d.ls.getD i l0T).b.toNat (by omega)
 refine ua0.isB rfl fun R B hR hB=>qW (sc:=uAh) uan mix Tryz.func73 rfl Tryz.call73 (by kernel_rfl) (by kernel_rfl) ?_
 generalize Tryz.prog=P at c70⊢
 cbv
 repeat' (first|with_reducible refine ua4 ?_ ?_|with_reducible refine And.intro ?_ ?_|(refine qP ?_ (c70 _ _ _) (by(repeat' (first|exact qB|refine qD ?_ ?_|exact qE (by rfl)|exact qF (by rfl)|exact Fit.refl _|exact qA|refine qC ?_ rfl ?_)));try cbv)|fail)
 all_goals first|((try simp only [qV]at *);(try simp only [zQ,zA,zB,zC,zD,zE,zF,zG,zH,zI,zJ,zK,zL,zM,zN,zO,zP,zR,zS]at *);first|(refine qN ?_;omega)|(simp only [uaq];omega))|(subst hR;(repeat' (first|exact qA|exact qB|refine qC ?_ rfl ?_|refine qD ?_ ?_|exact qE (by rfl)|exact qF (by rfl)|exact Fit.refl _|exact qG _|(refine qE ?_;(try simp only [qV]at *);simp only [zQ,zA,zB,zC,zD,zE,zF,zG,zH,zI,zJ,zK,zL,zM,zN,zO,zP,zR,zS]at *;omega)));done)|(subst hB;(repeat' (first|exact qH|refine qI ?_ ?_|exact qK _|refine qJ ?_|exact qA|exact qE (by rfl)|exact qF (by rfl)|exact Fit.refl _|exact qG _|refine qC ?_ rfl ?_));done)|skip
theorem uz2 (d:Dsp)(t:List Int)(i:Nat)(hd:DOk d)(hl:(t.length:Int)=d.sn)(ht:∀i,i<t.length→0≤t.getD i 0∧t.getD i 0≤2000)(hi:i<d.fs.length):ua0 Tryz.prog 75 [(.agg [(iv fun _=>(d.fs.getD (i) f0T).p),(iv fun _=>(d.fs.getD (i) f0T).s),(iv fun _=>(d.fs.getD (i) f0T).wl),(iv fun _=>(d.fs.getD (i) f0T).wh),(iv fun _=>(d.fs.getD (i) f0T).ml),(iv fun _=>(d.fs.getD (i) f0T).mh)]),.own 0 0,.own 1 0] [.cells [(wpS d)] 87,.cells [(iS t)] 22] (fun r bs=>r=(bv fun _=>inB (mLo d (d.fs.getD (i) f0T)) (t.getD (d.fs.getD (i) f0T).s.toNat 0) (mHi d (d.fs.getD (i) f0T)))∧bs=[.cells [(wpS d)] 87,.cells [(iS t)] 22]):=by
 have c70:= @uu0
 have hx:=hd.f i hi
 have hq:=hx
 unfold uc8 at hx
 have c45:=up4 d (d.fs.getD i f0T) hd.t hq
 refine ua0.isB rfl fun R B hR hB=>qW (sc:=uAz) uan mix Tryz.func75 rfl Tryz.call75 (by kernel_rfl) (by kernel_rfl) ?_
 generalize Tryz.prog=P at c70 c45⊢
 cbv
 repeat' (first|with_reducible refine ua4 ?_ ?_|with_reducible refine And.intro ?_ ?_|(refine qP ?_ (c45) ?hfit;(case hfit=>((repeat' (first|exact qB|refine qD ?_ ?_|exact qE (by rfl)|exact qF (by rfl)|exact Fit.refl _|exact qA|refine qC ?_ rfl ?_));done));try cbv)|(refine qP ?_ (c70 _ _ _) (by(repeat' (first|exact qB|refine qD ?_ ?_|exact qE (by rfl)|exact qF (by rfl)|exact Fit.refl _|exact qA|refine qC ?_ rfl ?_)));try cbv)|fail)
 all_goals first|((try simp only [qV]at *);(try simp only [zQ,zA,zB,zC,zD,zE,zF,zG,zH,zI,zJ,zK,zL,zM,zN,zO,zP,zR,zS]at *);first|(refine qN ?_;omega)|(simp only [uaq];omega))|(subst hR;(repeat' (first|exact qA|exact qB|refine qC ?_ rfl ?_|refine qD ?_ ?_|exact qE (by rfl)|exact qF (by rfl)|exact Fit.refl _|exact qG _|(refine qE ?_;(try simp only [qV]at *);simp only [zQ,zA,zB,zC,zD,zE,zF,zG,zH,zI,zJ,zK,zL,zM,zN,zO,zP,zR,zS]at *;omega)));done)|(subst hB;(repeat' (first|exact qH|refine qI ?_ ?_|exact qK _|refine qJ ?_|exact qA|exact qE (by rfl)|exact qF (by rfl)|exact Fit.refl _|exact qG _|refine qC ?_ rfl ?_));done)|skip
theorem uoR (d:Dsp)(t:List Int)(hd:DOk d)(hl:(t.length:Int)=d.sn)(ht:∀i,i<t.length→0≤t.getD i 0∧t.getD i 0≤2000)(hfew:d.ls.length≤1000)(i:Nat)(hi:i<d.ls.length∧∀j,j<i→(inB (d.ls.getD (j) l0T).lo (t.getD (d.ls.getD (j) l0T).b.toNat 0-t.getD (d.ls.getD (j) l0T).a.toNat 0) (d.ls.getD (j) l0T).hi)=true):ua0 Tryz.prog 101 [(.agg [(iv fun _=>(d.ls.getD (i) l0T).a),(iv fun _=>(d.ls.getD (i) l0T).b),(iv fun _=>(d.ls.getD (i) l0T).lo),(iv fun _=>(d.ls.getD (i) l0T).hi)]),.own 0 0] [.cells [.clo 73 [] [.own 1 0]] 133,.cells [(iS t)] 22] (fun r bs=>r=(bv fun _=> !(inB (d.ls.getD (i) l0T).lo (t.getD (d.ls.getD (i) l0T).b.toNat 0-t.getD (d.ls.getD (i) l0T).a.toNat 0) (d.ls.getD (i) l0T).hi))∧bs=[.cells [.clo 73 [] [.own 1 0]] 133,.cells [(iS t)] 22]):=by
 have cf:=uyv d t i hd hl ht hi.1
 refine ua0.isB rfl fun R B hR hB=>qW (sc:=uxt) uan mix Tryz.func101 rfl Tryz.call101 (by kernel_rfl) (by kernel_rfl) ?_
 generalize Tryz.prog=P at cf⊢
 cbv
 repeat' (first
  |with_reducible refine And.intro ?_ ?_
  | (refine⟨some [1],?_⟩
     cbv
     refine qQ ?_ (cf) (by cbv;(repeat' (first|exact qB|refine qD ?_ ?_|exact qE (by rfl)|exact qF (by rfl)|exact Fit.refl _|exact qA|refine qC ?_ rfl ?_))) (by cbv;(repeat' (first|exact qH|refine qI ?_ ?_|exact qK _|refine qJ ?_|exact qA|exact qE (by rfl)|exact qF (by rfl)|exact Fit.refl _|exact qG _|refine qC ?_ rfl ?_)))
     try cbv)
  |fail)
 all_goals first|(subst hR;(repeat' (first|exact qA|exact qB|refine qC ?_ rfl ?_|refine qD ?_ ?_|exact qE (by rfl)|exact qF (by rfl)|exact Fit.refl _|exact qG _|(refine qE ?_;(try simp only [qV]at *);simp only [zQ,zA,zB,zC,zD,zE,zF,zG,zH,zI,zJ,zK,zL,zM,zN,zO,zP,zR,zS]at *;omega)));done)|(subst hB;(repeat' (first|exact qH|refine qI ?_ ?_|exact qK _|refine qJ ?_|exact qA|exact qE (by rfl)|exact qF (by rfl)|exact Fit.refl _|exact qG _|refine qC ?_ rfl ?_));done)|skip
theorem umZ (d:Dsp)(t:List Int)(hd:DOk d)(hl:(t.length:Int)=d.sn)(ht:∀i,i<t.length→0≤t.getD i 0∧t.getD i 0≤2000)(hfew:d.ls.length≤1000):ua0 Tryz.prog 115 [(.sl 4 (.sym fun _=>zi (d.ls).length) (fun ix=>[(iv fun _=>((d.ls).getD ix.den.toNat l0T).a),(iv fun _=>((d.ls).getD ix.den.toNat l0T).b),(iv fun _=>((d.ls).getD ix.den.toNat l0T).lo),(iv fun _=>((d.ls).getD ix.den.toNat l0T).hi)])),.clo 101 [] [.own 0 0]] [.cells [.clo 73 [] [.own 1 0]] 133,.cells [(iS t)] 22] (fun r bs=>r=(iv fun _=>ubJ (fun i=>inB (d.ls.getD (i) l0T).lo (t.getD (d.ls.getD (i) l0T).b.toNat 0-t.getD (d.ls.getD (i) l0T).a.toNat 0) (d.ls.getD (i) l0T).hi) (d.ls.length) 0)∧bs=[.cells [.clo 73 [] [.own 1 0]] 133,.cells [(iS t)] 22]):=by
 have cl:=uoR d t hd hl ht hfew
 refine ua0.isB rfl fun R B hR hB=>qW (sc:=uxi) uan mix Tryz.func115 rfl Tryz.call115 (by kernel_rfl) (by kernel_rfl) ?_
 generalize Tryz.prog=P at cl⊢
 cbv
 repeat' (first|fail)
 all_goals first|skip
 refine⟨none,[],{i:Nat // i≤d.ls.length∧ubJ (fun i=>inB (d.ls.getD (i) l0T).lo (t.getD (d.ls.getD (i) l0T).b.toNat 0-t.getD (d.ls.getD (i) l0T).a.toNat 0) (d.ls.getD (i) l0T).hi) (d.ls.length) 0=ubJ (fun i=>inB (d.ls.getD (i) l0T).lo (t.getD (d.ls.getD (i) l0T).b.toNat 0-t.getD (d.ls.getD (i) l0T).a.toNat 0) (d.ls.getD (i) l0T).hi) (d.ls.length-i) i∧∀j,j<i→(inB (d.ls.getD (j) l0T).lo (t.getD (d.ls.getD (j) l0T).b.toNat 0-t.getD (d.ls.getD (j) l0T).a.toNat 0) (d.ls.getD (j) l0T).hi)=true},fun x=>⟨[(0,(.sl 4 (.sym fun _=>zi (d.ls).length) (fun ix=>[(iv fun _=>((d.ls).getD ix.den.toNat l0T).a),(iv fun _=>((d.ls).getD ix.den.toNat l0T).b),(iv fun _=>((d.ls).getD ix.den.toNat l0T).lo),(iv fun _=>((d.ls).getD ix.den.toNat l0T).hi)]))),(1,.clo 101 [] [.own 0 0]),(7,(iv fun _=>zi (d.ls.length))),(8,(iv fun _=>zi x.1))],[(0,.cells [.clo 73 [] [.own 1 0]] 133),(1,.cells [(iS t)] 22)],20⟩,fun x=>d.ls.length-x.1,?_,?_⟩
 ·refine⟨⟨0,by omega,rfl,fun j hj=>by omega⟩,?_⟩
  cbv
  repeat' (first|with_reducible refine ua4 ?_ ?_|with_reducible refine And.intro ?_ ?_)
  all_goals first|trivial|exact qM (qE (by rfl))|exact qM (Fit.refl _)|exact qL (qK _)|skip
 ·rintro ⟨i,hi,hr,hq⟩
  cbv
  repeat' (first
   |with_reducible refine ua4 ?_ ?_
   |with_reducible refine And.intro ?_ ?_
   |(with_reducible intro hcd;(try simp only [zA,zB,zC,zD,zE,zF,zG,zH,zI,zJ,zK,zL,zM,zN,zO,zP]at hcd);try cbv)
   | (refine⟨some [0,1],?_⟩
      cbv
      refine qQ ?_ (cl i ⟨by(try simp only [qV]at *);simp only [uaa]at *;omega,hq⟩) (by cbv;(repeat' (first|exact qB|refine qD ?_ ?_|exact qE (by rfl)|exact qF (by rfl)|exact Fit.refl _|exact qA|refine qC ?_ rfl ?_))) (by cbv;(repeat' (first|exact qH|refine qI ?_ ?_|exact qK _|refine qJ ?_|exact qA|exact qE (by rfl)|exact qF (by rfl)|exact Fit.refl _|exact qG _|refine qC ?_ rfl ?_)))
      try cbv)
   |fail)
  all_goals first|((try simp only [qV]at *);(try simp only [zQ,zA,zB,zC,zD,zE,zF,zG,zH,zI,zJ,zK,zL,zM,zN,zO,zP,zR,zS]at *);first|(refine qN ?_;omega)|(simp only [uaq];omega))|(subst hR;(refine qE ?_;simp only [zQ,zA,zB,zC,zD,zE,zF,zG,zH,zI,zJ,zK,zL,zM,zN,zO,zP,zR,zS]at *;rw [hr,ub9 (by omega) hcd]);done)|(subst hR;(refine qE ?_;simp only [zQ,zA,zB,zC,zD,zE,zF,zG,zH,zI,zJ,zK,zL,zM,zN,zO,zP,zR,zS]at *;rw [hr,show d.ls.length-i=0 by omega];rfl);done)|(subst hB;(repeat' (first|exact qH|refine qI ?_ ?_|exact qK _|refine qJ ?_|exact qA|exact qE (by rfl)|exact qF (by rfl)|exact Fit.refl _|exact qG _|refine qC ?_ rfl ?_));done)|((try simp only [zQ,zA,zB,zC,zD,zE,zF,zG,zH,zI,zJ,zK,zL,zM,zN,zO,zP,zR,zS]at *);refine⟨⟨i+1,by omega,by rw [hr,ucl (by omega) hcd];(try congr 1)<;>omega,fun j hj=>(Nat.lt_or_ge j i).elim (hq j) (fun q=>by rw [show j=i by omega];exact hcd)⟩,by simp only [];omega,?_⟩;cbv;(repeat' (first|with_reducible refine ua4 ?_ ?_|with_reducible refine And.intro ?_ ?_));(all_goals first|trivial|exact qM (qE (by rfl))|exact qM (qF (by rfl))|exact qM (Fit.refl _)|exact qL (qK _)|(refine qM (qE ?_);(try simp only [qV]at *);simp only [zQ,zA,zB,zC,zD,zE,zF,zG,zH,zI,zJ,zK,zL,zM,zN,zO,zP,zR,zS]at *;omega)|(refine qL (qJ ?_);(repeat' (first|exact qA|exact qB|refine qC ?_ rfl ?_|refine qD ?_ ?_|exact qE (by rfl)|exact qF (by rfl)|exact Fit.refl _|exact qG _|(refine qE ?_;(try simp only [qV]at *);simp only [zQ,zA,zB,zC,zD,zE,zF,zG,zH,zI,zJ,zK,zL,zM,zN,zO,zP,zR,zS]at *;omega)));done)|skip))|skip
theorem unz (d:Dsp)(t:List Int)(hd:DOk d)(hl:(t.length:Int)=d.sn)(ht:∀i,i<t.length→0≤t.getD i 0∧t.getD i 0≤2000)(hfew:d.ls.length≤1000):ua0 Tryz.prog 100 [(.sl 4 (.sym fun _=>zi (d.ls).length) (fun ix=>[(iv fun _=>((d.ls).getD ix.den.toNat l0T).a),(iv fun _=>((d.ls).getD ix.den.toNat l0T).b),(iv fun _=>((d.ls).getD ix.den.toNat l0T).lo),(iv fun _=>((d.ls).getD ix.den.toNat l0T).hi)])),.clo 101 [] [.own 0 0]] [.cells [.clo 73 [] [.own 1 0]] 133,.cells [(iS t)] 22] (fun r bs=>r=(bv fun _=>decide (0≤ubJ (fun i=>inB (d.ls.getD (i) l0T).lo (t.getD (d.ls.getD (i) l0T).b.toNat 0-t.getD (d.ls.getD (i) l0T).a.toNat 0) (d.ls.getD (i) l0T).hi) (d.ls.length) 0))∧bs=[.cells [.clo 73 [] [.own 1 0]] 133,.cells [(iS t)] 22]):=by
 have ci:=umZ d t hd hl ht hfew
 refine ua0.isB rfl fun R B hR hB=>qW (sc:=uwB) uan mix Tryz.func100 rfl Tryz.call100 (by kernel_rfl) (by kernel_rfl) ?_
 generalize Tryz.prog=P at ci⊢
 cbv
 repeat' (first
  |with_reducible refine And.intro ?_ ?_
  | (refine⟨some [0,1],?_⟩
     cbv
     refine qQ ?_ (ci) (by cbv;(repeat' (first|exact qB|refine qD ?_ ?_|exact qE (by rfl)|exact qF (by rfl)|exact Fit.refl _|exact qA|refine qC ?_ rfl ?_))) (by cbv;(repeat' (first|exact qH|refine qI ?_ ?_|exact qK _|refine qJ ?_|exact qA|exact qE (by rfl)|exact qF (by rfl)|exact Fit.refl _|exact qG _|refine qC ?_ rfl ?_)))
     try cbv)
  |fail)
 all_goals first|(subst hR;(repeat' (first|exact qA|exact qB|refine qC ?_ rfl ?_|refine qD ?_ ?_|exact qE (by rfl)|exact qF (by rfl)|exact Fit.refl _|exact qG _|(refine qE ?_;(try simp only [qV]at *);simp only [zQ,zA,zB,zC,zD,zE,zF,zG,zH,zI,zJ,zK,zL,zM,zN,zO,zP,zR,zS]at *;omega)));done)|(subst hB;(repeat' (first|exact qH|refine qI ?_ ?_|exact qK _|refine qJ ?_|exact qA|exact qE (by rfl)|exact qF (by rfl)|exact Fit.refl _|exact qG _|refine qC ?_ rfl ?_));done)|skip
theorem uoo (d:Dsp)(t:List Int)(hd:DOk d)(hl:(t.length:Int)=d.sn)(ht:∀i,i<t.length→0≤t.getD i 0∧t.getD i 0≤2000)(hfew:d.ls.length≤1000):ua0 Tryz.prog 72 [(.sl 4 (.sym fun _=>zi (d.ls).length) (fun ix=>[(iv fun _=>((d.ls).getD ix.den.toNat l0T).a),(iv fun _=>((d.ls).getD ix.den.toNat l0T).b),(iv fun _=>((d.ls).getD ix.den.toNat l0T).lo),(iv fun _=>((d.ls).getD ix.den.toNat l0T).hi)])),.clo 73 [] [.own 0 0]] [.cells [(iS t)] 22] (fun r bs=>r=(bv fun _=>uh2 (fun i=>inB (d.ls.getD (i) l0T).lo (t.getD (d.ls.getD (i) l0T).b.toNat 0-t.getD (d.ls.getD (i) l0T).a.toNat 0) (d.ls.getD (i) l0T).hi) (d.ls.length))∧bs=[.cells [(iS t)] 22]):=by
 have cc:=unz d t hd hl ht hfew
 refine ua0.isB rfl fun R B hR hB=>qW (sc:=uA8) uan mix Tryz.func72 rfl Tryz.call72 (by kernel_rfl) (by kernel_rfl) ?_
 generalize Tryz.prog=P at cc⊢
 cbv
 repeat' (first
  |with_reducible refine And.intro ?_ ?_
  | (refine⟨some [1,0],?_⟩
     cbv
     refine qQ ?_ (cc) (by cbv;(repeat' (first|exact qB|refine qD ?_ ?_|exact qE (by rfl)|exact qF (by rfl)|exact Fit.refl _|exact qA|refine qC ?_ rfl ?_))) (by cbv;(repeat' (first|exact qH|refine qI ?_ ?_|exact qK _|refine qJ ?_|exact qA|exact qE (by rfl)|exact qF (by rfl)|exact Fit.refl _|exact qG _|refine qC ?_ rfl ?_)))
     try cbv)
  |fail)
 all_goals first|(subst hR;(repeat' (first|exact qA|exact qB|refine qC ?_ rfl ?_|refine qD ?_ ?_|exact qE (by rfl)|exact qF (by rfl)|exact Fit.refl _|exact qG _|(refine qE ?_;(try simp only [qV]at *);simp only [zQ,zA,zB,zC,zD,zE,zF,zG,zH,zI,zJ,zK,zL,zM,zN,zO,zP,zR,zS]at *;omega)));done)|(subst hB;(repeat' (first|exact qH|refine qI ?_ ?_|exact qK _|refine qJ ?_|exact qA|exact qE (by rfl)|exact qF (by rfl)|exact Fit.refl _|exact qG _|refine qC ?_ rfl ?_));done)|skip
theorem uqJ (d:Dsp)(t:List Int)(hd:DOk d)(hl:(t.length:Int)=d.sn)(ht:∀i,i<t.length→0≤t.getD i 0∧t.getD i 0≤2000)(hfew:d.fs.length≤1000)(i:Nat)(hi:i<d.fs.length∧∀j,j<i→(inB (mLo d (d.fs.getD (j) f0T)) (t.getD (d.fs.getD (j) f0T).s.toNat 0) (mHi d (d.fs.getD (j) f0T)))=true):ua0 Tryz.prog 103 [(.agg [(iv fun _=>(d.fs.getD (i) f0T).p),(iv fun _=>(d.fs.getD (i) f0T).s),(iv fun _=>(d.fs.getD (i) f0T).wl),(iv fun _=>(d.fs.getD (i) f0T).wh),(iv fun _=>(d.fs.getD (i) f0T).ml),(iv fun _=>(d.fs.getD (i) f0T).mh)]),.own 0 0] [.cells [.clo 75 [] [.own 1 0,.own 2 0]] 136,.cells [(wpS d)] 87,.cells [(iS t)] 22] (fun r bs=>r=(bv fun _=> !(inB (mLo d (d.fs.getD (i) f0T)) (t.getD (d.fs.getD (i) f0T).s.toNat 0) (mHi d (d.fs.getD (i) f0T))))∧bs=[.cells [.clo 75 [] [.own 1 0,.own 2 0]] 136,.cells [(wpS d)] 87,.cells [(iS t)] 22]):=by
 have cf:=uz2 d t i hd hl ht hi.1
 refine ua0.isB rfl fun R B hR hB=>qW (sc:=uwr) uan mix Tryz.func103 rfl Tryz.call103 (by kernel_rfl) (by kernel_rfl) ?_
 generalize Tryz.prog=P at cf⊢
 cbv
 repeat' (first
  |with_reducible refine And.intro ?_ ?_
  | (refine⟨some [1,2],?_⟩
     cbv
     refine qQ ?_ (cf) (by cbv;(repeat' (first|exact qB|refine qD ?_ ?_|exact qE (by rfl)|exact qF (by rfl)|exact Fit.refl _|exact qA|refine qC ?_ rfl ?_))) (by cbv;(repeat' (first|exact qH|refine qI ?_ ?_|exact qK _|refine qJ ?_|exact qA|exact qE (by rfl)|exact qF (by rfl)|exact Fit.refl _|exact qG _|refine qC ?_ rfl ?_)))
     try cbv)
  |fail)
 all_goals first|(subst hR;(repeat' (first|exact qA|exact qB|refine qC ?_ rfl ?_|refine qD ?_ ?_|exact qE (by rfl)|exact qF (by rfl)|exact Fit.refl _|exact qG _|(refine qE ?_;(try simp only [qV]at *);simp only [zQ,zA,zB,zC,zD,zE,zF,zG,zH,zI,zJ,zK,zL,zM,zN,zO,zP,zR,zS]at *;omega)));done)|(subst hB;(repeat' (first|exact qH|refine qI ?_ ?_|exact qK _|refine qJ ?_|exact qA|exact qE (by rfl)|exact qF (by rfl)|exact Fit.refl _|exact qG _|refine qC ?_ rfl ?_));done)|skip
theorem unX (d:Dsp)(t:List Int)(hd:DOk d)(hl:(t.length:Int)=d.sn)(ht:∀i,i<t.length→0≤t.getD i 0∧t.getD i 0≤2000)(hfew:d.fs.length≤1000):ua0 Tryz.prog 116 [(.sl 6 (.sym fun _=>zi (d.fs).length) (fun ix=>[(iv fun _=>((d.fs).getD ix.den.toNat f0T).p),(iv fun _=>((d.fs).getD ix.den.toNat f0T).s),(iv fun _=>((d.fs).getD ix.den.toNat f0T).wl),(iv fun _=>((d.fs).getD ix.den.toNat f0T).wh),(iv fun _=>((d.fs).getD ix.den.toNat f0T).ml),(iv fun _=>((d.fs).getD ix.den.toNat f0T).mh)])),.clo 103 [] [.own 0 0]] [.cells [.clo 75 [] [.own 1 0,.own 2 0]] 136,.cells [(wpS d)] 87,.cells [(iS t)] 22] (fun r bs=>r=(iv fun _=>ubJ (fun i=>inB (mLo d (d.fs.getD (i) f0T)) (t.getD (d.fs.getD (i) f0T).s.toNat 0) (mHi d (d.fs.getD (i) f0T))) (d.fs.length) 0)∧bs=[.cells [.clo 75 [] [.own 1 0,.own 2 0]] 136,.cells [(wpS d)] 87,.cells [(iS t)] 22]):=by
 have cl:=uqJ d t hd hl ht hfew
 refine ua0.isB rfl fun R B hR hB=>qW (sc:=uwQ) uan mix Tryz.func116 rfl Tryz.call116 (by kernel_rfl) (by kernel_rfl) ?_
 generalize Tryz.prog=P at cl⊢
 cbv
 repeat' (first|fail)
 all_goals first|skip
 refine⟨none,[],{i:Nat // i≤d.fs.length∧ubJ (fun i=>inB (mLo d (d.fs.getD (i) f0T)) (t.getD (d.fs.getD (i) f0T).s.toNat 0) (mHi d (d.fs.getD (i) f0T))) (d.fs.length) 0=ubJ (fun i=>inB (mLo d (d.fs.getD (i) f0T)) (t.getD (d.fs.getD (i) f0T).s.toNat 0) (mHi d (d.fs.getD (i) f0T))) (d.fs.length-i) i∧∀j,j<i→(inB (mLo d (d.fs.getD (j) f0T)) (t.getD (d.fs.getD (j) f0T).s.toNat 0) (mHi d (d.fs.getD (j) f0T)))=true},fun x=>⟨[(0,(.sl 6 (.sym fun _=>zi (d.fs).length) (fun ix=>[(iv fun _=>((d.fs).getD ix.den.toNat f0T).p),(iv fun _=>((d.fs).getD ix.den.toNat f0T).s),(iv fun _=>((d.fs).getD ix.den.toNat f0T).wl),(iv fun _=>((d.fs).getD ix.den.toNat f0T).wh),(iv fun _=>((d.fs).getD ix.den.toNat f0T).ml),(iv fun _=>((d.fs).getD ix.den.toNat f0T).mh)]))),(1,.clo 103 [] [.own 0 0]),(7,(iv fun _=>zi (d.fs.length))),(8,(iv fun _=>zi x.1))],[(0,.cells [.clo 75 [] [.own 1 0,.own 2 0]] 136),(1,.cells [(wpS d)] 87),(2,.cells [(iS t)] 22)],20⟩,fun x=>d.fs.length-x.1,?_,?_⟩
 ·refine⟨⟨0,by omega,rfl,fun j hj=>by omega⟩,?_⟩
  cbv
  repeat' (first|with_reducible refine ua4 ?_ ?_|with_reducible refine And.intro ?_ ?_)
  all_goals first|trivial|exact qM (qE (by rfl))|exact qM (Fit.refl _)|exact qL (qK _)|skip
 ·rintro ⟨i,hi,hr,hq⟩
  cbv
  repeat' (first
   |with_reducible refine ua4 ?_ ?_
   |with_reducible refine And.intro ?_ ?_
   |(with_reducible intro hcd;(try simp only [zA,zB,zC,zD,zE,zF,zG,zH,zI,zJ,zK,zL,zM,zN,zO,zP]at hcd);try cbv)
   | (refine⟨some [0,1,2],?_⟩
      cbv
      refine qQ ?_ (cl i ⟨by(try simp only [qV]at *);simp only [uaa]at *;omega,hq⟩) (by cbv;(repeat' (first|exact qB|refine qD ?_ ?_|exact qE (by rfl)|exact qF (by rfl)|exact Fit.refl _|exact qA|refine qC ?_ rfl ?_))) (by cbv;(repeat' (first|exact qH|refine qI ?_ ?_|exact qK _|refine qJ ?_|exact qA|exact qE (by rfl)|exact qF (by rfl)|exact Fit.refl _|exact qG _|refine qC ?_ rfl ?_)))
      try cbv)
   |fail)
  all_goals first|((try simp only [qV]at *);(try simp only [zQ,zA,zB,zC,zD,zE,zF,zG,zH,zI,zJ,zK,zL,zM,zN,zO,zP,zR,zS]at *);first|(refine qN ?_;omega)|(simp only [uaq];omega))|(subst hR;(refine qE ?_;simp only [zQ,zA,zB,zC,zD,zE,zF,zG,zH,zI,zJ,zK,zL,zM,zN,zO,zP,zR,zS]at *;rw [hr,ub9 (by omega) hcd]);done)|(subst hR;(refine qE ?_;simp only [zQ,zA,zB,zC,zD,zE,zF,zG,zH,zI,zJ,zK,zL,zM,zN,zO,zP,zR,zS]at *;rw [hr,show d.fs.length-i=0 by omega];rfl);done)|(subst hB;(repeat' (first|exact qH|refine qI ?_ ?_|exact qK _|refine qJ ?_|exact qA|exact qE (by rfl)|exact qF (by rfl)|exact Fit.refl _|exact qG _|refine qC ?_ rfl ?_));done)|((try simp only [zQ,zA,zB,zC,zD,zE,zF,zG,zH,zI,zJ,zK,zL,zM,zN,zO,zP,zR,zS]at *);refine⟨⟨i+1,by omega,by rw [hr,ucl (by omega) hcd];(try congr 1)<;>omega,fun j hj=>(Nat.lt_or_ge j i).elim (hq j) (fun q=>by rw [show j=i by omega];exact hcd)⟩,by simp only [];omega,?_⟩;cbv;(repeat' (first|with_reducible refine ua4 ?_ ?_|with_reducible refine And.intro ?_ ?_));(all_goals first|trivial|exact qM (qE (by rfl))|exact qM (qF (by rfl))|exact qM (Fit.refl _)|exact qL (qK _)|(refine qM (qE ?_);(try simp only [qV]at *);simp only [zQ,zA,zB,zC,zD,zE,zF,zG,zH,zI,zJ,zK,zL,zM,zN,zO,zP,zR,zS]at *;omega)|(refine qL (qJ ?_);(repeat' (first|exact qA|exact qB|refine qC ?_ rfl ?_|refine qD ?_ ?_|exact qE (by rfl)|exact qF (by rfl)|exact Fit.refl _|exact qG _|(refine qE ?_;(try simp only [qV]at *);simp only [zQ,zA,zB,zC,zD,zE,zF,zG,zH,zI,zJ,zK,zL,zM,zN,zO,zP,zR,zS]at *;omega)));done)|skip))|skip
theorem unl (d:Dsp)(t:List Int)(hd:DOk d)(hl:(t.length:Int)=d.sn)(ht:∀i,i<t.length→0≤t.getD i 0∧t.getD i 0≤2000)(hfew:d.fs.length≤1000):ua0 Tryz.prog 102 [(.sl 6 (.sym fun _=>zi (d.fs).length) (fun ix=>[(iv fun _=>((d.fs).getD ix.den.toNat f0T).p),(iv fun _=>((d.fs).getD ix.den.toNat f0T).s),(iv fun _=>((d.fs).getD ix.den.toNat f0T).wl),(iv fun _=>((d.fs).getD ix.den.toNat f0T).wh),(iv fun _=>((d.fs).getD ix.den.toNat f0T).ml),(iv fun _=>((d.fs).getD ix.den.toNat f0T).mh)])),.clo 103 [] [.own 0 0]] [.cells [.clo 75 [] [.own 1 0,.own 2 0]] 136,.cells [(wpS d)] 87,.cells [(iS t)] 22] (fun r bs=>r=(bv fun _=>decide (0≤ubJ (fun i=>inB (mLo d (d.fs.getD (i) f0T)) (t.getD (d.fs.getD (i) f0T).s.toNat 0) (mHi d (d.fs.getD (i) f0T))) (d.fs.length) 0))∧bs=[.cells [.clo 75 [] [.own 1 0,.own 2 0]] 136,.cells [(wpS d)] 87,.cells [(iS t)] 22]):=by
 have ci:=unX d t hd hl ht hfew
 refine ua0.isB rfl fun R B hR hB=>qW (sc:=ux8) uan mix Tryz.func102 rfl Tryz.call102 (by kernel_rfl) (by kernel_rfl) ?_
 generalize Tryz.prog=P at ci⊢
 cbv
 repeat' (first
  |with_reducible refine And.intro ?_ ?_
  | (refine⟨some [0,1,2],?_⟩
     cbv
     refine qQ ?_ (ci) (by cbv;(repeat' (first|exact qB|refine qD ?_ ?_|exact qE (by rfl)|exact qF (by rfl)|exact Fit.refl _|exact qA|refine qC ?_ rfl ?_))) (by cbv;(repeat' (first|exact qH|refine qI ?_ ?_|exact qK _|refine qJ ?_|exact qA|exact qE (by rfl)|exact qF (by rfl)|exact Fit.refl _|exact qG _|refine qC ?_ rfl ?_)))
     try cbv)
  |fail)
 all_goals first|(subst hR;(repeat' (first|exact qA|exact qB|refine qC ?_ rfl ?_|refine qD ?_ ?_|exact qE (by rfl)|exact qF (by rfl)|exact Fit.refl _|exact qG _|(refine qE ?_;(try simp only [qV]at *);simp only [zQ,zA,zB,zC,zD,zE,zF,zG,zH,zI,zJ,zK,zL,zM,zN,zO,zP,zR,zS]at *;omega)));done)|(subst hB;(repeat' (first|exact qH|refine qI ?_ ?_|exact qK _|refine qJ ?_|exact qA|exact qE (by rfl)|exact qF (by rfl)|exact Fit.refl _|exact qG _|refine qC ?_ rfl ?_));done)|skip
theorem upn (d:Dsp)(t:List Int)(hd:DOk d)(hl:(t.length:Int)=d.sn)(ht:∀i,i<t.length→0≤t.getD i 0∧t.getD i 0≤2000)(hfew:d.fs.length≤1000):ua0 Tryz.prog 74 [(.sl 6 (.sym fun _=>zi (d.fs).length) (fun ix=>[(iv fun _=>((d.fs).getD ix.den.toNat f0T).p),(iv fun _=>((d.fs).getD ix.den.toNat f0T).s),(iv fun _=>((d.fs).getD ix.den.toNat f0T).wl),(iv fun _=>((d.fs).getD ix.den.toNat f0T).wh),(iv fun _=>((d.fs).getD ix.den.toNat f0T).ml),(iv fun _=>((d.fs).getD ix.den.toNat f0T).mh)])),.clo 75 [] [.own 0 0,.own 1 0]] [.cells [(wpS d)] 87,.cells [(iS t)] 22] (fun r bs=>r=(bv fun _=>uh2 (fun i=>inB (mLo d (d.fs.getD (i) f0T)) (t.getD (d.fs.getD (i) f0T).s.toNat 0) (mHi d (d.fs.getD (i) f0T))) (d.fs.length))∧bs=[.cells [(wpS d)] 87,.cells [(iS t)] 22]):=by
 have cc:=unl d t hd hl ht hfew
 refine ua0.isB rfl fun R B hR hB=>qW (sc:=uzP) uan mix Tryz.func74 rfl Tryz.call74 (by kernel_rfl) (by kernel_rfl) ?_
 generalize Tryz.prog=P at cc⊢
 cbv
 repeat' (first
  |with_reducible refine And.intro ?_ ?_
  | (refine⟨some [2,0,1],?_⟩
     cbv
     refine qQ ?_ (cc) (by cbv;(repeat' (first|exact qB|refine qD ?_ ?_|exact qE (by rfl)|exact qF (by rfl)|exact Fit.refl _|exact qA|refine qC ?_ rfl ?_))) (by cbv;(repeat' (first|exact qH|refine qI ?_ ?_|exact qK _|refine qJ ?_|exact qA|exact qE (by rfl)|exact qF (by rfl)|exact Fit.refl _|exact qG _|refine qC ?_ rfl ?_)))
     try cbv)
  |fail)
 all_goals first|(subst hR;(repeat' (first|exact qA|exact qB|refine qC ?_ rfl ?_|refine qD ?_ ?_|exact qE (by rfl)|exact qF (by rfl)|exact Fit.refl _|exact qG _|(refine qE ?_;(try simp only [qV]at *);simp only [zQ,zA,zB,zC,zD,zE,zF,zG,zH,zI,zJ,zK,zL,zM,zN,zO,zP,zR,zS]at *;omega)));done)|(subst hB;(repeat' (first|exact qH|refine qI ?_ ?_|exact qK _|refine qJ ?_|exact qA|exact qE (by rfl)|exact qF (by rfl)|exact Fit.refl _|exact qG _|refine qC ?_ rfl ?_));done)|skip
def inT (t:List Int):Bool:=uh2 (fun i=>inB 0 (t.getD i 0) 2000) t.length
def lkT (d:Dsp)(t:List Int):Bool:=uh2 (fun i=>inB (d.ls.getD (i) l0T).lo (t.getD (d.ls.getD (i) l0T).b.toNat 0-t.getD (d.ls.getD (i) l0T).a.toNat 0) (d.ls.getD (i) l0T).hi) d.ls.length
def ftT (d:Dsp)(t:List Int):Bool:=uh2 (fun i=>inB (mLo d (d.fs.getD (i) f0T)) (t.getD (d.fs.getD (i) f0T).s.toNat 0) (mHi d (d.fs.getD (i) f0T))) d.fs.length
def une (d:Dsp)(t:List Int):Bool:=decide (ua7 d=0∧(t.length:Int)=d.sn)&&(inT t&&(lkT d t&&ftT d t))
theorem uyL {d:Dsp} {t:List Int}(h:¬(ua7 d=0∧(t.length:Int)=d.sn)):une d t=false:=by unfold une;rw [decide_eq_false h];rfl
theorem uyr {d:Dsp} {t:List Int}(h:inT t=false):une d t=false:=by unfold une;rw [h];simp
theorem uyH {d:Dsp} {t:List Int}(h:lkT d t=false):une d t=false:=by unfold une;rw [h];simp
theorem uz6 {d:Dsp} {t:List Int}(h:ua7 d=0∧(t.length:Int)=d.sn)(h2:inT t=true)(h3:lkT d t=true):une d t=ftT d t:=by unfold une;rw [decide_eq_true h,h2,h3];rfl
theorem utx {t:List Int}(h:inT t=true):∀i,i<t.length→0≤t.getD i 0∧t.getD i 0≤2000:=fun i hi=>by
 unfold inT at h
 rw [uaj]at h
 have:=h i hi
 rwa [uaP]at this
theorem uvp (d:Dsp)(t:List Int)(hn:t.length≤1000):ua0 Tryz.prog 31 [(ubh d),(iS t)] [] (fun r _=>r=(bv fun _=>une d t)):=by
 have c16:=ucM d
 have c44:=udU d
 have c69:=(show ua0 Tryz.prog 70 [(iS t),.clo 71 [(.agg [(.int .i64 (.lit 0)),(.int .i64 (.lit 2000))])] []] [] (fun r _=>r=(bv fun _=>inT t))from ull t hn)
 have c51:=fun h:ua7 d=0∧(t.length:Int)=d.sn∧inT t=true=>(show ua0 Tryz.prog 72 [(.sl 4 (.sym fun _=>zi (d.ls).length) (fun ix=>[(iv fun _=>((d.ls).getD ix.den.toNat l0T).a),(iv fun _=>((d.ls).getD ix.den.toNat l0T).b),(iv fun _=>((d.ls).getD ix.den.toNat l0T).lo),(iv fun _=>((d.ls).getD ix.den.toNat l0T).hi)])),.clo 73 [] [.own 0 0]] [.cells [(iS t)] 22] (fun r bs=>r=(bv fun _=>lkT d t)∧bs=[.cells [(iS t)] 22])from uoo d t (ua3.1 h.1) h.2.1 (utx h.2.2) (by have:=(ua3.1 h.1).l4;omega))
 have c52:=fun h:ua7 d=0∧(t.length:Int)=d.sn∧inT t=true=>(show ua0 Tryz.prog 74 [(.sl 6 (.sym fun _=>zi (d.fs).length) (fun ix=>[(iv fun _=>((d.fs).getD ix.den.toNat f0T).p),(iv fun _=>((d.fs).getD ix.den.toNat f0T).s),(iv fun _=>((d.fs).getD ix.den.toNat f0T).wl),(iv fun _=>((d.fs).getD ix.den.toNat f0T).wh),(iv fun _=>((d.fs).getD ix.den.toNat f0T).ml),(iv fun _=>((d.fs).getD ix.den.toNat f0T).mh)])),.clo 75 [] [.own 0 0,.own 1 0]] [.cells [(wpS d)] 87,.cells [(iS t)] 22] (fun r bs=>r=(bv fun _=>ftT d t)∧bs=[.cells [(wpS d)] 87,.cells [(iS t)] 22])from upn d t (ua3.1 h.1) h.2.1 (utx h.2.2) (by have:=(ua3.1 h.1).f6;omega))
 refine ua0.is fun R hR=>qW (sc:=uAR) uan mix Tryz.func31 rfl Tryz.call31 (by kernel_rfl) (by kernel_rfl) ?_
 generalize Tryz.prog=P at c16 c44 c69 c51 c52⊢
 cbv
 repeat' (first
  |with_reducible refine And.intro ?_ ?_
  |(with_reducible intro hcd;(try simp only [zA,zB,zC,zD,zE,zF,zG,zH,zI,zJ,zK,zL,zM,zN,zO,zP]at hcd);try cbv)
  |(refine qP ?_ (c16) ?hfit;(case hfit=>((repeat' (first|exact qB|refine qD ?_ ?_|exact qE (by rfl)|exact qF (by rfl)|exact Fit.refl _|exact qA|refine qC ?_ rfl ?_));done));try cbv)
  |(refine qP ?_ (c44) ?hfit;(case hfit=>((repeat' (first|exact qB|refine qD ?_ ?_|exact qE (by rfl)|exact qF (by rfl)|exact Fit.refl _|exact qA|refine qC ?_ rfl ?_));done));try cbv)
  |(refine qP ?_ (c69) ?hfit;(case hfit=>((repeat' (first|exact qB|refine qD ?_ ?_|exact qE (by rfl)|exact qF (by rfl)|exact Fit.refl _|exact qA|refine qC ?_ rfl ?_));done));try cbv)
  | (refine⟨some [1],?_⟩
     cbv
     refine qQ ?_ (c51 (show uaq _ from ?_)) (by cbv;(repeat' (first|exact qB|refine qD ?_ ?_|exact qE (by rfl)|exact qF (by rfl)|exact Fit.refl _|exact qA|refine qC ?_ rfl ?_))) (by cbv;(repeat' (first|exact qH|refine qI ?_ ?_|exact qK _|refine qJ ?_|exact qA|exact qE (by rfl)|exact qF (by rfl)|exact Fit.refl _|exact qG _|refine qC ?_ rfl ?_)))
     try cbv)
  | (refine⟨some [22,1],?_⟩
     cbv
     refine qQ ?_ (c52 (show uaq _ from ?_)) (by cbv;(repeat' (first|exact qB|refine qD ?_ ?_|exact qE (by rfl)|exact qF (by rfl)|exact Fit.refl _|exact qA|refine qC ?_ rfl ?_))) (by cbv;(repeat' (first|exact qH|refine qI ?_ ?_|exact qK _|refine qJ ?_|exact qA|exact qE (by rfl)|exact qF (by rfl)|exact Fit.refl _|exact qG _|refine qC ?_ rfl ?_)))
     try cbv)
  |fail)
 all_goals first|trivial|(subst hR;(refine qF ?_;(try simp only [qV]at *);(try simp only [zQ,zA,zB,zC,zD,zE,zF,zG,zH,zI,zJ,zK,zL,zM,zN,zO,zP,zR,zS]at *);first|exact(uyL (by omega)).symm|exact(uyr (by assumption)).symm|exact(uyH (by assumption)).symm|exact(uz6 ⟨by omega,by omega⟩ (by assumption) (by assumption)).symm);done)|skip
theorem uwY {f:FuncId} {args:List SV} {b:Bool}(h:ua0 Tryz.prog f args [] (fun r _=>r = (bv fun _=>b)))(hb:b=false):ua0 Tryz.prog f args [] (fun r _=>r = .bool (.lit false)):=h.post fun r bs q=>⟨_,by subst q;exact qF hb,rfl⟩
theorem uw4 {f:FuncId} {args:List SV} {b:Bool}(h:ua0 Tryz.prog f args [] (fun r _=>r = (bv fun _=>b)))(hb:b=true):ua0 Tryz.prog f args [] (fun r _=>r = .bool (.lit true)):=h.post fun r bs q=>⟨_,by subst q;exact qF hb,rfl⟩
theorem ua0.fitZ {f:FuncId} {args:List SV} {A B:SV}(h:ua0 Tryz.prog f args [] (fun r _=>r=A))(hf:Fit A B):ua0 Tryz.prog f args [] (fun r _=>r=B):=h.post fun r bs q=>⟨B,by subst q;exact hf,rfl⟩
def uAZ (d:Dsp)(b:Nat):Bool:=umm (SN d) (LO d) (FO d d.fs) (ofN (ptD d) b d.fs.length)
theorem urT {a b:List Int}(h:a=b):Fit (iS a) (iS b):=by
 subst h
 exact Fit.refl _
theorem ug5 {sz:Nat} {n m:IX} {e e':IX→List SV}(h:n.den=0)(h':m.den=0):Fit (.sl sz n e) (.sl sz m e'):=ua2 (h.trans h'.symm) (fun ix h0 h1=>by exfalso;omega)
theorem ups {d:Dsp}(hE:uah d=0):Agree d.pn.toNat (ubG d) (uAZ d):=by
 have hF:=(uas hE).1
 have hd:=ua3.1 hF
 have p4:=hd.p4
 have hl:=udV d d.fs
 have q:=uoW (okk hd hd.f) (pt:=ptD d) (P:=d.pn.toNat) (by omega) (fun i hi=>by
  rw [hl]at hi
  have:=hd.f i hi
  unfold uc8 at this
  unfold ptD
  omega) (by rw [←ug2];exact(uas hE).2)
 rw [hl]at q
 rw [ug7 hd]
 exact q
theorem uwv (l:List Int)(h:l.length≤1000):ua0 Tryz.prog 32 [(iS l)] [] (fun r _=>r=(iS l)):=by
 refine ua0.is fun R hR=>qW (sc:=uBb) uan mix Tryz.func32 rfl Tryz.call32 (by kernel_rfl) (by kernel_rfl) ?_
 generalize Tryz.prog=P
 cbv
 repeat' (first|with_reducible refine ua4 ?_ ?_|fail)
 all_goals first|((try simp only [qV]at *);(try simp only [zQ,zA,zB,zC,zD,zE,zF,zG,zH,zI,zJ,zK,zL,zM,zN,zO,zP,zR,zS]at *);first|(refine qN ?_;omega)|(simp only [uaq];omega))|(subst hR;(repeat' (first|exact qA|exact qB|refine qC ?_ rfl ?_|refine qD ?_ ?_|exact qE (by rfl)|exact qF (by rfl)|exact Fit.refl _|exact qG _|(refine qE ?_;(try simp only [qV]at *);simp only [zQ,zA,zB,zC,zD,zE,zF,zG,zH,zI,zJ,zK,zL,zM,zN,zO,zP,zR,zS]at *;omega)));done)|skip
def utj (d:Dsp)(t:List Int):Bool:=decide ((t.length:Int)=d.sn)&&(inT t&&lkT d t)
theorem ulh {d:Dsp} {t:List Int}(hF:ua7 d=0):une d t=(utj d t&&ftT d t):=by
 unfold une utj
 have e:decide (ua7 d=0∧(t.length:Int)=d.sn)=decide ((t.length:Int)=d.sn):=decide_eq_decide.2 ⟨fun h=>h.2,fun h=>⟨hF,h⟩⟩
 rw [e]
 cases decide ((t.length:Int)=d.sn)<;>cases inT t<;>cases lkT d t<;>rfl
theorem uqz (d:Dsp):ua0 Tryz.prog 28 [(ubh d)] [] (fun r _=>r=(bv fun _=>ufL d)):=by
 have c11:=uwy d
 have c47:=uvH d
 refine ua0.is fun R hR=>qW (sc:=uAN) uan mix Tryz.func28 rfl Tryz.call28 (by kernel_rfl) (by kernel_rfl) ?_
 generalize Tryz.prog=P at c11 c47⊢
 cbv
 repeat' (first|with_reducible refine And.intro ?_ ?_|(with_reducible intro hcd;(try simp only [zA,zB,zC,zD,zE,zF,zG,zH,zI,zJ,zK,zL,zM,zN,zO,zP]at hcd);try cbv)|(refine qP ?_ (c11) ?hfit;(case hfit=>((repeat' (first|exact qB|refine qD ?_ ?_|exact qE (by rfl)|exact qF (by rfl)|exact Fit.refl _|exact qA|refine qC ?_ rfl ?_));done));try cbv)|(refine qP ?_ (c47) ?hfit;(case hfit=>((repeat' (first|exact qB|refine qD ?_ ?_|exact qE (by rfl)|exact qF (by rfl)|exact Fit.refl _|exact qA|refine qC ?_ rfl ?_));done));try cbv)|fail)
 all_goals first|(subst hR;(refine qF ?_;(try simp only [qV]at *);(try simp only [zQ,zA,zB,zC,zD,zE,zF,zG,zH,zI,zJ,zK,zL,zM,zN,zO,zP,zR,zS]at *);first|(unfold ufL;simp_all;done)|(unfold ufL;rw [show ufW d=true by assumption,Bool.true_and];first|rfl|(apply Bool.eq_iff_iff.2;simp only [decide_eq_true_eq])));done)|skip
def utK (f:Nat→Int)(n:Nat):List Int:=(List.range n).map f
theorem upe (f:Nat→Int)(n:Nat):(utK f n).length=n:=by unfold utK;rw [List.length_map,List.length_range]
theorem uw2 {f:Nat→Int} {n i:Nat}(h:i<n):(utK f n).getD i 0=f i:=by
 unfold utK
 rw [List.getD_eq_getElem?_getD,List.getElem?_map,List.getElem?_range h];rfl
theorem utP {d:Dsp}(hd:DOk d) {t:List Int}(hn:(t.length:Int)=d.sn):(utj d t&&ftT d t)=true↔Tr (SN d) (LO d) (FO d d.fs) (fun i=>t.getD i 0):=by
 have hS:SN d=t.length:=by unfold SN;omega
 have e:utj d t=(inT t&&lkT d t):=by unfold utj;rw [decide_eq_true hn];rfl
 rw [e,Bool.and_eq_true,Bool.and_eq_true]
 unfold inT lkT ftT
 simp only [uaj,uaP]
 constructor
 ·rintro⟨⟨h1,h2⟩,h3⟩
  refine⟨fun s hs=>h1 s (by omega),fun k hk=> ?_,fun k hk=> ?_⟩
  ·obtain⟨i,hi,ei⟩:=ux5 hk
   rw [umf]at hi
   rw [←ei,uvq hi]
   exact h2 i hi
  ·obtain⟨i,hi,ei⟩:=uxz hk
   rw [udV]at hi
   rw [←ei,usn hi]
   exact h3 i hi
 ·rintro⟨h1,h2,h3⟩
  refine⟨⟨fun i hi=>h1 i (by omega),fun i hi=> ?_⟩,fun i hi=> ?_⟩
  ·have q:=h2 _ (uun (ls:=LO d) (by rw [umf];exact hi))
   rw [uvq hi]at q
   exact q
  ·have q:=h3 _ (ure (fs:=FO d d.fs) (by rw [udV];exact hi))
   rw [usn hi]at q
   exact q
theorem uwJ {f:FuncId} {args:List SV} {b c:Bool}(h:ua0 Tryz.prog f args [] (fun r _=>r = (bv fun _=>b)))(hb:b=c):ua0 Tryz.prog f args [] (fun r _=>r = .bool (.lit c)):=h.post fun r bs q=>⟨_,by subst q;exact qF hb,rfl⟩
theorem uwa {d:Dsp}(hd:DOk d) {t:List Int}(h:une d t=true):ufd d d.fs []=true∧(t.length:Int)=d.sn∧∀s,s<SN d→loT d [] s≤t.getD s 0∧t.getD s 0≤hiT d [] s:=by
 have hF:=ua3.2 hd
 have hn:(t.length:Int)=d.sn:=by
  rw [ulh hF,Bool.and_eq_true]at h
  have:=h.1
  unfold utj at this
  rw [Bool.and_eq_true,decide_eq_true_eq]at this
  exact this.1
 rw [ulh hF,utP hd hn]at h
 have hk:=okk hd hd.f
 have hc:udg (SN d) (LO d) (FO d d.fs)=true:=(uaG hk).2 ⟨_,h⟩
 refine⟨by rw [ui3];exact hc,hn,fun s hs=> ?_⟩
 rw [(uhk d s).1,(uhk d s).2]
 exact⟨(uoy hk hc hs).1 _ h,(uok hk hc hs).1 _ h⟩
theorem uv9 {a b q:Int} {K:Int→Prop}(h:K q)(hb:uaq (b≠0))(hq:a.tmod b=q):∃q,(∀_:Unit,us3 a b q)∧K q:=by
 subst hq
 exact qT h hb
def wdN (ws:List Int)(a:Nat):Int:=if ws.length=0 then 0 else ws.getD (a%ws.length) 0
theorem uAd {ws:List Int} {a:Nat}(h:ws.length=0):wdN ws a=0:=if_pos h
theorem uym {ws:List Int} {a:Nat} {q:Int}(h:¬ws.length=0)(hq:(a:Int).tmod (ws.length:Int)=q):0≤q∧q<(ws.length:Int)∧ws.getD q.toNat 0=wdN ws a:=by
 have e:(a:Int).tmod (ws.length:Int)=((a%ws.length:Nat):Int):=rfl
 rw [e]at hq
 have:=Nat.mod_lt a (Nat.pos_of_ne_zero h)
 subst hq
 refine⟨by omega,by omega,?_⟩
 unfold wdN
 rw [if_neg h,Int.toNat_natCast]
theorem uis {ws:List Int}(hw:∀k,k<ws.length→0≤ws.getD k 0∧ws.getD k 0≤65535)(a:Nat):0≤wdN ws a∧wdN ws a≤65535:=by
 unfold wdN
 split
 ·omega
 ·rename_i h
  exact hw _ (Nat.mod_lt _ (Nat.pos_of_ne_zero h))
theorem uw9 (ws:List Int)(a:Nat)(hw:∀k,k<ws.length→0≤ws.getD k 0∧ws.getD k 0≤65535)(hl:ws.length≤9223372036854775807)(ha:a≤1000):ua0 Tryz.prog 67 [(.sl 1 (.sym fun _=>zi ws.length) (fun ix=>[.int .u16 (.sym fun _=>ws.getD ix.den.toNat 0)])),(iv fun _=>zi a)] [] (fun r _=>r=(iv fun _=>wdN ws a)):=by
 refine ua0.is fun R hR=>qW (sc:=uAD) uan mix Tryz.func67 rfl Tryz.call67 (by kernel_rfl) (by kernel_rfl) ?_
 generalize Tryz.prog=P
 cbv
 repeat' (first|(refine uv9 ?_ ?_ (rfl:_=(zi a).tmod (zi ws.length));try cbv)|with_reducible refine ua4 ?_ ?_|with_reducible refine And.intro ?_ ?_|(with_reducible intro hcd;(try simp only [zA,zB,zC,zD,zE,zF,zG,zH,zI,zJ,zK,zL,zM,zN,zO,zP]at hcd);try cbv)|fail)
 all_goals first|trivial|(subst hR;exact qE (uAd (by((try simp only [qV]at *);(try simp only [zQ,zA,zB,zC,zD,zE,zF,zG,zH,zI,zJ,zK,zL,zM,zN,zO,zP,zR,zS]at *);omega))).symm)|((have hq:=uym (a:=a) (q:=(zi a).tmod (zi ws.length)) (ws:=ws) (by((try simp only [qV]at *);(try simp only [zQ,zA,zB,zC,zD,zE,zF,zG,zH,zI,zJ,zK,zL,zM,zN,zO,zP,zR,zS]at *);omega)) (by simp only [uaa]));subst hR;exact qE hq.2.2)|((have hq:=uym (a:=a) (q:=(zi a).tmod (zi ws.length)) (ws:=ws) (by((try simp only [qV]at *);(try simp only [zQ,zA,zB,zC,zD,zE,zF,zG,zH,zI,zJ,zK,zL,zM,zN,zO,zP,zR,zS]at *);omega)) (by simp only [uaa]));simp only [uaa]at hq;(try simp only [qV]at *);(try simp only [zQ,zA,zB,zC,zD,zE,zF,zG,zH,zI,zJ,zK,zL,zM,zN,zO,zP,zR,zS]at *);simp only [uaq];exact⟨by omega,by omega⟩)|((have hq:=uym (a:=a) (q:=(zi a).tmod (zi ws.length)) (ws:=ws) (by((try simp only [qV]at *);(try simp only [zQ,zA,zB,zC,zD,zE,zF,zG,zH,zI,zJ,zK,zL,zM,zN,zO,zP,zR,zS]at *);omega)) (by simp only [uaa]));(have hb:=hw ((zi a).tmod (zi ws.length)).toNat (by(simp only [uaa]at hq⊢;omega)));(try simp only [qV]at *);(try simp only [zQ,zA,zB,zC,zD,zE,zF,zG,zH,zI,zJ,zK,zL,zM,zN,zO,zP,zR,zS]at *);(refine qN ?_);omega)|skip
def ptE (l:List Int)(n:Int):Int:=l.getD 0 0+n.tmod (l.getD (l.length-1) 0-l.getD 0 0+1)
theorem utD {l:List Int} {n:Int}(hn:0≤n)(h:l.getD 0 0≤l.getD (l.length-1) 0):l.getD 0 0≤ptE l n∧ptE l n≤l.getD (l.length-1) 0:=by
 have a:=ut2 (w:=n) (n:=l.getD (l.length-1) 0-l.getD 0 0+1) hn (by omega)
 unfold ptE
 omega
def ptA (d:Dsp)(ws:List Int)(s:Nat):Int:=ptE d.tw (wdN ws s)
def ptB (d:Dsp)(ws:List Int)(s:Nat):Int:=ptE d.tm (wdN ws (s+3))
def trS (d:Dsp)(ws:List Int)(s:Nat):Int:=atS d.tw d.tm d.tv (ptA d ws s) (ptB d ws s)
def lkA (d:Dsp)(v:Int):Int:=v.tmod d.sn
def lkB (d:Dsp)(v:Int):Int:=(lkA d v+1+(v.tdiv 4).tmod (d.sn-1)).tmod d.sn
def rdL (d:Dsp)(t:List Int)(v:Int):LkT:=⟨lkA d v,lkB d v,mx (-2000) (t.getD (lkB d v).toNat 0-t.getD (lkA d v).toNat 0-(v.tdiv 16).tmod 6),mn 2000 (t.getD (lkB d v).toNat 0-t.getD (lkA d v).toNat 0+(v.tdiv 128).tmod 6)⟩
def rdF (d:Dsp)(ws:List Int)(v:Int):FaT:=
 let s:=(v.tdiv 4).tmod d.sn
 let a:=ptA d ws s.toNat
 let b:=ptB d ws s.toNat
 ⟨v.tmod d.pn,s,mx (d.tw.getD 0 0) (a-(v.tdiv 16).tmod 3),mn (d.tw.getD (d.tw.length-1) 0) (a+(v.tdiv 64).tmod 3),mx (d.tm.getD 0 0) (b-(v.tdiv 256).tmod 4),mn (d.tm.getD (d.tm.length-1) 0) (b+(v.tdiv 1024).tmod 4)⟩
def rdT (d:Dsp)(ws:List Int):List Int:=utK (trS d ws) d.sn.toNat
def rdN (d:Dsp)(ws:List Int):Nat:=if 1<d.sn then((wdN ws 1).tmod 5).toNat else 0
def rdM (ws:List Int):Nat:=((wdN ws 2).tmod 7).toNat
def ur0 (d:Dsp)(ws:List Int)(n:Nat):List LkT:=(List.range n).map fun i=>rdL d (rdT d ws) (wdN ws (i+5))
def uqW (d:Dsp)(ws:List Int)(n:Nat):List FaT:=(List.range n).map fun i=>rdF d ws (wdN ws (i+9))
def rdX (d:Dsp)(ws:List Int):Dsp:=⟨d.tw,d.tm,d.tv,d.sn,d.pn,ur0 d ws (rdN d ws),uqW d ws (rdM ws)⟩
theorem urv {α:Type} {f:Nat→α} {n i:Nat} {z:α}(h:i<n):((List.range n).map f).getD i z=f i:=by
 rw [List.getD_eq_getElem?_getD,List.getElem?_map,List.getElem?_range h];rfl
theorem uff (d:Dsp)(ws:List Int)(n:Nat):(ur0 d ws n).length=n∧(uqW d ws n).length=n:=by
 unfold ur0 uqW
 rw [List.length_map,List.length_map,List.length_range]
 exact⟨rfl,rfl⟩
theorem ukj (d:Dsp)(ws:List Int):(rdT d ws).length=d.sn.toNat:=upe _ _
theorem ugM {d:Dsp} {ws:List Int} {s:Nat}(h:s<d.sn.toNat):(rdT d ws).getD s 0=trS d ws s:=uw2 h
theorem usV {tw tm:List Int} {tv:List (List Int)}(h:TOk tw tm tv):tw.getD 0 0≤tw.getD (tw.length-1) 0∧tm.getD 0 0≤tm.getD (tm.length-1) 0:=by
 have a:=h.w2;have b:=h.m2
 have r1:=uak h.rw (tw.length-1) (by omega)
 have r2:=uak h.rm (tm.length-1) (by omega)
 have p1:=ue3 h.rw (i:=0) (j:=tw.length-1) (by omega) (by omega)
 have p2:=ue3 h.rm (i:=0) (j:=tm.length-1) (by omega) (by omega)
 omega
theorem upM {d:Dsp}(hT:TOk d.tw d.tm d.tv) {ws:List Int}(hw:∀k,k<ws.length→0≤ws.getD k 0∧ws.getD k 0≤65535)(s:Nat):Pt d.tw d.tm (ptA d ws s) (ptB d ws s):=by
 have a:=usV hT
 have p:=utD (l:=d.tw) (uis hw s).1 a.1
 have q:=utD (l:=d.tm) (uis hw (s+3)).1 a.2
 exact⟨p.1,p.2,q.1,q.2⟩
theorem mxn {a b:Int}:a≤mx a b∧b≤mx a b∧(mx a b=a∨mx a b=b):=by unfold mx;split<;>omega
theorem mnn {a b:Int}:mn a b≤a∧mn a b≤b∧(mn a b=a∨mn a b=b):=by unfold mn;split<;>omega
theorem uqN {d:Dsp}(hT:TOk d.tw d.tm d.tv) {ws:List Int}(hw:∀k,k<ws.length→0≤ws.getD k 0∧ws.getD k 0≤65535)(s:Nat):0≤trS d ws s∧trS d ws s≤2000:=ura hT (upM hT hw s)
theorem uay {n k:Int}(hn:0≤n)(hk:1≤k):0≤n.tmod k∧n.tmod k≤k-1:=ut2 hn hk
theorem uxw {d:Dsp}(hd:DOk d) {ws:List Int}(hw:∀k,k<ws.length→0≤ws.getD k 0∧ws.getD k 0≤65535):DOk (rdX d ws):=by
 have s1:=hd.s1
 have s3:=hd.s3
 have p1:=hd.p1
 have nl:=(uff d ws (rdN d ws)).1
 have nf:=(uff d ws (rdM ws)).2
 have n4:rdN d ws≤4:=by
  have:=uay (k:=5) (uis hw 1).1 (by omega)
  unfold rdN
  split<;>omega
 have n6:rdM ws≤6:=by
  have:=uay (k:=7) (uis hw 2).1 (by omega)
  unfold rdM
  omega
 refine⟨hd.t,hd.s1,hd.s3,hd.p1,hd.p4,?_,?_,?_,?_⟩
 ·show(ur0 d ws (rdN d ws)).length≤4;omega
 ·show(uqW d ws (rdM ws)).length≤6;omega
 ·intro i hi
  replace hi:i<rdN d ws:=by rw [←nl];exact hi
  have hs:1<d.sn:=by
   unfold rdN at hi
   split at hi
   ·assumption
   ·omega
  show ucI d.sn ((ur0 d ws (rdN d ws)).getD i l0T)
  have e:(ur0 d ws (rdN d ws)).getD i l0T=rdL d (rdT d ws) (wdN ws (i+5)):=urv hi
  rw [e]
  obtain⟨v,hv⟩:∃v,v=wdN ws (i+5):=⟨_,rfl⟩
  have v0:=(uis hw (i+5)).1
  rw [←hv]at v0⊢
  have a:=uay (k:=d.sn) v0 (by omega)
  have v4:0≤v.tdiv 4:=Int.tdiv_nonneg v0 (by decide)
  have b:=uay (k:=d.sn-1) v4 (by omega)
  have hA:lkA d v=v.tmod d.sn:=rfl
  have c:=uay (n:=lkA d v+1+(v.tdiv 4).tmod (d.sn-1)) (k:=d.sn) (by omega) (by omega)
  have hB:lkB d v=(lkA d v+1+(v.tdiv 4).tmod (d.sn-1)).tmod d.sn:=rfl
  have ne:lkA d v≠lkB d v:=by
   rw [hB]
   have q:=Int.tmod_add_mul_tdiv (lkA d v+1+(v.tdiv 4).tmod (d.sn-1)) d.sn
   intro e
   rw [←e]at q
   have:d.sn*((lkA d v+1+(v.tdiv 4).tmod (d.sn-1)).tdiv d.sn)=1+(v.tdiv 4).tmod (d.sn-1):=by omega
   obtain⟨k,hk⟩:∃k,k=(lkA d v+1+(v.tdiv 4).tmod (d.sn-1)).tdiv d.sn:=⟨_,rfl⟩
   rw [←hk]at this
   rcases(show d.sn=2∨d.sn=3 by omega)with h|h<;>rw [h]at this b<;>omega
  have tb:=fun s=>uqN hd.t hw s
  have t1:0≤(rdT d ws).getD (lkB d v).toNat 0∧(rdT d ws).getD (lkB d v).toNat 0≤2000:=by rw [ugM (by omega)];exact tb _
  have t2:0≤(rdT d ws).getD (lkA d v).toNat 0∧(rdT d ws).getD (lkA d v).toNat 0≤2000:=by rw [ugM (by omega)];exact tb _
  have u1:=uay (n:=v.tdiv 16) (k:=6) (Int.tdiv_nonneg v0 (by decide)) (by omega)
  have u2:=uay (n:=v.tdiv 128) (k:=6) (Int.tdiv_nonneg v0 (by decide)) (by omega)
  have x1:= @mxn (-2000) ((rdT d ws).getD (lkB d v).toNat 0-(rdT d ws).getD (lkA d v).toNat 0-(v.tdiv 16).tmod 6)
  have x2:= @mnn 2000 ((rdT d ws).getD (lkB d v).toNat 0-(rdT d ws).getD (lkA d v).toNat 0+(v.tdiv 128).tmod 6)
  unfold ucI rdL
  dsimp only
  omega
 ·intro i hi
  replace hi:i<rdM ws:=by rw [←nf];exact hi
  show uc8 (rdX d ws) ((uqW d ws (rdM ws)).getD i f0T)
  have e:(uqW d ws (rdM ws)).getD i f0T=rdF d ws (wdN ws (i+9)):=urv hi
  rw [e]
  obtain⟨v,hv⟩:∃v,v=wdN ws (i+9):=⟨_,rfl⟩
  have v0:=(uis hw (i+9)).1
  rw [←hv]at v0⊢
  have a:=uay (k:=d.pn) v0 (by omega)
  have b:=uay (n:=v.tdiv 4) (k:=d.sn) (Int.tdiv_nonneg v0 (by decide)) (by omega)
  have hp:=upM hd.t hw ((v.tdiv 4).tmod d.sn).toNat
  have h1:=hp.w0;have h2:=hp.w1;have h3:=hp.m0;have h4:=hp.m1
  have u1:=uay (n:=v.tdiv 16) (k:=3) (Int.tdiv_nonneg v0 (by decide)) (by omega)
  have u2:=uay (n:=v.tdiv 64) (k:=3) (Int.tdiv_nonneg v0 (by decide)) (by omega)
  have u3:=uay (n:=v.tdiv 256) (k:=4) (Int.tdiv_nonneg v0 (by decide)) (by omega)
  have u4:=uay (n:=v.tdiv 1024) (k:=4) (Int.tdiv_nonneg v0 (by decide)) (by omega)
  have x1:= @mxn (d.tw.getD 0 0) (ptA d ws ((v.tdiv 4).tmod d.sn).toNat-(v.tdiv 16).tmod 3)
  have x2:= @mnn (d.tw.getD (d.tw.length-1) 0) (ptA d ws ((v.tdiv 4).tmod d.sn).toNat+(v.tdiv 64).tmod 3)
  have x3:= @mxn (d.tm.getD 0 0) (ptB d ws ((v.tdiv 4).tmod d.sn).toNat-(v.tdiv 256).tmod 4)
  have x4:= @mnn (d.tm.getD (d.tm.length-1) 0) (ptB d ws ((v.tdiv 4).tmod d.sn).toNat+(v.tdiv 1024).tmod 4)
  unfold uc8 rdF
  dsimp only [rdX]
  omega
theorem uyP {d:Dsp}(hd:DOk d) {ws:List Int}(hw:∀k,k<ws.length→0≤ws.getD k 0∧ws.getD k 0≤65535):une (rdX d ws) (rdT d ws)=true:=by
 have hX:=uxw hd hw
 have s1:=hd.s1
 have s3:=hd.s3
 have hF:=ua3.2 hX
 have hn:((rdT d ws).length:Int)=d.sn:=by rw [ukj];omega
 have tb:=fun s=>uqN hd.t hw s
 rw [ulh hF]
 have e:utj (rdX d ws) (rdT d ws)=(inT (rdT d ws)&&lkT (rdX d ws) (rdT d ws)):=by unfold utj;rw [decide_eq_true (show((rdT d ws).length:Int)=(rdX d ws).sn from hn)];rfl
 rw [e,Bool.and_eq_true,Bool.and_eq_true]
 unfold inT lkT ftT
 simp only [uaj,uaP]
 refine⟨⟨fun i hi=> ?_,fun i hi=> ?_⟩,fun i hi=> ?_⟩
 ·rw [ukj]at hi
  rw [ugM hi]
  exact tb i
 ·have nl:=(uff d ws (rdN d ws)).1
  replace hi:i<rdN d ws:=by rw [←nl];exact hi
  have q:=hX.l i (by show i<(ur0 d ws (rdN d ws)).length;omega)
  have e:(rdX d ws).ls.getD i l0T=rdL d (rdT d ws) (wdN ws (i+5)):=urv hi
  rw [e]at q⊢
  obtain⟨v,hv⟩:∃v,v=wdN ws (i+5):=⟨_,rfl⟩
  have v0:=(uis hw (i+5)).1
  rw [←hv]at v0 q⊢
  unfold ucI at q
  have qa:0≤lkA d v∧lkA d v≤d.sn-1:=q.1
  have qb:0≤lkB d v∧lkB d v≤d.sn-1:=q.2.1
  have t1:0≤(rdT d ws).getD (lkB d v).toNat 0∧(rdT d ws).getD (lkB d v).toNat 0≤2000:=by rw [ugM (by omega)];exact tb _
  have t2:0≤(rdT d ws).getD (lkA d v).toNat 0∧(rdT d ws).getD (lkA d v).toNat 0≤2000:=by rw [ugM (by omega)];exact tb _
  have u1:=uay (n:=v.tdiv 16) (k:=6) (Int.tdiv_nonneg v0 (by decide)) (by omega)
  have u2:=uay (n:=v.tdiv 128) (k:=6) (Int.tdiv_nonneg v0 (by decide)) (by omega)
  have x1:= @mxn (-2000) ((rdT d ws).getD (lkB d v).toNat 0-(rdT d ws).getD (lkA d v).toNat 0-(v.tdiv 16).tmod 6)
  have x2:= @mnn 2000 ((rdT d ws).getD (lkB d v).toNat 0-(rdT d ws).getD (lkA d v).toNat 0+(v.tdiv 128).tmod 6)
  show mx (-2000) ((rdT d ws).getD (lkB d v).toNat 0-(rdT d ws).getD (lkA d v).toNat 0-(v.tdiv 16).tmod 6)≤(rdT d ws).getD (lkB d v).toNat 0-(rdT d ws).getD (lkA d v).toNat 0∧(rdT d ws).getD (lkB d v).toNat 0-(rdT d ws).getD (lkA d v).toNat 0≤mn 2000 ((rdT d ws).getD (lkB d v).toNat 0-(rdT d ws).getD (lkA d v).toNat 0+(v.tdiv 128).tmod 6)
  omega
 ·have nf:=(uff d ws (rdM ws)).2
  replace hi:i<rdM ws:=by rw [←nf];exact hi
  have q:=hX.f i (by show i<(uqW d ws (rdM ws)).length;omega)
  have e:(rdX d ws).fs.getD i f0T=rdF d ws (wdN ws (i+9)):=urv hi
  rw [e]at q⊢
  have hB:=uxk hX.t (uiw q)
  obtain⟨v,hv⟩:∃v,v=wdN ws (i+9):=⟨_,rfl⟩
  have v0:=(uis hw (i+9)).1
  rw [←hv]at v0 q hB⊢
  have b:=uay (n:=v.tdiv 4) (k:=d.sn) (Int.tdiv_nonneg v0 (by decide)) (by omega)
  obtain⟨s,hs⟩:∃s,s=((v.tdiv 4).tmod d.sn).toNat:=⟨_,rfl⟩
  have es:(rdF d ws v).s.toNat=s:=hs.symm
  have hp:=upM hd.t hw s
  have h1:=hp.w0;have h2:=hp.w1;have h3:=hp.m0;have h4:=hp.m1
  have u1:=uay (n:=v.tdiv 16) (k:=3) (Int.tdiv_nonneg v0 (by decide)) (by omega)
  have u2:=uay (n:=v.tdiv 64) (k:=3) (Int.tdiv_nonneg v0 (by decide)) (by omega)
  have u3:=uay (n:=v.tdiv 256) (k:=4) (Int.tdiv_nonneg v0 (by decide)) (by omega)
  have u4:=uay (n:=v.tdiv 1024) (k:=4) (Int.tdiv_nonneg v0 (by decide)) (by omega)
  have x1:= @mxn (d.tw.getD 0 0) (ptA d ws s-(v.tdiv 16).tmod 3)
  have x2:= @mnn (d.tw.getD (d.tw.length-1) 0) (ptA d ws s+(v.tdiv 64).tmod 3)
  have x3:= @mxn (d.tm.getD 0 0) (ptB d ws s-(v.tdiv 256).tmod 4)
  have x4:= @mnn (d.tm.getD (d.tm.length-1) 0) (ptB d ws s+(v.tdiv 1024).tmod 4)
  have ew:(rdF d ws v).wl=mx (d.tw.getD 0 0) (ptA d ws s-(v.tdiv 16).tmod 3):=by rw [hs];rfl
  have eh:(rdF d ws v).wh=mn (d.tw.getD (d.tw.length-1) 0) (ptA d ws s+(v.tdiv 64).tmod 3):=by rw [hs];rfl
  have em:(rdF d ws v).ml=mx (d.tm.getD 0 0) (ptB d ws s-(v.tdiv 256).tmod 4):=by rw [hs];rfl
  have en:(rdF d ws v).mh=mn (d.tm.getD (d.tm.length-1) 0) (ptB d ws s+(v.tdiv 1024).tmod 4):=by rw [hs];rfl
  rw [es,ugM (by omega)]
  exact hB.le (ptA d ws s) (ptB d ws s) (by omega) (by omega) (by omega) (by omega)
theorem utg {f:Nat→Bool}:∀{n:Nat},(∀p,p<n→f p=false)→ubT f n=[]:=by
 intro n
 induction n with
 |zero=>intro _;rfl
 | succ n ih=>
  intro h
  have a:=h n (by omega)
  unfold ubT
  rw [ih fun p hp=>h p (by omega),a];rfl
theorem uw6 {x:Dsp}(hX:DOk x)(hc:ufd x x.fs []=true):uah x=0∧upZ x=none∧ueT x=[]∧uqZ x=[]∧ugm x=[]∧uoc x=[]:=by
 have hk:=okk hX hX.f
 have hF:=ua3.2 hX
 have hcd:udg (SN x) (LO x) (FO x x.fs)=true:=by rw [←ui3];exact hc
 obtain⟨y,hy⟩:=(uaG hk).1 hcd
 have hl:udG x=true:=by
  rw [ug2]
  exact(uaG (ulk hk)).2 ⟨y,hy.r,hy.l,fun k q=>by cases q⟩
 have hE:uah x=0:=uf8 hF hl
 have hO:upZ x=none:=by
  cases ho:upZ x with
  |none=>rfl
  | some r=>
   have q:=(upC ho).2.2.1
   have:udg (SN x) (LO x) ((FO x x.fs).take (r+1))=true:=(uaG (ulO hk _)).2 ⟨y,hy.r,hy.l,fun k hk'=>hy.f k (List.mem_of_mem_take hk')⟩
   rw [this]at q
   cases q
 have a:=ups hE
 have hb:ubG x []=true:=by rw [ug7 hX,uqB hk];exact hcd
 have hf:=(Few.few_nil a.all).1 hb
 have hf0:ud1 x.pn.toNat (ubG x)=[]:=List.eq_nil_of_length_eq_zero hf
 have hin:∀F,F∈uaw x.pn.toNat (ubG x)→F=[]:=fun F h=>List.eq_nil_of_length_eq_zero (((uda a.all).1 h).2.2.trans hf)
 have hmem:ud1 x.pn.toNat (ubG x)∈uaw x.pn.toNat (ubG x):=uwG a.all
 refine⟨hE,hO,urV hE hO,?_,?_,?_⟩
 ·unfold uqZ;rw [if_pos hE];exact hf0
 ·unfold ugm
  rw [if_pos hE]
  refine utg fun p _=> ?_
  cases h:uk9 x p with
  |false=>rfl
  | true=>
   have q:=List.all_eq_true.1 h _ hmem
   rw [hf0]at q
   cases q
 ·unfold uoc
  rw [if_pos hE]
  refine utg fun p _=> ?_
  cases h:uo6 x p with
  |false=>rfl
  | true=>
   obtain⟨F,h1,h2⟩:=List.any_eq_true.1 h
   rw [hin F h1]at h2
   cases h2
theorem uvN {x:Dsp}(hX:DOk x)(hc:ufd x x.fs []=true) {n:Int}(h0:0≤n):uiS (ufG x n) x.pn.toNat=n∧∀p,p<x.pn.toNat→(0≤ufG x n p∧ufG x n p≤n+1)∧(ufG x n p=n.tdiv x.pn∨ufG x n p=n.tdiv x.pn+1):=by
 have q:=uw6 hX hc
 have p1:=hX.p1
 have e:udK x=uaQ x.pn.toNat:=uq1 q.2.2.2.2.1
 have hb:=uvF q.1
 have el:(udK x).length=x.pn.toNat:=by rw [e,ufY]
 refine⟨?_,fun p hp=> ?_⟩
 ·have:=urO (pence:=n.toNat) hb.1 hb.2
  unfold ufG
  rw [this];omega
 ·have c:=uvz (pence:=n.toNat) hb.1 (p:=p) (by rw [e];exact uiD hp)
  have ed:n.tdiv x.pn=((n.toNat/(udK x).length:Nat):Int):=by
   rw [el]
   obtain⟨N,rfl⟩:∃N:Nat,n=(N:Int):=⟨n.toNat,by omega⟩
   obtain⟨P,hP⟩:∃P:Nat,x.pn=(P:Int):=⟨x.pn.toNat,by omega⟩
   rw [hP];rfl
  have hd:=Nat.div_le_self n.toNat (udK x).length
  have c':ufG x n p=n.tdiv x.pn∨ufG x n p=n.tdiv x.pn+1:=by rw [ed];exact c
  obtain⟨k,hk'⟩:∃k:Nat,k=n.toNat/(udK x).length:=⟨_,rfl⟩
  rw [←hk']at ed hd
  exact⟨by omega,c'⟩
def uzw :SC:=[(1,[⟨0,false,[],false,0,none⟩,⟨1,false,[0],false,0,none⟩,⟨2,false,[0,1],false,0,none⟩,⟨3,false,[],false,0,none⟩,⟨4,false,[3],false,0,none⟩,⟨5,false,[3,4],false,0,none⟩,⟨6,false,[0,1,2],false,0,none⟩,⟨7,true,[0,1,2,3,4,5,6],false,0,none⟩]),(6,[⟨0,false,[],false,0,none⟩,⟨1,false,[0],false,0,none⟩,⟨2,false,[0,1],false,0,none⟩,⟨3,false,[],false,0,none⟩,⟨4,false,[],false,0,none⟩,⟨6,false,[],false,0,none⟩,⟨8,false,[],false,0,none⟩,⟨9,false,[8],false,0,none⟩,⟨10,false,[8,9],false,0,none⟩,⟨15,false,[],false,0,none⟩,⟨16,false,[15],false,0,none⟩,⟨17,false,[15,16],false,0,none⟩,⟨18,false,[],false,0,none⟩,⟨19,false,[],false,0,none⟩,⟨20,false,[19],false,0,none⟩,⟨22,false,[],false,0,none⟩,⟨24,false,[],false,0,none⟩,⟨25,false,[24],false,0,none⟩,⟨26,false,[24,25],false,0,none⟩,⟨5,false,[3,4],false,0,none⟩,⟨7,false,[3,4,5,6],false,0,none⟩,⟨11,false,[3,4,5,6,7,8,9,10],false,0,none⟩,⟨12,false,[3,4,5,6,7,8,9,10,11],false,0,none⟩,⟨13,false,[3,4,5,6,7,8,9,10,11,12],false,0,none⟩,⟨14,false,[0,1,2,3,4,5,6,7,8,9,10,11,12,13],false,0,none⟩,⟨21,false,[3,4,5,6,7,18,19,20],false,0,none⟩,⟨23,false,[3,4,5,6,7,18,19,20,21,22],false,0,none⟩,⟨27,false,[3,4,5,6,7,18,19,20,21,22,23,24,25,26],false,0,none⟩,⟨28,false,[3,4,5,6,7,18,19,20,21,22,23,24,25,26,27],false,0,none⟩,⟨29,false,[3,4,5,6,7,18,19,20,21,22,23,24,25,26,27,28],false,0,none⟩,⟨30,false,[3,4,5,6,7,15,16,17,18,19,20,21,22,23,24,25,26,27,28,29],false,0,none⟩,⟨31,false,[0,1,2,3,4,5,6,7,8,9,10,11,12,13,14,18,19,20,21,22,23],false,0,none⟩,⟨32,true,[0,1,2,3,4,5,6,7,8,9,10,11,12,13,14,15,16,17,18,19,20,21,22,23,24,25,26,27,28,29,30,31],false,0,none⟩]),(14,[⟨0,false,[],false,0,none⟩,⟨1,false,[0],false,0,none⟩,⟨2,false,[0,1],false,0,none⟩,⟨3,false,[],false,0,none⟩,⟨4,false,[3],false,0,none⟩,⟨5,false,[],false,0,none⟩,⟨6,false,[5],false,0,none⟩,⟨7,false,[5,6],false,0,none⟩,⟨8,false,[3,4,5,6,7],false,0,none⟩,⟨9,false,[0,1,2,3,4,5,6,7,8],false,0,none⟩,⟨10,false,[],false,0,none⟩,⟨11,false,[10],false,0,none⟩,⟨12,true,[0,1,2,3,4,5,6,7,8,9,10,11],false,0,none⟩,⟨13,true,[0,1,2,3,4,5,6,7,8,9,10,11,12],false,0,none⟩,⟨14,true,[0,1,2,3,4,5,6,7,8,9,10,11,12,13],false,0,none⟩]),(15,[⟨0,false,[],false,0,none⟩,⟨1,false,[],false,0,none⟩,⟨2,false,[1],false,0,none⟩,⟨3,false,[0,1,2],false,0,none⟩,⟨4,false,[0,1,2,3],false,0,none⟩,⟨5,false,[],false,0,none⟩,⟨6,false,[],false,0,none⟩,⟨7,false,[6],false,0,none⟩,⟨8,false,[5,6,7],false,0,none⟩,⟨9,false,[5,6,7,8],false,0,none⟩,⟨10,true,[0,1,2,3,4,5,6,7,8,9],false,0,none⟩,⟨11,true,[0,1,2,3,4,5,6,7,8,9,10],false,0,none⟩]),(22,[⟨0,false,[],false,0,none⟩,⟨1,false,[],false,0,none⟩,⟨2,false,[1],false,0,none⟩,⟨3,false,[0,1,2],false,0,none⟩,⟨4,false,[],false,0,none⟩,⟨5,false,[4],false,0,none⟩,⟨6,false,[],false,0,none⟩,⟨7,false,[6],false,0,none⟩,⟨8,false,[4,5,6,7],false,0,none⟩,⟨9,false,[0,1,2,3,4,5,6,7,8],false,0,none⟩,⟨10,false,[],false,0,none⟩,⟨11,true,[0,1,2,3,4,5,6,7,8,9,10],false,0,none⟩]),(23,[⟨0,false,[],false,0,none⟩,⟨1,false,[0],false,0,none⟩,⟨2,false,[0,1],false,0,none⟩,⟨3,false,[],false,0,none⟩,⟨4,false,[],false,0,none⟩,⟨5,false,[4],false,0,none⟩,⟨7,false,[],false,0,none⟩,⟨9,false,[],false,0,none⟩,⟨10,false,[9],false,0,none⟩,⟨11,false,[9,10],false,0,none⟩,⟨16,false,[],false,0,none⟩,⟨17,false,[16],false,0,none⟩,⟨18,false,[16,17],false,0,none⟩,⟨19,false,[],false,0,none⟩,⟨20,false,[],false,0,none⟩,⟨21,false,[20],false,0,none⟩,⟨22,false,[20,21],false,0,none⟩,⟨24,false,[],false,0,none⟩,⟨26,false,[],false,0,none⟩,⟨27,false,[26],false,0,none⟩,⟨28,false,[26,27],false,0,none⟩,⟨6,false,[3,4,5],false,0,none⟩,⟨8,false,[3,4,5,6,7],false,0,none⟩,⟨12,false,[3,4,5,6,7,8,9,10,11],false,0,none⟩,⟨13,false,[3,4,5,6,7,8,9,10,11,12],false,0,none⟩,⟨14,false,[3,4,5,6,7,8,9,10,11,12,13],false,0,none⟩,⟨15,false,[0,1,2,3,4,5,6,7,8,9,10,11,12,13,14],false,0,none⟩,⟨23,false,[3,4,5,6,7,8,19,20,21,22],false,0,none⟩,⟨25,false,[3,4,5,6,7,8,19,20,21,22,23,24],false,0,none⟩,⟨29,false,[3,4,5,6,7,8,19,20,21,22,23,24,25,26,27,28],false,0,none⟩,⟨30,false,[3,4,5,6,7,8,19,20,21,22,23,24,25,26,27,28,29],false,0,none⟩,⟨31,false,[3,4,5,6,7,8,19,20,21,22,23,24,25,26,27,28,29,30],false,0,none⟩,⟨32,false,[3,4,5,6,7,8,16,17,18,19,20,21,22,23,24,25,26,27,28,29,30,31],false,0,none⟩,⟨33,false,[0,1,2,3,4,5,6,7,8,9,10,11,12,13,14,15,19,20,21,22,23,24,25],false,0,none⟩,⟨34,true,[0,1,2,3,4,5,6,7,8,9,10,11,12,13,14,15,16,17,18,19,20,21,22,23,24,25,26,27,28,29,30,31,32,33],false,0,none⟩]),(24,[⟨0,false,[],false,0,none⟩,⟨1,false,[0],false,0,none⟩,⟨2,false,[0,1],false,0,none⟩,⟨3,false,[],false,0,none⟩,⟨4,false,[],false,0,none⟩,⟨5,false,[4],false,0,none⟩,⟨6,false,[4,5],false,0,none⟩,⟨7,false,[3,4,5,6],false,0,none⟩,⟨8,false,[0,1,2,3,4,5,6,7],false,0,none⟩,⟨9,false,[],false,0,none⟩,⟨11,false,[],false,0,none⟩,⟨12,false,[],false,0,none⟩,⟨13,false,[12],false,0,none⟩,⟨14,false,[12,13],false,0,none⟩,⟨15,false,[11,12,13,14],false,0,none⟩,⟨10,false,[9],false,0,none⟩,⟨16,false,[9,10,11,12,13,14,15],false,0,none⟩,⟨17,true,[0,1,2,3,4,5,6,7,8,9,10,11,12,13,14,15,16],false,0,none⟩,⟨18,true,[0,1,2,3,4,5,6,7,8,9,10,11,12,13,14,15,16,17],false,0,none⟩,⟨19,true,[0,1,2,3,4,5,6,7,8,9,10,11,12,13,14,15,16,17,18],false,0,none⟩]),(25,[⟨0,false,[],false,0,none⟩,⟨1,false,[0],false,0,none⟩,⟨2,false,[0,1],false,0,none⟩,⟨3,false,[],false,0,none⟩,⟨4,false,[],false,0,none⟩,⟨5,false,[4],false,0,none⟩,⟨6,false,[4,5],false,0,none⟩,⟨7,false,[3,4,5,6],false,0,none⟩,⟨8,false,[0,1,2,3,4,5,6,7],false,0,none⟩,⟨9,false,[],false,0,none⟩,⟨11,false,[],false,0,none⟩,⟨12,false,[],false,0,none⟩,⟨13,false,[12],false,0,none⟩,⟨14,false,[12,13],false,0,none⟩,⟨15,false,[11,12,13,14],false,0,none⟩,⟨10,false,[9],false,0,none⟩,⟨16,false,[9,10,11,12,13,14,15],false,0,none⟩,⟨17,true,[0,1,2,3,4,5,6,7,8,9,10,11,12,13,14,15,16],false,0,none⟩,⟨18,true,[0,1,2,3,4,5,6,7,8,9,10,11,12,13,14,15,16,17],false,0,none⟩,⟨19,true,[0,1,2,3,4,5,6,7,8,9,10,11,12,13,14,15,16,17,18],false,0,none⟩])]
theorem uhJ {v k:Int}(h0:0≤v∧v≤65535)(hk:1≤k):0≤v.tdiv k∧v.tdiv k≤65535:=⟨Int.tdiv_nonneg h0.1 (by omega),Int.le_trans (Int.tdiv_le_self _ h0.1) h0.2⟩
theorem upH {α:Type} {l:List α} {x z:α} {i:Nat}(h:i<l.length):(l++[x]).getD i z=l.getD i z:=by
 rw [List.getD_eq_getElem?_getD,List.getElem?_append_left h,←List.getD_eq_getElem?_getD]
theorem ul8 {α:Type} {l:List α} {x z:α} {i:Nat}(h:i=l.length):(l++[x]).getD i z=x:=by
 subst h
 simp [List.getD_eq_getElem?_getD]
theorem uj5 {α:Type} {f:Nat→α} {n:Nat}:(List.range (n+1)).map f=(List.range n).map f++[f n]:=by
 rw [List.range_succ,List.map_append];rfl
theorem uva {a b:List LkT}(h:a=b):Fit (.sl 4 (.sym fun _=>zi (a).length) (fun ix=>[(iv fun _=>((a).getD ix.den.toNat l0T).a),(iv fun _=>((a).getD ix.den.toNat l0T).b),(iv fun _=>((a).getD ix.den.toNat l0T).lo),(iv fun _=>((a).getD ix.den.toNat l0T).hi)])) (.sl 4 (.sym fun _=>zi (b).length) (fun ix=>[(iv fun _=>((b).getD ix.den.toNat l0T).a),(iv fun _=>((b).getD ix.den.toNat l0T).b),(iv fun _=>((b).getD ix.den.toNat l0T).lo),(iv fun _=>((b).getD ix.den.toNat l0T).hi)])):=by
 subst h
 exact Fit.refl _
theorem uvd {a b:List FaT}(h:a=b):Fit (.sl 6 (.sym fun _=>zi (a).length) (fun ix=>[(iv fun _=>((a).getD ix.den.toNat f0T).p),(iv fun _=>((a).getD ix.den.toNat f0T).s),(iv fun _=>((a).getD ix.den.toNat f0T).wl),(iv fun _=>((a).getD ix.den.toNat f0T).wh),(iv fun _=>((a).getD ix.den.toNat f0T).ml),(iv fun _=>((a).getD ix.den.toNat f0T).mh)])) (.sl 6 (.sym fun _=>zi (b).length) (fun ix=>[(iv fun _=>((b).getD ix.den.toNat f0T).p),(iv fun _=>((b).getD ix.den.toNat f0T).s),(iv fun _=>((b).getD ix.den.toNat f0T).wl),(iv fun _=>((b).getD ix.den.toNat f0T).wh),(iv fun _=>((b).getD ix.den.toNat f0T).ml),(iv fun _=>((b).getD ix.den.toNat f0T).mh)])):=by
 subst h
 exact Fit.refl _
set_option maxHeartbeats 4000000 in
theorem uxK (d:Dsp)(ws:List Int)(hd:DOk d)(hw:∀k,k<ws.length→0≤ws.getD k 0∧ws.getD k 0≤65535)(hl:ws.length≤9223372036854775807):ua0 Tryz.prog 29 [(ubh d),(.sl 1 (.sym fun _=>zi ws.length) (fun ix=>[.int .u16 (.sym fun _=>ws.getD ix.den.toNat 0)]))] [] (fun r _=>r=(.tup [(.agg [(iS d.tw),(iS d.tm),(.sl 1 (.sym fun _=>zi (d.tv).length) (fun ix=>[(.sl 1 (.sym fun _=>zi ((d.tv).getD ix.den.toNat []).length) (fun jx=>[(iv fun _=>((d.tv).getD ix.den.toNat []).getD jx.den.toNat 0)]))])),(iv fun _=>d.sn),(iv fun _=>d.pn),(.sl 4 (.sym fun _=>zi (rdX d ws).ls.length) (fun ix=>[(iv fun _=>((rdX d ws).ls.getD ix.den.toNat l0T).a),(iv fun _=>((rdX d ws).ls.getD ix.den.toNat l0T).b),(iv fun _=>((rdX d ws).ls.getD ix.den.toNat l0T).lo),(iv fun _=>((rdX d ws).ls.getD ix.den.toNat l0T).hi)])),(.sl 6 (.sym fun _=>zi (rdX d ws).fs.length) (fun ix=>[(iv fun _=>((rdX d ws).fs.getD ix.den.toNat f0T).p),(iv fun _=>((rdX d ws).fs.getD ix.den.toNat f0T).s),(iv fun _=>((rdX d ws).fs.getD ix.den.toNat f0T).wl),(iv fun _=>((rdX d ws).fs.getD ix.den.toNat f0T).wh),(iv fun _=>((rdX d ws).fs.getD ix.den.toNat f0T).ml),(iv fun _=>((rdX d ws).fs.getD ix.den.toNat f0T).mh)]))]),(iS ((rdT d ws)))])):=by
 have c67:=fun (a:Nat) (ha:a≤1000)=>uw9 ws a hw hl ha
 have c68w:=uql d.tw ⟨by have:=hd.t.w2;omega,by have:=hd.t.w5;omega⟩
 have c68m:=uql d.tm ⟨by have:=hd.t.m2;omega,by have:=hd.t.m5;omega⟩
 have c69:=fun (s:Nat)=>uAJ d.tw d.tm d.tv (ptA d ws s) (ptB d ws s) ⟨hd.t,upM hd.t hw s⟩
 have s1:=hd.s1
 have s3:=hd.s3
 have p1:=hd.p1
 have p4:=hd.p4
 have hm2:=hd.t.m2
 have hm5:=hd.t.m5
 have hw2:=hd.t.w2
 have hw5:=hd.t.w5
 have tb:=uxH hd.t
 have tl:=usV hd.t
 have wb:=fun a=>uis hw a
 have hd0:=hd.t
 refine ua0.is fun R hR=>qW (sc:=uzw) uan mix Tryz.func29 rfl Tryz.call29 (by kernel_rfl) (by kernel_rfl) ?_
 generalize Tryz.prog=P at c67 c68w c68m c69⊢
 cbv
 repeat' (first|fail)
 all_goals first|skip
 refine⟨none,[⟨.tmp 8,3,1⟩],{x:Nat×List Int // x.1≤d.sn.toNat∧x.2=utK (trS d ws) x.1},fun x=>⟨[(1,(.sl 1 (.sym fun _=>zi ws.length) (fun ix=>[.int .u16 (.sym fun _=>ws.getD ix.den.toNat 0)]))),(2,.own 0 0),(4,.own 1 0),(6,(iS d.tw)),(7,(iS d.tm)),(8,.row 13),(9,(iv fun _=>zi x.1.1))],[(0,.cells [(iS d.tw),(iS d.tm),(.sl 1 (.sym fun _=>zi (d.tv).length) (fun ix=>[(.sl 1 (.sym fun _=>zi ((d.tv).getD ix.den.toNat []).length) (fun jx=>[(iv fun _=>((d.tv).getD ix.den.toNat []).getD jx.den.toNat 0)]))])),(iv fun _=>d.sn),(iv fun _=>d.pn),(.sl 4 (.sym fun _=>zi (d.ls).length) (fun ix=>[(iv fun _=>((d.ls).getD ix.den.toNat l0T).a),(iv fun _=>((d.ls).getD ix.den.toNat l0T).b),(iv fun _=>((d.ls).getD ix.den.toNat l0T).lo),(iv fun _=>((d.ls).getD ix.den.toNat l0T).hi)])),(.sl 6 (.sym fun _=>zi (d.fs).length) (fun ix=>[(iv fun _=>((d.fs).getD ix.den.toNat f0T).p),(iv fun _=>((d.fs).getD ix.den.toNat f0T).s),(iv fun _=>((d.fs).getD ix.den.toNat f0T).wl),(iv fun _=>((d.fs).getD ix.den.toNat f0T).wh),(iv fun _=>((d.fs).getD ix.den.toNat f0T).ml),(iv fun _=>((d.fs).getD ix.den.toNat f0T).mh)]))] 29),(1,.cells [.val (Value.slice none 0 0),.val (Value.slice none 0 0),.val (Value.slice none 0 0),.int .i64 (.lit 0),.int .i64 (.lit 0),.val (Value.slice none 0 0),.val (Value.slice none 0 0)] 29),(13,.row 3 1 (.sym fun _=>zi (x.1.2).length) (fun ix=>[(iv fun _=>(x.1.2).getD ix.den.toNat 0)]))],60⟩,fun x=>d.sn.toNat-x.1.1,?_,?_⟩
 ·refine⟨⟨(0,[]),by simp only [];omega,rfl⟩,?_⟩
  cbv
  repeat' (first|with_reducible refine ua4 ?_ ?_|with_reducible refine And.intro ?_ ?_)
  all_goals first|trivial|exact qM (qE (by rfl))|exact qM (Fit.refl _)|exact qL (qK _)|(refine qL (ua9 ?_ ?_);(first|rfl|((try simp only [qV]at *);(try simp only [zQ,zA,zB,zC,zD,zE,zF,zG,zH,zI,zJ,zK,zL,zM,zN,zO,zP,zR,zS]at *);omega));intro ix h0 h1;exfalso;(try simp only [qV]at *);(try simp only [zQ,zA,zB,zC,zD,zE,zF,zG,zH,zI,zJ,zK,zL,zM,zN,zO,zP,zR,zS]at *);omega)|skip
 ·rintro ⟨⟨i, L⟩,hi,hL⟩
  cbv
  dsimp only at hi hL
  have hll:L.length=i:=by rw [hL,upe]
  repeat' (first
   |with_reducible refine ua4 ?_ ?_
   |with_reducible refine And.intro ?_ ?_
   |(with_reducible refine qT ?_ ?_;try cbv)
   |(with_reducible intro hcd;(try simp only [zA,zB,zC,zD,zE,zF,zG,zH,zI,zJ,zK,zL,zM,zN,zO,zP]at hcd);try cbv)
   |(refine qP ?_ (c67 i (by((try simp only [qV]at *);(try simp only [zQ,zA,zB,zC,zD,zE,zF,zG,zH,zI,zJ,zK,zL,zM,zN,zO,zP,zR,zS]at *);omega))) ?hfit;(case hfit=>((repeat' (first|exact qB|refine qD ?_ ?_|exact qE (by rfl)|exact qF (by rfl)|exact Fit.refl _|exact qA|refine qC ?_ rfl ?_));done));try cbv)
   |(refine qP ?_ (c67 (i+3) (by((try simp only [qV]at *);(try simp only [zQ,zA,zB,zC,zD,zE,zF,zG,zH,zI,zJ,zK,zL,zM,zN,zO,zP,zR,zS]at *);omega))) ?hfit;(case hfit=>((repeat' (first|exact qB|refine qD ?_ ?_|exact qE (by rfl)|exact qF (by rfl)|exact Fit.refl _|exact qA|refine qC ?_ rfl ?_));done));try cbv)
   |(refine qP ?_ (c68w) ?hfit;(case hfit=>((repeat' (first|exact qB|refine qD ?_ ?_|exact qE (by rfl)|exact qF (by rfl)|exact Fit.refl _|exact qA|refine qC ?_ rfl ?_));done));try cbv)
   |(refine qP ?_ (c68m) ?hfit;(case hfit=>((repeat' (first|exact qB|refine qD ?_ ?_|exact qE (by rfl)|exact qF (by rfl)|exact Fit.refl _|exact qA|refine qC ?_ rfl ?_));done));try cbv)
   |(refine qP ?_ (c69 i) ?hfit;(case hfit=>((repeat' (first|exact qB|refine qD ?_ ?_|exact qE (by rfl)|exact qF (by rfl)|exact Fit.refl _|exact qA|refine qC ?_ rfl ?_));done));try cbv)
   | (obtain⟨L2,eL2⟩:∃y:List Int,y=L++[trS d ws i]:=⟨_,rfl⟩
      refine⟨udJ L2,?_⟩
      cbv
      refine ua4 (ual (L:=L) eL2 (by(first|rfl|((try simp only [qV]at *);(try simp only [zQ,zA,zB,zC,zD,zE,zF,zG,zH,zI,zJ,zK,zL,zM,zN,zO,zP,zR,zS]at *);done)|((try simp only [qV]at *);(try simp only [zQ,zA,zB,zC,zD,zE,zF,zG,zH,zI,zJ,zK,zL,zM,zN,zO,zP,zR,zS]at *);omega))) (by rfl) (fun ix=>Fit.refl _) (fun ix h=>qC (qE (by rfl)) rfl qA) (by(try simp only [qV]at *);(try simp only [zQ,zA,zB,zC,zD,zE,zF,zG,zH,zI,zJ,zK,zL,zM,zN,zO,zP,zR,zS]at *);omega)) (Or.inl ?_)
      try cbv)
   |fail)
  all_goals first|((try clear c67);(try clear c68w);(try clear c68m);(try clear c69);((try simp only [qV]at *);(try simp only [zQ,zA,zB,zC,zD,zE,zF,zG,zH,zI,zJ,zK,zL,zM,zN,zO,zP,zR,zS]at *);first|(refine qN ?_;omega)|(simp only [uaq];omega)))|((try clear c67);(try clear c68w);(try clear c68m);(try clear c69);((have w1:=wb i);(have w2:=wb (i+3));(have m1:=uay (n:=wdN ws i) (k:=(d.tw.getD (d.tw.length-1) 0)-d.tw.getD 0 0+1) (by omega) (by omega));(have m2:=uay (n:=wdN ws (i+3)) (k:=(d.tm.getD (d.tm.length-1) 0)-d.tm.getD 0 0+1) (by omega) (by omega));(try simp only [qV]at *);(try simp only [zQ,zA,zB,zC,zD,zE,zF,zG,zH,zI,zJ,zK,zL,zM,zN,zO,zP,zR,zS]at *);(try simp only [Int.toNat_zero]at *);first|(refine qN ?_;omega)|(simp only [uaq];first|omega|exact⟨by omega,by omega⟩)))|((try clear c67);(try clear c68w);(try clear c68m);(try clear c69);((try simp only [zQ,zA,zB,zC,zD,zE,zF,zG,zH,zI,zJ,zK,zL,zM,zN,zO,zP,zR,zS]at *);(have hl2:L2=utK (trS d ws) (i+1):=by rw [eL2,hL];unfold utK;rw [List.range_succ,List.map_append];rfl);refine⟨⟨(i+1,L2),(by((try simp only [qV]at *);(try simp only [zQ,zA,zB,zC,zD,zE,zF,zG,zH,zI,zJ,zK,zL,zM,zN,zO,zP,zR,zS]at *);omega)),hl2⟩,by simp only [];omega,?_⟩;cbv;(repeat' (first|with_reducible refine ua4 ?_ ?_|with_reducible refine And.intro ?_ ?_));(all_goals first|trivial|exact qM (qE (by rfl))|exact qM (qF (by rfl))|exact qM (Fit.refl _)|exact qL (qK _)|(refine qM (qE ?_);(try simp only [qV]at *);simp only [zQ,zA,zB,zC,zD,zE,zF,zG,zH,zI,zJ,zK,zL,zM,zN,zO,zP,zR,zS]at *;omega)|(refine qL (qJ ?_);(repeat' (first|exact qA|exact qB|refine qC ?_ rfl ?_|refine qD ?_ ?_|exact qE (by rfl)|exact qF (by rfl)|exact Fit.refl _|exact qG _|(refine qE ?_;(try simp only [qV]at *);simp only [zQ,zA,zB,zC,zD,zE,zF,zG,zH,zI,zJ,zK,zL,zM,zN,zO,zP,zR,zS]at *;omega)));done)|(refine qL (urs ?_ ?_);(first|rfl|((try simp only [qV]at *);(try simp only [zQ,zA,zB,zC,zD,zE,zF,zG,zH,zI,zJ,zK,zL,zM,zN,zO,zP,zR,zS]at *);simp only [eL2,List.length_append,List.length_cons,List.length_nil];omega));intro ix;(try simp only [eL2]);first|exact Fit.refl _|exact qC (qE (by rfl)) rfl qA)|skip)))|skip
  have hT:L=rdT d ws:=by rw [hL,show i=d.sn.toNat from(by((try simp only [qV]at *);(try simp only [zQ,zA,zB,zC,zD,zE,zF,zG,zH,zI,zJ,zK,zL,zM,zN,zO,zP,zR,zS]at *);omega))];rfl
  have hTl:L.length=d.sn.toNat:=by rw [hT,ukj]
  have tt:∀k:Nat,k<d.sn.toNat→0≤L.getD k 0∧L.getD k 0≤2000:=fun k hk=>by rw [hT,ugM hk];exact uqN hd0 hw k
  have n4:rdN d ws≤4:=by
   have:=uay (k:=5) (wb 1).1 (by omega)
   unfold rdN
   split<;>omega
  have nN:1<d.sn→zi (rdN d ws)=(wdN ws 1).tmod 5:=fun h=>by
   have:=uay (k:=5) (wb 1).1 (by omega)
   unfold rdN
   rw [if_pos h];simp only [uaa];omega
  have n0:¬1<d.sn→rdN d ws=0:=fun h=>by unfold rdN;rw [if_neg h]
  refine⟨none,[⟨.cell 0 5,100,4⟩],{x:Nat×List LkT // x.1≤rdN d ws∧x.2=ur0 d ws x.1},fun x=>⟨[(1,(.sl 1 (.sym fun _=>zi ws.length) (fun ix=>[.int .u16 (.sym fun _=>ws.getD ix.den.toNat 0)]))),(2,.own 0 0),(4,.own 1 0),(6,(iS d.tw)),(7,(iS d.tm)),(8,.row 13),(12,(iv fun _=>zi x.1.1))],[(0,.cells [(iS d.tw),(iS d.tm),(.sl 1 (.sym fun _=>zi (d.tv).length) (fun ix=>[(.sl 1 (.sym fun _=>zi ((d.tv).getD ix.den.toNat []).length) (fun jx=>[(iv fun _=>((d.tv).getD ix.den.toNat []).getD jx.den.toNat 0)]))])),(iv fun _=>d.sn),(iv fun _=>d.pn),.row 69,.val (Value.slice none 0 0)] 29),(1,.cells [.val (Value.slice none 0 0),.val (Value.slice none 0 0),.val (Value.slice none 0 0),.int .i64 (.lit 0),.int .i64 (.lit 0),.val (Value.slice none 0 0),.val (Value.slice none 0 0)] 29),(13,.row 3 1 (.sym fun _=>zi (L).length) (fun ix=>[(iv fun _=>(L).getD ix.den.toNat 0)])),(69,.row 100 4 (.sym fun _=>zi (x.1.2).length) (fun ix=>[(iv fun _=>((x.1.2).getD ix.den.toNat l0T).a),(iv fun _=>((x.1.2).getD ix.den.toNat l0T).b),(iv fun _=>((x.1.2).getD ix.den.toNat l0T).lo),(iv fun _=>((x.1.2).getD ix.den.toNat l0T).hi)]))],550⟩,fun x=>rdN d ws-x.1.1,?_,?_⟩
  ·refine⟨⟨(0,[]),by simp only [];omega,rfl⟩,?_⟩
   cbv
   repeat' (first|with_reducible refine ua4 ?_ ?_|with_reducible refine And.intro ?_ ?_)
   all_goals first|trivial|exact qM (qE (by rfl))|exact qM (Fit.refl _)|exact qL (qK _)|(refine qL (ua9 ?_ ?_);(first|rfl|((try simp only [qV]at *);(try simp only [zQ,zA,zB,zC,zD,zE,zF,zG,zH,zI,zJ,zK,zL,zM,zN,zO,zP,zR,zS]at *);omega));intro ix h0 h1;exfalso;(try simp only [qV]at *);(try simp only [zQ,zA,zB,zC,zD,zE,zF,zG,zH,zI,zJ,zK,zL,zM,zN,zO,zP,zR,zS]at *);omega)|skip
  ·rintro ⟨⟨j,Ls⟩,hj,hLs⟩
   cbv
   dsimp only at hj hLs
   have hLl:Ls.length=j:=by rw [hLs];exact(uff d ws j).1
   have wj:=wb (j+5)
   have c67v:=c67 (j+5) (by omega)
   obtain⟨v,hv⟩:∃v,v=wdN ws (j+5):=⟨_,rfl⟩
   rw [←hv]at wj c67v
   have d4:=uhJ wj (k:=4) (by decide)
   have d16:=uhJ wj (k:=16) (by decide)
   have d128:=uhJ wj (k:=128) (by decide)
   have a1:=uay (k:=d.sn) wj.1 (by omega)
   have a2:=fun h:1<d.sn=>uay (k:=d.sn-1) d4.1 (by omega)
   have a3:=uay (k:=6) d16.1 (by omega)
   have a4:=uay (k:=6) d128.1 (by omega)
   have hA:lkA d v=v.tmod d.sn:=rfl
   have a5:=uay (n:=lkA d v+1+(v.tdiv 4).tmod (d.sn-1)) (k:=d.sn)
   have m1:=wb 1
   have m5:=uay (k:=5) m1.1 (by omega)
   repeat' (first
    |with_reducible refine ua4 ?_ ?_
    |with_reducible refine And.intro ?_ ?_
    |(with_reducible refine qS ?_ ?_ ?_;try cbv)
    |(with_reducible refine qT ?_ ?_;try cbv)
    |(with_reducible intro hcd;(try simp only [zA,zB,zC,zD,zE,zF,zG,zH,zI,zJ,zK,zL,zM,zN,zO,zP]at hcd);try cbv)
    |(refine qP ?_ (c67 1 (by omega)) ?hfit;(case hfit=>((repeat' (first|exact qB|refine qD ?_ ?_|exact qE (by rfl)|exact qF (by rfl)|exact Fit.refl _|exact qA|refine qC ?_ rfl ?_));done));try cbv)
    |(refine qP ?_ (c67v) ?hfit;(case hfit=>((repeat' (first|exact qB|refine qD ?_ ?_|exact qE (by rfl)|exact qF (by rfl)|exact Fit.refl _|exact qA|refine qC ?_ rfl ?_));done));try cbv)
    | (refine⟨fun ix=>[(iv fun _=>((Ls++[(rdL d L v)]).getD ix.den.toNat l0T).a),(iv fun _=>((Ls++[(rdL d L v)]).getD ix.den.toNat l0T).b),(iv fun _=>((Ls++[(rdL d L v)]).getD ix.den.toNat l0T).lo),(iv fun _=>((Ls++[(rdL d L v)]).getD ix.den.toNat l0T).hi)],?_⟩
       cbv
       refine ua4 (ubj (by intro ix jx h0 h1 h2;(have e3:jx.den.toNat=ix.den.toNat:=by rw [h2]);(have e:=upH (l:=Ls) (x:=(rdL d L v)) (z:=l0T) (i:=ix.den.toNat) (by(try simp only [qV]at *);(try simp only [zQ,zA,zB,zC,zD,zE,zF,zG,zH,zI,zJ,zK,zL,zM,zN,zO,zP,zR,zS]at *);omega));simp only [e3,e];exact Fit.refl _) (by intro ix jx h0 h1 h2;(have e:=ul8 (l:=Ls) (x:=(rdL d L v)) (z:=l0T) (i:=jx.den.toNat) (by(try simp only [qV]at *);(try simp only [zQ,zA,zB,zC,zD,zE,zF,zG,zH,zI,zJ,zK,zL,zM,zN,zO,zP,zR,zS]at *);omega));simp only [e];exact(qC (qE (by rfl)) rfl (qC (qE (by rfl)) rfl (qC (qE (by rfl)) rfl (qC (qE (by rfl)) rfl qA))))) (by(try simp only [qV]at *);(try simp only [zQ,zA,zB,zC,zD,zE,zF,zG,zH,zI,zJ,zK,zL,zM,zN,zO,zP,zR,zS]at *);omega)) (Or.inl ?_)
       try cbv)
    |fail)
   all_goals first|((try clear c67);(try clear c68w);(try clear c68m);(try clear c69);(try clear c67v);((try simp only [qV]at *);(try simp only [zQ,zA,zB,zC,zD,zE,zF,zG,zH,zI,zJ,zK,zL,zM,zN,zO,zP,zR,zS]at *);first|(refine qN ?_;omega)|(simp only [uaq];omega)))|((try clear c67);(try clear c68w);(try clear c68m);(try clear c69);(try clear c67v);(((have q1:1<d.sn:=(by((try simp only [qV]at *);(try simp only [zQ,zA,zB,zC,zD,zE,zF,zG,zH,zI,zJ,zK,zL,zM,zN,zO,zP,zR,zS]at *);omega)));(have a6:=a2 q1);(have a7:=a5 (by rw [hA];omega) (by omega));(have t1:=tt (lkA d v).toNat (by rw [hA];omega));(have t2:=tt (lkB d v).toNat (by unfold lkB;omega));unfold lkB at *;rw [hA]at *;(try simp only [qV]at *);(try simp only [zQ,zA,zB,zC,zD,zE,zF,zG,zH,zI,zJ,zK,zL,zM,zN,zO,zP,zR,zS]at *);(try simp only [Int.toNat_zero]at *);first|(refine qN ?_;omega)|(simp only [uaq];first|omega|exact⟨by omega,by omega⟩))))|((try clear c67);(try clear c68w);(try clear c68m);(try clear c69);(try clear c67v);((try simp only [zQ,zA,zB,zC,zD,zE,zF,zG,zH,zI,zJ,zK,zL,zM,zN,zO,zP,zR,zS]at *);obtain⟨Ls2,e2⟩:∃y,y=Ls++[rdL d L v]:=⟨_,rfl⟩;(have hl2:Ls2=ur0 d ws (j+1):=by rw [e2,hLs];unfold ur0;rw [uj5,←hT,←hv]);refine⟨⟨(j+1,Ls2),(by(have q1:1<d.sn:=(by((try simp only [qV]at *);(try simp only [zQ,zA,zB,zC,zD,zE,zF,zG,zH,zI,zJ,zK,zL,zM,zN,zO,zP,zR,zS]at *);omega)));(have q2:=nN q1);(try simp only [qV]at *);(try simp only [zQ,zA,zB,zC,zD,zE,zF,zG,zH,zI,zJ,zK,zL,zM,zN,zO,zP,zR,zS]at *);omega),hl2⟩,by simp only [];omega,?_⟩;cbv;(repeat' (first|with_reducible refine ua4 ?_ ?_|with_reducible refine And.intro ?_ ?_));(all_goals first|trivial|exact qM (qE (by rfl))|exact qM (qF (by rfl))|exact qM (Fit.refl _)|exact qL (qK _)|(refine qM (qE ?_);(try simp only [qV]at *);simp only [zQ,zA,zB,zC,zD,zE,zF,zG,zH,zI,zJ,zK,zL,zM,zN,zO,zP,zR,zS]at *;omega)|(refine qL (qJ ?_);(repeat' (first|exact qA|exact qB|refine qC ?_ rfl ?_|refine qD ?_ ?_|exact qE (by rfl)|exact qF (by rfl)|exact Fit.refl _|exact qG _|(refine qE ?_;(try simp only [qV]at *);simp only [zQ,zA,zB,zC,zD,zE,zF,zG,zH,zI,zJ,zK,zL,zM,zN,zO,zP,zR,zS]at *;omega)));done)|(subst e2;refine qL (ua9 ?_ ?_)<;>first|rfl|((try simp only [qV]at *);(try simp only [zQ,zA,zB,zC,zD,zE,zF,zG,zH,zI,zJ,zK,zL,zM,zN,zO,zP,zR,zS]at *);(try simp only [List.length_append,List.length_cons,List.length_nil]);omega)|(intro ix h0 h1;exact Fit.refl _))|skip)))|skip
   all_goals (
    have hjN:j=rdN d ws:=by
     by_cases q:1<d.sn
     ·have q2:=nN q
      (try simp only [qV]at *);(try simp only [zQ,zA,zB,zC,zD,zE,zF,zG,zH,zI,zJ,zK,zL,zM,zN,zO,zP,zR,zS]at *)
      omega
     ·have q2:=n0 q
      omega
    have eL:Ls=(rdX d ws).ls:=by rw [hLs,hjN];rfl
    have n7:rdM ws≤6:=by
     have:=uay (k:=7) (wb 2).1 (by omega)
     unfold rdM
     omega
    have nM:zi (rdM ws)=(wdN ws 2).tmod 7:=by
     have:=uay (k:=7) (wb 2).1 (by omega)
     unfold rdM
     simp only [uaa];omega
    refine⟨none,[⟨.cell 0 6,104,6⟩],{x:Nat×List FaT // x.1≤rdM ws∧x.2=uqW d ws x.1},fun x=>⟨[(1,(.sl 1 (.sym fun _=>zi ws.length) (fun ix=>[.int .u16 (.sym fun _=>ws.getD ix.den.toNat 0)]))),(2,.own 0 0),(4,.own 1 0),(6,(iS d.tw)),(7,(iS d.tm)),(8,.row 13),(16,(iv fun _=>zi x.1.1))],[(0,.cells [(iS d.tw),(iS d.tm),(.sl 1 (.sym fun _=>zi (d.tv).length) (fun ix=>[(.sl 1 (.sym fun _=>zi ((d.tv).getD ix.den.toNat []).length) (fun jx=>[(iv fun _=>((d.tv).getD ix.den.toNat []).getD jx.den.toNat 0)]))])),(iv fun _=>d.sn),(iv fun _=>d.pn),.row 69,.row 561] 29),(1,.cells [.val (Value.slice none 0 0),.val (Value.slice none 0 0),.val (Value.slice none 0 0),.int .i64 (.lit 0),.int .i64 (.lit 0),.val (Value.slice none 0 0),.val (Value.slice none 0 0)] 29),(13,.row 3 1 (.sym fun _=>zi (L).length) (fun ix=>[(iv fun _=>(L).getD ix.den.toNat 0)])),(69,.row 100 4 (.sym fun _=>zi (Ls).length) (fun ix=>[(iv fun _=>((Ls).getD ix.den.toNat l0T).a),(iv fun _=>((Ls).getD ix.den.toNat l0T).b),(iv fun _=>((Ls).getD ix.den.toNat l0T).lo),(iv fun _=>((Ls).getD ix.den.toNat l0T).hi)])),(561,.row 104 6 (.sym fun _=>zi (x.1.2).length) (fun ix=>[(iv fun _=>((x.1.2).getD ix.den.toNat f0T).p),(iv fun _=>((x.1.2).getD ix.den.toNat f0T).s),(iv fun _=>((x.1.2).getD ix.den.toNat f0T).wl),(iv fun _=>((x.1.2).getD ix.den.toNat f0T).wh),(iv fun _=>((x.1.2).getD ix.den.toNat f0T).ml),(iv fun _=>((x.1.2).getD ix.den.toNat f0T).mh)]))],900⟩,fun x=>rdM ws-x.1.1,?_,?_⟩
    ·refine⟨⟨(0,[]),by simp only [];omega,rfl⟩,?_⟩
     cbv
     repeat' (first|with_reducible refine ua4 ?_ ?_|with_reducible refine And.intro ?_ ?_)
     all_goals first|trivial|exact qM (qE (by rfl))|exact qM (Fit.refl _)|exact qL (qK _)|(refine qL (ua9 ?_ ?_);(first|rfl|((try simp only [qV]at *);(try simp only [zQ,zA,zB,zC,zD,zE,zF,zG,zH,zI,zJ,zK,zL,zM,zN,zO,zP,zR,zS]at *);omega));intro ix h0 h1;exfalso;(try simp only [qV]at *);(try simp only [zQ,zA,zB,zC,zD,zE,zF,zG,zH,zI,zJ,zK,zL,zM,zN,zO,zP,zR,zS]at *);omega)|skip
    ·rintro ⟨⟨k,Fs⟩,hk,hFs⟩
     cbv
     dsimp only at hk hFs
     have hFl:Fs.length=k:=by rw [hFs];exact(uff d ws k).2
     have wj:=wb (k+9)
     have c67v:=c67 (k+9) (by omega)
     obtain⟨v,hv⟩:∃v,v=wdN ws (k+9):=⟨_,rfl⟩
     rw [←hv]at wj c67v
     have d4:=uhJ wj (k:=4) (by decide)
     have d16:=uhJ wj (k:=16) (by decide)
     have d64:=uhJ wj (k:=64) (by decide)
     have d256:=uhJ wj (k:=256) (by decide)
     have d1024:=uhJ wj (k:=1024) (by decide)
     have a1:=uay (k:=d.pn) wj.1 (by omega)
     have a2:=uay (k:=d.sn) d4.1 (by omega)
     have a3:=uay (k:=3) d16.1 (by omega)
     have a4:=uay (k:=3) d64.1 (by omega)
     have a5:=uay (k:=4) d256.1 (by omega)
     have a6:=uay (k:=4) d1024.1 (by omega)
     have wA:=wb ((v.tdiv 4).tmod d.sn).toNat
     have wB:=wb (((v.tdiv 4).tmod d.sn).toNat+3)
     have c67a:=c67 ((v.tdiv 4).tmod d.sn).toNat (by omega)
     have c67b:=c67 (((v.tdiv 4).tmod d.sn).toNat+3) (by omega)
     have hp:=upM hd0 hw ((v.tdiv 4).tmod d.sn).toNat
     have h1:=hp.w0;have h2:=hp.w1;have h3:=hp.m0;have h4:=hp.m1
     have eA:ptA d ws ((v.tdiv 4).tmod d.sn).toNat=d.tw.getD 0 0+(wdN ws ((v.tdiv 4).tmod d.sn).toNat).tmod ((d.tw.getD (d.tw.length-1) 0)-d.tw.getD 0 0+1):=rfl
     have eB:ptB d ws ((v.tdiv 4).tmod d.sn).toNat=d.tm.getD 0 0+(wdN ws (((v.tdiv 4).tmod d.sn).toNat+3)).tmod ((d.tm.getD (d.tm.length-1) 0)-d.tm.getD 0 0+1):=rfl
     repeat' (first
      |with_reducible refine ua4 ?_ ?_
      |with_reducible refine And.intro ?_ ?_
      |(with_reducible refine qS ?_ ?_ ?_;try cbv)
      |(with_reducible refine qT ?_ ?_;try cbv)
      |(with_reducible intro hcd;(try simp only [zA,zB,zC,zD,zE,zF,zG,zH,zI,zJ,zK,zL,zM,zN,zO,zP]at hcd);try cbv)
      |(refine qP ?_ (c67 2 (by omega)) ?hfit;(case hfit=>((repeat' (first|exact qB|refine qD ?_ ?_|exact qE (by rfl)|exact qF (by rfl)|exact Fit.refl _|exact qA|refine qC ?_ rfl ?_));done));try cbv)
      |(refine qP ?_ (c67v) ?hfit;(case hfit=>((repeat' (first|exact qB|refine qD ?_ ?_|exact qE (by rfl)|exact qF (by rfl)|exact Fit.refl _|exact qA|refine qC ?_ rfl ?_));done));try cbv)
      |(refine qP ?_ (c68w) ?hfit;(case hfit=>((repeat' (first|exact qB|refine qD ?_ ?_|exact qE (by rfl)|exact qF (by rfl)|exact Fit.refl _|exact qA|refine qC ?_ rfl ?_));done));try cbv)
      |(refine qP ?_ (c68m) ?hfit;(case hfit=>((repeat' (first|exact qB|refine qD ?_ ?_|exact qE (by rfl)|exact qF (by rfl)|exact Fit.refl _|exact qA|refine qC ?_ rfl ?_));done));try cbv)
      |(refine qP ?_ (c67a) ?hfit;(case hfit=>((refine qD (Fit.refl _) (qD (qE (by(try simp only [qV]at *);(try simp only [zQ,zA,zB,zC,zD,zE,zF,zG,zH,zI,zJ,zK,zL,zM,zN,zO,zP,zR,zS]at *);omega)) qB));done));try cbv)
      |(refine qP ?_ (c67b) ?hfit;(case hfit=>((refine qD (Fit.refl _) (qD (qE (by(try simp only [qV]at *);(try simp only [zQ,zA,zB,zC,zD,zE,zF,zG,zH,zI,zJ,zK,zL,zM,zN,zO,zP,zR,zS]at *);omega)) qB));done));try cbv)
      | (refine⟨fun ix=>[(iv fun _=>((Fs++[(rdF d ws v)]).getD ix.den.toNat f0T).p),(iv fun _=>((Fs++[(rdF d ws v)]).getD ix.den.toNat f0T).s),(iv fun _=>((Fs++[(rdF d ws v)]).getD ix.den.toNat f0T).wl),(iv fun _=>((Fs++[(rdF d ws v)]).getD ix.den.toNat f0T).wh),(iv fun _=>((Fs++[(rdF d ws v)]).getD ix.den.toNat f0T).ml),(iv fun _=>((Fs++[(rdF d ws v)]).getD ix.den.toNat f0T).mh)],?_⟩
         cbv
         refine ua4 (ubj (by intro ix jx h0 h1 h2;(have e3:jx.den.toNat=ix.den.toNat:=by rw [h2]);(have e:=upH (l:=Fs) (x:=(rdF d ws v)) (z:=f0T) (i:=ix.den.toNat) (by(try simp only [qV]at *);(try simp only [zQ,zA,zB,zC,zD,zE,zF,zG,zH,zI,zJ,zK,zL,zM,zN,zO,zP,zR,zS]at *);omega));simp only [e3,e];exact Fit.refl _) (by intro ix jx h0 h1 h2;(have e:=ul8 (l:=Fs) (x:=(rdF d ws v)) (z:=f0T) (i:=jx.den.toNat) (by(try simp only [qV]at *);(try simp only [zQ,zA,zB,zC,zD,zE,zF,zG,zH,zI,zJ,zK,zL,zM,zN,zO,zP,zR,zS]at *);omega));simp only [e];exact(qC (qE (by rfl)) rfl (qC (qE (by rfl)) rfl (qC (qE (by rfl)) rfl (qC (qE (by rfl)) rfl (qC (qE (by rfl)) rfl (qC (qE (by rfl)) rfl qA))))))) (by(try simp only [qV]at *);(try simp only [zQ,zA,zB,zC,zD,zE,zF,zG,zH,zI,zJ,zK,zL,zM,zN,zO,zP,zR,zS]at *);omega)) (Or.inl ?_)
         try cbv)
      |fail)
     all_goals first|((try clear c67);(try clear c68w);(try clear c68m);(try clear c69);(try clear c67v);(try clear c67a);(try clear c67b);((try simp only [qV]at *);(try simp only [zQ,zA,zB,zC,zD,zE,zF,zG,zH,zI,zJ,zK,zL,zM,zN,zO,zP,zR,zS]at *);first|(refine qN ?_;omega)|(simp only [uaq];omega)))|((try clear c67);(try clear c68w);(try clear c68m);(try clear c69);(try clear c67v);(try clear c67a);(try clear c67b);((try simp only [qV]at *);(try simp only [zQ,zA,zB,zC,zD,zE,zF,zG,zH,zI,zJ,zK,zL,zM,zN,zO,zP,zR,zS]at *);(try simp only [Int.toNat_zero]at *);first|(refine qN ?_;omega)|(simp only [uaq];first|omega|exact⟨by omega,by omega⟩)))|((try clear c67);(try clear c68w);(try clear c68m);(try clear c69);(try clear c67v);(try clear c67a);(try clear c67b);((try simp only [zQ,zA,zB,zC,zD,zE,zF,zG,zH,zI,zJ,zK,zL,zM,zN,zO,zP,zR,zS]at *);obtain⟨Fs2,e2⟩:∃y,y=Fs++[rdF d ws v]:=⟨_,rfl⟩;(have hl3:Fs2=uqW d ws (k+1):=by rw [e2,hFs];unfold uqW;rw [uj5,←hv]);refine⟨⟨(k+1,Fs2),(by((try simp only [qV]at *);(try simp only [zQ,zA,zB,zC,zD,zE,zF,zG,zH,zI,zJ,zK,zL,zM,zN,zO,zP,zR,zS]at *);omega)),hl3⟩,by simp only [];omega,?_⟩;cbv;(repeat' (first|with_reducible refine ua4 ?_ ?_|with_reducible refine And.intro ?_ ?_));(all_goals first|trivial|exact qM (qE (by rfl))|exact qM (qF (by rfl))|exact qM (Fit.refl _)|exact qL (qK _)|(refine qM (qE ?_);(try simp only [qV]at *);simp only [zQ,zA,zB,zC,zD,zE,zF,zG,zH,zI,zJ,zK,zL,zM,zN,zO,zP,zR,zS]at *;omega)|(refine qL (qJ ?_);(repeat' (first|exact qA|exact qB|refine qC ?_ rfl ?_|refine qD ?_ ?_|exact qE (by rfl)|exact qF (by rfl)|exact Fit.refl _|exact qG _|(refine qE ?_;(try simp only [qV]at *);simp only [zQ,zA,zB,zC,zD,zE,zF,zG,zH,zI,zJ,zK,zL,zM,zN,zO,zP,zR,zS]at *;omega)));done)|(subst e2;refine qL (ua9 ?_ ?_)<;>first|rfl|((try simp only [qV]at *);(try simp only [zQ,zA,zB,zC,zD,zE,zF,zG,zH,zI,zJ,zK,zL,zM,zN,zO,zP,zR,zS]at *);(try simp only [List.length_append,List.length_cons,List.length_nil]);omega)|(intro ix h0 h1;exact Fit.refl _))|skip)))|((try clear c67);(try clear c68w);(try clear c68m);(try clear c69);(try clear c67v);(try clear c67a);(try clear c67b);(subst hR;(have hkM:k=rdM ws:=(by((try simp only [qV]at *);(try simp only [zQ,zA,zB,zC,zD,zE,zF,zG,zH,zI,zJ,zK,zL,zM,zN,zO,zP,zR,zS]at *);omega)));(have eF:Fs=(rdX d ws).fs:=by rw [hFs,hkM];rfl);exact qD (qC (Fit.refl _) rfl (qC (Fit.refl _) rfl (qC (Fit.refl _) rfl (qC (Fit.refl _) rfl (qC (Fit.refl _) rfl (qC (uva eL) rfl (qC (uvd eF) rfl qA))))))) (qD (urT hT) qB)))|skip)
end Go.Proofs.YtkdggbfknlcdaaaGreat
