/- Contracts of the functions that the laws come to. No condition. -/
import Derived.Test.YtkdggbfknlcdaaaGreatT5
set_option linter.unusedVariables false
set_option linter.unusedSimpArgs false
set_option linter.deprecated false
set_option linter.all false

namespace Go.Proofs.YtkdggbfknlcdaaaGreat
open Go Go.Eng Go.Proofs Go.Eng.Dif Go.Eng.Few
set_option maxRecDepth 10000
theorem uis {p:Nat→Bool} {n i:Nat}(hi:i<n)(h:p i=false):uhy p n=false:=by
 rw [uak]
 intro q
 rw [q i hi]at h;cases h
theorem ugs {p:Nat→Bool} {n:Nat}(h:∀i,i<n→p i=true):uhy p n=true:=by rw [uah];exact h
def eqI (na:Nat)(fa:Nat→Int)(nb:Nat)(fb:Nat→Int):Bool:=decide (na=nb)&&uhy (fun i=>decide (fa i=fb i)) na
theorem uuB {na nb:Nat} {fa fb:Nat→Int}(h:¬na=nb):eqI na fa nb fb=false:=by unfold eqI;rw [decide_eq_false h];rfl
theorem ux9 {na nb:Nat} {fa fb:Nat→Int} {i:Nat}(hi:i<na)(h:¬fa i=fb i):eqI na fa nb fb=false:=by
 unfold eqI
 rw [uis (i:=i) hi (decide_eq_false h)];simp
theorem uwg {na nb:Nat} {fa fb:Nat→Int}(h:na=nb)(h':∀i,i<na→fa i=fb i):eqI na fa nb fb=true:=by
 unfold eqI
 rw [decide_eq_true h,ugs fun i hi=>decide_eq_true (h' i hi)];rfl
theorem ulJ {a b c d:Int}(h:decide (uba [.sym fun _=>a,.sym fun _=>b]=uba [.sym fun _=>c,.sym fun _=>d])=false):¬(a=c∧b=d):=by
 rw [decide_eq_false_iff_not]at h;simpa only [uba,ub6,List.cons.injEq,and_true]using h
theorem umN :un9 Tryz.prog 59 2:=uqU (by kernel_rfl)
theorem ulC {m b:Int} {c:List SV} {new e':IX→List SV}(h0:∀jx:IX,jx.den=0→Fit (.agg c) (.agg (e' jx)))(h1:∀ix jx:IX,0≤ix.den→ix.den<m→jx.den=1+ix.den→Fit (.agg (new ix)) (.agg (e' jx)))(hb:0<m∧(1+m)*b≤140737488355328):
 uaj (udT 1 (fun _=>c) m new e'∧0<m∧(1+m)*b≤140737488355328):=
 ⟨⟨fun μ ν ix v i0 i1 q jx hj=>(h0 jx (by omega)).le _ _ _ q,fun μ ν ix v i0 i1 q jx hj=>(h1 ix jx i0 i1 hj).le _ _ _ q⟩,hb⟩
theorem ugU (a b:Int):ua0 Tryz.prog 27 [(iv fun _=>a),(iv fun _=>b)] [] (fun r _=>r=(.agg [(iv fun _=>a),(iv fun _=>b)])):=by
 refine ua0.is fun R hR=>qW (sc:=uBG) uai mix Tryz.func27 rfl Tryz.call27 (by kernel_rfl) (by kernel_rfl) ?_
 generalize Tryz.prog=P
 cbv
 repeat' (first|fail)
 all_goals first|(subst hR;(repeat' (first|exact qA|exact qB|refine qC ?_ rfl ?_|refine qD ?_ ?_|exact qE (by rfl)|exact qF (by rfl)|exact Fit.refl _|exact qG _|(refine qE ?_;(try simp only [qV]at *);simp only [zQ,zA,zB,zC,zD,zE,zF,zG,zH,zI,zJ,zK,zL,zM,zN,zO,zP,zR,zS]at *;omega)));done)|skip
theorem uyo (a b:Int):ua0 Tryz.prog 36 [(.agg [(iv fun _=>a),(iv fun _=>b)])] [] (fun r _=>r=(.agg [(iv fun _=>a),(iv fun _=>b)])):=by
 refine ua0.is fun R hR=>qW (sc:=uBf) uai mix Tryz.func36 rfl Tryz.call36 (by kernel_rfl) (by kernel_rfl) ?_
 generalize Tryz.prog=P
 cbv
 repeat' (first|fail)
 all_goals first|(subst hR;(repeat' (first|exact qA|exact qB|refine qC ?_ rfl ?_|refine qD ?_ ?_|exact qE (by rfl)|exact qF (by rfl)|exact Fit.refl _|exact qG _|(refine qE ?_;(try simp only [qV]at *);simp only [zQ,zA,zB,zC,zD,zE,zF,zG,zH,zI,zJ,zK,zL,zM,zN,zO,zP,zR,zS]at *;omega)));done)|skip
theorem uqr (na nb:Nat)(fa fb:Nat→Int)(ha:na≤1000)(hb:nb≤1000):ua0 Tryz.prog 15 [(.sl 1 (.sym fun _=>zi na) (fun ix=>[(iv fun _=>fa ix.den.toNat)])),(.sl 1 (.sym fun _=>zi nb) (fun ix=>[(iv fun _=>fb ix.den.toNat)]))] [] (fun r _=>r=(bv fun _=>eqI na fa nb fb)):=by
 refine ua0.is fun R hR=>qW (sc:=uCa) uai mix Tryz.func15 rfl Tryz.call15 (by kernel_rfl) (by kernel_rfl) ?_
 generalize Tryz.prog=P
 cbv
 repeat' (first|with_reducible refine And.intro ?_ ?_|(with_reducible intro hcd;(try simp only [zA,zB,zC,zD,zE,zF,zG,zH,zI,zJ,zK,zL,zM,zN,zO,zP]at hcd);try cbv)|fail)
 all_goals first|(subst hR;(refine qF ?_;(try simp only [qV]at *);(try simp only [zQ,zA,zB,zC,zD,zE,zF,zG,zH,zI,zJ,zK,zL,zM,zN,zO,zP,zR,zS]at *);exact(uuB (by omega)).symm);done)|skip
 refine⟨none,[],{i:Nat // i≤na∧∀j,j<i→fa j=fb j},fun x=>⟨[(0,(.sl 1 (.sym fun _=>zi na) (fun ix=>[(iv fun _=>fa ix.den.toNat)]))),(1,(.sl 1 (.sym fun _=>zi nb) (fun ix=>[(iv fun _=>fb ix.den.toNat)]))),(5,(iv fun _=>zi x.1))],[],40⟩,fun x=>na-x.1,?_,?_⟩
 ·refine⟨⟨0,by omega,fun j hj=>by omega⟩,?_⟩
  cbv
  repeat' (first|with_reducible refine ua4 ?_ ?_|with_reducible refine And.intro ?_ ?_)
  all_goals first|trivial|exact qM (qE (by rfl))|exact qM (Fit.refl _)|skip
 ·rintro⟨i,hi,hq⟩
  cbv
  repeat' (first|with_reducible refine ua4 ?_ ?_|with_reducible refine And.intro ?_ ?_|(with_reducible intro hcd;(try simp only [zA,zB,zC,zD,zE,zF,zG,zH,zI,zJ,zK,zL,zM,zN,zO,zP]at hcd);try cbv)|fail)
  all_goals first|((try simp only [qV]at *);(try simp only [zQ,zA,zB,zC,zD,zE,zF,zG,zH,zI,zJ,zK,zL,zM,zN,zO,zP,zR,zS]at *);first|(refine qN ?_;omega)|(simp only [uaj];omega))|(subst hR;(refine qF ?_;(try simp only [qV]at *);(try simp only [zQ,zA,zB,zC,zD,zE,zF,zG,zH,zI,zJ,zK,zL,zM,zN,zO,zP,zR,zS]at *);exact(ux9 (i:=i) (by omega) (by assumption)).symm);done)|(subst hR;(refine qF ?_;(try simp only [qV]at *);(try simp only [zQ,zA,zB,zC,zD,zE,zF,zG,zH,zI,zJ,zK,zL,zM,zN,zO,zP,zR,zS]at *);exact(uwg (by omega) fun j hj=>hq j (by omega)).symm);done)|((try simp only [zQ,zA,zB,zC,zD,zE,zF,zG,zH,zI,zJ,zK,zL,zM,zN,zO,zP,zR,zS]at *);refine⟨⟨i+1,by omega,fun j hj=>(Nat.lt_or_ge j i).elim (hq j) fun q=>by rw [show j=i by omega];first|assumption|omega⟩,by simp only [];omega,?_⟩;cbv;(repeat' (first|with_reducible refine ua4 ?_ ?_|with_reducible refine And.intro ?_ ?_));(all_goals first|trivial|exact qM (qE (by rfl))|exact qM (qF (by rfl))|exact qM (Fit.refl _)|exact qL (qK _)|(refine qM (qE ?_);(try simp only [qV]at *);simp only [zQ,zA,zB,zC,zD,zE,zF,zG,zH,zI,zJ,zK,zL,zM,zN,zO,zP,zR,zS]at *;omega)|skip))|skip
theorem uvQ :ua0 Tryz.prog 39 [] [] (fun r _=>r=(ub0 d3)):=by
 have c40:= @ugU
 refine ua0.is fun R hR=>qW (sc:=uAo) uai mix Tryz.func39 rfl Tryz.call39 (by kernel_rfl) (by kernel_rfl) ?_
 generalize Tryz.prog=P at c40⊢
 cbv
 repeat' (first|(refine qP ?_ (c40 _ _) (by(repeat' (first|exact qB|refine qD ?_ ?_|exact qE (by rfl)|exact qF (by rfl)|exact Fit.refl _|exact qA|refine qC ?_ rfl ?_)));try cbv)|fail)
 all_goals first|(subst hR;(repeat' (first|exact qA|exact qB|refine qC ?_ rfl ?_|refine qD ?_ ?_|exact qE (by rfl)|exact qF (by rfl)|exact qE (by kernel_rfl)|exact qF (by kernel_rfl)|exact Fit.refl _|(exact qO (by rfl))|(first|(refine ua1 (by rfl) (fun ix h0 h1=> ?_);(have h2:ix.den<2:=h1);(have hx:ix.den.toNat=0∨ix.den.toNat=1:=by omega);(rcases hx with hx|hx<;>simp only [hx]))|(refine ua1 (by rfl) (fun ix h0 h1=> ?_);(have h2:ix.den<3:=h1);(have hx:ix.den.toNat=0∨ix.den.toNat=1∨ix.den.toNat=2:=by omega);(rcases hx with hx|hx|hx<;>simp only [hx]))|(refine ua1 (by rfl) (fun ix h0 h1=> ?_);(have h2:ix.den<4:=h1);(have hx:ix.den.toNat=0∨ix.den.toNat=1∨ix.den.toNat=2∨ix.den.toNat=3:=by omega);(rcases hx with hx|hx|hx|hx<;>simp only [hx]))|(refine ua1 (by rfl) (fun ix h0 h1=> ?_);(have h2:ix.den<1:=h1);(have hx:ix.den.toNat=0:=by omega);(rcases hx with hx<;>simp only [hx]))|(refine ua1 (by rfl) (fun ix h0 h1=> ?_);(have h2:ix.den<5:=h1);(have hx:ix.den.toNat=0∨ix.den.toNat=1∨ix.den.toNat=2∨ix.den.toNat=3∨ix.den.toNat=4:=by omega);(rcases hx with hx|hx|hx|hx|hx<;>simp only [hx])))));done)|skip
theorem us7 :ubf Tryz.prog 39 [] [] (fun r bs=>r=(.agg [(iS d3.tw),(iS d3.tm),(.sl 1 (.sym fun _=>zi (d3.tv).length) (fun ix=>[(.sl 1 (.sym fun _=>zi ((d3.tv).getD ix.den.toNat []).length) (fun jx=>[(iv fun _=>((d3.tv).getD ix.den.toNat []).getD jx.den.toNat 0)]))])),(iv fun _=>d3.sn),(iv fun _=>d3.pn),(.sl 4 (.sym fun _=>zi (d3.ls).length) (fun ix=>[(iv fun _=>((d3.ls).getD ix.den.toNat l0T).a),(iv fun _=>((d3.ls).getD ix.den.toNat l0T).b),(iv fun _=>((d3.ls).getD ix.den.toNat l0T).lo),(iv fun _=>((d3.ls).getD ix.den.toNat l0T).hi)])),.ows 0 0 3 3 6])∧bs=[.cells [(.int .i64 (.lit (0))),(.int .i64 (.lit (0))),(.int .i64 (.lit (12))),(.int .i64 (.lit (12))),(.int .i64 (.lit (5))),(.int .i64 (.lit (6))),(.int .i64 (.lit (1))),(.int .i64 (.lit (0))),(.int .i64 (.lit (14))),(.int .i64 (.lit (14))),(.int .i64 (.lit (2))),(.int .i64 (.lit (3))),(.int .i64 (.lit (2))),(.int .i64 (.lit (1))),(.int .i64 (.lit (10))),(.int .i64 (.lit (10))),(.int .i64 (.lit (4))),(.int .i64 (.lit (4)))] 106]):=by
 have c40:= @ugU
 refine ubf.is rfl rfl fun R B hR hB=>uf8 (sc:=uAo) uai mix Tryz.func39 rfl Tryz.call39 (by kernel_rfl) (by kernel_rfl) ?_
 generalize Tryz.prog=P at c40⊢
 cbv
 repeat' (first|(refine qP ?_ (c40 _ _) (by(repeat' (first|exact qB|refine qD ?_ ?_|exact qE (by rfl)|exact qF (by rfl)|exact Fit.refl _|exact qA|refine qC ?_ rfl ?_)));try cbv)|fail)
 all_goals first|trivial|skip
 refine⟨[],(20:Nat),?_⟩
 cbv
 subst hR
 subst hB
 refine⟨?_,?_⟩
 ·(repeat' (first|exact qA|exact qB|refine qC ?_ rfl ?_|refine qD ?_ ?_|exact qE (by rfl)|exact qF (by rfl)|exact qE (by kernel_rfl)|exact qF (by kernel_rfl)|exact Fit.refl _|(exact qO (by rfl))|(first|(refine ua1 (by rfl) (fun ix h0 h1=> ?_);(have h2:ix.den<2:=h1);(have hx:ix.den.toNat=0∨ix.den.toNat=1:=by omega);(rcases hx with hx|hx<;>simp only [hx]))|(refine ua1 (by rfl) (fun ix h0 h1=> ?_);(have h2:ix.den<3:=h1);(have hx:ix.den.toNat=0∨ix.den.toNat=1∨ix.den.toNat=2:=by omega);(rcases hx with hx|hx|hx<;>simp only [hx]))|(refine ua1 (by rfl) (fun ix h0 h1=> ?_);(have h2:ix.den<4:=h1);(have hx:ix.den.toNat=0∨ix.den.toNat=1∨ix.den.toNat=2∨ix.den.toNat=3:=by omega);(rcases hx with hx|hx|hx|hx<;>simp only [hx]))|(refine ua1 (by rfl) (fun ix h0 h1=> ?_);(have h2:ix.den<1:=h1);(have hx:ix.den.toNat=0:=by omega);(rcases hx with hx<;>simp only [hx]))|(refine ua1 (by rfl) (fun ix h0 h1=> ?_);(have h2:ix.den<5:=h1);(have hx:ix.den.toNat=0∨ix.den.toNat=1∨ix.den.toNat=2∨ix.den.toNat=3∨ix.den.toNat=4:=by omega);(rcases hx with hx|hx|hx|hx|hx<;>simp only [hx])))))
 ·(repeat' (first|exact qH|refine qI ?_ ?_))
  refine qJ ?_
  (repeat' (first|exact qA|exact qB|refine qC ?_ rfl ?_|refine qD ?_ ?_|exact qE (by rfl)|exact qF (by rfl)|exact qE (by kernel_rfl)|exact qF (by kernel_rfl)|exact Fit.refl _|(exact qO (by rfl))|(first|(refine ua1 (by rfl) (fun ix h0 h1=> ?_);(have h2:ix.den<2:=h1);(have hx:ix.den.toNat=0∨ix.den.toNat=1:=by omega);(rcases hx with hx|hx<;>simp only [hx]))|(refine ua1 (by rfl) (fun ix h0 h1=> ?_);(have h2:ix.den<3:=h1);(have hx:ix.den.toNat=0∨ix.den.toNat=1∨ix.den.toNat=2:=by omega);(rcases hx with hx|hx|hx<;>simp only [hx]))|(refine ua1 (by rfl) (fun ix h0 h1=> ?_);(have h2:ix.den<4:=h1);(have hx:ix.den.toNat=0∨ix.den.toNat=1∨ix.den.toNat=2∨ix.den.toNat=3:=by omega);(rcases hx with hx|hx|hx|hx<;>simp only [hx]))|(refine ua1 (by rfl) (fun ix h0 h1=> ?_);(have h2:ix.den<1:=h1);(have hx:ix.den.toNat=0:=by omega);(rcases hx with hx<;>simp only [hx]))|(refine ua1 (by rfl) (fun ix h0 h1=> ?_);(have h2:ix.den<5:=h1);(have hx:ix.den.toNat=0∨ix.den.toNat=1∨ix.den.toNat=2∨ix.den.toNat=3∨ix.den.toNat=4:=by omega);(rcases hx with hx|hx|hx|hx|hx<;>simp only [hx])))))
theorem uzb :ua0 Tryz.prog 40 [] [] (fun r _=>r=(ub0 d2)):=by
 have c37:=us7
 refine ua0.is fun R hR=>qW (sc:=uBI) uai mix Tryz.func40 rfl Tryz.call40 (by kernel_rfl) (by kernel_rfl) ?_
 generalize Tryz.prog=P at c37⊢
 cbv
 repeat' (first
  | (refine Or.inr ⟨true,?_⟩
     cbv
     refine qU ?_ (c37) (by cbv;(repeat' (first|exact qB|refine qD ?_ ?_|exact qE (by rfl)|exact qF (by rfl)|exact Fit.refl _|exact qA|refine qC ?_ rfl ?_))) (by cbv;(repeat' (first|exact qH|refine qI ?_ ?_|exact qK _|refine qJ ?_|exact qA|exact qE (by rfl)|exact qF (by rfl)|exact Fit.refl _|exact qG _|refine qC ?_ rfl ?_)))
     try cbv)
  | (refine⟨fun ix=>[(iv fun _=>(d2.fs.getD ix.den.toNat f0T).p),(iv fun _=>(d2.fs.getD ix.den.toNat f0T).s),(iv fun _=>(d2.fs.getD ix.den.toNat f0T).wl),(iv fun _=>(d2.fs.getD ix.den.toNat f0T).wh),(iv fun _=>(d2.fs.getD ix.den.toNat f0T).ml),(iv fun _=>(d2.fs.getD ix.den.toNat f0T).mh)],?_⟩
     cbv
     refine ua4 (ulC (fun jx h0=>(by(have h3:jx.den.toNat=0:=by omega);simp only [h3];(repeat' (first|exact qA|exact qB|refine qC ?_ rfl ?_|refine qD ?_ ?_|exact qE (by rfl)|exact qF (by rfl)|exact qE (by kernel_rfl)|exact qF (by kernel_rfl)|exact Fit.refl _|(exact qO (by rfl))|(first|(refine ua1 (by rfl) (fun ix h0 h1=> ?_);(have h2:ix.den<2:=h1);(have hx:ix.den.toNat=0∨ix.den.toNat=1:=by omega);(rcases hx with hx|hx<;>simp only [hx]))|(refine ua1 (by rfl) (fun ix h0 h1=> ?_);(have h2:ix.den<3:=h1);(have hx:ix.den.toNat=0∨ix.den.toNat=1∨ix.den.toNat=2:=by omega);(rcases hx with hx|hx|hx<;>simp only [hx]))|(refine ua1 (by rfl) (fun ix h0 h1=> ?_);(have h2:ix.den<4:=h1);(have hx:ix.den.toNat=0∨ix.den.toNat=1∨ix.den.toNat=2∨ix.den.toNat=3:=by omega);(rcases hx with hx|hx|hx|hx<;>simp only [hx]))|(refine ua1 (by rfl) (fun ix h0 h1=> ?_);(have h2:ix.den<1:=h1);(have hx:ix.den.toNat=0:=by omega);(rcases hx with hx<;>simp only [hx]))|(refine ua1 (by rfl) (fun ix h0 h1=> ?_);(have h2:ix.den<5:=h1);(have hx:ix.den.toNat=0∨ix.den.toNat=1∨ix.den.toNat=2∨ix.den.toNat=3∨ix.den.toNat=4:=by omega);(rcases hx with hx|hx|hx|hx|hx<;>simp only [hx]))))))) (fun ix jx h0 h1 h2=>(by(have h3:jx.den.toNat=1:=by(have h4:ix.den<1:=h1;omega));simp only [h3];(repeat' (first|exact qA|exact qB|refine qC ?_ rfl ?_|refine qD ?_ ?_|exact qE (by rfl)|exact qF (by rfl)|exact qE (by kernel_rfl)|exact qF (by kernel_rfl)|exact Fit.refl _|(exact qO (by rfl))|(first|(refine ua1 (by rfl) (fun ix h0 h1=> ?_);(have h2:ix.den<2:=h1);(have hx:ix.den.toNat=0∨ix.den.toNat=1:=by omega);(rcases hx with hx|hx<;>simp only [hx]))|(refine ua1 (by rfl) (fun ix h0 h1=> ?_);(have h2:ix.den<3:=h1);(have hx:ix.den.toNat=0∨ix.den.toNat=1∨ix.den.toNat=2:=by omega);(rcases hx with hx|hx|hx<;>simp only [hx]))|(refine ua1 (by rfl) (fun ix h0 h1=> ?_);(have h2:ix.den<4:=h1);(have hx:ix.den.toNat=0∨ix.den.toNat=1∨ix.den.toNat=2∨ix.den.toNat=3:=by omega);(rcases hx with hx|hx|hx|hx<;>simp only [hx]))|(refine ua1 (by rfl) (fun ix h0 h1=> ?_);(have h2:ix.den<1:=h1);(have hx:ix.den.toNat=0:=by omega);(rcases hx with hx<;>simp only [hx]))|(refine ua1 (by rfl) (fun ix h0 h1=> ?_);(have h2:ix.den<5:=h1);(have hx:ix.den.toNat=0∨ix.den.toNat=1∨ix.den.toNat=2∨ix.den.toNat=3∨ix.den.toNat=4:=by omega);(rcases hx with hx|hx|hx|hx|hx<;>simp only [hx]))))))) ⟨by decide,by decide⟩) ?_
     try cbv)
  |fail)
 all_goals first|(subst hR;(repeat' (first|exact qA|exact qB|refine qC ?_ rfl ?_|refine qD ?_ ?_|exact qE (by rfl)|exact qF (by rfl)|exact qE (by kernel_rfl)|exact qF (by kernel_rfl)|exact Fit.refl _|(exact qO (by rfl))|(first|(refine ua1 (by rfl) (fun ix h0 h1=> ?_);(have h2:ix.den<2:=h1);(have hx:ix.den.toNat=0∨ix.den.toNat=1:=by omega);(rcases hx with hx|hx<;>simp only [hx]))|(refine ua1 (by rfl) (fun ix h0 h1=> ?_);(have h2:ix.den<3:=h1);(have hx:ix.den.toNat=0∨ix.den.toNat=1∨ix.den.toNat=2:=by omega);(rcases hx with hx|hx|hx<;>simp only [hx]))|(refine ua1 (by rfl) (fun ix h0 h1=> ?_);(have h2:ix.den<4:=h1);(have hx:ix.den.toNat=0∨ix.den.toNat=1∨ix.den.toNat=2∨ix.den.toNat=3:=by omega);(rcases hx with hx|hx|hx|hx<;>simp only [hx]))|(refine ua1 (by rfl) (fun ix h0 h1=> ?_);(have h2:ix.den<1:=h1);(have hx:ix.den.toNat=0:=by omega);(rcases hx with hx<;>simp only [hx]))|(refine ua1 (by rfl) (fun ix h0 h1=> ?_);(have h2:ix.den<5:=h1);(have hx:ix.den.toNat=0∨ix.den.toNat=1∨ix.den.toNat=2∨ix.den.toNat=3∨ix.den.toNat=4:=by omega);(rcases hx with hx|hx|hx|hx|hx<;>simp only [hx])))));done)|skip
theorem uu5 {n:Int} {f:Nat→Int} {L:List Int}(hn:n=(L.length:Int))(h:∀i,i<L.length→f i=L.getD i 0):Fit (.sl 1 (.sym fun _=>n) (fun ix=>[(iv fun _=>f ix.den.toNat)])) (iS L):=
 ua1 hn (fun ix h0 h1=>qC (qE (h _ (by have h2:ix.den<n:=h1;omega))) rfl qA)
theorem uv1 {n:Int} {f g:Nat→Int} {L:List (Int×Int)}(hn:n=(L.length:Int))(h:∀i,i<L.length→f i=(L.getD i (0,0)).1∧g i=(L.getD i (0,0)).2):Fit (.sl 2 (.sym fun _=>n) (fun ix=>[(iv fun _=>f ix.den.toNat),(iv fun _=>g ix.den.toNat)])) (.sl 2 (.sym fun _=>zi (L).length) (fun ix=>[(iv fun _=>((L).getD ix.den.toNat (0,0)).1),(iv fun _=>((L).getD ix.den.toNat (0,0)).2)])):=
 ua1 hn (fun ix h0 h1=>qC (qE (h _ (by have h2:ix.den<n:=h1;omega)).1) rfl (qC (qE (h _ (by have h2:ix.den<n:=h1;omega)).2) rfl qA))
theorem uzp :ua0 Tryz.prog 38 [(ub0 d3),(iv fun _=>0)] [] (fun r _=>r=(.tup [(.agg [(.int .i64 (.lit (115))),(.int .i64 (.lit (119)))]),(.int .i64 (.lit (0)))])):=
 (uxA d3 0 (by decide)).post fun r bs h=>⟨_,by subst h;exact qD (qC (qE urb.2.1) rfl (qC (qE urb.2.2) rfl qA)) (qD (qE urb.1) qB),rfl⟩
theorem uxm :ua0 Tryz.prog 11 [(ub0 d3)] [] (fun r _=>r=(.tup [(.int .i64 (.lit (1))),(.int .i64 (.lit (0)))])):=
 (uvK d3).post fun r bs h=>⟨_,by subst h;exact qD (qE uy9.2) (qD (qE uy9.1) qB),rfl⟩
theorem uxe :ua0 Tryz.prog 13 [(ub0 d3)] [] (fun r _=>r=(.tup [(iS ([1])),(.int .i64 (.lit (0)))])):=
 (uqT d3).post fun r bs h=>⟨_,by subst h;rw [uAw];exact qD (Fit.refl _) (qD (qE uhs) qB),rfl⟩
theorem urL :ua0 Tryz.prog 18 [(ub0 d3)] [] (fun r _=>r=(.tup [(iS ([1])),(.int .i64 (.lit (0)))])):=
 (uqa d3).post fun r bs h=>⟨_,by subst h;rw [uBJ];exact qD (Fit.refl _) (qD (qE uhs) qB),rfl⟩
theorem uya :ua0 Tryz.prog 19 [(ub0 d3)] [] (fun r _=>r=(.tup [(iS ([1])),(iS ([1])),(.int .i64 (.lit (0)))])):=
 (ul6 d3).post fun r bs h=>⟨_,by subst h;rw [uAE,uAQ];exact qD (Fit.refl _) (qD (Fit.refl _) (qD (qE uhs) qB)),rfl⟩
def B2X :List (Int×Int):=[(116,119),(116,116)]
theorem uw4 :ua0 Tryz.prog 30 [(ub0 d2)] [] (fun r _=>r=(.tup [(.sl 2 (.sym fun _=>zi (B2X).length) (fun ix=>[(iv fun _=>((B2X).getD ix.den.toNat (0,0)).1),(iv fun _=>((B2X).getD ix.den.toNat (0,0)).2)])),(.int .i64 (.lit (0)))])):=
 (udH d2).post fun r bs h=>⟨_,by subst h;exact qD (uv1 (f:=loT d2 []) (g:=hiT d2 []) (L:=B2X) uAG.2 (fun i hi=>by
  have hi:i<2:=hi
  rcases(show i=0∨i=1 by omega)with e|e<;>subst e<;>(first|exact bd2.1|exact bd2.2))) (qD (qE uAG.1) qB),rfl⟩
theorem uw1 :ua0 Tryz.prog 25 [(ub0 d3),(iv fun _=>0),(iv fun _=>1000)] [] (fun r _=>r=(.tup [(.agg [(.int .i64 (.lit (116))),(.int .i64 (.lit (119)))]),(.int .i64 (.lit (0)))])):=
 (usM d3 0 1000).post fun r bs h=>⟨_,by subst h;exact qD (qC (qE ch3.2.1) rfl (qC (qE ch3.2.2) rfl qA)) (qD (qE ch3.1) qB),rfl⟩
theorem uun :ua0 Tryz.prog 20 [(ub0 d3),(iv fun _=>100)] [] (fun r _=>r=(.tup [(iS ([0,100,0])),(.int .i64 (.lit (0)))])):=
 (uq5 d3 100).post fun r bs h=>⟨_,by subst h;exact qD (uu5 (f:=ukJ d3 100) (L:=[0,100,0]) co3.2 (fun i hi=>by
  have hi:i<3:=hi
  rcases(show i=0∨i=1∨i=2 by omega)with e|e|e<;>subst e<;>(first|exact uzr.1|exact uzr.2.1|exact uzr.2.2))) (qD (qE co3.1) qB),rfl⟩
theorem uv9 :ua0 Tryz.prog 20 [(ub0 d2),(iv fun _=>100)] [] (fun r _=>r=(.tup [(iS ([34,33,33])),(.int .i64 (.lit (0)))])):=
 (uq5 d2 100).post fun r bs h=>⟨_,by subst h;exact qD (uu5 (f:=ukJ d2 100) (L:=[34,33,33]) co2.2 (fun i hi=>by
  have hi:i<3:=hi
  rcases(show i=0∨i=1∨i=2 by omega)with e|e|e<;>subst e<;>(first|exact uyL.1|exact uyL.2.1|exact uyL.2.2))) (qD (qE co2.1) qB),rfl⟩
theorem uxF :ua0 Tryz.prog 15 [(iS ([1])),(iS ([1]))] [] (fun r _=>r=(.bool (.lit true))):=
 (uqr 1 1 (fun n=>([1]).getD n 0) (fun n=>([1]).getD n 0) (by decide) (by decide)).post fun r bs h=>⟨_,by subst h;(repeat' (first|exact qA|exact qB|refine qC ?_ rfl ?_|refine qD ?_ ?_|exact qE (by rfl)|exact qF (by rfl)|exact qE (by kernel_rfl)|exact qF (by kernel_rfl)|exact Fit.refl _|(exact qO (by rfl))|(first|(refine ua1 (by rfl) (fun ix h0 h1=> ?_);(have h2:ix.den<2:=h1);(have hx:ix.den.toNat=0∨ix.den.toNat=1:=by omega);(rcases hx with hx|hx<;>simp only [hx]))|(refine ua1 (by rfl) (fun ix h0 h1=> ?_);(have h2:ix.den<3:=h1);(have hx:ix.den.toNat=0∨ix.den.toNat=1∨ix.den.toNat=2:=by omega);(rcases hx with hx|hx|hx<;>simp only [hx]))|(refine ua1 (by rfl) (fun ix h0 h1=> ?_);(have h2:ix.den<4:=h1);(have hx:ix.den.toNat=0∨ix.den.toNat=1∨ix.den.toNat=2∨ix.den.toNat=3:=by omega);(rcases hx with hx|hx|hx|hx<;>simp only [hx]))|(refine ua1 (by rfl) (fun ix h0 h1=> ?_);(have h2:ix.den<1:=h1);(have hx:ix.den.toNat=0:=by omega);(rcases hx with hx<;>simp only [hx]))|(refine ua1 (by rfl) (fun ix h0 h1=> ?_);(have h2:ix.den<5:=h1);(have hx:ix.den.toNat=0∨ix.den.toNat=1∨ix.den.toNat=2∨ix.den.toNat=3∨ix.den.toNat=4:=by omega);(rcases hx with hx|hx|hx|hx|hx<;>simp only [hx]))))),rfl⟩
theorem uxY :ua0 Tryz.prog 15 [(iS ([0,100,0])),(iS ([0,100,0]))] [] (fun r _=>r=(.bool (.lit true))):=
 (uqr 3 3 (fun n=>([0,100,0]).getD n 0) (fun n=>([0,100,0]).getD n 0) (by decide) (by decide)).post fun r bs h=>⟨_,by subst h;(repeat' (first|exact qA|exact qB|refine qC ?_ rfl ?_|refine qD ?_ ?_|exact qE (by rfl)|exact qF (by rfl)|exact qE (by kernel_rfl)|exact qF (by kernel_rfl)|exact Fit.refl _|(exact qO (by rfl))|(first|(refine ua1 (by rfl) (fun ix h0 h1=> ?_);(have h2:ix.den<2:=h1);(have hx:ix.den.toNat=0∨ix.den.toNat=1:=by omega);(rcases hx with hx|hx<;>simp only [hx]))|(refine ua1 (by rfl) (fun ix h0 h1=> ?_);(have h2:ix.den<3:=h1);(have hx:ix.den.toNat=0∨ix.den.toNat=1∨ix.den.toNat=2:=by omega);(rcases hx with hx|hx|hx<;>simp only [hx]))|(refine ua1 (by rfl) (fun ix h0 h1=> ?_);(have h2:ix.den<4:=h1);(have hx:ix.den.toNat=0∨ix.den.toNat=1∨ix.den.toNat=2∨ix.den.toNat=3:=by omega);(rcases hx with hx|hx|hx|hx<;>simp only [hx]))|(refine ua1 (by rfl) (fun ix h0 h1=> ?_);(have h2:ix.den<1:=h1);(have hx:ix.den.toNat=0:=by omega);(rcases hx with hx<;>simp only [hx]))|(refine ua1 (by rfl) (fun ix h0 h1=> ?_);(have h2:ix.den<5:=h1);(have hx:ix.den.toNat=0∨ix.den.toNat=1∨ix.den.toNat=2∨ix.den.toNat=3∨ix.den.toNat=4:=by omega);(rcases hx with hx|hx|hx|hx|hx<;>simp only [hx]))))),rfl⟩
theorem uwy :ua0 Tryz.prog 15 [(iS ([34,33,33])),(iS ([34,33,33]))] [] (fun r _=>r=(.bool (.lit true))):=
 (uqr 3 3 (fun n=>([34,33,33]).getD n 0) (fun n=>([34,33,33]).getD n 0) (by decide) (by decide)).post fun r bs h=>⟨_,by subst h;(repeat' (first|exact qA|exact qB|refine qC ?_ rfl ?_|refine qD ?_ ?_|exact qE (by rfl)|exact qF (by rfl)|exact qE (by kernel_rfl)|exact qF (by kernel_rfl)|exact Fit.refl _|(exact qO (by rfl))|(first|(refine ua1 (by rfl) (fun ix h0 h1=> ?_);(have h2:ix.den<2:=h1);(have hx:ix.den.toNat=0∨ix.den.toNat=1:=by omega);(rcases hx with hx|hx<;>simp only [hx]))|(refine ua1 (by rfl) (fun ix h0 h1=> ?_);(have h2:ix.den<3:=h1);(have hx:ix.den.toNat=0∨ix.den.toNat=1∨ix.den.toNat=2:=by omega);(rcases hx with hx|hx|hx<;>simp only [hx]))|(refine ua1 (by rfl) (fun ix h0 h1=> ?_);(have h2:ix.den<4:=h1);(have hx:ix.den.toNat=0∨ix.den.toNat=1∨ix.den.toNat=2∨ix.den.toNat=3:=by omega);(rcases hx with hx|hx|hx|hx<;>simp only [hx]))|(refine ua1 (by rfl) (fun ix h0 h1=> ?_);(have h2:ix.den<1:=h1);(have hx:ix.den.toNat=0:=by omega);(rcases hx with hx<;>simp only [hx]))|(refine ua1 (by rfl) (fun ix h0 h1=> ?_);(have h2:ix.den<5:=h1);(have hx:ix.den.toNat=0∨ix.den.toNat=1∨ix.den.toNat=2∨ix.den.toNat=3∨ix.den.toNat=4:=by omega);(rcases hx with hx|hx|hx|hx|hx<;>simp only [hx]))))),rfl⟩
set_option maxHeartbeats 1000000 in
theorem uef :ua0 Tryz.prog 10 [] [] (fun r _=>r=(.bool (.lit true))):=by
 have k37:=uvQ
 have k39:=uzb
 have kmeanX:=uzp
 have kfirstX:=uxm
 have kleaveX:=uxe
 have kbelieveX:=urL
 have kblameX:=uya
 have kboundsX:=uw4
 have kchargeX:=uw1
 have kcosts3X:=uun
 have kcosts2X:=uv9
 have kintsXa:=uxF
 have kintsXb:=uxY
 have kintsXc:=uwy
 have c40:= @ugU
 have h33:=umN
 refine ua0.is fun R hR=>qW (sc:=uBk) uai mix Tryz.func10 rfl Tryz.call10 (by kernel_rfl) (by kernel_rfl) ?_
 generalize Tryz.prog=P at k37 k39 kmeanX kfirstX kleaveX kbelieveX kblameX kboundsX kchargeX kcosts3X kcosts2X kintsXa kintsXb kintsXc c40 h33⊢
 cbv
 repeat' (first
  |with_reducible refine ua4 ?_ ?_
  |with_reducible refine And.intro ?_ ?_
  |(with_reducible intro hcd;(try simp only [zA,zB,zC,zD,zE,zF,zG,zH,zI,zJ,zK,zL,zM,zN,zO,zP]at hcd);try cbv)
  |(refine qP ?_ (c40 _ _) (by(repeat' (first|exact qB|refine qD ?_ ?_|exact qE (by rfl)|exact qF (by rfl)|exact Fit.refl _|exact qA|refine qC ?_ rfl ?_)));try cbv)
  |(refine qP ?_ (k37) ?hfit;(case hfit=>((repeat' (first|exact qA|exact qB|refine qC ?_ rfl ?_|refine qD ?_ ?_|exact qE (by rfl)|exact qF (by rfl)|exact Fit.refl _|(exact qO (by rfl))|(first|(refine ua1 (by rfl) (fun ix h0 h1=> ?_);(have h2:ix.den<2:=h1);(have hx:ix.den.toNat=0∨ix.den.toNat=1:=by omega);(rcases hx with hx|hx<;>simp only [hx]))|(refine ua1 (by rfl) (fun ix h0 h1=> ?_);(have h2:ix.den<3:=h1);(have hx:ix.den.toNat=0∨ix.den.toNat=1∨ix.den.toNat=2:=by omega);(rcases hx with hx|hx|hx<;>simp only [hx]))|(refine ua1 (by rfl) (fun ix h0 h1=> ?_);(have h2:ix.den<4:=h1);(have hx:ix.den.toNat=0∨ix.den.toNat=1∨ix.den.toNat=2∨ix.den.toNat=3:=by omega);(rcases hx with hx|hx|hx|hx<;>simp only [hx]))|(refine ua1 (by rfl) (fun ix h0 h1=> ?_);(have h2:ix.den<1:=h1);(have hx:ix.den.toNat=0:=by omega);(rcases hx with hx<;>simp only [hx]))|(refine ua1 (by rfl) (fun ix h0 h1=> ?_);(have h2:ix.den<5:=h1);(have hx:ix.den.toNat=0∨ix.den.toNat=1∨ix.den.toNat=2∨ix.den.toNat=3∨ix.den.toNat=4:=by omega);(rcases hx with hx|hx|hx|hx|hx<;>simp only [hx])))));done));try cbv)
  |(refine qP ?_ (k39) ?hfit;(case hfit=>((repeat' (first|exact qA|exact qB|refine qC ?_ rfl ?_|refine qD ?_ ?_|exact qE (by rfl)|exact qF (by rfl)|exact Fit.refl _|(exact qO (by rfl))|(first|(refine ua1 (by rfl) (fun ix h0 h1=> ?_);(have h2:ix.den<2:=h1);(have hx:ix.den.toNat=0∨ix.den.toNat=1:=by omega);(rcases hx with hx|hx<;>simp only [hx]))|(refine ua1 (by rfl) (fun ix h0 h1=> ?_);(have h2:ix.den<3:=h1);(have hx:ix.den.toNat=0∨ix.den.toNat=1∨ix.den.toNat=2:=by omega);(rcases hx with hx|hx|hx<;>simp only [hx]))|(refine ua1 (by rfl) (fun ix h0 h1=> ?_);(have h2:ix.den<4:=h1);(have hx:ix.den.toNat=0∨ix.den.toNat=1∨ix.den.toNat=2∨ix.den.toNat=3:=by omega);(rcases hx with hx|hx|hx|hx<;>simp only [hx]))|(refine ua1 (by rfl) (fun ix h0 h1=> ?_);(have h2:ix.den<1:=h1);(have hx:ix.den.toNat=0:=by omega);(rcases hx with hx<;>simp only [hx]))|(refine ua1 (by rfl) (fun ix h0 h1=> ?_);(have h2:ix.den<5:=h1);(have hx:ix.den.toNat=0∨ix.den.toNat=1∨ix.den.toNat=2∨ix.den.toNat=3∨ix.den.toNat=4:=by omega);(rcases hx with hx|hx|hx|hx|hx<;>simp only [hx])))));done));try cbv)
  |(refine qP ?_ (kmeanX) ?hfit;(case hfit=>((repeat' (first|exact qA|exact qB|refine qC ?_ rfl ?_|refine qD ?_ ?_|exact qE (by rfl)|exact qF (by rfl)|exact Fit.refl _|(exact qO (by rfl))|(first|(refine ua1 (by rfl) (fun ix h0 h1=> ?_);(have h2:ix.den<2:=h1);(have hx:ix.den.toNat=0∨ix.den.toNat=1:=by omega);(rcases hx with hx|hx<;>simp only [hx]))|(refine ua1 (by rfl) (fun ix h0 h1=> ?_);(have h2:ix.den<3:=h1);(have hx:ix.den.toNat=0∨ix.den.toNat=1∨ix.den.toNat=2:=by omega);(rcases hx with hx|hx|hx<;>simp only [hx]))|(refine ua1 (by rfl) (fun ix h0 h1=> ?_);(have h2:ix.den<4:=h1);(have hx:ix.den.toNat=0∨ix.den.toNat=1∨ix.den.toNat=2∨ix.den.toNat=3:=by omega);(rcases hx with hx|hx|hx|hx<;>simp only [hx]))|(refine ua1 (by rfl) (fun ix h0 h1=> ?_);(have h2:ix.den<1:=h1);(have hx:ix.den.toNat=0:=by omega);(rcases hx with hx<;>simp only [hx]))|(refine ua1 (by rfl) (fun ix h0 h1=> ?_);(have h2:ix.den<5:=h1);(have hx:ix.den.toNat=0∨ix.den.toNat=1∨ix.den.toNat=2∨ix.den.toNat=3∨ix.den.toNat=4:=by omega);(rcases hx with hx|hx|hx|hx|hx<;>simp only [hx])))));done));try cbv)
  |(refine qP ?_ (kfirstX) ?hfit;(case hfit=>((repeat' (first|exact qA|exact qB|refine qC ?_ rfl ?_|refine qD ?_ ?_|exact qE (by rfl)|exact qF (by rfl)|exact Fit.refl _|(exact qO (by rfl))|(first|(refine ua1 (by rfl) (fun ix h0 h1=> ?_);(have h2:ix.den<2:=h1);(have hx:ix.den.toNat=0∨ix.den.toNat=1:=by omega);(rcases hx with hx|hx<;>simp only [hx]))|(refine ua1 (by rfl) (fun ix h0 h1=> ?_);(have h2:ix.den<3:=h1);(have hx:ix.den.toNat=0∨ix.den.toNat=1∨ix.den.toNat=2:=by omega);(rcases hx with hx|hx|hx<;>simp only [hx]))|(refine ua1 (by rfl) (fun ix h0 h1=> ?_);(have h2:ix.den<4:=h1);(have hx:ix.den.toNat=0∨ix.den.toNat=1∨ix.den.toNat=2∨ix.den.toNat=3:=by omega);(rcases hx with hx|hx|hx|hx<;>simp only [hx]))|(refine ua1 (by rfl) (fun ix h0 h1=> ?_);(have h2:ix.den<1:=h1);(have hx:ix.den.toNat=0:=by omega);(rcases hx with hx<;>simp only [hx]))|(refine ua1 (by rfl) (fun ix h0 h1=> ?_);(have h2:ix.den<5:=h1);(have hx:ix.den.toNat=0∨ix.den.toNat=1∨ix.den.toNat=2∨ix.den.toNat=3∨ix.den.toNat=4:=by omega);(rcases hx with hx|hx|hx|hx|hx<;>simp only [hx])))));done));try cbv)
  |(refine qP ?_ (kleaveX) ?hfit;(case hfit=>((repeat' (first|exact qA|exact qB|refine qC ?_ rfl ?_|refine qD ?_ ?_|exact qE (by rfl)|exact qF (by rfl)|exact Fit.refl _|(exact qO (by rfl))|(first|(refine ua1 (by rfl) (fun ix h0 h1=> ?_);(have h2:ix.den<2:=h1);(have hx:ix.den.toNat=0∨ix.den.toNat=1:=by omega);(rcases hx with hx|hx<;>simp only [hx]))|(refine ua1 (by rfl) (fun ix h0 h1=> ?_);(have h2:ix.den<3:=h1);(have hx:ix.den.toNat=0∨ix.den.toNat=1∨ix.den.toNat=2:=by omega);(rcases hx with hx|hx|hx<;>simp only [hx]))|(refine ua1 (by rfl) (fun ix h0 h1=> ?_);(have h2:ix.den<4:=h1);(have hx:ix.den.toNat=0∨ix.den.toNat=1∨ix.den.toNat=2∨ix.den.toNat=3:=by omega);(rcases hx with hx|hx|hx|hx<;>simp only [hx]))|(refine ua1 (by rfl) (fun ix h0 h1=> ?_);(have h2:ix.den<1:=h1);(have hx:ix.den.toNat=0:=by omega);(rcases hx with hx<;>simp only [hx]))|(refine ua1 (by rfl) (fun ix h0 h1=> ?_);(have h2:ix.den<5:=h1);(have hx:ix.den.toNat=0∨ix.den.toNat=1∨ix.den.toNat=2∨ix.den.toNat=3∨ix.den.toNat=4:=by omega);(rcases hx with hx|hx|hx|hx|hx<;>simp only [hx])))));done));try cbv)
  |(refine qP ?_ (kbelieveX) ?hfit;(case hfit=>((repeat' (first|exact qA|exact qB|refine qC ?_ rfl ?_|refine qD ?_ ?_|exact qE (by rfl)|exact qF (by rfl)|exact Fit.refl _|(exact qO (by rfl))|(first|(refine ua1 (by rfl) (fun ix h0 h1=> ?_);(have h2:ix.den<2:=h1);(have hx:ix.den.toNat=0∨ix.den.toNat=1:=by omega);(rcases hx with hx|hx<;>simp only [hx]))|(refine ua1 (by rfl) (fun ix h0 h1=> ?_);(have h2:ix.den<3:=h1);(have hx:ix.den.toNat=0∨ix.den.toNat=1∨ix.den.toNat=2:=by omega);(rcases hx with hx|hx|hx<;>simp only [hx]))|(refine ua1 (by rfl) (fun ix h0 h1=> ?_);(have h2:ix.den<4:=h1);(have hx:ix.den.toNat=0∨ix.den.toNat=1∨ix.den.toNat=2∨ix.den.toNat=3:=by omega);(rcases hx with hx|hx|hx|hx<;>simp only [hx]))|(refine ua1 (by rfl) (fun ix h0 h1=> ?_);(have h2:ix.den<1:=h1);(have hx:ix.den.toNat=0:=by omega);(rcases hx with hx<;>simp only [hx]))|(refine ua1 (by rfl) (fun ix h0 h1=> ?_);(have h2:ix.den<5:=h1);(have hx:ix.den.toNat=0∨ix.den.toNat=1∨ix.den.toNat=2∨ix.den.toNat=3∨ix.den.toNat=4:=by omega);(rcases hx with hx|hx|hx|hx|hx<;>simp only [hx])))));done));try cbv)
  |(refine qP ?_ (kblameX) ?hfit;(case hfit=>((repeat' (first|exact qA|exact qB|refine qC ?_ rfl ?_|refine qD ?_ ?_|exact qE (by rfl)|exact qF (by rfl)|exact Fit.refl _|(exact qO (by rfl))|(first|(refine ua1 (by rfl) (fun ix h0 h1=> ?_);(have h2:ix.den<2:=h1);(have hx:ix.den.toNat=0∨ix.den.toNat=1:=by omega);(rcases hx with hx|hx<;>simp only [hx]))|(refine ua1 (by rfl) (fun ix h0 h1=> ?_);(have h2:ix.den<3:=h1);(have hx:ix.den.toNat=0∨ix.den.toNat=1∨ix.den.toNat=2:=by omega);(rcases hx with hx|hx|hx<;>simp only [hx]))|(refine ua1 (by rfl) (fun ix h0 h1=> ?_);(have h2:ix.den<4:=h1);(have hx:ix.den.toNat=0∨ix.den.toNat=1∨ix.den.toNat=2∨ix.den.toNat=3:=by omega);(rcases hx with hx|hx|hx|hx<;>simp only [hx]))|(refine ua1 (by rfl) (fun ix h0 h1=> ?_);(have h2:ix.den<1:=h1);(have hx:ix.den.toNat=0:=by omega);(rcases hx with hx<;>simp only [hx]))|(refine ua1 (by rfl) (fun ix h0 h1=> ?_);(have h2:ix.den<5:=h1);(have hx:ix.den.toNat=0∨ix.den.toNat=1∨ix.den.toNat=2∨ix.den.toNat=3∨ix.den.toNat=4:=by omega);(rcases hx with hx|hx|hx|hx|hx<;>simp only [hx])))));done));try cbv)
  |(refine qP ?_ (kboundsX) ?hfit;(case hfit=>((repeat' (first|exact qA|exact qB|refine qC ?_ rfl ?_|refine qD ?_ ?_|exact qE (by rfl)|exact qF (by rfl)|exact Fit.refl _|(exact qO (by rfl))|(first|(refine ua1 (by rfl) (fun ix h0 h1=> ?_);(have h2:ix.den<2:=h1);(have hx:ix.den.toNat=0∨ix.den.toNat=1:=by omega);(rcases hx with hx|hx<;>simp only [hx]))|(refine ua1 (by rfl) (fun ix h0 h1=> ?_);(have h2:ix.den<3:=h1);(have hx:ix.den.toNat=0∨ix.den.toNat=1∨ix.den.toNat=2:=by omega);(rcases hx with hx|hx|hx<;>simp only [hx]))|(refine ua1 (by rfl) (fun ix h0 h1=> ?_);(have h2:ix.den<4:=h1);(have hx:ix.den.toNat=0∨ix.den.toNat=1∨ix.den.toNat=2∨ix.den.toNat=3:=by omega);(rcases hx with hx|hx|hx|hx<;>simp only [hx]))|(refine ua1 (by rfl) (fun ix h0 h1=> ?_);(have h2:ix.den<1:=h1);(have hx:ix.den.toNat=0:=by omega);(rcases hx with hx<;>simp only [hx]))|(refine ua1 (by rfl) (fun ix h0 h1=> ?_);(have h2:ix.den<5:=h1);(have hx:ix.den.toNat=0∨ix.den.toNat=1∨ix.den.toNat=2∨ix.den.toNat=3∨ix.den.toNat=4:=by omega);(rcases hx with hx|hx|hx|hx|hx<;>simp only [hx])))));done));try cbv)
  |(refine qP ?_ (kchargeX) ?hfit;(case hfit=>((repeat' (first|exact qA|exact qB|refine qC ?_ rfl ?_|refine qD ?_ ?_|exact qE (by rfl)|exact qF (by rfl)|exact Fit.refl _|(exact qO (by rfl))|(first|(refine ua1 (by rfl) (fun ix h0 h1=> ?_);(have h2:ix.den<2:=h1);(have hx:ix.den.toNat=0∨ix.den.toNat=1:=by omega);(rcases hx with hx|hx<;>simp only [hx]))|(refine ua1 (by rfl) (fun ix h0 h1=> ?_);(have h2:ix.den<3:=h1);(have hx:ix.den.toNat=0∨ix.den.toNat=1∨ix.den.toNat=2:=by omega);(rcases hx with hx|hx|hx<;>simp only [hx]))|(refine ua1 (by rfl) (fun ix h0 h1=> ?_);(have h2:ix.den<4:=h1);(have hx:ix.den.toNat=0∨ix.den.toNat=1∨ix.den.toNat=2∨ix.den.toNat=3:=by omega);(rcases hx with hx|hx|hx|hx<;>simp only [hx]))|(refine ua1 (by rfl) (fun ix h0 h1=> ?_);(have h2:ix.den<1:=h1);(have hx:ix.den.toNat=0:=by omega);(rcases hx with hx<;>simp only [hx]))|(refine ua1 (by rfl) (fun ix h0 h1=> ?_);(have h2:ix.den<5:=h1);(have hx:ix.den.toNat=0∨ix.den.toNat=1∨ix.den.toNat=2∨ix.den.toNat=3∨ix.den.toNat=4:=by omega);(rcases hx with hx|hx|hx|hx|hx<;>simp only [hx])))));done));try cbv)
  |(refine qP ?_ (kcosts3X) ?hfit;(case hfit=>((repeat' (first|exact qA|exact qB|refine qC ?_ rfl ?_|refine qD ?_ ?_|exact qE (by rfl)|exact qF (by rfl)|exact Fit.refl _|(exact qO (by rfl))|(first|(refine ua1 (by rfl) (fun ix h0 h1=> ?_);(have h2:ix.den<2:=h1);(have hx:ix.den.toNat=0∨ix.den.toNat=1:=by omega);(rcases hx with hx|hx<;>simp only [hx]))|(refine ua1 (by rfl) (fun ix h0 h1=> ?_);(have h2:ix.den<3:=h1);(have hx:ix.den.toNat=0∨ix.den.toNat=1∨ix.den.toNat=2:=by omega);(rcases hx with hx|hx|hx<;>simp only [hx]))|(refine ua1 (by rfl) (fun ix h0 h1=> ?_);(have h2:ix.den<4:=h1);(have hx:ix.den.toNat=0∨ix.den.toNat=1∨ix.den.toNat=2∨ix.den.toNat=3:=by omega);(rcases hx with hx|hx|hx|hx<;>simp only [hx]))|(refine ua1 (by rfl) (fun ix h0 h1=> ?_);(have h2:ix.den<1:=h1);(have hx:ix.den.toNat=0:=by omega);(rcases hx with hx<;>simp only [hx]))|(refine ua1 (by rfl) (fun ix h0 h1=> ?_);(have h2:ix.den<5:=h1);(have hx:ix.den.toNat=0∨ix.den.toNat=1∨ix.den.toNat=2∨ix.den.toNat=3∨ix.den.toNat=4:=by omega);(rcases hx with hx|hx|hx|hx|hx<;>simp only [hx])))));done));try cbv)
  |(refine qP ?_ (kcosts2X) ?hfit;(case hfit=>((repeat' (first|exact qA|exact qB|refine qC ?_ rfl ?_|refine qD ?_ ?_|exact qE (by rfl)|exact qF (by rfl)|exact Fit.refl _|(exact qO (by rfl))|(first|(refine ua1 (by rfl) (fun ix h0 h1=> ?_);(have h2:ix.den<2:=h1);(have hx:ix.den.toNat=0∨ix.den.toNat=1:=by omega);(rcases hx with hx|hx<;>simp only [hx]))|(refine ua1 (by rfl) (fun ix h0 h1=> ?_);(have h2:ix.den<3:=h1);(have hx:ix.den.toNat=0∨ix.den.toNat=1∨ix.den.toNat=2:=by omega);(rcases hx with hx|hx|hx<;>simp only [hx]))|(refine ua1 (by rfl) (fun ix h0 h1=> ?_);(have h2:ix.den<4:=h1);(have hx:ix.den.toNat=0∨ix.den.toNat=1∨ix.den.toNat=2∨ix.den.toNat=3:=by omega);(rcases hx with hx|hx|hx|hx<;>simp only [hx]))|(refine ua1 (by rfl) (fun ix h0 h1=> ?_);(have h2:ix.den<1:=h1);(have hx:ix.den.toNat=0:=by omega);(rcases hx with hx<;>simp only [hx]))|(refine ua1 (by rfl) (fun ix h0 h1=> ?_);(have h2:ix.den<5:=h1);(have hx:ix.den.toNat=0∨ix.den.toNat=1∨ix.den.toNat=2∨ix.den.toNat=3∨ix.den.toNat=4:=by omega);(rcases hx with hx|hx|hx|hx|hx<;>simp only [hx])))));done));try cbv)
  |(refine qP ?_ (kintsXb) ?hfit;(case hfit=>((repeat' (first|exact qA|exact qB|refine qC ?_ rfl ?_|refine qD ?_ ?_|exact qE (by rfl)|exact qF (by rfl)|exact Fit.refl _|(exact qO (by rfl))|(first|(refine ua1 (by rfl) (fun ix h0 h1=> ?_);(have h2:ix.den<2:=h1);(have hx:ix.den.toNat=0∨ix.den.toNat=1:=by omega);(rcases hx with hx|hx<;>simp only [hx]))|(refine ua1 (by rfl) (fun ix h0 h1=> ?_);(have h2:ix.den<3:=h1);(have hx:ix.den.toNat=0∨ix.den.toNat=1∨ix.den.toNat=2:=by omega);(rcases hx with hx|hx|hx<;>simp only [hx]))|(refine ua1 (by rfl) (fun ix h0 h1=> ?_);(have h2:ix.den<4:=h1);(have hx:ix.den.toNat=0∨ix.den.toNat=1∨ix.den.toNat=2∨ix.den.toNat=3:=by omega);(rcases hx with hx|hx|hx|hx<;>simp only [hx]))|(refine ua1 (by rfl) (fun ix h0 h1=> ?_);(have h2:ix.den<1:=h1);(have hx:ix.den.toNat=0:=by omega);(rcases hx with hx<;>simp only [hx]))|(refine ua1 (by rfl) (fun ix h0 h1=> ?_);(have h2:ix.den<5:=h1);(have hx:ix.den.toNat=0∨ix.den.toNat=1∨ix.den.toNat=2∨ix.den.toNat=3∨ix.den.toNat=4:=by omega);(rcases hx with hx|hx|hx|hx|hx<;>simp only [hx])))));done));try cbv)
  |(refine qP ?_ (kintsXc) ?hfit;(case hfit=>((repeat' (first|exact qA|exact qB|refine qC ?_ rfl ?_|refine qD ?_ ?_|exact qE (by rfl)|exact qF (by rfl)|exact Fit.refl _|(exact qO (by rfl))|(first|(refine ua1 (by rfl) (fun ix h0 h1=> ?_);(have h2:ix.den<2:=h1);(have hx:ix.den.toNat=0∨ix.den.toNat=1:=by omega);(rcases hx with hx|hx<;>simp only [hx]))|(refine ua1 (by rfl) (fun ix h0 h1=> ?_);(have h2:ix.den<3:=h1);(have hx:ix.den.toNat=0∨ix.den.toNat=1∨ix.den.toNat=2:=by omega);(rcases hx with hx|hx|hx<;>simp only [hx]))|(refine ua1 (by rfl) (fun ix h0 h1=> ?_);(have h2:ix.den<4:=h1);(have hx:ix.den.toNat=0∨ix.den.toNat=1∨ix.den.toNat=2∨ix.den.toNat=3:=by omega);(rcases hx with hx|hx|hx|hx<;>simp only [hx]))|(refine ua1 (by rfl) (fun ix h0 h1=> ?_);(have h2:ix.den<1:=h1);(have hx:ix.den.toNat=0:=by omega);(rcases hx with hx<;>simp only [hx]))|(refine ua1 (by rfl) (fun ix h0 h1=> ?_);(have h2:ix.den<5:=h1);(have hx:ix.den.toNat=0∨ix.den.toNat=1∨ix.den.toNat=2∨ix.den.toNat=3∨ix.den.toNat=4:=by omega);(rcases hx with hx|hx|hx|hx|hx<;>simp only [hx])))));done));try cbv)
  | (refine⟨none,?_⟩
     refine qR ?_ (kintsXa) rfl ?hfit
     case hfit=>(cbv;(repeat' (first|exact qA|exact qB|refine qC ?_ rfl ?_|refine qD ?_ ?_|exact qE (by rfl)|exact qF (by rfl)|exact Fit.refl _|(exact qO (by rfl))|(first|(refine ua1 (by rfl) (fun ix h0 h1=> ?_);(have h2:ix.den<2:=h1);(have hx:ix.den.toNat=0∨ix.den.toNat=1:=by omega);(rcases hx with hx|hx<;>simp only [hx]))|(refine ua1 (by rfl) (fun ix h0 h1=> ?_);(have h2:ix.den<3:=h1);(have hx:ix.den.toNat=0∨ix.den.toNat=1∨ix.den.toNat=2:=by omega);(rcases hx with hx|hx|hx<;>simp only [hx]))|(refine ua1 (by rfl) (fun ix h0 h1=> ?_);(have h2:ix.den<4:=h1);(have hx:ix.den.toNat=0∨ix.den.toNat=1∨ix.den.toNat=2∨ix.den.toNat=3:=by omega);(rcases hx with hx|hx|hx|hx<;>simp only [hx]))|(refine ua1 (by rfl) (fun ix h0 h1=> ?_);(have h2:ix.den<1:=h1);(have hx:ix.den.toNat=0:=by omega);(rcases hx with hx<;>simp only [hx]))|(refine ua1 (by rfl) (fun ix h0 h1=> ?_);(have h2:ix.den<5:=h1);(have hx:ix.den.toNat=0∨ix.den.toNat=1∨ix.den.toNat=2∨ix.den.toNat=3∨ix.den.toNat=4:=by omega);(rcases hx with hx|hx|hx|hx|hx<;>simp only [hx])))));done)
     try cbv)
  |fail)
 all_goals first|trivial|(subst hR;(repeat' (first|exact qA|exact qB|refine qC ?_ rfl ?_|refine qD ?_ ?_|exact qE (by rfl)|exact qF (by rfl)|exact Fit.refl _|exact qG _|(refine qE ?_;(try simp only [qV]at *);simp only [zQ,zA,zB,zC,zD,zE,zF,zG,zH,zI,zJ,zK,zL,zM,zN,zO,zP,zR,zS]at *;omega)));done)|skip
end Go.Proofs.YtkdggbfknlcdaaaGreat
namespace Go.Proofs.YtkdggbfknlcdaaaGreat
open Go Go.Eng Go.Proofs
set_option maxRecDepth 10000
theorem uvI (tw tm:List Int)(tv:List (List Int))(hT:ThinT tw tm tv):ua0 Tryz.prog 43 [(.agg [(iS tw),(iS tm),(.sl 1 (.sym fun _=>zi (tv).length) (fun ix=>[(.sl 1 (.sym fun _=>zi ((tv).getD ix.den.toNat []).length) (fun jx=>[(iv fun _=>((tv).getD ix.den.toNat []).getD jx.den.toNat 0)]))]))])] [] (fun r _=>r=(.agg [(iS tw),(iS tm),(.sl 1 (.sym fun _=>zi (tv).length) (fun ix=>[(.sl 1 (.sym fun _=>zi ((tv).getD ix.den.toNat []).length) (fun jx=>[(iv fun _=>((tv).getD ix.den.toNat []).getD jx.den.toNat 0)]))]))])):=by
 have c87w:=upX tw (by have:=hT.w;omega)
 have c87m:=upX tm (by have:=hT.m;omega)
 have c87r:=fun (i:Nat) (hi:i<tv.length)=>upX (tv.getD i []) (by have:=hT.r i hi;omega)
 refine ua0.is fun R hR=>qW (sc:=uBo) uai mix Tryz.func43 rfl Tryz.call43 (by kernel_rfl) (by kernel_rfl) ?_
 generalize Tryz.prog=P at c87w c87m c87r⊢
 cbv
 repeat' (first|(refine qP ?_ (c87w) ?hfit;(case hfit=>((repeat' (first|exact qB|refine qD ?_ ?_|exact qE (by rfl)|exact qF (by rfl)|exact Fit.refl _|exact qA|refine qC ?_ rfl ?_));done));try cbv)|(refine qP ?_ (c87m) ?hfit;(case hfit=>((repeat' (first|exact qB|refine qD ?_ ?_|exact qE (by rfl)|exact qF (by rfl)|exact Fit.refl _|exact qA|refine qC ?_ rfl ?_));done));try cbv)|fail)
 all_goals first|skip
 refine⟨none,[⟨.cell 9 2,22,1⟩],{i:Nat // i≤tv.length},fun x=>⟨[(1,.own 0 0),(2,.own 1 0),(3,.own 9 0),(4,(iv fun _=>zi x.1))],[(0,.cells [(iS tw),(iS tm),(.sl 1 (.sym fun _=>zi (tv).length) (fun ix=>[(.sl 1 (.sym fun _=>zi ((tv).getD ix.den.toNat []).length) (fun jx=>[(iv fun _=>((tv).getD ix.den.toNat []).getD jx.den.toNat 0)]))]))] 25),(1,.cells [.val (.slice none 0 0),.val (.slice none 0 0),.val (.slice none 0 0)] 35),(9,.cells [(iS tw),(iS tm),.row 12] 35),(12,.row 22 1 (.sym fun _=>zi x.1) (fun ix=>[(.sl 1 (.sym fun _=>zi (tv.getD ix.den.toNat []).length) (fun jx=>[(iv fun _=>(tv.getD ix.den.toNat []).getD jx.den.toNat 0)]))]))],60⟩,fun x=>tv.length-x.1,?_,?_⟩
 ·refine⟨⟨0,by omega⟩,?_⟩
  cbv
  repeat' (first|with_reducible refine ua4 ?_ ?_|with_reducible refine And.intro ?_ ?_)
  all_goals first|trivial|exact qM (qE (by rfl))|exact qM (Fit.refl _)|exact qL (qK _)|(refine qL (uae ?_ ?_);(first|rfl|((try simp only [qV]at *);(try simp only [zQ,zA,zB,zC,zD,zE,zF,zG,zH,zI,zJ,zK,zL,zM,zN,zO,zP,zR,zS]at *);omega));intro ix h0 h1;first|exact Fit.refl _|(exfalso;(try simp only [qV]at *);(try simp only [zQ,zA,zB,zC,zD,zE,zF,zG,zH,zI,zJ,zK,zL,zM,zN,zO,zP,zR,zS]at *);omega))|skip
 ·rintro ⟨i,hi⟩
  cbv
  have tv8:=hT.v
  repeat' (first
   |with_reducible refine ua4 ?_ ?_
   |with_reducible refine And.intro ?_ ?_
   |(with_reducible intro hcd;(try simp only [zA,zB,zC,zD,zE,zF,zG,zH,zI,zJ,zK,zL,zM,zN,zO,zP]at hcd);try cbv)
   |(refine qP ?_ (c87r i (show uaj _ from ?_)) ?hfit;(case hfit=>((repeat' (first|exact qB|refine qD ?_ ?_|exact qE (by rfl)|exact qF (by rfl)|exact Fit.refl _|exact qA|refine qC ?_ rfl ?_));done));try cbv)
   | (refine⟨fun ix=>[(.sl 1 (.sym fun _=>zi (tv.getD ix.den.toNat []).length) (fun jx=>[(iv fun _=>(tv.getD ix.den.toNat []).getD jx.den.toNat 0)]))],?_⟩
      cbv
      refine ua4 (ub9 (by intro ix jx h0 h1 h2;simp only [h2];exact Fit.refl _) (by intro ix jx h0 h1 h2;(have h3:jx.den.toNat=i:=by((try simp only [qV]at *);(try simp only [zQ,zA,zB,zC,zD,zE,zF,zG,zH,zI,zJ,zK,zL,zM,zN,zO,zP,zR,zS]at *);omega));simp only [h3];(first|exact Fit.refl _|(repeat' (first|exact qA|exact Fit.refl _|exact qE (by rfl)|refine qC ?_ rfl ?_)))) (by(try simp only [qV]at *);(try simp only [zQ,zA,zB,zC,zD,zE,zF,zG,zH,zI,zJ,zK,zL,zM,zN,zO,zP,zR,zS]at *);omega)) (Or.inl ?_)
      try cbv)
   |fail)
  all_goals first|((try simp only [qV]at *);(try simp only [zQ,zA,zB,zC,zD,zE,zF,zG,zH,zI,zJ,zK,zL,zM,zN,zO,zP,zR,zS]at *);first|(refine qN ?_;omega)|(simp only [uaj];omega))|(subst hR;(have hie:i=tv.length:=by((try simp only [qV]at *);(try simp only [zQ,zA,zB,zC,zD,zE,zF,zG,zH,zI,zJ,zK,zL,zM,zN,zO,zP,zR,zS]at *);omega));subst hie;(repeat' (first|exact qA|exact Fit.refl _|exact qE (by rfl)|refine qC ?_ rfl ?_));done;done)|((try simp only [zQ,zA,zB,zC,zD,zE,zF,zG,zH,zI,zJ,zK,zL,zM,zN,zO,zP,zR,zS]at *);refine⟨⟨i+1,by omega⟩,by simp only [];omega,?_⟩;cbv;(repeat' (first|with_reducible refine ua4 ?_ ?_|with_reducible refine And.intro ?_ ?_));(all_goals first|trivial|exact qM (qE (by rfl))|exact qM (qF (by rfl))|exact qM (Fit.refl _)|exact qL (qK _)|(refine qM (qE ?_);(try simp only [qV]at *);simp only [zQ,zA,zB,zC,zD,zE,zF,zG,zH,zI,zJ,zK,zL,zM,zN,zO,zP,zR,zS]at *;omega)|(refine qL (uae ?_ ?_);(first|rfl|((try simp only [qV]at *);(try simp only [zQ,zA,zB,zC,zD,zE,zF,zG,zH,zI,zJ,zK,zL,zM,zN,zO,zP,zR,zS]at *);omega));intro ix h0 h1;first|exact Fit.refl _|(exfalso;(try simp only [qV]at *);(try simp only [zQ,zA,zB,zC,zD,zE,zF,zG,zH,zI,zJ,zK,zL,zM,zN,zO,zP,zR,zS]at *);omega))|skip))|skip
theorem uqM {l:List Int} {most:Int}(h:ucv l most=true) {i j:Nat}(hij:i≤j)(hj:j<l.length):l.getD i 0≤l.getD j 0:=by
 by_cases e:i=j
 ·subst e;exact Int.le_refl _
 ·exact Int.le_of_lt (uh2 h (by omega) hj)
theorem uqi {n q:Int}(hq:0<q)(hn:0≤n):(2*n+q)/(2*q)=if q≤2*(n-n/q*q)then n/q+1 else n/q:=by
 have h1:=Int.emod_add_mul_ediv n q
 have h2:=Int.emod_nonneg n (show q≠0 by omega)
 have h3:=Int.emod_lt_of_pos n hq
 have e:n-n/q*q=n%q:=by rw [Int.mul_comm];omega
 rw [e]
 have key:∀k r:Int,n=q*k+r→0≤r→r<q→(2*n+q)/(2*q)=if q≤2*r then k+1 else k:=fun k r hk h0 hr=>by
  split
  ·rename_i hle
   have:2*n+q=(2*r-q)+(k+1)*(2*q):=by
    have h5:(k+1)*(2*q)=2*(q*k)+2*q:=by rw [Int.add_mul,Int.one_mul,Int.mul_left_comm,Int.mul_comm k q]
    omega
   rw [this,Int.add_mul_ediv_right _ _ (by omega),Int.ediv_eq_zero_of_lt (by omega) (by omega)]
   omega
  ·rename_i hle
   have:2*n+q=(2*r+q)+k*(2*q):=by
    have h5:k*(2*q)=2*(q*k):=by rw [Int.mul_left_comm,Int.mul_comm k q]
    omega
   rw [this,Int.add_mul_ediv_right _ _ (by omega),Int.ediv_eq_zero_of_lt (by omega) (by omega)]
   omega
 exact key (n/q) (n%q) (by omega) h2 h3
theorem IsB.unique {f:Int→Int→Int} {wl wh ml mh lo hi lo' hi':Int}(h:IsB f wl wh ml mh lo hi)(h':IsB f wl wh ml mh lo' hi'):lo=lo'∧hi=hi':=by
 obtain⟨w1,m1,a1,a2,a3,a4,a5⟩:=h.lo
 obtain⟨w2,m2,b1,b2,b3,b4,b5⟩:=h'.lo
 obtain⟨w3,m3,c1,c2,c3,c4,c5⟩:=h.hi
 obtain⟨w4,m4,d1,d2,d3,d4,d5⟩:=h'.hi
 have q1:=h.le w2 m2 b1 b2 b3 b4
 have q2:=h'.le w1 m1 a1 a2 a3 a4
 have q3:=h.le w4 m4 d1 d2 d3 d4
 have q4:=h'.le w3 m3 c1 c2 c3 c4
 omega
theorem ugH {l:List Int} {most n:Int}(hr:ucv l most=true) {i j:Nat}(hi:InCell l n i)(hj:InCell l n j):i=j:=by
 have key:∀{i j:Nat},InCell l n i→InCell l n j→¬i<j:=fun {i j} hi hj hlt=>by
  have h1:=hi.hi
  have h2:=hj.lt
  have h3:=hj.lo
  have:=uqM hr (i:=i+1) (j:=j) (by omega) (by omega)
  rcases h1 with h1|h1<;>omega
 have a:=key hi hj
 have b:=key hj hi
 omega
set_option maxHeartbeats 1000000 in
theorem uAU (tw tm:List Int)(tv:List (List Int))(w m:Int)(h:TOk tw tm tv∧Pt tw tm w m):ua0 Tryz.prog 69 [(.agg [(iS tw),(iS tm),(.sl 1 (.sym fun _=>zi (tv).length) (fun ix=>[(.sl 1 (.sym fun _=>zi ((tv).getD ix.den.toNat []).length) (fun jx=>[(iv fun _=>((tv).getD ix.den.toNat []).getD jx.den.toNat 0)]))]))]),(iv fun _=>w),(iv fun _=>m)] [] (fun r _=>r=(iv fun _=>atS tw tm tv w m)):=by
 obtain⟨h,hp⟩:=h
 have d1:=h.w5;have d2:=h.m5;have d3:=h.w2;have d4:=h.m2
 have e:=h.len
 have q0:=hp.w0;have q1:=hp.w1;have q2:=hp.m0;have q3:=hp.m1
 refine ua0.is fun R hR=>qW (sc:=uBA) uai mix Tryz.func69 rfl Tryz.call69 (by kernel_rfl) (by kernel_rfl) ?_
 generalize Tryz.prog=P
 cbv
 repeat' (first|with_reducible refine ua4 ?_ ?_|(with_reducible intro hcd;(try simp only [uac,zA,zB,zC,zD,zE,zF,zG,zH,zI,zJ,zK,zL,zM,zN,zO,zP]at hcd);try cbv))
 all_goals first|((try simp only [uac,zA,zB,zC,zD,zE,zF,zG,zH,zI,zJ,zK,zL,zM,zN,zO,zP]at⊢);first|(refine qN ?_;omega)|(simp only [uaj];omega))|skip
 refine⟨none,[],{i:Nat // i+2≤tw.length∧(i+2=tw.length∨w<tw.getD (i+1) 0)},fun x=>⟨[(3,.own 0 0),(1,(iv fun _=>w)),(2,(iv fun _=>m)),(7,(iv fun _=>zi x.1)),(8,(iv fun _=>zi (tm.length-2)))],[(0,.cells [(iS tw),(iS tm),(.sl 1 (.sym fun _=>zi (tv).length) (fun ix=>[(.sl 1 (.sym fun _=>zi ((tv).getD ix.den.toNat []).length) (fun jx=>[(iv fun _=>((tv).getD ix.den.toNat []).getD jx.den.toNat 0)]))]))] 25)],12⟩,fun x=>x.1,?_,?_⟩
 ·obtain⟨i0,ei0⟩:∃i0,i0=tw.length-2:=⟨_,rfl⟩
  refine⟨⟨i0,by omega,by omega⟩,?_⟩
  cbv
  repeat' (first|with_reducible refine ua4 ?_ ?_|with_reducible refine And.intro ?_ ?_)
  all_goals first|trivial|exact qM (qE (by rfl))|exact qM (Fit.refl _)|exact qL (qK _)|(refine qM (qE ?_);simp only [uac,zA,zB,zC,zD,zE,zF,zG,zH,zI,zJ,zK,zL,zM,zN,zO,zP];omega)|skip
 ·rintro ⟨i, hi1,hi2⟩
  cbv
  have ei:(i:Int).toNat=i:=by omega
  repeat' (first|with_reducible refine ua4 ?_ ?_|with_reducible refine And.intro ?_ ?_|(with_reducible intro hcd;(try simp only [uac,zA,zB,zC,zD,zE,zF,zG,zH,zI,zJ,zK,zL,zM,zN,zO,zP,ei]at hcd);try cbv))
  all_goals first|((try simp only [uac,zA,zB,zC,zD,zE,zF,zG,zH,zI,zJ,zK,zL,zM,zN,zO,zP,ei]at⊢);first|(refine qN ?_;omega)|(simp only [uaj];omega))|(have ip:w<tw.getD i 0→0<i:=(fun q=>Nat.pos_of_ne_zero fun q2=>by rw [q2]at q;omega);obtain⟨i1,ei1⟩:∃i1,i1=i-1:=⟨_,rfl⟩;refine⟨⟨i1,by have:=ip (by omega);refine⟨by omega,.inr ?_⟩;rw [show i1+1=i by omega];assumption⟩,by have:=ip (by omega);simp only [];omega,?_⟩;cbv;(repeat' (first|with_reducible refine ua4 ?_ ?_|with_reducible refine And.intro ?_ ?_));(all_goals first|trivial|exact qM (qE (by rfl))|exact qM (qF (by rfl))|exact qM (Fit.refl _)|exact qL (qK _)|(refine qM (qE ?_);simp only [uac,zA,zB,zC,zD,zE,zF,zG,zH,zI,zJ,zK,zL,zM,zN,zO,zP];omega)|(refine qM (qE ?_);simp only [uac,zA,zB,zC,zD,zE,zF,zG,zH,zI,zJ,zK,zL,zM,zN,zO,zP];have:=ip (by omega);omega)|skip))|skip
  have hi0:tw.getD i 0≤w:=by omega
  refine⟨none,[],{k:Nat // k+2≤tm.length∧(k+2=tm.length∨m<tm.getD (k+1) 0)},fun x=>⟨[(3,.own 0 0),(1,(iv fun _=>w)),(2,(iv fun _=>m)),(7,(iv fun _=>zi i)),(8,(iv fun _=>zi x.1))],[(0,.cells [(iS tw),(iS tm),(.sl 1 (.sym fun _=>zi (tv).length) (fun ix=>[(.sl 1 (.sym fun _=>zi ((tv).getD ix.den.toNat []).length) (fun jx=>[(iv fun _=>((tv).getD ix.den.toNat []).getD jx.den.toNat 0)]))]))] 25)],20⟩,fun x=>x.1,?_,?_⟩
  ·obtain⟨k0,ek0⟩:∃k0,k0=tm.length-2:=⟨_,rfl⟩
   refine⟨⟨k0,by omega,by omega⟩,?_⟩
   cbv
   repeat' (first|with_reducible refine ua4 ?_ ?_|with_reducible refine And.intro ?_ ?_)
   all_goals first|trivial|exact qM (qE (by rfl))|exact qM (Fit.refl _)|exact qL (qK _)|(refine qM (qE ?_);simp only [uac,zA,zB,zC,zD,zE,zF,zG,zH,zI,zJ,zK,zL,zM,zN,zO,zP];omega)|skip
  ·rintro ⟨k,hk1,hk2⟩
   cbv
   have ek:(k:Int).toNat=k:=by omega
   by_cases hx:m<tm.getD k 0
   ·skip
    repeat' (first|with_reducible refine ua4 ?_ ?_|with_reducible refine And.intro ?_ ?_|(with_reducible refine qS ?_ ?_ ?_;try cbv)|(with_reducible intro hcd;(try simp only [uac,zA,zB,zC,zD,zE,zF,zG,zH,zI,zJ,zK,zL,zM,zN,zO,zP,ek]at hcd);try cbv))
    all_goals first|trivial|((try simp only [uac,zA,zB,zC,zD,zE,zF,zG,zH,zI,zJ,zK,zL,zM,zN,zO,zP,ek]at⊢);first|(refine qN ?_;omega)|(simp only [uaj];omega))|(have kp:m<tm.getD k 0→0<k:=(fun q=>Nat.pos_of_ne_zero fun q2=>by rw [q2]at q;omega);obtain⟨k1,ek1⟩:∃k1,k1=k-1:=⟨_,rfl⟩;refine⟨⟨k1,by have:=kp (by omega);refine⟨by omega,.inr ?_⟩;rw [show k1+1=k by omega];assumption⟩,by have:=kp (by omega);simp only [];omega,?_⟩;cbv;(repeat' (first|with_reducible refine ua4 ?_ ?_|with_reducible refine And.intro ?_ ?_));(all_goals first|trivial|exact qM (qE (by rfl))|exact qM (qF (by rfl))|exact qM (Fit.refl _)|exact qL (qK _)|(refine qM (qE ?_);simp only [uac,zA,zB,zC,zD,zE,zF,zG,zH,zI,zJ,zK,zL,zM,zN,zO,zP];omega)|(refine qM (qE ?_);simp only [uac,zA,zB,zC,zD,zE,zF,zG,zH,zI,zJ,zK,zL,zM,zN,zO,zP];have:=kp (by omega);omega)|skip))|skip
   ·skip
    have ei1:((i:Int)+1).toNat=i+1:=by omega
    have ek1:((k:Int)+1).toNat=k+1:=by omega
    have hci:InCell tw w i:=⟨hi1,hi0,hi2⟩
    have hck:InCell tm m k:=⟨hk1,by omega,hk2⟩
    have hii:=ugH h.rw hci (ucf d3 q0)
    have hkk:=ugH h.rm hck (ucf d4 q2)
    have a1:=uat h.rw i (by omega)
    have a2:=uat h.rw (i+1) (by omega)
    have a3:=uat h.rm k (by omega)
    have a4:=uat h.rm (k+1) (by omega)
    simp only [ubm,Nat.add_sub_cancel]at a1 a2 a3 a4
    have r1:=h.row i (by omega)
    have r2:=h.row (i+1) (by omega)
    have v1:=h.val i (by omega) k (by omega)
    have v2:=h.val (i+1) (by omega) k (by omega)
    have v3:=h.val i (by omega) (k+1) (by omega)
    have v4:=h.val (i+1) (by omega) (k+1) (by omega)
    have b1:=hci.le_hi q1
    have b2:=hck.le_hi q3
    have c1:=hci.lo
    have c2:=hck.lo
    have hat:atS tw tm tv w m=atI tw tm tv w m i k:=by rw [atS,←hii,←hkk]
    obtain⟨l1,hl1⟩:∃l1,(tv.getD i []).length=l1:=⟨_,rfl⟩
    obtain⟨l2,hl2⟩:∃l2,(tv.getD (i+1) []).length=l2:=⟨_,rfl⟩
    obtain⟨a,ha⟩:∃a,tw.getD i 0=a:=⟨_,rfl⟩
    obtain⟨b,hb⟩:∃b,tw.getD (i+1) 0=b:=⟨_,rfl⟩
    obtain⟨c,hc⟩:∃c,tm.getD k 0=c:=⟨_,rfl⟩
    obtain⟨d,hd⟩:∃d,tm.getD (k+1) 0=d:=⟨_,rfl⟩
    obtain⟨v00,h00⟩:∃v,(tv.getD i []).getD k 0=v:=⟨_,rfl⟩
    obtain⟨v10,h10⟩:∃v,(tv.getD (i+1) []).getD k 0=v:=⟨_,rfl⟩
    obtain⟨v01,h01⟩:∃v,(tv.getD i []).getD (k+1) 0=v:=⟨_,rfl⟩
    obtain⟨v11,h11⟩:∃v,(tv.getD (i+1) []).getD (k+1) 0=v:=⟨_,rfl⟩
    rw [atI,ha,hb,hc,hd,h00,h10,h01,h11]at hat
    rw [hl1]at r1
    rw [hl2]at r2
    rw [ha]at a1 a2 c1
    rw [hb]at a2 b1
    rw [hc]at a3 a4 c2
    rw [hd]at a4 b2
    rw [h00]at v1
    rw [h10]at v2
    rw [h01]at v3
    rw [h11]at v4
    have s1:=uc5 (x:=v00) (y:=b-w) 2000 40 v1 (by omega)
    have s2:=uc5 (x:=v10) (y:=w-a) 2000 40 v2 (by omega)
    have s3:=uc5 (x:=v01) (y:=b-w) 2000 40 v3 (by omega)
    have s4:=uc5 (x:=v11) (y:=w-a) 2000 40 v4 (by omega)
    have t1:=uc5 (x:=v00*(b-w)) (y:=d-m) 80000 60 s1 (by omega)
    have t2:=uc5 (x:=v10*(w-a)) (y:=d-m) 80000 60 s2 (by omega)
    have t3:=uc5 (x:=v01*(b-w)) (y:=m-c) 80000 60 s3 (by omega)
    have t4:=uc5 (x:=v11*(w-a)) (y:=m-c) 80000 60 s4 (by omega)
    have u1:=uc5 (x:=b-w+(w-a)) (y:=d-m+(m-c)) 40 60 (by omega) (by omega)
    have u2:1≤(b-w+(w-a))*(d-m+(m-c)):=Int.mul_pos (by omega) (by omega)
    obtain⟨q,hq⟩:∃q,(b-w+(w-a))*(d-m+(m-c))=q:=⟨_,rfl⟩
    obtain⟨n,hn⟩:∃n,v00*(b-w)*(d-m)+v10*(w-a)*(d-m)+v01*(b-w)*(m-c)+v11*(w-a)*(m-c)=n:=⟨_,rfl⟩
    rw [hq]at u1 u2
    have hn0:0≤n∧n≤20000000:=by omega
    have ht:n.tdiv q=n/q:=Int.tdiv_eq_ediv_of_nonneg hn0.1
    have hd0:0≤n/q:=Int.ediv_nonneg hn0.1 (by omega)
    have hd1:n/q*q≤n:=Int.ediv_mul_le n (by omega)
    have hd2:n/q≤n:=Int.ediv_le_self q hn0.1
    have hd3:0≤n/q*q:=Int.mul_nonneg hd0 (by omega)
    have hat2:atS tw tm tv w m=if q≤2*(n-n/q*q)then n/q+1 else n/q:=by
     rw [hat,upf,utE,hn,←uqi (by omega) hn0.1]
     have e1:(b-a)*(d-c)=q:=by rw [←hq];congr 1<;>omega
     rw [Int.mul_assoc,e1,Int.tdiv_eq_ediv_of_nonneg (by omega)]
    repeat' (first|with_reducible refine ua4 ?_ ?_|with_reducible refine And.intro ?_ ?_|(with_reducible refine qS ?_ ?_ ?_;try cbv)|(with_reducible intro hcd;(try simp only [uac,zA,zB,zC,zD,zE,zF,zG,zH,zI,zJ,zK,zL,zM,zN,zO,zP,ei,ek,ei1,ek1,hl1,hl2,ha,hb,hc,hd,h00,h10,h01,h11,hq,hn,ht]at hcd);try cbv))
    all_goals first|((try simp only [uac,zA,zB,zC,zD,zE,zF,zG,zH,zI,zJ,zK,zL,zM,zN,zO,zP,ei,ek,ei1,ek1,hl1,hl2,ha,hb,hc,hd,h00,h10,h01,h11,hq,hn,ht]at⊢);first|(refine qN ?_;omega)|(simp only [uaj];omega))|(exfalso;omega)|(subst hR;refine qE ?_;simp only [uac,zA,zB,zC,zD,zE,zF,zG,zH,zI,zJ,zK,zL,zM,zN,zO,zP,ei,ek,ei1,ek1,hl1,hl2,ha,hb,hc,hd,h00,h10,h01,h11,hq,hn,ht];rw [hat2];split<;>omega)|skip
def uiD (wl ml mh:Int)(i j:Nat)(w m:Int):Prop:=ml≤m∧m≤mh∧((wl≤w∧w<wl+i)∨(w=wl+i∧m<ml+j))
structure Scan (f:Int→Int→Int)(wl ml mh:Int)(i j:Nat)(lo hi:Int):Prop where
 le:∀w m,uiD wl ml mh i j w m→lo≤f w m∧f w m≤hi
 hit:(lo=9999∧hi = -1∧∀w m,¬uiD wl ml mh i j w m)∨((∃w m,uiD wl ml mh i j w m∧lo=f w m)∧∃w m,uiD wl ml mh i j w m∧hi=f w m)
theorem uyT (f:Int→Int→Int)(wl ml mh:Int):Scan f wl ml mh 0 0 9999 (-1):=by
 have h:∀w m,¬uiD wl ml mh 0 0 w m:=fun w m h=>by unfold uiD at h;omega
 exact⟨fun w m s=>absurd s (h w m),.inl ⟨rfl,rfl,h⟩⟩
theorem uoR {f:Int→Int→Int} {wl ml mh:Int} {i j:Nat} {lo hi:Int}(h:Scan f wl ml mh i j lo hi)(hm:ml+j≤mh)(hf:0≤f (wl+i) (ml+j)∧f (wl+i) (ml+j)≤2000):
 Scan f wl ml mh i (j+1) (if f (wl+i) (ml+j)<lo then f (wl+i) (ml+j)else lo) (if f (wl+i) (ml+j)>hi then f (wl+i) (ml+j)else hi):=by
 have hs:∀w m,uiD wl ml mh i (j+1) w m↔uiD wl ml mh i j w m∨(w=wl+i∧m=ml+j):=fun w m=>by unfold uiD;omega
 refine⟨fun w m s=> ?_,.inr ?_⟩
 ·rcases(hs w m).1 s with s|⟨rfl,rfl⟩
  ·have:=h.le w m s
   split<;>split<;>omega
  ·split<;>split<;>omega
 ·have hn:uiD wl ml mh i (j+1) (wl+i) (ml+j):=(hs _ _).2 (.inr ⟨rfl,rfl⟩)
  rcases h.hit with⟨rfl,rfl,_⟩|⟨⟨w,m,s,e⟩,w',m',s',e'⟩
  ·rw [if_pos (by omega),if_pos (by omega)]
   exact⟨⟨_,_,hn,rfl⟩,_,_,hn,rfl⟩
  ·refine⟨?_,?_⟩
   ·split
    ·exact⟨_,_,hn,rfl⟩
    ·exact⟨w,m,(hs _ _).2 (.inl s),e⟩
   ·split
    ·exact⟨_,_,hn,rfl⟩
    ·exact⟨w',m',(hs _ _).2 (.inl s'),e'⟩
theorem Scan.congr {f:Int→Int→Int} {wl ml mh:Int} {i j i' j':Nat} {lo hi:Int}(h:Scan f wl ml mh i j lo hi)(hs:∀w m,uiD wl ml mh i j w m↔uiD wl ml mh i' j' w m):Scan f wl ml mh i' j' lo hi:=
 ⟨fun w m s=>h.le w m ((hs w m).2 s),h.hit.imp (fun q=>⟨q.1,q.2.1,fun w m s=>q.2.2 w m ((hs w m).2 s)⟩) fun q=>⟨let ⟨w,m,s,e⟩:=q.1;⟨w,m,(hs w m).1 s,e⟩,let ⟨w,m,s,e⟩:=q.2;⟨w,m,(hs w m).1 s,e⟩⟩⟩
theorem urm {f:Int→Int→Int} {wl ml mh:Int} {i j:Nat} {lo hi:Int}(h:Scan f wl ml mh i j lo hi)(hj:mh<ml+j):Scan f wl ml mh (i+1) 0 lo hi:=
 h.congr fun w m=>by unfold uiD;omega
theorem ut3 {f:Int→Int→Int} {wl wh ml mh:Int} {i:Nat} {lo hi:Int}(h:Scan f wl ml mh i 0 lo hi)(hend:wl+i=wh+1)(hw:wl≤wh)(hm:ml≤mh):IsB f wl wh ml mh lo hi:=by
 have hs:∀w m,uiD wl ml mh i 0 w m↔wl≤w∧w≤wh∧ml≤m∧m≤mh:=fun w m=>by unfold uiD;omega
 rcases h.hit with⟨_,_,q⟩|⟨⟨w,m,s,e⟩,w',m',s',e'⟩
 ·exact absurd ((hs wl ml).2 ⟨by omega,hw,by omega,hm⟩) (q wl ml)
 ·refine⟨fun w m a b c d=>h.le w m ((hs w m).2 ⟨a,b,c,d⟩),?_,?_⟩
  ·obtain⟨a,b,c,d⟩:=(hs w m).1 s;exact⟨w,m,a,b,c,d,e⟩
  ·obtain⟨a,b,c,d⟩:=(hs w' m').1 s';exact⟨w',m',a,b,c,d,e'⟩
theorem uxR {tw tm:List Int} {tv:List (List Int)}(h:TOk tw tm tv):(0≤tw.getD 0 0∧tw.getD (tw.length-1) 0≤40)∧0≤tm.getD 0 0∧tm.getD (tm.length-1) 0≤60:=by
 have a:=h.w2;have b:=h.m2
 have p1:=uat h.rw 0 (by omega)
 have p2:=uat h.rw (tw.length-1) (by omega)
 have p3:=uat h.rm 0 (by omega)
 have p4:=uat h.rm (tm.length-1) (by omega)
 unfold ubm at p1 p2 p3 p4
 omega
theorem usr (tw tm:List Int)(tv:List (List Int))(wl wh ml mh:Int)(hT:TOk tw tm tv)(hB:Box tw tm wl wh ml mh):ua0 Tryz.prog 106 [(.agg [(iS tw),(iS tm),(.sl 1 (.sym fun _=>zi (tv).length) (fun ix=>[(.sl 1 (.sym fun _=>zi ((tv).getD ix.den.toNat []).length) (fun jx=>[(iv fun _=>((tv).getD ix.den.toNat []).getD jx.den.toNat 0)]))]))]),(.agg [(iv fun _=>wl),(iv fun _=>wh)]),(.agg [(iv fun _=>ml),(iv fun _=>mh)])] [] (fun r _=>r=(.agg [(iv fun _=>bLo tw tm tv wl wh ml mh),(iv fun _=>bHi tw tm tv wl wh ml mh)])):=by
 have c95:=fun (i j:Nat) (h:wl+zi i≤wh∧ml+zi j≤mh)=>uAU tw tm tv (wl+zi i) (ml+zi j) ⟨hT,hB.pt (by simp only [uac];omega) h.1 (by simp only [uac];omega) h.2⟩
 have hbd:∀i j:Nat,wl+zi i≤wh→ml+zi j≤mh→0≤atS tw tm tv (wl+(i:Int)) (ml+(j:Int))∧atS tw tm tv (wl+(i:Int)) (ml+(j:Int))≤2000:=fun i j h1 h2=>us3 hT (hB.pt (by omega) h1 (by omega) h2)
 have b1:=hB.w0;have b2:=hB.w1;have b3:=hB.m0;have b4:=hB.m1;have b5:=hB.w;have b6:=hB.m
 have hpr:=uxR hT
 refine ua0.is fun R hR=>qW (sc:=uA4) uai mix Tryz.func106 rfl Tryz.call106 (by kernel_rfl) (by kernel_rfl) ?_
 generalize Tryz.prog=P at c95⊢
 cbv
 obtain⟨p1,p2⟩:=hpr
 repeat' (first|fail)
 all_goals first|skip
 refine⟨none,[],{p:Nat×Int×Int // wl+zi p.1≤wh+1∧Scan (atS tw tm tv) wl ml mh p.1 0 p.2.1 p.2.2},fun x=>⟨[(3,.own 0 0),(4,.own 1 0),(5,.own 2 0),(6,.own 3 0),(7,.own 5 0),(8,(iv fun _=>wl+zi x.1.1))],[(0,.cells [(iS tw),(iS tm),(.sl 1 (.sym fun _=>zi (tv).length) (fun ix=>[(.sl 1 (.sym fun _=>zi ((tv).getD ix.den.toNat []).length) (fun jx=>[(iv fun _=>((tv).getD ix.den.toNat []).getD jx.den.toNat 0)]))]))] 25),(1,.cells [(iv fun _=>wl),(iv fun _=>wh)] 66),(2,.cells [(iv fun _=>ml),(iv fun _=>mh)] 66),(3,.cells [.int .i64 (.lit 0),.int .i64 (.lit 0)] 66),(5,.cells [(iv fun _=>x.1.2.1),(iv fun _=>x.1.2.2)] 66)],60⟩,fun x=>(wh+1-wl).toNat-x.1.1,?_,?_⟩
 ·refine⟨⟨(0,9999,-1),by simp only [uac];omega,uyT _ _ _ _⟩,?_⟩
  cbv
  repeat' (first|with_reducible refine ua4 ?_ ?_|with_reducible refine And.intro ?_ ?_)
  all_goals first|trivial|exact qM (Fit.refl _)|exact qL (qK _)|(refine qM (qE ?_);(try simp only [qV]at *);simp only [zQ,zA,zB,zC,zD,zE,zF,zG,zH,zI,zJ,zK,zL,zM,zN,zO,zP,zR,zS]at *;omega)|(refine qL (qJ ?_);refine qC (qE ?_) rfl (qC (qE ?_) rfl qA)<;>first|rfl|(simp only [enlo,enhi];rfl)|((try simp only [qV]at *);(try simp only [zQ,zA,zB,zC,zD,zE,zF,zG,zH,zI,zJ,zK,zL,zM,zN,zO,zP,zR,zS]at *);omega))|skip
 ·rintro ⟨⟨i,lo,hi⟩,hi2,hs⟩
  cbv
  repeat' (first|with_reducible refine And.intro ?_ ?_|(with_reducible intro hcd;(try simp only [zA,zB,zC,zD,zE,zF,zG,zH,zI,zJ,zK,zL,zM,zN,zO,zP]at hcd);try cbv)|fail)
  all_goals first|(subst hR;(have hu:=(ut3 hs (by((try simp only [qV]at *);(try simp only [zQ,zA,zB,zC,zD,zE,zF,zG,zH,zI,zJ,zK,zL,zM,zN,zO,zP,zR,zS]at *);omega)) hB.w hB.m).unique (uxM hT hB));(repeat' (first|exact qA|exact qE hu.1|exact qE hu.2|refine qC ?_ rfl ?_));done;done)|skip
  refine⟨none,[],{p:Nat×Int×Int // ml+zi p.1≤mh+1∧Scan (atS tw tm tv) wl ml mh i p.1 p.2.1 p.2.2},fun x=>⟨[(3,.own 0 0),(4,.own 1 0),(5,.own 2 0),(6,.own 3 0),(7,.own 5 0),(8,(iv fun _=>wl+zi i)),(9,(iv fun _=>ml+zi x.1.1))],[(0,.cells [(iS tw),(iS tm),(.sl 1 (.sym fun _=>zi (tv).length) (fun ix=>[(.sl 1 (.sym fun _=>zi ((tv).getD ix.den.toNat []).length) (fun jx=>[(iv fun _=>((tv).getD ix.den.toNat []).getD jx.den.toNat 0)]))]))] 25),(1,.cells [(iv fun _=>wl),(iv fun _=>wh)] 66),(2,.cells [(iv fun _=>ml),(iv fun _=>mh)] 66),(3,.cells [.int .i64 (.lit 0),.int .i64 (.lit 0)] 66),(5,.cells [(iv fun _=>x.1.2.1),(iv fun _=>x.1.2.2)] 66)],60⟩,fun x=>(mh+1-ml).toNat-x.1.1,?_,?_⟩
  ·refine⟨⟨(0,lo,hi),by simp only [uac];omega,hs⟩,?_⟩
   cbv
   repeat' (first|with_reducible refine ua4 ?_ ?_|with_reducible refine And.intro ?_ ?_)
   all_goals first|trivial|exact qM (qE (by rfl))|exact qM (Fit.refl _)|exact qL (qK _)|(refine qM (qE ?_);(try simp only [qV]at *);simp only [zQ,zA,zB,zC,zD,zE,zF,zG,zH,zI,zJ,zK,zL,zM,zN,zO,zP,zR,zS]at *;omega)|skip
  ·rintro ⟨⟨j,lo2,hi2⟩,hj,hs2⟩
   cbv
   repeat' (first|with_reducible refine ua4 ?_ ?_|with_reducible refine And.intro ?_ ?_|(with_reducible intro hcd;(try simp only [zA,zB,zC,zD,zE,zF,zG,zH,zI,zJ,zK,zL,zM,zN,zO,zP]at hcd);try cbv)|(refine qP ?_ (c95 i j (show uaj _ from ?_)) ?hfit;(case hfit=>((repeat' (first|exact qB|refine qD ?_ ?_|exact qE (by rfl)|exact qF (by rfl)|exact Fit.refl _|exact qA|refine qC ?_ rfl ?_));done));try cbv)|fail)
   all_goals first|trivial|((try simp only [qV]at *);(try simp only [zQ,zA,zB,zC,zD,zE,zF,zG,zH,zI,zJ,zK,zL,zM,zN,zO,zP,zR,zS]at *);first|(refine qN ?_;omega)|(simp only [uaj];omega))|((try simp only [zQ,zA,zB,zC,zD,zE,zF,zG,zH,zI,zJ,zK,zL,zM,zN,zO,zP,zR,zS]at *);obtain⟨nlo,enlo⟩:∃nlo,nlo=if atS tw tm tv (wl+zi i) (ml+zi j)<lo2 then atS tw tm tv (wl+zi i) (ml+zi j)else lo2:=⟨_,rfl⟩;obtain⟨nhi,enhi⟩:∃nhi,nhi=if atS tw tm tv (wl+zi i) (ml+zi j)>hi2 then atS tw tm tv (wl+zi i) (ml+zi j)else hi2:=⟨_,rfl⟩;refine⟨⟨(j+1,nlo,nhi),by((try simp only [qV]at *);(try simp only [zQ,zA,zB,zC,zD,zE,zF,zG,zH,zI,zJ,zK,zL,zM,zN,zO,zP,zR,zS]at *);omega),by rw [enlo,enhi];exact uoR hs2 (by((try simp only [qV]at *);(try simp only [zQ,zA,zB,zC,zD,zE,zF,zG,zH,zI,zJ,zK,zL,zM,zN,zO,zP,zR,zS]at *);omega)) (hbd i j (by((try simp only [qV]at *);(try simp only [zQ,zA,zB,zC,zD,zE,zF,zG,zH,zI,zJ,zK,zL,zM,zN,zO,zP,zR,zS]at *);omega)) (by((try simp only [qV]at *);(try simp only [zQ,zA,zB,zC,zD,zE,zF,zG,zH,zI,zJ,zK,zL,zM,zN,zO,zP,zR,zS]at *);omega)))⟩,by simp only [];omega,?_⟩;cbv;(repeat' (first|with_reducible refine ua4 ?_ ?_|with_reducible refine And.intro ?_ ?_));(all_goals first|trivial|exact qM (qE (by rfl))|exact qM (qF (by rfl))|exact qM (Fit.refl _)|exact qL (qK _)|(refine qM (qE ?_);(try simp only [qV]at *);simp only [zQ,zA,zB,zC,zD,zE,zF,zG,zH,zI,zJ,zK,zL,zM,zN,zO,zP,zR,zS]at *;omega)|(refine qL (qJ ?_);refine qC (qE ?_) rfl (qC (qE ?_) rfl qA)<;>first|rfl|(simp only [enlo,enhi];rfl)|((try simp only [qV]at *);(try simp only [zQ,zA,zB,zC,zD,zE,zF,zG,zH,zI,zJ,zK,zL,zM,zN,zO,zP,zR,zS]at *);omega))|skip))|((try simp only [zQ,zA,zB,zC,zD,zE,zF,zG,zH,zI,zJ,zK,zL,zM,zN,zO,zP,zR,zS]at *);refine⟨⟨(i+1,lo2,hi2),by((try simp only [qV]at *);(try simp only [zQ,zA,zB,zC,zD,zE,zF,zG,zH,zI,zJ,zK,zL,zM,zN,zO,zP,zR,zS]at *);omega),urm hs2 (by((try simp only [qV]at *);(try simp only [zQ,zA,zB,zC,zD,zE,zF,zG,zH,zI,zJ,zK,zL,zM,zN,zO,zP,zR,zS]at *);omega))⟩,by simp only [];omega,?_⟩;cbv;(repeat' (first|with_reducible refine ua4 ?_ ?_|with_reducible refine And.intro ?_ ?_));(all_goals first|trivial|exact qM (qE (by rfl))|exact qM (qF (by rfl))|exact qM (Fit.refl _)|exact qL (qK _)|(refine qM (qE ?_);(try simp only [qV]at *);simp only [zQ,zA,zB,zC,zD,zE,zF,zG,zH,zI,zJ,zK,zL,zM,zN,zO,zP,zR,zS]at *;omega)|(refine qL (qJ ?_);refine qC (qE ?_) rfl (qC (qE ?_) rfl qA)<;>first|rfl|(simp only [enlo,enhi];rfl)|((try simp only [qV]at *);(try simp only [zQ,zA,zB,zC,zD,zE,zF,zG,zH,zI,zJ,zK,zL,zM,zN,zO,zP,zR,zS]at *);omega))|skip))|skip
end Go.Proofs.YtkdggbfknlcdaaaGreat
namespace Go.Proofs.YtkdggbfknlcdaaaGreat
open Go Go.Eng Go.Proofs Go.Eng.Dif Go.Eng.Few
set_option maxRecDepth 10000
set_option maxHeartbeats 2000000 in
theorem udm (d:Dsp)(hT:ThinT d.tw d.tm d.tv)(h1:d.ls.length≤1000)(h2:d.fs.length≤1000):ua0 Tryz.prog 12 [(ub0 d)] [] (fun r _=>r=(ub0 d)):=by
 have c46:=uvI d.tw d.tm d.tv hT
 have c18:= @uyo
 refine ua0.is fun R hR=>qW (sc:=uC2) uai mix Tryz.func12 rfl Tryz.call12 (by kernel_rfl) (by kernel_rfl) ?_
 generalize Tryz.prog=P at c46 c18⊢
 cbv
 repeat' (first|(refine qP ?_ (c46) ?hfit;(case hfit=>((repeat' (first|exact qB|refine qD ?_ ?_|exact qE (by rfl)|exact qF (by rfl)|exact Fit.refl _|exact qA|refine qC ?_ rfl ?_));done));try cbv)|fail)
 all_goals first|skip
 refine⟨none,[⟨.cell 10 5,102,4⟩],{i:Nat // i≤d.ls.length},fun x=>⟨[(1,.own 0 0),(2,.own 1 0),(3,.own 10 0),(4,(iv fun _=>zi x.1))],[(0,.cells [(iS d.tw),(iS d.tm),(.sl 1 (.sym fun _=>zi (d.tv).length) (fun ix=>[(.sl 1 (.sym fun _=>zi ((d.tv).getD ix.den.toNat []).length) (fun jx=>[(iv fun _=>((d.tv).getD ix.den.toNat []).getD jx.den.toNat 0)]))])),(iv fun _=>d.sn),(iv fun _=>d.pn),(.sl 4 (.sym fun _=>zi (d.ls).length) (fun ix=>[(iv fun _=>((d.ls).getD ix.den.toNat l0T).a),(iv fun _=>((d.ls).getD ix.den.toNat l0T).b),(iv fun _=>((d.ls).getD ix.den.toNat l0T).lo),(iv fun _=>((d.ls).getD ix.den.toNat l0T).hi)])),(.sl 6 (.sym fun _=>zi (d.fs).length) (fun ix=>[(iv fun _=>((d.fs).getD ix.den.toNat f0T).p),(iv fun _=>((d.fs).getD ix.den.toNat f0T).s),(iv fun _=>((d.fs).getD ix.den.toNat f0T).wl),(iv fun _=>((d.fs).getD ix.den.toNat f0T).wh),(iv fun _=>((d.fs).getD ix.den.toNat f0T).ml),(iv fun _=>((d.fs).getD ix.den.toNat f0T).mh)]))] 29),(1,.cells [.val (Value.slice none 0 0),.val (Value.slice none 0 0),.val (Value.slice none 0 0),.int .i64 (.lit 0),.int .i64 (.lit 0),.val (Value.slice none 0 0),.val (Value.slice none 0 0)] 39),(10,.cells [(iS d.tw),(iS d.tm),(.sl 1 (.sym fun _=>zi (d.tv).length) (fun ix=>[(.sl 1 (.sym fun _=>zi ((d.tv).getD ix.den.toNat []).length) (fun jx=>[(iv fun _=>((d.tv).getD ix.den.toNat []).getD jx.den.toNat 0)]))])),(iv fun _=>d.sn),(iv fun _=>d.pn),.row 13,.val (Value.slice none 0 0)] 39),(13,.row 102 4 (.sym fun _=>zi x.1) (fun ix=>[(iv fun _=>(d.ls.getD ix.den.toNat l0T).a),(iv fun _=>(d.ls.getD ix.den.toNat l0T).b),(iv fun _=>(d.ls.getD ix.den.toNat l0T).lo),(iv fun _=>(d.ls.getD ix.den.toNat l0T).hi)]))],120⟩,fun x=>d.ls.length-x.1,?_,?_⟩
 ·refine⟨⟨0,by omega⟩,?_⟩
  cbv
  repeat' (first|with_reducible refine ua4 ?_ ?_|with_reducible refine And.intro ?_ ?_)
  all_goals first|trivial|exact qM (qE (by rfl))|exact qM (Fit.refl _)|exact qL (qK _)|(refine qL (uae ?_ ?_);(first|rfl|((try simp only [qV]at *);(try simp only [zQ,zA,zB,zC,zD,zE,zF,zG,zH,zI,zJ,zK,zL,zM,zN,zO,zP,zR,zS]at *);omega));intro ix h0 h1;exfalso;(try simp only [qV]at *);(try simp only [zQ,zA,zB,zC,zD,zE,zF,zG,zH,zI,zJ,zK,zL,zM,zN,zO,zP,zR,zS]at *);omega)|skip
 ·rintro ⟨i,hi⟩
  cbv
  repeat' (first
   |with_reducible refine ua4 ?_ ?_
   |with_reducible refine And.intro ?_ ?_
   |(with_reducible intro hcd;(try simp only [zA,zB,zC,zD,zE,zF,zG,zH,zI,zJ,zK,zL,zM,zN,zO,zP]at hcd);try cbv)
   |(refine qP ?_ (c18 _ _) (by(repeat' (first|exact qB|refine qD ?_ ?_|exact qE (by rfl)|exact qF (by rfl)|exact Fit.refl _|exact qA|refine qC ?_ rfl ?_)));try cbv)
   | (refine⟨fun ix=>[(iv fun _=>(d.ls.getD ix.den.toNat l0T).a),(iv fun _=>(d.ls.getD ix.den.toNat l0T).b),(iv fun _=>(d.ls.getD ix.den.toNat l0T).lo),(iv fun _=>(d.ls.getD ix.den.toNat l0T).hi)],?_⟩
      cbv
      refine ua4 (ub9 (by intro ix jx h0 h1 h2;simp only [h2];exact Fit.refl _) (by intro ix jx h0 h1 h2;(have h3:jx.den.toNat=i:=by((try simp only [qV]at *);(try simp only [zQ,zA,zB,zC,zD,zE,zF,zG,zH,zI,zJ,zK,zL,zM,zN,zO,zP,zR,zS]at *);omega));simp only [h3];exact(qC (qE rfl) rfl (qC (qE rfl) rfl (qC (qE rfl) rfl (qC (qE rfl) rfl qA))))) (by(try simp only [qV]at *);(try simp only [zQ,zA,zB,zC,zD,zE,zF,zG,zH,zI,zJ,zK,zL,zM,zN,zO,zP,zR,zS]at *);omega)) (Or.inl ?_)
      try cbv)
   |fail)
  all_goals first|((try simp only [qV]at *);(try simp only [zQ,zA,zB,zC,zD,zE,zF,zG,zH,zI,zJ,zK,zL,zM,zN,zO,zP,zR,zS]at *);first|(refine qN ?_;omega)|(simp only [uaj];omega))|((try simp only [zQ,zA,zB,zC,zD,zE,zF,zG,zH,zI,zJ,zK,zL,zM,zN,zO,zP,zR,zS]at *);refine⟨⟨i+1,by omega⟩,by simp only [];omega,?_⟩;cbv;(repeat' (first|with_reducible refine ua4 ?_ ?_|with_reducible refine And.intro ?_ ?_));(all_goals first|trivial|exact qM (qE (by rfl))|exact qM (qF (by rfl))|exact qM (Fit.refl _)|exact qL (qK _)|(refine qM (qE ?_);(try simp only [qV]at *);simp only [zQ,zA,zB,zC,zD,zE,zF,zG,zH,zI,zJ,zK,zL,zM,zN,zO,zP,zR,zS]at *;omega)|(refine qL (qJ ?_);(repeat' (first|exact qA|exact qB|refine qC ?_ rfl ?_|refine qD ?_ ?_|exact qE (by rfl)|exact qF (by rfl)|exact Fit.refl _|exact qG _|(refine qE ?_;(try simp only [qV]at *);simp only [zQ,zA,zB,zC,zD,zE,zF,zG,zH,zI,zJ,zK,zL,zM,zN,zO,zP,zR,zS]at *;omega)));done)|(refine qL (uae ?_ ?_)<;>first|rfl|((try simp only [qV]at *);(try simp only [zQ,zA,zB,zC,zD,zE,zF,zG,zH,zI,zJ,zK,zL,zM,zN,zO,zP,zR,zS]at *);omega)|(intro ix h0 h1;exact Fit.refl _))|skip))|skip
  have hil:i=d.ls.length:=(by((try simp only [qV]at *);(try simp only [zQ,zA,zB,zC,zD,zE,zF,zG,zH,zI,zJ,zK,zL,zM,zN,zO,zP,zR,zS]at *);omega))
  subst hil
  refine⟨none,[⟨.cell 10 6,106,6⟩],{j:Nat // j≤d.fs.length},fun x=>⟨[(1,.own 0 0),(2,.own 1 0),(3,.own 10 0),(5,(iv fun _=>zi x.1))],[(0,.cells [(iS d.tw),(iS d.tm),(.sl 1 (.sym fun _=>zi (d.tv).length) (fun ix=>[(.sl 1 (.sym fun _=>zi ((d.tv).getD ix.den.toNat []).length) (fun jx=>[(iv fun _=>((d.tv).getD ix.den.toNat []).getD jx.den.toNat 0)]))])),(iv fun _=>d.sn),(iv fun _=>d.pn),(.sl 4 (.sym fun _=>zi (d.ls).length) (fun ix=>[(iv fun _=>((d.ls).getD ix.den.toNat l0T).a),(iv fun _=>((d.ls).getD ix.den.toNat l0T).b),(iv fun _=>((d.ls).getD ix.den.toNat l0T).lo),(iv fun _=>((d.ls).getD ix.den.toNat l0T).hi)])),(.sl 6 (.sym fun _=>zi (d.fs).length) (fun ix=>[(iv fun _=>((d.fs).getD ix.den.toNat f0T).p),(iv fun _=>((d.fs).getD ix.den.toNat f0T).s),(iv fun _=>((d.fs).getD ix.den.toNat f0T).wl),(iv fun _=>((d.fs).getD ix.den.toNat f0T).wh),(iv fun _=>((d.fs).getD ix.den.toNat f0T).ml),(iv fun _=>((d.fs).getD ix.den.toNat f0T).mh)]))] 29),(1,.cells [.val (Value.slice none 0 0),.val (Value.slice none 0 0),.val (Value.slice none 0 0),.int .i64 (.lit 0),.int .i64 (.lit 0),.val (Value.slice none 0 0),.val (Value.slice none 0 0)] 39),(10,.cells [(iS d.tw),(iS d.tm),(.sl 1 (.sym fun _=>zi (d.tv).length) (fun ix=>[(.sl 1 (.sym fun _=>zi ((d.tv).getD ix.den.toNat []).length) (fun jx=>[(iv fun _=>((d.tv).getD ix.den.toNat []).getD jx.den.toNat 0)]))])),(iv fun _=>d.sn),(iv fun _=>d.pn),.row 13,.row 126] 39),(13,.row 102 4 (.sym fun _=>zi d.ls.length) (fun ix=>[(iv fun _=>(d.ls.getD ix.den.toNat l0T).a),(iv fun _=>(d.ls.getD ix.den.toNat l0T).b),(iv fun _=>(d.ls.getD ix.den.toNat l0T).lo),(iv fun _=>(d.ls.getD ix.den.toNat l0T).hi)])),(126,.row 106 6 (.sym fun _=>zi x.1) (fun ix=>[(iv fun _=>(d.fs.getD ix.den.toNat f0T).p),(iv fun _=>(d.fs.getD ix.den.toNat f0T).s),(iv fun _=>(d.fs.getD ix.den.toNat f0T).wl),(iv fun _=>(d.fs.getD ix.den.toNat f0T).wh),(iv fun _=>(d.fs.getD ix.den.toNat f0T).ml),(iv fun _=>(d.fs.getD ix.den.toNat f0T).mh)]))],200⟩,fun x=>d.fs.length-x.1,?_,?_⟩
  ·refine⟨⟨0,by omega⟩,?_⟩
   cbv
   repeat' (first|with_reducible refine ua4 ?_ ?_|with_reducible refine And.intro ?_ ?_)
   all_goals first|trivial|exact qM (qE (by rfl))|exact qM (Fit.refl _)|exact qL (qK _)|(refine qL (uae ?_ ?_);(first|rfl|((try simp only [qV]at *);(try simp only [zQ,zA,zB,zC,zD,zE,zF,zG,zH,zI,zJ,zK,zL,zM,zN,zO,zP,zR,zS]at *);omega));intro ix h0 h1;exfalso;(try simp only [qV]at *);(try simp only [zQ,zA,zB,zC,zD,zE,zF,zG,zH,zI,zJ,zK,zL,zM,zN,zO,zP,zR,zS]at *);omega)|skip
  ·rintro ⟨j,hj⟩
   cbv
   repeat' (first
    |with_reducible refine ua4 ?_ ?_
    |with_reducible refine And.intro ?_ ?_
    |(with_reducible intro hcd;(try simp only [zA,zB,zC,zD,zE,zF,zG,zH,zI,zJ,zK,zL,zM,zN,zO,zP]at hcd);try cbv)
    |(refine qP ?_ (c18 _ _) (by(repeat' (first|exact qB|refine qD ?_ ?_|exact qE (by rfl)|exact qF (by rfl)|exact Fit.refl _|exact qA|refine qC ?_ rfl ?_)));try cbv)
    | (refine⟨fun ix=>[(iv fun _=>(d.fs.getD ix.den.toNat f0T).p),(iv fun _=>(d.fs.getD ix.den.toNat f0T).s),(iv fun _=>(d.fs.getD ix.den.toNat f0T).wl),(iv fun _=>(d.fs.getD ix.den.toNat f0T).wh),(iv fun _=>(d.fs.getD ix.den.toNat f0T).ml),(iv fun _=>(d.fs.getD ix.den.toNat f0T).mh)],?_⟩
       cbv
       refine ua4 (ub9 (by intro ix jx h0 h1 h2;simp only [h2];exact Fit.refl _) (by intro ix jx h0 h1 h2;(have h3:jx.den.toNat=j:=by((try simp only [qV]at *);(try simp only [zQ,zA,zB,zC,zD,zE,zF,zG,zH,zI,zJ,zK,zL,zM,zN,zO,zP,zR,zS]at *);omega));simp only [h3];exact(qC (qE rfl) rfl (qC (qE rfl) rfl (qC (qE rfl) rfl (qC (qE rfl) rfl (qC (qE rfl) rfl (qC (qE rfl) rfl qA))))))) (by(try simp only [qV]at *);(try simp only [zQ,zA,zB,zC,zD,zE,zF,zG,zH,zI,zJ,zK,zL,zM,zN,zO,zP,zR,zS]at *);omega)) (Or.inl ?_)
       try cbv)
    |fail)
   all_goals first|((try simp only [qV]at *);(try simp only [zQ,zA,zB,zC,zD,zE,zF,zG,zH,zI,zJ,zK,zL,zM,zN,zO,zP,zR,zS]at *);first|(refine qN ?_;omega)|(simp only [uaj];omega))|((have hit:j=d.fs.length:=(by((try simp only [qV]at *);(try simp only [zQ,zA,zB,zC,zD,zE,zF,zG,zH,zI,zJ,zK,zL,zM,zN,zO,zP,zR,zS]at *);omega)));subst hR;subst hit;exact Fit.refl _)|((try simp only [zQ,zA,zB,zC,zD,zE,zF,zG,zH,zI,zJ,zK,zL,zM,zN,zO,zP,zR,zS]at *);refine⟨⟨j+1,by omega⟩,by simp only [];omega,?_⟩;cbv;(repeat' (first|with_reducible refine ua4 ?_ ?_|with_reducible refine And.intro ?_ ?_));(all_goals first|trivial|exact qM (qE (by rfl))|exact qM (qF (by rfl))|exact qM (Fit.refl _)|exact qL (qK _)|(refine qM (qE ?_);(try simp only [qV]at *);simp only [zQ,zA,zB,zC,zD,zE,zF,zG,zH,zI,zJ,zK,zL,zM,zN,zO,zP,zR,zS]at *;omega)|(refine qL (qJ ?_);(repeat' (first|exact qA|exact qB|refine qC ?_ rfl ?_|refine qD ?_ ?_|exact qE (by rfl)|exact qF (by rfl)|exact Fit.refl _|exact qG _|(refine qE ?_;(try simp only [qV]at *);simp only [zQ,zA,zB,zC,zD,zE,zF,zG,zH,zI,zJ,zK,zL,zM,zN,zO,zP,zR,zS]at *;omega)));done)|(refine qL (uae ?_ ?_)<;>first|rfl|((try simp only [qV]at *);(try simp only [zQ,zA,zB,zC,zD,zE,zF,zG,zH,zI,zJ,zK,zL,zM,zN,zO,zP,zR,zS]at *);omega)|(intro ix h0 h1;exact Fit.refl _))|skip))|skip
def udV (d:Dsp):Bool:=uln d.tw d.tm d.tv&&(decide (d.ls.length≤7)&&decide (d.fs.length≤9))
theorem ufF {d:Dsp}:udV d=true↔ThinT d.tw d.tm d.tv∧d.ls.length≤7∧d.fs.length≤9:=by
 unfold udV
 rw [Bool.and_eq_true,Bool.and_eq_true,decide_eq_true_eq,decide_eq_true_eq,ufl]
theorem uuz {d:Dsp}(h:uln d.tw d.tm d.tv=false):udV d=false:=by unfold udV;rw [h];rfl
theorem uvk {d:Dsp}(h:uln d.tw d.tm d.tv=true)(h':¬d.ls.length≤7):udV d=false:=by unfold udV;rw [h,decide_eq_false h'];rfl
theorem uv4 {d:Dsp}(h:uln d.tw d.tm d.tv=true)(h':d.ls.length≤7):udV d=decide (d.fs.length≤9):=by unfold udV;rw [h,decide_eq_true h'];rfl
theorem ugd (d:Dsp):ua0 Tryz.prog 9 [(ub0 d)] [] (fun r _=>r=(bv fun _=>udV d)):=by
 have c42:=uy1 d.tw d.tm d.tv
 refine ua0.is fun R hR=>qW (sc:=sc9) uai mix Tryz.func9 rfl Tryz.call9 (by kernel_rfl) (by kernel_rfl) ?_
 generalize Tryz.prog=P at c42⊢
 cbv
 repeat' (first|with_reducible refine And.intro ?_ ?_|(with_reducible intro hcd;(try simp only [zA,zB,zC,zD,zE,zF,zG,zH,zI,zJ,zK,zL,zM,zN,zO,zP]at hcd);try cbv)|(refine qP ?_ (c42) ?hfit;(case hfit=>((repeat' (first|exact qB|refine qD ?_ ?_|exact qE (by rfl)|exact qF (by rfl)|exact Fit.refl _|exact qA|refine qC ?_ rfl ?_));done));try cbv)|fail)
 all_goals first|(subst hR;(refine qF ?_;(try simp only [qV]at *);(try simp only [zQ,zA,zB,zC,zD,zE,zF,zG,zH,zI,zJ,zK,zL,zM,zN,zO,zP,zR,zS]at *);(try simp only [uah,uak,uav,uaE,uaJ,uaM,ua8,uaa,ua9,uab]at *);first|exact(uuz (by assumption)).symm|exact(uvk (by assumption) (by omega)).symm|(rw [uv4 (by assumption) (by omega)];first|rfl|(apply Bool.eq_iff_iff.2;simp only [decide_eq_true_eq];omega)));done)|skip
theorem usI (a b:Int)(l:List Int)(h:1≤l.length∧l.length≤1000):ua0 Tryz.prog 97 [(iS l),(.agg [(iv fun _=>a),(iv fun _=>b)])] [] (fun r _=>r=(bv fun _=>ofB (l.getD 0 0) a b (l.getD (l.length-1) 0))):=by
 have c25:=uwD l h
 refine ua0.is fun R hR=>qW (sc:=uB7) uai mix Tryz.func97 rfl Tryz.call97 (by kernel_rfl) (by kernel_rfl) ?_
 generalize Tryz.prog=P at c25⊢
 cbv
 repeat' (first|with_reducible refine ua4 ?_ ?_|with_reducible refine And.intro ?_ ?_|(with_reducible intro hcd;(try simp only [zA,zB,zC,zD,zE,zF,zG,zH,zI,zJ,zK,zL,zM,zN,zO,zP]at hcd);try cbv)|(refine qP ?_ (c25) ?hfit;(case hfit=>((repeat' (first|exact qB|refine qD ?_ ?_|exact qE (by rfl)|exact qF (by rfl)|exact Fit.refl _|exact qA|refine qC ?_ rfl ?_));done));try cbv)|fail)
 all_goals first|((try simp only [qV]at *);(try simp only [zQ,zA,zB,zC,zD,zE,zF,zG,zH,zI,zJ,zK,zL,zM,zN,zO,zP,zR,zS,uah,uak,uav,uaE,uaJ,uaM,ua8,uaa,ua9,uab]at *);first|(refine qN ?_;omega)|(simp only [uaj];omega))|(subst hR;(refine qF ?_;(try simp only [qV]at *);(try simp only [zQ,zA,zB,zC,zD,zE,zF,zG,zH,zI,zJ,zK,zL,zM,zN,zO,zP,zR,zS]at *);(try simp only [uah,uak,uav,uaE,uaJ,uaM,ua8,uaa,ua9,uab]at *);(try simp only [show Int.toNat 0=0 from rfl]at *);apply Bool.eq_iff_iff.2;simp only [uaJ,uah,uak,uav,uaE,uaJ,uaM,ua8,uaa,ua9,uab,Bool.and_eq_true,Bool.or_eq_true,Bool.not_eq_true',decide_eq_true_eq,decide_eq_false_iff_not,Bool.false_eq_true,reduceCtorEq,Bool.true_and,Bool.and_true,Bool.false_and,Bool.and_false,iff_true,true_iff,Bool.not_true,Bool.not_false]at *;constructor<;>intro q<;>first|omega|(exact q.elim)|(exact absurd q (by omega)));done)|skip
theorem uwO (n lo hi:Int):(decide (lo≤n)&&decide (n≤hi))=inB lo n hi:=by
 apply Bool.eq_iff_iff.2
 rw [uav,Bool.and_eq_true,decide_eq_true_eq,decide_eq_true_eq]
theorem uth (n lo hi:Int):ua0 Tryz.prog 22 [(iv fun _=>n),(iv fun _=>lo),(iv fun _=>hi)] [] (fun r _=>r=(bv fun _=>inB lo n hi)):=by
 have:=uyO n lo hi
 simp only [uwO]at this
 exact this
set_option maxHeartbeats 1000000 in
theorem uv3 (d:Dsp):ua0 Tryz.prog 58 [(ub0 d)] [] (fun r _=>r=(iv fun _=>ua5 d)):=by
 have c75:=uvE d.tw d.tm d.tv
 have c17:= @uth
 have c76:= @usI
 have hwm:=fun h:ubO d.tw d.tm d.tv=0=>udP h
 refine ua0.is fun R hR=>qW (sc:=uC0) uai mix Tryz.func58 rfl Tryz.call58 (by kernel_rfl) (by kernel_rfl) ?_
 generalize Tryz.prog=P at c75 c17 c76⊢
 cbv
 repeat' (first|with_reducible refine And.intro ?_ ?_|(with_reducible intro hcd;(try simp only [zA,zB,zC,zD,zE,zF,zG,zH,zI,zJ,zK,zL,zM,zN,zO,zP]at hcd);try cbv)|(refine qP ?_ (c75) ?hfit;(case hfit=>((repeat' (first|exact qB|refine qD ?_ ?_|exact qE (by rfl)|exact qF (by rfl)|exact Fit.refl _|exact qA|refine qC ?_ rfl ?_));done));try cbv)|fail)
 all_goals first|(subst hR;(refine qE ?_;(try simp only [qV]at *);(try simp only [zQ,zA,zB,zC,zD,zE,zF,zG,zH,zI,zJ,zK,zL,zM,zN,zO,zP,zR,zS]at *);exact(uhg (by first|assumption|omega)).symm);done)|(subst hR;(refine qE ?_;(try simp only [qV]at *);(try simp only [zQ,zA,zB,zC,zD,zE,zF,zG,zH,zI,zJ,zK,zL,zM,zN,zO,zP,zR,zS]at *);exact(ufU (by first|assumption|omega) (by unfold ueD;omega)).symm);done)|(subst hR;(refine qE ?_;(try simp only [qV]at *);(try simp only [zQ,zA,zB,zC,zD,zE,zF,zG,zH,zI,zJ,zK,zL,zM,zN,zO,zP,zR,zS]at *);exact(uf3 (by first|assumption|omega) (by unfold ueD;omega) (fun g=>by have a1:=g.1;have a2:=g.2.1;omega)).symm);done)|skip
 have hF:ubO d.tw d.tm d.tv=0:=by((try simp only [qV]at *);(try simp only [zQ,zA,zB,zC,zD,zE,zF,zG,zH,zI,zJ,zK,zL,zM,zN,zO,zP,zR,zS]at *);first|assumption|omega)
 have hm:¬ueD d:=by unfold ueD;((try simp only [qV]at *);(try simp only [zQ,zA,zB,zC,zD,zE,zF,zG,zH,zI,zJ,zK,zL,zM,zN,zO,zP,zR,zS]at *);omega)
 have hs1:1≤d.sn:=by((try simp only [qV]at *);(try simp only [zQ,zA,zB,zC,zD,zE,zF,zG,zH,zI,zJ,zK,zL,zM,zN,zO,zP,zR,zS]at *);omega)
 have hp1:1≤d.pn:=by((try simp only [qV]at *);(try simp only [zQ,zA,zB,zC,zD,zE,zF,zG,zH,zI,zJ,zK,zL,zM,zN,zO,zP,zR,zS]at *);omega)
 have hT:=hwm hF
 have hw2:=hT.w2
 have hw5:=hT.w5
 have hm2:=hT.m2
 have hm5:=hT.m5
 have hsm:d.sn≤3:=by((try simp only [qV]at *);(try simp only [zQ,zA,zB,zC,zD,zE,zF,zG,zH,zI,zJ,zK,zL,zM,zN,zO,zP,zR,zS]at *);omega)
 have hpm:d.pn≤4:=by((try simp only [qV]at *);(try simp only [zQ,zA,zB,zC,zD,zE,zF,zG,zH,zI,zJ,zK,zL,zM,zN,zO,zP,zR,zS]at *);omega)
 have c76w:=fun (a b:Int)=>c76 a b d.tw ⟨by omega,by omega⟩
 have c76m:=fun (a b:Int)=>c76 a b d.tm ⟨by omega,by omega⟩
 refine⟨none,[],{i:Nat // i≤d.ls.length∧∀k,k<i→ucy d.sn (d.ls.getD k l0T)},fun x=>⟨[(1,.own 0 0),(4,(iv fun _=>zi x.1))],[(0,.cells [(iS d.tw),(iS d.tm),(.sl 1 (.sym fun _=>zi (d.tv).length) (fun ix=>[(.sl 1 (.sym fun _=>zi ((d.tv).getD ix.den.toNat []).length) (fun jx=>[(iv fun _=>((d.tv).getD ix.den.toNat []).getD jx.den.toNat 0)]))])),(iv fun _=>d.sn),(iv fun _=>d.pn),(.sl 4 (.sym fun _=>zi (d.ls).length) (fun ix=>[(iv fun _=>((d.ls).getD ix.den.toNat l0T).a),(iv fun _=>((d.ls).getD ix.den.toNat l0T).b),(iv fun _=>((d.ls).getD ix.den.toNat l0T).lo),(iv fun _=>((d.ls).getD ix.den.toNat l0T).hi)])),(.sl 6 (.sym fun _=>zi (d.fs).length) (fun ix=>[(iv fun _=>((d.fs).getD ix.den.toNat f0T).p),(iv fun _=>((d.fs).getD ix.den.toNat f0T).s),(iv fun _=>((d.fs).getD ix.den.toNat f0T).wl),(iv fun _=>((d.fs).getD ix.den.toNat f0T).wh),(iv fun _=>((d.fs).getD ix.den.toNat f0T).ml),(iv fun _=>((d.fs).getD ix.den.toNat f0T).mh)]))] 29)],100⟩,fun x=>d.ls.length-x.1,?_,?_⟩
 ·refine⟨⟨0,by omega,fun k hk=>by omega⟩,?_⟩
  cbv
  repeat' (first|with_reducible refine ua4 ?_ ?_|with_reducible refine And.intro ?_ ?_)
  all_goals first|trivial|exact qM (qE (by rfl))|exact qM (Fit.refl _)|exact qL (qK _)|skip
 ·rintro ⟨i,hi,hq⟩
  cbv
  repeat' (first|with_reducible refine ua4 ?_ ?_|with_reducible refine And.intro ?_ ?_|(with_reducible intro hcd;(try simp only [zA,zB,zC,zD,zE,zF,zG,zH,zI,zJ,zK,zL,zM,zN,zO,zP]at hcd);try cbv)|(refine qP ?_ (c17 _ _ _) (by(repeat' (first|exact qB|refine qD ?_ ?_|exact qE (by rfl)|exact qF (by rfl)|exact Fit.refl _|exact qA|refine qC ?_ rfl ?_)));try cbv)|fail)
  all_goals first|((try simp only [qV]at *);(try simp only [zQ,zA,zB,zC,zD,zE,zF,zG,zH,zI,zJ,zK,zL,zM,zN,zO,zP,zR,zS,uah,uak,uav,uaE,uaJ,uaM,ua8,uaa,ua9,uab]at *);first|(refine qN ?_;omega)|(simp only [uaj];omega))|(subst hR;(refine qE ?_;(try simp only [qV]at *);(try simp only [zQ,zA,zB,zC,zD,zE,zF,zG,zH,zI,zJ,zK,zL,zM,zN,zO,zP,zR,zS]at *);(try simp only [uah,uak,uav,uaE,uaJ,uaM,ua8,uaa,ua9,uab]at *);exact(uf3 hF hm (fun g=>by have g:=ufn.1 g;have q:=g.2.2.1 i (by omega);unfold ucy at q;omega)).symm);done)|((try simp only [zQ,zA,zB,zC,zD,zE,zF,zG,zH,zI,zJ,zK,zL,zM,zN,zO,zP,zR,zS,uah,uak,uav,uaE,uaJ,uaM,ua8,uaa,ua9,uab]at *);refine⟨⟨i+1,by omega,fun k hk=>(Nat.lt_or_ge k i).elim (hq k) fun q=>by rw [show k=i by omega];unfold ucy;omega⟩,by simp only [];omega,?_⟩;cbv;(repeat' (first|with_reducible refine ua4 ?_ ?_|with_reducible refine And.intro ?_ ?_));(all_goals first|trivial|exact qM (qE (by rfl))|exact qM (qF (by rfl))|exact qM (Fit.refl _)|exact qL (qK _)|(refine qM (qE ?_);(try simp only [qV]at *);simp only [zQ,zA,zB,zC,zD,zE,zF,zG,zH,zI,zJ,zK,zL,zM,zN,zO,zP,zR,zS]at *;omega)|(refine qL (qJ ?_);(repeat' (first|exact qA|exact qB|refine qC ?_ rfl ?_|refine qD ?_ ?_|exact qE (by rfl)|exact qF (by rfl)|exact Fit.refl _|exact qG _|(refine qE ?_;(try simp only [qV]at *);simp only [zQ,zA,zB,zC,zD,zE,zF,zG,zH,zI,zJ,zK,zL,zM,zN,zO,zP,zR,zS]at *;omega)));done)|skip))|skip
  have hq:∀k,k<d.ls.length→ucy d.sn (d.ls.getD k l0T):=fun k hk=>hq k (by((try simp only [qV]at *);(try simp only [zQ,zA,zB,zC,zD,zE,zF,zG,zH,zI,zJ,zK,zL,zM,zN,zO,zP,zR,zS]at *);omega))
  refine⟨none,[],{j:Nat // j≤d.fs.length∧∀k,k<j→ubS d (d.fs.getD k f0T)},fun x=>⟨[(1,.own 0 0),(6,(iv fun _=>zi x.1))],[(0,.cells [(iS d.tw),(iS d.tm),(.sl 1 (.sym fun _=>zi (d.tv).length) (fun ix=>[(.sl 1 (.sym fun _=>zi ((d.tv).getD ix.den.toNat []).length) (fun jx=>[(iv fun _=>((d.tv).getD ix.den.toNat []).getD jx.den.toNat 0)]))])),(iv fun _=>d.sn),(iv fun _=>d.pn),(.sl 4 (.sym fun _=>zi (d.ls).length) (fun ix=>[(iv fun _=>((d.ls).getD ix.den.toNat l0T).a),(iv fun _=>((d.ls).getD ix.den.toNat l0T).b),(iv fun _=>((d.ls).getD ix.den.toNat l0T).lo),(iv fun _=>((d.ls).getD ix.den.toNat l0T).hi)])),(.sl 6 (.sym fun _=>zi (d.fs).length) (fun ix=>[(iv fun _=>((d.fs).getD ix.den.toNat f0T).p),(iv fun _=>((d.fs).getD ix.den.toNat f0T).s),(iv fun _=>((d.fs).getD ix.den.toNat f0T).wl),(iv fun _=>((d.fs).getD ix.den.toNat f0T).wh),(iv fun _=>((d.fs).getD ix.den.toNat f0T).ml),(iv fun _=>((d.fs).getD ix.den.toNat f0T).mh)]))] 29)],200⟩,fun x=>d.fs.length-x.1,?_,?_⟩
  ·refine⟨⟨0,by omega,fun k hk=>by omega⟩,?_⟩
   cbv
   repeat' (first|with_reducible refine ua4 ?_ ?_|with_reducible refine And.intro ?_ ?_)
   all_goals first|trivial|exact qM (qE (by rfl))|exact qM (Fit.refl _)|exact qL (qK _)|skip
  ·rintro ⟨j,hj,hr⟩
   cbv
   repeat' (first|with_reducible refine ua4 ?_ ?_|with_reducible refine And.intro ?_ ?_|(with_reducible intro hcd;(try simp only [zA,zB,zC,zD,zE,zF,zG,zH,zI,zJ,zK,zL,zM,zN,zO,zP]at hcd);try cbv)|(refine qP ?_ (c17 _ _ _) (by(repeat' (first|exact qB|refine qD ?_ ?_|exact qE (by rfl)|exact qF (by rfl)|exact Fit.refl _|exact qA|refine qC ?_ rfl ?_)));try cbv)|(refine qP ?_ (c76w (d.fs.getD j f0T).wl (d.fs.getD j f0T).wh) ?hfit;(case hfit=>((repeat' (first|exact qB|refine qD ?_ ?_|exact qE (by rfl)|exact qF (by rfl)|exact Fit.refl _|exact qA|refine qC ?_ rfl ?_));done));try cbv)|(refine qP ?_ (c76m (d.fs.getD j f0T).ml (d.fs.getD j f0T).mh) ?hfit;(case hfit=>((repeat' (first|exact qB|refine qD ?_ ?_|exact qE (by rfl)|exact qF (by rfl)|exact Fit.refl _|exact qA|refine qC ?_ rfl ?_));done));try cbv)|fail)
   all_goals first|((try simp only [qV]at *);(try simp only [zQ,zA,zB,zC,zD,zE,zF,zG,zH,zI,zJ,zK,zL,zM,zN,zO,zP,zR,zS,uah,uak,uav,uaE,uaJ,uaM,ua8,uaa,ua9,uab]at *);first|(refine qN ?_;omega)|(simp only [uaj];omega))|(subst hR;(refine qE ?_;(try simp only [qV]at *);(try simp only [zQ,zA,zB,zC,zD,zE,zF,zG,zH,zI,zJ,zK,zL,zM,zN,zO,zP,zR,zS]at *);(try simp only [uah,uak,uav,uaE,uaJ,uaM,ua8,uaa,ua9,uab]at *);exact(uf3 hF hm (fun g=>by have g:=ufn.1 g;have q:=g.2.2.2 j (by omega);unfold ubS at q;first|omega|(rw [show ofB (d.tw.getD 0 0) (d.fs.getD j f0T).wl (d.fs.getD j f0T).wh (d.tw.getD (d.tw.length-1) 0)=false by assumption]at *;omega))).symm);done)|(subst hR;(refine qE ?_;(try simp only [qV]at *);(try simp only [zQ,zA,zB,zC,zD,zE,zF,zG,zH,zI,zJ,zK,zL,zM,zN,zO,zP,zR,zS]at *);(try simp only [uah,uak,uav,uaE,uaJ,uaM,ua8,uaa,ua9,uab]at *);exact(uhi hF hm (ufn.2 ⟨hs1,hp1,fun k hk=>hq k (by omega),fun k hk=>hr k (by omega)⟩)).symm);done)|((try simp only [zQ,zA,zB,zC,zD,zE,zF,zG,zH,zI,zJ,zK,zL,zM,zN,zO,zP,zR,zS,uah,uak,uav,uaE,uaJ,uaM,ua8,uaa,ua9,uab]at *);refine⟨⟨j+1,by omega,fun k hk=>(Nat.lt_or_ge k j).elim (hr k) fun q=>by rw [show k=j by omega];unfold ubS;omega⟩,by simp only [];omega,?_⟩;cbv;(repeat' (first|with_reducible refine ua4 ?_ ?_|with_reducible refine And.intro ?_ ?_));(all_goals first|trivial|exact qM (qE (by rfl))|exact qM (qF (by rfl))|exact qM (Fit.refl _)|exact qL (qK _)|(refine qM (qE ?_);(try simp only [qV]at *);simp only [zQ,zA,zB,zC,zD,zE,zF,zG,zH,zI,zJ,zK,zL,zM,zN,zO,zP,zR,zS]at *;omega)|(refine qL (qJ ?_);(repeat' (first|exact qA|exact qB|refine qC ?_ rfl ?_|refine qD ?_ ?_|exact qE (by rfl)|exact qF (by rfl)|exact Fit.refl _|exact qG _|(refine qE ?_;(try simp only [qV]at *);simp only [zQ,zA,zB,zC,zD,zE,zF,zG,zH,zI,zJ,zK,zL,zM,zN,zO,zP,zR,zS]at *;omega)));done)|skip))|skip
theorem ufw (d:Dsp):ua0 Tryz.prog 21 [(ub0 d)] [] (fun r _=>r=(iv fun _=>ua5 d)):=by
 have c47:=uv3 d
 refine ua0.is fun R hR=>qW (sc:=uCf) uai mix Tryz.func21 rfl Tryz.call21 (by kernel_rfl) (by kernel_rfl) ?_
 generalize Tryz.prog=P at c47⊢
 cbv
 repeat' (first|(refine qP ?_ (c47) ?hfit;(case hfit=>((repeat' (first|exact qB|refine qD ?_ ?_|exact qE (by rfl)|exact qF (by rfl)|exact Fit.refl _|exact qA|refine qC ?_ rfl ?_));done));try cbv)|fail)
 all_goals first|(subst hR;(repeat' (first|exact qA|exact qB|refine qC ?_ rfl ?_|refine qD ?_ ?_|exact qE (by rfl)|exact qF (by rfl)|exact Fit.refl _|exact qG _|(refine qE ?_;(try simp only [qV]at *);simp only [zQ,zA,zB,zC,zD,zE,zF,zG,zH,zI,zJ,zK,zL,zM,zN,zO,zP,zR,zS]at *;omega)));done)|skip
theorem uu9 (d:Dsp)(f:FaT)(hT:TOk d.tw d.tm d.tv)(hf:ubS d f):ua0 Tryz.prog 80 [(ub0 d),(.agg [(iv fun _=>f.p),(iv fun _=>f.s),(iv fun _=>f.wl),(iv fun _=>f.wh),(iv fun _=>f.ml),(iv fun _=>f.mh)])] [] (fun r _=>r=(.agg [(iv fun _=>mLo d f),(iv fun _=>mHi d f)])):=by
 have c53:=usr d.tw d.tm d.tv f.wl f.wh f.ml f.mh hT (uip hf)
 refine ua0.is fun R hR=>qW (sc:=uCb) uai mix Tryz.func80 rfl Tryz.call80 (by kernel_rfl) (by kernel_rfl) ?_
 generalize Tryz.prog=P at c53⊢
 cbv
 repeat' (first|(refine qP ?_ (c53) ?hfit;(case hfit=>((repeat' (first|exact qB|refine qD ?_ ?_|exact qE (by rfl)|exact qF (by rfl)|exact Fit.refl _|exact qA|refine qC ?_ rfl ?_));done));try cbv)|fail)
 all_goals first|(subst hR;(repeat' (first|exact qA|exact qB|refine qC ?_ rfl ?_|refine qD ?_ ?_|exact qE (by rfl)|exact qF (by rfl)|exact Fit.refl _|exact qG _|(refine qE ?_;(try simp only [qV]at *);simp only [zQ,zA,zB,zC,zD,zE,zF,zG,zH,zI,zJ,zK,zL,zM,zN,zO,zP,zR,zS]at *;omega)));done)|skip
end Go.Proofs.YtkdggbfknlcdaaaGreat
namespace Go.Proofs.YtkdggbfknlcdaaaGreat
open Go.Eng.Dif Go.Eng.Few
theorem uwv {d:Dsp}(hd:DOk d) {o:List Int}(hc:ud3 d d.fs o=true) {s:Nat}(hs:s<SN d):0≤loT d o s∧loT d o s≤hiT d o s∧hiT d o s≤2000:=uwF (okk hd (ul8 hd.f o)) hc hs
def wL (a1 a2:Int)(x:LkT):LkT:=⟨x.a,x.b,max (-2000) (x.lo-a1),min 2000 (x.hi+a2)⟩
def uex (d:Dsp)(s:Nat)(high:Bool):Int:=if high=true then hiT d [] s else loT d [] s
def shM (d:Dsp)(s:Nat)(n:Int):Nat→Int:=ugo (clo (ufv d d.fs [])) ⟨0,s+1,n,n⟩
def ub2 (d:Dsp)(s:Nat)(high:Bool)(k:Nat):Int:=clo (shM d s (uex d s high)) (at4 0 (k+1))
theorem umB (d:Dsp):ufv d d.fs []=ugk (SN d) (LO d) (FO d d.fs):=by unfold ufv;rw [uin]
theorem upu (d:Dsp)(s:Nat)(high:Bool):uex d s high=uv8 (SN d) (LO d) (FO d d.fs) s high:=by
 unfold uex uv8
 rw [(ug4 d s).1,(ug4 d s).2]
theorem ut4 (d:Dsp)(s:Nat)(high:Bool):ub2 d s high=uiV (SN d) (LO d) (FO d d.fs) s (uv8 (SN d) (LO d) (FO d d.fs) s high):=by
 funext k
 unfold ub2 shM uiV
 rw [umB,upu]
theorem uoO {d:Dsp}(h:DOk d)(hc:ud3 d d.fs []=true) {s:Nat}(hs:s<SN d)(high:Bool):Tr (SN d) (LO d) (FO d d.fs) (ub2 d s high)∧ub2 d s high s=uex d s high:=by
 rw [ugy]at hc
 rw [ut4,upu]
 exact uvP (okk h h.f) hc hs high
theorem uqI {d:Dsp}(h:DOk d)(hc:ud3 d d.fs []=true) {s:Nat}(hs:s<SN d)(high:Bool) {i:Nat}(hi:i<16):
 (-2000≤shM d s (uex d s high) i∧shM d s (uex d s high) i≤2000)∧ -2000≤clo (shM d s (uex d s high)) i∧clo (shM d s (uex d s high)) i≤2000:=by
 obtain⟨t,e⟩:=uoO h hc hs high
 have s3:=h.s3
 have hs3:s<3:=by unfold SN at hs;omega
 have sm:Sol (shM d s (uex d s high)) (nod (SN d) (ub2 d s high)):=by
  unfold shM
  rw [uj4 (by show(0:Nat)<4;omega) (by show s+1<4;omega),ud9,umB]
  refine⟨uhD (okk h h.f) t,?_⟩
  have e1:=ujm (x:=ub2 d s high) hs
  have e0:nod (SN d) (ub2 d s high) 0=0:=rfl
  unfold Btw.Is
  show uex d s high≤nod (SN d) (ub2 d s high) (s+1)-nod (SN d) (ub2 d s high) 0∧nod (SN d) (ub2 d s high) (s+1)-nod (SN d) (ub2 d s high) 0≤uex d s high
  omega
 have up:shM d s (uex d s high) i≤2000:=Int.le_trans (ulA _ _ _) (ukc h hc hi).2
 exact⟨⟨uha sm (fun n _=>ulo t.r n) hi,up⟩,uha (ud9.2 sm) (fun n _=>ulo t.r n) hi,Int.le_trans (uhV _ _) up⟩
theorem utN {d:Dsp}(h:DOk d)(hc:ud3 d d.fs []=true) {s:Nat}(hs:s<SN d)(high:Bool):0≤uex d s high∧uex d s high≤2000:=by
 have q:=uwv h hc hs
 unfold uex
 split<;>omega
def shE (d:Dsp)(s:Int):Int:=if ua5 d=0 then(if inB 0 s (d.sn-1)=true then(if ud3 d d.fs []=true then 0 else 11)else 2)else ua5 d
def shN (d:Dsp)(s:Int):Int:=if shE d s=0 then d.sn else 0
theorem uj8 {d:Dsp} {s:Int}(h:¬ua5 d=0):shE d s=ua5 d:=by unfold shE;rw [if_neg h]
theorem ugT {d:Dsp} {s:Int}(h:ua5 d=0)(hs:¬(0≤s∧s≤d.sn-1)):shE d s=2:=by
 unfold shE
 rw [if_pos h,if_neg (by rw [uav];exact hs)]
theorem un5 {d:Dsp} {s:Int}(h:ua5 d=0)(hs:0≤s∧s≤d.sn-1)(hc:ud3 d d.fs []=false):shE d s=11:=by
 unfold shE
 rw [if_pos h,if_pos (by rw [uav];exact hs),if_neg (by rw [hc];simp)]
theorem ufG {d:Dsp} {s:Int}(h:ua5 d=0)(hs:0≤s∧s≤d.sn-1)(hc:ud3 d d.fs []=true):shE d s=0∧shN d s=d.sn:=by
 have e:shE d s=0:=by
  unfold shE
  rw [if_pos h,if_pos (by rw [uav];exact hs),if_pos hc]
 exact⟨e,by unfold shN;rw [if_pos e]⟩
theorem ui8 {d:Dsp} {s:Int}(h:shE d s=0):ua5 d=0∧(0≤s∧s≤d.sn-1)∧ud3 d d.fs []=true:=by
 by_cases hF:ua5 d=0
 ·by_cases hs:0≤s∧s≤d.sn-1
  ·cases hc:ud3 d d.fs []with
   |true=>exact⟨hF,hs,rfl⟩
   |false=>rw [un5 hF hs hc]at h;omega
  ·rw [ugT hF hs]at h;omega
 ·rw [uj8 hF]at h;exact absurd h hF
theorem ueG {d:Dsp} {s:Int}(h:¬shE d s=0):shN d s=0:=by unfold shN;rw [if_neg h]
end Go.Proofs.YtkdggbfknlcdaaaGreat
namespace Go.Proofs.YtkdggbfknlcdaaaGreat
open Go Go.Eng Go.Proofs Go.Eng.Dif Go.Eng.Few
set_option maxRecDepth 10000
theorem ujk (d:Dsp)(s:Int)(h:shE d s=0):ua0 Tryz.prog 33 [(ub0 d),(iv fun _=>s),(bv fun _=>true)] [] (fun r _=>r=(.tup [(.sl 1 (.sym fun _=>shN d s) (fun ix=>[(iv fun _=>ub2 d s.toNat true ix.den.toNat)])),(iv fun _=>shE d s)])):=by
 have c16:=ubA d
 have c44:=ucK d
 have c66:=fun h:1≤d.sn∧d.sn≤1000=>udM d s h
 have hF:=(ui8 h).1
 have hs:=(ui8 h).2.1
 have hC:=(ui8 h).2.2
 have hd:=ua3.1 hF
 have s1:=hd.s1
 have s3:=hd.s3
 have hsn:s.toNat<SN d:=by unfold SN;omega
 have c54:=uby d [] hd (by simp)
 have hbd:=fun (i:Nat) (hi:i<16)=>ukc hd hC hi
 have hb2:=fun (i:Nat) (hi:i<16)=>uqI hd hC hsn true hi
 have hen:=utN hd hC hsn true
 have c55a:=fun (s:Int) (hs:0≤s∧s<3)=>uek (clo (ufv d d.fs [])) s hs (fun i hi=>⟨by have:=hbd i hi;omega,by have:=hbd i hi;omega⟩)
 have c67:=ugS (clo (ufv d d.fs [])) 0 (s+1) (uex d s.toNat true) (uex d s.toNat true) (by omega) (by omega) (by omega)
 have e67:ugo (clo (ufv d d.fs [])) ⟨(0:Int).toNat,(s+1).toNat,uex d s.toNat true,uex d s.toNat true⟩=shM d s.toNat (uex d s.toNat true):=by
  unfold shM
  rw [show(s+1).toNat=s.toNat+1 by omega];rfl
 rw [e67]at c67
 have c68:=umc (shM d s.toNat (uex d s.toNat true)) (fun i hi=>(hb2 i hi).1.1) (fun i hi=>(hb2 i hi).1.2)
 have c55:=fun (s2:Int) (hs2:0≤s2∧s2<3)=>uek (clo (shM d s.toNat (uex d s.toNat true))) s2 hs2 (fun i hi=>⟨by have:=hb2 i hi;omega,by have:=hb2 i hi;omega⟩)
 refine ua0.is fun R hR=>qW (sc:=uys) uai mix Tryz.func33 rfl Tryz.call33 (by kernel_rfl) (by kernel_rfl) ?_
 generalize Tryz.prog=P at c16 c44 c66 c54 c55a c67 c68 c55⊢
 cbv
 repeat' (first
  |with_reducible refine ua4 ?_ ?_
  |with_reducible refine And.intro ?_ ?_
  |(with_reducible intro hcd;(try simp only [zA,zB,zC,zD,zE,zF,zG,zH,zI,zJ,zK,zL,zM,zN,zO,zP]at hcd);try cbv)
  |(refine qP ?_ (c16) ?hfit;(case hfit=>((repeat' (first|exact qB|refine qD ?_ ?_|exact qE (by rfl)|exact qF (by rfl)|exact Fit.refl _|exact qA|refine qC ?_ rfl ?_));done));try cbv)
  |(refine qP ?_ (c66 (show uaj _ from ?_)) ?hfit;(case hfit=>((repeat' (first|exact qB|refine qD ?_ ?_|exact qE (by rfl)|exact qF (by rfl)|exact Fit.refl _|exact qA|refine qC ?_ rfl ?_));done));try cbv)
  |(refine qP ?_ (c44) ?hfit;(case hfit=>((repeat' (first|exact qB|refine qD ?_ ?_|exact qE (by rfl)|exact qF (by rfl)|exact Fit.refl _|exact qA|refine qC ?_ rfl ?_));done));try cbv)
  |(refine qP ?_ (c54) ?hfit;(case hfit=>((refine qD (Fit.refl _) (qD (qO rfl) qB));done));try cbv)
  | (refine⟨some [18],?_⟩
     cbv
     refine qQ ?_ (c55a s ⟨(by((try simp only [qV]at *);(try simp only [zQ,zA,zB,zC,zD,zE,zF,zG,zH,zI,zJ,zK,zL,zM,zN,zO,zP,zR,zS]at *);omega)),(by((try simp only [qV]at *);(try simp only [zQ,zA,zB,zC,zD,zE,zF,zG,zH,zI,zJ,zK,zL,zM,zN,zO,zP,zR,zS]at *);omega))⟩) ?hfit ?hbo
     case hfit=>(cbv;(repeat' (first|exact qB|refine qD ?_ ?_|exact qE (by rfl)|exact qF (by rfl)|exact Fit.refl _|exact qA|refine qC ?_ rfl ?_));done)
     case hbo=>(cbv;(repeat' (first|exact qH|refine qI ?_ ?_|exact qK _|refine qJ ?_|exact qA|exact qE (by rfl)|exact qF (by rfl)|exact Fit.refl _|exact qG _|refine qC ?_ rfl ?_));done)
     try cbv)
  | (refine⟨some [18],?_⟩
     cbv
     refine qQ ?_ (c67) ?hfit ?hbo
     case hfit=>(cbv;(repeat' (first|exact qB|refine qD ?_ ?_|exact qE (by rfl)|exact qF (by rfl)|exact Fit.refl _|exact qA|refine qC ?_ rfl ?_));done)
     case hbo=>(cbv;(repeat' (first|exact qH|refine qI ?_ ?_|exact qK _|refine qJ ?_|exact qA|exact qE (by rfl)|exact qF (by rfl)|exact Fit.refl _|exact qG _|refine qC ?_ rfl ?_));done)
     try cbv)
  | (refine⟨some [18],?_⟩
     cbv
     refine qQ ?_ (c68) ?hfit ?hbo
     case hfit=>(cbv;(repeat' (first|exact qB|refine qD ?_ ?_|exact qE (by rfl)|exact qF (by rfl)|exact Fit.refl _|exact qA|refine qC ?_ rfl ?_));done)
     case hbo=>(cbv;(repeat' (first|exact qH|refine qI ?_ ?_|exact qK _|refine qJ ?_|exact qA|exact qE (by rfl)|exact qF (by rfl)|exact Fit.refl _|exact qG _|refine qC ?_ rfl ?_));done)
     try cbv)
  |fail)
 all_goals first|trivial|((try simp only [qV]at *);(try simp only [zQ,zA,zB,zC,zD,zE,zF,zG,zH,zI,zJ,zK,zL,zM,zN,zO,zP,zR,zS]at *);first|(refine qN ?_;omega)|(simp only [uaj];omega))|(exfalso;(try simp only [qV]at *);(try simp only [zQ,zA,zB,zC,zD,zE,zF,zG,zH,zI,zJ,zK,zL,zM,zN,zO,zP,zR,zS]at *);(try simp only [uah,uak,uav,uaE,uaJ,uaM,ua8,uaa,ua9,uab]at *);omega)|(exfalso;rw [hC]at hcd;cases hcd;done)|skip
 refine⟨none,[⟨.tmp 12,3,1⟩],{k:Nat // k≤d.sn.toNat},fun x=>⟨[(3,.own 0 0),(7,(iv fun _=>0)),(9,.own 18 0),(12,.row 43),(46,(iv fun _=>d.sn)),(47,(iv fun _=>zi x.1))],[(0,.cells [(iS d.tw),(iS d.tm),(.sl 1 (.sym fun _=>zi (d.tv).length) (fun ix=>[(.sl 1 (.sym fun _=>zi ((d.tv).getD ix.den.toNat []).length) (fun jx=>[(iv fun _=>((d.tv).getD ix.den.toNat []).getD jx.den.toNat 0)]))])),(iv fun _=>d.sn),(iv fun _=>d.pn),(.sl 4 (.sym fun _=>zi (d.ls).length) (fun ix=>[(iv fun _=>((d.ls).getD ix.den.toNat l0T).a),(iv fun _=>((d.ls).getD ix.den.toNat l0T).b),(iv fun _=>((d.ls).getD ix.den.toNat l0T).lo),(iv fun _=>((d.ls).getD ix.den.toNat l0T).hi)])),(.sl 6 (.sym fun _=>zi (d.fs).length) (fun ix=>[(iv fun _=>((d.fs).getD ix.den.toNat f0T).p),(iv fun _=>((d.fs).getD ix.den.toNat f0T).s),(iv fun _=>((d.fs).getD ix.den.toNat f0T).wl),(iv fun _=>((d.fs).getD ix.den.toNat f0T).wh),(iv fun _=>((d.fs).getD ix.den.toNat f0T).ml),(iv fun _=>((d.fs).getD ix.den.toNat f0T).mh)]))] 39),(18,.cells [(.arr 16 (fun ix=>(iv fun _=>(clo (shM d s.toNat (uex d s.toNat true))) ix.den.toNat)))] 95),(43,.row 3 1 (.sym fun _=>zi x.1) (fun ix=>[(iv fun _=>ub2 d s.toNat true ix.den.toNat)]))],200⟩,fun x=>d.sn.toNat-x.1,?_,?_⟩
 ·refine⟨⟨0,by omega⟩,?_⟩
  cbv
  repeat' (first|with_reducible refine ua4 ?_ ?_|with_reducible refine And.intro ?_ ?_)
  all_goals first|trivial|exact qM (qE (by rfl))|exact qM (Fit.refl _)|exact qL (qK _)|(refine qL (uae ?_ ?_);(first|rfl|((try simp only [qV]at *);(try simp only [zQ,zA,zB,zC,zD,zE,zF,zG,zH,zI,zJ,zK,zL,zM,zN,zO,zP,zR,zS]at *);omega));intro ix h0 h1;exfalso;(try simp only [qV]at *);(try simp only [zQ,zA,zB,zC,zD,zE,zF,zG,zH,zI,zJ,zK,zL,zM,zN,zO,zP,zR,zS]at *);omega)|skip
 ·rintro ⟨k,hk⟩
  cbv
  repeat' (first
   |with_reducible refine ua4 ?_ ?_
   |with_reducible refine And.intro ?_ ?_
   |(with_reducible intro hcd;(try simp only [zA,zB,zC,zD,zE,zF,zG,zH,zI,zJ,zK,zL,zM,zN,zO,zP]at hcd);try cbv)
   | (refine⟨some [18],?_⟩
      cbv
      refine qQ ?_ (c55 (zi k) ⟨(by((try simp only [qV]at *);(try simp only [zQ,zA,zB,zC,zD,zE,zF,zG,zH,zI,zJ,zK,zL,zM,zN,zO,zP,zR,zS]at *);omega)),(by((try simp only [qV]at *);(try simp only [zQ,zA,zB,zC,zD,zE,zF,zG,zH,zI,zJ,zK,zL,zM,zN,zO,zP,zR,zS]at *);omega))⟩) ?hfit ?hbo
      case hfit=>(cbv;(repeat' (first|exact qB|refine qD ?_ ?_|exact qE (by rfl)|exact qF (by rfl)|exact Fit.refl _|exact qA|refine qC ?_ rfl ?_));done)
      case hbo=>(cbv;(repeat' (first|exact qH|refine qI ?_ ?_|exact qK _|refine qJ ?_|exact qA|exact qE (by rfl)|exact qF (by rfl)|exact Fit.refl _|exact qG _|refine qC ?_ rfl ?_));done)
      try cbv)
   | (refine⟨fun ix=>[(iv fun _=>ub2 d s.toNat true ix.den.toNat)],?_⟩
      cbv
      refine ua4 (ub9 (by intro ix jx h0 h1 h2;simp only [h2];exact Fit.refl _) (by intro ix jx h0 h1 h2;(have h3:jx.den.toNat=k:=by((try simp only [qV]at *);(try simp only [zQ,zA,zB,zC,zD,zE,zF,zG,zH,zI,zJ,zK,zL,zM,zN,zO,zP,zR,zS]at *);omega));simp only [h3];exact qC (qE (by first|rfl|((try simp only [qV]at *);(try simp only [zQ,zA,zB,zC,zD,zE,zF,zG,zH,zI,zJ,zK,zL,zM,zN,zO,zP,zR,zS]at *);rfl))) rfl qA) (by(try simp only [qV]at *);(try simp only [zQ,zA,zB,zC,zD,zE,zF,zG,zH,zI,zJ,zK,zL,zM,zN,zO,zP,zR,zS]at *);omega)) (Or.inl ?_)
      try cbv)
   |fail)
  all_goals first|((try simp only [qV]at *);(try simp only [zQ,zA,zB,zC,zD,zE,zF,zG,zH,zI,zJ,zK,zL,zM,zN,zO,zP,zR,zS]at *);first|(refine qN ?_;omega)|(simp only [uaj];omega))|((have hse:(k:Int)=d.sn:=(by((try simp only [qV]at *);(try simp only [zQ,zA,zB,zC,zD,zE,zF,zG,zH,zI,zJ,zK,zL,zM,zN,zO,zP,zR,zS]at *);omega)));subst hR;exact qD (ua1 (hse.trans (ufG hF hs hC).2.symm) (fun _ _ _=>Fit.refl _)) (qD (qE h.symm) qB))|((try simp only [zQ,zA,zB,zC,zD,zE,zF,zG,zH,zI,zJ,zK,zL,zM,zN,zO,zP,zR,zS]at *);refine⟨⟨k+1,by((try simp only [qV]at *);(try simp only [zQ,zA,zB,zC,zD,zE,zF,zG,zH,zI,zJ,zK,zL,zM,zN,zO,zP,zR,zS]at *);omega)⟩,by simp only [];omega,?_⟩;cbv;(repeat' (first|with_reducible refine ua4 ?_ ?_|with_reducible refine And.intro ?_ ?_));(all_goals first|trivial|exact qM (qE (by rfl))|exact qM (qF (by rfl))|exact qM (Fit.refl _)|exact qL (qK _)|(refine qM (qE ?_);(try simp only [qV]at *);simp only [zQ,zA,zB,zC,zD,zE,zF,zG,zH,zI,zJ,zK,zL,zM,zN,zO,zP,zR,zS]at *;omega)|(refine qL (qJ ?_);(repeat' (first|exact qA|exact qB|refine qC ?_ rfl ?_|refine qD ?_ ?_|exact qE (by rfl)|exact qF (by rfl)|exact Fit.refl _|exact qG _|(refine qE ?_;(try simp only [qV]at *);simp only [zQ,zA,zB,zC,zD,zE,zF,zG,zH,zI,zJ,zK,zL,zM,zN,zO,zP,zR,zS]at *;omega)));done)|(refine qL (uae ?_ ?_)<;>first|rfl|((try simp only [qV]at *);(try simp only [zQ,zA,zB,zC,zD,zE,zF,zG,zH,zI,zJ,zK,zL,zM,zN,zO,zP,zR,zS]at *);omega)|(intro ix h0 h1;exact Fit.refl _))|skip))|skip
theorem ukf (d:Dsp)(s:Int)(h:¬shE d s=0):ua0 Tryz.prog 33 [(ub0 d),(iv fun _=>s),(bv fun _=>true)] [] (fun r _=>r=(.tup [(.sl 1 (.sym fun _=>shN d s) (fun ix=>[(iv fun _=>ub2 d s.toNat true ix.den.toNat)])),(iv fun _=>shE d s)])):=by
 have c16:=ubA d
 have c44:=ucK d
 have c66:=fun h:ua5 d=0=>udM d s ⟨(ua3.1 h).s1,by have:=(ua3.1 h).s3;omega⟩
 have c54:=fun h:ua5 d=0=>uby d [] (ua3.1 h) (by simp)
 refine ua0.is fun R hR=>qW (sc:=uys) uai mix Tryz.func33 rfl Tryz.call33 (by kernel_rfl) (by kernel_rfl) ?_
 generalize Tryz.prog=P at c16 c44 c66 c54⊢
 cbv
 repeat' (first|with_reducible refine And.intro ?_ ?_|(with_reducible intro hcd;(try simp only [zA,zB,zC,zD,zE,zF,zG,zH,zI,zJ,zK,zL,zM,zN,zO,zP]at hcd);try cbv)|(refine qP ?_ (c16) ?hfit;(case hfit=>((repeat' (first|exact qB|refine qD ?_ ?_|exact qE (by rfl)|exact qF (by rfl)|exact Fit.refl _|exact qA|refine qC ?_ rfl ?_));done));try cbv)|(refine qP ?_ (c66 (show uaj _ from ?_)) ?hfit;(case hfit=>((repeat' (first|exact qB|refine qD ?_ ?_|exact qE (by rfl)|exact qF (by rfl)|exact Fit.refl _|exact qA|refine qC ?_ rfl ?_));done));try cbv)|(refine qP ?_ (c44) ?hfit;(case hfit=>((repeat' (first|exact qB|refine qD ?_ ?_|exact qE (by rfl)|exact qF (by rfl)|exact Fit.refl _|exact qA|refine qC ?_ rfl ?_));done));try cbv)|(refine qP ?_ (c54 (show uaj _ from ?_)) ?hfit;(case hfit=>((refine qD (Fit.refl _) (qD (qO rfl) qB));done));try cbv)|fail)
 all_goals first|trivial|(subst hR;((try simp only [qV]at *);(try simp only [zQ,zA,zB,zC,zD,zE,zF,zG,zH,zI,zJ,zK,zL,zM,zN,zO,zP,zR,zS]at *);(try simp only [uah,uak,uav,uaE,uaJ,uaM,ua8,uaa,ua9,uab]at *);(exact qD (qO (ueG h)) (qD (qE (uj8 (d:=d) (by first|assumption|omega)).symm) qB)));done)|(subst hR;((try simp only [qV]at *);(try simp only [zQ,zA,zB,zC,zD,zE,zF,zG,zH,zI,zJ,zK,zL,zM,zN,zO,zP,zR,zS]at *);(try simp only [uah,uak,uav,uaE,uaJ,uaM,ua8,uaa,ua9,uab]at *);(exact qD (qO (ueG h)) (qD (qE (ugT (d:=d) (by first|assumption|omega) (by first|assumption|omega)).symm) qB)));done)|(subst hR;((try simp only [qV]at *);(try simp only [zQ,zA,zB,zC,zD,zE,zF,zG,zH,zI,zJ,zK,zL,zM,zN,zO,zP,zR,zS]at *);(try simp only [uah,uak,uav,uaE,uaJ,uaM,ua8,uaa,ua9,uab]at *);(exact qD (qO (ueG h)) (qD (qE (un5 (d:=d) (by first|assumption|omega) (by first|assumption|omega) (by assumption)).symm) qB)));done)|(exfalso;(try simp only [qV]at *);(try simp only [zQ,zA,zB,zC,zD,zE,zF,zG,zH,zI,zJ,zK,zL,zM,zN,zO,zP,zR,zS]at *);(try simp only [uah,uak,uav,uaE,uaJ,uaM,ua8,uaa,ua9,uab]at *);exact h (ufG (by first|assumption|omega) (by first|assumption|omega) (by assumption)).1)|skip
theorem uiu (d:Dsp)(s:Int)(h:shE d s=0):ua0 Tryz.prog 33 [(ub0 d),(iv fun _=>s),(bv fun _=>false)] [] (fun r _=>r=(.tup [(.sl 1 (.sym fun _=>shN d s) (fun ix=>[(iv fun _=>ub2 d s.toNat false ix.den.toNat)])),(iv fun _=>shE d s)])):=by
 have c16:=ubA d
 have c44:=ucK d
 have c66:=fun h:1≤d.sn∧d.sn≤1000=>udM d s h
 have hF:=(ui8 h).1
 have hs:=(ui8 h).2.1
 have hC:=(ui8 h).2.2
 have hd:=ua3.1 hF
 have s1:=hd.s1
 have s3:=hd.s3
 have hsn:s.toNat<SN d:=by unfold SN;omega
 have c54:=uby d [] hd (by simp)
 have hbd:=fun (i:Nat) (hi:i<16)=>ukc hd hC hi
 have hb2:=fun (i:Nat) (hi:i<16)=>uqI hd hC hsn false hi
 have hen:=utN hd hC hsn false
 have c55a:=fun (s:Int) (hs:0≤s∧s<3)=>uek (clo (ufv d d.fs [])) s hs (fun i hi=>⟨by have:=hbd i hi;omega,by have:=hbd i hi;omega⟩)
 have c67:=ugS (clo (ufv d d.fs [])) 0 (s+1) (uex d s.toNat false) (uex d s.toNat false) (by omega) (by omega) (by omega)
 have e67:ugo (clo (ufv d d.fs [])) ⟨(0:Int).toNat,(s+1).toNat,uex d s.toNat false,uex d s.toNat false⟩=shM d s.toNat (uex d s.toNat false):=by
  unfold shM
  rw [show(s+1).toNat=s.toNat+1 by omega];rfl
 rw [e67]at c67
 have c68:=umc (shM d s.toNat (uex d s.toNat false)) (fun i hi=>(hb2 i hi).1.1) (fun i hi=>(hb2 i hi).1.2)
 have c55:=fun (s2:Int) (hs2:0≤s2∧s2<3)=>uek (clo (shM d s.toNat (uex d s.toNat false))) s2 hs2 (fun i hi=>⟨by have:=hb2 i hi;omega,by have:=hb2 i hi;omega⟩)
 refine ua0.is fun R hR=>qW (sc:=uys) uai mix Tryz.func33 rfl Tryz.call33 (by kernel_rfl) (by kernel_rfl) ?_
 generalize Tryz.prog=P at c16 c44 c66 c54 c55a c67 c68 c55⊢
 cbv
 repeat' (first
  |with_reducible refine ua4 ?_ ?_
  |with_reducible refine And.intro ?_ ?_
  |(with_reducible intro hcd;(try simp only [zA,zB,zC,zD,zE,zF,zG,zH,zI,zJ,zK,zL,zM,zN,zO,zP]at hcd);try cbv)
  |(refine qP ?_ (c16) ?hfit;(case hfit=>((repeat' (first|exact qB|refine qD ?_ ?_|exact qE (by rfl)|exact qF (by rfl)|exact Fit.refl _|exact qA|refine qC ?_ rfl ?_));done));try cbv)
  |(refine qP ?_ (c66 (show uaj _ from ?_)) ?hfit;(case hfit=>((repeat' (first|exact qB|refine qD ?_ ?_|exact qE (by rfl)|exact qF (by rfl)|exact Fit.refl _|exact qA|refine qC ?_ rfl ?_));done));try cbv)
  |(refine qP ?_ (c44) ?hfit;(case hfit=>((repeat' (first|exact qB|refine qD ?_ ?_|exact qE (by rfl)|exact qF (by rfl)|exact Fit.refl _|exact qA|refine qC ?_ rfl ?_));done));try cbv)
  |(refine qP ?_ (c54) ?hfit;(case hfit=>((refine qD (Fit.refl _) (qD (qO rfl) qB));done));try cbv)
  | (refine⟨some [18],?_⟩
     cbv
     refine qQ ?_ (c55a s ⟨(by((try simp only [qV]at *);(try simp only [zQ,zA,zB,zC,zD,zE,zF,zG,zH,zI,zJ,zK,zL,zM,zN,zO,zP,zR,zS]at *);omega)),(by((try simp only [qV]at *);(try simp only [zQ,zA,zB,zC,zD,zE,zF,zG,zH,zI,zJ,zK,zL,zM,zN,zO,zP,zR,zS]at *);omega))⟩) ?hfit ?hbo
     case hfit=>(cbv;(repeat' (first|exact qB|refine qD ?_ ?_|exact qE (by rfl)|exact qF (by rfl)|exact Fit.refl _|exact qA|refine qC ?_ rfl ?_));done)
     case hbo=>(cbv;(repeat' (first|exact qH|refine qI ?_ ?_|exact qK _|refine qJ ?_|exact qA|exact qE (by rfl)|exact qF (by rfl)|exact Fit.refl _|exact qG _|refine qC ?_ rfl ?_));done)
     try cbv)
  | (refine⟨some [18],?_⟩
     cbv
     refine qQ ?_ (c67) ?hfit ?hbo
     case hfit=>(cbv;(repeat' (first|exact qB|refine qD ?_ ?_|exact qE (by rfl)|exact qF (by rfl)|exact Fit.refl _|exact qA|refine qC ?_ rfl ?_));done)
     case hbo=>(cbv;(repeat' (first|exact qH|refine qI ?_ ?_|exact qK _|refine qJ ?_|exact qA|exact qE (by rfl)|exact qF (by rfl)|exact Fit.refl _|exact qG _|refine qC ?_ rfl ?_));done)
     try cbv)
  | (refine⟨some [18],?_⟩
     cbv
     refine qQ ?_ (c68) ?hfit ?hbo
     case hfit=>(cbv;(repeat' (first|exact qB|refine qD ?_ ?_|exact qE (by rfl)|exact qF (by rfl)|exact Fit.refl _|exact qA|refine qC ?_ rfl ?_));done)
     case hbo=>(cbv;(repeat' (first|exact qH|refine qI ?_ ?_|exact qK _|refine qJ ?_|exact qA|exact qE (by rfl)|exact qF (by rfl)|exact Fit.refl _|exact qG _|refine qC ?_ rfl ?_));done)
     try cbv)
  |fail)
 all_goals first|trivial|((try simp only [qV]at *);(try simp only [zQ,zA,zB,zC,zD,zE,zF,zG,zH,zI,zJ,zK,zL,zM,zN,zO,zP,zR,zS]at *);first|(refine qN ?_;omega)|(simp only [uaj];omega))|(exfalso;(try simp only [qV]at *);(try simp only [zQ,zA,zB,zC,zD,zE,zF,zG,zH,zI,zJ,zK,zL,zM,zN,zO,zP,zR,zS]at *);(try simp only [uah,uak,uav,uaE,uaJ,uaM,ua8,uaa,ua9,uab]at *);omega)|(exfalso;rw [hC]at hcd;cases hcd;done)|skip
 refine⟨none,[⟨.tmp 12,3,1⟩],{k:Nat // k≤d.sn.toNat},fun x=>⟨[(3,.own 0 0),(7,(iv fun _=>0)),(9,.own 18 0),(12,.row 39),(46,(iv fun _=>d.sn)),(47,(iv fun _=>zi x.1))],[(0,.cells [(iS d.tw),(iS d.tm),(.sl 1 (.sym fun _=>zi (d.tv).length) (fun ix=>[(.sl 1 (.sym fun _=>zi ((d.tv).getD ix.den.toNat []).length) (fun jx=>[(iv fun _=>((d.tv).getD ix.den.toNat []).getD jx.den.toNat 0)]))])),(iv fun _=>d.sn),(iv fun _=>d.pn),(.sl 4 (.sym fun _=>zi (d.ls).length) (fun ix=>[(iv fun _=>((d.ls).getD ix.den.toNat l0T).a),(iv fun _=>((d.ls).getD ix.den.toNat l0T).b),(iv fun _=>((d.ls).getD ix.den.toNat l0T).lo),(iv fun _=>((d.ls).getD ix.den.toNat l0T).hi)])),(.sl 6 (.sym fun _=>zi (d.fs).length) (fun ix=>[(iv fun _=>((d.fs).getD ix.den.toNat f0T).p),(iv fun _=>((d.fs).getD ix.den.toNat f0T).s),(iv fun _=>((d.fs).getD ix.den.toNat f0T).wl),(iv fun _=>((d.fs).getD ix.den.toNat f0T).wh),(iv fun _=>((d.fs).getD ix.den.toNat f0T).ml),(iv fun _=>((d.fs).getD ix.den.toNat f0T).mh)]))] 39),(18,.cells [(.arr 16 (fun ix=>(iv fun _=>(clo (shM d s.toNat (uex d s.toNat false))) ix.den.toNat)))] 95),(39,.row 3 1 (.sym fun _=>zi x.1) (fun ix=>[(iv fun _=>ub2 d s.toNat false ix.den.toNat)]))],200⟩,fun x=>d.sn.toNat-x.1,?_,?_⟩
 ·refine⟨⟨0,by omega⟩,?_⟩
  cbv
  repeat' (first|with_reducible refine ua4 ?_ ?_|with_reducible refine And.intro ?_ ?_)
  all_goals first|trivial|exact qM (qE (by rfl))|exact qM (Fit.refl _)|exact qL (qK _)|(refine qL (uae ?_ ?_);(first|rfl|((try simp only [qV]at *);(try simp only [zQ,zA,zB,zC,zD,zE,zF,zG,zH,zI,zJ,zK,zL,zM,zN,zO,zP,zR,zS]at *);omega));intro ix h0 h1;exfalso;(try simp only [qV]at *);(try simp only [zQ,zA,zB,zC,zD,zE,zF,zG,zH,zI,zJ,zK,zL,zM,zN,zO,zP,zR,zS]at *);omega)|skip
 ·rintro ⟨k,hk⟩
  cbv
  repeat' (first
   |with_reducible refine ua4 ?_ ?_
   |with_reducible refine And.intro ?_ ?_
   |(with_reducible intro hcd;(try simp only [zA,zB,zC,zD,zE,zF,zG,zH,zI,zJ,zK,zL,zM,zN,zO,zP]at hcd);try cbv)
   | (refine⟨some [18],?_⟩
      cbv
      refine qQ ?_ (c55 (zi k) ⟨(by((try simp only [qV]at *);(try simp only [zQ,zA,zB,zC,zD,zE,zF,zG,zH,zI,zJ,zK,zL,zM,zN,zO,zP,zR,zS]at *);omega)),(by((try simp only [qV]at *);(try simp only [zQ,zA,zB,zC,zD,zE,zF,zG,zH,zI,zJ,zK,zL,zM,zN,zO,zP,zR,zS]at *);omega))⟩) ?hfit ?hbo
      case hfit=>(cbv;(repeat' (first|exact qB|refine qD ?_ ?_|exact qE (by rfl)|exact qF (by rfl)|exact Fit.refl _|exact qA|refine qC ?_ rfl ?_));done)
      case hbo=>(cbv;(repeat' (first|exact qH|refine qI ?_ ?_|exact qK _|refine qJ ?_|exact qA|exact qE (by rfl)|exact qF (by rfl)|exact Fit.refl _|exact qG _|refine qC ?_ rfl ?_));done)
      try cbv)
   | (refine⟨fun ix=>[(iv fun _=>ub2 d s.toNat false ix.den.toNat)],?_⟩
      cbv
      refine ua4 (ub9 (by intro ix jx h0 h1 h2;simp only [h2];exact Fit.refl _) (by intro ix jx h0 h1 h2;(have h3:jx.den.toNat=k:=by((try simp only [qV]at *);(try simp only [zQ,zA,zB,zC,zD,zE,zF,zG,zH,zI,zJ,zK,zL,zM,zN,zO,zP,zR,zS]at *);omega));simp only [h3];exact qC (qE (by first|rfl|((try simp only [qV]at *);(try simp only [zQ,zA,zB,zC,zD,zE,zF,zG,zH,zI,zJ,zK,zL,zM,zN,zO,zP,zR,zS]at *);rfl))) rfl qA) (by(try simp only [qV]at *);(try simp only [zQ,zA,zB,zC,zD,zE,zF,zG,zH,zI,zJ,zK,zL,zM,zN,zO,zP,zR,zS]at *);omega)) (Or.inl ?_)
      try cbv)
   |fail)
  all_goals first|((try simp only [qV]at *);(try simp only [zQ,zA,zB,zC,zD,zE,zF,zG,zH,zI,zJ,zK,zL,zM,zN,zO,zP,zR,zS]at *);first|(refine qN ?_;omega)|(simp only [uaj];omega))|((have hse:(k:Int)=d.sn:=(by((try simp only [qV]at *);(try simp only [zQ,zA,zB,zC,zD,zE,zF,zG,zH,zI,zJ,zK,zL,zM,zN,zO,zP,zR,zS]at *);omega)));subst hR;exact qD (ua1 (hse.trans (ufG hF hs hC).2.symm) (fun _ _ _=>Fit.refl _)) (qD (qE h.symm) qB))|((try simp only [zQ,zA,zB,zC,zD,zE,zF,zG,zH,zI,zJ,zK,zL,zM,zN,zO,zP,zR,zS]at *);refine⟨⟨k+1,by((try simp only [qV]at *);(try simp only [zQ,zA,zB,zC,zD,zE,zF,zG,zH,zI,zJ,zK,zL,zM,zN,zO,zP,zR,zS]at *);omega)⟩,by simp only [];omega,?_⟩;cbv;(repeat' (first|with_reducible refine ua4 ?_ ?_|with_reducible refine And.intro ?_ ?_));(all_goals first|trivial|exact qM (qE (by rfl))|exact qM (qF (by rfl))|exact qM (Fit.refl _)|exact qL (qK _)|(refine qM (qE ?_);(try simp only [qV]at *);simp only [zQ,zA,zB,zC,zD,zE,zF,zG,zH,zI,zJ,zK,zL,zM,zN,zO,zP,zR,zS]at *;omega)|(refine qL (qJ ?_);(repeat' (first|exact qA|exact qB|refine qC ?_ rfl ?_|refine qD ?_ ?_|exact qE (by rfl)|exact qF (by rfl)|exact Fit.refl _|exact qG _|(refine qE ?_;(try simp only [qV]at *);simp only [zQ,zA,zB,zC,zD,zE,zF,zG,zH,zI,zJ,zK,zL,zM,zN,zO,zP,zR,zS]at *;omega)));done)|(refine qL (uae ?_ ?_)<;>first|rfl|((try simp only [qV]at *);(try simp only [zQ,zA,zB,zC,zD,zE,zF,zG,zH,zI,zJ,zK,zL,zM,zN,zO,zP,zR,zS]at *);omega)|(intro ix h0 h1;exact Fit.refl _))|skip))|skip
theorem uje (d:Dsp)(s:Int)(h:¬shE d s=0):ua0 Tryz.prog 33 [(ub0 d),(iv fun _=>s),(bv fun _=>false)] [] (fun r _=>r=(.tup [(.sl 1 (.sym fun _=>shN d s) (fun ix=>[(iv fun _=>ub2 d s.toNat false ix.den.toNat)])),(iv fun _=>shE d s)])):=by
 have c16:=ubA d
 have c44:=ucK d
 have c66:=fun h:ua5 d=0=>udM d s ⟨(ua3.1 h).s1,by have:=(ua3.1 h).s3;omega⟩
 have c54:=fun h:ua5 d=0=>uby d [] (ua3.1 h) (by simp)
 refine ua0.is fun R hR=>qW (sc:=uys) uai mix Tryz.func33 rfl Tryz.call33 (by kernel_rfl) (by kernel_rfl) ?_
 generalize Tryz.prog=P at c16 c44 c66 c54⊢
 cbv
 repeat' (first|with_reducible refine And.intro ?_ ?_|(with_reducible intro hcd;(try simp only [zA,zB,zC,zD,zE,zF,zG,zH,zI,zJ,zK,zL,zM,zN,zO,zP]at hcd);try cbv)|(refine qP ?_ (c16) ?hfit;(case hfit=>((repeat' (first|exact qB|refine qD ?_ ?_|exact qE (by rfl)|exact qF (by rfl)|exact Fit.refl _|exact qA|refine qC ?_ rfl ?_));done));try cbv)|(refine qP ?_ (c66 (show uaj _ from ?_)) ?hfit;(case hfit=>((repeat' (first|exact qB|refine qD ?_ ?_|exact qE (by rfl)|exact qF (by rfl)|exact Fit.refl _|exact qA|refine qC ?_ rfl ?_));done));try cbv)|(refine qP ?_ (c44) ?hfit;(case hfit=>((repeat' (first|exact qB|refine qD ?_ ?_|exact qE (by rfl)|exact qF (by rfl)|exact Fit.refl _|exact qA|refine qC ?_ rfl ?_));done));try cbv)|(refine qP ?_ (c54 (show uaj _ from ?_)) ?hfit;(case hfit=>((refine qD (Fit.refl _) (qD (qO rfl) qB));done));try cbv)|fail)
 all_goals first|trivial|(subst hR;((try simp only [qV]at *);(try simp only [zQ,zA,zB,zC,zD,zE,zF,zG,zH,zI,zJ,zK,zL,zM,zN,zO,zP,zR,zS]at *);(try simp only [uah,uak,uav,uaE,uaJ,uaM,ua8,uaa,ua9,uab]at *);(exact qD (qO (ueG h)) (qD (qE (uj8 (d:=d) (by first|assumption|omega)).symm) qB)));done)|(subst hR;((try simp only [qV]at *);(try simp only [zQ,zA,zB,zC,zD,zE,zF,zG,zH,zI,zJ,zK,zL,zM,zN,zO,zP,zR,zS]at *);(try simp only [uah,uak,uav,uaE,uaJ,uaM,ua8,uaa,ua9,uab]at *);(exact qD (qO (ueG h)) (qD (qE (ugT (d:=d) (by first|assumption|omega) (by first|assumption|omega)).symm) qB)));done)|(subst hR;((try simp only [qV]at *);(try simp only [zQ,zA,zB,zC,zD,zE,zF,zG,zH,zI,zJ,zK,zL,zM,zN,zO,zP,zR,zS]at *);(try simp only [uah,uak,uav,uaE,uaJ,uaM,ua8,uaa,ua9,uab]at *);(exact qD (qO (ueG h)) (qD (qE (un5 (d:=d) (by first|assumption|omega) (by first|assumption|omega) (by assumption)).symm) qB)));done)|(exfalso;(try simp only [qV]at *);(try simp only [zQ,zA,zB,zC,zD,zE,zF,zG,zH,zI,zJ,zK,zL,zM,zN,zO,zP,zR,zS]at *);(try simp only [uah,uak,uav,uaE,uaJ,uaM,ua8,uaa,ua9,uab]at *);exact h (ufG (by first|assumption|omega) (by first|assumption|omega) (by assumption)).1)|skip
theorem uhW (d:Dsp)(s:Int)(b:Bool):ua0 Tryz.prog 33 [(ub0 d),(iv fun _=>s),(bv fun _=>b)] [] (fun r _=>r=(.tup [(.sl 1 (.sym fun _=>shN d s) (fun ix=>[(iv fun _=>ub2 d s.toNat b ix.den.toNat)])),(iv fun _=>shE d s)])):=by
 by_cases h:shE d s=0
 ·cases b
  ·exact uiu d s h
  ·exact ujk d s h
 ·cases b
  ·exact uje d s h
  ·exact ukf d s h
theorem ujs (t:List Int)(hfew:t.length≤1000)(i:Nat)(hi:i<t.length∧∀j,j<i→(inB 0 (t.getD (j) 0) 2000)=true):ua0 Tryz.prog 99 [(iv fun _=>t.getD (i) 0),.own 0 0] [.cells [.clo 71 [(.agg [(.int .i64 (.lit 0)),(.int .i64 (.lit 2000))])] []] 121] (fun r bs=>r=(bv fun _=> !(inB 0 (t.getD (i) 0) 2000))∧bs=[.cells [.clo 71 [(.agg [(.int .i64 (.lit 0)),(.int .i64 (.lit 2000))])] []] 121]):=by
 have cf:=uw3 0 2000 (t.getD i 0)
 refine ua0.isB rfl fun R B hR hB=>qW (sc:=uBl) uai mix Tryz.func99 rfl Tryz.call99 (by kernel_rfl) (by kernel_rfl) ?_
 generalize Tryz.prog=P at cf⊢
 cbv
 repeat' (first|with_reducible refine And.intro ?_ ?_|(refine qP ?_ (cf) ?hfit;(case hfit=>((repeat' (first|exact qB|refine qD ?_ ?_|exact qE (by rfl)|exact qF (by rfl)|exact Fit.refl _|exact qA|refine qC ?_ rfl ?_));done));try cbv)|fail)
 all_goals first|(subst hR;(repeat' (first|exact qA|exact qB|refine qC ?_ rfl ?_|refine qD ?_ ?_|exact qE (by rfl)|exact qF (by rfl)|exact Fit.refl _|exact qG _|(refine qE ?_;(try simp only [qV]at *);simp only [zQ,zA,zB,zC,zD,zE,zF,zG,zH,zI,zJ,zK,zL,zM,zN,zO,zP,zR,zS]at *;omega)));done)|(subst hB;(repeat' (first|exact qH|refine qI ?_ ?_|exact qK _|refine qJ ?_|exact qA|exact qE (by rfl)|exact qF (by rfl)|exact Fit.refl _|exact qG _|refine qC ?_ rfl ?_));done)|skip
theorem uks (t:List Int)(hfew:t.length≤1000):ua0 Tryz.prog 114 [(iS t),.clo 99 [] [.own 0 0]] [.cells [.clo 71 [(.agg [(.int .i64 (.lit 0)),(.int .i64 (.lit 2000))])] []] 121] (fun r bs=>r=(iv fun _=>ubK (fun i=>inB 0 (t.getD (i) 0) 2000) (t.length) 0)∧bs=[.cells [.clo 71 [(.agg [(.int .i64 (.lit 0)),(.int .i64 (.lit 2000))])] []] 121]):=by
 have cl:=ujs t hfew
 refine ua0.isB rfl fun R B hR hB=>qW (sc:=uvn) uai mix Tryz.func114 rfl Tryz.call114 (by kernel_rfl) (by kernel_rfl) ?_
 generalize Tryz.prog=P at cl⊢
 cbv
 repeat' (first|fail)
 all_goals first|skip
 refine⟨none,[],{i:Nat // i≤t.length∧ubK (fun i=>inB 0 (t.getD (i) 0) 2000) (t.length) 0=ubK (fun i=>inB 0 (t.getD (i) 0) 2000) (t.length-i) i∧∀j,j<i→(inB 0 (t.getD (j) 0) 2000)=true},fun x=>⟨[(0,(iS t)),(1,.clo 99 [] [.own 0 0]),(7,(iv fun _=>zi (t.length))),(8,(iv fun _=>zi x.1))],[(0,.cells [.clo 71 [(.agg [(.int .i64 (.lit 0)),(.int .i64 (.lit 2000))])] []] 121)],20⟩,fun x=>t.length-x.1,?_,?_⟩
 ·refine⟨⟨0,by omega,rfl,fun j hj=>by omega⟩,?_⟩
  cbv
  repeat' (first|with_reducible refine ua4 ?_ ?_|with_reducible refine And.intro ?_ ?_)
  all_goals first|trivial|exact qM (qE (by rfl))|exact qM (Fit.refl _)|exact qL (qK _)|skip
 ·rintro ⟨i,hi,hr,hq⟩
  cbv
  repeat' (first
   |with_reducible refine ua4 ?_ ?_
   |with_reducible refine And.intro ?_ ?_
   |(with_reducible intro hcd;(try simp only [zA,zB,zC,zD,zE,zF,zG,zH,zI,zJ,zK,zL,zM,zN,zO,zP]at hcd);try cbv)
   | (refine⟨some [0],?_⟩
      cbv
      refine qQ ?_ (cl i ⟨by(try simp only [qV]at *);simp only [uac]at *;omega,hq⟩) (by cbv;(repeat' (first|exact qB|refine qD ?_ ?_|exact qE (by rfl)|exact qF (by rfl)|exact Fit.refl _|exact qA|refine qC ?_ rfl ?_))) (by cbv;(repeat' (first|exact qH|refine qI ?_ ?_|exact qK _|refine qJ ?_|exact qA|exact qE (by rfl)|exact qF (by rfl)|exact Fit.refl _|exact qG _|refine qC ?_ rfl ?_)))
      try cbv)
   |fail)
  all_goals first|((try simp only [qV]at *);(try simp only [zQ,zA,zB,zC,zD,zE,zF,zG,zH,zI,zJ,zK,zL,zM,zN,zO,zP,zR,zS]at *);first|(refine qN ?_;omega)|(simp only [uaj];omega))|(subst hR;(refine qE ?_;simp only [zQ,zA,zB,zC,zD,zE,zF,zG,zH,zI,zJ,zK,zL,zM,zN,zO,zP,zR,zS]at *;rw [hr,ubd (by omega) hcd]);done)|(subst hR;(refine qE ?_;simp only [zQ,zA,zB,zC,zD,zE,zF,zG,zH,zI,zJ,zK,zL,zM,zN,zO,zP,zR,zS]at *;rw [hr,show t.length-i=0 by omega];rfl);done)|(subst hB;(repeat' (first|exact qH|refine qI ?_ ?_|exact qK _|refine qJ ?_|exact qA|exact qE (by rfl)|exact qF (by rfl)|exact Fit.refl _|exact qG _|refine qC ?_ rfl ?_));done)|((try simp only [zQ,zA,zB,zC,zD,zE,zF,zG,zH,zI,zJ,zK,zL,zM,zN,zO,zP,zR,zS]at *);refine⟨⟨i+1,by omega,by rw [hr,ucr (by omega) hcd];(try congr 1)<;>omega,fun j hj=>(Nat.lt_or_ge j i).elim (hq j) (fun q=>by rw [show j=i by omega];exact hcd)⟩,by simp only [];omega,?_⟩;cbv;(repeat' (first|with_reducible refine ua4 ?_ ?_|with_reducible refine And.intro ?_ ?_));(all_goals first|trivial|exact qM (qE (by rfl))|exact qM (qF (by rfl))|exact qM (Fit.refl _)|exact qL (qK _)|(refine qM (qE ?_);(try simp only [qV]at *);simp only [zQ,zA,zB,zC,zD,zE,zF,zG,zH,zI,zJ,zK,zL,zM,zN,zO,zP,zR,zS]at *;omega)|(refine qL (qJ ?_);(repeat' (first|exact qA|exact qB|refine qC ?_ rfl ?_|refine qD ?_ ?_|exact qE (by rfl)|exact qF (by rfl)|exact Fit.refl _|exact qG _|(refine qE ?_;(try simp only [qV]at *);simp only [zQ,zA,zB,zC,zD,zE,zF,zG,zH,zI,zJ,zK,zL,zM,zN,zO,zP,zR,zS]at *;omega)));done)|skip))|skip
theorem ujH (t:List Int)(hfew:t.length≤1000):ua0 Tryz.prog 98 [(iS t),.clo 99 [] [.own 0 0]] [.cells [.clo 71 [(.agg [(.int .i64 (.lit 0)),(.int .i64 (.lit 2000))])] []] 121] (fun r bs=>r=(bv fun _=>decide (0≤ubK (fun i=>inB 0 (t.getD (i) 0) 2000) (t.length) 0))∧bs=[.cells [.clo 71 [(.agg [(.int .i64 (.lit 0)),(.int .i64 (.lit 2000))])] []] 121]):=by
 have ci:=uks t hfew
 refine ua0.isB rfl fun R B hR hB=>qW (sc:=uyC) uai mix Tryz.func98 rfl Tryz.call98 (by kernel_rfl) (by kernel_rfl) ?_
 generalize Tryz.prog=P at ci⊢
 cbv
 repeat' (first
  |with_reducible refine And.intro ?_ ?_
  | (refine⟨some [0],?_⟩
     cbv
     refine qQ ?_ (ci) (by cbv;(repeat' (first|exact qB|refine qD ?_ ?_|exact qE (by rfl)|exact qF (by rfl)|exact Fit.refl _|exact qA|refine qC ?_ rfl ?_))) (by cbv;(repeat' (first|exact qH|refine qI ?_ ?_|exact qK _|refine qJ ?_|exact qA|exact qE (by rfl)|exact qF (by rfl)|exact Fit.refl _|exact qG _|refine qC ?_ rfl ?_)))
     try cbv)
  |fail)
 all_goals first|(subst hR;(repeat' (first|exact qA|exact qB|refine qC ?_ rfl ?_|refine qD ?_ ?_|exact qE (by rfl)|exact qF (by rfl)|exact Fit.refl _|exact qG _|(refine qE ?_;(try simp only [qV]at *);simp only [zQ,zA,zB,zC,zD,zE,zF,zG,zH,zI,zJ,zK,zL,zM,zN,zO,zP,zR,zS]at *;omega)));done)|(subst hB;(repeat' (first|exact qH|refine qI ?_ ?_|exact qK _|refine qJ ?_|exact qA|exact qE (by rfl)|exact qF (by rfl)|exact Fit.refl _|exact qG _|refine qC ?_ rfl ?_));done)|skip
theorem ukV (t:List Int)(hfew:t.length≤1000):ua0 Tryz.prog 70 [(iS t),.clo 71 [(.agg [(.int .i64 (.lit 0)),(.int .i64 (.lit 2000))])] []] [] (fun r _=>r=(bv fun _=>uhy (fun i=>inB 0 (t.getD (i) 0) 2000) (t.length))):=by
 have cc:=ujH t hfew
 refine ua0.is fun R hR=>qW (sc:=uC8) uai mix Tryz.func70 rfl Tryz.call70 (by kernel_rfl) (by kernel_rfl) ?_
 generalize Tryz.prog=P at cc⊢
 cbv
 repeat' (first
  | (refine⟨some [0],?_⟩
     cbv
     refine qQ ?_ (cc) (by cbv;(repeat' (first|exact qB|refine qD ?_ ?_|exact qE (by rfl)|exact qF (by rfl)|exact Fit.refl _|exact qA|refine qC ?_ rfl ?_))) (by cbv;(repeat' (first|exact qH|refine qI ?_ ?_|exact qK _|refine qJ ?_|exact qA|exact qE (by rfl)|exact qF (by rfl)|exact Fit.refl _|exact qG _|refine qC ?_ rfl ?_)))
     try cbv)
  |fail)
 all_goals first|(subst hR;(repeat' (first|exact qA|exact qB|refine qC ?_ rfl ?_|refine qD ?_ ?_|exact qE (by rfl)|exact qF (by rfl)|exact Fit.refl _|exact qG _|(refine qE ?_;(try simp only [qV]at *);simp only [zQ,zA,zB,zC,zD,zE,zF,zG,zH,zI,zJ,zK,zL,zM,zN,zO,zP,zR,zS]at *;omega)));done)|skip
theorem uz1 (d:Dsp)(t:List Int)(i:Nat)(hd:DOk d)(hl:(t.length:Int)=d.sn)(ht:∀i,i<t.length→0≤t.getD i 0∧t.getD i 0≤2000)(hi:i<d.ls.length):ua0 Tryz.prog 73 [(.agg [(iv fun _=>(d.ls.getD (i) l0T).a),(iv fun _=>(d.ls.getD (i) l0T).b),(iv fun _=>(d.ls.getD (i) l0T).lo),(iv fun _=>(d.ls.getD (i) l0T).hi)]),.own 0 0] [.cells [(iS t)] 22] (fun r bs=>r=(bv fun _=>inB (d.ls.getD (i) l0T).lo (t.getD (d.ls.getD (i) l0T).b.toNat 0-t.getD (d.ls.getD (i) l0T).a.toNat 0) (d.ls.getD (i) l0T).hi)∧bs=[.cells [(iS t)] 22]):=by
 have c70:= @uw3
 have hx:=hd.l i hi
 unfold ucy at hx
 have h1:=ht (d.ls.getD i l0T).a.toNat (by omega)
 have h2:=ht (d.ls.getD i l0T).b.toNat (by omega)
 refine ua0.isB rfl fun R B hR hB=>qW (sc:=uAL) uai mix Tryz.func73 rfl Tryz.call73 (by kernel_rfl) (by kernel_rfl) ?_
 generalize Tryz.prog=P at c70⊢
 cbv
 repeat' (first|with_reducible refine ua4 ?_ ?_|with_reducible refine And.intro ?_ ?_|(refine qP ?_ (c70 _ _ _) (by(repeat' (first|exact qB|refine qD ?_ ?_|exact qE (by rfl)|exact qF (by rfl)|exact Fit.refl _|exact qA|refine qC ?_ rfl ?_)));try cbv)|fail)
 all_goals first|((try simp only [qV]at *);(try simp only [zQ,zA,zB,zC,zD,zE,zF,zG,zH,zI,zJ,zK,zL,zM,zN,zO,zP,zR,zS]at *);first|(refine qN ?_;omega)|(simp only [uaj];omega))|(subst hR;(repeat' (first|exact qA|exact qB|refine qC ?_ rfl ?_|refine qD ?_ ?_|exact qE (by rfl)|exact qF (by rfl)|exact Fit.refl _|exact qG _|(refine qE ?_;(try simp only [qV]at *);simp only [zQ,zA,zB,zC,zD,zE,zF,zG,zH,zI,zJ,zK,zL,zM,zN,zO,zP,zR,zS]at *;omega)));done)|(subst hB;(repeat' (first|exact qH|refine qI ?_ ?_|exact qK _|refine qJ ?_|exact qA|exact qE (by rfl)|exact qF (by rfl)|exact Fit.refl _|exact qG _|refine qC ?_ rfl ?_));done)|skip
theorem uA8 (d:Dsp)(t:List Int)(i:Nat)(hd:DOk d)(hl:(t.length:Int)=d.sn)(ht:∀i,i<t.length→0≤t.getD i 0∧t.getD i 0≤2000)(hi:i<d.fs.length):ua0 Tryz.prog 75 [(.agg [(iv fun _=>(d.fs.getD (i) f0T).p),(iv fun _=>(d.fs.getD (i) f0T).s),(iv fun _=>(d.fs.getD (i) f0T).wl),(iv fun _=>(d.fs.getD (i) f0T).wh),(iv fun _=>(d.fs.getD (i) f0T).ml),(iv fun _=>(d.fs.getD (i) f0T).mh)]),.own 0 0,.own 1 0] [.cells [(wpS d)] 87,.cells [(iS t)] 22] (fun r bs=>r=(bv fun _=>inB (mLo d (d.fs.getD (i) f0T)) (t.getD (d.fs.getD (i) f0T).s.toNat 0) (mHi d (d.fs.getD (i) f0T)))∧bs=[.cells [(wpS d)] 87,.cells [(iS t)] 22]):=by
 have c70:= @uw3
 have hx:=hd.f i hi
 have hq:=hx
 unfold ubS at hx
 have c45:=uri d (d.fs.getD i f0T) hd.t hq
 refine ua0.isB rfl fun R B hR hB=>qW (sc:=uAR) uai mix Tryz.func75 rfl Tryz.call75 (by kernel_rfl) (by kernel_rfl) ?_
 generalize Tryz.prog=P at c70 c45⊢
 cbv
 repeat' (first|with_reducible refine ua4 ?_ ?_|with_reducible refine And.intro ?_ ?_|(refine qP ?_ (c45) ?hfit;(case hfit=>((repeat' (first|exact qB|refine qD ?_ ?_|exact qE (by rfl)|exact qF (by rfl)|exact Fit.refl _|exact qA|refine qC ?_ rfl ?_));done));try cbv)|(refine qP ?_ (c70 _ _ _) (by(repeat' (first|exact qB|refine qD ?_ ?_|exact qE (by rfl)|exact qF (by rfl)|exact Fit.refl _|exact qA|refine qC ?_ rfl ?_)));try cbv)|fail)
 all_goals first|((try simp only [qV]at *);(try simp only [zQ,zA,zB,zC,zD,zE,zF,zG,zH,zI,zJ,zK,zL,zM,zN,zO,zP,zR,zS]at *);first|(refine qN ?_;omega)|(simp only [uaj];omega))|(subst hR;(repeat' (first|exact qA|exact qB|refine qC ?_ rfl ?_|refine qD ?_ ?_|exact qE (by rfl)|exact qF (by rfl)|exact Fit.refl _|exact qG _|(refine qE ?_;(try simp only [qV]at *);simp only [zQ,zA,zB,zC,zD,zE,zF,zG,zH,zI,zJ,zK,zL,zM,zN,zO,zP,zR,zS]at *;omega)));done)|(subst hB;(repeat' (first|exact qH|refine qI ?_ ?_|exact qK _|refine qJ ?_|exact qA|exact qE (by rfl)|exact qF (by rfl)|exact Fit.refl _|exact qG _|refine qC ?_ rfl ?_));done)|skip
theorem uqw (d:Dsp)(t:List Int)(hd:DOk d)(hl:(t.length:Int)=d.sn)(ht:∀i,i<t.length→0≤t.getD i 0∧t.getD i 0≤2000)(hfew:d.ls.length≤1000)(i:Nat)(hi:i<d.ls.length∧∀j,j<i→(inB (d.ls.getD (j) l0T).lo (t.getD (d.ls.getD (j) l0T).b.toNat 0-t.getD (d.ls.getD (j) l0T).a.toNat 0) (d.ls.getD (j) l0T).hi)=true):ua0 Tryz.prog 101 [(.agg [(iv fun _=>(d.ls.getD (i) l0T).a),(iv fun _=>(d.ls.getD (i) l0T).b),(iv fun _=>(d.ls.getD (i) l0T).lo),(iv fun _=>(d.ls.getD (i) l0T).hi)]),.own 0 0] [.cells [.clo 73 [] [.own 1 0]] 133,.cells [(iS t)] 22] (fun r bs=>r=(bv fun _=> !(inB (d.ls.getD (i) l0T).lo (t.getD (d.ls.getD (i) l0T).b.toNat 0-t.getD (d.ls.getD (i) l0T).a.toNat 0) (d.ls.getD (i) l0T).hi))∧bs=[.cells [.clo 73 [] [.own 1 0]] 133,.cells [(iS t)] 22]):=by
 have cf:=uz1 d t i hd hl ht hi.1
 refine ua0.isB rfl fun R B hR hB=>qW (sc:=uwL) uai mix Tryz.func101 rfl Tryz.call101 (by kernel_rfl) (by kernel_rfl) ?_
 generalize Tryz.prog=P at cf⊢
 cbv
 repeat' (first
  |with_reducible refine And.intro ?_ ?_
  | (refine⟨some [1],?_⟩
     cbv
     refine qQ ?_ (cf) (by cbv;(repeat' (first|exact qB|refine qD ?_ ?_|exact qE (by rfl)|exact qF (by rfl)|exact Fit.refl _|exact qA|refine qC ?_ rfl ?_))) (by cbv;(repeat' (first|exact qH|refine qI ?_ ?_|exact qK _|refine qJ ?_|exact qA|exact qE (by rfl)|exact qF (by rfl)|exact Fit.refl _|exact qG _|refine qC ?_ rfl ?_)))
     try cbv)
  |fail)
 all_goals first|(subst hR;(repeat' (first|exact qA|exact qB|refine qC ?_ rfl ?_|refine qD ?_ ?_|exact qE (by rfl)|exact qF (by rfl)|exact Fit.refl _|exact qG _|(refine qE ?_;(try simp only [qV]at *);simp only [zQ,zA,zB,zC,zD,zE,zF,zG,zH,zI,zJ,zK,zL,zM,zN,zO,zP,zR,zS]at *;omega)));done)|(subst hB;(repeat' (first|exact qH|refine qI ?_ ?_|exact qK _|refine qJ ?_|exact qA|exact qE (by rfl)|exact qF (by rfl)|exact Fit.refl _|exact qG _|refine qC ?_ rfl ?_));done)|skip
theorem uox (d:Dsp)(t:List Int)(hd:DOk d)(hl:(t.length:Int)=d.sn)(ht:∀i,i<t.length→0≤t.getD i 0∧t.getD i 0≤2000)(hfew:d.ls.length≤1000):ua0 Tryz.prog 115 [(.sl 4 (.sym fun _=>zi (d.ls).length) (fun ix=>[(iv fun _=>((d.ls).getD ix.den.toNat l0T).a),(iv fun _=>((d.ls).getD ix.den.toNat l0T).b),(iv fun _=>((d.ls).getD ix.den.toNat l0T).lo),(iv fun _=>((d.ls).getD ix.den.toNat l0T).hi)])),.clo 101 [] [.own 0 0]] [.cells [.clo 73 [] [.own 1 0]] 133,.cells [(iS t)] 22] (fun r bs=>r=(iv fun _=>ubK (fun i=>inB (d.ls.getD (i) l0T).lo (t.getD (d.ls.getD (i) l0T).b.toNat 0-t.getD (d.ls.getD (i) l0T).a.toNat 0) (d.ls.getD (i) l0T).hi) (d.ls.length) 0)∧bs=[.cells [.clo 73 [] [.own 1 0]] 133,.cells [(iS t)] 22]):=by
 have cl:=uqw d t hd hl ht hfew
 refine ua0.isB rfl fun R B hR hB=>qW (sc:=uwU) uai mix Tryz.func115 rfl Tryz.call115 (by kernel_rfl) (by kernel_rfl) ?_
 generalize Tryz.prog=P at cl⊢
 cbv
 repeat' (first|fail)
 all_goals first|skip
 refine⟨none,[],{i:Nat // i≤d.ls.length∧ubK (fun i=>inB (d.ls.getD (i) l0T).lo (t.getD (d.ls.getD (i) l0T).b.toNat 0-t.getD (d.ls.getD (i) l0T).a.toNat 0) (d.ls.getD (i) l0T).hi) (d.ls.length) 0=ubK (fun i=>inB (d.ls.getD (i) l0T).lo (t.getD (d.ls.getD (i) l0T).b.toNat 0-t.getD (d.ls.getD (i) l0T).a.toNat 0) (d.ls.getD (i) l0T).hi) (d.ls.length-i) i∧∀j,j<i→(inB (d.ls.getD (j) l0T).lo (t.getD (d.ls.getD (j) l0T).b.toNat 0-t.getD (d.ls.getD (j) l0T).a.toNat 0) (d.ls.getD (j) l0T).hi)=true},fun x=>⟨[(0,(.sl 4 (.sym fun _=>zi (d.ls).length) (fun ix=>[(iv fun _=>((d.ls).getD ix.den.toNat l0T).a),(iv fun _=>((d.ls).getD ix.den.toNat l0T).b),(iv fun _=>((d.ls).getD ix.den.toNat l0T).lo),(iv fun _=>((d.ls).getD ix.den.toNat l0T).hi)]))),(1,.clo 101 [] [.own 0 0]),(7,(iv fun _=>zi (d.ls.length))),(8,(iv fun _=>zi x.1))],[(0,.cells [.clo 73 [] [.own 1 0]] 133),(1,.cells [(iS t)] 22)],20⟩,fun x=>d.ls.length-x.1,?_,?_⟩
 ·refine⟨⟨0,by omega,rfl,fun j hj=>by omega⟩,?_⟩
  cbv
  repeat' (first|with_reducible refine ua4 ?_ ?_|with_reducible refine And.intro ?_ ?_)
  all_goals first|trivial|exact qM (qE (by rfl))|exact qM (Fit.refl _)|exact qL (qK _)|skip
 ·rintro ⟨i,hi,hr,hq⟩
  cbv
  repeat' (first
   |with_reducible refine ua4 ?_ ?_
   |with_reducible refine And.intro ?_ ?_
   |(with_reducible intro hcd;(try simp only [zA,zB,zC,zD,zE,zF,zG,zH,zI,zJ,zK,zL,zM,zN,zO,zP]at hcd);try cbv)
   | (refine⟨some [0,1],?_⟩
      cbv
      refine qQ ?_ (cl i ⟨by(try simp only [qV]at *);simp only [uac]at *;omega,hq⟩) (by cbv;(repeat' (first|exact qB|refine qD ?_ ?_|exact qE (by rfl)|exact qF (by rfl)|exact Fit.refl _|exact qA|refine qC ?_ rfl ?_))) (by cbv;(repeat' (first|exact qH|refine qI ?_ ?_|exact qK _|refine qJ ?_|exact qA|exact qE (by rfl)|exact qF (by rfl)|exact Fit.refl _|exact qG _|refine qC ?_ rfl ?_)))
      try cbv)
   |fail)
  all_goals first|((try simp only [qV]at *);(try simp only [zQ,zA,zB,zC,zD,zE,zF,zG,zH,zI,zJ,zK,zL,zM,zN,zO,zP,zR,zS]at *);first|(refine qN ?_;omega)|(simp only [uaj];omega))|(subst hR;(refine qE ?_;simp only [zQ,zA,zB,zC,zD,zE,zF,zG,zH,zI,zJ,zK,zL,zM,zN,zO,zP,zR,zS]at *;rw [hr,ubd (by omega) hcd]);done)|(subst hR;(refine qE ?_;simp only [zQ,zA,zB,zC,zD,zE,zF,zG,zH,zI,zJ,zK,zL,zM,zN,zO,zP,zR,zS]at *;rw [hr,show d.ls.length-i=0 by omega];rfl);done)|(subst hB;(repeat' (first|exact qH|refine qI ?_ ?_|exact qK _|refine qJ ?_|exact qA|exact qE (by rfl)|exact qF (by rfl)|exact Fit.refl _|exact qG _|refine qC ?_ rfl ?_));done)|((try simp only [zQ,zA,zB,zC,zD,zE,zF,zG,zH,zI,zJ,zK,zL,zM,zN,zO,zP,zR,zS]at *);refine⟨⟨i+1,by omega,by rw [hr,ucr (by omega) hcd];(try congr 1)<;>omega,fun j hj=>(Nat.lt_or_ge j i).elim (hq j) (fun q=>by rw [show j=i by omega];exact hcd)⟩,by simp only [];omega,?_⟩;cbv;(repeat' (first|with_reducible refine ua4 ?_ ?_|with_reducible refine And.intro ?_ ?_));(all_goals first|trivial|exact qM (qE (by rfl))|exact qM (qF (by rfl))|exact qM (Fit.refl _)|exact qL (qK _)|(refine qM (qE ?_);(try simp only [qV]at *);simp only [zQ,zA,zB,zC,zD,zE,zF,zG,zH,zI,zJ,zK,zL,zM,zN,zO,zP,zR,zS]at *;omega)|(refine qL (qJ ?_);(repeat' (first|exact qA|exact qB|refine qC ?_ rfl ?_|refine qD ?_ ?_|exact qE (by rfl)|exact qF (by rfl)|exact Fit.refl _|exact qG _|(refine qE ?_;(try simp only [qV]at *);simp only [zQ,zA,zB,zC,zD,zE,zF,zG,zH,zI,zJ,zK,zL,zM,zN,zO,zP,zR,zS]at *;omega)));done)|skip))|skip
theorem uou (d:Dsp)(t:List Int)(hd:DOk d)(hl:(t.length:Int)=d.sn)(ht:∀i,i<t.length→0≤t.getD i 0∧t.getD i 0≤2000)(hfew:d.ls.length≤1000):ua0 Tryz.prog 100 [(.sl 4 (.sym fun _=>zi (d.ls).length) (fun ix=>[(iv fun _=>((d.ls).getD ix.den.toNat l0T).a),(iv fun _=>((d.ls).getD ix.den.toNat l0T).b),(iv fun _=>((d.ls).getD ix.den.toNat l0T).lo),(iv fun _=>((d.ls).getD ix.den.toNat l0T).hi)])),.clo 101 [] [.own 0 0]] [.cells [.clo 73 [] [.own 1 0]] 133,.cells [(iS t)] 22] (fun r bs=>r=(bv fun _=>decide (0≤ubK (fun i=>inB (d.ls.getD (i) l0T).lo (t.getD (d.ls.getD (i) l0T).b.toNat 0-t.getD (d.ls.getD (i) l0T).a.toNat 0) (d.ls.getD (i) l0T).hi) (d.ls.length) 0))∧bs=[.cells [.clo 73 [] [.own 1 0]] 133,.cells [(iS t)] 22]):=by
 have ci:=uox d t hd hl ht hfew
 refine ua0.isB rfl fun R B hR hB=>qW (sc:=uwA) uai mix Tryz.func100 rfl Tryz.call100 (by kernel_rfl) (by kernel_rfl) ?_
 generalize Tryz.prog=P at ci⊢
 cbv
 repeat' (first
  |with_reducible refine And.intro ?_ ?_
  | (refine⟨some [0,1],?_⟩
     cbv
     refine qQ ?_ (ci) (by cbv;(repeat' (first|exact qB|refine qD ?_ ?_|exact qE (by rfl)|exact qF (by rfl)|exact Fit.refl _|exact qA|refine qC ?_ rfl ?_))) (by cbv;(repeat' (first|exact qH|refine qI ?_ ?_|exact qK _|refine qJ ?_|exact qA|exact qE (by rfl)|exact qF (by rfl)|exact Fit.refl _|exact qG _|refine qC ?_ rfl ?_)))
     try cbv)
  |fail)
 all_goals first|(subst hR;(repeat' (first|exact qA|exact qB|refine qC ?_ rfl ?_|refine qD ?_ ?_|exact qE (by rfl)|exact qF (by rfl)|exact Fit.refl _|exact qG _|(refine qE ?_;(try simp only [qV]at *);simp only [zQ,zA,zB,zC,zD,zE,zF,zG,zH,zI,zJ,zK,zL,zM,zN,zO,zP,zR,zS]at *;omega)));done)|(subst hB;(repeat' (first|exact qH|refine qI ?_ ?_|exact qK _|refine qJ ?_|exact qA|exact qE (by rfl)|exact qF (by rfl)|exact Fit.refl _|exact qG _|refine qC ?_ rfl ?_));done)|skip
theorem upM (d:Dsp)(t:List Int)(hd:DOk d)(hl:(t.length:Int)=d.sn)(ht:∀i,i<t.length→0≤t.getD i 0∧t.getD i 0≤2000)(hfew:d.ls.length≤1000):ua0 Tryz.prog 72 [(.sl 4 (.sym fun _=>zi (d.ls).length) (fun ix=>[(iv fun _=>((d.ls).getD ix.den.toNat l0T).a),(iv fun _=>((d.ls).getD ix.den.toNat l0T).b),(iv fun _=>((d.ls).getD ix.den.toNat l0T).lo),(iv fun _=>((d.ls).getD ix.den.toNat l0T).hi)])),.clo 73 [] [.own 0 0]] [.cells [(iS t)] 22] (fun r bs=>r=(bv fun _=>uhy (fun i=>inB (d.ls.getD (i) l0T).lo (t.getD (d.ls.getD (i) l0T).b.toNat 0-t.getD (d.ls.getD (i) l0T).a.toNat 0) (d.ls.getD (i) l0T).hi) (d.ls.length))∧bs=[.cells [(iS t)] 22]):=by
 have cc:=uou d t hd hl ht hfew
 refine ua0.isB rfl fun R B hR hB=>qW (sc:=uAz) uai mix Tryz.func72 rfl Tryz.call72 (by kernel_rfl) (by kernel_rfl) ?_
 generalize Tryz.prog=P at cc⊢
 cbv
 repeat' (first
  |with_reducible refine And.intro ?_ ?_
  | (refine⟨some [1,0],?_⟩
     cbv
     refine qQ ?_ (cc) (by cbv;(repeat' (first|exact qB|refine qD ?_ ?_|exact qE (by rfl)|exact qF (by rfl)|exact Fit.refl _|exact qA|refine qC ?_ rfl ?_))) (by cbv;(repeat' (first|exact qH|refine qI ?_ ?_|exact qK _|refine qJ ?_|exact qA|exact qE (by rfl)|exact qF (by rfl)|exact Fit.refl _|exact qG _|refine qC ?_ rfl ?_)))
     try cbv)
  |fail)
 all_goals first|(subst hR;(repeat' (first|exact qA|exact qB|refine qC ?_ rfl ?_|refine qD ?_ ?_|exact qE (by rfl)|exact qF (by rfl)|exact Fit.refl _|exact qG _|(refine qE ?_;(try simp only [qV]at *);simp only [zQ,zA,zB,zC,zD,zE,zF,zG,zH,zI,zJ,zK,zL,zM,zN,zO,zP,zR,zS]at *;omega)));done)|(subst hB;(repeat' (first|exact qH|refine qI ?_ ?_|exact qK _|refine qJ ?_|exact qA|exact qE (by rfl)|exact qF (by rfl)|exact Fit.refl _|exact qG _|refine qC ?_ rfl ?_));done)|skip
theorem uqX (d:Dsp)(t:List Int)(hd:DOk d)(hl:(t.length:Int)=d.sn)(ht:∀i,i<t.length→0≤t.getD i 0∧t.getD i 0≤2000)(hfew:d.fs.length≤1000)(i:Nat)(hi:i<d.fs.length∧∀j,j<i→(inB (mLo d (d.fs.getD (j) f0T)) (t.getD (d.fs.getD (j) f0T).s.toNat 0) (mHi d (d.fs.getD (j) f0T)))=true):ua0 Tryz.prog 103 [(.agg [(iv fun _=>(d.fs.getD (i) f0T).p),(iv fun _=>(d.fs.getD (i) f0T).s),(iv fun _=>(d.fs.getD (i) f0T).wl),(iv fun _=>(d.fs.getD (i) f0T).wh),(iv fun _=>(d.fs.getD (i) f0T).ml),(iv fun _=>(d.fs.getD (i) f0T).mh)]),.own 0 0] [.cells [.clo 75 [] [.own 1 0,.own 2 0]] 136,.cells [(wpS d)] 87,.cells [(iS t)] 22] (fun r bs=>r=(bv fun _=> !(inB (mLo d (d.fs.getD (i) f0T)) (t.getD (d.fs.getD (i) f0T).s.toNat 0) (mHi d (d.fs.getD (i) f0T))))∧bs=[.cells [.clo 75 [] [.own 1 0,.own 2 0]] 136,.cells [(wpS d)] 87,.cells [(iS t)] 22]):=by
 have cf:=uA8 d t i hd hl ht hi.1
 refine ua0.isB rfl fun R B hR hB=>qW (sc:=uxu) uai mix Tryz.func103 rfl Tryz.call103 (by kernel_rfl) (by kernel_rfl) ?_
 generalize Tryz.prog=P at cf⊢
 cbv
 repeat' (first
  |with_reducible refine And.intro ?_ ?_
  | (refine⟨some [1,2],?_⟩
     cbv
     refine qQ ?_ (cf) (by cbv;(repeat' (first|exact qB|refine qD ?_ ?_|exact qE (by rfl)|exact qF (by rfl)|exact Fit.refl _|exact qA|refine qC ?_ rfl ?_))) (by cbv;(repeat' (first|exact qH|refine qI ?_ ?_|exact qK _|refine qJ ?_|exact qA|exact qE (by rfl)|exact qF (by rfl)|exact Fit.refl _|exact qG _|refine qC ?_ rfl ?_)))
     try cbv)
  |fail)
 all_goals first|(subst hR;(repeat' (first|exact qA|exact qB|refine qC ?_ rfl ?_|refine qD ?_ ?_|exact qE (by rfl)|exact qF (by rfl)|exact Fit.refl _|exact qG _|(refine qE ?_;(try simp only [qV]at *);simp only [zQ,zA,zB,zC,zD,zE,zF,zG,zH,zI,zJ,zK,zL,zM,zN,zO,zP,zR,zS]at *;omega)));done)|(subst hB;(repeat' (first|exact qH|refine qI ?_ ?_|exact qK _|refine qJ ?_|exact qA|exact qE (by rfl)|exact qF (by rfl)|exact Fit.refl _|exact qG _|refine qC ?_ rfl ?_));done)|skip
theorem unJ (d:Dsp)(t:List Int)(hd:DOk d)(hl:(t.length:Int)=d.sn)(ht:∀i,i<t.length→0≤t.getD i 0∧t.getD i 0≤2000)(hfew:d.fs.length≤1000):ua0 Tryz.prog 116 [(.sl 6 (.sym fun _=>zi (d.fs).length) (fun ix=>[(iv fun _=>((d.fs).getD ix.den.toNat f0T).p),(iv fun _=>((d.fs).getD ix.den.toNat f0T).s),(iv fun _=>((d.fs).getD ix.den.toNat f0T).wl),(iv fun _=>((d.fs).getD ix.den.toNat f0T).wh),(iv fun _=>((d.fs).getD ix.den.toNat f0T).ml),(iv fun _=>((d.fs).getD ix.den.toNat f0T).mh)])),.clo 103 [] [.own 0 0]] [.cells [.clo 75 [] [.own 1 0,.own 2 0]] 136,.cells [(wpS d)] 87,.cells [(iS t)] 22] (fun r bs=>r=(iv fun _=>ubK (fun i=>inB (mLo d (d.fs.getD (i) f0T)) (t.getD (d.fs.getD (i) f0T).s.toNat 0) (mHi d (d.fs.getD (i) f0T))) (d.fs.length) 0)∧bs=[.cells [.clo 75 [] [.own 1 0,.own 2 0]] 136,.cells [(wpS d)] 87,.cells [(iS t)] 22]):=by
 have cl:=uqX d t hd hl ht hfew
 refine ua0.isB rfl fun R B hR hB=>qW (sc:=uxJ) uai mix Tryz.func116 rfl Tryz.call116 (by kernel_rfl) (by kernel_rfl) ?_
 generalize Tryz.prog=P at cl⊢
 cbv
 repeat' (first|fail)
 all_goals first|skip
 refine⟨none,[],{i:Nat // i≤d.fs.length∧ubK (fun i=>inB (mLo d (d.fs.getD (i) f0T)) (t.getD (d.fs.getD (i) f0T).s.toNat 0) (mHi d (d.fs.getD (i) f0T))) (d.fs.length) 0=ubK (fun i=>inB (mLo d (d.fs.getD (i) f0T)) (t.getD (d.fs.getD (i) f0T).s.toNat 0) (mHi d (d.fs.getD (i) f0T))) (d.fs.length-i) i∧∀j,j<i→(inB (mLo d (d.fs.getD (j) f0T)) (t.getD (d.fs.getD (j) f0T).s.toNat 0) (mHi d (d.fs.getD (j) f0T)))=true},fun x=>⟨[(0,(.sl 6 (.sym fun _=>zi (d.fs).length) (fun ix=>[(iv fun _=>((d.fs).getD ix.den.toNat f0T).p),(iv fun _=>((d.fs).getD ix.den.toNat f0T).s),(iv fun _=>((d.fs).getD ix.den.toNat f0T).wl),(iv fun _=>((d.fs).getD ix.den.toNat f0T).wh),(iv fun _=>((d.fs).getD ix.den.toNat f0T).ml),(iv fun _=>((d.fs).getD ix.den.toNat f0T).mh)]))),(1,.clo 103 [] [.own 0 0]),(7,(iv fun _=>zi (d.fs.length))),(8,(iv fun _=>zi x.1))],[(0,.cells [.clo 75 [] [.own 1 0,.own 2 0]] 136),(1,.cells [(wpS d)] 87),(2,.cells [(iS t)] 22)],20⟩,fun x=>d.fs.length-x.1,?_,?_⟩
 ·refine⟨⟨0,by omega,rfl,fun j hj=>by omega⟩,?_⟩
  cbv
  repeat' (first|with_reducible refine ua4 ?_ ?_|with_reducible refine And.intro ?_ ?_)
  all_goals first|trivial|exact qM (qE (by rfl))|exact qM (Fit.refl _)|exact qL (qK _)|skip
 ·rintro ⟨i,hi,hr,hq⟩
  cbv
  repeat' (first
   |with_reducible refine ua4 ?_ ?_
   |with_reducible refine And.intro ?_ ?_
   |(with_reducible intro hcd;(try simp only [zA,zB,zC,zD,zE,zF,zG,zH,zI,zJ,zK,zL,zM,zN,zO,zP]at hcd);try cbv)
   | (refine⟨some [0,1,2],?_⟩
      cbv
      refine qQ ?_ (cl i ⟨by(try simp only [qV]at *);simp only [uac]at *;omega,hq⟩) (by cbv;(repeat' (first|exact qB|refine qD ?_ ?_|exact qE (by rfl)|exact qF (by rfl)|exact Fit.refl _|exact qA|refine qC ?_ rfl ?_))) (by cbv;(repeat' (first|exact qH|refine qI ?_ ?_|exact qK _|refine qJ ?_|exact qA|exact qE (by rfl)|exact qF (by rfl)|exact Fit.refl _|exact qG _|refine qC ?_ rfl ?_)))
      try cbv)
   |fail)
  all_goals first|((try simp only [qV]at *);(try simp only [zQ,zA,zB,zC,zD,zE,zF,zG,zH,zI,zJ,zK,zL,zM,zN,zO,zP,zR,zS]at *);first|(refine qN ?_;omega)|(simp only [uaj];omega))|(subst hR;(refine qE ?_;simp only [zQ,zA,zB,zC,zD,zE,zF,zG,zH,zI,zJ,zK,zL,zM,zN,zO,zP,zR,zS]at *;rw [hr,ubd (by omega) hcd]);done)|(subst hR;(refine qE ?_;simp only [zQ,zA,zB,zC,zD,zE,zF,zG,zH,zI,zJ,zK,zL,zM,zN,zO,zP,zR,zS]at *;rw [hr,show d.fs.length-i=0 by omega];rfl);done)|(subst hB;(repeat' (first|exact qH|refine qI ?_ ?_|exact qK _|refine qJ ?_|exact qA|exact qE (by rfl)|exact qF (by rfl)|exact Fit.refl _|exact qG _|refine qC ?_ rfl ?_));done)|((try simp only [zQ,zA,zB,zC,zD,zE,zF,zG,zH,zI,zJ,zK,zL,zM,zN,zO,zP,zR,zS]at *);refine⟨⟨i+1,by omega,by rw [hr,ucr (by omega) hcd];(try congr 1)<;>omega,fun j hj=>(Nat.lt_or_ge j i).elim (hq j) (fun q=>by rw [show j=i by omega];exact hcd)⟩,by simp only [];omega,?_⟩;cbv;(repeat' (first|with_reducible refine ua4 ?_ ?_|with_reducible refine And.intro ?_ ?_));(all_goals first|trivial|exact qM (qE (by rfl))|exact qM (qF (by rfl))|exact qM (Fit.refl _)|exact qL (qK _)|(refine qM (qE ?_);(try simp only [qV]at *);simp only [zQ,zA,zB,zC,zD,zE,zF,zG,zH,zI,zJ,zK,zL,zM,zN,zO,zP,zR,zS]at *;omega)|(refine qL (qJ ?_);(repeat' (first|exact qA|exact qB|refine qC ?_ rfl ?_|refine qD ?_ ?_|exact qE (by rfl)|exact qF (by rfl)|exact Fit.refl _|exact qG _|(refine qE ?_;(try simp only [qV]at *);simp only [zQ,zA,zB,zC,zD,zE,zF,zG,zH,zI,zJ,zK,zL,zM,zN,zO,zP,zR,zS]at *;omega)));done)|skip))|skip
theorem unZ (d:Dsp)(t:List Int)(hd:DOk d)(hl:(t.length:Int)=d.sn)(ht:∀i,i<t.length→0≤t.getD i 0∧t.getD i 0≤2000)(hfew:d.fs.length≤1000):ua0 Tryz.prog 102 [(.sl 6 (.sym fun _=>zi (d.fs).length) (fun ix=>[(iv fun _=>((d.fs).getD ix.den.toNat f0T).p),(iv fun _=>((d.fs).getD ix.den.toNat f0T).s),(iv fun _=>((d.fs).getD ix.den.toNat f0T).wl),(iv fun _=>((d.fs).getD ix.den.toNat f0T).wh),(iv fun _=>((d.fs).getD ix.den.toNat f0T).ml),(iv fun _=>((d.fs).getD ix.den.toNat f0T).mh)])),.clo 103 [] [.own 0 0]] [.cells [.clo 75 [] [.own 1 0,.own 2 0]] 136,.cells [(wpS d)] 87,.cells [(iS t)] 22] (fun r bs=>r=(bv fun _=>decide (0≤ubK (fun i=>inB (mLo d (d.fs.getD (i) f0T)) (t.getD (d.fs.getD (i) f0T).s.toNat 0) (mHi d (d.fs.getD (i) f0T))) (d.fs.length) 0))∧bs=[.cells [.clo 75 [] [.own 1 0,.own 2 0]] 136,.cells [(wpS d)] 87,.cells [(iS t)] 22]):=by
 have ci:=unJ d t hd hl ht hfew
 refine ua0.isB rfl fun R B hR hB=>qW (sc:=uwX) uai mix Tryz.func102 rfl Tryz.call102 (by kernel_rfl) (by kernel_rfl) ?_
 generalize Tryz.prog=P at ci⊢
 cbv
 repeat' (first
  |with_reducible refine And.intro ?_ ?_
  | (refine⟨some [0,1,2],?_⟩
     cbv
     refine qQ ?_ (ci) (by cbv;(repeat' (first|exact qB|refine qD ?_ ?_|exact qE (by rfl)|exact qF (by rfl)|exact Fit.refl _|exact qA|refine qC ?_ rfl ?_))) (by cbv;(repeat' (first|exact qH|refine qI ?_ ?_|exact qK _|refine qJ ?_|exact qA|exact qE (by rfl)|exact qF (by rfl)|exact Fit.refl _|exact qG _|refine qC ?_ rfl ?_)))
     try cbv)
  |fail)
 all_goals first|(subst hR;(repeat' (first|exact qA|exact qB|refine qC ?_ rfl ?_|refine qD ?_ ?_|exact qE (by rfl)|exact qF (by rfl)|exact Fit.refl _|exact qG _|(refine qE ?_;(try simp only [qV]at *);simp only [zQ,zA,zB,zC,zD,zE,zF,zG,zH,zI,zJ,zK,zL,zM,zN,zO,zP,zR,zS]at *;omega)));done)|(subst hB;(repeat' (first|exact qH|refine qI ?_ ?_|exact qK _|refine qJ ?_|exact qA|exact qE (by rfl)|exact qF (by rfl)|exact Fit.refl _|exact qG _|refine qC ?_ rfl ?_));done)|skip
theorem upD (d:Dsp)(t:List Int)(hd:DOk d)(hl:(t.length:Int)=d.sn)(ht:∀i,i<t.length→0≤t.getD i 0∧t.getD i 0≤2000)(hfew:d.fs.length≤1000):ua0 Tryz.prog 74 [(.sl 6 (.sym fun _=>zi (d.fs).length) (fun ix=>[(iv fun _=>((d.fs).getD ix.den.toNat f0T).p),(iv fun _=>((d.fs).getD ix.den.toNat f0T).s),(iv fun _=>((d.fs).getD ix.den.toNat f0T).wl),(iv fun _=>((d.fs).getD ix.den.toNat f0T).wh),(iv fun _=>((d.fs).getD ix.den.toNat f0T).ml),(iv fun _=>((d.fs).getD ix.den.toNat f0T).mh)])),.clo 75 [] [.own 0 0,.own 1 0]] [.cells [(wpS d)] 87,.cells [(iS t)] 22] (fun r bs=>r=(bv fun _=>uhy (fun i=>inB (mLo d (d.fs.getD (i) f0T)) (t.getD (d.fs.getD (i) f0T).s.toNat 0) (mHi d (d.fs.getD (i) f0T))) (d.fs.length))∧bs=[.cells [(wpS d)] 87,.cells [(iS t)] 22]):=by
 have cc:=unZ d t hd hl ht hfew
 refine ua0.isB rfl fun R B hR hB=>qW (sc:=uAC) uai mix Tryz.func74 rfl Tryz.call74 (by kernel_rfl) (by kernel_rfl) ?_
 generalize Tryz.prog=P at cc⊢
 cbv
 repeat' (first
  |with_reducible refine And.intro ?_ ?_
  | (refine⟨some [2,0,1],?_⟩
     cbv
     refine qQ ?_ (cc) (by cbv;(repeat' (first|exact qB|refine qD ?_ ?_|exact qE (by rfl)|exact qF (by rfl)|exact Fit.refl _|exact qA|refine qC ?_ rfl ?_))) (by cbv;(repeat' (first|exact qH|refine qI ?_ ?_|exact qK _|refine qJ ?_|exact qA|exact qE (by rfl)|exact qF (by rfl)|exact Fit.refl _|exact qG _|refine qC ?_ rfl ?_)))
     try cbv)
  |fail)
 all_goals first|(subst hR;(repeat' (first|exact qA|exact qB|refine qC ?_ rfl ?_|refine qD ?_ ?_|exact qE (by rfl)|exact qF (by rfl)|exact Fit.refl _|exact qG _|(refine qE ?_;(try simp only [qV]at *);simp only [zQ,zA,zB,zC,zD,zE,zF,zG,zH,zI,zJ,zK,zL,zM,zN,zO,zP,zR,zS]at *;omega)));done)|(subst hB;(repeat' (first|exact qH|refine qI ?_ ?_|exact qK _|refine qJ ?_|exact qA|exact qE (by rfl)|exact qF (by rfl)|exact Fit.refl _|exact qG _|refine qC ?_ rfl ?_));done)|skip
def inT (t:List Int):Bool:=uhy (fun i=>inB 0 (t.getD i 0) 2000) t.length
def lkT (d:Dsp)(t:List Int):Bool:=uhy (fun i=>inB (d.ls.getD (i) l0T).lo (t.getD (d.ls.getD (i) l0T).b.toNat 0-t.getD (d.ls.getD (i) l0T).a.toNat 0) (d.ls.getD (i) l0T).hi) d.ls.length
def ftT (d:Dsp)(t:List Int):Bool:=uhy (fun i=>inB (mLo d (d.fs.getD (i) f0T)) (t.getD (d.fs.getD (i) f0T).s.toNat 0) (mHi d (d.fs.getD (i) f0T))) d.fs.length
def ujj (d:Dsp)(t:List Int):Bool:=decide (ua5 d=0∧(t.length:Int)=d.sn)&&(inT t&&(lkT d t&&ftT d t))
theorem uzF {d:Dsp} {t:List Int}(h:¬(ua5 d=0∧(t.length:Int)=d.sn)):ujj d t=false:=by unfold ujj;rw [decide_eq_false h];rfl
theorem uzs {d:Dsp} {t:List Int}(h:inT t=false):ujj d t=false:=by unfold ujj;rw [h];simp
theorem uzY {d:Dsp} {t:List Int}(h:lkT d t=false):ujj d t=false:=by unfold ujj;rw [h];simp
theorem uze {d:Dsp} {t:List Int}(h:ua5 d=0∧(t.length:Int)=d.sn)(h2:inT t=true)(h3:lkT d t=true):ujj d t=ftT d t:=by unfold ujj;rw [decide_eq_true h,h2,h3];rfl
theorem uu6 {t:List Int}(h:inT t=true):∀i,i<t.length→0≤t.getD i 0∧t.getD i 0≤2000:=fun i hi=>by
 unfold inT at h
 rw [uah]at h
 have:=h i hi
 rwa [uav]at this
theorem ufx (d:Dsp)(t:List Int)(hn:t.length≤1000):ua0 Tryz.prog 31 [(ub0 d),(iS t)] [] (fun r _=>r=(bv fun _=>ujj d t)):=by
 have c16:=ubA d
 have c44:=ucK d
 have c69:=(show ua0 Tryz.prog 70 [(iS t),.clo 71 [(.agg [(.int .i64 (.lit 0)),(.int .i64 (.lit 2000))])] []] [] (fun r _=>r=(bv fun _=>inT t))from ukV t hn)
 have c51:=fun h:ua5 d=0∧(t.length:Int)=d.sn∧inT t=true=>(show ua0 Tryz.prog 72 [(.sl 4 (.sym fun _=>zi (d.ls).length) (fun ix=>[(iv fun _=>((d.ls).getD ix.den.toNat l0T).a),(iv fun _=>((d.ls).getD ix.den.toNat l0T).b),(iv fun _=>((d.ls).getD ix.den.toNat l0T).lo),(iv fun _=>((d.ls).getD ix.den.toNat l0T).hi)])),.clo 73 [] [.own 0 0]] [.cells [(iS t)] 22] (fun r bs=>r=(bv fun _=>lkT d t)∧bs=[.cells [(iS t)] 22])from upM d t (ua3.1 h.1) h.2.1 (uu6 h.2.2) (by have:=(ua3.1 h.1).l4;omega))
 have c52:=fun h:ua5 d=0∧(t.length:Int)=d.sn∧inT t=true=>(show ua0 Tryz.prog 74 [(.sl 6 (.sym fun _=>zi (d.fs).length) (fun ix=>[(iv fun _=>((d.fs).getD ix.den.toNat f0T).p),(iv fun _=>((d.fs).getD ix.den.toNat f0T).s),(iv fun _=>((d.fs).getD ix.den.toNat f0T).wl),(iv fun _=>((d.fs).getD ix.den.toNat f0T).wh),(iv fun _=>((d.fs).getD ix.den.toNat f0T).ml),(iv fun _=>((d.fs).getD ix.den.toNat f0T).mh)])),.clo 75 [] [.own 0 0,.own 1 0]] [.cells [(wpS d)] 87,.cells [(iS t)] 22] (fun r bs=>r=(bv fun _=>ftT d t)∧bs=[.cells [(wpS d)] 87,.cells [(iS t)] 22])from upD d t (ua3.1 h.1) h.2.1 (uu6 h.2.2) (by have:=(ua3.1 h.1).f6;omega))
 refine ua0.is fun R hR=>qW (sc:=uB6) uai mix Tryz.func31 rfl Tryz.call31 (by kernel_rfl) (by kernel_rfl) ?_
 generalize Tryz.prog=P at c16 c44 c69 c51 c52⊢
 cbv
 repeat' (first
  |with_reducible refine And.intro ?_ ?_
  |(with_reducible intro hcd;(try simp only [zA,zB,zC,zD,zE,zF,zG,zH,zI,zJ,zK,zL,zM,zN,zO,zP]at hcd);try cbv)
  |(refine qP ?_ (c16) ?hfit;(case hfit=>((repeat' (first|exact qB|refine qD ?_ ?_|exact qE (by rfl)|exact qF (by rfl)|exact Fit.refl _|exact qA|refine qC ?_ rfl ?_));done));try cbv)
  |(refine qP ?_ (c44) ?hfit;(case hfit=>((repeat' (first|exact qB|refine qD ?_ ?_|exact qE (by rfl)|exact qF (by rfl)|exact Fit.refl _|exact qA|refine qC ?_ rfl ?_));done));try cbv)
  |(refine qP ?_ (c69) ?hfit;(case hfit=>((repeat' (first|exact qB|refine qD ?_ ?_|exact qE (by rfl)|exact qF (by rfl)|exact Fit.refl _|exact qA|refine qC ?_ rfl ?_));done));try cbv)
  | (refine⟨some [1],?_⟩
     cbv
     refine qQ ?_ (c51 (show uaj _ from ?_)) (by cbv;(repeat' (first|exact qB|refine qD ?_ ?_|exact qE (by rfl)|exact qF (by rfl)|exact Fit.refl _|exact qA|refine qC ?_ rfl ?_))) (by cbv;(repeat' (first|exact qH|refine qI ?_ ?_|exact qK _|refine qJ ?_|exact qA|exact qE (by rfl)|exact qF (by rfl)|exact Fit.refl _|exact qG _|refine qC ?_ rfl ?_)))
     try cbv)
  | (refine⟨some [22,1],?_⟩
     cbv
     refine qQ ?_ (c52 (show uaj _ from ?_)) (by cbv;(repeat' (first|exact qB|refine qD ?_ ?_|exact qE (by rfl)|exact qF (by rfl)|exact Fit.refl _|exact qA|refine qC ?_ rfl ?_))) (by cbv;(repeat' (first|exact qH|refine qI ?_ ?_|exact qK _|refine qJ ?_|exact qA|exact qE (by rfl)|exact qF (by rfl)|exact Fit.refl _|exact qG _|refine qC ?_ rfl ?_)))
     try cbv)
  |fail)
 all_goals first|trivial|(subst hR;(refine qF ?_;(try simp only [qV]at *);(try simp only [zQ,zA,zB,zC,zD,zE,zF,zG,zH,zI,zJ,zK,zL,zM,zN,zO,zP,zR,zS]at *);first|exact(uzF (by omega)).symm|exact(uzs (by assumption)).symm|exact(uzY (by assumption)).symm|exact(uze ⟨by omega,by omega⟩ (by assumption) (by assumption)).symm);done)|skip
theorem up5 (a b c e:Int):ua0 Tryz.prog 66 [(.agg [(iv fun _=>a),(iv fun _=>b)]),(.agg [(iv fun _=>c),(iv fun _=>e)])] [] (fun r _=>r=(.agg [(iv fun _=>mx a c),(iv fun _=>mn b e)])):=by
 refine ua0.is fun R hR=>qW (sc:=uB4) uai mix Tryz.func66 rfl Tryz.call66 (by kernel_rfl) (by kernel_rfl) ?_
 generalize Tryz.prog=P
 cbv
 repeat' (first|fail)
 all_goals first|(subst hR;(repeat' (first|exact qA|exact qB|refine qC ?_ rfl ?_|refine qD ?_ ?_|exact qE (by rfl)|exact qF (by rfl)|exact Fit.refl _|exact qG _|(refine qE ?_;(try simp only [qV]at *);simp only [zQ,zA,zB,zC,zD,zE,zF,zG,zH,zI,zJ,zK,zL,zM,zN,zO,zP,zR,zS]at *;omega)));done)|skip
theorem uzi {fs:List Fa} {b s i:Nat} {q:Int}(h0:0≤q)(hq:(fs.getD i f0).s=q.toNat)(h1:q=(s:Int))(h2:((b:Int).fdiv (2^i)).tmod 2=0):uc3 fs (ubc b) s (i+1)=(mx (uc3 fs (ubc b) s i).1 (fs.getD i f0).lo,mn (uc3 fs (ubc b) s i).2 (fs.getD i f0).hi):=by
 have e:(decide ((fs.getD i f0).s=s)&&ubc b i)=true:=by
  rw [Bool.and_eq_true,decide_eq_true_eq]
  exact⟨by omega,by unfold ubc;rw [(utz b i).1 h2];rfl⟩
 simp only [uc3,if_pos e]
theorem uwY {fs:List Fa} {b s i:Nat} {q:Int}(h0:0≤q)(hq:(fs.getD i f0).s=q.toNat)(h1:¬q=(s:Int)):uc3 fs (ubc b) s (i+1)=uc3 fs (ubc b) s i:=by
 have e:¬(decide ((fs.getD i f0).s=s)&&ubc b i)=true:=by
  rw [Bool.and_eq_true,decide_eq_true_eq]
  rintro⟨h,_⟩
  omega
 simp only [uc3,if_neg e]
theorem uxl {fs:List Fa} {b s i:Nat}(h2:¬((b:Int).fdiv (2^i)).tmod 2=0):uc3 fs (ubc b) s (i+1)=uc3 fs (ubc b) s i:=by
 have e:¬(decide ((fs.getD i f0).s=s)&&ubc b i)=true:=by
  rw [Bool.and_eq_true]
  rintro⟨_,h⟩
  unfold ubc at h
  rw [Bool.not_eq_true']at h
  exact h2 ((utz b i).2 h)
 simp only [uc3,if_neg e]
abbrev mnS (d : Dsp) : SV := (.sl 2 (.sym fun _=>zi (d.fs).length) (fun ix=>[(iv fun _=>((FO d d.fs).getD ix.den.toNat f0).lo),(iv fun _=>((FO d d.fs).getD ix.den.toNat f0).hi)]))
theorem uvm (d:Dsp)(b s:Nat)(hd:DOk d)(hb:b≤1000):ua0 Tryz.prog 64 [(ub0 d),(mnS d),(iv fun _=>zi s),(iv fun _=>zi b)] [] (fun r _=>r=(.agg [(iv fun _=>(uc3 (FO d d.fs) (ubc b) s d.fs.length).1),(iv fun _=>(uc3 (FO d d.fs) (ubc b) s d.fs.length).2)])):=by
 have f6:=hd.f6
 have hs0:∀i,i<d.fs.length→0≤(d.fs.getD i f0T).s:=fun i hi=>by have:=hd.f i hi;unfold ubS at this;omega
 refine ua0.is fun R hR=>qW (sc:=uCe) uai mix Tryz.func64 rfl Tryz.call64 (by kernel_rfl) (by kernel_rfl) ?_
 generalize Tryz.prog=P
 cbv
 repeat' (first|fail)
 all_goals first|skip
 refine⟨none,[],{x:Nat×(Int×Int) // x.1≤d.fs.length∧x.2=uc3 (FO d d.fs) (ubc b) s x.1},fun x=>⟨[(4,.own 0 0),(8,.own 1 0),(9,.own 3 0),(1,(mnS d)),(2,(iv fun _=>zi s)),(3,(iv fun _=>zi b)),(10,(iv fun _=>zi x.1.1))],[(0,.cells [(iS d.tw),(iS d.tm),(.sl 1 (.sym fun _=>zi (d.tv).length) (fun ix=>[(.sl 1 (.sym fun _=>zi ((d.tv).getD ix.den.toNat []).length) (fun jx=>[(iv fun _=>((d.tv).getD ix.den.toNat []).getD jx.den.toNat 0)]))])),(iv fun _=>d.sn),(iv fun _=>d.pn),(.sl 4 (.sym fun _=>zi (d.ls).length) (fun ix=>[(iv fun _=>((d.ls).getD ix.den.toNat l0T).a),(iv fun _=>((d.ls).getD ix.den.toNat l0T).b),(iv fun _=>((d.ls).getD ix.den.toNat l0T).lo),(iv fun _=>((d.ls).getD ix.den.toNat l0T).hi)])),(.sl 6 (.sym fun _=>zi (d.fs).length) (fun ix=>[(iv fun _=>((d.fs).getD ix.den.toNat f0T).p),(iv fun _=>((d.fs).getD ix.den.toNat f0T).s),(iv fun _=>((d.fs).getD ix.den.toNat f0T).wl),(iv fun _=>((d.fs).getD ix.den.toNat f0T).wh),(iv fun _=>((d.fs).getD ix.den.toNat f0T).ml),(iv fun _=>((d.fs).getD ix.den.toNat f0T).mh)]))] 29),(1,.cells [.int .i64 (.lit 0),.int .i64 (.lit 0)] 66),(3,.cells [(iv fun _=>x.1.2.1),(iv fun _=>x.1.2.2)] 66)],20⟩,fun x=>d.fs.length-x.1.1,?_,?_⟩
 ·refine⟨⟨(0,(0,2000)),by simp only [];omega,rfl⟩,?_⟩
  cbv
  repeat' (first|with_reducible refine ua4 ?_ ?_|with_reducible refine And.intro ?_ ?_)
  all_goals first|trivial|exact qM (qE (by rfl))|exact qM (Fit.refl _)|exact qL (qK _)|(refine qL (qJ ?_);(repeat' (first|exact qA|exact qB|refine qC ?_ rfl ?_|refine qD ?_ ?_|exact qE (by rfl)|exact qF (by rfl)|exact Fit.refl _|exact qG _|(refine qE ?_;(try simp only [qV]at *);simp only [zQ,zA,zB,zC,zD,zE,zF,zG,zH,zI,zJ,zK,zL,zM,zN,zO,zP,zR,zS]at *;omega)));done)|skip
 ·rintro ⟨⟨i,o⟩,hi,ho⟩
  cbv
  dsimp only at hi ho
  repeat' (first|with_reducible refine ua4 ?_ ?_|with_reducible refine And.intro ?_ ?_|(with_reducible refine qT ?_ ?_;try cbv)|(with_reducible intro hcd;(try simp only [zA,zB,zC,zD,zE,zF,zG,zH,zI,zJ,zK,zL,zM,zN,zO,zP]at hcd);try cbv)|(with_reducible refine uzv ?_ ?_;try cbv)|fail)
  all_goals first|((try simp only [qV]at *);(try simp only [zQ,zA,zB,zC,zD,zE,zF,zG,zH,zI,zJ,zK,zL,zM,zN,zO,zP,zR,zS]at *);first|(refine qN ?_;omega)|(simp only [uaj];omega))|(subst hR;(have e:i=d.fs.length:=by((try simp only [qV]at *);(try simp only [zQ,zA,zB,zC,zD,zE,zF,zG,zH,zI,zJ,zK,zL,zM,zN,zO,zP,zR,zS]at *);omega));subst e;subst ho;exact Fit.refl _;done)|((try simp only [qV]at *);(try simp only [zQ,zA,zB,zC,zD,zE,zF,zG,zH,zI,zJ,zK,zL,zM,zN,zO,zP,zR,zS]at *);simp only [uaj];first|assumption|omega|exact⟨by omega,by omega⟩|(refine qN ?_;omega))|((try simp only [qV]at *);(try simp only [zQ,zA,zB,zC,zD,zE,zF,zG,zH,zI,zJ,zK,zL,zM,zN,zO,zP,zR,zS]at *);first|(refine us9 ?_;omega)|(refine uvU ?_;omega)|(refine uqx ?_;omega)|(refine qN ?_;omega))|((try simp only [zQ,zA,zB,zC,zD,zE,zF,zG,zH,zI,zJ,zK,zL,zM,zN,zO,zP,zR,zS]at *);(have hy:=(uzi (fs:=FO d d.fs) (b:=b) (s:=s) (i:=i) (q:=(d.fs.getD i f0T).s) (hs0 i (by((try simp only [qV]at *);(try simp only [zQ,zA,zB,zC,zD,zE,zF,zG,zH,zI,zJ,zK,zL,zM,zN,zO,zP,zR,zS]at *);omega))) (by rw [ukF (by((try simp only [qV]at *);(try simp only [zQ,zA,zB,zC,zD,zE,zF,zG,zH,zI,zJ,zK,zL,zM,zN,zO,zP,zR,zS]at *);omega))];rfl) (by assumption) (by assumption)));obtain⟨o1,eo1⟩:∃x,x=mx o.1 ((FO d d.fs).getD i f0).lo:=⟨_,rfl⟩;obtain⟨o2,eo2⟩:∃x,x=mn o.2 ((FO d d.fs).getD i f0).hi:=⟨_,rfl⟩;(have hy2:((o1,o2):Int×Int)=uc3 (FO d d.fs) (ubc b) s (i+1):=by rw [hy,←ho,eo1,eo2]);refine⟨⟨(i+1,(o1,o2)),by((try simp only [qV]at *);(try simp only [zQ,zA,zB,zC,zD,zE,zF,zG,zH,zI,zJ,zK,zL,zM,zN,zO,zP,zR,zS]at *);omega),hy2⟩,by simp only [];omega,?_⟩;cbv;(repeat' (first|with_reducible refine ua4 ?_ ?_|with_reducible refine And.intro ?_ ?_));(all_goals first|trivial|exact qM (qE (by rfl))|exact qM (qF (by rfl))|exact qM (Fit.refl _)|exact qL (qK _)|(refine qM (qE ?_);(try simp only [qV]at *);simp only [zQ,zA,zB,zC,zD,zE,zF,zG,zH,zI,zJ,zK,zL,zM,zN,zO,zP,zR,zS]at *;omega)|(subst eo1;subst eo2;(refine qL (qJ ?_);(repeat' (first|exact qA|exact qB|refine qC ?_ rfl ?_|refine qD ?_ ?_|exact qE (by rfl)|exact qF (by rfl)|exact Fit.refl _|exact qG _|(refine qE ?_;(try simp only [qV]at *);simp only [zQ,zA,zB,zC,zD,zE,zF,zG,zH,zI,zJ,zK,zL,zM,zN,zO,zP,zR,zS]at *;omega)));done))|skip))|((try simp only [zQ,zA,zB,zC,zD,zE,zF,zG,zH,zI,zJ,zK,zL,zM,zN,zO,zP,zR,zS]at *);(have hy:=(uwY (fs:=FO d d.fs) (b:=b) (s:=s) (i:=i) (q:=(d.fs.getD i f0T).s) (hs0 i (by((try simp only [qV]at *);(try simp only [zQ,zA,zB,zC,zD,zE,zF,zG,zH,zI,zJ,zK,zL,zM,zN,zO,zP,zR,zS]at *);omega))) (by rw [ukF (by((try simp only [qV]at *);(try simp only [zQ,zA,zB,zC,zD,zE,zF,zG,zH,zI,zJ,zK,zL,zM,zN,zO,zP,zR,zS]at *);omega))];rfl) (by assumption)));(have hy2:=ho.trans hy.symm);refine⟨⟨(i+1,o),by((try simp only [qV]at *);(try simp only [zQ,zA,zB,zC,zD,zE,zF,zG,zH,zI,zJ,zK,zL,zM,zN,zO,zP,zR,zS]at *);omega),hy2⟩,by simp only [];omega,?_⟩;cbv;(repeat' (first|with_reducible refine ua4 ?_ ?_|with_reducible refine And.intro ?_ ?_));(all_goals first|trivial|exact qM (qE (by rfl))|exact qM (qF (by rfl))|exact qM (Fit.refl _)|exact qL (qK _)|(refine qM (qE ?_);(try simp only [qV]at *);simp only [zQ,zA,zB,zC,zD,zE,zF,zG,zH,zI,zJ,zK,zL,zM,zN,zO,zP,zR,zS]at *;omega)|(refine qL (qJ ?_);(repeat' (first|exact qA|exact qB|refine qC ?_ rfl ?_|refine qD ?_ ?_|exact qE (by rfl)|exact qF (by rfl)|exact Fit.refl _|exact qG _|(refine qE ?_;(try simp only [qV]at *);simp only [zQ,zA,zB,zC,zD,zE,zF,zG,zH,zI,zJ,zK,zL,zM,zN,zO,zP,zR,zS]at *;omega)));done)|skip))|((try simp only [zQ,zA,zB,zC,zD,zE,zF,zG,zH,zI,zJ,zK,zL,zM,zN,zO,zP,zR,zS]at *);(have hy:=(uxl (fs:=FO d d.fs) (b:=b) (s:=s) (i:=i) (by assumption)));(have hy2:=ho.trans hy.symm);refine⟨⟨(i+1,o),by((try simp only [qV]at *);(try simp only [zQ,zA,zB,zC,zD,zE,zF,zG,zH,zI,zJ,zK,zL,zM,zN,zO,zP,zR,zS]at *);omega),hy2⟩,by simp only [];omega,?_⟩;cbv;(repeat' (first|with_reducible refine ua4 ?_ ?_|with_reducible refine And.intro ?_ ?_));(all_goals first|trivial|exact qM (qE (by rfl))|exact qM (qF (by rfl))|exact qM (Fit.refl _)|exact qL (qK _)|(refine qM (qE ?_);(try simp only [qV]at *);simp only [zQ,zA,zB,zC,zD,zE,zF,zG,zH,zI,zJ,zK,zL,zM,zN,zO,zP,zR,zS]at *;omega)|(refine qL (qJ ?_);(repeat' (first|exact qA|exact qB|refine qC ?_ rfl ?_|refine qD ?_ ?_|exact qE (by rfl)|exact qF (by rfl)|exact Fit.refl _|exact qG _|(refine qE ?_;(try simp only [qV]at *);simp only [zQ,zA,zB,zC,zD,zE,zF,zG,zH,zI,zJ,zK,zL,zM,zN,zO,zP,zR,zS]at *;omega)));done)|skip))|skip
def uoC (a b:Nat)(k:Lk)(r:Int×Int):Int×Int:=if k.a=a∧k.b=b then(mx r.1 k.lo,mn r.2 k.hi)else r
def utX (a b:Nat)(k:Lk)(r:Int×Int):Int×Int:=if k.a=b∧k.b=a then(mx r.1 (-k.hi),mn r.2 (-k.lo))else r
theorem uqC {ls:List Lk} {a b i:Nat}:ucE ls a b (i+1)=utX a b (ls.getD i lk0) (uoC a b (ls.getD i lk0) (ucE ls a b i)):=rfl
theorem utG {a b:Nat} {x:LkT} {r:Int×Int}(h0:0≤x.a∧0≤x.b)(h1:x.a=zi a)(h2:x.b=zi b):uoC a b (lkO x) r=(mx r.1 x.lo,mn r.2 x.hi):=by
 simp only [uac]at h1 h2
 exact if_pos (show x.a.toNat=a∧x.b.toNat=b by omega)
theorem utr {a b:Nat} {x:LkT} {r:Int×Int}(h0:0≤x.a∧0≤x.b)(h:¬(x.a=zi a∧x.b=zi b)):uoC a b (lkO x) r=r:=by
 simp only [uac]at h
 exact if_neg (show ¬(x.a.toNat=a∧x.b.toNat=b) by omega)
theorem uub {a b:Nat} {x:LkT} {r:Int×Int}(h0:0≤x.a∧0≤x.b)(h1:x.a=zi b)(h2:x.b=zi a):utX a b (lkO x) r=(mx r.1 (0-x.hi),mn r.2 (0-x.lo)):=by
 simp only [uac]at h1 h2
 rw [Int.zero_sub,Int.zero_sub]
 exact if_pos (show x.a.toNat=b∧x.b.toNat=a by omega)
theorem utA {a b:Nat} {x:LkT} {r:Int×Int}(h0:0≤x.a∧0≤x.b)(h:¬(x.a=zi b∧x.b=zi a)):utX a b (lkO x) r=r:=by
 simp only [uac]at h
 exact if_neg (show ¬(x.a.toNat=b∧x.b.toNat=a) by omega)
theorem ulE (d:Dsp)(a b:Nat)(hd:DOk d):ua0 Tryz.prog 65 [(ub0 d),(iv fun _=>zi a),(iv fun _=>zi b)] [] (fun r _=>r=(.agg [(iv fun _=>(ucE (LO d) a b d.ls.length).1),(iv fun _=>(ucE (LO d) a b d.ls.length).2)])):=by
 have l4:=hd.l4
 have hs0:∀i,i<d.ls.length→0≤(d.ls.getD i l0T).a∧0≤(d.ls.getD i l0T).b:=fun i hi=>by have:=hd.l i hi;unfold ucy at this;omega
 have hs1:∀i,i<d.ls.length→ -2000≤(d.ls.getD i l0T).lo∧(d.ls.getD i l0T).lo≤(d.ls.getD i l0T).hi∧(d.ls.getD i l0T).hi≤2000:=fun i hi=>by have:=hd.l i hi;unfold ucy at this;omega
 refine ua0.is fun R hR=>qW (sc:=uBt) uai mix Tryz.func65 rfl Tryz.call65 (by kernel_rfl) (by kernel_rfl) ?_
 generalize Tryz.prog=P
 cbv
 repeat' (first|fail)
 all_goals first|skip
 refine⟨none,[],{x:Nat×(Int×Int) // x.1≤d.ls.length∧x.2=ucE (LO d) a b x.1},fun x=>⟨[(3,.own 0 0),(6,.own 1 0),(7,.own 3 0),(1,(iv fun _=>zi a)),(2,(iv fun _=>zi b)),(8,(iv fun _=>zi x.1.1))],[(0,.cells [(iS d.tw),(iS d.tm),(.sl 1 (.sym fun _=>zi (d.tv).length) (fun ix=>[(.sl 1 (.sym fun _=>zi ((d.tv).getD ix.den.toNat []).length) (fun jx=>[(iv fun _=>((d.tv).getD ix.den.toNat []).getD jx.den.toNat 0)]))])),(iv fun _=>d.sn),(iv fun _=>d.pn),(.sl 4 (.sym fun _=>zi (d.ls).length) (fun ix=>[(iv fun _=>((d.ls).getD ix.den.toNat l0T).a),(iv fun _=>((d.ls).getD ix.den.toNat l0T).b),(iv fun _=>((d.ls).getD ix.den.toNat l0T).lo),(iv fun _=>((d.ls).getD ix.den.toNat l0T).hi)])),(.sl 6 (.sym fun _=>zi (d.fs).length) (fun ix=>[(iv fun _=>((d.fs).getD ix.den.toNat f0T).p),(iv fun _=>((d.fs).getD ix.den.toNat f0T).s),(iv fun _=>((d.fs).getD ix.den.toNat f0T).wl),(iv fun _=>((d.fs).getD ix.den.toNat f0T).wh),(iv fun _=>((d.fs).getD ix.den.toNat f0T).ml),(iv fun _=>((d.fs).getD ix.den.toNat f0T).mh)]))] 29),(1,.cells [.int .i64 (.lit 0),.int .i64 (.lit 0)] 66),(3,.cells [(iv fun _=>x.1.2.1),(iv fun _=>x.1.2.2)] 66)],60⟩,fun x=>d.ls.length-x.1.1,?_,?_⟩
 ·refine⟨⟨(0,(-2000,2000)),by simp only [];omega,rfl⟩,?_⟩
  cbv
  repeat' (first|with_reducible refine ua4 ?_ ?_|with_reducible refine And.intro ?_ ?_)
  all_goals first|trivial|exact qM (qE (by rfl))|exact qM (Fit.refl _)|exact qL (qK _)|(refine qL (qJ ?_);(repeat' (first|exact qA|exact qB|refine qC ?_ rfl ?_|refine qD ?_ ?_|exact qE (by rfl)|exact qF (by rfl)|exact Fit.refl _|exact qG _|(refine qE ?_;(try simp only [qV]at *);simp only [zQ,zA,zB,zC,zD,zE,zF,zG,zH,zI,zJ,zK,zL,zM,zN,zO,zP,zR,zS]at *;omega)));done)|skip
 ·rintro⟨⟨i,o⟩,hi,ho⟩
  cbv
  dsimp only at hi ho
  repeat' (first|with_reducible refine ua4 ?_ ?_|with_reducible refine And.intro ?_ ?_|(with_reducible intro hcd;(try simp only [zA,zB,zC,zD,zE,zF,zG,zH,zI,zJ,zK,zL,zM,zN,zO,zP]at hcd);try cbv)|fail)
  all_goals first|((try simp only [qV]at *);(try simp only [zQ,zA,zB,zC,zD,zE,zF,zG,zH,zI,zJ,zK,zL,zM,zN,zO,zP,zR,zS]at *);first|(refine qN ?_;omega)|(simp only [uaj];omega))|(subst hR;(have e:i=d.ls.length:=by((try simp only [qV]at *);(try simp only [zQ,zA,zB,zC,zD,zE,zF,zG,zH,zI,zJ,zK,zL,zM,zN,zO,zP,zR,zS]at *);omega));subst e;subst ho;exact Fit.refl _;done)|((have hk0:=hs1 i (by((try simp only [qV]at *);(try simp only [zQ,zA,zB,zC,zD,zE,zF,zG,zH,zI,zJ,zK,zL,zM,zN,zO,zP,zR,zS]at *);omega)));(try simp only [qV]at *);(try simp only [zQ,zA,zB,zC,zD,zE,zF,zG,zH,zI,zJ,zK,zL,zM,zN,zO,zP,zR,zS]at *);(refine qN ?_);omega)|((try simp only [zQ,zA,zB,zC,zD,zE,zF,zG,zH,zI,zJ,zK,zL,zM,zN,zO,zP,zR,zS]at *);(have hk0:=hs0 i (by((try simp only [qV]at *);(try simp only [zQ,zA,zB,zC,zD,zE,zF,zG,zH,zI,zJ,zK,zL,zM,zN,zO,zP,zR,zS]at *);omega)));(have hsu:ucE (LO d) a b (i+1)=utX a b (lkO (d.ls.getD i l0T)) (uoC a b (lkO (d.ls.getD i l0T)) o):=by rw [uqC,ukt (by((try simp only [qV]at *);(try simp only [zQ,zA,zB,zC,zD,zE,zF,zG,zH,zI,zJ,zK,zL,zM,zN,zO,zP,zR,zS]at *);omega)),ho]);(have h1:=(utG (a:=a) (b:=b) (x:=(d.ls.getD i l0T)) (r:=o) hk0 (by((try simp only [qV]at *);(try simp only [zQ,zA,zB,zC,zD,zE,zF,zG,zH,zI,zJ,zK,zL,zM,zN,zO,zP,zR,zS]at *);omega)) (by((try simp only [qV]at *);(try simp only [zQ,zA,zB,zC,zD,zE,zF,zG,zH,zI,zJ,zK,zL,zM,zN,zO,zP,zR,zS]at *);omega))));obtain⟨p,ep⟩:∃p:Int×Int,p=(mx o.1 (d.ls.getD i l0T).lo,mn o.2 (d.ls.getD i l0T).hi):=⟨_,rfl⟩;obtain⟨o1,eo1⟩:∃x,x=mx p.1 (0-(d.ls.getD i l0T).hi):=⟨_,rfl⟩;obtain⟨o2,eo2⟩:∃x,x=mn p.2 (0-(d.ls.getD i l0T).lo):=⟨_,rfl⟩;(have h2:=(uub (a:=a) (b:=b) (x:=(d.ls.getD i l0T)) (r:=p) hk0 (by((try simp only [qV]at *);(try simp only [zQ,zA,zB,zC,zD,zE,zF,zG,zH,zI,zJ,zK,zL,zM,zN,zO,zP,zR,zS]at *);omega)) (by((try simp only [qV]at *);(try simp only [zQ,zA,zB,zC,zD,zE,zF,zG,zH,zI,zJ,zK,zL,zM,zN,zO,zP,zR,zS]at *);omega))));(have hy2:((o1,o2):Int×Int)=ucE (LO d) a b (i+1):=by rw [hsu,h1,←ep,h2,eo1,eo2]);refine⟨⟨(i+1,(o1,o2)),by((try simp only [qV]at *);(try simp only [zQ,zA,zB,zC,zD,zE,zF,zG,zH,zI,zJ,zK,zL,zM,zN,zO,zP,zR,zS]at *);omega),hy2⟩,by simp only [];omega,?_⟩;cbv;(repeat' (first|with_reducible refine ua4 ?_ ?_|with_reducible refine And.intro ?_ ?_));(all_goals first|trivial|exact qM (qE (by rfl))|exact qM (qF (by rfl))|exact qM (Fit.refl _)|exact qL (qK _)|(refine qM (qE ?_);(try simp only [qV]at *);simp only [zQ,zA,zB,zC,zD,zE,zF,zG,zH,zI,zJ,zK,zL,zM,zN,zO,zP,zR,zS]at *;omega)|(subst eo1;subst eo2;subst ep;(refine qL (qJ ?_);(repeat' (first|exact qA|exact qB|refine qC ?_ rfl ?_|refine qD ?_ ?_|exact qE (by rfl)|exact qF (by rfl)|exact Fit.refl _|exact qG _|(refine qE ?_;(try simp only [qV]at *);simp only [zQ,zA,zB,zC,zD,zE,zF,zG,zH,zI,zJ,zK,zL,zM,zN,zO,zP,zR,zS]at *;omega)));done))|skip))|((try simp only [zQ,zA,zB,zC,zD,zE,zF,zG,zH,zI,zJ,zK,zL,zM,zN,zO,zP,zR,zS]at *);(have hk0:=hs0 i (by((try simp only [qV]at *);(try simp only [zQ,zA,zB,zC,zD,zE,zF,zG,zH,zI,zJ,zK,zL,zM,zN,zO,zP,zR,zS]at *);omega)));(have hsu:ucE (LO d) a b (i+1)=utX a b (lkO (d.ls.getD i l0T)) (uoC a b (lkO (d.ls.getD i l0T)) o):=by rw [uqC,ukt (by((try simp only [qV]at *);(try simp only [zQ,zA,zB,zC,zD,zE,zF,zG,zH,zI,zJ,zK,zL,zM,zN,zO,zP,zR,zS]at *);omega)),ho]);(have h1:=(utG (a:=a) (b:=b) (x:=(d.ls.getD i l0T)) (r:=o) hk0 (by((try simp only [qV]at *);(try simp only [zQ,zA,zB,zC,zD,zE,zF,zG,zH,zI,zJ,zK,zL,zM,zN,zO,zP,zR,zS]at *);omega)) (by((try simp only [qV]at *);(try simp only [zQ,zA,zB,zC,zD,zE,zF,zG,zH,zI,zJ,zK,zL,zM,zN,zO,zP,zR,zS]at *);omega))));obtain⟨o1,eo1⟩:∃x,x=mx o.1 (d.ls.getD i l0T).lo:=⟨_,rfl⟩;obtain⟨o2,eo2⟩:∃x,x=mn o.2 (d.ls.getD i l0T).hi:=⟨_,rfl⟩;(have h2:=(utA (a:=a) (b:=b) (x:=(d.ls.getD i l0T)) (r:=(o1,o2)) hk0 (by((try simp only [qV]at *);(try simp only [zQ,zA,zB,zC,zD,zE,zF,zG,zH,zI,zJ,zK,zL,zM,zN,zO,zP,zR,zS]at *);omega))));(have hy2:((o1,o2):Int×Int)=ucE (LO d) a b (i+1):=by rw [hsu,h1,←eo1,←eo2,h2]);refine⟨⟨(i+1,(o1,o2)),by((try simp only [qV]at *);(try simp only [zQ,zA,zB,zC,zD,zE,zF,zG,zH,zI,zJ,zK,zL,zM,zN,zO,zP,zR,zS]at *);omega),hy2⟩,by simp only [];omega,?_⟩;cbv;(repeat' (first|with_reducible refine ua4 ?_ ?_|with_reducible refine And.intro ?_ ?_));(all_goals first|trivial|exact qM (qE (by rfl))|exact qM (qF (by rfl))|exact qM (Fit.refl _)|exact qL (qK _)|(refine qM (qE ?_);(try simp only [qV]at *);simp only [zQ,zA,zB,zC,zD,zE,zF,zG,zH,zI,zJ,zK,zL,zM,zN,zO,zP,zR,zS]at *;omega)|(subst eo1;subst eo2;(refine qL (qJ ?_);(repeat' (first|exact qA|exact qB|refine qC ?_ rfl ?_|refine qD ?_ ?_|exact qE (by rfl)|exact qF (by rfl)|exact Fit.refl _|exact qG _|(refine qE ?_;(try simp only [qV]at *);simp only [zQ,zA,zB,zC,zD,zE,zF,zG,zH,zI,zJ,zK,zL,zM,zN,zO,zP,zR,zS]at *;omega)));done))|skip))|((try simp only [zQ,zA,zB,zC,zD,zE,zF,zG,zH,zI,zJ,zK,zL,zM,zN,zO,zP,zR,zS]at *);(have hk0:=hs0 i (by((try simp only [qV]at *);(try simp only [zQ,zA,zB,zC,zD,zE,zF,zG,zH,zI,zJ,zK,zL,zM,zN,zO,zP,zR,zS]at *);omega)));(have hsu:ucE (LO d) a b (i+1)=utX a b (lkO (d.ls.getD i l0T)) (uoC a b (lkO (d.ls.getD i l0T)) o):=by rw [uqC,ukt (by((try simp only [qV]at *);(try simp only [zQ,zA,zB,zC,zD,zE,zF,zG,zH,zI,zJ,zK,zL,zM,zN,zO,zP,zR,zS]at *);omega)),ho]);(have h1:=(utr (a:=a) (b:=b) (x:=(d.ls.getD i l0T)) (r:=o) hk0 (by((try simp only [qV]at *);(try simp only [zQ,zA,zB,zC,zD,zE,zF,zG,zH,zI,zJ,zK,zL,zM,zN,zO,zP,zR,zS]at *);omega))));obtain⟨o1,eo1⟩:∃x,x=mx o.1 (0-(d.ls.getD i l0T).hi):=⟨_,rfl⟩;obtain⟨o2,eo2⟩:∃x,x=mn o.2 (0-(d.ls.getD i l0T).lo):=⟨_,rfl⟩;(have h2:=(uub (a:=a) (b:=b) (x:=(d.ls.getD i l0T)) (r:=o) hk0 (by((try simp only [qV]at *);(try simp only [zQ,zA,zB,zC,zD,zE,zF,zG,zH,zI,zJ,zK,zL,zM,zN,zO,zP,zR,zS]at *);omega)) (by((try simp only [qV]at *);(try simp only [zQ,zA,zB,zC,zD,zE,zF,zG,zH,zI,zJ,zK,zL,zM,zN,zO,zP,zR,zS]at *);omega))));(have hy2:((o1,o2):Int×Int)=ucE (LO d) a b (i+1):=by rw [hsu,h1,h2,eo1,eo2]);refine⟨⟨(i+1,(o1,o2)),by((try simp only [qV]at *);(try simp only [zQ,zA,zB,zC,zD,zE,zF,zG,zH,zI,zJ,zK,zL,zM,zN,zO,zP,zR,zS]at *);omega),hy2⟩,by simp only [];omega,?_⟩;cbv;(repeat' (first|with_reducible refine ua4 ?_ ?_|with_reducible refine And.intro ?_ ?_));(all_goals first|trivial|exact qM (qE (by rfl))|exact qM (qF (by rfl))|exact qM (Fit.refl _)|exact qL (qK _)|(refine qM (qE ?_);(try simp only [qV]at *);simp only [zQ,zA,zB,zC,zD,zE,zF,zG,zH,zI,zJ,zK,zL,zM,zN,zO,zP,zR,zS]at *;omega)|(subst eo1;subst eo2;(refine qL (qJ ?_);(repeat' (first|exact qA|exact qB|refine qC ?_ rfl ?_|refine qD ?_ ?_|exact qE (by rfl)|exact qF (by rfl)|exact Fit.refl _|exact qG _|(refine qE ?_;(try simp only [qV]at *);simp only [zQ,zA,zB,zC,zD,zE,zF,zG,zH,zI,zJ,zK,zL,zM,zN,zO,zP,zR,zS]at *;omega)));done))|skip))|((try simp only [zQ,zA,zB,zC,zD,zE,zF,zG,zH,zI,zJ,zK,zL,zM,zN,zO,zP,zR,zS]at *);(have hk0:=hs0 i (by((try simp only [qV]at *);(try simp only [zQ,zA,zB,zC,zD,zE,zF,zG,zH,zI,zJ,zK,zL,zM,zN,zO,zP,zR,zS]at *);omega)));(have hsu:ucE (LO d) a b (i+1)=utX a b (lkO (d.ls.getD i l0T)) (uoC a b (lkO (d.ls.getD i l0T)) o):=by rw [uqC,ukt (by((try simp only [qV]at *);(try simp only [zQ,zA,zB,zC,zD,zE,zF,zG,zH,zI,zJ,zK,zL,zM,zN,zO,zP,zR,zS]at *);omega)),ho]);(have h1:=(utr (a:=a) (b:=b) (x:=(d.ls.getD i l0T)) (r:=o) hk0 (by((try simp only [qV]at *);(try simp only [zQ,zA,zB,zC,zD,zE,zF,zG,zH,zI,zJ,zK,zL,zM,zN,zO,zP,zR,zS]at *);omega))));(have h2:=(utA (a:=a) (b:=b) (x:=(d.ls.getD i l0T)) (r:=o) hk0 (by((try simp only [qV]at *);(try simp only [zQ,zA,zB,zC,zD,zE,zF,zG,zH,zI,zJ,zK,zL,zM,zN,zO,zP,zR,zS]at *);omega))));(have hy2:o=ucE (LO d) a b (i+1):=by rw [hsu,h1,h2]);refine⟨⟨(i+1,o),by((try simp only [qV]at *);(try simp only [zQ,zA,zB,zC,zD,zE,zF,zG,zH,zI,zJ,zK,zL,zM,zN,zO,zP,zR,zS]at *);omega),hy2⟩,by simp only [];omega,?_⟩;cbv;(repeat' (first|with_reducible refine ua4 ?_ ?_|with_reducible refine And.intro ?_ ?_));(all_goals first|trivial|exact qM (qE (by rfl))|exact qM (qF (by rfl))|exact qM (Fit.refl _)|exact qL (qK _)|(refine qM (qE ?_);(try simp only [qV]at *);simp only [zQ,zA,zB,zC,zD,zE,zF,zG,zH,zI,zJ,zK,zL,zM,zN,zO,zP,zR,zS]at *;omega)|((refine qL (qJ ?_);(repeat' (first|exact qA|exact qB|refine qC ?_ rfl ?_|refine qD ?_ ?_|exact qE (by rfl)|exact qF (by rfl)|exact Fit.refl _|exact qG _|(refine qE ?_;(try simp only [qV]at *);simp only [zQ,zA,zB,zC,zD,zE,zF,zG,zH,zI,zJ,zK,zL,zM,zN,zO,zP,zR,zS]at *;omega)));done))|skip))|skip
theorem uiW {a b l h:Int}(ha:l≤a∧a≤h)(hb:l≤b∧b≤h):l≤mx a b∧mx a b≤h:=by unfold mx;split<;>omega
theorem uiw {a b l h:Int}(ha:l≤a∧a≤h)(hb:l≤b∧b≤h):l≤mn a b∧mn a b≤h:=by unfold mn;split<;>omega
theorem utb {fs:List Fa}(h:∀i,i<fs.length→0≤(fs.getD i f0).lo∧(fs.getD i f0).lo≤2000∧0≤(fs.getD i f0).hi∧(fs.getD i f0).hi≤2000)(c:Nat→Bool)(s:Nat):∀{n:Nat},n≤fs.length→(0≤(uc3 fs c s n).1∧(uc3 fs c s n).1≤2000)∧0≤(uc3 fs c s n).2∧(uc3 fs c s n).2≤2000:=by
 intro n
 induction n with
 |zero=>intro _;exact⟨⟨by simp only [uc3];omega,by simp only [uc3];omega⟩,by simp only [uc3];omega,by simp only [uc3];omega⟩
 | succ n ih=>
  intro hn
  have q:=ih (by omega)
  have k:=h n (by omega)
  simp only [uc3]
  split
  ·exact⟨uiW q.1 ⟨k.1,k.2.1⟩,uiw q.2 ⟨k.2.2.1,k.2.2.2⟩⟩
  ·exact q
theorem usa {ls:List Lk} {a b:Nat}(h:∀i,i<ls.length→(-2000≤(ls.getD i lk0).lo∧(ls.getD i lk0).lo≤2000)∧ -2000≤(ls.getD i lk0).hi∧(ls.getD i lk0).hi≤2000):∀{n:Nat},n≤ls.length→(-2000≤(ucE ls a b n).1∧(ucE ls a b n).1≤2000)∧ -2000≤(ucE ls a b n).2∧(ucE ls a b n).2≤2000:=by
 intro n
 induction n with
 |zero=>intro _;exact⟨⟨by simp only [ucE];omega,by simp only [ucE];omega⟩,by simp only [ucE];omega,by simp only [ucE];omega⟩
 | succ n ih=>
  intro hn
  have q:=ih (by omega)
  have k:=h n (by omega)
  have q1:(-2000≤(uoC a b (ls.getD n lk0) (ucE ls a b n)).1∧(uoC a b (ls.getD n lk0) (ucE ls a b n)).1≤2000)∧ -2000≤(uoC a b (ls.getD n lk0) (ucE ls a b n)).2∧(uoC a b (ls.getD n lk0) (ucE ls a b n)).2≤2000:=by
   unfold uoC
   split
   ·exact⟨uiW q.1 k.1,uiw q.2 k.2⟩
   ·exact q
  rw [uqC]
  unfold utX
  split
  ·exact⟨uiW q1.1 ⟨by omega,by omega⟩,uiw q1.2 ⟨by omega,by omega⟩⟩
  ·exact q1
theorem uww {d:Dsp}(hd:DOk d):∀i,i<(FO d d.fs).length→0≤((FO d d.fs).getD i f0).lo∧((FO d d.fs).getD i f0).lo≤2000∧0≤((FO d d.fs).getD i f0).hi∧((FO d d.fs).getD i f0).hi≤2000:=fun i hi=>by
 rw [udi]at hi
 rw [ukF hi]
 have:=ulU hd.t (hd.f i hi)
 unfold faO
 dsimp only
 omega
theorem uwZ {d:Dsp}(hd:DOk d):∀i,i<(LO d).length→(-2000≤((LO d).getD i lk0).lo∧((LO d).getD i lk0).lo≤2000)∧ -2000≤((LO d).getD i lk0).hi∧((LO d).getD i lk0).hi≤2000:=fun i hi=>by
 rw [uf6]at hi
 rw [ukt hi]
 have:=hd.l i hi
 unfold ucy at this
 unfold lkO
 dsimp only
 omega
theorem ufW {d:Dsp}(hd:DOk d)(b s:Nat):(0≤(uc3 (FO d d.fs) (ubc b) s d.fs.length).1∧(uc3 (FO d d.fs) (ubc b) s d.fs.length).1≤2000)∧0≤(uc3 (FO d d.fs) (ubc b) s d.fs.length).2∧(uc3 (FO d d.fs) (ubc b) s d.fs.length).2≤2000:=utb (uww hd) _ _ (by rw [udi];exact Nat.le_refl _)
theorem uiE {d:Dsp}(hd:DOk d)(a b:Nat):(-2000≤(ucE (LO d) a b d.ls.length).1∧(ucE (LO d) a b d.ls.length).1≤2000)∧ -2000≤(ucE (LO d) a b d.ls.length).2∧(ucE (LO d) a b d.ls.length).2≤2000:=usa (uwZ hd) (by rw [uf6];exact Nat.le_refl _)
theorem uuL {s:Six} {n:Int}(h:mn s.h1 (n+s.ah)<mx s.l1 (n+s.al)):goB s n=false:=by
 unfold goB bL bH
 rw [decide_eq_false (p:=_∧_) (fun q=>by have:=q.1;omega)];rfl
theorem uvg {s:Six} {n:Int}(h:mn s.h2 (n+s.bh)<mx s.l2 (n+s.bl)):goB s n=false:=by
 unfold goB cL cH
 rw [decide_eq_false (p:=_∧_) (fun q=>by have:=q.2;omega)];rfl
theorem umd {s:Six} {n:Int}(h:s.ch<s.cl∨xH s n<xL s n∨yH s n<yL s n):goB s n=false:=by
 unfold goB
 rw [decide_eq_false (p:=s.cl≤s.ch∧_) (fun q=>by have:=q.2;have:=q.1;omega),Bool.and_false]
theorem uyQ {s:Six} {n:Int}(h1:¬mn s.h1 (n+s.ah)<mx s.l1 (n+s.al))(h2:¬mn s.h2 (n+s.bh)<mx s.l2 (n+s.bl))(h3:¬s.ch<s.cl)(h4:¬xH s n<xL s n)(h5:¬yH s n<yL s n):goB s n=true:=by
 unfold goB
 rw [decide_eq_true (show bL s n≤bH s n∧cL s n≤cH s n from⟨Int.not_lt.1 h1,Int.not_lt.1 h2⟩),decide_eq_true (show s.cl≤s.ch∧xL s n≤xH s n∧yL s n≤yH s n from⟨Int.not_lt.1 h3,Int.not_lt.1 h4,Int.not_lt.1 h5⟩)];rfl
theorem udd {s:Six} {k:Nat} {n:Int} {b:Bnd}(hn:n=s.l0+(k:Int))(hb:b=bdN s k)(h:goB s n=false):b=bdN s (k+1):=by
 subst hn;subst hb
 simp only [bdN,bdS,h,Bool.false_eq_true,if_false]
theorem ulc {s:Six} {k:Nat} {n:Int} {b o:Bnd}(hn:n=s.l0+(k:Int))(hb:b=bdN s k)(h:goB s n=true)(ho:o=⟨mn b.l0 n,mx b.h0 n,mn b.l1 (xL s n),mx b.h1 (xH s n),mn b.l2 (yL s n),mx b.h2 (yH s n)⟩):o=bdN s (k+1):=by
 subst hn;subst hb;subst ho
 simp only [bdN,bdS,h,if_true]
set_option maxHeartbeats 2000000 in
theorem uuO (d:Dsp)(b:Nat)(hd:DOk d)(hb:b≤1000)(hS:d.sn=1):ua0 Tryz.prog 26 [(.agg [(iS d.tw),(iS d.tm),(.sl 1 (.sym fun _=>zi (d.tv).length) (fun ix=>[(.sl 1 (.sym fun _=>zi ((d.tv).getD ix.den.toNat []).length) (fun jx=>[(iv fun _=>((d.tv).getD ix.den.toNat []).getD jx.den.toNat 0)]))])),(.int .i64 (.lit 1)),(iv fun _=>d.pn),(.sl 4 (.sym fun _=>zi (d.ls).length) (fun ix=>[(iv fun _=>((d.ls).getD ix.den.toNat l0T).a),(iv fun _=>((d.ls).getD ix.den.toNat l0T).b),(iv fun _=>((d.ls).getD ix.den.toNat l0T).lo),(iv fun _=>((d.ls).getD ix.den.toNat l0T).hi)])),(.sl 6 (.sym fun _=>zi (d.fs).length) (fun ix=>[(iv fun _=>((d.fs).getD ix.den.toNat f0T).p),(iv fun _=>((d.fs).getD ix.den.toNat f0T).s),(iv fun _=>((d.fs).getD ix.den.toNat f0T).wl),(iv fun _=>((d.fs).getD ix.den.toNat f0T).wh),(iv fun _=>((d.fs).getD ix.den.toNat f0T).ml),(iv fun _=>((d.fs).getD ix.den.toNat f0T).mh)]))]),(mnS d),(iv fun _=>zi b)] [] (fun r _=>r=(.tup [(.sl 2 (.sym fun _=>zi 1) (fun ix=>[(iv fun _=>(ubX (ub4 (SN d) (LO d) (FO d d.fs) (ubc b))).lo ix.den.toNat),(iv fun _=>(ubX (ub4 (SN d) (LO d) (FO d d.fs) (ubc b))).hi ix.den.toNat)])),(bv fun _=>decide (0≤(ubX (ub4 (SN d) (LO d) (FO d d.fs) (ubc b))).h0))])):=by
 have c64:=fun s=>uvm d b s hd hb
 have c65:=fun a e=>ulE d a e hd
 have c66:=up5
 have f6:=hd.f6
 have l4:=hd.l4
 obtain⟨s6,hs6⟩:∃s6,s6=ub4 (SN d) (LO d) (FO d d.fs) (ubc b):=⟨_,rfl⟩
 have hSN:SN d=1:=by unfold SN;omega
 have hfl:=udi d d.fs
 have hll:=uf6 d
 have el0:(uc3 (FO d d.fs) (ubc b) 0 d.fs.length).1=s6.l0:=by rw [hs6];simp only [ub4,hSN,hfl,hll];try rfl
 have eh0:(uc3 (FO d d.fs) (ubc b) 0 d.fs.length).2=s6.h0:=by rw [hs6];simp only [ub4,hSN,hfl,hll];try rfl
 have el1:(0:Int)=s6.l1:=by rw [hs6];simp only [ub4,hSN,hfl,hll];try rfl
 have eh1:(0:Int)=s6.h1:=by rw [hs6];simp only [ub4,hSN,hfl,hll];try rfl
 have el2:(0:Int)=s6.l2:=by rw [hs6];simp only [ub4,hSN,hfl,hll];try rfl
 have eh2:(0:Int)=s6.h2:=by rw [hs6];simp only [ub4,hSN,hfl,hll];try rfl
 have eal:(-2000:Int)=s6.al:=by rw [hs6];simp only [ub4,hSN,hfl,hll];try rfl
 have eah:(2000:Int)=s6.ah:=by rw [hs6];simp only [ub4,hSN,hfl,hll];try rfl
 have ebl:(-2000:Int)=s6.bl:=by rw [hs6];simp only [ub4,hSN,hfl,hll];try rfl
 have ebh:(2000:Int)=s6.bh:=by rw [hs6];simp only [ub4,hSN,hfl,hll];try rfl
 have ecl:(-2000:Int)=s6.cl:=by rw [hs6];simp only [ub4,hSN,hfl,hll];try rfl
 have ech:(2000:Int)=s6.ch:=by rw [hs6];simp only [ub4,hSN,hfl,hll];try rfl
 have o0:=ufW hd b 0
 have q0:(0≤s6.l0∧s6.l0≤2000)∧0≤s6.h0∧s6.h0≤2000:=by omega
 have q1:(0≤s6.l1∧s6.l1≤2000)∧0≤s6.h1∧s6.h1≤2000:=by omega
 have q2:(0≤s6.l2∧s6.l2≤2000)∧0≤s6.h2∧s6.h2≤2000:=by omega
 have p0:(-2000≤s6.al∧s6.al≤2000)∧ -2000≤s6.ah∧s6.ah≤2000:=by omega
 have p1:(-2000≤s6.bl∧s6.bl≤2000)∧ -2000≤s6.bh∧s6.bh≤2000:=by omega
 have p2:(-2000≤s6.cl∧s6.cl≤2000)∧ -2000≤s6.ch∧s6.ch≤2000:=by omega
 rw [←hs6]
 clear hs6
 clear o0
 refine ua0.is fun R hR=>qW (sc:=uyE) uai mix Tryz.func26 rfl Tryz.call26 (by kernel_rfl) (by kernel_rfl) ?_
 generalize Tryz.prog=P at c64 c65 c66⊢
 cbv
 repeat' (first|fail)
 all_goals first|skip
 refine⟨some 2,?_⟩
 cbv
 repeat' (first|(refine qP ?_ (c64 0) ?hfit;(case hfit=>((refine qD (qC (Fit.refl _) rfl (qC (Fit.refl _) rfl (qC (Fit.refl _) rfl (qC (qE (by first|rfl|exact hS.symm)) rfl (Fit.refl _))))) (qD (Fit.refl _) (qD (qE (by rfl)) (qD (Fit.refl _) qB))));done));try cbv)|fail)
 all_goals first|skip
 refine⟨none,[],{x:Nat×Int×Bnd // x.1≤(s6.h0-s6.l0+1).toNat∧x.2.1=s6.l0+zi x.1∧x.2.2=bdN s6 x.1},fun x=>⟨[(3,.own 0 0),(8,.own 7 0),(10,.own 32 0),(11,.own 33 0),(12,.own 34 0),(13,.own 48 0),(14,(iv fun _=>x.1.2.1))],[(0,.cells [(iS d.tw),(iS d.tm),(.sl 1 (.sym fun _=>zi (d.tv).length) (fun ix=>[(.sl 1 (.sym fun _=>zi ((d.tv).getD ix.den.toNat []).length) (fun jx=>[(iv fun _=>((d.tv).getD ix.den.toNat []).getD jx.den.toNat 0)]))])),(.int .i64 (.lit 1)),(iv fun _=>d.pn),(.sl 4 (.sym fun _=>zi (d.ls).length) (fun ix=>[(iv fun _=>((d.ls).getD ix.den.toNat l0T).a),(iv fun _=>((d.ls).getD ix.den.toNat l0T).b),(iv fun _=>((d.ls).getD ix.den.toNat l0T).lo),(iv fun _=>((d.ls).getD ix.den.toNat l0T).hi)])),(.sl 6 (.sym fun _=>zi (d.fs).length) (fun ix=>[(iv fun _=>((d.fs).getD ix.den.toNat f0T).p),(iv fun _=>((d.fs).getD ix.den.toNat f0T).s),(iv fun _=>((d.fs).getD ix.den.toNat f0T).wl),(iv fun _=>((d.fs).getD ix.den.toNat f0T).wh),(iv fun _=>((d.fs).getD ix.den.toNat f0T).ml),(iv fun _=>((d.fs).getD ix.den.toNat f0T).mh)]))] 29),(7,.cells [(iv fun _=>s6.l0),(iv fun _=>s6.h0),(iv fun _=>s6.l1),(iv fun _=>s6.h1),(iv fun _=>s6.l2),(iv fun _=>s6.h2)] 124),(32,.cells [(iv fun _=>s6.al),(iv fun _=>s6.ah)] 66),(33,.cells [(iv fun _=>s6.bl),(iv fun _=>s6.bh)] 66),(34,.cells [(iv fun _=>s6.cl),(iv fun _=>s6.ch)] 66),(48,.cells [(iv fun _=>x.1.2.2.l0),(iv fun _=>x.1.2.2.h0),(iv fun _=>x.1.2.2.l1),(iv fun _=>x.1.2.2.h1),(iv fun _=>x.1.2.2.l2),(iv fun _=>x.1.2.2.h2)] 124)],400⟩,fun x=>(s6.h0-s6.l0+1).toNat-x.1.1,?_,?_⟩
 ·refine⟨⟨(0,s6.l0,bd0),by simp only [];omega,by simp only [uac];omega,rfl⟩,?_⟩
  cbv
  repeat' (first|with_reducible refine ua4 ?_ ?_|with_reducible refine And.intro ?_ ?_)
  all_goals first|trivial|exact qM (Fit.refl _)|exact qL (qK _)|(refine qM (qE ?_);(try simp only [qV]at *);simp only [zQ,zA,zB,zC,zD,zE,zF,zG,zH,zI,zJ,zK,zL,zM,zN,zO,zP,zR,zS]at *;omega)|(refine qL (qJ ?_);(repeat' (first|exact qA|refine qC ?_ rfl ?_|exact qE (by first|rfl|exact el0|exact eh0|exact el1|exact eh1|exact el2|exact eh2|exact eal|exact eah|exact ebl|exact ebh|exact ecl|exact ech)));done)|skip
 ·rintro ⟨⟨k,n,w⟩,hk,hn,hb⟩
  cbv
  dsimp only at hk hn hb
  repeat' (first
   |(with_reducible intro hcd;exfalso;(try simp only [zQ,zA,zB,zC,zD,zE,zF,zG,zH,zI,zJ,zK,zL,zM,zN,zO,zP,zR,zS]at hcd);omega)
   |with_reducible refine ua4 ?_ ?_
   |with_reducible refine And.intro ?_ ?_
   |(with_reducible intro hcd;(try simp only [zA,zB,zC,zD,zE,zF,zG,zH,zI,zJ,zK,zL,zM,zN,zO,zP]at hcd);try cbv)
   |(refine qP ?_ (c66 _ _ _ _) (by(repeat' (first|exact qB|refine qD ?_ ?_|exact qE (by rfl)|exact qF (by rfl)|exact Fit.refl _|exact qA|refine qC ?_ rfl ?_)));try cbv)
   | (refine⟨some 4,?_⟩
      cbv)
   |fail)
  all_goals first|trivial|((try clear c66);(try clear c64);(try clear c65);((try simp only [qV]at *);(try simp only [zQ,zA,zB,zC,zD,zE,zF,zG,zH,zI,zJ,zK,zL,zM,zN,zO,zP,zR,zS]at *);first|(refine qN ?_;omega)|(simp only [uaj];omega)))|((try clear c66);(try clear c64);(try clear c65);((try clear el0 eh0 el1 eh1 el2 eh2 eal eah ebl ebh ecl ech hb hfl hll hSN f6 l4 hd);(try simp only [qV]at *);(try simp only [zQ,zA,zB,zC,zD,zE,zF,zG,zH,zI,zJ,zK,zL,zM,zN,zO,zP,zR,zS]at *);have hk8:n≤2000:=(by omega);(have v1:=uiW (a:=s6.l1) (b:=n+s6.al) (l:= -4000) (h:=4000) ⟨by omega,by omega⟩ ⟨by omega,by omega⟩);(have v2:=uiw (a:=s6.h1) (b:=n+s6.ah) (l:= -4000) (h:=4000) ⟨by omega,by omega⟩ ⟨by omega,by omega⟩);(have v3:=uiW (a:=s6.l2) (b:=n+s6.bl) (l:= -4000) (h:=4000) ⟨by omega,by omega⟩ ⟨by omega,by omega⟩);(have v4:=uiw (a:=s6.h2) (b:=n+s6.bh) (l:= -4000) (h:=4000) ⟨by omega,by omega⟩ ⟨by omega,by omega⟩);(refine qN ?_);omega))|((try clear c66);(try clear c64);(try clear c65);((try simp only [zQ,zA,zB,zC,zD,zE,zF,zG,zH,zI,zJ,zK,zL,zM,zN,zO,zP,zR,zS]at *);(have hk2:k+1≤(s6.h0-s6.l0+1).toNat:=by((try simp only [qV]at *);(try simp only [zQ,zA,zB,zC,zD,zE,zF,zG,zH,zI,zJ,zK,zL,zM,zN,zO,zP,zR,zS]at *);omega));obtain⟨n1,en1⟩:∃z,z=n+1:=⟨_,rfl⟩;(have hn2:n1=s6.l0+zi (k+1):=by((try simp only [qV]at *);(try simp only [zQ,zA,zB,zC,zD,zE,zF,zG,zH,zI,zJ,zK,zL,zM,zN,zO,zP,zR,zS]at *);omega));(have hb2:=udd hn hb (uuL (by assumption)));refine⟨⟨(k+1,n1,w),hk2,hn2,hb2⟩,by simp only [];omega,?_⟩;cbv;(repeat' (first|with_reducible refine ua4 ?_ ?_|with_reducible refine And.intro ?_ ?_));(all_goals first|trivial|exact qM (qE (by rfl))|exact qM (qF (by rfl))|exact qM (Fit.refl _)|exact qL (qK _)|(refine qM (qE ?_);(try simp only [qV]at *);simp only [zQ,zA,zB,zC,zD,zE,zF,zG,zH,zI,zJ,zK,zL,zM,zN,zO,zP,zR,zS]at *;omega)|(subst en1;exact qM (qE (by rfl)))|(refine qL (qJ ?_);(repeat' (first|exact qA|exact qB|refine qC ?_ rfl ?_|refine qD ?_ ?_|exact qE (by rfl)|exact qF (by rfl)|exact Fit.refl _|exact qG _|(refine qE ?_;(try simp only [qV]at *);simp only [zQ,zA,zB,zC,zD,zE,zF,zG,zH,zI,zJ,zK,zL,zM,zN,zO,zP,zR,zS]at *;omega)));done)|skip)))|((try clear c66);(try clear c64);(try clear c65);((try simp only [zQ,zA,zB,zC,zD,zE,zF,zG,zH,zI,zJ,zK,zL,zM,zN,zO,zP,zR,zS]at *);(have hk2:k+1≤(s6.h0-s6.l0+1).toNat:=by((try simp only [qV]at *);(try simp only [zQ,zA,zB,zC,zD,zE,zF,zG,zH,zI,zJ,zK,zL,zM,zN,zO,zP,zR,zS]at *);omega));obtain⟨n1,en1⟩:∃z,z=n+1:=⟨_,rfl⟩;(have hn2:n1=s6.l0+zi (k+1):=by((try simp only [qV]at *);(try simp only [zQ,zA,zB,zC,zD,zE,zF,zG,zH,zI,zJ,zK,zL,zM,zN,zO,zP,zR,zS]at *);omega));(have hb2:=udd hn hb (uvg (by assumption)));refine⟨⟨(k+1,n1,w),hk2,hn2,hb2⟩,by simp only [];omega,?_⟩;cbv;(repeat' (first|with_reducible refine ua4 ?_ ?_|with_reducible refine And.intro ?_ ?_));(all_goals first|trivial|exact qM (qE (by rfl))|exact qM (qF (by rfl))|exact qM (Fit.refl _)|exact qL (qK _)|(refine qM (qE ?_);(try simp only [qV]at *);simp only [zQ,zA,zB,zC,zD,zE,zF,zG,zH,zI,zJ,zK,zL,zM,zN,zO,zP,zR,zS]at *;omega)|(subst en1;exact qM (qE (by rfl)))|(refine qL (qJ ?_);(repeat' (first|exact qA|exact qB|refine qC ?_ rfl ?_|refine qD ?_ ?_|exact qE (by rfl)|exact qF (by rfl)|exact Fit.refl _|exact qG _|(refine qE ?_;(try simp only [qV]at *);simp only [zQ,zA,zB,zC,zD,zE,zF,zG,zH,zI,zJ,zK,zL,zM,zN,zO,zP,zR,zS]at *;omega)));done)|skip)))|((try clear c66);(try clear c64);(try clear c65);((try simp only [zQ,zA,zB,zC,zD,zE,zF,zG,zH,zI,zJ,zK,zL,zM,zN,zO,zP,zR,zS]at *);(have hk2:k+1≤(s6.h0-s6.l0+1).toNat:=by((try simp only [qV]at *);(try simp only [zQ,zA,zB,zC,zD,zE,zF,zG,zH,zI,zJ,zK,zL,zM,zN,zO,zP,zR,zS]at *);omega));obtain⟨n1,en1⟩:∃z,z=n+1:=⟨_,rfl⟩;(have hn2:n1=s6.l0+zi (k+1):=by((try simp only [qV]at *);(try simp only [zQ,zA,zB,zC,zD,zE,zF,zG,zH,zI,zJ,zK,zL,zM,zN,zO,zP,zR,zS]at *);omega));(have hb2:=udd hn hb (umd (.inr (.inl (by assumption)))));refine⟨⟨(k+1,n1,w),hk2,hn2,hb2⟩,by simp only [];omega,?_⟩;cbv;(repeat' (first|with_reducible refine ua4 ?_ ?_|with_reducible refine And.intro ?_ ?_));(all_goals first|trivial|exact qM (qE (by rfl))|exact qM (qF (by rfl))|exact qM (Fit.refl _)|exact qL (qK _)|(refine qM (qE ?_);(try simp only [qV]at *);simp only [zQ,zA,zB,zC,zD,zE,zF,zG,zH,zI,zJ,zK,zL,zM,zN,zO,zP,zR,zS]at *;omega)|(subst en1;exact qM (qE (by rfl)))|(refine qL (qJ ?_);(repeat' (first|exact qA|exact qB|refine qC ?_ rfl ?_|refine qD ?_ ?_|exact qE (by rfl)|exact qF (by rfl)|exact Fit.refl _|exact qG _|(refine qE ?_;(try simp only [qV]at *);simp only [zQ,zA,zB,zC,zD,zE,zF,zG,zH,zI,zJ,zK,zL,zM,zN,zO,zP,zR,zS]at *;omega)));done)|skip)))|((try clear c66);(try clear c64);(try clear c65);((try simp only [zQ,zA,zB,zC,zD,zE,zF,zG,zH,zI,zJ,zK,zL,zM,zN,zO,zP,zR,zS]at *);(have hk2:k+1≤(s6.h0-s6.l0+1).toNat:=by((try simp only [qV]at *);(try simp only [zQ,zA,zB,zC,zD,zE,zF,zG,zH,zI,zJ,zK,zL,zM,zN,zO,zP,zR,zS]at *);omega));obtain⟨n1,en1⟩:∃z,z=n+1:=⟨_,rfl⟩;(have hn2:n1=s6.l0+zi (k+1):=by((try simp only [qV]at *);(try simp only [zQ,zA,zB,zC,zD,zE,zF,zG,zH,zI,zJ,zK,zL,zM,zN,zO,zP,zR,zS]at *);omega));(have hb2:=udd hn hb (umd (.inr (.inr (by assumption)))));refine⟨⟨(k+1,n1,w),hk2,hn2,hb2⟩,by simp only [];omega,?_⟩;cbv;(repeat' (first|with_reducible refine ua4 ?_ ?_|with_reducible refine And.intro ?_ ?_));(all_goals first|trivial|exact qM (qE (by rfl))|exact qM (qF (by rfl))|exact qM (Fit.refl _)|exact qL (qK _)|(refine qM (qE ?_);(try simp only [qV]at *);simp only [zQ,zA,zB,zC,zD,zE,zF,zG,zH,zI,zJ,zK,zL,zM,zN,zO,zP,zR,zS]at *;omega)|(subst en1;exact qM (qE (by rfl)))|(refine qL (qJ ?_);(repeat' (first|exact qA|exact qB|refine qC ?_ rfl ?_|refine qD ?_ ?_|exact qE (by rfl)|exact qF (by rfl)|exact Fit.refl _|exact qG _|(refine qE ?_;(try simp only [qV]at *);simp only [zQ,zA,zB,zC,zD,zE,zF,zG,zH,zI,zJ,zK,zL,zM,zN,zO,zP,zR,zS]at *;omega)));done)|skip)))|((try clear c66);(try clear c64);(try clear c65);((try simp only [zQ,zA,zB,zC,zD,zE,zF,zG,zH,zI,zJ,zK,zL,zM,zN,zO,zP,zR,zS]at *);(have hk2:k+1≤(s6.h0-s6.l0+1).toNat:=by((try simp only [qV]at *);(try simp only [zQ,zA,zB,zC,zD,zE,zF,zG,zH,zI,zJ,zK,zL,zM,zN,zO,zP,zR,zS]at *);omega));obtain⟨n1,en1⟩:∃z,z=n+1:=⟨_,rfl⟩;(have hn2:n1=s6.l0+zi (k+1):=by((try simp only [qV]at *);(try simp only [zQ,zA,zB,zC,zD,zE,zF,zG,zH,zI,zJ,zK,zL,zM,zN,zO,zP,zR,zS]at *);omega));obtain⟨o,eo⟩:∃o:Bnd,o=⟨mn w.l0 n,mx w.h0 n,mn w.l1 (xL s6 n),mx w.h1 (xH s6 n),mn w.l2 (yL s6 n),mx w.h2 (yH s6 n)⟩:=⟨_,rfl⟩;(have hb2:=ulc hn hb (uyQ (by assumption) (by assumption) (by assumption) (by assumption) (by assumption)) eo);refine⟨⟨(k+1,n1,o),hk2,hn2,hb2⟩,by simp only [];omega,?_⟩;cbv;(repeat' (first|with_reducible refine ua4 ?_ ?_|with_reducible refine And.intro ?_ ?_));(all_goals first|trivial|exact qM (qE (by rfl))|exact qM (qF (by rfl))|exact qM (Fit.refl _)|exact qL (qK _)|(refine qM (qE ?_);(try simp only [qV]at *);simp only [zQ,zA,zB,zC,zD,zE,zF,zG,zH,zI,zJ,zK,zL,zM,zN,zO,zP,zR,zS]at *;omega)|(subst en1;exact qM (qE (by rfl)))|(subst eo;(refine qL (qJ ?_));(repeat' (first|exact qA|exact qB|refine qC ?_ rfl ?_|refine qD ?_ ?_|exact qE (by rfl)|exact qF (by rfl)|exact Fit.refl _|exact qG _|(refine qE ?_;(try simp only [qV]at *);simp only [zQ,zA,zB,zC,zD,zE,zF,zG,zH,zI,zJ,zK,zL,zM,zN,zO,zP,zR,zS]at *;omega)));done)|(refine qL (qJ ?_);(repeat' (first|exact qA|exact qB|refine qC ?_ rfl ?_|refine qD ?_ ?_|exact qE (by rfl)|exact qF (by rfl)|exact Fit.refl _|exact qG _|(refine qE ?_;(try simp only [qV]at *);simp only [zQ,zA,zB,zC,zD,zE,zF,zG,zH,zI,zJ,zK,zL,zM,zN,zO,zP,zR,zS]at *;omega)));done)|skip)))|((try clear c66);(try clear c64);(try clear c65);(subst hR;(have e:k=(s6.h0-s6.l0+1).toNat:=by((try simp only [qV]at *);(try simp only [zQ,zA,zB,zC,zD,zE,zF,zG,zH,zI,zJ,zK,zL,zM,zN,zO,zP,zR,zS]at *);omega));subst e;subst hb;(refine qD ?_ (qD (qF (by rfl)) qB));(refine ua1 (by rfl) (fun ix h0 h1=> ?_);(have h2:ix.den<1:=h1);(have hx:ix.den.toNat=0:=by omega);(rcases hx with hx<;>simp only [hx]));all_goals (exact qC (qE (by rfl)) rfl (qC (qE (by rfl)) rfl qA))))|skip
set_option maxHeartbeats 2000000 in
theorem uv2 (d:Dsp)(b:Nat)(hd:DOk d)(hb:b≤1000)(hS:d.sn=2):ua0 Tryz.prog 26 [(.agg [(iS d.tw),(iS d.tm),(.sl 1 (.sym fun _=>zi (d.tv).length) (fun ix=>[(.sl 1 (.sym fun _=>zi ((d.tv).getD ix.den.toNat []).length) (fun jx=>[(iv fun _=>((d.tv).getD ix.den.toNat []).getD jx.den.toNat 0)]))])),(.int .i64 (.lit 2)),(iv fun _=>d.pn),(.sl 4 (.sym fun _=>zi (d.ls).length) (fun ix=>[(iv fun _=>((d.ls).getD ix.den.toNat l0T).a),(iv fun _=>((d.ls).getD ix.den.toNat l0T).b),(iv fun _=>((d.ls).getD ix.den.toNat l0T).lo),(iv fun _=>((d.ls).getD ix.den.toNat l0T).hi)])),(.sl 6 (.sym fun _=>zi (d.fs).length) (fun ix=>[(iv fun _=>((d.fs).getD ix.den.toNat f0T).p),(iv fun _=>((d.fs).getD ix.den.toNat f0T).s),(iv fun _=>((d.fs).getD ix.den.toNat f0T).wl),(iv fun _=>((d.fs).getD ix.den.toNat f0T).wh),(iv fun _=>((d.fs).getD ix.den.toNat f0T).ml),(iv fun _=>((d.fs).getD ix.den.toNat f0T).mh)]))]),(mnS d),(iv fun _=>zi b)] [] (fun r _=>r=(.tup [(.sl 2 (.sym fun _=>zi 2) (fun ix=>[(iv fun _=>(ubX (ub4 (SN d) (LO d) (FO d d.fs) (ubc b))).lo ix.den.toNat),(iv fun _=>(ubX (ub4 (SN d) (LO d) (FO d d.fs) (ubc b))).hi ix.den.toNat)])),(bv fun _=>decide (0≤(ubX (ub4 (SN d) (LO d) (FO d d.fs) (ubc b))).h0))])):=by
 have c64:=fun s=>uvm d b s hd hb
 have c65:=fun a e=>ulE d a e hd
 have c66:=up5
 have f6:=hd.f6
 have l4:=hd.l4
 obtain⟨s6,hs6⟩:∃s6,s6=ub4 (SN d) (LO d) (FO d d.fs) (ubc b):=⟨_,rfl⟩
 have hSN:SN d=2:=by unfold SN;omega
 have hfl:=udi d d.fs
 have hll:=uf6 d
 have el0:(uc3 (FO d d.fs) (ubc b) 0 d.fs.length).1=s6.l0:=by rw [hs6];simp only [ub4,hSN,hfl,hll];try rfl
 have eh0:(uc3 (FO d d.fs) (ubc b) 0 d.fs.length).2=s6.h0:=by rw [hs6];simp only [ub4,hSN,hfl,hll];try rfl
 have el1:(uc3 (FO d d.fs) (ubc b) 1 d.fs.length).1=s6.l1:=by rw [hs6];simp only [ub4,hSN,hfl,hll];try rfl
 have eh1:(uc3 (FO d d.fs) (ubc b) 1 d.fs.length).2=s6.h1:=by rw [hs6];simp only [ub4,hSN,hfl,hll];try rfl
 have el2:(0:Int)=s6.l2:=by rw [hs6];simp only [ub4,hSN,hfl,hll];try rfl
 have eh2:(0:Int)=s6.h2:=by rw [hs6];simp only [ub4,hSN,hfl,hll];try rfl
 have eal:(ucE (LO d) 0 1 d.ls.length).1=s6.al:=by rw [hs6];simp only [ub4,hSN,hfl,hll];try rfl
 have eah:(ucE (LO d) 0 1 d.ls.length).2=s6.ah:=by rw [hs6];simp only [ub4,hSN,hfl,hll];try rfl
 have ebl:(-2000:Int)=s6.bl:=by rw [hs6];simp only [ub4,hSN,hfl,hll];try rfl
 have ebh:(2000:Int)=s6.bh:=by rw [hs6];simp only [ub4,hSN,hfl,hll];try rfl
 have ecl:(-2000:Int)=s6.cl:=by rw [hs6];simp only [ub4,hSN,hfl,hll];try rfl
 have ech:(2000:Int)=s6.ch:=by rw [hs6];simp only [ub4,hSN,hfl,hll];try rfl
 have o0:=ufW hd b 0
 have o1:=ufW hd b 1
 have d0:=uiE hd 0 1
 have q0:(0≤s6.l0∧s6.l0≤2000)∧0≤s6.h0∧s6.h0≤2000:=by omega
 have q1:(0≤s6.l1∧s6.l1≤2000)∧0≤s6.h1∧s6.h1≤2000:=by omega
 have q2:(0≤s6.l2∧s6.l2≤2000)∧0≤s6.h2∧s6.h2≤2000:=by omega
 have p0:(-2000≤s6.al∧s6.al≤2000)∧ -2000≤s6.ah∧s6.ah≤2000:=by omega
 have p1:(-2000≤s6.bl∧s6.bl≤2000)∧ -2000≤s6.bh∧s6.bh≤2000:=by omega
 have p2:(-2000≤s6.cl∧s6.cl≤2000)∧ -2000≤s6.ch∧s6.ch≤2000:=by omega
 rw [←hs6]
 clear hs6
 clear o0
 clear o1
 clear d0
 refine ua0.is fun R hR=>qW (sc:=uyE) uai mix Tryz.func26 rfl Tryz.call26 (by kernel_rfl) (by kernel_rfl) ?_
 generalize Tryz.prog=P at c64 c65 c66⊢
 cbv
 repeat' (first|fail)
 all_goals first|skip
 refine⟨some 3,?_⟩
 cbv
 repeat' (first|(refine qP ?_ (c64 0) ?hfit;(case hfit=>((refine qD (qC (Fit.refl _) rfl (qC (Fit.refl _) rfl (qC (Fit.refl _) rfl (qC (qE (by first|rfl|exact hS.symm)) rfl (Fit.refl _))))) (qD (Fit.refl _) (qD (qE (by rfl)) (qD (Fit.refl _) qB))));done));try cbv)|(refine qP ?_ (c64 1) ?hfit;(case hfit=>((refine qD (qC (Fit.refl _) rfl (qC (Fit.refl _) rfl (qC (Fit.refl _) rfl (qC (qE (by first|rfl|exact hS.symm)) rfl (Fit.refl _))))) (qD (Fit.refl _) (qD (qE (by rfl)) (qD (Fit.refl _) qB))));done));try cbv)|(refine qP ?_ (c65 0 1) ?hfit;(case hfit=>((refine qD (qC (Fit.refl _) rfl (qC (Fit.refl _) rfl (qC (Fit.refl _) rfl (qC (qE (by first|rfl|exact hS.symm)) rfl (Fit.refl _))))) (qD (qE (by rfl)) (qD (qE (by rfl)) qB)));done));try cbv)|fail)
 all_goals first|skip
 refine⟨none,[],{x:Nat×Int×Bnd // x.1≤(s6.h0-s6.l0+1).toNat∧x.2.1=s6.l0+zi x.1∧x.2.2=bdN s6 x.1},fun x=>⟨[(3,.own 0 0),(8,.own 7 0),(10,.own 47 0),(11,.own 48 0),(12,.own 49 0),(13,.own 66 0),(14,(iv fun _=>x.1.2.1))],[(0,.cells [(iS d.tw),(iS d.tm),(.sl 1 (.sym fun _=>zi (d.tv).length) (fun ix=>[(.sl 1 (.sym fun _=>zi ((d.tv).getD ix.den.toNat []).length) (fun jx=>[(iv fun _=>((d.tv).getD ix.den.toNat []).getD jx.den.toNat 0)]))])),(.int .i64 (.lit 2)),(iv fun _=>d.pn),(.sl 4 (.sym fun _=>zi (d.ls).length) (fun ix=>[(iv fun _=>((d.ls).getD ix.den.toNat l0T).a),(iv fun _=>((d.ls).getD ix.den.toNat l0T).b),(iv fun _=>((d.ls).getD ix.den.toNat l0T).lo),(iv fun _=>((d.ls).getD ix.den.toNat l0T).hi)])),(.sl 6 (.sym fun _=>zi (d.fs).length) (fun ix=>[(iv fun _=>((d.fs).getD ix.den.toNat f0T).p),(iv fun _=>((d.fs).getD ix.den.toNat f0T).s),(iv fun _=>((d.fs).getD ix.den.toNat f0T).wl),(iv fun _=>((d.fs).getD ix.den.toNat f0T).wh),(iv fun _=>((d.fs).getD ix.den.toNat f0T).ml),(iv fun _=>((d.fs).getD ix.den.toNat f0T).mh)]))] 29),(7,.cells [(iv fun _=>s6.l0),(iv fun _=>s6.h0),(iv fun _=>s6.l1),(iv fun _=>s6.h1),(iv fun _=>s6.l2),(iv fun _=>s6.h2)] 124),(47,.cells [(iv fun _=>s6.al),(iv fun _=>s6.ah)] 66),(48,.cells [(iv fun _=>s6.bl),(iv fun _=>s6.bh)] 66),(49,.cells [(iv fun _=>s6.cl),(iv fun _=>s6.ch)] 66),(66,.cells [(iv fun _=>x.1.2.2.l0),(iv fun _=>x.1.2.2.h0),(iv fun _=>x.1.2.2.l1),(iv fun _=>x.1.2.2.h1),(iv fun _=>x.1.2.2.l2),(iv fun _=>x.1.2.2.h2)] 124)],400⟩,fun x=>(s6.h0-s6.l0+1).toNat-x.1.1,?_,?_⟩
 ·refine⟨⟨(0,s6.l0,bd0),by simp only [];omega,by simp only [uac];omega,rfl⟩,?_⟩
  cbv
  repeat' (first|with_reducible refine ua4 ?_ ?_|with_reducible refine And.intro ?_ ?_)
  all_goals first|trivial|exact qM (Fit.refl _)|exact qL (qK _)|(refine qM (qE ?_);(try simp only [qV]at *);simp only [zQ,zA,zB,zC,zD,zE,zF,zG,zH,zI,zJ,zK,zL,zM,zN,zO,zP,zR,zS]at *;omega)|(refine qL (qJ ?_);(repeat' (first|exact qA|refine qC ?_ rfl ?_|exact qE (by first|rfl|exact el0|exact eh0|exact el1|exact eh1|exact el2|exact eh2|exact eal|exact eah|exact ebl|exact ebh|exact ecl|exact ech)));done)|skip
 ·rintro ⟨⟨k,n,w⟩,hk,hn,hb⟩
  cbv
  dsimp only at hk hn hb
  repeat' (first
   |(with_reducible intro hcd;exfalso;(try simp only [zQ,zA,zB,zC,zD,zE,zF,zG,zH,zI,zJ,zK,zL,zM,zN,zO,zP,zR,zS]at hcd);omega)
   |with_reducible refine ua4 ?_ ?_
   |with_reducible refine And.intro ?_ ?_
   |(with_reducible intro hcd;(try simp only [zA,zB,zC,zD,zE,zF,zG,zH,zI,zJ,zK,zL,zM,zN,zO,zP]at hcd);try cbv)
   |(refine qP ?_ (c66 _ _ _ _) (by(repeat' (first|exact qB|refine qD ?_ ?_|exact qE (by rfl)|exact qF (by rfl)|exact Fit.refl _|exact qA|refine qC ?_ rfl ?_)));try cbv)
   | (refine⟨some 4,?_⟩
      cbv)
   |fail)
  all_goals first|trivial|((try clear c66);(try clear c64);(try clear c65);((try simp only [qV]at *);(try simp only [zQ,zA,zB,zC,zD,zE,zF,zG,zH,zI,zJ,zK,zL,zM,zN,zO,zP,zR,zS]at *);first|(refine qN ?_;omega)|(simp only [uaj];omega)))|((try clear c66);(try clear c64);(try clear c65);((try clear el0 eh0 el1 eh1 el2 eh2 eal eah ebl ebh ecl ech hb hfl hll hSN f6 l4 hd);(try simp only [qV]at *);(try simp only [zQ,zA,zB,zC,zD,zE,zF,zG,zH,zI,zJ,zK,zL,zM,zN,zO,zP,zR,zS]at *);have hk8:n≤2000:=(by omega);(have v1:=uiW (a:=s6.l1) (b:=n+s6.al) (l:= -4000) (h:=4000) ⟨by omega,by omega⟩ ⟨by omega,by omega⟩);(have v2:=uiw (a:=s6.h1) (b:=n+s6.ah) (l:= -4000) (h:=4000) ⟨by omega,by omega⟩ ⟨by omega,by omega⟩);(have v3:=uiW (a:=s6.l2) (b:=n+s6.bl) (l:= -4000) (h:=4000) ⟨by omega,by omega⟩ ⟨by omega,by omega⟩);(have v4:=uiw (a:=s6.h2) (b:=n+s6.bh) (l:= -4000) (h:=4000) ⟨by omega,by omega⟩ ⟨by omega,by omega⟩);(refine qN ?_);omega))|((try clear c66);(try clear c64);(try clear c65);((try simp only [zQ,zA,zB,zC,zD,zE,zF,zG,zH,zI,zJ,zK,zL,zM,zN,zO,zP,zR,zS]at *);(have hk2:k+1≤(s6.h0-s6.l0+1).toNat:=by((try simp only [qV]at *);(try simp only [zQ,zA,zB,zC,zD,zE,zF,zG,zH,zI,zJ,zK,zL,zM,zN,zO,zP,zR,zS]at *);omega));obtain⟨n1,en1⟩:∃z,z=n+1:=⟨_,rfl⟩;(have hn2:n1=s6.l0+zi (k+1):=by((try simp only [qV]at *);(try simp only [zQ,zA,zB,zC,zD,zE,zF,zG,zH,zI,zJ,zK,zL,zM,zN,zO,zP,zR,zS]at *);omega));(have hb2:=udd hn hb (uuL (by assumption)));refine⟨⟨(k+1,n1,w),hk2,hn2,hb2⟩,by simp only [];omega,?_⟩;cbv;(repeat' (first|with_reducible refine ua4 ?_ ?_|with_reducible refine And.intro ?_ ?_));(all_goals first|trivial|exact qM (qE (by rfl))|exact qM (qF (by rfl))|exact qM (Fit.refl _)|exact qL (qK _)|(refine qM (qE ?_);(try simp only [qV]at *);simp only [zQ,zA,zB,zC,zD,zE,zF,zG,zH,zI,zJ,zK,zL,zM,zN,zO,zP,zR,zS]at *;omega)|(subst en1;exact qM (qE (by rfl)))|(refine qL (qJ ?_);(repeat' (first|exact qA|exact qB|refine qC ?_ rfl ?_|refine qD ?_ ?_|exact qE (by rfl)|exact qF (by rfl)|exact Fit.refl _|exact qG _|(refine qE ?_;(try simp only [qV]at *);simp only [zQ,zA,zB,zC,zD,zE,zF,zG,zH,zI,zJ,zK,zL,zM,zN,zO,zP,zR,zS]at *;omega)));done)|skip)))|((try clear c66);(try clear c64);(try clear c65);((try simp only [zQ,zA,zB,zC,zD,zE,zF,zG,zH,zI,zJ,zK,zL,zM,zN,zO,zP,zR,zS]at *);(have hk2:k+1≤(s6.h0-s6.l0+1).toNat:=by((try simp only [qV]at *);(try simp only [zQ,zA,zB,zC,zD,zE,zF,zG,zH,zI,zJ,zK,zL,zM,zN,zO,zP,zR,zS]at *);omega));obtain⟨n1,en1⟩:∃z,z=n+1:=⟨_,rfl⟩;(have hn2:n1=s6.l0+zi (k+1):=by((try simp only [qV]at *);(try simp only [zQ,zA,zB,zC,zD,zE,zF,zG,zH,zI,zJ,zK,zL,zM,zN,zO,zP,zR,zS]at *);omega));(have hb2:=udd hn hb (uvg (by assumption)));refine⟨⟨(k+1,n1,w),hk2,hn2,hb2⟩,by simp only [];omega,?_⟩;cbv;(repeat' (first|with_reducible refine ua4 ?_ ?_|with_reducible refine And.intro ?_ ?_));(all_goals first|trivial|exact qM (qE (by rfl))|exact qM (qF (by rfl))|exact qM (Fit.refl _)|exact qL (qK _)|(refine qM (qE ?_);(try simp only [qV]at *);simp only [zQ,zA,zB,zC,zD,zE,zF,zG,zH,zI,zJ,zK,zL,zM,zN,zO,zP,zR,zS]at *;omega)|(subst en1;exact qM (qE (by rfl)))|(refine qL (qJ ?_);(repeat' (first|exact qA|exact qB|refine qC ?_ rfl ?_|refine qD ?_ ?_|exact qE (by rfl)|exact qF (by rfl)|exact Fit.refl _|exact qG _|(refine qE ?_;(try simp only [qV]at *);simp only [zQ,zA,zB,zC,zD,zE,zF,zG,zH,zI,zJ,zK,zL,zM,zN,zO,zP,zR,zS]at *;omega)));done)|skip)))|((try clear c66);(try clear c64);(try clear c65);((try simp only [zQ,zA,zB,zC,zD,zE,zF,zG,zH,zI,zJ,zK,zL,zM,zN,zO,zP,zR,zS]at *);(have hk2:k+1≤(s6.h0-s6.l0+1).toNat:=by((try simp only [qV]at *);(try simp only [zQ,zA,zB,zC,zD,zE,zF,zG,zH,zI,zJ,zK,zL,zM,zN,zO,zP,zR,zS]at *);omega));obtain⟨n1,en1⟩:∃z,z=n+1:=⟨_,rfl⟩;(have hn2:n1=s6.l0+zi (k+1):=by((try simp only [qV]at *);(try simp only [zQ,zA,zB,zC,zD,zE,zF,zG,zH,zI,zJ,zK,zL,zM,zN,zO,zP,zR,zS]at *);omega));(have hb2:=udd hn hb (umd (.inr (.inl (by assumption)))));refine⟨⟨(k+1,n1,w),hk2,hn2,hb2⟩,by simp only [];omega,?_⟩;cbv;(repeat' (first|with_reducible refine ua4 ?_ ?_|with_reducible refine And.intro ?_ ?_));(all_goals first|trivial|exact qM (qE (by rfl))|exact qM (qF (by rfl))|exact qM (Fit.refl _)|exact qL (qK _)|(refine qM (qE ?_);(try simp only [qV]at *);simp only [zQ,zA,zB,zC,zD,zE,zF,zG,zH,zI,zJ,zK,zL,zM,zN,zO,zP,zR,zS]at *;omega)|(subst en1;exact qM (qE (by rfl)))|(refine qL (qJ ?_);(repeat' (first|exact qA|exact qB|refine qC ?_ rfl ?_|refine qD ?_ ?_|exact qE (by rfl)|exact qF (by rfl)|exact Fit.refl _|exact qG _|(refine qE ?_;(try simp only [qV]at *);simp only [zQ,zA,zB,zC,zD,zE,zF,zG,zH,zI,zJ,zK,zL,zM,zN,zO,zP,zR,zS]at *;omega)));done)|skip)))|((try clear c66);(try clear c64);(try clear c65);((try simp only [zQ,zA,zB,zC,zD,zE,zF,zG,zH,zI,zJ,zK,zL,zM,zN,zO,zP,zR,zS]at *);(have hk2:k+1≤(s6.h0-s6.l0+1).toNat:=by((try simp only [qV]at *);(try simp only [zQ,zA,zB,zC,zD,zE,zF,zG,zH,zI,zJ,zK,zL,zM,zN,zO,zP,zR,zS]at *);omega));obtain⟨n1,en1⟩:∃z,z=n+1:=⟨_,rfl⟩;(have hn2:n1=s6.l0+zi (k+1):=by((try simp only [qV]at *);(try simp only [zQ,zA,zB,zC,zD,zE,zF,zG,zH,zI,zJ,zK,zL,zM,zN,zO,zP,zR,zS]at *);omega));(have hb2:=udd hn hb (umd (.inr (.inr (by assumption)))));refine⟨⟨(k+1,n1,w),hk2,hn2,hb2⟩,by simp only [];omega,?_⟩;cbv;(repeat' (first|with_reducible refine ua4 ?_ ?_|with_reducible refine And.intro ?_ ?_));(all_goals first|trivial|exact qM (qE (by rfl))|exact qM (qF (by rfl))|exact qM (Fit.refl _)|exact qL (qK _)|(refine qM (qE ?_);(try simp only [qV]at *);simp only [zQ,zA,zB,zC,zD,zE,zF,zG,zH,zI,zJ,zK,zL,zM,zN,zO,zP,zR,zS]at *;omega)|(subst en1;exact qM (qE (by rfl)))|(refine qL (qJ ?_);(repeat' (first|exact qA|exact qB|refine qC ?_ rfl ?_|refine qD ?_ ?_|exact qE (by rfl)|exact qF (by rfl)|exact Fit.refl _|exact qG _|(refine qE ?_;(try simp only [qV]at *);simp only [zQ,zA,zB,zC,zD,zE,zF,zG,zH,zI,zJ,zK,zL,zM,zN,zO,zP,zR,zS]at *;omega)));done)|skip)))|((try clear c66);(try clear c64);(try clear c65);((try simp only [zQ,zA,zB,zC,zD,zE,zF,zG,zH,zI,zJ,zK,zL,zM,zN,zO,zP,zR,zS]at *);(have hk2:k+1≤(s6.h0-s6.l0+1).toNat:=by((try simp only [qV]at *);(try simp only [zQ,zA,zB,zC,zD,zE,zF,zG,zH,zI,zJ,zK,zL,zM,zN,zO,zP,zR,zS]at *);omega));obtain⟨n1,en1⟩:∃z,z=n+1:=⟨_,rfl⟩;(have hn2:n1=s6.l0+zi (k+1):=by((try simp only [qV]at *);(try simp only [zQ,zA,zB,zC,zD,zE,zF,zG,zH,zI,zJ,zK,zL,zM,zN,zO,zP,zR,zS]at *);omega));obtain⟨o,eo⟩:∃o:Bnd,o=⟨mn w.l0 n,mx w.h0 n,mn w.l1 (xL s6 n),mx w.h1 (xH s6 n),mn w.l2 (yL s6 n),mx w.h2 (yH s6 n)⟩:=⟨_,rfl⟩;(have hb2:=ulc hn hb (uyQ (by assumption) (by assumption) (by assumption) (by assumption) (by assumption)) eo);refine⟨⟨(k+1,n1,o),hk2,hn2,hb2⟩,by simp only [];omega,?_⟩;cbv;(repeat' (first|with_reducible refine ua4 ?_ ?_|with_reducible refine And.intro ?_ ?_));(all_goals first|trivial|exact qM (qE (by rfl))|exact qM (qF (by rfl))|exact qM (Fit.refl _)|exact qL (qK _)|(refine qM (qE ?_);(try simp only [qV]at *);simp only [zQ,zA,zB,zC,zD,zE,zF,zG,zH,zI,zJ,zK,zL,zM,zN,zO,zP,zR,zS]at *;omega)|(subst en1;exact qM (qE (by rfl)))|(subst eo;(refine qL (qJ ?_));(repeat' (first|exact qA|exact qB|refine qC ?_ rfl ?_|refine qD ?_ ?_|exact qE (by rfl)|exact qF (by rfl)|exact Fit.refl _|exact qG _|(refine qE ?_;(try simp only [qV]at *);simp only [zQ,zA,zB,zC,zD,zE,zF,zG,zH,zI,zJ,zK,zL,zM,zN,zO,zP,zR,zS]at *;omega)));done)|(refine qL (qJ ?_);(repeat' (first|exact qA|exact qB|refine qC ?_ rfl ?_|refine qD ?_ ?_|exact qE (by rfl)|exact qF (by rfl)|exact Fit.refl _|exact qG _|(refine qE ?_;(try simp only [qV]at *);simp only [zQ,zA,zB,zC,zD,zE,zF,zG,zH,zI,zJ,zK,zL,zM,zN,zO,zP,zR,zS]at *;omega)));done)|skip)))|((try clear c66);(try clear c64);(try clear c65);(subst hR;(have e:k=(s6.h0-s6.l0+1).toNat:=by((try simp only [qV]at *);(try simp only [zQ,zA,zB,zC,zD,zE,zF,zG,zH,zI,zJ,zK,zL,zM,zN,zO,zP,zR,zS]at *);omega));subst e;subst hb;(refine qD ?_ (qD (qF (by rfl)) qB));(refine ua1 (by rfl) (fun ix h0 h1=> ?_);(have h2:ix.den<2:=h1);(have hx:ix.den.toNat=0∨ix.den.toNat=1:=by omega);(rcases hx with hx|hx<;>simp only [hx]));all_goals (exact qC (qE (by rfl)) rfl (qC (qE (by rfl)) rfl qA))))|skip
set_option maxHeartbeats 2000000 in
theorem uw8 (d:Dsp)(b:Nat)(hd:DOk d)(hb:b≤1000)(hS:d.sn=3):ua0 Tryz.prog 26 [(.agg [(iS d.tw),(iS d.tm),(.sl 1 (.sym fun _=>zi (d.tv).length) (fun ix=>[(.sl 1 (.sym fun _=>zi ((d.tv).getD ix.den.toNat []).length) (fun jx=>[(iv fun _=>((d.tv).getD ix.den.toNat []).getD jx.den.toNat 0)]))])),(.int .i64 (.lit 3)),(iv fun _=>d.pn),(.sl 4 (.sym fun _=>zi (d.ls).length) (fun ix=>[(iv fun _=>((d.ls).getD ix.den.toNat l0T).a),(iv fun _=>((d.ls).getD ix.den.toNat l0T).b),(iv fun _=>((d.ls).getD ix.den.toNat l0T).lo),(iv fun _=>((d.ls).getD ix.den.toNat l0T).hi)])),(.sl 6 (.sym fun _=>zi (d.fs).length) (fun ix=>[(iv fun _=>((d.fs).getD ix.den.toNat f0T).p),(iv fun _=>((d.fs).getD ix.den.toNat f0T).s),(iv fun _=>((d.fs).getD ix.den.toNat f0T).wl),(iv fun _=>((d.fs).getD ix.den.toNat f0T).wh),(iv fun _=>((d.fs).getD ix.den.toNat f0T).ml),(iv fun _=>((d.fs).getD ix.den.toNat f0T).mh)]))]),(mnS d),(iv fun _=>zi b)] [] (fun r _=>r=(.tup [(.sl 2 (.sym fun _=>zi 3) (fun ix=>[(iv fun _=>(ubX (ub4 (SN d) (LO d) (FO d d.fs) (ubc b))).lo ix.den.toNat),(iv fun _=>(ubX (ub4 (SN d) (LO d) (FO d d.fs) (ubc b))).hi ix.den.toNat)])),(bv fun _=>decide (0≤(ubX (ub4 (SN d) (LO d) (FO d d.fs) (ubc b))).h0))])):=by
 have c64:=fun s=>uvm d b s hd hb
 have c65:=fun a e=>ulE d a e hd
 have c66:=up5
 have f6:=hd.f6
 have l4:=hd.l4
 obtain⟨s6,hs6⟩:∃s6,s6=ub4 (SN d) (LO d) (FO d d.fs) (ubc b):=⟨_,rfl⟩
 have hSN:SN d=3:=by unfold SN;omega
 have hfl:=udi d d.fs
 have hll:=uf6 d
 have el0:(uc3 (FO d d.fs) (ubc b) 0 d.fs.length).1=s6.l0:=by rw [hs6];simp only [ub4,hSN,hfl,hll];try rfl
 have eh0:(uc3 (FO d d.fs) (ubc b) 0 d.fs.length).2=s6.h0:=by rw [hs6];simp only [ub4,hSN,hfl,hll];try rfl
 have el1:(uc3 (FO d d.fs) (ubc b) 1 d.fs.length).1=s6.l1:=by rw [hs6];simp only [ub4,hSN,hfl,hll];try rfl
 have eh1:(uc3 (FO d d.fs) (ubc b) 1 d.fs.length).2=s6.h1:=by rw [hs6];simp only [ub4,hSN,hfl,hll];try rfl
 have el2:(uc3 (FO d d.fs) (ubc b) 2 d.fs.length).1=s6.l2:=by rw [hs6];simp only [ub4,hSN,hfl,hll];try rfl
 have eh2:(uc3 (FO d d.fs) (ubc b) 2 d.fs.length).2=s6.h2:=by rw [hs6];simp only [ub4,hSN,hfl,hll];try rfl
 have eal:(ucE (LO d) 0 1 d.ls.length).1=s6.al:=by rw [hs6];simp only [ub4,hSN,hfl,hll];try rfl
 have eah:(ucE (LO d) 0 1 d.ls.length).2=s6.ah:=by rw [hs6];simp only [ub4,hSN,hfl,hll];try rfl
 have ebl:(ucE (LO d) 0 2 d.ls.length).1=s6.bl:=by rw [hs6];simp only [ub4,hSN,hfl,hll];try rfl
 have ebh:(ucE (LO d) 0 2 d.ls.length).2=s6.bh:=by rw [hs6];simp only [ub4,hSN,hfl,hll];try rfl
 have ecl:(ucE (LO d) 1 2 d.ls.length).1=s6.cl:=by rw [hs6];simp only [ub4,hSN,hfl,hll];try rfl
 have ech:(ucE (LO d) 1 2 d.ls.length).2=s6.ch:=by rw [hs6];simp only [ub4,hSN,hfl,hll];try rfl
 have o0:=ufW hd b 0
 have o1:=ufW hd b 1
 have o2:=ufW hd b 2
 have d0:=uiE hd 0 1
 have d1:=uiE hd 0 2
 have d2:=uiE hd 1 2
 have q0:(0≤s6.l0∧s6.l0≤2000)∧0≤s6.h0∧s6.h0≤2000:=by omega
 have q1:(0≤s6.l1∧s6.l1≤2000)∧0≤s6.h1∧s6.h1≤2000:=by omega
 have q2:(0≤s6.l2∧s6.l2≤2000)∧0≤s6.h2∧s6.h2≤2000:=by omega
 have p0:(-2000≤s6.al∧s6.al≤2000)∧ -2000≤s6.ah∧s6.ah≤2000:=by omega
 have p1:(-2000≤s6.bl∧s6.bl≤2000)∧ -2000≤s6.bh∧s6.bh≤2000:=by omega
 have p2:(-2000≤s6.cl∧s6.cl≤2000)∧ -2000≤s6.ch∧s6.ch≤2000:=by omega
 rw [←hs6]
 clear hs6
 clear o0
 clear o1
 clear o2
 clear d0
 clear d1
 clear d2
 refine ua0.is fun R hR=>qW (sc:=uyE) uai mix Tryz.func26 rfl Tryz.call26 (by kernel_rfl) (by kernel_rfl) ?_
 generalize Tryz.prog=P at c64 c65 c66⊢
 cbv
 repeat' (first|fail)
 all_goals first|skip
 refine⟨some 4,?_⟩
 cbv
 repeat' (first|(refine qP ?_ (c64 0) ?hfit;(case hfit=>((refine qD (qC (Fit.refl _) rfl (qC (Fit.refl _) rfl (qC (Fit.refl _) rfl (qC (qE (by first|rfl|exact hS.symm)) rfl (Fit.refl _))))) (qD (Fit.refl _) (qD (qE (by rfl)) (qD (Fit.refl _) qB))));done));try cbv)|(refine qP ?_ (c64 1) ?hfit;(case hfit=>((refine qD (qC (Fit.refl _) rfl (qC (Fit.refl _) rfl (qC (Fit.refl _) rfl (qC (qE (by first|rfl|exact hS.symm)) rfl (Fit.refl _))))) (qD (Fit.refl _) (qD (qE (by rfl)) (qD (Fit.refl _) qB))));done));try cbv)|(refine qP ?_ (c64 2) ?hfit;(case hfit=>((refine qD (qC (Fit.refl _) rfl (qC (Fit.refl _) rfl (qC (Fit.refl _) rfl (qC (qE (by first|rfl|exact hS.symm)) rfl (Fit.refl _))))) (qD (Fit.refl _) (qD (qE (by rfl)) (qD (Fit.refl _) qB))));done));try cbv)|(refine qP ?_ (c65 0 1) ?hfit;(case hfit=>((refine qD (qC (Fit.refl _) rfl (qC (Fit.refl _) rfl (qC (Fit.refl _) rfl (qC (qE (by first|rfl|exact hS.symm)) rfl (Fit.refl _))))) (qD (qE (by rfl)) (qD (qE (by rfl)) qB)));done));try cbv)|(refine qP ?_ (c65 0 2) ?hfit;(case hfit=>((refine qD (qC (Fit.refl _) rfl (qC (Fit.refl _) rfl (qC (Fit.refl _) rfl (qC (qE (by first|rfl|exact hS.symm)) rfl (Fit.refl _))))) (qD (qE (by rfl)) (qD (qE (by rfl)) qB)));done));try cbv)|(refine qP ?_ (c65 1 2) ?hfit;(case hfit=>((refine qD (qC (Fit.refl _) rfl (qC (Fit.refl _) rfl (qC (Fit.refl _) rfl (qC (qE (by first|rfl|exact hS.symm)) rfl (Fit.refl _))))) (qD (qE (by rfl)) (qD (qE (by rfl)) qB)));done));try cbv)|fail)
 all_goals first|skip
 refine⟨none,[],{x:Nat×Int×Bnd // x.1≤(s6.h0-s6.l0+1).toNat∧x.2.1=s6.l0+zi x.1∧x.2.2=bdN s6 x.1},fun x=>⟨[(3,.own 0 0),(8,.own 7 0),(10,.own 62 0),(11,.own 63 0),(12,.own 64 0),(13,.own 87 0),(14,(iv fun _=>x.1.2.1))],[(0,.cells [(iS d.tw),(iS d.tm),(.sl 1 (.sym fun _=>zi (d.tv).length) (fun ix=>[(.sl 1 (.sym fun _=>zi ((d.tv).getD ix.den.toNat []).length) (fun jx=>[(iv fun _=>((d.tv).getD ix.den.toNat []).getD jx.den.toNat 0)]))])),(.int .i64 (.lit 3)),(iv fun _=>d.pn),(.sl 4 (.sym fun _=>zi (d.ls).length) (fun ix=>[(iv fun _=>((d.ls).getD ix.den.toNat l0T).a),(iv fun _=>((d.ls).getD ix.den.toNat l0T).b),(iv fun _=>((d.ls).getD ix.den.toNat l0T).lo),(iv fun _=>((d.ls).getD ix.den.toNat l0T).hi)])),(.sl 6 (.sym fun _=>zi (d.fs).length) (fun ix=>[(iv fun _=>((d.fs).getD ix.den.toNat f0T).p),(iv fun _=>((d.fs).getD ix.den.toNat f0T).s),(iv fun _=>((d.fs).getD ix.den.toNat f0T).wl),(iv fun _=>((d.fs).getD ix.den.toNat f0T).wh),(iv fun _=>((d.fs).getD ix.den.toNat f0T).ml),(iv fun _=>((d.fs).getD ix.den.toNat f0T).mh)]))] 29),(7,.cells [(iv fun _=>s6.l0),(iv fun _=>s6.h0),(iv fun _=>s6.l1),(iv fun _=>s6.h1),(iv fun _=>s6.l2),(iv fun _=>s6.h2)] 124),(62,.cells [(iv fun _=>s6.al),(iv fun _=>s6.ah)] 66),(63,.cells [(iv fun _=>s6.bl),(iv fun _=>s6.bh)] 66),(64,.cells [(iv fun _=>s6.cl),(iv fun _=>s6.ch)] 66),(87,.cells [(iv fun _=>x.1.2.2.l0),(iv fun _=>x.1.2.2.h0),(iv fun _=>x.1.2.2.l1),(iv fun _=>x.1.2.2.h1),(iv fun _=>x.1.2.2.l2),(iv fun _=>x.1.2.2.h2)] 124)],400⟩,fun x=>(s6.h0-s6.l0+1).toNat-x.1.1,?_,?_⟩
 ·refine⟨⟨(0,s6.l0,bd0),by simp only [];omega,by simp only [uac];omega,rfl⟩,?_⟩
  cbv
  repeat' (first|with_reducible refine ua4 ?_ ?_|with_reducible refine And.intro ?_ ?_)
  all_goals first|trivial|exact qM (Fit.refl _)|exact qL (qK _)|(refine qM (qE ?_);(try simp only [qV]at *);simp only [zQ,zA,zB,zC,zD,zE,zF,zG,zH,zI,zJ,zK,zL,zM,zN,zO,zP,zR,zS]at *;omega)|(refine qL (qJ ?_);(repeat' (first|exact qA|refine qC ?_ rfl ?_|exact qE (by first|rfl|exact el0|exact eh0|exact el1|exact eh1|exact el2|exact eh2|exact eal|exact eah|exact ebl|exact ebh|exact ecl|exact ech)));done)|skip
 ·rintro ⟨⟨k,n,w⟩,hk,hn,hb⟩
  cbv
  dsimp only at hk hn hb
  repeat' (first
   |with_reducible refine ua4 ?_ ?_
   |with_reducible refine And.intro ?_ ?_
   |(with_reducible intro hcd;(try simp only [zA,zB,zC,zD,zE,zF,zG,zH,zI,zJ,zK,zL,zM,zN,zO,zP]at hcd);try cbv)
   |(refine qP ?_ (c66 _ _ _ _) (by(repeat' (first|exact qB|refine qD ?_ ?_|exact qE (by rfl)|exact qF (by rfl)|exact Fit.refl _|exact qA|refine qC ?_ rfl ?_)));try cbv)
   | (refine⟨some 4,?_⟩
      cbv)
   |fail)
  all_goals first|trivial|((try clear c66);(try clear c64);(try clear c65);((try simp only [qV]at *);(try simp only [zQ,zA,zB,zC,zD,zE,zF,zG,zH,zI,zJ,zK,zL,zM,zN,zO,zP,zR,zS]at *);first|(refine qN ?_;omega)|(simp only [uaj];omega)))|((try clear c66);(try clear c64);(try clear c65);((try clear el0 eh0 el1 eh1 el2 eh2 eal eah ebl ebh ecl ech hb hfl hll hSN f6 l4 hd);(try simp only [qV]at *);(try simp only [zQ,zA,zB,zC,zD,zE,zF,zG,zH,zI,zJ,zK,zL,zM,zN,zO,zP,zR,zS]at *);have hk8:n≤2000:=(by omega);(have v1:=uiW (a:=s6.l1) (b:=n+s6.al) (l:= -4000) (h:=4000) ⟨by omega,by omega⟩ ⟨by omega,by omega⟩);(have v2:=uiw (a:=s6.h1) (b:=n+s6.ah) (l:= -4000) (h:=4000) ⟨by omega,by omega⟩ ⟨by omega,by omega⟩);(have v3:=uiW (a:=s6.l2) (b:=n+s6.bl) (l:= -4000) (h:=4000) ⟨by omega,by omega⟩ ⟨by omega,by omega⟩);(have v4:=uiw (a:=s6.h2) (b:=n+s6.bh) (l:= -4000) (h:=4000) ⟨by omega,by omega⟩ ⟨by omega,by omega⟩);(refine qN ?_);omega))|((try clear c66);(try clear c64);(try clear c65);((try simp only [zQ,zA,zB,zC,zD,zE,zF,zG,zH,zI,zJ,zK,zL,zM,zN,zO,zP,zR,zS]at *);(have hk2:k+1≤(s6.h0-s6.l0+1).toNat:=by((try simp only [qV]at *);(try simp only [zQ,zA,zB,zC,zD,zE,zF,zG,zH,zI,zJ,zK,zL,zM,zN,zO,zP,zR,zS]at *);omega));obtain⟨n1,en1⟩:∃z,z=n+1:=⟨_,rfl⟩;(have hn2:n1=s6.l0+zi (k+1):=by((try simp only [qV]at *);(try simp only [zQ,zA,zB,zC,zD,zE,zF,zG,zH,zI,zJ,zK,zL,zM,zN,zO,zP,zR,zS]at *);omega));(have hb2:=udd hn hb (uuL (by assumption)));refine⟨⟨(k+1,n1,w),hk2,hn2,hb2⟩,by simp only [];omega,?_⟩;cbv;(repeat' (first|with_reducible refine ua4 ?_ ?_|with_reducible refine And.intro ?_ ?_));(all_goals first|trivial|exact qM (qE (by rfl))|exact qM (qF (by rfl))|exact qM (Fit.refl _)|exact qL (qK _)|(refine qM (qE ?_);(try simp only [qV]at *);simp only [zQ,zA,zB,zC,zD,zE,zF,zG,zH,zI,zJ,zK,zL,zM,zN,zO,zP,zR,zS]at *;omega)|(subst en1;exact qM (qE (by rfl)))|(refine qL (qJ ?_);(repeat' (first|exact qA|exact qB|refine qC ?_ rfl ?_|refine qD ?_ ?_|exact qE (by rfl)|exact qF (by rfl)|exact Fit.refl _|exact qG _|(refine qE ?_;(try simp only [qV]at *);simp only [zQ,zA,zB,zC,zD,zE,zF,zG,zH,zI,zJ,zK,zL,zM,zN,zO,zP,zR,zS]at *;omega)));done)|skip)))|((try clear c66);(try clear c64);(try clear c65);((try simp only [zQ,zA,zB,zC,zD,zE,zF,zG,zH,zI,zJ,zK,zL,zM,zN,zO,zP,zR,zS]at *);(have hk2:k+1≤(s6.h0-s6.l0+1).toNat:=by((try simp only [qV]at *);(try simp only [zQ,zA,zB,zC,zD,zE,zF,zG,zH,zI,zJ,zK,zL,zM,zN,zO,zP,zR,zS]at *);omega));obtain⟨n1,en1⟩:∃z,z=n+1:=⟨_,rfl⟩;(have hn2:n1=s6.l0+zi (k+1):=by((try simp only [qV]at *);(try simp only [zQ,zA,zB,zC,zD,zE,zF,zG,zH,zI,zJ,zK,zL,zM,zN,zO,zP,zR,zS]at *);omega));(have hb2:=udd hn hb (uvg (by assumption)));refine⟨⟨(k+1,n1,w),hk2,hn2,hb2⟩,by simp only [];omega,?_⟩;cbv;(repeat' (first|with_reducible refine ua4 ?_ ?_|with_reducible refine And.intro ?_ ?_));(all_goals first|trivial|exact qM (qE (by rfl))|exact qM (qF (by rfl))|exact qM (Fit.refl _)|exact qL (qK _)|(refine qM (qE ?_);(try simp only [qV]at *);simp only [zQ,zA,zB,zC,zD,zE,zF,zG,zH,zI,zJ,zK,zL,zM,zN,zO,zP,zR,zS]at *;omega)|(subst en1;exact qM (qE (by rfl)))|(refine qL (qJ ?_);(repeat' (first|exact qA|exact qB|refine qC ?_ rfl ?_|refine qD ?_ ?_|exact qE (by rfl)|exact qF (by rfl)|exact Fit.refl _|exact qG _|(refine qE ?_;(try simp only [qV]at *);simp only [zQ,zA,zB,zC,zD,zE,zF,zG,zH,zI,zJ,zK,zL,zM,zN,zO,zP,zR,zS]at *;omega)));done)|skip)))|((try clear c66);(try clear c64);(try clear c65);((try simp only [zQ,zA,zB,zC,zD,zE,zF,zG,zH,zI,zJ,zK,zL,zM,zN,zO,zP,zR,zS]at *);(have hk2:k+1≤(s6.h0-s6.l0+1).toNat:=by((try simp only [qV]at *);(try simp only [zQ,zA,zB,zC,zD,zE,zF,zG,zH,zI,zJ,zK,zL,zM,zN,zO,zP,zR,zS]at *);omega));obtain⟨n1,en1⟩:∃z,z=n+1:=⟨_,rfl⟩;(have hn2:n1=s6.l0+zi (k+1):=by((try simp only [qV]at *);(try simp only [zQ,zA,zB,zC,zD,zE,zF,zG,zH,zI,zJ,zK,zL,zM,zN,zO,zP,zR,zS]at *);omega));(have hb2:=udd hn hb (umd (.inl (by assumption))));refine⟨⟨(k+1,n1,w),hk2,hn2,hb2⟩,by simp only [];omega,?_⟩;cbv;(repeat' (first|with_reducible refine ua4 ?_ ?_|with_reducible refine And.intro ?_ ?_));(all_goals first|trivial|exact qM (qE (by rfl))|exact qM (qF (by rfl))|exact qM (Fit.refl _)|exact qL (qK _)|(refine qM (qE ?_);(try simp only [qV]at *);simp only [zQ,zA,zB,zC,zD,zE,zF,zG,zH,zI,zJ,zK,zL,zM,zN,zO,zP,zR,zS]at *;omega)|(subst en1;exact qM (qE (by rfl)))|(refine qL (qJ ?_);(repeat' (first|exact qA|exact qB|refine qC ?_ rfl ?_|refine qD ?_ ?_|exact qE (by rfl)|exact qF (by rfl)|exact Fit.refl _|exact qG _|(refine qE ?_;(try simp only [qV]at *);simp only [zQ,zA,zB,zC,zD,zE,zF,zG,zH,zI,zJ,zK,zL,zM,zN,zO,zP,zR,zS]at *;omega)));done)|skip)))|((try clear c66);(try clear c64);(try clear c65);((try simp only [zQ,zA,zB,zC,zD,zE,zF,zG,zH,zI,zJ,zK,zL,zM,zN,zO,zP,zR,zS]at *);(have hk2:k+1≤(s6.h0-s6.l0+1).toNat:=by((try simp only [qV]at *);(try simp only [zQ,zA,zB,zC,zD,zE,zF,zG,zH,zI,zJ,zK,zL,zM,zN,zO,zP,zR,zS]at *);omega));obtain⟨n1,en1⟩:∃z,z=n+1:=⟨_,rfl⟩;(have hn2:n1=s6.l0+zi (k+1):=by((try simp only [qV]at *);(try simp only [zQ,zA,zB,zC,zD,zE,zF,zG,zH,zI,zJ,zK,zL,zM,zN,zO,zP,zR,zS]at *);omega));(have hb2:=udd hn hb (umd (.inr (.inl (by assumption)))));refine⟨⟨(k+1,n1,w),hk2,hn2,hb2⟩,by simp only [];omega,?_⟩;cbv;(repeat' (first|with_reducible refine ua4 ?_ ?_|with_reducible refine And.intro ?_ ?_));(all_goals first|trivial|exact qM (qE (by rfl))|exact qM (qF (by rfl))|exact qM (Fit.refl _)|exact qL (qK _)|(refine qM (qE ?_);(try simp only [qV]at *);simp only [zQ,zA,zB,zC,zD,zE,zF,zG,zH,zI,zJ,zK,zL,zM,zN,zO,zP,zR,zS]at *;omega)|(subst en1;exact qM (qE (by rfl)))|(refine qL (qJ ?_);(repeat' (first|exact qA|exact qB|refine qC ?_ rfl ?_|refine qD ?_ ?_|exact qE (by rfl)|exact qF (by rfl)|exact Fit.refl _|exact qG _|(refine qE ?_;(try simp only [qV]at *);simp only [zQ,zA,zB,zC,zD,zE,zF,zG,zH,zI,zJ,zK,zL,zM,zN,zO,zP,zR,zS]at *;omega)));done)|skip)))|((try clear c66);(try clear c64);(try clear c65);((try simp only [zQ,zA,zB,zC,zD,zE,zF,zG,zH,zI,zJ,zK,zL,zM,zN,zO,zP,zR,zS]at *);(have hk2:k+1≤(s6.h0-s6.l0+1).toNat:=by((try simp only [qV]at *);(try simp only [zQ,zA,zB,zC,zD,zE,zF,zG,zH,zI,zJ,zK,zL,zM,zN,zO,zP,zR,zS]at *);omega));obtain⟨n1,en1⟩:∃z,z=n+1:=⟨_,rfl⟩;(have hn2:n1=s6.l0+zi (k+1):=by((try simp only [qV]at *);(try simp only [zQ,zA,zB,zC,zD,zE,zF,zG,zH,zI,zJ,zK,zL,zM,zN,zO,zP,zR,zS]at *);omega));(have hb2:=udd hn hb (umd (.inr (.inr (by assumption)))));refine⟨⟨(k+1,n1,w),hk2,hn2,hb2⟩,by simp only [];omega,?_⟩;cbv;(repeat' (first|with_reducible refine ua4 ?_ ?_|with_reducible refine And.intro ?_ ?_));(all_goals first|trivial|exact qM (qE (by rfl))|exact qM (qF (by rfl))|exact qM (Fit.refl _)|exact qL (qK _)|(refine qM (qE ?_);(try simp only [qV]at *);simp only [zQ,zA,zB,zC,zD,zE,zF,zG,zH,zI,zJ,zK,zL,zM,zN,zO,zP,zR,zS]at *;omega)|(subst en1;exact qM (qE (by rfl)))|(refine qL (qJ ?_);(repeat' (first|exact qA|exact qB|refine qC ?_ rfl ?_|refine qD ?_ ?_|exact qE (by rfl)|exact qF (by rfl)|exact Fit.refl _|exact qG _|(refine qE ?_;(try simp only [qV]at *);simp only [zQ,zA,zB,zC,zD,zE,zF,zG,zH,zI,zJ,zK,zL,zM,zN,zO,zP,zR,zS]at *;omega)));done)|skip)))|((try clear c66);(try clear c64);(try clear c65);((try simp only [zQ,zA,zB,zC,zD,zE,zF,zG,zH,zI,zJ,zK,zL,zM,zN,zO,zP,zR,zS]at *);(have hk2:k+1≤(s6.h0-s6.l0+1).toNat:=by((try simp only [qV]at *);(try simp only [zQ,zA,zB,zC,zD,zE,zF,zG,zH,zI,zJ,zK,zL,zM,zN,zO,zP,zR,zS]at *);omega));obtain⟨n1,en1⟩:∃z,z=n+1:=⟨_,rfl⟩;(have hn2:n1=s6.l0+zi (k+1):=by((try simp only [qV]at *);(try simp only [zQ,zA,zB,zC,zD,zE,zF,zG,zH,zI,zJ,zK,zL,zM,zN,zO,zP,zR,zS]at *);omega));obtain⟨o,eo⟩:∃o:Bnd,o=⟨mn w.l0 n,mx w.h0 n,mn w.l1 (xL s6 n),mx w.h1 (xH s6 n),mn w.l2 (yL s6 n),mx w.h2 (yH s6 n)⟩:=⟨_,rfl⟩;(have hb2:=ulc hn hb (uyQ (by assumption) (by assumption) (by assumption) (by assumption) (by assumption)) eo);refine⟨⟨(k+1,n1,o),hk2,hn2,hb2⟩,by simp only [];omega,?_⟩;cbv;(repeat' (first|with_reducible refine ua4 ?_ ?_|with_reducible refine And.intro ?_ ?_));(all_goals first|trivial|exact qM (qE (by rfl))|exact qM (qF (by rfl))|exact qM (Fit.refl _)|exact qL (qK _)|(refine qM (qE ?_);(try simp only [qV]at *);simp only [zQ,zA,zB,zC,zD,zE,zF,zG,zH,zI,zJ,zK,zL,zM,zN,zO,zP,zR,zS]at *;omega)|(subst en1;exact qM (qE (by rfl)))|(subst eo;(refine qL (qJ ?_));(repeat' (first|exact qA|exact qB|refine qC ?_ rfl ?_|refine qD ?_ ?_|exact qE (by rfl)|exact qF (by rfl)|exact Fit.refl _|exact qG _|(refine qE ?_;(try simp only [qV]at *);simp only [zQ,zA,zB,zC,zD,zE,zF,zG,zH,zI,zJ,zK,zL,zM,zN,zO,zP,zR,zS]at *;omega)));done)|(refine qL (qJ ?_);(repeat' (first|exact qA|exact qB|refine qC ?_ rfl ?_|refine qD ?_ ?_|exact qE (by rfl)|exact qF (by rfl)|exact Fit.refl _|exact qG _|(refine qE ?_;(try simp only [qV]at *);simp only [zQ,zA,zB,zC,zD,zE,zF,zG,zH,zI,zJ,zK,zL,zM,zN,zO,zP,zR,zS]at *;omega)));done)|skip)))|((try clear c66);(try clear c64);(try clear c65);(subst hR;(have e:k=(s6.h0-s6.l0+1).toNat:=by((try simp only [qV]at *);(try simp only [zQ,zA,zB,zC,zD,zE,zF,zG,zH,zI,zJ,zK,zL,zM,zN,zO,zP,zR,zS]at *);omega));subst e;subst hb;(refine qD ?_ (qD (qF (by rfl)) qB));(refine ua1 (by rfl) (fun ix h0 h1=> ?_);(have h2:ix.den<3:=h1);(have hx:ix.den.toNat=0∨ix.den.toNat=1∨ix.den.toNat=2:=by omega);(rcases hx with hx|hx|hx<;>simp only [hx]));all_goals (exact qC (qE (by rfl)) rfl (qC (qE (by rfl)) rfl qA))))|skip
theorem uq2 (d:Dsp)(b:Nat)(hd:DOk d)(hb:b≤1000):ua0 Tryz.prog 26 [(ub0 d),(mnS d),(iv fun _=>zi b)] [] (fun r _=>r=(.tup [(.sl 2 (.sym fun _=>d.sn) (fun ix=>[(iv fun _=>(ubX (ub4 (SN d) (LO d) (FO d d.fs) (ubc b))).lo ix.den.toNat),(iv fun _=>(ubX (ub4 (SN d) (LO d) (FO d d.fs) (ubc b))).hi ix.den.toNat)])),(bv fun _=>(uoT (SN d) (LO d) (FO d d.fs)) b)])):=by
 have s1:=hd.s1
 have s3:=hd.s3
 have h:d.sn=1∨d.sn=2∨d.sn=3:=by omega
 rcases h with hS|hS|hS
 ·exact((uuO d b hd hb hS).pre (qD (qC (Fit.refl _) rfl (qC (Fit.refl _) rfl (qC (Fit.refl _) rfl (qC (qE (by exact hS)) rfl (Fit.refl _))))) (Fit.refl _))).post fun r bs h=>⟨_,by subst h;exact qD (ua1 hS.symm fun _ _ _=>Fit.refl _) (Fit.refl _),rfl⟩
 ·exact((uv2 d b hd hb hS).pre (qD (qC (Fit.refl _) rfl (qC (Fit.refl _) rfl (qC (Fit.refl _) rfl (qC (qE (by exact hS)) rfl (Fit.refl _))))) (Fit.refl _))).post fun r bs h=>⟨_,by subst h;exact qD (ua1 hS.symm fun _ _ _=>Fit.refl _) (Fit.refl _),rfl⟩
 ·exact((uw8 d b hd hb hS).pre (qD (qC (Fit.refl _) rfl (qC (Fit.refl _) rfl (qC (Fit.refl _) rfl (qC (qE (by exact hS)) rfl (Fit.refl _))))) (Fit.refl _))).post fun r bs h=>⟨_,by subst h;exact qD (ua1 hS.symm fun _ _ _=>Fit.refl _) (Fit.refl _),rfl⟩
theorem uh5 (d:Dsp)(hd:DOk d):ua0 Tryz.prog 35 [(ub0 d)] [] (fun r _=>r=(mnS d)):=by
 have c80:=fun (f:FaT) (hf:ubS d f)=>uu9 d f hd.t hf
 have f6:=hd.f6
 refine ua0.is fun R hR=>qW (sc:=uC1) uai mix Tryz.func35 rfl Tryz.call35 (by kernel_rfl) (by kernel_rfl) ?_
 generalize Tryz.prog=P at c80⊢
 cbv
 repeat' (first|fail)
 all_goals first|skip
 refine⟨none,[⟨.tmp 3,66,2⟩],{i:Nat // i≤d.fs.length},fun x=>⟨[(1,.own 0 0),(3,.row 4),(4,(iv fun _=>zi x.1))],[(0,.cells [(iS d.tw),(iS d.tm),(.sl 1 (.sym fun _=>zi (d.tv).length) (fun ix=>[(.sl 1 (.sym fun _=>zi ((d.tv).getD ix.den.toNat []).length) (fun jx=>[(iv fun _=>((d.tv).getD ix.den.toNat []).getD jx.den.toNat 0)]))])),(iv fun _=>d.sn),(iv fun _=>d.pn),(.sl 4 (.sym fun _=>zi (d.ls).length) (fun ix=>[(iv fun _=>((d.ls).getD ix.den.toNat l0T).a),(iv fun _=>((d.ls).getD ix.den.toNat l0T).b),(iv fun _=>((d.ls).getD ix.den.toNat l0T).lo),(iv fun _=>((d.ls).getD ix.den.toNat l0T).hi)])),(.sl 6 (.sym fun _=>zi (d.fs).length) (fun ix=>[(iv fun _=>((d.fs).getD ix.den.toNat f0T).p),(iv fun _=>((d.fs).getD ix.den.toNat f0T).s),(iv fun _=>((d.fs).getD ix.den.toNat f0T).wl),(iv fun _=>((d.fs).getD ix.den.toNat f0T).wh),(iv fun _=>((d.fs).getD ix.den.toNat f0T).ml),(iv fun _=>((d.fs).getD ix.den.toNat f0T).mh)]))] 29),(4,.row 66 2 (.sym fun _=>zi x.1) (fun ix=>[(iv fun _=>((FO d d.fs).getD ix.den.toNat f0).lo),(iv fun _=>((FO d d.fs).getD ix.den.toNat f0).hi)]))],20⟩,fun x=>d.fs.length-x.1,?_,?_⟩
 ·refine⟨⟨0,by omega⟩,?_⟩
  cbv
  repeat' (first|with_reducible refine ua4 ?_ ?_|with_reducible refine And.intro ?_ ?_)
  all_goals first|trivial|exact qM (qE (by rfl))|exact qM (Fit.refl _)|exact qL (qK _)|(refine qL (uae ?_ ?_);(first|rfl|((try simp only [qV]at *);(try simp only [zQ,zA,zB,zC,zD,zE,zF,zG,zH,zI,zJ,zK,zL,zM,zN,zO,zP,zR,zS]at *);omega));intro ix h0 h1;exfalso;(try simp only [qV]at *);(try simp only [zQ,zA,zB,zC,zD,zE,zF,zG,zH,zI,zJ,zK,zL,zM,zN,zO,zP,zR,zS]at *);omega)|skip
 ·rintro ⟨i,hi⟩
  cbv
  have hF2:i<d.fs.length→mLo d (d.fs.getD i f0T)=((FO d d.fs).getD i f0).lo∧mHi d (d.fs.getD i f0T)=((FO d d.fs).getD i f0).hi:=fun hi=>by rw [ukF hi];exact⟨rfl,rfl⟩
  repeat' (first
   |with_reducible refine ua4 ?_ ?_
   |with_reducible refine And.intro ?_ ?_
   |(with_reducible intro hcd;(try simp only [zA,zB,zC,zD,zE,zF,zG,zH,zI,zJ,zK,zL,zM,zN,zO,zP]at hcd);try cbv)
   | ((have hlt:i<d.fs.length:=(by((try simp only [qV]at *);(try simp only [zQ,zA,zB,zC,zD,zE,zF,zG,zH,zI,zJ,zK,zL,zM,zN,zO,zP,zR,zS]at *);omega)))
      have hlo:=(hF2 hlt).1
      have hhi:=(hF2 hlt).2
      refine⟨fun ix=>[(iv fun _=>((FO d d.fs).getD ix.den.toNat f0).lo),(iv fun _=>((FO d d.fs).getD ix.den.toNat f0).hi)],?_⟩
      cbv
      refine ua4 (ub9 (by intro ix jx h0 h1 h2;(have e3:jx.den.toNat=ix.den.toNat:=by rw [h2]);simp only [e3];exact Fit.refl _) (by intro ix jx h0 h1 h2;(have h3:jx.den.toNat=i:=by((try simp only [qV]at *);(try simp only [zQ,zA,zB,zC,zD,zE,zF,zG,zH,zI,zJ,zK,zL,zM,zN,zO,zP,zR,zS]at *);omega));simp only [h3];exact qC (qE hlo) rfl (qC (qE hhi) rfl qA)) (by(try simp only [qV]at *);(try simp only [zQ,zA,zB,zC,zD,zE,zF,zG,zH,zI,zJ,zK,zL,zM,zN,zO,zP,zR,zS]at *);omega)) (Or.inl ?_)
      try cbv)
   |(refine qP ?_ (c80 (d.fs.getD i f0T) (hd.f i (by((try simp only [qV]at *);(try simp only [zQ,zA,zB,zC,zD,zE,zF,zG,zH,zI,zJ,zK,zL,zM,zN,zO,zP,zR,zS]at *);omega)))) ?hfit;(case hfit=>((repeat' (first|exact qB|refine qD ?_ ?_|exact qE (by rfl)|exact qF (by rfl)|exact Fit.refl _|exact qA|refine qC ?_ rfl ?_));done));try cbv)
   |fail)
  all_goals first|((try simp only [qV]at *);(try simp only [zQ,zA,zB,zC,zD,zE,zF,zG,zH,zI,zJ,zK,zL,zM,zN,zO,zP,zR,zS]at *);first|(refine qN ?_;omega)|(simp only [uaj];omega))|(subst hR;(refine ua1 (by((try simp only [qV]at *);(try simp only [zQ,zA,zB,zC,zD,zE,zF,zG,zH,zI,zJ,zK,zL,zM,zN,zO,zP,zR,zS]at *);omega)) (fun _ _ _=>Fit.refl _));done)|((try simp only [zQ,zA,zB,zC,zD,zE,zF,zG,zH,zI,zJ,zK,zL,zM,zN,zO,zP,zR,zS]at *);refine⟨⟨i+1,by((try simp only [qV]at *);(try simp only [zQ,zA,zB,zC,zD,zE,zF,zG,zH,zI,zJ,zK,zL,zM,zN,zO,zP,zR,zS]at *);omega)⟩,by simp only [];omega,?_⟩;cbv;(repeat' (first|with_reducible refine ua4 ?_ ?_|with_reducible refine And.intro ?_ ?_));(all_goals first|trivial|exact qM (qE (by rfl))|exact qM (qF (by rfl))|exact qM (Fit.refl _)|exact qL (qK _)|(refine qM (qE ?_);(try simp only [qV]at *);simp only [zQ,zA,zB,zC,zD,zE,zF,zG,zH,zI,zJ,zK,zL,zM,zN,zO,zP,zR,zS]at *;omega)|(refine qL (qJ ?_);(repeat' (first|exact qA|exact qB|refine qC ?_ rfl ?_|refine qD ?_ ?_|exact qE (by rfl)|exact qF (by rfl)|exact Fit.refl _|exact qG _|(refine qE ?_;(try simp only [qV]at *);simp only [zQ,zA,zB,zC,zD,zE,zF,zG,zH,zI,zJ,zK,zL,zM,zN,zO,zP,zR,zS]at *;omega)));done)|skip))|skip
theorem uqK {f:FuncId} {args:List SV} {b:Bool}(h:ua0 Tryz.prog f args [] (fun r _=>r = (bv fun _=>b)))(hb:b=false):ua0 Tryz.prog f args [] (fun r _=>r = .bool (.lit false)):=h.post fun r bs q=>⟨_,by subst q;exact qF hb,rfl⟩
theorem ueF {f:FuncId} {args:List SV} {b:Bool}(h:ua0 Tryz.prog f args [] (fun r _=>r = (bv fun _=>b)))(hb:b=true):ua0 Tryz.prog f args [] (fun r _=>r = .bool (.lit true)):=h.post fun r bs q=>⟨_,by subst q;exact qF hb,rfl⟩
theorem ua0.fitZ {f:FuncId} {args:List SV} {A B:SV}(h:ua0 Tryz.prog f args [] (fun r _=>r=A))(hf:Fit A B):ua0 Tryz.prog f args [] (fun r _=>r=B):=h.post fun r bs q=>⟨B,by subst q;exact hf,rfl⟩
theorem uqA {P:Program} {t m n:Nat} {p:Prop}(h:un9 P t m)(hn:n=m)(hp:p):uaj (un9 P t n∧p):=by
 subst hn
 exact And.intro h hp
theorem udK {sz:Nat} {n m:IX} {e e':IX→List SV}(h:n.den=0)(h':m.den=0):Fit (.sl sz n e) (.sl sz m e'):=ua1 (h.trans h'.symm) (fun ix h0 h1=>by exfalso;omega)
theorem uhI (l:List Int)(h:l.length≤1000):ua0 Tryz.prog 32 [(iS l)] [] (fun r _=>r=(iS l)):=by
 refine ua0.is fun R hR=>qW (sc:=uBD) uai mix Tryz.func32 rfl Tryz.call32 (by kernel_rfl) (by kernel_rfl) ?_
 generalize Tryz.prog=P
 cbv
 repeat' (first|with_reducible refine ua4 ?_ ?_|fail)
 all_goals first|((try simp only [qV]at *);(try simp only [zQ,zA,zB,zC,zD,zE,zF,zG,zH,zI,zJ,zK,zL,zM,zN,zO,zP,zR,zS]at *);first|(refine qN ?_;omega)|(simp only [uaj];omega))|(subst hR;(repeat' (first|exact qA|exact qB|refine qC ?_ rfl ?_|refine qD ?_ ?_|exact qE (by rfl)|exact qF (by rfl)|exact Fit.refl _|exact qG _|(refine qE ?_;(try simp only [qV]at *);simp only [zQ,zA,zB,zC,zD,zE,zF,zG,zH,zI,zJ,zK,zL,zM,zN,zO,zP,zR,zS]at *;omega)));done)|skip
def uhr (d:Dsp)(t:List Int):Bool:=decide ((t.length:Int)=d.sn)&&(inT t&&lkT d t)
theorem uzX {d:Dsp} {t:List Int}(h:¬(t.length:Int)=d.sn):uhr d t=false:=by unfold uhr;rw [decide_eq_false h];rfl
theorem uzT {d:Dsp} {t:List Int} {i:Nat}(hi:i<t.length)(h:inB 0 (t.getD i 0) 2000=false):uhr d t=false:=by
 have e:inT t=false:=uis hi h
 unfold uhr;rw [e];simp
theorem uzP {d:Dsp} {t:List Int} {i:Nat}(hi:i<d.ls.length)(h:inB (d.ls.getD i l0T).lo (t.getD (d.ls.getD i l0T).b.toNat 0-t.getD (d.ls.getD i l0T).a.toNat 0) (d.ls.getD i l0T).hi=false):uhr d t=false:=by
 have e:lkT d t=false:=uis hi h
 unfold uhr;rw [e];simp
theorem uyV {d:Dsp} {t:List Int}(h:(t.length:Int)=d.sn)(h1:∀i,i<t.length→inB 0 (t.getD i 0) 2000=true)(h2:∀i,i<d.ls.length→inB (d.ls.getD i l0T).lo (t.getD (d.ls.getD i l0T).b.toNat 0-t.getD (d.ls.getD i l0T).a.toNat 0) (d.ls.getD i l0T).hi=true):uhr d t=true:=by
 have e1:inT t=true:=ugs h1
 have e2:lkT d t=true:=ugs h2
 unfold uhr;rw [decide_eq_true h,e1,e2];rfl
theorem ugL {d:Dsp} {t:List Int}(hF:ua5 d=0):ujj d t=(uhr d t&&ftT d t):=by
 unfold ujj uhr
 have e:decide (ua5 d=0∧(t.length:Int)=d.sn)=decide ((t.length:Int)=d.sn):=decide_eq_decide.2 ⟨fun h=>h.2,fun h=>⟨hF,h⟩⟩
 rw [e]
 cases decide ((t.length:Int)=d.sn)<;>cases inT t<;>cases lkT d t<;>rfl
theorem uvv (d:Dsp)(t:List Int)(hd:DOk d)(ht:t.length≤1000):ua0 Tryz.prog 79 [(ub0 d),(iS t)] [] (fun r _=>r=(bv fun _=>uhr d t)):=by
 have c22:= @uth
 have l4:=hd.l4
 have s1:=hd.s1
 have s3:=hd.s3
 have hl0:∀i,i<d.ls.length→0≤(d.ls.getD i l0T).a∧(d.ls.getD i l0T).a<d.sn∧0≤(d.ls.getD i l0T).b∧(d.ls.getD i l0T).b<d.sn:=fun i hi=>by have:=hd.l i hi;unfold ucy at this;omega
 refine ua0.is fun R hR=>qW (sc:=uBz) uai mix Tryz.func79 rfl Tryz.call79 (by kernel_rfl) (by kernel_rfl) ?_
 generalize Tryz.prog=P at c22⊢
 cbv
 repeat' (first|with_reducible refine And.intro ?_ ?_|(with_reducible intro hcd;(try simp only [zA,zB,zC,zD,zE,zF,zG,zH,zI,zJ,zK,zL,zM,zN,zO,zP]at hcd);try cbv)|fail)
 all_goals first|(subst hR;refine qF ?_;exact(uzX (by((try simp only [qV]at *);(try simp only [zQ,zA,zB,zC,zD,zE,zF,zG,zH,zI,zJ,zK,zL,zM,zN,zO,zP,zR,zS]at *);omega))).symm)|skip
 have hn:(t.length:Int)=d.sn:=by((try simp only [qV]at *);(try simp only [zQ,zA,zB,zC,zD,zE,zF,zG,zH,zI,zJ,zK,zL,zM,zN,zO,zP,zR,zS]at *);omega)
 have hl:∀i,i<d.ls.length→0≤(d.ls.getD i l0T).a∧(d.ls.getD i l0T).a<zi t.length∧0≤(d.ls.getD i l0T).b∧(d.ls.getD i l0T).b<zi t.length:=fun i hi=>by have:=hl0 i hi;simp only [uac];omega
 refine⟨none,[],{i:Nat // i≤t.length∧∀k,k<i→inB 0 (t.getD k 0) 2000=true},fun x=>⟨[(1,(iS t)),(2,.own 0 0),(5,(iv fun _=>zi x.1))],[(0,.cells [(iS d.tw),(iS d.tm),(.sl 1 (.sym fun _=>zi (d.tv).length) (fun ix=>[(.sl 1 (.sym fun _=>zi ((d.tv).getD ix.den.toNat []).length) (fun jx=>[(iv fun _=>((d.tv).getD ix.den.toNat []).getD jx.den.toNat 0)]))])),(iv fun _=>d.sn),(iv fun _=>d.pn),(.sl 4 (.sym fun _=>zi (d.ls).length) (fun ix=>[(iv fun _=>((d.ls).getD ix.den.toNat l0T).a),(iv fun _=>((d.ls).getD ix.den.toNat l0T).b),(iv fun _=>((d.ls).getD ix.den.toNat l0T).lo),(iv fun _=>((d.ls).getD ix.den.toNat l0T).hi)])),(.sl 6 (.sym fun _=>zi (d.fs).length) (fun ix=>[(iv fun _=>((d.fs).getD ix.den.toNat f0T).p),(iv fun _=>((d.fs).getD ix.den.toNat f0T).s),(iv fun _=>((d.fs).getD ix.den.toNat f0T).wl),(iv fun _=>((d.fs).getD ix.den.toNat f0T).wh),(iv fun _=>((d.fs).getD ix.den.toNat f0T).ml),(iv fun _=>((d.fs).getD ix.den.toNat f0T).mh)]))] 29)],100⟩,fun x=>t.length-x.1,?_,?_⟩
 ·refine⟨⟨0,by omega,fun k hk=>by omega⟩,?_⟩
  cbv
  repeat' (first|with_reducible refine ua4 ?_ ?_|with_reducible refine And.intro ?_ ?_)
  all_goals first|trivial|exact qM (qE (by rfl))|exact qM (Fit.refl _)|exact qL (qK _)|skip
 ·rintro ⟨i,hi,hq⟩
  cbv
  repeat' (first|with_reducible refine ua4 ?_ ?_|with_reducible refine And.intro ?_ ?_|(with_reducible intro hcd;(try simp only [zA,zB,zC,zD,zE,zF,zG,zH,zI,zJ,zK,zL,zM,zN,zO,zP]at hcd);try cbv)|(refine qP ?_ (c22 (t.getD i 0) 0 2000) ?hfit;(case hfit=>(exact qD (qE (by rfl)) (qD (qE (by rfl)) (qD (qE (by rfl)) qB))));try cbv)|fail)
  all_goals first|((try clear c22);((try simp only [qV]at *);(try simp only [zQ,zA,zB,zC,zD,zE,zF,zG,zH,zI,zJ,zK,zL,zM,zN,zO,zP,zR,zS]at *);first|(refine qN ?_;omega)|(simp only [uaj];omega)))|((try clear c22);(subst hR;refine qF ?_;exact(uzT (i:=i) (by((try simp only [qV]at *);(try simp only [zQ,zA,zB,zC,zD,zE,zF,zG,zH,zI,zJ,zK,zL,zM,zN,zO,zP,zR,zS]at *);omega)) (by first|assumption|(simp only [Bool.not_eq_true]at *;assumption))).symm))|((try clear c22);((try simp only [zQ,zA,zB,zC,zD,zE,zF,zG,zH,zI,zJ,zK,zL,zM,zN,zO,zP,zR,zS]at *);refine⟨⟨i+1,(by((try simp only [qV]at *);(try simp only [zQ,zA,zB,zC,zD,zE,zF,zG,zH,zI,zJ,zK,zL,zM,zN,zO,zP,zR,zS]at *);omega)),fun k hk=>(Nat.lt_or_ge k i).elim (hq k) fun q=>by rw [show k=i by omega];assumption⟩,by simp only [];omega,?_⟩;cbv;(repeat' (first|with_reducible refine ua4 ?_ ?_|with_reducible refine And.intro ?_ ?_));(all_goals first|trivial|exact qM (qE (by rfl))|exact qM (qF (by rfl))|exact qM (Fit.refl _)|exact qL (qK _)|(refine qM (qE ?_);(try simp only [qV]at *);simp only [zQ,zA,zB,zC,zD,zE,zF,zG,zH,zI,zJ,zK,zL,zM,zN,zO,zP,zR,zS]at *;omega)|(refine qL (qJ ?_);(repeat' (first|exact qA|exact qB|refine qC ?_ rfl ?_|refine qD ?_ ?_|exact qE (by rfl)|exact qF (by rfl)|exact Fit.refl _|exact qG _|(refine qE ?_;(try simp only [qV]at *);simp only [zQ,zA,zB,zC,zD,zE,zF,zG,zH,zI,zJ,zK,zL,zM,zN,zO,zP,zR,zS]at *;omega)));done)|skip)))|skip
  have hq:∀k,k<t.length→inB 0 (t.getD k 0) 2000=true:=fun k hk=>hq k (by((try simp only [qV]at *);(try simp only [zQ,zA,zB,zC,zD,zE,zF,zG,zH,zI,zJ,zK,zL,zM,zN,zO,zP,zR,zS]at *);omega))
  refine⟨none,[],{j:Nat // j≤d.ls.length∧∀k,k<j→inB (d.ls.getD k l0T).lo (t.getD (d.ls.getD k l0T).b.toNat 0-t.getD (d.ls.getD k l0T).a.toNat 0) (d.ls.getD k l0T).hi=true},fun x=>⟨[(1,(iS t)),(2,.own 0 0),(6,(iv fun _=>zi x.1))],[(0,.cells [(iS d.tw),(iS d.tm),(.sl 1 (.sym fun _=>zi (d.tv).length) (fun ix=>[(.sl 1 (.sym fun _=>zi ((d.tv).getD ix.den.toNat []).length) (fun jx=>[(iv fun _=>((d.tv).getD ix.den.toNat []).getD jx.den.toNat 0)]))])),(iv fun _=>d.sn),(iv fun _=>d.pn),(.sl 4 (.sym fun _=>zi (d.ls).length) (fun ix=>[(iv fun _=>((d.ls).getD ix.den.toNat l0T).a),(iv fun _=>((d.ls).getD ix.den.toNat l0T).b),(iv fun _=>((d.ls).getD ix.den.toNat l0T).lo),(iv fun _=>((d.ls).getD ix.den.toNat l0T).hi)])),(.sl 6 (.sym fun _=>zi (d.fs).length) (fun ix=>[(iv fun _=>((d.fs).getD ix.den.toNat f0T).p),(iv fun _=>((d.fs).getD ix.den.toNat f0T).s),(iv fun _=>((d.fs).getD ix.den.toNat f0T).wl),(iv fun _=>((d.fs).getD ix.den.toNat f0T).wh),(iv fun _=>((d.fs).getD ix.den.toNat f0T).ml),(iv fun _=>((d.fs).getD ix.den.toNat f0T).mh)]))] 29)],200⟩,fun x=>d.ls.length-x.1,?_,?_⟩
  ·refine⟨⟨0,by omega,fun k hk=>by omega⟩,?_⟩
   cbv
   repeat' (first|with_reducible refine ua4 ?_ ?_|with_reducible refine And.intro ?_ ?_)
   all_goals first|trivial|exact qM (qE (by rfl))|exact qM (Fit.refl _)|exact qL (qK _)|skip
  ·rintro ⟨j,hj,hr⟩
   cbv
   repeat' (first|with_reducible refine ua4 ?_ ?_|with_reducible refine And.intro ?_ ?_|(with_reducible intro hcd;(try simp only [zA,zB,zC,zD,zE,zF,zG,zH,zI,zJ,zK,zL,zM,zN,zO,zP]at hcd);try cbv)|(refine qP ?_ (c22 (t.getD (d.ls.getD j l0T).b.toNat 0-t.getD (d.ls.getD j l0T).a.toNat 0) (d.ls.getD j l0T).lo (d.ls.getD j l0T).hi) ?hfit;(case hfit=>(exact qD (qE (by rfl)) (qD (qE (by rfl)) (qD (qE (by rfl)) qB))));try cbv)|fail)
   all_goals first|((try clear c22);((try simp only [qV]at *);(try simp only [zQ,zA,zB,zC,zD,zE,zF,zG,zH,zI,zJ,zK,zL,zM,zN,zO,zP,zR,zS]at *);first|(refine qN ?_;omega)|(simp only [uaj];omega)))|((try clear c22);((have hl9:=hl j (by((try simp only [qV]at *);(try simp only [zQ,zA,zB,zC,zD,zE,zF,zG,zH,zI,zJ,zK,zL,zM,zN,zO,zP,zR,zS]at *);omega)));(simp only [uac]at hl9);(try simp only [qV]at *);(try simp only [zQ,zA,zB,zC,zD,zE,zF,zG,zH,zI,zJ,zK,zL,zM,zN,zO,zP,zR,zS]at *);simp only [uaj];first|omega|exact⟨by omega,by omega⟩))|((try clear c22);((have hl9:=hl j (by((try simp only [qV]at *);(try simp only [zQ,zA,zB,zC,zD,zE,zF,zG,zH,zI,zJ,zK,zL,zM,zN,zO,zP,zR,zS]at *);omega)));(simp only [uac]at hl9);(have q1:=hq (d.ls.getD j l0T).b.toNat (by omega));(have q2:=hq (d.ls.getD j l0T).a.toNat (by omega));simp only [uav]at q1 q2;(try simp only [qV]at *);(try simp only [zQ,zA,zB,zC,zD,zE,zF,zG,zH,zI,zJ,zK,zL,zM,zN,zO,zP,zR,zS]at *);(refine qN ?_);omega))|((try clear c22);(subst hR;refine qF ?_;exact(uzP (i:=j) (by((try simp only [qV]at *);(try simp only [zQ,zA,zB,zC,zD,zE,zF,zG,zH,zI,zJ,zK,zL,zM,zN,zO,zP,zR,zS]at *);omega)) (by first|assumption|(simp only [Bool.not_eq_true]at *;assumption))).symm))|((try clear c22);(subst hR;refine qF ?_;exact(uyV hn (fun k hk=>hq k hk) (fun k hk=>hr k (by((try simp only [qV]at *);(try simp only [zQ,zA,zB,zC,zD,zE,zF,zG,zH,zI,zJ,zK,zL,zM,zN,zO,zP,zR,zS]at *);omega)))).symm))|((try clear c22);((try simp only [zQ,zA,zB,zC,zD,zE,zF,zG,zH,zI,zJ,zK,zL,zM,zN,zO,zP,zR,zS]at *);refine⟨⟨j+1,(by((try simp only [qV]at *);(try simp only [zQ,zA,zB,zC,zD,zE,zF,zG,zH,zI,zJ,zK,zL,zM,zN,zO,zP,zR,zS]at *);omega)),fun k hk=>(Nat.lt_or_ge k j).elim (hr k) fun q=>by rw [show k=j by omega];assumption⟩,by simp only [];omega,?_⟩;cbv;(repeat' (first|with_reducible refine ua4 ?_ ?_|with_reducible refine And.intro ?_ ?_));(all_goals first|trivial|exact qM (qE (by rfl))|exact qM (qF (by rfl))|exact qM (Fit.refl _)|exact qL (qK _)|(refine qM (qE ?_);(try simp only [qV]at *);simp only [zQ,zA,zB,zC,zD,zE,zF,zG,zH,zI,zJ,zK,zL,zM,zN,zO,zP,zR,zS]at *;omega)|(refine qL (qJ ?_);(repeat' (first|exact qA|exact qB|refine qC ?_ rfl ?_|refine qD ?_ ?_|exact qE (by rfl)|exact qF (by rfl)|exact Fit.refl _|exact qG _|(refine qE ?_;(try simp only [qV]at *);simp only [zQ,zA,zB,zC,zD,zE,zF,zG,zH,zI,zJ,zK,zL,zM,zN,zO,zP,zR,zS]at *;omega)));done)|skip)))|skip
theorem ucO (d:Dsp)(t:List Int)(hd:DOk d)(ht:t.length≤1000):ua0 Tryz.prog 34 [(ub0 d),(iS t)] [] (fun r _=>r=(bv fun _=>(uhr d t&&ftT d t))):=by
 have c22:= @uth
 have c79:=uvv d t hd ht
 have c80:=fun (f:FaT) (hf:ubS d f)=>uu9 d f hd.t hf
 have f6:=hd.f6
 have s1:=hd.s1
 have s3:=hd.s3
 have hfs:∀i,i<d.fs.length→0≤(d.fs.getD i f0T).s∧(d.fs.getD i f0T).s<d.sn:=fun i hi=>by have:=hd.f i hi;unfold ubS at this;omega
 have hhn:uhr d t=true→(t.length:Int)=d.sn:=fun h=>by
  unfold uhr at h
  rw [Bool.and_eq_true,decide_eq_true_eq]at h
  exact h.1
 refine ua0.is fun R hR=>qW (sc:=uBh) uai mix Tryz.func34 rfl Tryz.call34 (by kernel_rfl) (by kernel_rfl) ?_
 generalize Tryz.prog=P at c22 c79 c80⊢
 cbv
 repeat' (first|with_reducible refine And.intro ?_ ?_|(with_reducible intro hcd;(try simp only [zA,zB,zC,zD,zE,zF,zG,zH,zI,zJ,zK,zL,zM,zN,zO,zP]at hcd);try cbv)|(refine qP ?_ (c79) ?hfit;(case hfit=>((repeat' (first|exact qB|refine qD ?_ ?_|exact qE (by rfl)|exact qF (by rfl)|exact Fit.refl _|exact qA|refine qC ?_ rfl ?_));done));try cbv)|fail)
 all_goals first|(subst hR;refine qF ?_;rw [show uhr d t=false from(by first|assumption|(simp only [Bool.not_eq_true]at *;assumption))];rfl)|skip
 have hol:uhr d t=true:=(by first|assumption|(simp only [Bool.not_eq_true]at *;assumption))
 have hn:(t.length:Int)=d.sn:=hhn hol
 clear hhn
 refine⟨none,[],{i:Nat // i≤d.fs.length∧∀k,k<i→inB (mLo d (d.fs.getD k f0T)) (t.getD (d.fs.getD k f0T).s.toNat 0) (mHi d (d.fs.getD k f0T))=true},fun x=>⟨[(1,(iS t)),(2,.own 0 0),(5,(iv fun _=>zi x.1))],[(0,.cells [(iS d.tw),(iS d.tm),(.sl 1 (.sym fun _=>zi (d.tv).length) (fun ix=>[(.sl 1 (.sym fun _=>zi ((d.tv).getD ix.den.toNat []).length) (fun jx=>[(iv fun _=>((d.tv).getD ix.den.toNat []).getD jx.den.toNat 0)]))])),(iv fun _=>d.sn),(iv fun _=>d.pn),(.sl 4 (.sym fun _=>zi (d.ls).length) (fun ix=>[(iv fun _=>((d.ls).getD ix.den.toNat l0T).a),(iv fun _=>((d.ls).getD ix.den.toNat l0T).b),(iv fun _=>((d.ls).getD ix.den.toNat l0T).lo),(iv fun _=>((d.ls).getD ix.den.toNat l0T).hi)])),(.sl 6 (.sym fun _=>zi (d.fs).length) (fun ix=>[(iv fun _=>((d.fs).getD ix.den.toNat f0T).p),(iv fun _=>((d.fs).getD ix.den.toNat f0T).s),(iv fun _=>((d.fs).getD ix.den.toNat f0T).wl),(iv fun _=>((d.fs).getD ix.den.toNat f0T).wh),(iv fun _=>((d.fs).getD ix.den.toNat f0T).ml),(iv fun _=>((d.fs).getD ix.den.toNat f0T).mh)]))] 29)],100⟩,fun x=>d.fs.length-x.1,?_,?_⟩
 ·refine⟨⟨0,by omega,fun k hk=>by omega⟩,?_⟩
  cbv
  repeat' (first|with_reducible refine ua4 ?_ ?_|with_reducible refine And.intro ?_ ?_)
  all_goals first|trivial|exact qM (qE (by rfl))|exact qM (Fit.refl _)|exact qL (qK _)|skip
 ·rintro ⟨i,hi,hq⟩
  cbv
  repeat' (first|with_reducible refine ua4 ?_ ?_|with_reducible refine And.intro ?_ ?_|(with_reducible intro hcd;(try simp only [zA,zB,zC,zD,zE,zF,zG,zH,zI,zJ,zK,zL,zM,zN,zO,zP]at hcd);try cbv)|(refine qP ?_ (c80 (d.fs.getD i f0T) (hd.f i (by((try simp only [qV]at *);(try simp only [zQ,zA,zB,zC,zD,zE,zF,zG,zH,zI,zJ,zK,zL,zM,zN,zO,zP,zR,zS]at *);omega)))) ?hfit;(case hfit=>((repeat' (first|exact qB|refine qD ?_ ?_|exact qE (by rfl)|exact qF (by rfl)|exact Fit.refl _|exact qA|refine qC ?_ rfl ?_));done));try cbv)|(refine qP ?_ (c22 (t.getD (d.fs.getD i f0T).s.toNat 0) (mLo d (d.fs.getD i f0T)) (mHi d (d.fs.getD i f0T))) ?hfit;(case hfit=>(exact qD (qE (by rfl)) (qD (qE (by rfl)) (qD (qE (by rfl)) qB))));try cbv)|fail)
  all_goals first|((try clear c22);(try clear c80);(try clear c79);((try simp only [qV]at *);(try simp only [zQ,zA,zB,zC,zD,zE,zF,zG,zH,zI,zJ,zK,zL,zM,zN,zO,zP,zR,zS]at *);first|(refine qN ?_;omega)|(simp only [uaj];omega)))|((try clear c22);(try clear c80);(try clear c79);((have hl9:=hfs i (by((try simp only [qV]at *);(try simp only [zQ,zA,zB,zC,zD,zE,zF,zG,zH,zI,zJ,zK,zL,zM,zN,zO,zP,zR,zS]at *);omega)));(try simp only [qV]at *);(try simp only [zQ,zA,zB,zC,zD,zE,zF,zG,zH,zI,zJ,zK,zL,zM,zN,zO,zP,zR,zS]at *);simp only [uaj];first|omega|exact⟨by omega,by omega⟩))|((try clear c22);(try clear c80);(try clear c79);(subst hR;refine qF ?_;have e:ftT d t=false:=uis (i:=i) (by((try simp only [qV]at *);(try simp only [zQ,zA,zB,zC,zD,zE,zF,zG,zH,zI,zJ,zK,zL,zM,zN,zO,zP,zR,zS]at *);omega)) (by first|assumption|(simp only [Bool.not_eq_true]at *;assumption));exact(show false=(uhr d t&&ftT d t)from by rw [e,Bool.and_false])))|((try clear c22);(try clear c80);(try clear c79);(subst hR;refine qF ?_;have e:ftT d t=true:=ugs (fun k hk=>hq k (by((try simp only [qV]at *);(try simp only [zQ,zA,zB,zC,zD,zE,zF,zG,zH,zI,zJ,zK,zL,zM,zN,zO,zP,zR,zS]at *);omega)));rw [e,hol];rfl))|((try clear c22);(try clear c80);(try clear c79);((try simp only [zQ,zA,zB,zC,zD,zE,zF,zG,zH,zI,zJ,zK,zL,zM,zN,zO,zP,zR,zS]at *);refine⟨⟨i+1,(by((try simp only [qV]at *);(try simp only [zQ,zA,zB,zC,zD,zE,zF,zG,zH,zI,zJ,zK,zL,zM,zN,zO,zP,zR,zS]at *);omega)),fun k hk=>(Nat.lt_or_ge k i).elim (hq k) fun q=>by rw [show k=i by omega];assumption⟩,by simp only [];omega,?_⟩;cbv;(repeat' (first|with_reducible refine ua4 ?_ ?_|with_reducible refine And.intro ?_ ?_));(all_goals first|trivial|exact qM (qE (by rfl))|exact qM (qF (by rfl))|exact qM (Fit.refl _)|exact qL (qK _)|(refine qM (qE ?_);(try simp only [qV]at *);simp only [zQ,zA,zB,zC,zD,zE,zF,zG,zH,zI,zJ,zK,zL,zM,zN,zO,zP,zR,zS]at *;omega)|(refine qL (qJ ?_);(repeat' (first|exact qA|exact qB|refine qC ?_ rfl ?_|refine qD ?_ ?_|exact qE (by rfl)|exact qF (by rfl)|exact Fit.refl _|exact qG _|(refine qE ?_;(try simp only [qV]at *);simp only [zQ,zA,zB,zC,zD,zE,zF,zG,zH,zI,zJ,zK,zL,zM,zN,zO,zP,zR,zS]at *;omega)));done)|skip)))|skip
end Go.Proofs.YtkdggbfknlcdaaaGreat
