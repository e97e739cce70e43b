/- Contracts of the functions that the laws come to. No condition. -/
import Derived.Test.YtkdggbfknlcdaaaGreatT5
set_option linter.unusedVariables false
set_option linter.unusedSimpArgs false
set_option linter.deprecated false
set_option linter.all false

namespace Go.Proofs.YtkdggbfknlcdaaaGreat
open Go Go.Eng Go.Proofs Go.Eng.Dif Go.Eng.Few
set_option maxRecDepth 10000
theorem utl {p:Nat→Bool} {n i:Nat}(hi:i<n)(h:p i=false):allB p n=false:=by
 rw [uas]
 intro q
 rw [q i hi]at h;cases h
theorem urk {p:Nat→Bool} {n:Nat}(h:∀i,i<n→p i=true):allB p n=true:=by rw [uan];exact h
def eqI (na:Nat)(fa:Nat→Int)(nb:Nat)(fb:Nat→Int):Bool:=decide (na=nb)&&allB (fun i=>decide (fa i=fb i)) na
theorem usR {na nb:Nat} {fa fb:Nat→Int}(h:¬na=nb):eqI na fa nb fb=false:=by unfold eqI;rw [decide_eq_false h];rfl
theorem uvG {na nb:Nat} {fa fb:Nat→Int} {i:Nat}(hi:i<na)(h:¬fa i=fb i):eqI na fa nb fb=false:=by
 unfold eqI
 rw [utl (i:=i) hi (decide_eq_false h)];simp
theorem udS {na nb:Nat} {fa fb:Nat→Int}(h:na=nb)(h':∀i,i<na→fa i=fb i):eqI na fa nb fb=true:=by
 unfold eqI
 rw [decide_eq_true h,urk fun i hi=>decide_eq_true (h' i hi)];rfl
theorem uv9 :EqOk Tryz.prog 59 2:=uo9 (by kernel_rfl)
theorem ukK {m b:Int} {c:List SV} {new e':IX→List SV}(h0:∀jx:IX,jx.den=0→Fit (.agg c) (.agg (e' jx)))(h1:∀ix jx:IX,0≤ix.den→ix.den<m→jx.den=1+ix.den→Fit (.agg (new ix)) (.agg (e' jx)))(hb:0<m∧(1+m)*b≤140737488355328):
 Hold (udy 1 (fun _=>c) m new e'∧0<m∧(1+m)*b≤140737488355328):=
 ⟨⟨fun μ ν ix v i0 i1 q jx hj=>(h0 jx (by omega)).le _ _ _ q,fun μ ν ix v i0 i1 q jx hj=>(h1 ix jx i0 i1 hj).le _ _ _ q⟩,hb⟩
theorem ugC (a b:Int):ua0 Tryz.prog 27 [(iv fun _=>a),(iv fun _=>b)] [] (fun r _=>r=(.agg [(iv fun _=>a),(iv fun _=>b)])):=by
 refine ua0.is fun R hR=>qW (sc:=sc27) tyok mix Tryz.func27 rfl Tryz.call27 (by kernel_rfl) (by kernel_rfl) ?_
 generalize Tryz.prog=P
 cbv
 repeat' (first
  |fail)
 all_goals first
  |(subst hR;(repeat' (first|exact qA|exact qB|refine qC ?_ rfl ?_|refine qD ?_ ?_|exact qE (by rfl)|exact qF (by rfl)|exact Fit.refl _|exact qG _|(refine qE ?_;(try simp only [qV]at *);simp only [zQ,zA,zB,zC,zD,zE,zF,zG,zH,zI,zJ,zK,zL,zM,zN,zO,zP,zR,zS]at *;omega)));done)
  |skip
theorem to18 (a b:Int):ua0 Tryz.prog 36 [(.agg [(iv fun _=>a),(iv fun _=>b)])] [] (fun r _=>r=(.agg [(iv fun _=>a),(iv fun _=>b)])):=by
 refine ua0.is fun R hR=>qW (sc:=sc36) tyok mix Tryz.func36 rfl Tryz.call36 (by kernel_rfl) (by kernel_rfl) ?_
 generalize Tryz.prog=P
 cbv
 repeat' (first
  |fail)
 all_goals first
  |(subst hR;(repeat' (first|exact qA|exact qB|refine qC ?_ rfl ?_|refine qD ?_ ?_|exact qE (by rfl)|exact qF (by rfl)|exact Fit.refl _|exact qG _|(refine qE ?_;(try simp only [qV]at *);simp only [zQ,zA,zB,zC,zD,zE,zF,zG,zH,zI,zJ,zK,zL,zM,zN,zO,zP,zR,zS]at *;omega)));done)
  |skip
theorem uen (na nb:Nat)(fa fb:Nat→Int)(ha:na≤1000)(hb:nb≤1000):ua0 Tryz.prog 15 [(.sl 1 (.sym fun _=>zi na) (fun ix=>[(iv fun _=>fa ix.den.toNat)])),(.sl 1 (.sym fun _=>zi nb) (fun ix=>[(iv fun _=>fb ix.den.toNat)]))] [] (fun r _=>r=(.bool (.sym fun _=>eqI na fa nb fb))):=by
 refine ua0.is fun R hR=>qW (sc:=sc15) tyok mix Tryz.func15 rfl Tryz.call15 (by kernel_rfl) (by kernel_rfl) ?_
 generalize Tryz.prog=P
 cbv
 repeat' (first
  |with_reducible refine And.intro ?_ ?_
  |(with_reducible intro hcd;(try simp only [zA,zB,zC,zD,zE,zF,zG,zH,zI,zJ,zK,zL,zM,zN,zO,zP]at hcd);try cbv)
  |fail)
 all_goals first
  |(subst hR;(refine qF ?_;(try simp only [qV]at *);(try simp only [zQ,zA,zB,zC,zD,zE,zF,zG,zH,zI,zJ,zK,zL,zM,zN,zO,zP,zR,zS]at *);exact(usR (by omega)).symm);done)
  |skip
 refine⟨none,[],{i:Nat // i≤na∧∀j,j<i→fa j=fb j},fun x=>⟨[(0,(.sl 1 (.sym fun _=>zi na) (fun ix=>[(iv fun _=>fa ix.den.toNat)]))),(1,(.sl 1 (.sym fun _=>zi nb) (fun ix=>[(iv fun _=>fb ix.den.toNat)]))),(5,(iv fun _=>zi x.1))],[],40⟩,fun x=>na-x.1,?_,?_⟩
 ·refine⟨⟨0,by omega,fun j hj=>by omega⟩,?_⟩
  cbv
  repeat' (first
   |with_reducible refine hold ?_ ?_
   |with_reducible refine And.intro ?_ ?_)
  all_goals first
   |trivial
   |exact qM (qE (by rfl))
   |exact qM (Fit.refl _)
   |skip
 ·rintro⟨i,hi,hq⟩
  cbv
  repeat' (first
   |with_reducible refine hold ?_ ?_
   |with_reducible refine And.intro ?_ ?_
   |(with_reducible intro hcd;(try simp only [zA,zB,zC,zD,zE,zF,zG,zH,zI,zJ,zK,zL,zM,zN,zO,zP]at hcd);try cbv)
   |fail)
  all_goals first
   |((try simp only [qV]at *);(try simp only [zQ,zA,zB,zC,zD,zE,zF,zG,zH,zI,zJ,zK,zL,zM,zN,zO,zP,zR,zS]at *);first|(refine qN ?_;omega)|(simp only [Hold];omega))
   |(subst hR;(refine qF ?_;(try simp only [qV]at *);(try simp only [zQ,zA,zB,zC,zD,zE,zF,zG,zH,zI,zJ,zK,zL,zM,zN,zO,zP,zR,zS]at *);exact(uvG (i:=i) (by omega) (by assumption)).symm);done)
   |(subst hR;(refine qF ?_;(try simp only [qV]at *);(try simp only [zQ,zA,zB,zC,zD,zE,zF,zG,zH,zI,zJ,zK,zL,zM,zN,zO,zP,zR,zS]at *);exact(udS (by omega) fun j hj=>hq j (by omega)).symm);done)
   |((try simp only [zQ,zA,zB,zC,zD,zE,zF,zG,zH,zI,zJ,zK,zL,zM,zN,zO,zP,zR,zS]at *);refine⟨⟨i+1,by omega,fun j hj=>(Nat.lt_or_ge j i).elim (hq j) fun q=>by rw [show j=i by omega];first|assumption|omega⟩,by simp only [];omega,?_⟩;cbv;(repeat' (first|with_reducible refine hold ?_ ?_|with_reducible refine And.intro ?_ ?_));(all_goals first|trivial|exact qM (qE (by rfl))|exact qM (qF (by rfl))|exact qM (Fit.refl _)|exact qL (qK _)|(refine qM (qE ?_);(try simp only [qV]at *);simp only [zQ,zA,zB,zC,zD,zE,zF,zG,zH,zI,zJ,zK,zL,zM,zN,zO,zP,zR,zS]at *;omega)|skip))
   |skip
theorem uus :ua0 Tryz.prog 39 [] [] (fun r _=>r=(dspS d3)):=by
 have c40:= @ugC
 refine ua0.is fun R hR=>qW (sc:=sc39) tyok mix Tryz.func39 rfl Tryz.call39 (by kernel_rfl) (by kernel_rfl) ?_
 generalize Tryz.prog=P at c40⊢
 cbv
 repeat' (first
  | (refine qP ?_ (c40 _ _) (by(repeat' (first|exact qB|refine qD ?_ ?_|exact qE (by rfl)|exact qF (by rfl)|exact Fit.refl _|exact qA|refine qC ?_ rfl ?_)))
     try cbv)
  |fail)
 all_goals first
  |(subst hR;(repeat' (first|exact qA|exact qB|refine qC ?_ rfl ?_|refine qD ?_ ?_|exact qE (by rfl)|exact qF (by rfl)|exact qE (by kernel_rfl)|exact qF (by kernel_rfl)|exact Fit.refl _|(exact qO (by rfl))|(first|(refine ua1 (by rfl) (fun ix h0 h1=> ?_);(have h2:ix.den<2:=h1);(have hx:ix.den.toNat=0∨ix.den.toNat=1:=by omega);(rcases hx with hx|hx<;>simp only [hx]))|(refine ua1 (by rfl) (fun ix h0 h1=> ?_);(have h2:ix.den<3:=h1);(have hx:ix.den.toNat=0∨ix.den.toNat=1∨ix.den.toNat=2:=by omega);(rcases hx with hx|hx|hx<;>simp only [hx]))|(refine ua1 (by rfl) (fun ix h0 h1=> ?_);(have h2:ix.den<4:=h1);(have hx:ix.den.toNat=0∨ix.den.toNat=1∨ix.den.toNat=2∨ix.den.toNat=3:=by omega);(rcases hx with hx|hx|hx|hx<;>simp only [hx]))|(refine ua1 (by rfl) (fun ix h0 h1=> ?_);(have h2:ix.den<1:=h1);(have hx:ix.den.toNat=0:=by omega);(rcases hx with hx<;>simp only [hx]))|(refine ua1 (by rfl) (fun ix h0 h1=> ?_);(have h2:ix.den<5:=h1);(have hx:ix.den.toNat=0∨ix.den.toNat=1∨ix.den.toNat=2∨ix.den.toNat=3∨ix.den.toNat=4:=by omega);(rcases hx with hx|hx|hx|hx|hx<;>simp only [hx])))));done)
  |skip
theorem uqJ :ub5 Tryz.prog 39 [] [] (fun r bs=>r=(.agg [(iS d3.tw),(iS d3.tm),(.sl 1 (.sym fun _=>zi (d3.tv).length) (fun ix=>[(.sl 1 (.sym fun _=>zi ((d3.tv).getD ix.den.toNat []).length) (fun jx=>[(iv fun _=>((d3.tv).getD ix.den.toNat []).getD jx.den.toNat 0)]))])),(iv fun _=>d3.sn),(iv fun _=>d3.pn),(.sl 4 (.sym fun _=>zi (d3.ls).length) (fun ix=>[(iv fun _=>((d3.ls).getD ix.den.toNat l0T).a),(iv fun _=>((d3.ls).getD ix.den.toNat l0T).b),(iv fun _=>((d3.ls).getD ix.den.toNat l0T).lo),(iv fun _=>((d3.ls).getD ix.den.toNat l0T).hi)])),.ows 0 0 3 3 6])∧bs=[.cells [(.int .i64 (.lit (0))),(.int .i64 (.lit (0))),(.int .i64 (.lit (12))),(.int .i64 (.lit (12))),(.int .i64 (.lit (5))),(.int .i64 (.lit (6))),(.int .i64 (.lit (1))),(.int .i64 (.lit (0))),(.int .i64 (.lit (14))),(.int .i64 (.lit (14))),(.int .i64 (.lit (2))),(.int .i64 (.lit (3))),(.int .i64 (.lit (2))),(.int .i64 (.lit (1))),(.int .i64 (.lit (10))),(.int .i64 (.lit (10))),(.int .i64 (.lit (4))),(.int .i64 (.lit (4)))] 106]):=by
 have c40:= @ugC
 refine ub5.is rfl rfl fun R B hR hB=>ueO (sc:=sc39) tyok mix Tryz.func39 rfl Tryz.call39 (by kernel_rfl) (by kernel_rfl) ?_
 generalize Tryz.prog=P at c40⊢
 cbv
 repeat' (first
  | (refine qP ?_ (c40 _ _) (by(repeat' (first|exact qB|refine qD ?_ ?_|exact qE (by rfl)|exact qF (by rfl)|exact Fit.refl _|exact qA|refine qC ?_ rfl ?_)))
     try cbv)
  |fail)
 all_goals first|trivial|skip
 refine⟨[],(20:Nat),?_⟩
 cbv
 subst hR
 subst hB
 refine⟨?_,?_⟩
 ·(repeat' (first|exact qA|exact qB|refine qC ?_ rfl ?_|refine qD ?_ ?_|exact qE (by rfl)|exact qF (by rfl)|exact qE (by kernel_rfl)|exact qF (by kernel_rfl)|exact Fit.refl _|(exact qO (by rfl))|(first|(refine ua1 (by rfl) (fun ix h0 h1=> ?_);(have h2:ix.den<2:=h1);(have hx:ix.den.toNat=0∨ix.den.toNat=1:=by omega);(rcases hx with hx|hx<;>simp only [hx]))|(refine ua1 (by rfl) (fun ix h0 h1=> ?_);(have h2:ix.den<3:=h1);(have hx:ix.den.toNat=0∨ix.den.toNat=1∨ix.den.toNat=2:=by omega);(rcases hx with hx|hx|hx<;>simp only [hx]))|(refine ua1 (by rfl) (fun ix h0 h1=> ?_);(have h2:ix.den<4:=h1);(have hx:ix.den.toNat=0∨ix.den.toNat=1∨ix.den.toNat=2∨ix.den.toNat=3:=by omega);(rcases hx with hx|hx|hx|hx<;>simp only [hx]))|(refine ua1 (by rfl) (fun ix h0 h1=> ?_);(have h2:ix.den<1:=h1);(have hx:ix.den.toNat=0:=by omega);(rcases hx with hx<;>simp only [hx]))|(refine ua1 (by rfl) (fun ix h0 h1=> ?_);(have h2:ix.den<5:=h1);(have hx:ix.den.toNat=0∨ix.den.toNat=1∨ix.den.toNat=2∨ix.den.toNat=3∨ix.den.toNat=4:=by omega);(rcases hx with hx|hx|hx|hx|hx<;>simp only [hx])))))
 ·(repeat' (first|exact qH|refine qI ?_ ?_))
  refine qJ ?_
  (repeat' (first|exact qA|exact qB|refine qC ?_ rfl ?_|refine qD ?_ ?_|exact qE (by rfl)|exact qF (by rfl)|exact qE (by kernel_rfl)|exact qF (by kernel_rfl)|exact Fit.refl _|(exact qO (by rfl))|(first|(refine ua1 (by rfl) (fun ix h0 h1=> ?_);(have h2:ix.den<2:=h1);(have hx:ix.den.toNat=0∨ix.den.toNat=1:=by omega);(rcases hx with hx|hx<;>simp only [hx]))|(refine ua1 (by rfl) (fun ix h0 h1=> ?_);(have h2:ix.den<3:=h1);(have hx:ix.den.toNat=0∨ix.den.toNat=1∨ix.den.toNat=2:=by omega);(rcases hx with hx|hx|hx<;>simp only [hx]))|(refine ua1 (by rfl) (fun ix h0 h1=> ?_);(have h2:ix.den<4:=h1);(have hx:ix.den.toNat=0∨ix.den.toNat=1∨ix.den.toNat=2∨ix.den.toNat=3:=by omega);(rcases hx with hx|hx|hx|hx<;>simp only [hx]))|(refine ua1 (by rfl) (fun ix h0 h1=> ?_);(have h2:ix.den<1:=h1);(have hx:ix.den.toNat=0:=by omega);(rcases hx with hx<;>simp only [hx]))|(refine ua1 (by rfl) (fun ix h0 h1=> ?_);(have h2:ix.den<5:=h1);(have hx:ix.den.toNat=0∨ix.den.toNat=1∨ix.den.toNat=2∨ix.den.toNat=3∨ix.den.toNat=4:=by omega);(rcases hx with hx|hx|hx|hx|hx<;>simp only [hx])))))
theorem uwP :ua0 Tryz.prog 40 [] [] (fun r _=>r=(dspS d2)):=by
 have c37:=uqJ
 refine ua0.is fun R hR=>qW (sc:=sc40) tyok mix Tryz.func40 rfl Tryz.call40 (by kernel_rfl) (by kernel_rfl) ?_
 generalize Tryz.prog=P at c37⊢
 cbv
 repeat' (first
  | (refine Or.inr ⟨true,?_⟩
     cbv
     refine qU ?_ (c37) (by cbv;(repeat' (first|exact qB|refine qD ?_ ?_|exact qE (by rfl)|exact qF (by rfl)|exact Fit.refl _|exact qA|refine qC ?_ rfl ?_))) (by cbv;(repeat' (first|exact qH|refine qI ?_ ?_|exact qK _|refine qJ ?_|exact qA|exact qE (by rfl)|exact qF (by rfl)|exact Fit.refl _|exact qG _|refine qC ?_ rfl ?_)))
     try cbv)
  | (refine⟨fun ix=>[(iv fun _=>(d2.fs.getD ix.den.toNat f0T).p),(iv fun _=>(d2.fs.getD ix.den.toNat f0T).s),(iv fun _=>(d2.fs.getD ix.den.toNat f0T).wl),(iv fun _=>(d2.fs.getD ix.den.toNat f0T).wh),(iv fun _=>(d2.fs.getD ix.den.toNat f0T).ml),(iv fun _=>(d2.fs.getD ix.den.toNat f0T).mh)],?_⟩
     cbv
     refine hold (ukK (fun jx h0=>(by(have h3:jx.den.toNat=0:=by omega);simp only [h3];(repeat' (first|exact qA|exact qB|refine qC ?_ rfl ?_|refine qD ?_ ?_|exact qE (by rfl)|exact qF (by rfl)|exact qE (by kernel_rfl)|exact qF (by kernel_rfl)|exact Fit.refl _|(exact qO (by rfl))|(first|(refine ua1 (by rfl) (fun ix h0 h1=> ?_);(have h2:ix.den<2:=h1);(have hx:ix.den.toNat=0∨ix.den.toNat=1:=by omega);(rcases hx with hx|hx<;>simp only [hx]))|(refine ua1 (by rfl) (fun ix h0 h1=> ?_);(have h2:ix.den<3:=h1);(have hx:ix.den.toNat=0∨ix.den.toNat=1∨ix.den.toNat=2:=by omega);(rcases hx with hx|hx|hx<;>simp only [hx]))|(refine ua1 (by rfl) (fun ix h0 h1=> ?_);(have h2:ix.den<4:=h1);(have hx:ix.den.toNat=0∨ix.den.toNat=1∨ix.den.toNat=2∨ix.den.toNat=3:=by omega);(rcases hx with hx|hx|hx|hx<;>simp only [hx]))|(refine ua1 (by rfl) (fun ix h0 h1=> ?_);(have h2:ix.den<1:=h1);(have hx:ix.den.toNat=0:=by omega);(rcases hx with hx<;>simp only [hx]))|(refine ua1 (by rfl) (fun ix h0 h1=> ?_);(have h2:ix.den<5:=h1);(have hx:ix.den.toNat=0∨ix.den.toNat=1∨ix.den.toNat=2∨ix.den.toNat=3∨ix.den.toNat=4:=by omega);(rcases hx with hx|hx|hx|hx|hx<;>simp only [hx]))))))) (fun ix jx h0 h1 h2=>(by(have h3:jx.den.toNat=1:=by(have h4:ix.den<1:=h1;omega));simp only [h3];(repeat' (first|exact qA|exact qB|refine qC ?_ rfl ?_|refine qD ?_ ?_|exact qE (by rfl)|exact qF (by rfl)|exact qE (by kernel_rfl)|exact qF (by kernel_rfl)|exact Fit.refl _|(exact qO (by rfl))|(first|(refine ua1 (by rfl) (fun ix h0 h1=> ?_);(have h2:ix.den<2:=h1);(have hx:ix.den.toNat=0∨ix.den.toNat=1:=by omega);(rcases hx with hx|hx<;>simp only [hx]))|(refine ua1 (by rfl) (fun ix h0 h1=> ?_);(have h2:ix.den<3:=h1);(have hx:ix.den.toNat=0∨ix.den.toNat=1∨ix.den.toNat=2:=by omega);(rcases hx with hx|hx|hx<;>simp only [hx]))|(refine ua1 (by rfl) (fun ix h0 h1=> ?_);(have h2:ix.den<4:=h1);(have hx:ix.den.toNat=0∨ix.den.toNat=1∨ix.den.toNat=2∨ix.den.toNat=3:=by omega);(rcases hx with hx|hx|hx|hx<;>simp only [hx]))|(refine ua1 (by rfl) (fun ix h0 h1=> ?_);(have h2:ix.den<1:=h1);(have hx:ix.den.toNat=0:=by omega);(rcases hx with hx<;>simp only [hx]))|(refine ua1 (by rfl) (fun ix h0 h1=> ?_);(have h2:ix.den<5:=h1);(have hx:ix.den.toNat=0∨ix.den.toNat=1∨ix.den.toNat=2∨ix.den.toNat=3∨ix.den.toNat=4:=by omega);(rcases hx with hx|hx|hx|hx|hx<;>simp only [hx]))))))) ⟨by decide,by decide⟩) ?_
     try cbv)
  |fail)
 all_goals first
  |(subst hR;(repeat' (first|exact qA|exact qB|refine qC ?_ rfl ?_|refine qD ?_ ?_|exact qE (by rfl)|exact qF (by rfl)|exact qE (by kernel_rfl)|exact qF (by kernel_rfl)|exact Fit.refl _|(exact qO (by rfl))|(first|(refine ua1 (by rfl) (fun ix h0 h1=> ?_);(have h2:ix.den<2:=h1);(have hx:ix.den.toNat=0∨ix.den.toNat=1:=by omega);(rcases hx with hx|hx<;>simp only [hx]))|(refine ua1 (by rfl) (fun ix h0 h1=> ?_);(have h2:ix.den<3:=h1);(have hx:ix.den.toNat=0∨ix.den.toNat=1∨ix.den.toNat=2:=by omega);(rcases hx with hx|hx|hx<;>simp only [hx]))|(refine ua1 (by rfl) (fun ix h0 h1=> ?_);(have h2:ix.den<4:=h1);(have hx:ix.den.toNat=0∨ix.den.toNat=1∨ix.den.toNat=2∨ix.den.toNat=3:=by omega);(rcases hx with hx|hx|hx|hx<;>simp only [hx]))|(refine ua1 (by rfl) (fun ix h0 h1=> ?_);(have h2:ix.den<1:=h1);(have hx:ix.den.toNat=0:=by omega);(rcases hx with hx<;>simp only [hx]))|(refine ua1 (by rfl) (fun ix h0 h1=> ?_);(have h2:ix.den<5:=h1);(have hx:ix.den.toNat=0∨ix.den.toNat=1∨ix.den.toNat=2∨ix.den.toNat=3∨ix.den.toNat=4:=by omega);(rcases hx with hx|hx|hx|hx|hx<;>simp only [hx])))));done)
  |skip
theorem urX {n:Int} {f:Nat→Int} {L:List Int}(hn:n=(L.length:Int))(h:∀i,i<L.length→f i=L.getD i 0):Fit (.sl 1 (.sym fun _=>n) (fun ix=>[(iv fun _=>f ix.den.toNat)])) (iS L):=
 ua1 hn (fun ix h0 h1=>qC (qE (h _ (by have h2:ix.den<n:=h1;omega))) rfl qA)
theorem utg {n:Int} {f g:Nat→Int} {L:List (Int×Int)}(hn:n=(L.length:Int))(h:∀i,i<L.length→f i=(L.getD i (0,0)).1∧g i=(L.getD i (0,0)).2):Fit (.sl 2 (.sym fun _=>n) (fun ix=>[(iv fun _=>f ix.den.toNat),(iv fun _=>g ix.den.toNat)])) (.sl 2 (.sym fun _=>zi (L).length) (fun ix=>[(iv fun _=>((L).getD ix.den.toNat (0,0)).1),(iv fun _=>((L).getD ix.den.toNat (0,0)).2)])):=
 ua1 hn (fun ix h0 h1=>qC (qE (h _ (by have h2:ix.den<n:=h1;omega)).1) rfl (qC (qE (h _ (by have h2:ix.den<n:=h1;omega)).2) rfl qA))
theorem uwW :ua0 Tryz.prog 38 [(dspS d3),(iv fun _=>0)] [] (fun r _=>r=(.tup [(.agg [(.int .i64 (.lit (115))),(.int .i64 (.lit (119)))]),(.int .i64 (.lit (0)))])):=
 (uwb d3 0 (by decide)).post fun r bs h=>⟨_,by subst h;exact qD (qC (qE uoF.2.1) rfl (qC (qE uoF.2.2) rfl qA)) (qD (qE uoF.1) qB),rfl⟩
theorem uv3 :ua0 Tryz.prog 11 [(dspS d3)] [] (fun r _=>r=(.tup [(.int .i64 (.lit (1))),(.int .i64 (.lit (0)))])):=
 (utU d3).post fun r bs h=>⟨_,by subst h;exact qD (qE uv7.2) (qD (qE uv7.1) qB),rfl⟩
theorem uuY :ua0 Tryz.prog 13 [(dspS d3)] [] (fun r _=>r=(.tup [(iS ([1])),(.int .i64 (.lit (0)))])):=
 (unD d3).post fun r bs h=>⟨_,by subst h;rw [lea3];exact qD (Fit.refl _) (qD (qE uh3) qB),rfl⟩
theorem uqn :ua0 Tryz.prog 18 [(dspS d3)] [] (fun r _=>r=(.tup [(iS ([1])),(.int .i64 (.lit (0)))])):=
 (ucR d3).post fun r bs h=>⟨_,by subst h;rw [bel3];exact qD (Fit.refl _) (qD (qE uh3) qB),rfl⟩
theorem uvl :ua0 Tryz.prog 19 [(dspS d3)] [] (fun r _=>r=(.tup [(iS ([1])),(iS ([1])),(.int .i64 (.lit (0)))])):=
 (udP d3).post fun r bs h=>⟨_,by subst h;rw [mst3,may3];exact qD (Fit.refl _) (qD (Fit.refl _) (qD (qE uh3) qB)),rfl⟩
def B2X :List (Int×Int):=[(116,119),(116,116)]
theorem utd :ua0 Tryz.prog 30 [(dspS d2)] [] (fun r _=>r=(.tup [(.sl 2 (.sym fun _=>zi (B2X).length) (fun ix=>[(iv fun _=>((B2X).getD ix.den.toNat (0,0)).1),(iv fun _=>((B2X).getD ix.den.toNat (0,0)).2)])),(.int .i64 (.lit (0)))])):=
 (urM d2).post fun r bs h=>⟨_,by subst h;exact qD (utg (f:=loT d2 []) (g:=hiT d2 []) (L:=B2X) bnd2.2 (fun i hi=>by
  have hi:i<2:=hi
  rcases(show i=0∨i=1 by omega)with e|e<;>subst e<;>(first|exact bd2.1|exact bd2.2))) (qD (qE bnd2.1) qB),rfl⟩
theorem ut8 :ua0 Tryz.prog 25 [(dspS d3),(iv fun _=>0),(iv fun _=>1000)] [] (fun r _=>r=(.tup [(.agg [(.int .i64 (.lit (116))),(.int .i64 (.lit (119)))]),(.int .i64 (.lit (0)))])):=
 (ur4 d3 0 1000).post fun r bs h=>⟨_,by subst h;exact qD (qC (qE ch3.2.1) rfl (qC (qE ch3.2.2) rfl qA)) (qD (qE ch3.1) qB),rfl⟩
theorem uuB :ua0 Tryz.prog 20 [(dspS d3),(iv fun _=>100)] [] (fun r _=>r=(.tup [(iS ([0,100,0])),(.int .i64 (.lit (0)))])):=
 (uep d3 100).post fun r bs h=>⟨_,by subst h;exact qD (urX (f:=cosF d3 100) (L:=[0,100,0]) co3.2 (fun i hi=>by
  have hi:i<3:=hi
  rcases(show i=0∨i=1∨i=2 by omega)with e|e|e<;>subst e<;>(first|exact cos3.1|exact cos3.2.1|exact cos3.2.2))) (qD (qE co3.1) qB),rfl⟩
theorem utv :ua0 Tryz.prog 20 [(dspS d2),(iv fun _=>100)] [] (fun r _=>r=(.tup [(iS ([34,33,33])),(.int .i64 (.lit (0)))])):=
 (uep d2 100).post fun r bs h=>⟨_,by subst h;exact qD (urX (f:=cosF d2 100) (L:=[34,33,33]) co2.2 (fun i hi=>by
  have hi:i<3:=hi
  rcases(show i=0∨i=1∨i=2 by omega)with e|e|e<;>subst e<;>(first|exact cos2.1|exact cos2.2.1|exact cos2.2.2))) (qD (qE co2.1) qB),rfl⟩
theorem uw1 :ua0 Tryz.prog 15 [(iS ([1])),(iS ([1]))] [] (fun r _=>r=(.bool (.lit true))):=
 (uen 1 1 (fun n=>([1]).getD n 0) (fun n=>([1]).getD n 0) (by decide) (by decide)).post fun r bs h=>⟨_,by subst h;(repeat' (first|exact qA|exact qB|refine qC ?_ rfl ?_|refine qD ?_ ?_|exact qE (by rfl)|exact qF (by rfl)|exact qE (by kernel_rfl)|exact qF (by kernel_rfl)|exact Fit.refl _|(exact qO (by rfl))|(first|(refine ua1 (by rfl) (fun ix h0 h1=> ?_);(have h2:ix.den<2:=h1);(have hx:ix.den.toNat=0∨ix.den.toNat=1:=by omega);(rcases hx with hx|hx<;>simp only [hx]))|(refine ua1 (by rfl) (fun ix h0 h1=> ?_);(have h2:ix.den<3:=h1);(have hx:ix.den.toNat=0∨ix.den.toNat=1∨ix.den.toNat=2:=by omega);(rcases hx with hx|hx|hx<;>simp only [hx]))|(refine ua1 (by rfl) (fun ix h0 h1=> ?_);(have h2:ix.den<4:=h1);(have hx:ix.den.toNat=0∨ix.den.toNat=1∨ix.den.toNat=2∨ix.den.toNat=3:=by omega);(rcases hx with hx|hx|hx|hx<;>simp only [hx]))|(refine ua1 (by rfl) (fun ix h0 h1=> ?_);(have h2:ix.den<1:=h1);(have hx:ix.den.toNat=0:=by omega);(rcases hx with hx<;>simp only [hx]))|(refine ua1 (by rfl) (fun ix h0 h1=> ?_);(have h2:ix.den<5:=h1);(have hx:ix.den.toNat=0∨ix.den.toNat=1∨ix.den.toNat=2∨ix.den.toNat=3∨ix.den.toNat=4:=by omega);(rcases hx with hx|hx|hx|hx|hx<;>simp only [hx]))))),rfl⟩
theorem uvH :ua0 Tryz.prog 15 [(iS ([0,100,0])),(iS ([0,100,0]))] [] (fun r _=>r=(.bool (.lit true))):=
 (uen 3 3 (fun n=>([0,100,0]).getD n 0) (fun n=>([0,100,0]).getD n 0) (by decide) (by decide)).post fun r bs h=>⟨_,by subst h;(repeat' (first|exact qA|exact qB|refine qC ?_ rfl ?_|refine qD ?_ ?_|exact qE (by rfl)|exact qF (by rfl)|exact qE (by kernel_rfl)|exact qF (by kernel_rfl)|exact Fit.refl _|(exact qO (by rfl))|(first|(refine ua1 (by rfl) (fun ix h0 h1=> ?_);(have h2:ix.den<2:=h1);(have hx:ix.den.toNat=0∨ix.den.toNat=1:=by omega);(rcases hx with hx|hx<;>simp only [hx]))|(refine ua1 (by rfl) (fun ix h0 h1=> ?_);(have h2:ix.den<3:=h1);(have hx:ix.den.toNat=0∨ix.den.toNat=1∨ix.den.toNat=2:=by omega);(rcases hx with hx|hx|hx<;>simp only [hx]))|(refine ua1 (by rfl) (fun ix h0 h1=> ?_);(have h2:ix.den<4:=h1);(have hx:ix.den.toNat=0∨ix.den.toNat=1∨ix.den.toNat=2∨ix.den.toNat=3:=by omega);(rcases hx with hx|hx|hx|hx<;>simp only [hx]))|(refine ua1 (by rfl) (fun ix h0 h1=> ?_);(have h2:ix.den<1:=h1);(have hx:ix.den.toNat=0:=by omega);(rcases hx with hx<;>simp only [hx]))|(refine ua1 (by rfl) (fun ix h0 h1=> ?_);(have h2:ix.den<5:=h1);(have hx:ix.den.toNat=0∨ix.den.toNat=1∨ix.den.toNat=2∨ix.den.toNat=3∨ix.den.toNat=4:=by omega);(rcases hx with hx|hx|hx|hx|hx<;>simp only [hx]))))),rfl⟩
theorem uvf :ua0 Tryz.prog 15 [(iS ([34,33,33])),(iS ([34,33,33]))] [] (fun r _=>r=(.bool (.lit true))):=
 (uen 3 3 (fun n=>([34,33,33]).getD n 0) (fun n=>([34,33,33]).getD n 0) (by decide) (by decide)).post fun r bs h=>⟨_,by subst h;(repeat' (first|exact qA|exact qB|refine qC ?_ rfl ?_|refine qD ?_ ?_|exact qE (by rfl)|exact qF (by rfl)|exact qE (by kernel_rfl)|exact qF (by kernel_rfl)|exact Fit.refl _|(exact qO (by rfl))|(first|(refine ua1 (by rfl) (fun ix h0 h1=> ?_);(have h2:ix.den<2:=h1);(have hx:ix.den.toNat=0∨ix.den.toNat=1:=by omega);(rcases hx with hx|hx<;>simp only [hx]))|(refine ua1 (by rfl) (fun ix h0 h1=> ?_);(have h2:ix.den<3:=h1);(have hx:ix.den.toNat=0∨ix.den.toNat=1∨ix.den.toNat=2:=by omega);(rcases hx with hx|hx|hx<;>simp only [hx]))|(refine ua1 (by rfl) (fun ix h0 h1=> ?_);(have h2:ix.den<4:=h1);(have hx:ix.den.toNat=0∨ix.den.toNat=1∨ix.den.toNat=2∨ix.den.toNat=3:=by omega);(rcases hx with hx|hx|hx|hx<;>simp only [hx]))|(refine ua1 (by rfl) (fun ix h0 h1=> ?_);(have h2:ix.den<1:=h1);(have hx:ix.den.toNat=0:=by omega);(rcases hx with hx<;>simp only [hx]))|(refine ua1 (by rfl) (fun ix h0 h1=> ?_);(have h2:ix.den<5:=h1);(have hx:ix.den.toNat=0∨ix.den.toNat=1∨ix.den.toNat=2∨ix.den.toNat=3∨ix.den.toNat=4:=by omega);(rcases hx with hx|hx|hx|hx|hx<;>simp only [hx]))))),rfl⟩
set_option maxHeartbeats 1000000 in
theorem ufr :ua0 Tryz.prog 10 [] [] (fun r _=>r=(.bool (.lit true))):=by
 have k37:=uus
 have k39:=uwP
 have kmeanX:=uwW
 have kfirstX:=uv3
 have kleaveX:=uuY
 have kbelieveX:=uqn
 have kblameX:=uvl
 have kboundsX:=utd
 have kchargeX:=ut8
 have kcosts3X:=uuB
 have kcosts2X:=utv
 have kintsXa:=uw1
 have kintsXb:=uvH
 have kintsXc:=uvf
 have c40:= @ugC
 have h33:=uv9
 refine ua0.is fun R hR=>qW (sc:=sc10) tyok mix Tryz.func10 rfl Tryz.call10 (by kernel_rfl) (by kernel_rfl) ?_
 generalize Tryz.prog=P at k37 k39 kmeanX kfirstX kleaveX kbelieveX kblameX kboundsX kchargeX kcosts3X kcosts2X kintsXa kintsXb kintsXc c40 h33⊢
 cbv
 repeat' (first
  |with_reducible refine hold ?_ ?_
  |with_reducible refine And.intro ?_ ?_
  |(with_reducible intro hcd;(try simp only [zA,zB,zC,zD,zE,zF,zG,zH,zI,zJ,zK,zL,zM,zN,zO,zP]at hcd);try cbv)
  | (refine qP ?_ (c40 _ _) (by(repeat' (first|exact qB|refine qD ?_ ?_|exact qE (by rfl)|exact qF (by rfl)|exact Fit.refl _|exact qA|refine qC ?_ rfl ?_)))
     try cbv)
  | (refine qP ?_ (k37) ?hfit
     case hfit=>((repeat' (first|exact qA|exact qB|refine qC ?_ rfl ?_|refine qD ?_ ?_|exact qE (by rfl)|exact qF (by rfl)|exact Fit.refl _|(exact qO (by rfl))|(first|(refine ua1 (by rfl) (fun ix h0 h1=> ?_);(have h2:ix.den<2:=h1);(have hx:ix.den.toNat=0∨ix.den.toNat=1:=by omega);(rcases hx with hx|hx<;>simp only [hx]))|(refine ua1 (by rfl) (fun ix h0 h1=> ?_);(have h2:ix.den<3:=h1);(have hx:ix.den.toNat=0∨ix.den.toNat=1∨ix.den.toNat=2:=by omega);(rcases hx with hx|hx|hx<;>simp only [hx]))|(refine ua1 (by rfl) (fun ix h0 h1=> ?_);(have h2:ix.den<4:=h1);(have hx:ix.den.toNat=0∨ix.den.toNat=1∨ix.den.toNat=2∨ix.den.toNat=3:=by omega);(rcases hx with hx|hx|hx|hx<;>simp only [hx]))|(refine ua1 (by rfl) (fun ix h0 h1=> ?_);(have h2:ix.den<1:=h1);(have hx:ix.den.toNat=0:=by omega);(rcases hx with hx<;>simp only [hx]))|(refine ua1 (by rfl) (fun ix h0 h1=> ?_);(have h2:ix.den<5:=h1);(have hx:ix.den.toNat=0∨ix.den.toNat=1∨ix.den.toNat=2∨ix.den.toNat=3∨ix.den.toNat=4:=by omega);(rcases hx with hx|hx|hx|hx|hx<;>simp only [hx])))));done)
     try cbv)
  | (refine qP ?_ (k39) ?hfit
     case hfit=>((repeat' (first|exact qA|exact qB|refine qC ?_ rfl ?_|refine qD ?_ ?_|exact qE (by rfl)|exact qF (by rfl)|exact Fit.refl _|(exact qO (by rfl))|(first|(refine ua1 (by rfl) (fun ix h0 h1=> ?_);(have h2:ix.den<2:=h1);(have hx:ix.den.toNat=0∨ix.den.toNat=1:=by omega);(rcases hx with hx|hx<;>simp only [hx]))|(refine ua1 (by rfl) (fun ix h0 h1=> ?_);(have h2:ix.den<3:=h1);(have hx:ix.den.toNat=0∨ix.den.toNat=1∨ix.den.toNat=2:=by omega);(rcases hx with hx|hx|hx<;>simp only [hx]))|(refine ua1 (by rfl) (fun ix h0 h1=> ?_);(have h2:ix.den<4:=h1);(have hx:ix.den.toNat=0∨ix.den.toNat=1∨ix.den.toNat=2∨ix.den.toNat=3:=by omega);(rcases hx with hx|hx|hx|hx<;>simp only [hx]))|(refine ua1 (by rfl) (fun ix h0 h1=> ?_);(have h2:ix.den<1:=h1);(have hx:ix.den.toNat=0:=by omega);(rcases hx with hx<;>simp only [hx]))|(refine ua1 (by rfl) (fun ix h0 h1=> ?_);(have h2:ix.den<5:=h1);(have hx:ix.den.toNat=0∨ix.den.toNat=1∨ix.den.toNat=2∨ix.den.toNat=3∨ix.den.toNat=4:=by omega);(rcases hx with hx|hx|hx|hx|hx<;>simp only [hx])))));done)
     try cbv)
  | (refine qP ?_ (kmeanX) ?hfit
     case hfit=>((repeat' (first|exact qA|exact qB|refine qC ?_ rfl ?_|refine qD ?_ ?_|exact qE (by rfl)|exact qF (by rfl)|exact Fit.refl _|(exact qO (by rfl))|(first|(refine ua1 (by rfl) (fun ix h0 h1=> ?_);(have h2:ix.den<2:=h1);(have hx:ix.den.toNat=0∨ix.den.toNat=1:=by omega);(rcases hx with hx|hx<;>simp only [hx]))|(refine ua1 (by rfl) (fun ix h0 h1=> ?_);(have h2:ix.den<3:=h1);(have hx:ix.den.toNat=0∨ix.den.toNat=1∨ix.den.toNat=2:=by omega);(rcases hx with hx|hx|hx<;>simp only [hx]))|(refine ua1 (by rfl) (fun ix h0 h1=> ?_);(have h2:ix.den<4:=h1);(have hx:ix.den.toNat=0∨ix.den.toNat=1∨ix.den.toNat=2∨ix.den.toNat=3:=by omega);(rcases hx with hx|hx|hx|hx<;>simp only [hx]))|(refine ua1 (by rfl) (fun ix h0 h1=> ?_);(have h2:ix.den<1:=h1);(have hx:ix.den.toNat=0:=by omega);(rcases hx with hx<;>simp only [hx]))|(refine ua1 (by rfl) (fun ix h0 h1=> ?_);(have h2:ix.den<5:=h1);(have hx:ix.den.toNat=0∨ix.den.toNat=1∨ix.den.toNat=2∨ix.den.toNat=3∨ix.den.toNat=4:=by omega);(rcases hx with hx|hx|hx|hx|hx<;>simp only [hx])))));done)
     try cbv)
  | (refine qP ?_ (kfirstX) ?hfit
     case hfit=>((repeat' (first|exact qA|exact qB|refine qC ?_ rfl ?_|refine qD ?_ ?_|exact qE (by rfl)|exact qF (by rfl)|exact Fit.refl _|(exact qO (by rfl))|(first|(refine ua1 (by rfl) (fun ix h0 h1=> ?_);(have h2:ix.den<2:=h1);(have hx:ix.den.toNat=0∨ix.den.toNat=1:=by omega);(rcases hx with hx|hx<;>simp only [hx]))|(refine ua1 (by rfl) (fun ix h0 h1=> ?_);(have h2:ix.den<3:=h1);(have hx:ix.den.toNat=0∨ix.den.toNat=1∨ix.den.toNat=2:=by omega);(rcases hx with hx|hx|hx<;>simp only [hx]))|(refine ua1 (by rfl) (fun ix h0 h1=> ?_);(have h2:ix.den<4:=h1);(have hx:ix.den.toNat=0∨ix.den.toNat=1∨ix.den.toNat=2∨ix.den.toNat=3:=by omega);(rcases hx with hx|hx|hx|hx<;>simp only [hx]))|(refine ua1 (by rfl) (fun ix h0 h1=> ?_);(have h2:ix.den<1:=h1);(have hx:ix.den.toNat=0:=by omega);(rcases hx with hx<;>simp only [hx]))|(refine ua1 (by rfl) (fun ix h0 h1=> ?_);(have h2:ix.den<5:=h1);(have hx:ix.den.toNat=0∨ix.den.toNat=1∨ix.den.toNat=2∨ix.den.toNat=3∨ix.den.toNat=4:=by omega);(rcases hx with hx|hx|hx|hx|hx<;>simp only [hx])))));done)
     try cbv)
  | (refine qP ?_ (kleaveX) ?hfit
     case hfit=>((repeat' (first|exact qA|exact qB|refine qC ?_ rfl ?_|refine qD ?_ ?_|exact qE (by rfl)|exact qF (by rfl)|exact Fit.refl _|(exact qO (by rfl))|(first|(refine ua1 (by rfl) (fun ix h0 h1=> ?_);(have h2:ix.den<2:=h1);(have hx:ix.den.toNat=0∨ix.den.toNat=1:=by omega);(rcases hx with hx|hx<;>simp only [hx]))|(refine ua1 (by rfl) (fun ix h0 h1=> ?_);(have h2:ix.den<3:=h1);(have hx:ix.den.toNat=0∨ix.den.toNat=1∨ix.den.toNat=2:=by omega);(rcases hx with hx|hx|hx<;>simp only [hx]))|(refine ua1 (by rfl) (fun ix h0 h1=> ?_);(have h2:ix.den<4:=h1);(have hx:ix.den.toNat=0∨ix.den.toNat=1∨ix.den.toNat=2∨ix.den.toNat=3:=by omega);(rcases hx with hx|hx|hx|hx<;>simp only [hx]))|(refine ua1 (by rfl) (fun ix h0 h1=> ?_);(have h2:ix.den<1:=h1);(have hx:ix.den.toNat=0:=by omega);(rcases hx with hx<;>simp only [hx]))|(refine ua1 (by rfl) (fun ix h0 h1=> ?_);(have h2:ix.den<5:=h1);(have hx:ix.den.toNat=0∨ix.den.toNat=1∨ix.den.toNat=2∨ix.den.toNat=3∨ix.den.toNat=4:=by omega);(rcases hx with hx|hx|hx|hx|hx<;>simp only [hx])))));done)
     try cbv)
  | (refine qP ?_ (kbelieveX) ?hfit
     case hfit=>((repeat' (first|exact qA|exact qB|refine qC ?_ rfl ?_|refine qD ?_ ?_|exact qE (by rfl)|exact qF (by rfl)|exact Fit.refl _|(exact qO (by rfl))|(first|(refine ua1 (by rfl) (fun ix h0 h1=> ?_);(have h2:ix.den<2:=h1);(have hx:ix.den.toNat=0∨ix.den.toNat=1:=by omega);(rcases hx with hx|hx<;>simp only [hx]))|(refine ua1 (by rfl) (fun ix h0 h1=> ?_);(have h2:ix.den<3:=h1);(have hx:ix.den.toNat=0∨ix.den.toNat=1∨ix.den.toNat=2:=by omega);(rcases hx with hx|hx|hx<;>simp only [hx]))|(refine ua1 (by rfl) (fun ix h0 h1=> ?_);(have h2:ix.den<4:=h1);(have hx:ix.den.toNat=0∨ix.den.toNat=1∨ix.den.toNat=2∨ix.den.toNat=3:=by omega);(rcases hx with hx|hx|hx|hx<;>simp only [hx]))|(refine ua1 (by rfl) (fun ix h0 h1=> ?_);(have h2:ix.den<1:=h1);(have hx:ix.den.toNat=0:=by omega);(rcases hx with hx<;>simp only [hx]))|(refine ua1 (by rfl) (fun ix h0 h1=> ?_);(have h2:ix.den<5:=h1);(have hx:ix.den.toNat=0∨ix.den.toNat=1∨ix.den.toNat=2∨ix.den.toNat=3∨ix.den.toNat=4:=by omega);(rcases hx with hx|hx|hx|hx|hx<;>simp only [hx])))));done)
     try cbv)
  | (refine qP ?_ (kblameX) ?hfit
     case hfit=>((repeat' (first|exact qA|exact qB|refine qC ?_ rfl ?_|refine qD ?_ ?_|exact qE (by rfl)|exact qF (by rfl)|exact Fit.refl _|(exact qO (by rfl))|(first|(refine ua1 (by rfl) (fun ix h0 h1=> ?_);(have h2:ix.den<2:=h1);(have hx:ix.den.toNat=0∨ix.den.toNat=1:=by omega);(rcases hx with hx|hx<;>simp only [hx]))|(refine ua1 (by rfl) (fun ix h0 h1=> ?_);(have h2:ix.den<3:=h1);(have hx:ix.den.toNat=0∨ix.den.toNat=1∨ix.den.toNat=2:=by omega);(rcases hx with hx|hx|hx<;>simp only [hx]))|(refine ua1 (by rfl) (fun ix h0 h1=> ?_);(have h2:ix.den<4:=h1);(have hx:ix.den.toNat=0∨ix.den.toNat=1∨ix.den.toNat=2∨ix.den.toNat=3:=by omega);(rcases hx with hx|hx|hx|hx<;>simp only [hx]))|(refine ua1 (by rfl) (fun ix h0 h1=> ?_);(have h2:ix.den<1:=h1);(have hx:ix.den.toNat=0:=by omega);(rcases hx with hx<;>simp only [hx]))|(refine ua1 (by rfl) (fun ix h0 h1=> ?_);(have h2:ix.den<5:=h1);(have hx:ix.den.toNat=0∨ix.den.toNat=1∨ix.den.toNat=2∨ix.den.toNat=3∨ix.den.toNat=4:=by omega);(rcases hx with hx|hx|hx|hx|hx<;>simp only [hx])))));done)
     try cbv)
  | (refine qP ?_ (kboundsX) ?hfit
     case hfit=>((repeat' (first|exact qA|exact qB|refine qC ?_ rfl ?_|refine qD ?_ ?_|exact qE (by rfl)|exact qF (by rfl)|exact Fit.refl _|(exact qO (by rfl))|(first|(refine ua1 (by rfl) (fun ix h0 h1=> ?_);(have h2:ix.den<2:=h1);(have hx:ix.den.toNat=0∨ix.den.toNat=1:=by omega);(rcases hx with hx|hx<;>simp only [hx]))|(refine ua1 (by rfl) (fun ix h0 h1=> ?_);(have h2:ix.den<3:=h1);(have hx:ix.den.toNat=0∨ix.den.toNat=1∨ix.den.toNat=2:=by omega);(rcases hx with hx|hx|hx<;>simp only [hx]))|(refine ua1 (by rfl) (fun ix h0 h1=> ?_);(have h2:ix.den<4:=h1);(have hx:ix.den.toNat=0∨ix.den.toNat=1∨ix.den.toNat=2∨ix.den.toNat=3:=by omega);(rcases hx with hx|hx|hx|hx<;>simp only [hx]))|(refine ua1 (by rfl) (fun ix h0 h1=> ?_);(have h2:ix.den<1:=h1);(have hx:ix.den.toNat=0:=by omega);(rcases hx with hx<;>simp only [hx]))|(refine ua1 (by rfl) (fun ix h0 h1=> ?_);(have h2:ix.den<5:=h1);(have hx:ix.den.toNat=0∨ix.den.toNat=1∨ix.den.toNat=2∨ix.den.toNat=3∨ix.den.toNat=4:=by omega);(rcases hx with hx|hx|hx|hx|hx<;>simp only [hx])))));done)
     try cbv)
  | (refine qP ?_ (kchargeX) ?hfit
     case hfit=>((repeat' (first|exact qA|exact qB|refine qC ?_ rfl ?_|refine qD ?_ ?_|exact qE (by rfl)|exact qF (by rfl)|exact Fit.refl _|(exact qO (by rfl))|(first|(refine ua1 (by rfl) (fun ix h0 h1=> ?_);(have h2:ix.den<2:=h1);(have hx:ix.den.toNat=0∨ix.den.toNat=1:=by omega);(rcases hx with hx|hx<;>simp only [hx]))|(refine ua1 (by rfl) (fun ix h0 h1=> ?_);(have h2:ix.den<3:=h1);(have hx:ix.den.toNat=0∨ix.den.toNat=1∨ix.den.toNat=2:=by omega);(rcases hx with hx|hx|hx<;>simp only [hx]))|(refine ua1 (by rfl) (fun ix h0 h1=> ?_);(have h2:ix.den<4:=h1);(have hx:ix.den.toNat=0∨ix.den.toNat=1∨ix.den.toNat=2∨ix.den.toNat=3:=by omega);(rcases hx with hx|hx|hx|hx<;>simp only [hx]))|(refine ua1 (by rfl) (fun ix h0 h1=> ?_);(have h2:ix.den<1:=h1);(have hx:ix.den.toNat=0:=by omega);(rcases hx with hx<;>simp only [hx]))|(refine ua1 (by rfl) (fun ix h0 h1=> ?_);(have h2:ix.den<5:=h1);(have hx:ix.den.toNat=0∨ix.den.toNat=1∨ix.den.toNat=2∨ix.den.toNat=3∨ix.den.toNat=4:=by omega);(rcases hx with hx|hx|hx|hx|hx<;>simp only [hx])))));done)
     try cbv)
  | (refine qP ?_ (kcosts3X) ?hfit
     case hfit=>((repeat' (first|exact qA|exact qB|refine qC ?_ rfl ?_|refine qD ?_ ?_|exact qE (by rfl)|exact qF (by rfl)|exact Fit.refl _|(exact qO (by rfl))|(first|(refine ua1 (by rfl) (fun ix h0 h1=> ?_);(have h2:ix.den<2:=h1);(have hx:ix.den.toNat=0∨ix.den.toNat=1:=by omega);(rcases hx with hx|hx<;>simp only [hx]))|(refine ua1 (by rfl) (fun ix h0 h1=> ?_);(have h2:ix.den<3:=h1);(have hx:ix.den.toNat=0∨ix.den.toNat=1∨ix.den.toNat=2:=by omega);(rcases hx with hx|hx|hx<;>simp only [hx]))|(refine ua1 (by rfl) (fun ix h0 h1=> ?_);(have h2:ix.den<4:=h1);(have hx:ix.den.toNat=0∨ix.den.toNat=1∨ix.den.toNat=2∨ix.den.toNat=3:=by omega);(rcases hx with hx|hx|hx|hx<;>simp only [hx]))|(refine ua1 (by rfl) (fun ix h0 h1=> ?_);(have h2:ix.den<1:=h1);(have hx:ix.den.toNat=0:=by omega);(rcases hx with hx<;>simp only [hx]))|(refine ua1 (by rfl) (fun ix h0 h1=> ?_);(have h2:ix.den<5:=h1);(have hx:ix.den.toNat=0∨ix.den.toNat=1∨ix.den.toNat=2∨ix.den.toNat=3∨ix.den.toNat=4:=by omega);(rcases hx with hx|hx|hx|hx|hx<;>simp only [hx])))));done)
     try cbv)
  | (refine qP ?_ (kcosts2X) ?hfit
     case hfit=>((repeat' (first|exact qA|exact qB|refine qC ?_ rfl ?_|refine qD ?_ ?_|exact qE (by rfl)|exact qF (by rfl)|exact Fit.refl _|(exact qO (by rfl))|(first|(refine ua1 (by rfl) (fun ix h0 h1=> ?_);(have h2:ix.den<2:=h1);(have hx:ix.den.toNat=0∨ix.den.toNat=1:=by omega);(rcases hx with hx|hx<;>simp only [hx]))|(refine ua1 (by rfl) (fun ix h0 h1=> ?_);(have h2:ix.den<3:=h1);(have hx:ix.den.toNat=0∨ix.den.toNat=1∨ix.den.toNat=2:=by omega);(rcases hx with hx|hx|hx<;>simp only [hx]))|(refine ua1 (by rfl) (fun ix h0 h1=> ?_);(have h2:ix.den<4:=h1);(have hx:ix.den.toNat=0∨ix.den.toNat=1∨ix.den.toNat=2∨ix.den.toNat=3:=by omega);(rcases hx with hx|hx|hx|hx<;>simp only [hx]))|(refine ua1 (by rfl) (fun ix h0 h1=> ?_);(have h2:ix.den<1:=h1);(have hx:ix.den.toNat=0:=by omega);(rcases hx with hx<;>simp only [hx]))|(refine ua1 (by rfl) (fun ix h0 h1=> ?_);(have h2:ix.den<5:=h1);(have hx:ix.den.toNat=0∨ix.den.toNat=1∨ix.den.toNat=2∨ix.den.toNat=3∨ix.den.toNat=4:=by omega);(rcases hx with hx|hx|hx|hx|hx<;>simp only [hx])))));done)
     try cbv)
  | (refine qP ?_ (kintsXb) ?hfit
     case hfit=>((repeat' (first|exact qA|exact qB|refine qC ?_ rfl ?_|refine qD ?_ ?_|exact qE (by rfl)|exact qF (by rfl)|exact Fit.refl _|(exact qO (by rfl))|(first|(refine ua1 (by rfl) (fun ix h0 h1=> ?_);(have h2:ix.den<2:=h1);(have hx:ix.den.toNat=0∨ix.den.toNat=1:=by omega);(rcases hx with hx|hx<;>simp only [hx]))|(refine ua1 (by rfl) (fun ix h0 h1=> ?_);(have h2:ix.den<3:=h1);(have hx:ix.den.toNat=0∨ix.den.toNat=1∨ix.den.toNat=2:=by omega);(rcases hx with hx|hx|hx<;>simp only [hx]))|(refine ua1 (by rfl) (fun ix h0 h1=> ?_);(have h2:ix.den<4:=h1);(have hx:ix.den.toNat=0∨ix.den.toNat=1∨ix.den.toNat=2∨ix.den.toNat=3:=by omega);(rcases hx with hx|hx|hx|hx<;>simp only [hx]))|(refine ua1 (by rfl) (fun ix h0 h1=> ?_);(have h2:ix.den<1:=h1);(have hx:ix.den.toNat=0:=by omega);(rcases hx with hx<;>simp only [hx]))|(refine ua1 (by rfl) (fun ix h0 h1=> ?_);(have h2:ix.den<5:=h1);(have hx:ix.den.toNat=0∨ix.den.toNat=1∨ix.den.toNat=2∨ix.den.toNat=3∨ix.den.toNat=4:=by omega);(rcases hx with hx|hx|hx|hx|hx<;>simp only [hx])))));done)
     try cbv)
  | (refine qP ?_ (kintsXc) ?hfit
     case hfit=>((repeat' (first|exact qA|exact qB|refine qC ?_ rfl ?_|refine qD ?_ ?_|exact qE (by rfl)|exact qF (by rfl)|exact Fit.refl _|(exact qO (by rfl))|(first|(refine ua1 (by rfl) (fun ix h0 h1=> ?_);(have h2:ix.den<2:=h1);(have hx:ix.den.toNat=0∨ix.den.toNat=1:=by omega);(rcases hx with hx|hx<;>simp only [hx]))|(refine ua1 (by rfl) (fun ix h0 h1=> ?_);(have h2:ix.den<3:=h1);(have hx:ix.den.toNat=0∨ix.den.toNat=1∨ix.den.toNat=2:=by omega);(rcases hx with hx|hx|hx<;>simp only [hx]))|(refine ua1 (by rfl) (fun ix h0 h1=> ?_);(have h2:ix.den<4:=h1);(have hx:ix.den.toNat=0∨ix.den.toNat=1∨ix.den.toNat=2∨ix.den.toNat=3:=by omega);(rcases hx with hx|hx|hx|hx<;>simp only [hx]))|(refine ua1 (by rfl) (fun ix h0 h1=> ?_);(have h2:ix.den<1:=h1);(have hx:ix.den.toNat=0:=by omega);(rcases hx with hx<;>simp only [hx]))|(refine ua1 (by rfl) (fun ix h0 h1=> ?_);(have h2:ix.den<5:=h1);(have hx:ix.den.toNat=0∨ix.den.toNat=1∨ix.den.toNat=2∨ix.den.toNat=3∨ix.den.toNat=4:=by omega);(rcases hx with hx|hx|hx|hx|hx<;>simp only [hx])))));done)
     try cbv)
  | (refine⟨none,?_⟩
     refine qR ?_ (kintsXa) rfl ?hfit
     case hfit=>(cbv;(repeat' (first|exact qA|exact qB|refine qC ?_ rfl ?_|refine qD ?_ ?_|exact qE (by rfl)|exact qF (by rfl)|exact Fit.refl _|(exact qO (by rfl))|(first|(refine ua1 (by rfl) (fun ix h0 h1=> ?_);(have h2:ix.den<2:=h1);(have hx:ix.den.toNat=0∨ix.den.toNat=1:=by omega);(rcases hx with hx|hx<;>simp only [hx]))|(refine ua1 (by rfl) (fun ix h0 h1=> ?_);(have h2:ix.den<3:=h1);(have hx:ix.den.toNat=0∨ix.den.toNat=1∨ix.den.toNat=2:=by omega);(rcases hx with hx|hx|hx<;>simp only [hx]))|(refine ua1 (by rfl) (fun ix h0 h1=> ?_);(have h2:ix.den<4:=h1);(have hx:ix.den.toNat=0∨ix.den.toNat=1∨ix.den.toNat=2∨ix.den.toNat=3:=by omega);(rcases hx with hx|hx|hx|hx<;>simp only [hx]))|(refine ua1 (by rfl) (fun ix h0 h1=> ?_);(have h2:ix.den<1:=h1);(have hx:ix.den.toNat=0:=by omega);(rcases hx with hx<;>simp only [hx]))|(refine ua1 (by rfl) (fun ix h0 h1=> ?_);(have h2:ix.den<5:=h1);(have hx:ix.den.toNat=0∨ix.den.toNat=1∨ix.den.toNat=2∨ix.den.toNat=3∨ix.den.toNat=4:=by omega);(rcases hx with hx|hx|hx|hx|hx<;>simp only [hx])))));done)
     try cbv)
  |fail)
 all_goals first
  |trivial
  |(subst hR;(repeat' (first|exact qA|exact qB|refine qC ?_ rfl ?_|refine qD ?_ ?_|exact qE (by rfl)|exact qF (by rfl)|exact Fit.refl _|exact qG _|(refine qE ?_;(try simp only [qV]at *);simp only [zQ,zA,zB,zC,zD,zE,zF,zG,zH,zI,zJ,zK,zL,zM,zN,zO,zP,zR,zS]at *;omega)));done)
  |skip
end Go.Proofs.YtkdggbfknlcdaaaGreat
namespace Go.Proofs.YtkdggbfknlcdaaaGreat
open Go Go.Eng Go.Proofs
set_option maxRecDepth 10000
theorem utV (tw tm:List Int)(tv:List (List Int))(hT:ThinT tw tm tv):ua0 Tryz.prog 43 [(.agg [(iS tw),(iS tm),(.sl 1 (.sym fun _=>zi (tv).length) (fun ix=>[(.sl 1 (.sym fun _=>zi ((tv).getD ix.den.toNat []).length) (fun jx=>[(iv fun _=>((tv).getD ix.den.toNat []).getD jx.den.toNat 0)]))]))])] [] (fun r _=>r=(.agg [(iS tw),(iS tm),(.sl 1 (.sym fun _=>zi (tv).length) (fun ix=>[(.sl 1 (.sym fun _=>zi ((tv).getD ix.den.toNat []).length) (fun jx=>[(iv fun _=>((tv).getD ix.den.toNat []).getD jx.den.toNat 0)]))]))])):=by
 have c87w:=upr tw (by have:=hT.w;omega)
 have c87m:=upr tm (by have:=hT.m;omega)
 have c87r:=fun (i:Nat) (hi:i<tv.length)=>upr (tv.getD i []) (by have:=hT.r i hi;omega)
 refine ua0.is fun R hR=>qW (sc:=sc43) tyok mix Tryz.func43 rfl Tryz.call43 (by kernel_rfl) (by kernel_rfl) ?_
 generalize Tryz.prog=P at c87w c87m c87r⊢
 cbv
 repeat' (first
  | (refine qP ?_ (c87w) ?hfit
     case hfit=>((repeat' (first|exact qB|refine qD ?_ ?_|exact qE (by rfl)|exact qF (by rfl)|exact Fit.refl _|exact qA|refine qC ?_ rfl ?_));done)
     try cbv)
  | (refine qP ?_ (c87m) ?hfit
     case hfit=>((repeat' (first|exact qB|refine qD ?_ ?_|exact qE (by rfl)|exact qF (by rfl)|exact Fit.refl _|exact qA|refine qC ?_ rfl ?_));done)
     try cbv)
  |fail)
 all_goals first
  |skip
 refine⟨none,[⟨.cell 9 2,22,1⟩],{i:Nat // i≤tv.length},fun x=>⟨[(1,.own 0 0),(2,.own 1 0),(3,.own 9 0),(4,(iv fun _=>zi x.1))],[(0,.cells [(iS tw),(iS tm),(.sl 1 (.sym fun _=>zi (tv).length) (fun ix=>[(.sl 1 (.sym fun _=>zi ((tv).getD ix.den.toNat []).length) (fun jx=>[(iv fun _=>((tv).getD ix.den.toNat []).getD jx.den.toNat 0)]))]))] 25),(1,.cells [.val (.slice none 0 0),.val (.slice none 0 0),.val (.slice none 0 0)] 35),(9,.cells [(iS tw),(iS tm),.row 12] 35),(12,.row 22 1 (.sym fun _=>zi x.1) (fun ix=>[(.sl 1 (.sym fun _=>zi (tv.getD ix.den.toNat []).length) (fun jx=>[(iv fun _=>(tv.getD ix.den.toNat []).getD jx.den.toNat 0)]))]))],60⟩,fun x=>tv.length-x.1,?_,?_⟩
 ·refine⟨⟨0,by omega⟩,?_⟩
  cbv
  repeat' (first
   |with_reducible refine hold ?_ ?_
   |with_reducible refine And.intro ?_ ?_)
  all_goals first
   |trivial
   |exact qM (qE (by rfl))
   |exact qM (Fit.refl _)
   |exact qL (qK _)
   |(refine qL (ua8 ?_ ?_);(first|rfl|((try simp only [qV]at *);(try simp only [zQ,zA,zB,zC,zD,zE,zF,zG,zH,zI,zJ,zK,zL,zM,zN,zO,zP,zR,zS]at *);omega));intro ix h0 h1;first|exact Fit.refl _|(exfalso;(try simp only [qV]at *);(try simp only [zQ,zA,zB,zC,zD,zE,zF,zG,zH,zI,zJ,zK,zL,zM,zN,zO,zP,zR,zS]at *);omega))
   |skip
 ·rintro ⟨i,hi⟩
  cbv
  have tv8:=hT.v
  repeat' (first
   |with_reducible refine hold ?_ ?_
   |with_reducible refine And.intro ?_ ?_
   |(with_reducible intro hcd;(try simp only [zA,zB,zC,zD,zE,zF,zG,zH,zI,zJ,zK,zL,zM,zN,zO,zP]at hcd);try cbv)
   | (refine qP ?_ (c87r i (show Hold _ from ?_)) ?hfit
      case hfit=>((repeat' (first|exact qB|refine qD ?_ ?_|exact qE (by rfl)|exact qF (by rfl)|exact Fit.refl _|exact qA|refine qC ?_ rfl ?_));done)
      try cbv)
   | (refine⟨fun ix=>[(.sl 1 (.sym fun _=>zi (tv.getD ix.den.toNat []).length) (fun jx=>[(iv fun _=>(tv.getD ix.den.toNat []).getD jx.den.toNat 0)]))],?_⟩
      cbv
      refine hold (ubt (by intro ix jx h0 h1 h2;simp only [h2];exact Fit.refl _) (by intro ix jx h0 h1 h2;(have h3:jx.den.toNat=i:=by((try simp only [qV]at *);(try simp only [zQ,zA,zB,zC,zD,zE,zF,zG,zH,zI,zJ,zK,zL,zM,zN,zO,zP,zR,zS]at *);omega));simp only [h3];(first|exact Fit.refl _|(repeat' (first|exact qA|exact Fit.refl _|exact qE (by rfl)|refine qC ?_ rfl ?_)))) (by(try simp only [qV]at *);(try simp only [zQ,zA,zB,zC,zD,zE,zF,zG,zH,zI,zJ,zK,zL,zM,zN,zO,zP,zR,zS]at *);omega)) (Or.inl ?_)
      try cbv)
   |fail)
  all_goals first
   |((try simp only [qV]at *);(try simp only [zQ,zA,zB,zC,zD,zE,zF,zG,zH,zI,zJ,zK,zL,zM,zN,zO,zP,zR,zS]at *);first|(refine qN ?_;omega)|(simp only [Hold];omega))
   |(subst hR;(have hie:i=tv.length:=by((try simp only [qV]at *);(try simp only [zQ,zA,zB,zC,zD,zE,zF,zG,zH,zI,zJ,zK,zL,zM,zN,zO,zP,zR,zS]at *);omega));subst hie;(repeat' (first|exact qA|exact Fit.refl _|exact qE (by rfl)|refine qC ?_ rfl ?_));done;done)
   |((try simp only [zQ,zA,zB,zC,zD,zE,zF,zG,zH,zI,zJ,zK,zL,zM,zN,zO,zP,zR,zS]at *);refine⟨⟨i+1,by omega⟩,by simp only [];omega,?_⟩;cbv;(repeat' (first|with_reducible refine hold ?_ ?_|with_reducible refine And.intro ?_ ?_));(all_goals first|trivial|exact qM (qE (by rfl))|exact qM (qF (by rfl))|exact qM (Fit.refl _)|exact qL (qK _)|(refine qM (qE ?_);(try simp only [qV]at *);simp only [zQ,zA,zB,zC,zD,zE,zF,zG,zH,zI,zJ,zK,zL,zM,zN,zO,zP,zR,zS]at *;omega)|(refine qL (ua8 ?_ ?_);(first|rfl|((try simp only [qV]at *);(try simp only [zQ,zA,zB,zC,zD,zE,zF,zG,zH,zI,zJ,zK,zL,zM,zN,zO,zP,zR,zS]at *);omega));intro ix h0 h1;first|exact Fit.refl _|(exfalso;(try simp only [qV]at *);(try simp only [zQ,zA,zB,zC,zD,zE,zF,zG,zH,zI,zJ,zK,zL,zM,zN,zO,zP,zR,zS]at *);omega))|skip))
   |skip
theorem uoe {l:List Int} {most:Int}(h:ucb l most=true) {i j:Nat}(hij:i≤j)(hj:j<l.length):l.getD i 0≤l.getD j 0:=by
 by_cases e:i=j
 ·subst e;exact Int.le_refl _
 ·exact Int.le_of_lt (ug4 h (by omega) hj)
theorem uoX {n q:Int}(hq:0<q)(hn:0≤n):(2*n+q)/(2*q)=if q≤2*(n-n/q*q)then n/q+1 else n/q:=by
 have h1:=Int.emod_add_mul_ediv n q
 have h2:=Int.emod_nonneg n (show q≠0 by omega)
 have h3:=Int.emod_lt_of_pos n hq
 have e:n-n/q*q=n%q:=by rw [Int.mul_comm];omega
 rw [e]
 have key:∀k r:Int,n=q*k+r→0≤r→r<q→(2*n+q)/(2*q)=if q≤2*r then k+1 else k:=fun k r hk h0 hr=>by
  split
  ·rename_i hle
   have:2*n+q=(2*r-q)+(k+1)*(2*q):=by
    have h5:(k+1)*(2*q)=2*(q*k)+2*q:=by rw [Int.add_mul,Int.one_mul,Int.mul_left_comm,Int.mul_comm k q]
    omega
   rw [this,Int.add_mul_ediv_right _ _ (by omega),Int.ediv_eq_zero_of_lt (by omega) (by omega)]
   omega
  ·rename_i hle
   have:2*n+q=(2*r+q)+k*(2*q):=by
    have h5:k*(2*q)=2*(q*k):=by rw [Int.mul_left_comm,Int.mul_comm k q]
    omega
   rw [this,Int.add_mul_ediv_right _ _ (by omega),Int.ediv_eq_zero_of_lt (by omega) (by omega)]
   omega
 exact key (n/q) (n%q) (by omega) h2 h3
theorem IsB.unique {f:Int→Int→Int} {wl wh ml mh lo hi lo' hi':Int}(h:IsB f wl wh ml mh lo hi)(h':IsB f wl wh ml mh lo' hi'):lo=lo'∧hi=hi':=by
 obtain⟨w1,m1,a1,a2,a3,a4,a5⟩:=h.lo
 obtain⟨w2,m2,b1,b2,b3,b4,b5⟩:=h'.lo
 obtain⟨w3,m3,c1,c2,c3,c4,c5⟩:=h.hi
 obtain⟨w4,m4,d1,d2,d3,d4,d5⟩:=h'.hi
 have q1:=h.le w2 m2 b1 b2 b3 b4
 have q2:=h'.le w1 m1 a1 a2 a3 a4
 have q3:=h.le w4 m4 d1 d2 d3 d4
 have q4:=h'.le w3 m3 c1 c2 c3 c4
 omega
theorem ugn {l:List Int} {most n:Int}(hr:ucb l most=true) {i j:Nat}(hi:InCell l n i)(hj:InCell l n j):i=j:=by
 have key:∀{i j:Nat},InCell l n i→InCell l n j→¬i<j:=fun {i j} hi hj hlt=>by
  have h1:=hi.hi
  have h2:=hj.lt
  have h3:=hj.lo
  have:=uoe hr (i:=i+1) (j:=j) (by omega) (by omega)
  rcases h1 with h1|h1<;>omega
 have a:=key hi hj
 have b:=key hj hi
 omega
set_option maxHeartbeats 1000000 in
theorem at95 (tw tm:List Int)(tv:List (List Int))(w m:Int)(h:TOk tw tm tv∧Pt tw tm w m):ua0 Tryz.prog 69 [(.agg [(iS tw),(iS tm),(.sl 1 (.sym fun _=>zi (tv).length) (fun ix=>[(.sl 1 (.sym fun _=>zi ((tv).getD ix.den.toNat []).length) (fun jx=>[(iv fun _=>((tv).getD ix.den.toNat []).getD jx.den.toNat 0)]))]))]),(iv fun _=>w),(iv fun _=>m)] [] (fun r _=>r=(iv fun _=>atS tw tm tv w m)):=by
 obtain⟨h,hp⟩:=h
 have d1:=h.w5;have d2:=h.m5;have d3:=h.w2;have d4:=h.m2
 have e:=h.len
 have q0:=hp.w0;have q1:=hp.w1;have q2:=hp.m0;have q3:=hp.m1
 refine ua0.is fun R hR=>qW (sc:=sc69) tyok mix Tryz.func69 rfl Tryz.call69 (by kernel_rfl) (by kernel_rfl) ?_
 generalize Tryz.prog=P
 cbv
 repeat' (first
  |with_reducible refine hold ?_ ?_
  |(with_reducible intro hcd;(try simp only [uab,zA,zB,zC,zD,zE,zF,zG,zH,zI,zJ,zK,zL,zM,zN,zO,zP]at hcd);try cbv))
 all_goals first
  |((try simp only [uab,zA,zB,zC,zD,zE,zF,zG,zH,zI,zJ,zK,zL,zM,zN,zO,zP]at⊢);first|(refine qN ?_;omega)|(simp only [Hold];omega))
  |skip
 refine⟨none,[],{i:Nat // i+2≤tw.length∧(i+2=tw.length∨w<tw.getD (i+1) 0)},fun x=>⟨[(3,.own 0 0),(1,(iv fun _=>w)),(2,(iv fun _=>m)),(7,(iv fun _=>zi x.1)),(8,(iv fun _=>zi (tm.length-2)))],[(0,.cells [(iS tw),(iS tm),(.sl 1 (.sym fun _=>zi (tv).length) (fun ix=>[(.sl 1 (.sym fun _=>zi ((tv).getD ix.den.toNat []).length) (fun jx=>[(iv fun _=>((tv).getD ix.den.toNat []).getD jx.den.toNat 0)]))]))] 25)],12⟩,fun x=>x.1,?_,?_⟩
 ·obtain⟨i0,ei0⟩:∃i0,i0=tw.length-2:=⟨_,rfl⟩
  refine⟨⟨i0,by omega,by omega⟩,?_⟩
  cbv
  repeat' (first
   |with_reducible refine hold ?_ ?_
   |with_reducible refine And.intro ?_ ?_)
  all_goals first
   |trivial
   |exact qM (qE (by rfl))
   |exact qM (Fit.refl _)
   |exact qL (qK _)
   |(refine qM (qE ?_);simp only [uab,zA,zB,zC,zD,zE,zF,zG,zH,zI,zJ,zK,zL,zM,zN,zO,zP];omega)
   |skip
 ·rintro ⟨i, hi1,hi2⟩
  cbv
  have ei:(i:Int).toNat=i:=by omega
  repeat' (first
   |with_reducible refine hold ?_ ?_
   |with_reducible refine And.intro ?_ ?_
   |(with_reducible intro hcd;(try simp only [uab,zA,zB,zC,zD,zE,zF,zG,zH,zI,zJ,zK,zL,zM,zN,zO,zP,ei]at hcd);try cbv))
  all_goals first
   |((try simp only [uab,zA,zB,zC,zD,zE,zF,zG,zH,zI,zJ,zK,zL,zM,zN,zO,zP,ei]at⊢);first|(refine qN ?_;omega)|(simp only [Hold];omega))
   |(have ip:w<tw.getD i 0→0<i:=(fun q=>Nat.pos_of_ne_zero fun q2=>by rw [q2]at q;omega);obtain⟨i1,ei1⟩:∃i1,i1=i-1:=⟨_,rfl⟩;refine⟨⟨i1,by have:=ip (by omega);refine⟨by omega,.inr ?_⟩;rw [show i1+1=i by omega];assumption⟩,by have:=ip (by omega);simp only [];omega,?_⟩;cbv;(repeat' (first|with_reducible refine hold ?_ ?_|with_reducible refine And.intro ?_ ?_));(all_goals first|trivial|exact qM (qE (by rfl))|exact qM (qF (by rfl))|exact qM (Fit.refl _)|exact qL (qK _)|(refine qM (qE ?_);simp only [uab,zA,zB,zC,zD,zE,zF,zG,zH,zI,zJ,zK,zL,zM,zN,zO,zP];omega)|(refine qM (qE ?_);simp only [uab,zA,zB,zC,zD,zE,zF,zG,zH,zI,zJ,zK,zL,zM,zN,zO,zP];have:=ip (by omega);omega)|skip))
   |skip
  have hi0:tw.getD i 0≤w:=by omega
  refine⟨none,[],{k:Nat // k+2≤tm.length∧(k+2=tm.length∨m<tm.getD (k+1) 0)},fun x=>⟨[(3,.own 0 0),(1,(iv fun _=>w)),(2,(iv fun _=>m)),(7,(iv fun _=>zi i)),(8,(iv fun _=>zi x.1))],[(0,.cells [(iS tw),(iS tm),(.sl 1 (.sym fun _=>zi (tv).length) (fun ix=>[(.sl 1 (.sym fun _=>zi ((tv).getD ix.den.toNat []).length) (fun jx=>[(iv fun _=>((tv).getD ix.den.toNat []).getD jx.den.toNat 0)]))]))] 25)],20⟩,fun x=>x.1,?_,?_⟩
  ·obtain⟨k0,ek0⟩:∃k0,k0=tm.length-2:=⟨_,rfl⟩
   refine⟨⟨k0,by omega,by omega⟩,?_⟩
   cbv
   repeat' (first
    |with_reducible refine hold ?_ ?_
    |with_reducible refine And.intro ?_ ?_)
   all_goals first
    |trivial
    |exact qM (qE (by rfl))
    |exact qM (Fit.refl _)
    |exact qL (qK _)
    |(refine qM (qE ?_);simp only [uab,zA,zB,zC,zD,zE,zF,zG,zH,zI,zJ,zK,zL,zM,zN,zO,zP];omega)
    |skip
  ·rintro ⟨k,hk1,hk2⟩
   cbv
   have ek:(k:Int).toNat=k:=by omega
   by_cases hx:m<tm.getD k 0
   ·skip
    repeat' (first
     |with_reducible refine hold ?_ ?_
     |with_reducible refine And.intro ?_ ?_
     | (with_reducible refine qS ?_ ?_ ?_
        try cbv)
     |(with_reducible intro hcd;(try simp only [uab,zA,zB,zC,zD,zE,zF,zG,zH,zI,zJ,zK,zL,zM,zN,zO,zP,ek]at hcd);try cbv))
    all_goals first
     |trivial
     |((try simp only [uab,zA,zB,zC,zD,zE,zF,zG,zH,zI,zJ,zK,zL,zM,zN,zO,zP,ek]at⊢);first|(refine qN ?_;omega)|(simp only [Hold];omega))
     |(have kp:m<tm.getD k 0→0<k:=(fun q=>Nat.pos_of_ne_zero fun q2=>by rw [q2]at q;omega);obtain⟨k1,ek1⟩:∃k1,k1=k-1:=⟨_,rfl⟩;refine⟨⟨k1,by have:=kp (by omega);refine⟨by omega,.inr ?_⟩;rw [show k1+1=k by omega];assumption⟩,by have:=kp (by omega);simp only [];omega,?_⟩;cbv;(repeat' (first|with_reducible refine hold ?_ ?_|with_reducible refine And.intro ?_ ?_));(all_goals first|trivial|exact qM (qE (by rfl))|exact qM (qF (by rfl))|exact qM (Fit.refl _)|exact qL (qK _)|(refine qM (qE ?_);simp only [uab,zA,zB,zC,zD,zE,zF,zG,zH,zI,zJ,zK,zL,zM,zN,zO,zP];omega)|(refine qM (qE ?_);simp only [uab,zA,zB,zC,zD,zE,zF,zG,zH,zI,zJ,zK,zL,zM,zN,zO,zP];have:=kp (by omega);omega)|skip))
     |skip
   ·skip
    have ei1:((i:Int)+1).toNat=i+1:=by omega
    have ek1:((k:Int)+1).toNat=k+1:=by omega
    have hci:InCell tw w i:=⟨hi1,hi0,hi2⟩
    have hck:InCell tm m k:=⟨hk1,by omega,hk2⟩
    have hii:=ugn h.rw hci (ubZ d3 q0)
    have hkk:=ugn h.rm hck (ubZ d4 q2)
    have a1:=uaq h.rw i (by omega)
    have a2:=uaq h.rw (i+1) (by omega)
    have a3:=uaq h.rm k (by omega)
    have a4:=uaq h.rm (k+1) (by omega)
    simp only [ubh,Nat.add_sub_cancel]at a1 a2 a3 a4
    have r1:=h.row i (by omega)
    have r2:=h.row (i+1) (by omega)
    have v1:=h.val i (by omega) k (by omega)
    have v2:=h.val (i+1) (by omega) k (by omega)
    have v3:=h.val i (by omega) (k+1) (by omega)
    have v4:=h.val (i+1) (by omega) (k+1) (by omega)
    have b1:=hci.le_hi q1
    have b2:=hck.le_hi q3
    have c1:=hci.lo
    have c2:=hck.lo
    have hat:atS tw tm tv w m=atI tw tm tv w m i k:=by rw [atS,←hii,←hkk]
    obtain⟨l1,hl1⟩:∃l1,(tv.getD i []).length=l1:=⟨_,rfl⟩
    obtain⟨l2,hl2⟩:∃l2,(tv.getD (i+1) []).length=l2:=⟨_,rfl⟩
    obtain⟨a,ha⟩:∃a,tw.getD i 0=a:=⟨_,rfl⟩
    obtain⟨b,hb⟩:∃b,tw.getD (i+1) 0=b:=⟨_,rfl⟩
    obtain⟨c,hc⟩:∃c,tm.getD k 0=c:=⟨_,rfl⟩
    obtain⟨d,hd⟩:∃d,tm.getD (k+1) 0=d:=⟨_,rfl⟩
    obtain⟨v00,h00⟩:∃v,(tv.getD i []).getD k 0=v:=⟨_,rfl⟩
    obtain⟨v10,h10⟩:∃v,(tv.getD (i+1) []).getD k 0=v:=⟨_,rfl⟩
    obtain⟨v01,h01⟩:∃v,(tv.getD i []).getD (k+1) 0=v:=⟨_,rfl⟩
    obtain⟨v11,h11⟩:∃v,(tv.getD (i+1) []).getD (k+1) 0=v:=⟨_,rfl⟩
    rw [atI,ha,hb,hc,hd,h00,h10,h01,h11]at hat
    rw [hl1]at r1
    rw [hl2]at r2
    rw [ha]at a1 a2 c1
    rw [hb]at a2 b1
    rw [hc]at a3 a4 c2
    rw [hd]at a4 b2
    rw [h00]at v1
    rw [h10]at v2
    rw [h01]at v3
    rw [h11]at v4
    have s1:=ubO (x:=v00) (y:=b-w) 2000 40 v1 (by omega)
    have s2:=ubO (x:=v10) (y:=w-a) 2000 40 v2 (by omega)
    have s3:=ubO (x:=v01) (y:=b-w) 2000 40 v3 (by omega)
    have s4:=ubO (x:=v11) (y:=w-a) 2000 40 v4 (by omega)
    have t1:=ubO (x:=v00*(b-w)) (y:=d-m) 80000 60 s1 (by omega)
    have t2:=ubO (x:=v10*(w-a)) (y:=d-m) 80000 60 s2 (by omega)
    have t3:=ubO (x:=v01*(b-w)) (y:=m-c) 80000 60 s3 (by omega)
    have t4:=ubO (x:=v11*(w-a)) (y:=m-c) 80000 60 s4 (by omega)
    have u1:=ubO (x:=b-w+(w-a)) (y:=d-m+(m-c)) 40 60 (by omega) (by omega)
    have u2:1≤(b-w+(w-a))*(d-m+(m-c)):=Int.mul_pos (by omega) (by omega)
    obtain⟨q,hq⟩:∃q,(b-w+(w-a))*(d-m+(m-c))=q:=⟨_,rfl⟩
    obtain⟨n,hn⟩:∃n,v00*(b-w)*(d-m)+v10*(w-a)*(d-m)+v01*(b-w)*(m-c)+v11*(w-a)*(m-c)=n:=⟨_,rfl⟩
    rw [hq]at u1 u2
    have hn0:0≤n∧n≤20000000:=by omega
    have ht:n.tdiv q=n/q:=Int.tdiv_eq_ediv_of_nonneg hn0.1
    have hd0:0≤n/q:=Int.ediv_nonneg hn0.1 (by omega)
    have hd1:n/q*q≤n:=Int.ediv_mul_le n (by omega)
    have hd2:n/q≤n:=Int.ediv_le_self q hn0.1
    have hd3:0≤n/q*q:=Int.mul_nonneg hd0 (by omega)
    have hat2:atS tw tm tv w m=if q≤2*(n-n/q*q)then n/q+1 else n/q:=by
     rw [hat,upm,usE,hn,←uoX (by omega) hn0.1]
     have e1:(b-a)*(d-c)=q:=by rw [←hq];congr 1<;>omega
     rw [Int.mul_assoc,e1,Int.tdiv_eq_ediv_of_nonneg (by omega)]
    repeat' (first
     |with_reducible refine hold ?_ ?_
     |with_reducible refine And.intro ?_ ?_
     | (with_reducible refine qS ?_ ?_ ?_
        try cbv)
     |(with_reducible intro hcd;(try simp only [uab,zA,zB,zC,zD,zE,zF,zG,zH,zI,zJ,zK,zL,zM,zN,zO,zP,ei,ek,ei1,ek1,hl1,hl2,ha,hb,hc,hd,h00,h10,h01,h11,hq,hn,ht]at hcd);try cbv))
    all_goals first
     |((try simp only [uab,zA,zB,zC,zD,zE,zF,zG,zH,zI,zJ,zK,zL,zM,zN,zO,zP,ei,ek,ei1,ek1,hl1,hl2,ha,hb,hc,hd,h00,h10,h01,h11,hq,hn,ht]at⊢);first|(refine qN ?_;omega)|(simp only [Hold];omega))
     |(exfalso;omega)
     |(subst hR;refine qE ?_;simp only [uab,zA,zB,zC,zD,zE,zF,zG,zH,zI,zJ,zK,zL,zM,zN,zO,zP,ei,ek,ei1,ek1,hl1,hl2,ha,hb,hc,hd,h00,h10,h01,h11,hq,hn,ht];rw [hat2];split<;>omega)
     |skip
def Seen (wl ml mh:Int)(i j:Nat)(w m:Int):Prop:=ml≤m∧m≤mh∧((wl≤w∧w<wl+i)∨(w=wl+i∧m<ml+j))
structure Scan (f:Int→Int→Int)(wl ml mh:Int)(i j:Nat)(lo hi:Int):Prop where
 le:∀w m,Seen wl ml mh i j w m→lo≤f w m∧f w m≤hi
 hit:(lo=9999∧hi = -1∧∀w m,¬Seen wl ml mh i j w m)∨((∃w m,Seen wl ml mh i j w m∧lo=f w m)∧∃w m,Seen wl ml mh i j w m∧hi=f w m)
theorem uwR (f:Int→Int→Int)(wl ml mh:Int):Scan f wl ml mh 0 0 9999 (-1):=by
 have h:∀w m,¬Seen wl ml mh 0 0 w m:=fun w m h=>by unfold Seen at h;omega
 exact⟨fun w m s=>absurd s (h w m),.inl ⟨rfl,rfl,h⟩⟩
theorem uq7 {f:Int→Int→Int} {wl ml mh:Int} {i j:Nat} {lo hi:Int}(h:Scan f wl ml mh i j lo hi)(hm:ml+j≤mh)(hf:0≤f (wl+i) (ml+j)∧f (wl+i) (ml+j)≤2000):
 Scan f wl ml mh i (j+1) (if f (wl+i) (ml+j)<lo then f (wl+i) (ml+j)else lo) (if f (wl+i) (ml+j)>hi then f (wl+i) (ml+j)else hi):=by
 have hs:∀w m,Seen wl ml mh i (j+1) w m↔Seen wl ml mh i j w m∨(w=wl+i∧m=ml+j):=fun w m=>by unfold Seen;omega
 refine⟨fun w m s=> ?_,.inr ?_⟩
 ·rcases(hs w m).1 s with s|⟨rfl,rfl⟩
  ·have:=h.le w m s
   split<;>split<;>omega
  ·split<;>split<;>omega
 ·have hn:Seen wl ml mh i (j+1) (wl+i) (ml+j):=(hs _ _).2 (.inr ⟨rfl,rfl⟩)
  rcases h.hit with⟨rfl,rfl,_⟩|⟨⟨w,m,s,e⟩,w',m',s',e'⟩
  ·rw [if_pos (by omega),if_pos (by omega)]
   exact⟨⟨_,_,hn,rfl⟩,_,_,hn,rfl⟩
  ·refine⟨?_,?_⟩
   ·split
    ·exact⟨_,_,hn,rfl⟩
    ·exact⟨w,m,(hs _ _).2 (.inl s),e⟩
   ·split
    ·exact⟨_,_,hn,rfl⟩
    ·exact⟨w',m',(hs _ _).2 (.inl s'),e'⟩
theorem Scan.congr {f:Int→Int→Int} {wl ml mh:Int} {i j i' j':Nat} {lo hi:Int}(h:Scan f wl ml mh i j lo hi)(hs:∀w m,Seen wl ml mh i j w m↔Seen wl ml mh i' j' w m):Scan f wl ml mh i' j' lo hi:=
 ⟨fun w m s=>h.le w m ((hs w m).2 s),h.hit.imp (fun q=>⟨q.1,q.2.1,fun w m s=>q.2.2 w m ((hs w m).2 s)⟩) fun q=>⟨let ⟨w,m,s,e⟩:=q.1;⟨w,m,(hs w m).1 s,e⟩,let ⟨w,m,s,e⟩:=q.2;⟨w,m,(hs w m).1 s,e⟩⟩⟩
theorem up1 {f:Int→Int→Int} {wl ml mh:Int} {i j:Nat} {lo hi:Int}(h:Scan f wl ml mh i j lo hi)(hj:mh<ml+j):Scan f wl ml mh (i+1) 0 lo hi:=
 h.congr fun w m=>by unfold Seen;omega
theorem urQ {f:Int→Int→Int} {wl wh ml mh:Int} {i:Nat} {lo hi:Int}(h:Scan f wl ml mh i 0 lo hi)(hend:wl+i=wh+1)(hw:wl≤wh)(hm:ml≤mh):IsB f wl wh ml mh lo hi:=by
 have hs:∀w m,Seen wl ml mh i 0 w m↔wl≤w∧w≤wh∧ml≤m∧m≤mh:=fun w m=>by unfold Seen;omega
 rcases h.hit with⟨_,_,q⟩|⟨⟨w,m,s,e⟩,w',m',s',e'⟩
 ·exact absurd ((hs wl ml).2 ⟨by omega,hw,by omega,hm⟩) (q wl ml)
 ·refine⟨fun w m a b c d=>h.le w m ((hs w m).2 ⟨a,b,c,d⟩),?_,?_⟩
  ·obtain⟨a,b,c,d⟩:=(hs w m).1 s;exact⟨w,m,a,b,c,d,e⟩
  ·obtain⟨a,b,c,d⟩:=(hs w' m').1 s';exact⟨w',m',a,b,c,d,e'⟩
theorem uv8 {tw tm:List Int} {tv:List (List Int)}(h:TOk tw tm tv):(0≤tw.getD 0 0∧tw.getD (tw.length-1) 0≤40)∧0≤tm.getD 0 0∧tm.getD (tm.length-1) 0≤60:=by
 have a:=h.w2;have b:=h.m2
 have p1:=uaq h.rw 0 (by omega)
 have p2:=uaq h.rw (tw.length-1) (by omega)
 have p3:=uaq h.rm 0 (by omega)
 have p4:=uaq h.rm (tm.length-1) (by omega)
 unfold ubh at p1 p2 p3 p4
 omega
theorem uqc (tw tm:List Int)(tv:List (List Int))(wl wh ml mh:Int)(hT:TOk tw tm tv)(hB:Box tw tm wl wh ml mh):ua0 Tryz.prog 106 [(.agg [(iS tw),(iS tm),(.sl 1 (.sym fun _=>zi (tv).length) (fun ix=>[(.sl 1 (.sym fun _=>zi ((tv).getD ix.den.toNat []).length) (fun jx=>[(iv fun _=>((tv).getD ix.den.toNat []).getD jx.den.toNat 0)]))]))]),(.agg [(iv fun _=>wl),(iv fun _=>wh)]),(.agg [(iv fun _=>ml),(iv fun _=>mh)])] [] (fun r _=>r=(.agg [(iv fun _=>bLo tw tm tv wl wh ml mh),(iv fun _=>bHi tw tm tv wl wh ml mh)])):=by
 have c95:=fun (i j:Nat) (h:wl+zi i≤wh∧ml+zi j≤mh)=>at95 tw tm tv (wl+zi i) (ml+zi j) ⟨hT,hB.pt (by simp only [uab];omega) h.1 (by simp only [uab];omega) h.2⟩
 have hbd:∀i j:Nat,wl+zi i≤wh→ml+zi j≤mh→0≤atS tw tm tv (wl+(i:Int)) (ml+(j:Int))∧atS tw tm tv (wl+(i:Int)) (ml+(j:Int))≤2000:=fun i j h1 h2=>urh hT (hB.pt (by omega) h1 (by omega) h2)
 have b1:=hB.w0;have b2:=hB.w1;have b3:=hB.m0;have b4:=hB.m1;have b5:=hB.w;have b6:=hB.m
 have hpr:=uv8 hT
 refine ua0.is fun R hR=>qW (sc:=uwA) tyok mix Tryz.func106 rfl Tryz.call106 (by kernel_rfl) (by kernel_rfl) ?_
 generalize Tryz.prog=P at c95⊢
 cbv
 obtain⟨p1,p2⟩:=hpr
 repeat' (first
  |fail)
 all_goals first
  |skip
 refine⟨none,[],{p:Nat×Int×Int // wl+zi p.1≤wh+1∧Scan (atS tw tm tv) wl ml mh p.1 0 p.2.1 p.2.2},fun x=>⟨[(3,.own 0 0),(4,.own 1 0),(5,.own 2 0),(6,.own 3 0),(7,.own 5 0),(8,(iv fun _=>wl+zi x.1.1))],[(0,.cells [(iS tw),(iS tm),(.sl 1 (.sym fun _=>zi (tv).length) (fun ix=>[(.sl 1 (.sym fun _=>zi ((tv).getD ix.den.toNat []).length) (fun jx=>[(iv fun _=>((tv).getD ix.den.toNat []).getD jx.den.toNat 0)]))]))] 25),(1,.cells [(iv fun _=>wl),(iv fun _=>wh)] 66),(2,.cells [(iv fun _=>ml),(iv fun _=>mh)] 66),(3,.cells [.int .i64 (.lit 0),.int .i64 (.lit 0)] 66),(5,.cells [(iv fun _=>x.1.2.1),(iv fun _=>x.1.2.2)] 66)],60⟩,fun x=>(wh+1-wl).toNat-x.1.1,?_,?_⟩
 ·refine⟨⟨(0,9999,-1),by simp only [uab];omega,uwR _ _ _ _⟩,?_⟩
  cbv
  repeat' (first
   |with_reducible refine hold ?_ ?_
   |with_reducible refine And.intro ?_ ?_)
  all_goals first
   |trivial
   |exact qM (Fit.refl _)
   |exact qL (qK _)
   |(refine qM (qE ?_);(try simp only [qV]at *);simp only [zQ,zA,zB,zC,zD,zE,zF,zG,zH,zI,zJ,zK,zL,zM,zN,zO,zP,zR,zS]at *;omega)
   |(refine qL (qJ ?_);refine qC (qE ?_) rfl (qC (qE ?_) rfl qA)<;>first|rfl|(simp only [enlo,enhi];rfl)|((try simp only [qV]at *);(try simp only [zQ,zA,zB,zC,zD,zE,zF,zG,zH,zI,zJ,zK,zL,zM,zN,zO,zP,zR,zS]at *);omega))
   |skip
 ·rintro ⟨⟨i,lo,hi⟩,hi2,hs⟩
  cbv
  repeat' (first
   |with_reducible refine And.intro ?_ ?_
   |(with_reducible intro hcd;(try simp only [zA,zB,zC,zD,zE,zF,zG,zH,zI,zJ,zK,zL,zM,zN,zO,zP]at hcd);try cbv)
   |fail)
  all_goals first
   |(subst hR;(have hu:=(urQ hs (by((try simp only [qV]at *);(try simp only [zQ,zA,zB,zC,zD,zE,zF,zG,zH,zI,zJ,zK,zL,zM,zN,zO,zP,zR,zS]at *);omega)) hB.w hB.m).unique (uwj hT hB));(repeat' (first|exact qA|exact qE hu.1|exact qE hu.2|refine qC ?_ rfl ?_));done;done)
   |skip
  refine⟨none,[],{p:Nat×Int×Int // ml+zi p.1≤mh+1∧Scan (atS tw tm tv) wl ml mh i p.1 p.2.1 p.2.2},fun x=>⟨[(3,.own 0 0),(4,.own 1 0),(5,.own 2 0),(6,.own 3 0),(7,.own 5 0),(8,(iv fun _=>wl+zi i)),(9,(iv fun _=>ml+zi x.1.1))],[(0,.cells [(iS tw),(iS tm),(.sl 1 (.sym fun _=>zi (tv).length) (fun ix=>[(.sl 1 (.sym fun _=>zi ((tv).getD ix.den.toNat []).length) (fun jx=>[(iv fun _=>((tv).getD ix.den.toNat []).getD jx.den.toNat 0)]))]))] 25),(1,.cells [(iv fun _=>wl),(iv fun _=>wh)] 66),(2,.cells [(iv fun _=>ml),(iv fun _=>mh)] 66),(3,.cells [.int .i64 (.lit 0),.int .i64 (.lit 0)] 66),(5,.cells [(iv fun _=>x.1.2.1),(iv fun _=>x.1.2.2)] 66)],60⟩,fun x=>(mh+1-ml).toNat-x.1.1,?_,?_⟩
  ·refine⟨⟨(0,lo,hi),by simp only [uab];omega,hs⟩,?_⟩
   cbv
   repeat' (first
    |with_reducible refine hold ?_ ?_
    |with_reducible refine And.intro ?_ ?_)
   all_goals first
    |trivial
    |exact qM (qE (by rfl))
    |exact qM (Fit.refl _)
    |exact qL (qK _)
    |(refine qM (qE ?_);(try simp only [qV]at *);simp only [zQ,zA,zB,zC,zD,zE,zF,zG,zH,zI,zJ,zK,zL,zM,zN,zO,zP,zR,zS]at *;omega)
    |skip
  ·rintro ⟨⟨j,lo2,hi2⟩,hj,hs2⟩
   cbv
   repeat' (first
    |with_reducible refine hold ?_ ?_
    |with_reducible refine And.intro ?_ ?_
    |(with_reducible intro hcd;(try simp only [zA,zB,zC,zD,zE,zF,zG,zH,zI,zJ,zK,zL,zM,zN,zO,zP]at hcd);try cbv)
    | (refine qP ?_ (c95 i j (show Hold _ from ?_)) ?hfit
       case hfit=>((repeat' (first|exact qB|refine qD ?_ ?_|exact qE (by rfl)|exact qF (by rfl)|exact Fit.refl _|exact qA|refine qC ?_ rfl ?_));done)
       try cbv)
    |fail)
   all_goals first
    |trivial
    |((try simp only [qV]at *);(try simp only [zQ,zA,zB,zC,zD,zE,zF,zG,zH,zI,zJ,zK,zL,zM,zN,zO,zP,zR,zS]at *);first|(refine qN ?_;omega)|(simp only [Hold];omega))
    |((try simp only [zQ,zA,zB,zC,zD,zE,zF,zG,zH,zI,zJ,zK,zL,zM,zN,zO,zP,zR,zS]at *);obtain⟨nlo,enlo⟩:∃nlo,nlo=if atS tw tm tv (wl+zi i) (ml+zi j)<lo2 then atS tw tm tv (wl+zi i) (ml+zi j)else lo2:=⟨_,rfl⟩;obtain⟨nhi,enhi⟩:∃nhi,nhi=if atS tw tm tv (wl+zi i) (ml+zi j)>hi2 then atS tw tm tv (wl+zi i) (ml+zi j)else hi2:=⟨_,rfl⟩;refine⟨⟨(j+1,nlo,nhi),by((try simp only [qV]at *);(try simp only [zQ,zA,zB,zC,zD,zE,zF,zG,zH,zI,zJ,zK,zL,zM,zN,zO,zP,zR,zS]at *);omega),by rw [enlo,enhi];exact uq7 hs2 (by((try simp only [qV]at *);(try simp only [zQ,zA,zB,zC,zD,zE,zF,zG,zH,zI,zJ,zK,zL,zM,zN,zO,zP,zR,zS]at *);omega)) (hbd i j (by((try simp only [qV]at *);(try simp only [zQ,zA,zB,zC,zD,zE,zF,zG,zH,zI,zJ,zK,zL,zM,zN,zO,zP,zR,zS]at *);omega)) (by((try simp only [qV]at *);(try simp only [zQ,zA,zB,zC,zD,zE,zF,zG,zH,zI,zJ,zK,zL,zM,zN,zO,zP,zR,zS]at *);omega)))⟩,by simp only [];omega,?_⟩;cbv;(repeat' (first|with_reducible refine hold ?_ ?_|with_reducible refine And.intro ?_ ?_));(all_goals first|trivial|exact qM (qE (by rfl))|exact qM (qF (by rfl))|exact qM (Fit.refl _)|exact qL (qK _)|(refine qM (qE ?_);(try simp only [qV]at *);simp only [zQ,zA,zB,zC,zD,zE,zF,zG,zH,zI,zJ,zK,zL,zM,zN,zO,zP,zR,zS]at *;omega)|(refine qL (qJ ?_);refine qC (qE ?_) rfl (qC (qE ?_) rfl qA)<;>first|rfl|(simp only [enlo,enhi];rfl)|((try simp only [qV]at *);(try simp only [zQ,zA,zB,zC,zD,zE,zF,zG,zH,zI,zJ,zK,zL,zM,zN,zO,zP,zR,zS]at *);omega))|skip))
    |((try simp only [zQ,zA,zB,zC,zD,zE,zF,zG,zH,zI,zJ,zK,zL,zM,zN,zO,zP,zR,zS]at *);refine⟨⟨(i+1,lo2,hi2),by((try simp only [qV]at *);(try simp only [zQ,zA,zB,zC,zD,zE,zF,zG,zH,zI,zJ,zK,zL,zM,zN,zO,zP,zR,zS]at *);omega),up1 hs2 (by((try simp only [qV]at *);(try simp only [zQ,zA,zB,zC,zD,zE,zF,zG,zH,zI,zJ,zK,zL,zM,zN,zO,zP,zR,zS]at *);omega))⟩,by simp only [];omega,?_⟩;cbv;(repeat' (first|with_reducible refine hold ?_ ?_|with_reducible refine And.intro ?_ ?_));(all_goals first|trivial|exact qM (qE (by rfl))|exact qM (qF (by rfl))|exact qM (Fit.refl _)|exact qL (qK _)|(refine qM (qE ?_);(try simp only [qV]at *);simp only [zQ,zA,zB,zC,zD,zE,zF,zG,zH,zI,zJ,zK,zL,zM,zN,zO,zP,zR,zS]at *;omega)|(refine qL (qJ ?_);refine qC (qE ?_) rfl (qC (qE ?_) rfl qA)<;>first|rfl|(simp only [enlo,enhi];rfl)|((try simp only [qV]at *);(try simp only [zQ,zA,zB,zC,zD,zE,zF,zG,zH,zI,zJ,zK,zL,zM,zN,zO,zP,zR,zS]at *);omega))|skip))
    |skip
end Go.Proofs.YtkdggbfknlcdaaaGreat
namespace Go.Proofs.YtkdggbfknlcdaaaGreat
open Go Go.Eng Go.Proofs Go.Eng.Dif Go.Eng.Few
set_option maxRecDepth 10000
set_option maxHeartbeats 2000000 in
theorem udU (d:Dsp)(hT:ThinT d.tw d.tm d.tv)(h1:d.ls.length≤1000)(h2:d.fs.length≤1000):ua0 Tryz.prog 12 [(dspS d)] [] (fun r _=>r=(dspS d)):=by
 have c46:=utV d.tw d.tm d.tv hT
 have c18:= @to18
 refine ua0.is fun R hR=>qW (sc:=sc12) tyok mix Tryz.func12 rfl Tryz.call12 (by kernel_rfl) (by kernel_rfl) ?_
 generalize Tryz.prog=P at c46 c18⊢
 cbv
 repeat' (first
  | (refine qP ?_ (c46) ?hfit
     case hfit=>((repeat' (first|exact qB|refine qD ?_ ?_|exact qE (by rfl)|exact qF (by rfl)|exact Fit.refl _|exact qA|refine qC ?_ rfl ?_));done)
     try cbv)
  |fail)
 all_goals first
  |skip
 refine⟨none,[⟨.cell 10 5,102,4⟩],{i:Nat // i≤d.ls.length},fun x=>⟨[(1,.own 0 0),(2,.own 1 0),(3,.own 10 0),(4,(iv fun _=>zi x.1))],[(0,.cells [(iS d.tw),(iS d.tm),(.sl 1 (.sym fun _=>zi (d.tv).length) (fun ix=>[(.sl 1 (.sym fun _=>zi ((d.tv).getD ix.den.toNat []).length) (fun jx=>[(iv fun _=>((d.tv).getD ix.den.toNat []).getD jx.den.toNat 0)]))])),(iv fun _=>d.sn),(iv fun _=>d.pn),(.sl 4 (.sym fun _=>zi (d.ls).length) (fun ix=>[(iv fun _=>((d.ls).getD ix.den.toNat l0T).a),(iv fun _=>((d.ls).getD ix.den.toNat l0T).b),(iv fun _=>((d.ls).getD ix.den.toNat l0T).lo),(iv fun _=>((d.ls).getD ix.den.toNat l0T).hi)])),(.sl 6 (.sym fun _=>zi (d.fs).length) (fun ix=>[(iv fun _=>((d.fs).getD ix.den.toNat f0T).p),(iv fun _=>((d.fs).getD ix.den.toNat f0T).s),(iv fun _=>((d.fs).getD ix.den.toNat f0T).wl),(iv fun _=>((d.fs).getD ix.den.toNat f0T).wh),(iv fun _=>((d.fs).getD ix.den.toNat f0T).ml),(iv fun _=>((d.fs).getD ix.den.toNat f0T).mh)]))] 29),(1,.cells [.val (Value.slice none 0 0),.val (Value.slice none 0 0),.val (Value.slice none 0 0),.int .i64 (.lit 0),.int .i64 (.lit 0),.val (Value.slice none 0 0),.val (Value.slice none 0 0)] 39),(10,.cells [(iS d.tw),(iS d.tm),(.sl 1 (.sym fun _=>zi (d.tv).length) (fun ix=>[(.sl 1 (.sym fun _=>zi ((d.tv).getD ix.den.toNat []).length) (fun jx=>[(iv fun _=>((d.tv).getD ix.den.toNat []).getD jx.den.toNat 0)]))])),(iv fun _=>d.sn),(iv fun _=>d.pn),.row 13,.val (Value.slice none 0 0)] 39),(13,.row 102 4 (.sym fun _=>zi x.1) (fun ix=>[(iv fun _=>(d.ls.getD ix.den.toNat l0T).a),(iv fun _=>(d.ls.getD ix.den.toNat l0T).b),(iv fun _=>(d.ls.getD ix.den.toNat l0T).lo),(iv fun _=>(d.ls.getD ix.den.toNat l0T).hi)]))],120⟩,fun x=>d.ls.length-x.1,?_,?_⟩
 ·refine⟨⟨0,by omega⟩,?_⟩
  cbv
  repeat' (first
   |with_reducible refine hold ?_ ?_
   |with_reducible refine And.intro ?_ ?_)
  all_goals first
   |trivial
   |exact qM (qE (by rfl))
   |exact qM (Fit.refl _)
   |exact qL (qK _)
   |(refine qL (ua8 ?_ ?_);(first|rfl|((try simp only [qV]at *);(try simp only [zQ,zA,zB,zC,zD,zE,zF,zG,zH,zI,zJ,zK,zL,zM,zN,zO,zP,zR,zS]at *);omega));intro ix h0 h1;exfalso;(try simp only [qV]at *);(try simp only [zQ,zA,zB,zC,zD,zE,zF,zG,zH,zI,zJ,zK,zL,zM,zN,zO,zP,zR,zS]at *);omega)
   |skip
 ·rintro ⟨i,hi⟩
  cbv
  repeat' (first
   |with_reducible refine hold ?_ ?_
   |with_reducible refine And.intro ?_ ?_
   |(with_reducible intro hcd;(try simp only [zA,zB,zC,zD,zE,zF,zG,zH,zI,zJ,zK,zL,zM,zN,zO,zP]at hcd);try cbv)
   | (refine qP ?_ (c18 _ _) (by(repeat' (first|exact qB|refine qD ?_ ?_|exact qE (by rfl)|exact qF (by rfl)|exact Fit.refl _|exact qA|refine qC ?_ rfl ?_)))
      try cbv)
   | (refine⟨fun ix=>[(iv fun _=>(d.ls.getD ix.den.toNat l0T).a),(iv fun _=>(d.ls.getD ix.den.toNat l0T).b),(iv fun _=>(d.ls.getD ix.den.toNat l0T).lo),(iv fun _=>(d.ls.getD ix.den.toNat l0T).hi)],?_⟩
      cbv
      refine hold (ubt (by intro ix jx h0 h1 h2;simp only [h2];exact Fit.refl _) (by intro ix jx h0 h1 h2;(have h3:jx.den.toNat=i:=by((try simp only [qV]at *);(try simp only [zQ,zA,zB,zC,zD,zE,zF,zG,zH,zI,zJ,zK,zL,zM,zN,zO,zP,zR,zS]at *);omega));simp only [h3];exact(qC (qE rfl) rfl (qC (qE rfl) rfl (qC (qE rfl) rfl (qC (qE rfl) rfl qA))))) (by(try simp only [qV]at *);(try simp only [zQ,zA,zB,zC,zD,zE,zF,zG,zH,zI,zJ,zK,zL,zM,zN,zO,zP,zR,zS]at *);omega)) (Or.inl ?_)
      try cbv)
   |fail)
  all_goals first
   |((try simp only [qV]at *);(try simp only [zQ,zA,zB,zC,zD,zE,zF,zG,zH,zI,zJ,zK,zL,zM,zN,zO,zP,zR,zS]at *);first|(refine qN ?_;omega)|(simp only [Hold];omega))
   |((try simp only [zQ,zA,zB,zC,zD,zE,zF,zG,zH,zI,zJ,zK,zL,zM,zN,zO,zP,zR,zS]at *);refine⟨⟨i+1,by omega⟩,by simp only [];omega,?_⟩;cbv;(repeat' (first|with_reducible refine hold ?_ ?_|with_reducible refine And.intro ?_ ?_));(all_goals first|trivial|exact qM (qE (by rfl))|exact qM (qF (by rfl))|exact qM (Fit.refl _)|exact qL (qK _)|(refine qM (qE ?_);(try simp only [qV]at *);simp only [zQ,zA,zB,zC,zD,zE,zF,zG,zH,zI,zJ,zK,zL,zM,zN,zO,zP,zR,zS]at *;omega)|(refine qL (qJ ?_);(repeat' (first|exact qA|exact qB|refine qC ?_ rfl ?_|refine qD ?_ ?_|exact qE (by rfl)|exact qF (by rfl)|exact Fit.refl _|exact qG _|(refine qE ?_;(try simp only [qV]at *);simp only [zQ,zA,zB,zC,zD,zE,zF,zG,zH,zI,zJ,zK,zL,zM,zN,zO,zP,zR,zS]at *;omega)));done)|(refine qL (ua8 ?_ ?_)<;>first|rfl|((try simp only [qV]at *);(try simp only [zQ,zA,zB,zC,zD,zE,zF,zG,zH,zI,zJ,zK,zL,zM,zN,zO,zP,zR,zS]at *);omega)|(intro ix h0 h1;exact Fit.refl _))|skip))
   |skip
  have hil:i=d.ls.length:=(by((try simp only [qV]at *);(try simp only [zQ,zA,zB,zC,zD,zE,zF,zG,zH,zI,zJ,zK,zL,zM,zN,zO,zP,zR,zS]at *);omega))
  subst hil
  refine⟨none,[⟨.cell 10 6,106,6⟩],{j:Nat // j≤d.fs.length},fun x=>⟨[(1,.own 0 0),(2,.own 1 0),(3,.own 10 0),(5,(iv fun _=>zi x.1))],[(0,.cells [(iS d.tw),(iS d.tm),(.sl 1 (.sym fun _=>zi (d.tv).length) (fun ix=>[(.sl 1 (.sym fun _=>zi ((d.tv).getD ix.den.toNat []).length) (fun jx=>[(iv fun _=>((d.tv).getD ix.den.toNat []).getD jx.den.toNat 0)]))])),(iv fun _=>d.sn),(iv fun _=>d.pn),(.sl 4 (.sym fun _=>zi (d.ls).length) (fun ix=>[(iv fun _=>((d.ls).getD ix.den.toNat l0T).a),(iv fun _=>((d.ls).getD ix.den.toNat l0T).b),(iv fun _=>((d.ls).getD ix.den.toNat l0T).lo),(iv fun _=>((d.ls).getD ix.den.toNat l0T).hi)])),(.sl 6 (.sym fun _=>zi (d.fs).length) (fun ix=>[(iv fun _=>((d.fs).getD ix.den.toNat f0T).p),(iv fun _=>((d.fs).getD ix.den.toNat f0T).s),(iv fun _=>((d.fs).getD ix.den.toNat f0T).wl),(iv fun _=>((d.fs).getD ix.den.toNat f0T).wh),(iv fun _=>((d.fs).getD ix.den.toNat f0T).ml),(iv fun _=>((d.fs).getD ix.den.toNat f0T).mh)]))] 29),(1,.cells [.val (Value.slice none 0 0),.val (Value.slice none 0 0),.val (Value.slice none 0 0),.int .i64 (.lit 0),.int .i64 (.lit 0),.val (Value.slice none 0 0),.val (Value.slice none 0 0)] 39),(10,.cells [(iS d.tw),(iS d.tm),(.sl 1 (.sym fun _=>zi (d.tv).length) (fun ix=>[(.sl 1 (.sym fun _=>zi ((d.tv).getD ix.den.toNat []).length) (fun jx=>[(iv fun _=>((d.tv).getD ix.den.toNat []).getD jx.den.toNat 0)]))])),(iv fun _=>d.sn),(iv fun _=>d.pn),.row 13,.row 126] 39),(13,.row 102 4 (.sym fun _=>zi d.ls.length) (fun ix=>[(iv fun _=>(d.ls.getD ix.den.toNat l0T).a),(iv fun _=>(d.ls.getD ix.den.toNat l0T).b),(iv fun _=>(d.ls.getD ix.den.toNat l0T).lo),(iv fun _=>(d.ls.getD ix.den.toNat l0T).hi)])),(126,.row 106 6 (.sym fun _=>zi x.1) (fun ix=>[(iv fun _=>(d.fs.getD ix.den.toNat f0T).p),(iv fun _=>(d.fs.getD ix.den.toNat f0T).s),(iv fun _=>(d.fs.getD ix.den.toNat f0T).wl),(iv fun _=>(d.fs.getD ix.den.toNat f0T).wh),(iv fun _=>(d.fs.getD ix.den.toNat f0T).ml),(iv fun _=>(d.fs.getD ix.den.toNat f0T).mh)]))],200⟩,fun x=>d.fs.length-x.1,?_,?_⟩
  ·refine⟨⟨0,by omega⟩,?_⟩
   cbv
   repeat' (first
    |with_reducible refine hold ?_ ?_
    |with_reducible refine And.intro ?_ ?_)
   all_goals first
    |trivial
    |exact qM (qE (by rfl))
    |exact qM (Fit.refl _)
    |exact qL (qK _)
    |(refine qL (ua8 ?_ ?_);(first|rfl|((try simp only [qV]at *);(try simp only [zQ,zA,zB,zC,zD,zE,zF,zG,zH,zI,zJ,zK,zL,zM,zN,zO,zP,zR,zS]at *);omega));intro ix h0 h1;exfalso;(try simp only [qV]at *);(try simp only [zQ,zA,zB,zC,zD,zE,zF,zG,zH,zI,zJ,zK,zL,zM,zN,zO,zP,zR,zS]at *);omega)
    |skip
  ·rintro ⟨j,hj⟩
   cbv
   repeat' (first
    |with_reducible refine hold ?_ ?_
    |with_reducible refine And.intro ?_ ?_
    |(with_reducible intro hcd;(try simp only [zA,zB,zC,zD,zE,zF,zG,zH,zI,zJ,zK,zL,zM,zN,zO,zP]at hcd);try cbv)
    | (refine qP ?_ (c18 _ _) (by(repeat' (first|exact qB|refine qD ?_ ?_|exact qE (by rfl)|exact qF (by rfl)|exact Fit.refl _|exact qA|refine qC ?_ rfl ?_)))
       try cbv)
    | (refine⟨fun ix=>[(iv fun _=>(d.fs.getD ix.den.toNat f0T).p),(iv fun _=>(d.fs.getD ix.den.toNat f0T).s),(iv fun _=>(d.fs.getD ix.den.toNat f0T).wl),(iv fun _=>(d.fs.getD ix.den.toNat f0T).wh),(iv fun _=>(d.fs.getD ix.den.toNat f0T).ml),(iv fun _=>(d.fs.getD ix.den.toNat f0T).mh)],?_⟩
       cbv
       refine hold (ubt (by intro ix jx h0 h1 h2;simp only [h2];exact Fit.refl _) (by intro ix jx h0 h1 h2;(have h3:jx.den.toNat=j:=by((try simp only [qV]at *);(try simp only [zQ,zA,zB,zC,zD,zE,zF,zG,zH,zI,zJ,zK,zL,zM,zN,zO,zP,zR,zS]at *);omega));simp only [h3];exact(qC (qE rfl) rfl (qC (qE rfl) rfl (qC (qE rfl) rfl (qC (qE rfl) rfl (qC (qE rfl) rfl (qC (qE rfl) rfl qA))))))) (by(try simp only [qV]at *);(try simp only [zQ,zA,zB,zC,zD,zE,zF,zG,zH,zI,zJ,zK,zL,zM,zN,zO,zP,zR,zS]at *);omega)) (Or.inl ?_)
       try cbv)
    |fail)
   all_goals first
    |((try simp only [qV]at *);(try simp only [zQ,zA,zB,zC,zD,zE,zF,zG,zH,zI,zJ,zK,zL,zM,zN,zO,zP,zR,zS]at *);first|(refine qN ?_;omega)|(simp only [Hold];omega))
    |((have hit:j=d.fs.length:=(by((try simp only [qV]at *);(try simp only [zQ,zA,zB,zC,zD,zE,zF,zG,zH,zI,zJ,zK,zL,zM,zN,zO,zP,zR,zS]at *);omega)));subst hR;subst hit;exact Fit.refl _)
    |((try simp only [zQ,zA,zB,zC,zD,zE,zF,zG,zH,zI,zJ,zK,zL,zM,zN,zO,zP,zR,zS]at *);refine⟨⟨j+1,by omega⟩,by simp only [];omega,?_⟩;cbv;(repeat' (first|with_reducible refine hold ?_ ?_|with_reducible refine And.intro ?_ ?_));(all_goals first|trivial|exact qM (qE (by rfl))|exact qM (qF (by rfl))|exact qM (Fit.refl _)|exact qL (qK _)|(refine qM (qE ?_);(try simp only [qV]at *);simp only [zQ,zA,zB,zC,zD,zE,zF,zG,zH,zI,zJ,zK,zL,zM,zN,zO,zP,zR,zS]at *;omega)|(refine qL (qJ ?_);(repeat' (first|exact qA|exact qB|refine qC ?_ rfl ?_|refine qD ?_ ?_|exact qE (by rfl)|exact qF (by rfl)|exact Fit.refl _|exact qG _|(refine qE ?_;(try simp only [qV]at *);simp only [zQ,zA,zB,zC,zD,zE,zF,zG,zH,zI,zJ,zK,zL,zM,zN,zO,zP,zR,zS]at *;omega)));done)|(refine qL (ua8 ?_ ?_)<;>first|rfl|((try simp only [qV]at *);(try simp only [zQ,zA,zB,zC,zD,zE,zF,zG,zH,zI,zJ,zK,zL,zM,zN,zO,zP,zR,zS]at *);omega)|(intro ix h0 h1;exact Fit.refl _))|skip))
    |skip
def ueg (d:Dsp):Bool:=ujX d.tw d.tm d.tv&&(decide (d.ls.length≤7)&&decide (d.fs.length≤9))
theorem ugk {d:Dsp}:ueg d=true↔ThinT d.tw d.tm d.tv∧d.ls.length≤7∧d.fs.length≤9:=by
 unfold ueg
 rw [Bool.and_eq_true,Bool.and_eq_true,decide_eq_true_eq,decide_eq_true_eq,ueN]
theorem uum {d:Dsp}(h:ujX d.tw d.tm d.tv=false):ueg d=false:=by unfold ueg;rw [h];rfl
theorem utA {d:Dsp}(h:ujX d.tw d.tm d.tv=true)(h':¬d.ls.length≤7):ueg d=false:=by unfold ueg;rw [h,decide_eq_false h'];rfl
theorem utm {d:Dsp}(h:ujX d.tw d.tm d.tv=true)(h':d.ls.length≤7):ueg d=decide (d.fs.length≤9):=by unfold ueg;rw [h,decide_eq_true h'];rfl
theorem uhf (d:Dsp):ua0 Tryz.prog 9 [(dspS d)] [] (fun r _=>r=(.bool (.sym fun _=>ueg d))):=by
 have c42:=uwf d.tw d.tm d.tv
 refine ua0.is fun R hR=>qW (sc:=sc9) tyok mix Tryz.func9 rfl Tryz.call9 (by kernel_rfl) (by kernel_rfl) ?_
 generalize Tryz.prog=P at c42⊢
 cbv
 repeat' (first
  |with_reducible refine And.intro ?_ ?_
  |(with_reducible intro hcd;(try simp only [zA,zB,zC,zD,zE,zF,zG,zH,zI,zJ,zK,zL,zM,zN,zO,zP]at hcd);try cbv)
  | (refine qP ?_ (c42) ?hfit
     case hfit=>((repeat' (first|exact qB|refine qD ?_ ?_|exact qE (by rfl)|exact qF (by rfl)|exact Fit.refl _|exact qA|refine qC ?_ rfl ?_));done)
     try cbv)
  |fail)
 all_goals first
  |(subst hR;(refine qF ?_;(try simp only [qV]at *);(try simp only [zQ,zA,zB,zC,zD,zE,zF,zG,zH,zI,zJ,zK,zL,zM,zN,zO,zP,zR,zS]at *);(try simp only [uan,uas,uaM,uaV,uaZ,ub0,uaf,uah,uae,uag]at *);first|exact(uum (by assumption)).symm|exact(utA (by assumption) (by omega)).symm|(rw [utm (by assumption) (by omega)];first|rfl|(apply Bool.eq_iff_iff.2;simp only [decide_eq_true_eq];omega)));done)
  |skip
theorem uqL (a b:Int)(l:List Int)(h:1≤l.length∧l.length≤1000):ua0 Tryz.prog 97 [(iS l),(.agg [(iv fun _=>a),(iv fun _=>b)])] [] (fun r _=>r=(.bool (.sym fun _=>ofB (l.getD 0 0) a b (l.getD (l.length-1) 0)))):=by
 have c25:=uvb l h
 refine ua0.is fun R hR=>qW (sc:=sc97) tyok mix Tryz.func97 rfl Tryz.call97 (by kernel_rfl) (by kernel_rfl) ?_
 generalize Tryz.prog=P at c25⊢
 cbv
 repeat' (first
  |with_reducible refine hold ?_ ?_
  |with_reducible refine And.intro ?_ ?_
  |(with_reducible intro hcd;(try simp only [zA,zB,zC,zD,zE,zF,zG,zH,zI,zJ,zK,zL,zM,zN,zO,zP]at hcd);try cbv)
  | (refine qP ?_ (c25) ?hfit
     case hfit=>((repeat' (first|exact qB|refine qD ?_ ?_|exact qE (by rfl)|exact qF (by rfl)|exact Fit.refl _|exact qA|refine qC ?_ rfl ?_));done)
     try cbv)
  |fail)
 all_goals first
  |((try simp only [qV]at *);(try simp only [zQ,zA,zB,zC,zD,zE,zF,zG,zH,zI,zJ,zK,zL,zM,zN,zO,zP,zR,zS,uan,uas,uaM,uaV,uaZ,ub0,uaf,uah,uae,uag]at *);first|(refine qN ?_;omega)|(simp only [Hold];omega))
  |(subst hR;(refine qF ?_;(try simp only [qV]at *);(try simp only [zQ,zA,zB,zC,zD,zE,zF,zG,zH,zI,zJ,zK,zL,zM,zN,zO,zP,zR,zS]at *);(try simp only [uan,uas,uaM,uaV,uaZ,ub0,uaf,uah,uae,uag]at *);(try simp only [show Int.toNat 0=0 from rfl]at *);apply Bool.eq_iff_iff.2;simp only [uaZ,uan,uas,uaM,uaV,uaZ,ub0,uaf,uah,uae,uag,Bool.and_eq_true,Bool.or_eq_true,Bool.not_eq_true',decide_eq_true_eq,decide_eq_false_iff_not,Bool.false_eq_true,reduceCtorEq,Bool.true_and,Bool.and_true,Bool.false_and,Bool.and_false,iff_true,true_iff,Bool.not_true,Bool.not_false]at *;constructor<;>intro q<;>first|omega|(exact q.elim)|(exact absurd q (by omega)));done)
  |skip
theorem uv2 (n lo hi:Int):(decide (lo≤n)&&decide (n≤hi))=inB lo n hi:=by
 apply Bool.eq_iff_iff.2
 rw [uaM,Bool.and_eq_true,decide_eq_true_eq,decide_eq_true_eq]
theorem in17 (n lo hi:Int):ua0 Tryz.prog 22 [(iv fun _=>n),(iv fun _=>lo),(iv fun _=>hi)] [] (fun r _=>r=(.bool (.sym fun _=>inB lo n hi))):=by
 have:=in31 n lo hi
 simp only [uv2]at this
 exact this
set_option maxHeartbeats 1000000 in
theorem uuf (d:Dsp):ua0 Tryz.prog 58 [(dspS d)] [] (fun r _=>r=(iv fun _=>ua4 d)):=by
 have c75:=usN d.tw d.tm d.tv
 have c17:= @in17
 have c76:= @uqL
 have hwm:=fun h:ubE d.tw d.tm d.tv=0=>udj h
 refine ua0.is fun R hR=>qW (sc:=sc58) tyok mix Tryz.func58 rfl Tryz.call58 (by kernel_rfl) (by kernel_rfl) ?_
 generalize Tryz.prog=P at c75 c17 c76⊢
 cbv
 repeat' (first
  |with_reducible refine And.intro ?_ ?_
  |(with_reducible intro hcd;(try simp only [zA,zB,zC,zD,zE,zF,zG,zH,zI,zJ,zK,zL,zM,zN,zO,zP]at hcd);try cbv)
  | (refine qP ?_ (c75) ?hfit
     case hfit=>((repeat' (first|exact qB|refine qD ?_ ?_|exact qE (by rfl)|exact qF (by rfl)|exact Fit.refl _|exact qA|refine qC ?_ rfl ?_));done)
     try cbv)
  |fail)
 all_goals first
  |(subst hR;(refine qE ?_;(try simp only [qV]at *);(try simp only [zQ,zA,zB,zC,zD,zE,zF,zG,zH,zI,zJ,zK,zL,zM,zN,zO,zP,zR,zS]at *);exact(ug9 (by first|assumption|omega)).symm);done)
  |(subst hR;(refine qE ?_;(try simp only [qV]at *);(try simp only [zQ,zA,zB,zC,zD,zE,zF,zG,zH,zI,zJ,zK,zL,zM,zN,zO,zP,zR,zS]at *);exact(ufs (by first|assumption|omega) (by unfold uef;omega)).symm);done)
  |(subst hR;(refine qE ?_;(try simp only [qV]at *);(try simp only [zQ,zA,zB,zC,zD,zE,zF,zG,zH,zI,zJ,zK,zL,zM,zN,zO,zP,zR,zS]at *);exact(ueT (by first|assumption|omega) (by unfold uef;omega) (fun g=>by have a1:=g.1;have a2:=g.2.1;omega)).symm);done)
  |skip
 have hF:ubE d.tw d.tm d.tv=0:=by((try simp only [qV]at *);(try simp only [zQ,zA,zB,zC,zD,zE,zF,zG,zH,zI,zJ,zK,zL,zM,zN,zO,zP,zR,zS]at *);first|assumption|omega)
 have hm:¬uef d:=by unfold uef;((try simp only [qV]at *);(try simp only [zQ,zA,zB,zC,zD,zE,zF,zG,zH,zI,zJ,zK,zL,zM,zN,zO,zP,zR,zS]at *);omega)
 have hs1:1≤d.sn:=by((try simp only [qV]at *);(try simp only [zQ,zA,zB,zC,zD,zE,zF,zG,zH,zI,zJ,zK,zL,zM,zN,zO,zP,zR,zS]at *);omega)
 have hp1:1≤d.pn:=by((try simp only [qV]at *);(try simp only [zQ,zA,zB,zC,zD,zE,zF,zG,zH,zI,zJ,zK,zL,zM,zN,zO,zP,zR,zS]at *);omega)
 have hT:=hwm hF
 have hw2:=hT.w2
 have hw5:=hT.w5
 have hm2:=hT.m2
 have hm5:=hT.m5
 have hsm:d.sn≤3:=by((try simp only [qV]at *);(try simp only [zQ,zA,zB,zC,zD,zE,zF,zG,zH,zI,zJ,zK,zL,zM,zN,zO,zP,zR,zS]at *);omega)
 have hpm:d.pn≤4:=by((try simp only [qV]at *);(try simp only [zQ,zA,zB,zC,zD,zE,zF,zG,zH,zI,zJ,zK,zL,zM,zN,zO,zP,zR,zS]at *);omega)
 have c76w:=fun (a b:Int)=>c76 a b d.tw ⟨by omega,by omega⟩
 have c76m:=fun (a b:Int)=>c76 a b d.tm ⟨by omega,by omega⟩
 refine⟨none,[],{i:Nat // i≤d.ls.length∧∀k,k<i→ucw d.sn (d.ls.getD k l0T)},fun x=>⟨[(1,.own 0 0),(4,(iv fun _=>zi x.1))],[(0,.cells [(iS d.tw),(iS d.tm),(.sl 1 (.sym fun _=>zi (d.tv).length) (fun ix=>[(.sl 1 (.sym fun _=>zi ((d.tv).getD ix.den.toNat []).length) (fun jx=>[(iv fun _=>((d.tv).getD ix.den.toNat []).getD jx.den.toNat 0)]))])),(iv fun _=>d.sn),(iv fun _=>d.pn),(.sl 4 (.sym fun _=>zi (d.ls).length) (fun ix=>[(iv fun _=>((d.ls).getD ix.den.toNat l0T).a),(iv fun _=>((d.ls).getD ix.den.toNat l0T).b),(iv fun _=>((d.ls).getD ix.den.toNat l0T).lo),(iv fun _=>((d.ls).getD ix.den.toNat l0T).hi)])),(.sl 6 (.sym fun _=>zi (d.fs).length) (fun ix=>[(iv fun _=>((d.fs).getD ix.den.toNat f0T).p),(iv fun _=>((d.fs).getD ix.den.toNat f0T).s),(iv fun _=>((d.fs).getD ix.den.toNat f0T).wl),(iv fun _=>((d.fs).getD ix.den.toNat f0T).wh),(iv fun _=>((d.fs).getD ix.den.toNat f0T).ml),(iv fun _=>((d.fs).getD ix.den.toNat f0T).mh)]))] 29)],100⟩,fun x=>d.ls.length-x.1,?_,?_⟩
 ·refine⟨⟨0,by omega,fun k hk=>by omega⟩,?_⟩
  cbv
  repeat' (first
   |with_reducible refine hold ?_ ?_
   |with_reducible refine And.intro ?_ ?_)
  all_goals first
   |trivial
   |exact qM (qE (by rfl))
   |exact qM (Fit.refl _)
   |exact qL (qK _)
   |skip
 ·rintro ⟨i,hi,hq⟩
  cbv
  repeat' (first
   |with_reducible refine hold ?_ ?_
   |with_reducible refine And.intro ?_ ?_
   |(with_reducible intro hcd;(try simp only [zA,zB,zC,zD,zE,zF,zG,zH,zI,zJ,zK,zL,zM,zN,zO,zP]at hcd);try cbv)
   | (refine qP ?_ (c17 _ _ _) (by(repeat' (first|exact qB|refine qD ?_ ?_|exact qE (by rfl)|exact qF (by rfl)|exact Fit.refl _|exact qA|refine qC ?_ rfl ?_)))
      try cbv)
   |fail)
  all_goals first
   |((try simp only [qV]at *);(try simp only [zQ,zA,zB,zC,zD,zE,zF,zG,zH,zI,zJ,zK,zL,zM,zN,zO,zP,zR,zS,uan,uas,uaM,uaV,uaZ,ub0,uaf,uah,uae,uag]at *);first|(refine qN ?_;omega)|(simp only [Hold];omega))
   |(subst hR;(refine qE ?_;(try simp only [qV]at *);(try simp only [zQ,zA,zB,zC,zD,zE,zF,zG,zH,zI,zJ,zK,zL,zM,zN,zO,zP,zR,zS]at *);(try simp only [uan,uas,uaM,uaV,uaZ,ub0,uaf,uah,uae,uag]at *);exact(ueT hF hm (fun g=>by have g:=ueH.1 g;have q:=g.2.2.1 i (by omega);unfold ucw at q;omega)).symm);done)
   |((try simp only [zQ,zA,zB,zC,zD,zE,zF,zG,zH,zI,zJ,zK,zL,zM,zN,zO,zP,zR,zS,uan,uas,uaM,uaV,uaZ,ub0,uaf,uah,uae,uag]at *);refine⟨⟨i+1,by omega,fun k hk=>(Nat.lt_or_ge k i).elim (hq k) fun q=>by rw [show k=i by omega];unfold ucw;omega⟩,by simp only [];omega,?_⟩;cbv;(repeat' (first|with_reducible refine hold ?_ ?_|with_reducible refine And.intro ?_ ?_));(all_goals first|trivial|exact qM (qE (by rfl))|exact qM (qF (by rfl))|exact qM (Fit.refl _)|exact qL (qK _)|(refine qM (qE ?_);(try simp only [qV]at *);simp only [zQ,zA,zB,zC,zD,zE,zF,zG,zH,zI,zJ,zK,zL,zM,zN,zO,zP,zR,zS]at *;omega)|(refine qL (qJ ?_);(repeat' (first|exact qA|exact qB|refine qC ?_ rfl ?_|refine qD ?_ ?_|exact qE (by rfl)|exact qF (by rfl)|exact Fit.refl _|exact qG _|(refine qE ?_;(try simp only [qV]at *);simp only [zQ,zA,zB,zC,zD,zE,zF,zG,zH,zI,zJ,zK,zL,zM,zN,zO,zP,zR,zS]at *;omega)));done)|skip))
   |skip
  have hq:∀k,k<d.ls.length→ucw d.sn (d.ls.getD k l0T):=fun k hk=>hq k (by((try simp only [qV]at *);(try simp only [zQ,zA,zB,zC,zD,zE,zF,zG,zH,zI,zJ,zK,zL,zM,zN,zO,zP,zR,zS]at *);omega))
  refine⟨none,[],{j:Nat // j≤d.fs.length∧∀k,k<j→ubN d (d.fs.getD k f0T)},fun x=>⟨[(1,.own 0 0),(6,(iv fun _=>zi x.1))],[(0,.cells [(iS d.tw),(iS d.tm),(.sl 1 (.sym fun _=>zi (d.tv).length) (fun ix=>[(.sl 1 (.sym fun _=>zi ((d.tv).getD ix.den.toNat []).length) (fun jx=>[(iv fun _=>((d.tv).getD ix.den.toNat []).getD jx.den.toNat 0)]))])),(iv fun _=>d.sn),(iv fun _=>d.pn),(.sl 4 (.sym fun _=>zi (d.ls).length) (fun ix=>[(iv fun _=>((d.ls).getD ix.den.toNat l0T).a),(iv fun _=>((d.ls).getD ix.den.toNat l0T).b),(iv fun _=>((d.ls).getD ix.den.toNat l0T).lo),(iv fun _=>((d.ls).getD ix.den.toNat l0T).hi)])),(.sl 6 (.sym fun _=>zi (d.fs).length) (fun ix=>[(iv fun _=>((d.fs).getD ix.den.toNat f0T).p),(iv fun _=>((d.fs).getD ix.den.toNat f0T).s),(iv fun _=>((d.fs).getD ix.den.toNat f0T).wl),(iv fun _=>((d.fs).getD ix.den.toNat f0T).wh),(iv fun _=>((d.fs).getD ix.den.toNat f0T).ml),(iv fun _=>((d.fs).getD ix.den.toNat f0T).mh)]))] 29)],200⟩,fun x=>d.fs.length-x.1,?_,?_⟩
  ·refine⟨⟨0,by omega,fun k hk=>by omega⟩,?_⟩
   cbv
   repeat' (first
    |with_reducible refine hold ?_ ?_
    |with_reducible refine And.intro ?_ ?_)
   all_goals first
    |trivial
    |exact qM (qE (by rfl))
    |exact qM (Fit.refl _)
    |exact qL (qK _)
    |skip
  ·rintro ⟨j,hj,hr⟩
   cbv
   repeat' (first
    |with_reducible refine hold ?_ ?_
    |with_reducible refine And.intro ?_ ?_
    |(with_reducible intro hcd;(try simp only [zA,zB,zC,zD,zE,zF,zG,zH,zI,zJ,zK,zL,zM,zN,zO,zP]at hcd);try cbv)
    | (refine qP ?_ (c17 _ _ _) (by(repeat' (first|exact qB|refine qD ?_ ?_|exact qE (by rfl)|exact qF (by rfl)|exact Fit.refl _|exact qA|refine qC ?_ rfl ?_)))
       try cbv)
    | (refine qP ?_ (c76w (d.fs.getD j f0T).wl (d.fs.getD j f0T).wh) ?hfit
       case hfit=>((repeat' (first|exact qB|refine qD ?_ ?_|exact qE (by rfl)|exact qF (by rfl)|exact Fit.refl _|exact qA|refine qC ?_ rfl ?_));done)
       try cbv)
    | (refine qP ?_ (c76m (d.fs.getD j f0T).ml (d.fs.getD j f0T).mh) ?hfit
       case hfit=>((repeat' (first|exact qB|refine qD ?_ ?_|exact qE (by rfl)|exact qF (by rfl)|exact Fit.refl _|exact qA|refine qC ?_ rfl ?_));done)
       try cbv)
    |fail)
   all_goals first
    |((try simp only [qV]at *);(try simp only [zQ,zA,zB,zC,zD,zE,zF,zG,zH,zI,zJ,zK,zL,zM,zN,zO,zP,zR,zS,uan,uas,uaM,uaV,uaZ,ub0,uaf,uah,uae,uag]at *);first|(refine qN ?_;omega)|(simp only [Hold];omega))
    |(subst hR;(refine qE ?_;(try simp only [qV]at *);(try simp only [zQ,zA,zB,zC,zD,zE,zF,zG,zH,zI,zJ,zK,zL,zM,zN,zO,zP,zR,zS]at *);(try simp only [uan,uas,uaM,uaV,uaZ,ub0,uaf,uah,uae,uag]at *);exact(ueT hF hm (fun g=>by have g:=ueH.1 g;have q:=g.2.2.2 j (by omega);unfold ubN at q;first|omega|(rw [show ofB (d.tw.getD 0 0) (d.fs.getD j f0T).wl (d.fs.getD j f0T).wh (d.tw.getD (d.tw.length-1) 0)=false by assumption]at *;omega))).symm);done)
    |(subst hR;(refine qE ?_;(try simp only [qV]at *);(try simp only [zQ,zA,zB,zC,zD,zE,zF,zG,zH,zI,zJ,zK,zL,zM,zN,zO,zP,zR,zS]at *);(try simp only [uan,uas,uaM,uaV,uaZ,ub0,uaf,uah,uae,uag]at *);exact(ugD hF hm (ueH.2 ⟨hs1,hp1,fun k hk=>hq k (by omega),fun k hk=>hr k (by omega)⟩)).symm);done)
    |((try simp only [zQ,zA,zB,zC,zD,zE,zF,zG,zH,zI,zJ,zK,zL,zM,zN,zO,zP,zR,zS,uan,uas,uaM,uaV,uaZ,ub0,uaf,uah,uae,uag]at *);refine⟨⟨j+1,by omega,fun k hk=>(Nat.lt_or_ge k j).elim (hr k) fun q=>by rw [show k=j by omega];unfold ubN;omega⟩,by simp only [];omega,?_⟩;cbv;(repeat' (first|with_reducible refine hold ?_ ?_|with_reducible refine And.intro ?_ ?_));(all_goals first|trivial|exact qM (qE (by rfl))|exact qM (qF (by rfl))|exact qM (Fit.refl _)|exact qL (qK _)|(refine qM (qE ?_);(try simp only [qV]at *);simp only [zQ,zA,zB,zC,zD,zE,zF,zG,zH,zI,zJ,zK,zL,zM,zN,zO,zP,zR,zS]at *;omega)|(refine qL (qJ ?_);(repeat' (first|exact qA|exact qB|refine qC ?_ rfl ?_|refine qD ?_ ?_|exact qE (by rfl)|exact qF (by rfl)|exact Fit.refl _|exact qG _|(refine qE ?_;(try simp only [qV]at *);simp only [zQ,zA,zB,zC,zD,zE,zF,zG,zH,zI,zJ,zK,zL,zM,zN,zO,zP,zR,zS]at *;omega)));done)|skip))
    |skip
theorem uer (d:Dsp):ua0 Tryz.prog 21 [(dspS d)] [] (fun r _=>r=(iv fun _=>ua4 d)):=by
 have c47:=uuf d
 refine ua0.is fun R hR=>qW (sc:=sc21) tyok mix Tryz.func21 rfl Tryz.call21 (by kernel_rfl) (by kernel_rfl) ?_
 generalize Tryz.prog=P at c47⊢
 cbv
 repeat' (first
  | (refine qP ?_ (c47) ?hfit
     case hfit=>((repeat' (first|exact qB|refine qD ?_ ?_|exact qE (by rfl)|exact qF (by rfl)|exact Fit.refl _|exact qA|refine qC ?_ rfl ?_));done)
     try cbv)
  |fail)
 all_goals first
  |(subst hR;(repeat' (first|exact qA|exact qB|refine qC ?_ rfl ?_|refine qD ?_ ?_|exact qE (by rfl)|exact qF (by rfl)|exact Fit.refl _|exact qG _|(refine qE ?_;(try simp only [qV]at *);simp only [zQ,zA,zB,zC,zD,zE,zF,zG,zH,zI,zJ,zK,zL,zM,zN,zO,zP,zR,zS]at *;omega)));done)
  |skip
theorem uw3 (d:Dsp)(f:FaT)(hT:TOk d.tw d.tm d.tv)(hf:ubN d f):ua0 Tryz.prog 80 [(dspS d),(.agg [(iv fun _=>f.p),(iv fun _=>f.s),(iv fun _=>f.wl),(iv fun _=>f.wh),(iv fun _=>f.ml),(iv fun _=>f.mh)])] [] (fun r _=>r=(.agg [(iv fun _=>mLo d f),(iv fun _=>mHi d f)])):=by
 have c53:=uqc d.tw d.tm d.tv f.wl f.wh f.ml f.mh hT (uil hf)
 refine ua0.is fun R hR=>qW (sc:=sc80) tyok mix Tryz.func80 rfl Tryz.call80 (by kernel_rfl) (by kernel_rfl) ?_
 generalize Tryz.prog=P at c53⊢
 cbv
 repeat' (first
  | (refine qP ?_ (c53) ?hfit
     case hfit=>((repeat' (first|exact qB|refine qD ?_ ?_|exact qE (by rfl)|exact qF (by rfl)|exact Fit.refl _|exact qA|refine qC ?_ rfl ?_));done)
     try cbv)
  |fail)
 all_goals first
  |(subst hR;(repeat' (first|exact qA|exact qB|refine qC ?_ rfl ?_|refine qD ?_ ?_|exact qE (by rfl)|exact qF (by rfl)|exact Fit.refl _|exact qG _|(refine qE ?_;(try simp only [qV]at *);simp only [zQ,zA,zB,zC,zD,zE,zF,zG,zH,zI,zJ,zK,zL,zM,zN,zO,zP,zR,zS]at *;omega)));done)
  |skip
end Go.Proofs.YtkdggbfknlcdaaaGreat
namespace Go.Proofs.YtkdggbfknlcdaaaGreat
open Go.Eng.Dif Go.Eng.Few
theorem uq9 {d:Dsp}(hF:ua4 d=0)(h:¬ua9 d=0):ua9 d=9:=by
 cases hl:udv d with
 |true=>exact absurd (udO hF hl) h
 |false=>exact ufS hF hl
def wL (a1 a2:Int)(x:LkT):LkT:=⟨x.a,x.b,max (-2000) (x.lo-a1),min 2000 (x.hi+a2)⟩
theorem unP {k p:Nat}(hp:p≤16)(h:¬0<(k:Int).fdiv (2^p)):ua7 k p=ua7 k 16:=by
 rw [ufX]at h
 have h0:k/2^p=0:=by clear hp;generalize k/2^p=z at h⊢;omega
 have h1:k<2^p:=by
  rcases Nat.lt_or_ge k (2^p)with q|q
  ·exact q
  ·have:=Nat.div_pos q (Nat.pow_pos (by decide));omega
 have:=ukG h1 (16-p)
 rw [show p+(16-p)=16 by omega]at this
 exact this.symm
theorem ujJ {k p:Nat}(hk:k<2^16)(h:0<(k:Int).fdiv (2^p)):p<16:=by
 rw [ufX]at h
 rcases Nat.lt_or_ge p 16 with q|q
 ·exact q
 ·have h1:2^16≤2^p:=Nat.pow_le_pow_right (by decide) q
  have h0:k/2^p=0:=Nat.div_eq_of_lt (by omega)
  omega
def shE (d:Dsp)(s:Int):Int:=if ua4 d=0 then(if inB 0 s (d.sn-1)=true then(if canT d d.fs []=true then 0 else 11)else 2)else ua4 d
def shN (d:Dsp)(s:Int):Int:=if shE d s=0 then d.sn else 0
end Go.Proofs.YtkdggbfknlcdaaaGreat
namespace Go.Proofs.YtkdggbfknlcdaaaGreat
open Go Go.Eng Go.Proofs Go.Eng.Dif Go.Eng.Few
set_option maxRecDepth 10000
theorem usa (k:Nat)(hk:k<2^16):ua0 Tryz.prog 48 [(iv fun _=>zi k)] [] (fun r _=>r=(iS (ua7 k 16))):=by
 refine ua0.is fun R hR=>qW (sc:=sc48) tyok mix Tryz.func48 rfl Tryz.call48 (by kernel_rfl) (by kernel_rfl) ?_
 generalize Tryz.prog=P
 cbv
 repeat' (first
  |fail)
 all_goals first
  |skip
 refine⟨none,[⟨.tmp 3,3,1⟩],{x:Nat×List Int // x.1≤16∧x.2=ua7 k x.1},fun x=>⟨[(0,(iv fun _=>zi k)),(3,.row 3),(4,(iv fun _=>zi x.1.1))],[(3,.row 3 1 (.sym fun _=>zi (x.1.2).length) (fun ix=>[(iv fun _=>(x.1.2).getD ix.den.toNat 0)]))],30⟩,fun x=>16-x.1.1,?_,?_⟩
 ·refine⟨⟨(0,[]),by omega,rfl⟩,?_⟩
  cbv
  repeat' (first
   |with_reducible refine hold ?_ ?_
   |with_reducible refine And.intro ?_ ?_)
  all_goals first
   |trivial
   |exact qM (qE (by rfl))
   |exact qM (Fit.refl _)
   |(refine qL (ua8 ?_ ?_);(first|rfl|((try simp only [qV]at *);(try simp only [zQ,zA,zB,zC,zD,zE,zF,zG,zH,zI,zJ,zK,zL,zM,zN,zO,zP,zR,zS]at *);omega));intro ix h0 h1;exfalso;(try simp only [qV]at *);(try simp only [zQ,zA,zB,zC,zD,zE,zF,zG,zH,zI,zJ,zK,zL,zM,zN,zO,zP,zR,zS]at *);omega)
   |skip
 ·rintro ⟨⟨p,L⟩,hp,hL⟩
  cbv
  dsimp only at hp hL
  have hs:=uvU k p
  have hlen:=ugo k p
  rw [←hL]at hlen
  repeat' (first
   |with_reducible refine hold ?_ ?_
   |with_reducible refine And.intro ?_ ?_
   | (with_reducible refine qT ?_ ?_
      try cbv)
   |(with_reducible intro hcd;(try simp only [zA,zB,zC,zD,zE,zF,zG,zH,zI,zJ,zK,zL,zM,zN,zO,zP]at hcd);try cbv)
   | (with_reducible refine utL ?_ ?_
      try cbv)
   | (obtain⟨L2,eL2⟩:∃y:List Int,y=L++[zi p]:=⟨_,rfl⟩
      refine⟨udn L2,?_⟩
      cbv
      refine hold (uai (L:=L) eL2 (by(first|rfl|((try simp only [qV]at *);(try simp only [zQ,zA,zB,zC,zD,zE,zF,zG,zH,zI,zJ,zK,zL,zM,zN,zO,zP,zR,zS]at *);done)|((try simp only [qV]at *);(try simp only [zQ,zA,zB,zC,zD,zE,zF,zG,zH,zI,zJ,zK,zL,zM,zN,zO,zP,zR,zS]at *);omega))) (by rfl) (fun ix=>Fit.refl _) (fun ix h=>qC (qE (by rfl)) rfl qA) (by(try simp only [qV]at *);(try simp only [zQ,zA,zB,zC,zD,zE,zF,zG,zH,zI,zJ,zK,zL,zM,zN,zO,zP,zR,zS]at *);omega)) (Or.inl ?_)
      try cbv)
   |fail)
  all_goals first
   |((try simp only [qV]at *);(try simp only [zQ,zA,zB,zC,zD,zE,zF,zG,zH,zI,zJ,zK,zL,zM,zN,zO,zP,zR,zS]at *);first|(refine qN ?_;omega)|(simp only [Hold];omega))
   |((try simp only [qV]at *);(try simp only [zQ,zA,zB,zC,zD,zE,zF,zG,zH,zI,zJ,zK,zL,zM,zN,zO,zP,zR,zS]at *);first|(refine ueb ?_;omega)|(refine uqa ?_;omega)|(refine ucS ?_;omega)|(refine qN ?_;omega))
   |((try simp only [zQ,zA,zB,zC,zD,zE,zF,zG,zH,zI,zJ,zK,zL,zM,zN,zO,zP,zR,zS]at *);(have hp16:p<16:=ujJ hk (by((try simp only [qV]at *);(try simp only [zQ,zA,zB,zC,zD,zE,zF,zG,zH,zI,zJ,zK,zL,zM,zN,zO,zP,zR,zS]at *);first|assumption|omega)));refine⟨⟨(p+1,L2),by((try simp only [qV]at *);(try simp only [zQ,zA,zB,zC,zD,zE,zF,zG,zH,zI,zJ,zK,zL,zM,zN,zO,zP,zR,zS]at *);omega),by rw [eL2,hL];exact(utb (by(try simp only [qV]at *);(try simp only [zQ,zA,zB,zC,zD,zE,zF,zG,zH,zI,zJ,zK,zL,zM,zN,zO,zP,zR,zS]at *);assumption)).symm⟩,by simp only [];omega,?_⟩;cbv;(repeat' (first|with_reducible refine hold ?_ ?_|with_reducible refine And.intro ?_ ?_));(all_goals first|trivial|exact qM (qE (by rfl))|exact qM (qF (by rfl))|exact qM (Fit.refl _)|exact qL (qK _)|(refine qM (qE ?_);(try simp only [qV]at *);simp only [zQ,zA,zB,zC,zD,zE,zF,zG,zH,zI,zJ,zK,zL,zM,zN,zO,zP,zR,zS]at *;omega)|(refine qL (uiz ?_ ?_);(first|rfl|((try simp only [qV]at *);(try simp only [zQ,zA,zB,zC,zD,zE,zF,zG,zH,zI,zJ,zK,zL,zM,zN,zO,zP,zR,zS]at *);simp only [eL2,List.length_append,List.length_cons,List.length_nil];omega));intro ix;(try simp only [eL2]);first|exact Fit.refl _|exact qC (qE (by rfl)) rfl qA)|skip))
   |((try simp only [zQ,zA,zB,zC,zD,zE,zF,zG,zH,zI,zJ,zK,zL,zM,zN,zO,zP,zR,zS]at *);(have hp16:p<16:=ujJ hk (by((try simp only [qV]at *);(try simp only [zQ,zA,zB,zC,zD,zE,zF,zG,zH,zI,zJ,zK,zL,zM,zN,zO,zP,zR,zS]at *);first|assumption|omega)));refine⟨⟨(p+1,L),by((try simp only [qV]at *);(try simp only [zQ,zA,zB,zC,zD,zE,zF,zG,zH,zI,zJ,zK,zL,zM,zN,zO,zP,zR,zS]at *);omega),by rw [hL];exact(utT (by(try simp only [qV]at *);(try simp only [zQ,zA,zB,zC,zD,zE,zF,zG,zH,zI,zJ,zK,zL,zM,zN,zO,zP,zR,zS]at *);assumption)).symm⟩,by simp only [];omega,?_⟩;cbv;(repeat' (first|with_reducible refine hold ?_ ?_|with_reducible refine And.intro ?_ ?_));(all_goals first|trivial|exact qM (qE (by rfl))|exact qM (qF (by rfl))|exact qM (Fit.refl _)|exact qL (qK _)|(refine qM (qE ?_);(try simp only [qV]at *);simp only [zQ,zA,zB,zC,zD,zE,zF,zG,zH,zI,zJ,zK,zL,zM,zN,zO,zP,zR,zS]at *;omega)|(refine qL (uiz ?_ ?_);(first|rfl|((try simp only [qV]at *);(try simp only [zQ,zA,zB,zC,zD,zE,zF,zG,zH,zI,zJ,zK,zL,zM,zN,zO,zP,zR,zS]at *);simp only [List.length_append,List.length_cons,List.length_nil];omega));intro ix;first|exact Fit.refl _|exact qC (qE (by rfl)) rfl qA)|skip))
   |((have hst:ua7 k p=ua7 k 16:=unP hp (by((try simp only [qV]at *);(try simp only [zQ,zA,zB,zC,zD,zE,zF,zG,zH,zI,zJ,zK,zL,zM,zN,zO,zP,zR,zS]at *);first|assumption|omega)));(have hLL:L=ua7 k 16:=hL.trans hst);subst hLL;subst hR;exact Fit.refl _)
   |skip
theorem uqX (a b:List Int)(ha:a.length≤1000)(he:a.length=b.length):ua0 Tryz.prog 60 [(iS a),(iS b)] [] (fun r _=>r=(.bool (.sym fun _=>ucz.lexB a b))):=by
 refine ua0.is fun R hR=>qW (sc:=sc60) tyok mix Tryz.func60 rfl Tryz.call60 (by kernel_rfl) (by kernel_rfl) ?_
 generalize Tryz.prog=P
 cbv
 repeat' (first
  |fail)
 all_goals first
  |skip
 refine⟨none,[],{i:Nat // i≤a.length∧∀j,j<i→a.getD j 0=b.getD j 0},fun x=>⟨[(0,(iS a)),(1,(iS b)),(5,(iv fun _=>zi x.1))],[],60⟩,fun x=>a.length-x.1,?_,?_⟩
 ·refine⟨⟨0,by omega,fun j hj=>by omega⟩,?_⟩
  cbv
  repeat' (first
   |with_reducible refine hold ?_ ?_
   |with_reducible refine And.intro ?_ ?_)
  all_goals first
   |trivial
   |exact qM (qE (by rfl))
   |exact qM (Fit.refl _)
   |skip
 ·rintro⟨i,hi,hq⟩
  cbv
  repeat' (first
   |with_reducible refine hold ?_ ?_
   |with_reducible refine And.intro ?_ ?_
   |(with_reducible intro hcd;(try simp only [zA,zB,zC,zD,zE,zF,zG,zH,zI,zJ,zK,zL,zM,zN,zO,zP]at hcd);try cbv)
   |fail)
  all_goals first
   |((try simp only [qV]at *);(try simp only [zQ,zA,zB,zC,zD,zE,zF,zG,zH,zI,zJ,zK,zL,zM,zN,zO,zP,zR,zS]at *);first|(refine qN ?_;omega)|(simp only [Hold];omega))
   |(subst hR;(refine qF ?_;(have hne:¬a.getD i 0=b.getD i 0:=by assumption);exact(uvY (i:=i) (by((try simp only [qV]at *);(try simp only [zQ,zA,zB,zC,zD,zE,zF,zG,zH,zI,zJ,zK,zL,zM,zN,zO,zP,zR,zS]at *);omega)) he hq hne).symm);done)
   |(subst hR;(refine qF ?_;rw [uqm (a:=a) (b:=b) (fun j hj=>hq j (by((try simp only [qV]at *);(try simp only [zQ,zA,zB,zC,zD,zE,zF,zG,zH,zI,zJ,zK,zL,zM,zN,zO,zP,zR,zS]at *);omega))) he];(try simp only [qV]at *);(try simp only [zQ,zA,zB,zC,zD,zE,zF,zG,zH,zI,zJ,zK,zL,zM,zN,zO,zP,zR,zS]at *);first|omega|exact decide_eq_false (by omega));done)
   |((try simp only [zQ,zA,zB,zC,zD,zE,zF,zG,zH,zI,zJ,zK,zL,zM,zN,zO,zP,zR,zS]at *);(have hne:a.getD i 0=b.getD i 0:=by first|assumption|exact Classical.not_not.1 (by assumption));refine⟨⟨i+1,by((try simp only [qV]at *);(try simp only [zQ,zA,zB,zC,zD,zE,zF,zG,zH,zI,zJ,zK,zL,zM,zN,zO,zP,zR,zS]at *);omega),fun j hj=>(Nat.lt_or_ge j i).elim (hq j) fun q=>by rw [show j=i by omega];exact hne⟩,by simp only [];omega,?_⟩;cbv;(repeat' (first|with_reducible refine hold ?_ ?_|with_reducible refine And.intro ?_ ?_));(all_goals first|trivial|exact qM (qE (by rfl))|exact qM (qF (by rfl))|exact qM (Fit.refl _)|exact qL (qK _)|(refine qM (qE ?_);(try simp only [qV]at *);simp only [zQ,zA,zB,zC,zD,zE,zF,zG,zH,zI,zJ,zK,zL,zM,zN,zO,zP,zR,zS]at *;omega)|skip))
   |skip
theorem uor {a b:Int} {x y:Nat}(ha:a=(x:Int))(hb:b=(y:Int))(hx:x<2^6)(hy:y<2^6):Hold (∃x' y':Nat,a=(x':Int)∧b=(y':Int)∧inR .i64 (x':Int)∧inR .i64 (y':Int)∧inR .i64 ((x' |||y':Nat):Int)∧zi (x |||y)=((x' |||y':Nat):Int)):=by
 have h3:(x |||y)<2^6:=Nat.or_lt_two_pow hx hy
 refine⟨x,y,ha,hb,?_,?_,?_,rfl⟩<;>unfold inR<;>simp only<;>omega
theorem uvi {q:Int}(h0:0≤q)(hn:q≤6):Hold (inR .i64 (1*2^q.toNat)):=by
 have h2:2^q.toNat≤2^6:=Nat.pow_le_pow_right (by decide) (by omega)
 have e:(1:Int)*2^q.toNat=((2^q.toNat:Nat):Int):=by simp
 rw [e]
 clear e
 generalize 2^q.toNat=y at h2⊢
 refine qN ?_
 omega
theorem uxW {pt:Nat→Int} {b i:Nat} {q:Int}(hq:pt i=q)(h0:0≤q)(h:((b:Int).fdiv (2^q.toNat)).tmod 2=1):ofN pt b i |||2^i=ofN pt b (i+1):=by
 subst hq
 have:=(umb b _).1 h
 simp only [ofN,this,if_true]
theorem uxn {pt:Nat→Int} {b i:Nat} {q:Int}(hq:pt i=q)(h:¬((b:Int).fdiv (2^q.toNat)).tmod 2=1):ofN pt b i=ofN pt b (i+1):=by
 subst hq
 have:b.testBit (pt i).toNat=false:=by
  cases e:b.testBit (pt i).toNat with
  |true=>exact absurd ((umb b _).2 e) h
  |false=>rfl
 simp only [ofN,this,Bool.false_eq_true,if_false]
theorem of30 (d:Dsp)(b:Nat)(hd:DOk d)(hb:b≤1000):ua0 Tryz.prog 59 [(dspS d),(iv fun _=>zi b)] [] (fun r _=>r=(iv fun _=>zi (ofN (ptD d) b d.fs.length))):=by
 have f6:=hd.f6
 have p4:=hd.p4
 have hml:∀i,i<d.fs.length→ofN (ptD d) b i<2^6:=fun i hi=>Nat.lt_of_lt_of_le (usl (ptD d) b i) (Nat.pow_le_pow_right (by decide) (by omega))
 have hpl:∀i,i<d.fs.length→2^i<2^6:=fun i hi=>Nat.pow_lt_pow_right (by decide) (by omega)
 have hpt:∀i,i<d.fs.length→0≤(d.fs.getD i f0T).p∧(d.fs.getD i f0T).p≤3:=fun i hi=>by have:=hd.f i hi;unfold ubN at this;omega
 refine ua0.is fun R hR=>qW (sc:=sc59) tyok mix Tryz.func59 rfl Tryz.call59 (by kernel_rfl) (by kernel_rfl) ?_
 generalize Tryz.prog=P
 cbv
 repeat' (first
  |fail)
 all_goals first
  |skip
 refine⟨none,[],{i:Nat // i≤d.fs.length},fun x=>⟨[(2,.own 0 0),(1,(iv fun _=>zi b)),(5,(iv fun _=>zi (ofN (ptD d) b x.1))),(6,(iv fun _=>zi x.1))],[(0,.cells [(iS d.tw),(iS d.tm),(.sl 1 (.sym fun _=>zi (d.tv).length) (fun ix=>[(.sl 1 (.sym fun _=>zi ((d.tv).getD ix.den.toNat []).length) (fun jx=>[(iv fun _=>((d.tv).getD ix.den.toNat []).getD jx.den.toNat 0)]))])),(iv fun _=>d.sn),(iv fun _=>d.pn),(.sl 4 (.sym fun _=>zi (d.ls).length) (fun ix=>[(iv fun _=>((d.ls).getD ix.den.toNat l0T).a),(iv fun _=>((d.ls).getD ix.den.toNat l0T).b),(iv fun _=>((d.ls).getD ix.den.toNat l0T).lo),(iv fun _=>((d.ls).getD ix.den.toNat l0T).hi)])),(.sl 6 (.sym fun _=>zi (d.fs).length) (fun ix=>[(iv fun _=>((d.fs).getD ix.den.toNat f0T).p),(iv fun _=>((d.fs).getD ix.den.toNat f0T).s),(iv fun _=>((d.fs).getD ix.den.toNat f0T).wl),(iv fun _=>((d.fs).getD ix.den.toNat f0T).wh),(iv fun _=>((d.fs).getD ix.den.toNat f0T).ml),(iv fun _=>((d.fs).getD ix.den.toNat f0T).mh)]))] 29)],100⟩,fun x=>d.fs.length-x.1,?_,?_⟩
 ·refine⟨⟨0,by omega⟩,?_⟩
  cbv
  repeat' (first
   |with_reducible refine hold ?_ ?_
   |with_reducible refine And.intro ?_ ?_)
  all_goals first
   |trivial
   |exact qM (qE (by rfl))
   |exact qM (Fit.refl _)
   |exact qL (qK _)
   |skip
 ·rintro ⟨i,hi⟩
  cbv
  have hs:=fun (hlt:i<d.fs.length)=>uvU b (d.fs.getD i f0T).p.toNat
  repeat' (first
   |with_reducible refine hold ?_ ?_
   |with_reducible refine And.intro ?_ ?_
   | (with_reducible refine qT ?_ ?_
      try cbv)
   |(with_reducible intro hcd;(try simp only [zA,zB,zC,zD,zE,zF,zG,zH,zI,zJ,zK,zL,zM,zN,zO,zP]at hcd);try cbv)
   | (with_reducible refine utL ?_ ?_
      try cbv)
   | (with_reducible refine uxi ?_ ?_ ?_
      try cbv)
   | (refine⟨zi (ofN (ptD d) b i |||2^i),?_⟩
      cbv
      refine hold (uor (x:=ofN (ptD d) b i) (y:=2^i) (by first|rfl|((try simp only [qV]at *);(try simp only [zQ,zA,zB,zC,zD,zE,zF,zG,zH,zI,zJ,zK,zL,zM,zN,zO,zP,zR,zS]at *);rfl)) (by((try simp only [qV]at *);(try simp only [zQ,zA,zB,zC,zD,zE,zF,zG,zH,zI,zJ,zK,zL,zM,zN,zO,zP,zR,zS]at *));(try simp)) (hml i (by((try simp only [qV]at *);(try simp only [zQ,zA,zB,zC,zD,zE,zF,zG,zH,zI,zJ,zK,zL,zM,zN,zO,zP,zR,zS]at *);omega))) (hpl i (by((try simp only [qV]at *);(try simp only [zQ,zA,zB,zC,zD,zE,zF,zG,zH,zI,zJ,zK,zL,zM,zN,zO,zP,zR,zS]at *);omega)))) ?_
      try cbv)
   |fail)
  all_goals first
   |((try simp only [qV]at *);(try simp only [zQ,zA,zB,zC,zD,zE,zF,zG,zH,zI,zJ,zK,zL,zM,zN,zO,zP,zR,zS]at *);first|(refine qN ?_;omega)|(simp only [Hold];omega))
   |(subst hR;(exact qE (congrArg (fun z=>zi (ofN (ptD d) b z)) (by((try simp only [qV]at *);(try simp only [zQ,zA,zB,zC,zD,zE,zF,zG,zH,zI,zJ,zK,zL,zM,zN,zO,zP,zR,zS]at *);omega))));done)
   |((have hlt:i<d.fs.length:=(by((try simp only [qV]at *);(try simp only [zQ,zA,zB,zC,zD,zE,zF,zG,zH,zI,zJ,zK,zL,zM,zN,zO,zP,zR,zS]at *);omega)));(have hp:=hpt i hlt);(have hs2:=hs hlt);(try simp only [qV]at *);(try simp only [zQ,zA,zB,zC,zD,zE,zF,zG,zH,zI,zJ,zK,zL,zM,zN,zO,zP,zR,zS]at *);first|(refine ueb ?_;omega)|(refine ucS ?_;omega)|(refine qN ?_;omega)|(simp only [Hold];omega))
   |((have hlt:i<d.fs.length:=(by((try simp only [qV]at *);(try simp only [zQ,zA,zB,zC,zD,zE,zF,zG,zH,zI,zJ,zK,zL,zM,zN,zO,zP,zR,zS]at *);omega)));exact uvi (q:=zi i) (by simp only [uab];omega) (by simp only [uab];omega))
   |((try simp only [zQ,zA,zB,zC,zD,zE,zF,zG,zH,zI,zJ,zK,zL,zM,zN,zO,zP,zR,zS]at *);(have hlt:i<d.fs.length:=(by((try simp only [qV]at *);(try simp only [zQ,zA,zB,zC,zD,zE,zF,zG,zH,zI,zJ,zK,zL,zM,zN,zO,zP,zR,zS]at *);omega)));(have hy:=uxW (pt:=ptD d) (b:=b) (i:=i) (q:=(d.fs.getD i f0T).p) rfl (hpt i hlt).1 (by assumption));refine⟨⟨i+1,by((try simp only [qV]at *);(try simp only [zQ,zA,zB,zC,zD,zE,zF,zG,zH,zI,zJ,zK,zL,zM,zN,zO,zP,zR,zS]at *);omega)⟩,by simp only [];omega,?_⟩;cbv;(repeat' (first|with_reducible refine hold ?_ ?_|with_reducible refine And.intro ?_ ?_));(all_goals first|trivial|exact qM (qE (by rfl))|exact qM (qF (by rfl))|exact qM (Fit.refl _)|exact qL (qK _)|(refine qM (qE ?_);(try simp only [qV]at *);simp only [zQ,zA,zB,zC,zD,zE,zF,zG,zH,zI,zJ,zK,zL,zM,zN,zO,zP,zR,zS]at *;omega)|(exact qM (qE (congrArg zi hy)))|skip))
   |((try simp only [zQ,zA,zB,zC,zD,zE,zF,zG,zH,zI,zJ,zK,zL,zM,zN,zO,zP,zR,zS]at *);(have hlt:i<d.fs.length:=(by((try simp only [qV]at *);(try simp only [zQ,zA,zB,zC,zD,zE,zF,zG,zH,zI,zJ,zK,zL,zM,zN,zO,zP,zR,zS]at *);omega)));refine⟨⟨i+1,by((try simp only [qV]at *);(try simp only [zQ,zA,zB,zC,zD,zE,zF,zG,zH,zI,zJ,zK,zL,zM,zN,zO,zP,zR,zS]at *);omega)⟩,by simp only [];omega,?_⟩;cbv;(repeat' (first|with_reducible refine hold ?_ ?_|with_reducible refine And.intro ?_ ?_));(all_goals first|trivial|exact qM (qE (by rfl))|exact qM (qF (by rfl))|exact qM (Fit.refl _)|exact qL (qK _)|(refine qM (qE ?_);(try simp only [qV]at *);simp only [zQ,zA,zB,zC,zD,zE,zF,zG,zH,zI,zJ,zK,zL,zM,zN,zO,zP,zR,zS]at *;omega)|(exact qM (qE (congrArg zi (uxn (pt:=ptD d) (b:=b) (i:=i) (q:=(d.fs.getD i f0T).p) rfl (by assumption)))))|skip))
   |skip
theorem upk (a b c e:Int):ua0 Tryz.prog 66 [(.agg [(iv fun _=>a),(iv fun _=>b)]),(.agg [(iv fun _=>c),(iv fun _=>e)])] [] (fun r _=>r=(.agg [(iv fun _=>mx a c),(iv fun _=>mn b e)])):=by
 refine ua0.is fun R hR=>qW (sc:=sc66) tyok mix Tryz.func66 rfl Tryz.call66 (by kernel_rfl) (by kernel_rfl) ?_
 generalize Tryz.prog=P
 cbv
 repeat' (first
  |fail)
 all_goals first
  |(subst hR;(repeat' (first|exact qA|exact qB|refine qC ?_ rfl ?_|refine qD ?_ ?_|exact qE (by rfl)|exact qF (by rfl)|exact Fit.refl _|exact qG _|(refine qE ?_;(try simp only [qV]at *);simp only [zQ,zA,zB,zC,zD,zE,zF,zG,zH,zI,zJ,zK,zL,zM,zN,zO,zP,zR,zS]at *;omega)));done)
  |skip
theorem uwD {fs:List Fa} {b s i:Nat} {q:Int}(h0:0≤q)(hq:(fs.getD i f0).s=q.toNat)(h1:q=(s:Int))(h2:((b:Int).fdiv (2^i)).tmod 2=0):ownN fs (outN b) s (i+1)=(mx (ownN fs (outN b) s i).1 (fs.getD i f0).lo,mn (ownN fs (outN b) s i).2 (fs.getD i f0).hi):=by
 have e:(decide ((fs.getD i f0).s=s)&&outN b i)=true:=by
  rw [Bool.and_eq_true,decide_eq_true_eq]
  exact⟨by omega,by unfold outN;rw [(usr b i).1 h2];rfl⟩
 simp only [ownN,if_pos e]
theorem uvV {fs:List Fa} {b s i:Nat} {q:Int}(h0:0≤q)(hq:(fs.getD i f0).s=q.toNat)(h1:¬q=(s:Int)):ownN fs (outN b) s (i+1)=ownN fs (outN b) s i:=by
 have e:¬(decide ((fs.getD i f0).s=s)&&outN b i)=true:=by
  rw [Bool.and_eq_true,decide_eq_true_eq]
  rintro⟨h,_⟩
  omega
 simp only [ownN,if_neg e]
theorem uvx {fs:List Fa} {b s i:Nat}(h2:¬((b:Int).fdiv (2^i)).tmod 2=0):ownN fs (outN b) s (i+1)=ownN fs (outN b) s i:=by
 have e:¬(decide ((fs.getD i f0).s=s)&&outN b i)=true:=by
  rw [Bool.and_eq_true]
  rintro⟨_,h⟩
  unfold outN at h
  rw [Bool.not_eq_true']at h
  exact h2 ((usr b i).2 h)
 simp only [ownN,if_neg e]
theorem usM (d:Dsp)(b s:Nat)(hd:DOk d)(hb:b≤1000):ua0 Tryz.prog 64 [(dspS d),(.sl 2 (.sym fun _=>zi (d.fs).length) (fun ix=>[(iv fun _=>((FO d d.fs).getD ix.den.toNat f0).lo),(iv fun _=>((FO d d.fs).getD ix.den.toNat f0).hi)])),(iv fun _=>zi s),(iv fun _=>zi b)] [] (fun r _=>r=(.agg [(iv fun _=>(ownN (FO d d.fs) (outN b) s d.fs.length).1),(iv fun _=>(ownN (FO d d.fs) (outN b) s d.fs.length).2)])):=by
 have f6:=hd.f6
 have hs0:∀i,i<d.fs.length→0≤(d.fs.getD i f0T).s:=fun i hi=>by have:=hd.f i hi;unfold ubN at this;omega
 refine ua0.is fun R hR=>qW (sc:=sc64) tyok mix Tryz.func64 rfl Tryz.call64 (by kernel_rfl) (by kernel_rfl) ?_
 generalize Tryz.prog=P
 cbv
 repeat' (first
  |fail)
 all_goals first
  |skip
 refine⟨none,[],{x:Nat×(Int×Int) // x.1≤d.fs.length∧x.2=ownN (FO d d.fs) (outN b) s x.1},fun x=>⟨[(4,.own 0 0),(8,.own 1 0),(9,.own 3 0),(1,(.sl 2 (.sym fun _=>zi (d.fs).length) (fun ix=>[(iv fun _=>((FO d d.fs).getD ix.den.toNat f0).lo),(iv fun _=>((FO d d.fs).getD ix.den.toNat f0).hi)]))),(2,(iv fun _=>zi s)),(3,(iv fun _=>zi b)),(10,(iv fun _=>zi x.1.1))],[(0,.cells [(iS d.tw),(iS d.tm),(.sl 1 (.sym fun _=>zi (d.tv).length) (fun ix=>[(.sl 1 (.sym fun _=>zi ((d.tv).getD ix.den.toNat []).length) (fun jx=>[(iv fun _=>((d.tv).getD ix.den.toNat []).getD jx.den.toNat 0)]))])),(iv fun _=>d.sn),(iv fun _=>d.pn),(.sl 4 (.sym fun _=>zi (d.ls).length) (fun ix=>[(iv fun _=>((d.ls).getD ix.den.toNat l0T).a),(iv fun _=>((d.ls).getD ix.den.toNat l0T).b),(iv fun _=>((d.ls).getD ix.den.toNat l0T).lo),(iv fun _=>((d.ls).getD ix.den.toNat l0T).hi)])),(.sl 6 (.sym fun _=>zi (d.fs).length) (fun ix=>[(iv fun _=>((d.fs).getD ix.den.toNat f0T).p),(iv fun _=>((d.fs).getD ix.den.toNat f0T).s),(iv fun _=>((d.fs).getD ix.den.toNat f0T).wl),(iv fun _=>((d.fs).getD ix.den.toNat f0T).wh),(iv fun _=>((d.fs).getD ix.den.toNat f0T).ml),(iv fun _=>((d.fs).getD ix.den.toNat f0T).mh)]))] 29),(1,.cells [.int .i64 (.lit 0),.int .i64 (.lit 0)] 66),(3,.cells [(iv fun _=>x.1.2.1),(iv fun _=>x.1.2.2)] 66)],20⟩,fun x=>d.fs.length-x.1.1,?_,?_⟩
 ·refine⟨⟨(0,(0,2000)),by simp only [];omega,rfl⟩,?_⟩
  cbv
  repeat' (first
   |with_reducible refine hold ?_ ?_
   |with_reducible refine And.intro ?_ ?_)
  all_goals first
   |trivial
   |exact qM (qE (by rfl))
   |exact qM (Fit.refl _)
   |exact qL (qK _)
   |(refine qL (qJ ?_);(repeat' (first|exact qA|exact qB|refine qC ?_ rfl ?_|refine qD ?_ ?_|exact qE (by rfl)|exact qF (by rfl)|exact Fit.refl _|exact qG _|(refine qE ?_;(try simp only [qV]at *);simp only [zQ,zA,zB,zC,zD,zE,zF,zG,zH,zI,zJ,zK,zL,zM,zN,zO,zP,zR,zS]at *;omega)));done)
   |skip
 ·rintro ⟨⟨i,o⟩,hi,ho⟩
  cbv
  dsimp only at hi ho
  repeat' (first
   |with_reducible refine hold ?_ ?_
   |with_reducible refine And.intro ?_ ?_
   | (with_reducible refine qT ?_ ?_
      try cbv)
   |(with_reducible intro hcd;(try simp only [zA,zB,zC,zD,zE,zF,zG,zH,zI,zJ,zK,zL,zM,zN,zO,zP]at hcd);try cbv)
   | (with_reducible refine utL ?_ ?_
      try cbv)
   |fail)
  all_goals first
   |((try simp only [qV]at *);(try simp only [zQ,zA,zB,zC,zD,zE,zF,zG,zH,zI,zJ,zK,zL,zM,zN,zO,zP,zR,zS]at *);first|(refine qN ?_;omega)|(simp only [Hold];omega))
   |(subst hR;(have e:i=d.fs.length:=by((try simp only [qV]at *);(try simp only [zQ,zA,zB,zC,zD,zE,zF,zG,zH,zI,zJ,zK,zL,zM,zN,zO,zP,zR,zS]at *);omega));subst e;subst ho;exact Fit.refl _;done)
   |((try simp only [qV]at *);(try simp only [zQ,zA,zB,zC,zD,zE,zF,zG,zH,zI,zJ,zK,zL,zM,zN,zO,zP,zR,zS]at *);simp only [Hold];first|assumption|omega|exact⟨by omega,by omega⟩|(refine qN ?_;omega))
   |((try simp only [qV]at *);(try simp only [zQ,zA,zB,zC,zD,zE,zF,zG,zH,zI,zJ,zK,zL,zM,zN,zO,zP,zR,zS]at *);first|(refine ueb ?_;omega)|(refine uqa ?_;omega)|(refine ucS ?_;omega)|(refine qN ?_;omega))
   |((try simp only [zQ,zA,zB,zC,zD,zE,zF,zG,zH,zI,zJ,zK,zL,zM,zN,zO,zP,zR,zS]at *);(have hy:=(uwD (fs:=FO d d.fs) (b:=b) (s:=s) (i:=i) (q:=(d.fs.getD i f0T).s) (hs0 i (by((try simp only [qV]at *);(try simp only [zQ,zA,zB,zC,zD,zE,zF,zG,zH,zI,zJ,zK,zL,zM,zN,zO,zP,zR,zS]at *);omega))) (by rw [umC (by((try simp only [qV]at *);(try simp only [zQ,zA,zB,zC,zD,zE,zF,zG,zH,zI,zJ,zK,zL,zM,zN,zO,zP,zR,zS]at *);omega))];rfl) (by assumption) (by assumption)));obtain⟨o1,eo1⟩:∃x,x=mx o.1 ((FO d d.fs).getD i f0).lo:=⟨_,rfl⟩;obtain⟨o2,eo2⟩:∃x,x=mn o.2 ((FO d d.fs).getD i f0).hi:=⟨_,rfl⟩;(have hy2:((o1,o2):Int×Int)=ownN (FO d d.fs) (outN b) s (i+1):=by rw [hy,←ho,eo1,eo2]);refine⟨⟨(i+1,(o1,o2)),by((try simp only [qV]at *);(try simp only [zQ,zA,zB,zC,zD,zE,zF,zG,zH,zI,zJ,zK,zL,zM,zN,zO,zP,zR,zS]at *);omega),hy2⟩,by simp only [];omega,?_⟩;cbv;(repeat' (first|with_reducible refine hold ?_ ?_|with_reducible refine And.intro ?_ ?_));(all_goals first|trivial|exact qM (qE (by rfl))|exact qM (qF (by rfl))|exact qM (Fit.refl _)|exact qL (qK _)|(refine qM (qE ?_);(try simp only [qV]at *);simp only [zQ,zA,zB,zC,zD,zE,zF,zG,zH,zI,zJ,zK,zL,zM,zN,zO,zP,zR,zS]at *;omega)|(subst eo1;subst eo2;(refine qL (qJ ?_);(repeat' (first|exact qA|exact qB|refine qC ?_ rfl ?_|refine qD ?_ ?_|exact qE (by rfl)|exact qF (by rfl)|exact Fit.refl _|exact qG _|(refine qE ?_;(try simp only [qV]at *);simp only [zQ,zA,zB,zC,zD,zE,zF,zG,zH,zI,zJ,zK,zL,zM,zN,zO,zP,zR,zS]at *;omega)));done))|skip))
   |((try simp only [zQ,zA,zB,zC,zD,zE,zF,zG,zH,zI,zJ,zK,zL,zM,zN,zO,zP,zR,zS]at *);(have hy:=(uvV (fs:=FO d d.fs) (b:=b) (s:=s) (i:=i) (q:=(d.fs.getD i f0T).s) (hs0 i (by((try simp only [qV]at *);(try simp only [zQ,zA,zB,zC,zD,zE,zF,zG,zH,zI,zJ,zK,zL,zM,zN,zO,zP,zR,zS]at *);omega))) (by rw [umC (by((try simp only [qV]at *);(try simp only [zQ,zA,zB,zC,zD,zE,zF,zG,zH,zI,zJ,zK,zL,zM,zN,zO,zP,zR,zS]at *);omega))];rfl) (by assumption)));(have hy2:=ho.trans hy.symm);refine⟨⟨(i+1,o),by((try simp only [qV]at *);(try simp only [zQ,zA,zB,zC,zD,zE,zF,zG,zH,zI,zJ,zK,zL,zM,zN,zO,zP,zR,zS]at *);omega),hy2⟩,by simp only [];omega,?_⟩;cbv;(repeat' (first|with_reducible refine hold ?_ ?_|with_reducible refine And.intro ?_ ?_));(all_goals first|trivial|exact qM (qE (by rfl))|exact qM (qF (by rfl))|exact qM (Fit.refl _)|exact qL (qK _)|(refine qM (qE ?_);(try simp only [qV]at *);simp only [zQ,zA,zB,zC,zD,zE,zF,zG,zH,zI,zJ,zK,zL,zM,zN,zO,zP,zR,zS]at *;omega)|(refine qL (qJ ?_);(repeat' (first|exact qA|exact qB|refine qC ?_ rfl ?_|refine qD ?_ ?_|exact qE (by rfl)|exact qF (by rfl)|exact Fit.refl _|exact qG _|(refine qE ?_;(try simp only [qV]at *);simp only [zQ,zA,zB,zC,zD,zE,zF,zG,zH,zI,zJ,zK,zL,zM,zN,zO,zP,zR,zS]at *;omega)));done)|skip))
   |((try simp only [zQ,zA,zB,zC,zD,zE,zF,zG,zH,zI,zJ,zK,zL,zM,zN,zO,zP,zR,zS]at *);(have hy:=(uvx (fs:=FO d d.fs) (b:=b) (s:=s) (i:=i) (by assumption)));(have hy2:=ho.trans hy.symm);refine⟨⟨(i+1,o),by((try simp only [qV]at *);(try simp only [zQ,zA,zB,zC,zD,zE,zF,zG,zH,zI,zJ,zK,zL,zM,zN,zO,zP,zR,zS]at *);omega),hy2⟩,by simp only [];omega,?_⟩;cbv;(repeat' (first|with_reducible refine hold ?_ ?_|with_reducible refine And.intro ?_ ?_));(all_goals first|trivial|exact qM (qE (by rfl))|exact qM (qF (by rfl))|exact qM (Fit.refl _)|exact qL (qK _)|(refine qM (qE ?_);(try simp only [qV]at *);simp only [zQ,zA,zB,zC,zD,zE,zF,zG,zH,zI,zJ,zK,zL,zM,zN,zO,zP,zR,zS]at *;omega)|(refine qL (qJ ?_);(repeat' (first|exact qA|exact qB|refine qC ?_ rfl ?_|refine qD ?_ ?_|exact qE (by rfl)|exact qF (by rfl)|exact Fit.refl _|exact qG _|(refine qE ?_;(try simp only [qV]at *);simp only [zQ,zA,zB,zC,zD,zE,zF,zG,zH,zI,zJ,zK,zL,zM,zN,zO,zP,zR,zS]at *;omega)));done)|skip))
   |skip
def dif1 (a b:Nat)(k:Lk)(r:Int×Int):Int×Int:=if k.a=a∧k.b=b then(mx r.1 k.lo,mn r.2 k.hi)else r
def dif2 (a b:Nat)(k:Lk)(r:Int×Int):Int×Int:=if k.a=b∧k.b=a then(mx r.1 (-k.hi),mn r.2 (-k.lo))else r
theorem upi {ls:List Lk} {a b i:Nat}:difN ls a b (i+1)=dif2 a b (ls.getD i lk0) (dif1 a b (ls.getD i lk0) (difN ls a b i)):=rfl
theorem usC {a b:Nat} {x:LkT} {r:Int×Int}(h0:0≤x.a∧0≤x.b)(h1:x.a=zi a)(h2:x.b=zi b):dif1 a b (lkO x) r=(mx r.1 x.lo,mn r.2 x.hi):=by
 simp only [uab]at h1 h2
 exact if_pos (show x.a.toNat=a∧x.b.toNat=b by omega)
theorem usw {a b:Nat} {x:LkT} {r:Int×Int}(h0:0≤x.a∧0≤x.b)(h:¬(x.a=zi a∧x.b=zi b)):dif1 a b (lkO x) r=r:=by
 simp only [uab]at h
 exact if_neg (show ¬(x.a.toNat=a∧x.b.toNat=b) by omega)
theorem us5 {a b:Nat} {x:LkT} {r:Int×Int}(h0:0≤x.a∧0≤x.b)(h1:x.a=zi b)(h2:x.b=zi a):dif2 a b (lkO x) r=(mx r.1 (0-x.hi),mn r.2 (0-x.lo)):=by
 simp only [uab]at h1 h2
 rw [Int.zero_sub,Int.zero_sub]
 exact if_pos (show x.a.toNat=b∧x.b.toNat=a by omega)
theorem uss {a b:Nat} {x:LkT} {r:Int×Int}(h0:0≤x.a∧0≤x.b)(h:¬(x.a=zi b∧x.b=zi a)):dif2 a b (lkO x) r=r:=by
 simp only [uab]at h
 exact if_neg (show ¬(x.a.toNat=b∧x.b.toNat=a) by omega)
theorem ukC (d:Dsp)(a b:Nat)(hd:DOk d):ua0 Tryz.prog 65 [(dspS d),(iv fun _=>zi a),(iv fun _=>zi b)] [] (fun r _=>r=(.agg [(iv fun _=>(difN (LO d) a b d.ls.length).1),(iv fun _=>(difN (LO d) a b d.ls.length).2)])):=by
 have l4:=hd.l4
 have hs0:∀i,i<d.ls.length→0≤(d.ls.getD i l0T).a∧0≤(d.ls.getD i l0T).b:=fun i hi=>by have:=hd.l i hi;unfold ucw at this;omega
 have hs1:∀i,i<d.ls.length→ -2000≤(d.ls.getD i l0T).lo∧(d.ls.getD i l0T).lo≤(d.ls.getD i l0T).hi∧(d.ls.getD i l0T).hi≤2000:=fun i hi=>by have:=hd.l i hi;unfold ucw at this;omega
 refine ua0.is fun R hR=>qW (sc:=sc65) tyok mix Tryz.func65 rfl Tryz.call65 (by kernel_rfl) (by kernel_rfl) ?_
 generalize Tryz.prog=P
 cbv
 repeat' (first
  |fail)
 all_goals first
  |skip
 refine⟨none,[],{x:Nat×(Int×Int) // x.1≤d.ls.length∧x.2=difN (LO d) a b x.1},fun x=>⟨[(3,.own 0 0),(6,.own 1 0),(7,.own 3 0),(1,(iv fun _=>zi a)),(2,(iv fun _=>zi b)),(8,(iv fun _=>zi x.1.1))],[(0,.cells [(iS d.tw),(iS d.tm),(.sl 1 (.sym fun _=>zi (d.tv).length) (fun ix=>[(.sl 1 (.sym fun _=>zi ((d.tv).getD ix.den.toNat []).length) (fun jx=>[(iv fun _=>((d.tv).getD ix.den.toNat []).getD jx.den.toNat 0)]))])),(iv fun _=>d.sn),(iv fun _=>d.pn),(.sl 4 (.sym fun _=>zi (d.ls).length) (fun ix=>[(iv fun _=>((d.ls).getD ix.den.toNat l0T).a),(iv fun _=>((d.ls).getD ix.den.toNat l0T).b),(iv fun _=>((d.ls).getD ix.den.toNat l0T).lo),(iv fun _=>((d.ls).getD ix.den.toNat l0T).hi)])),(.sl 6 (.sym fun _=>zi (d.fs).length) (fun ix=>[(iv fun _=>((d.fs).getD ix.den.toNat f0T).p),(iv fun _=>((d.fs).getD ix.den.toNat f0T).s),(iv fun _=>((d.fs).getD ix.den.toNat f0T).wl),(iv fun _=>((d.fs).getD ix.den.toNat f0T).wh),(iv fun _=>((d.fs).getD ix.den.toNat f0T).ml),(iv fun _=>((d.fs).getD ix.den.toNat f0T).mh)]))] 29),(1,.cells [.int .i64 (.lit 0),.int .i64 (.lit 0)] 66),(3,.cells [(iv fun _=>x.1.2.1),(iv fun _=>x.1.2.2)] 66)],60⟩,fun x=>d.ls.length-x.1.1,?_,?_⟩
 ·refine⟨⟨(0,(-2000,2000)),by simp only [];omega,rfl⟩,?_⟩
  cbv
  repeat' (first
   |with_reducible refine hold ?_ ?_
   |with_reducible refine And.intro ?_ ?_)
  all_goals first
   |trivial
   |exact qM (qE (by rfl))
   |exact qM (Fit.refl _)
   |exact qL (qK _)
   |(refine qL (qJ ?_);(repeat' (first|exact qA|exact qB|refine qC ?_ rfl ?_|refine qD ?_ ?_|exact qE (by rfl)|exact qF (by rfl)|exact Fit.refl _|exact qG _|(refine qE ?_;(try simp only [qV]at *);simp only [zQ,zA,zB,zC,zD,zE,zF,zG,zH,zI,zJ,zK,zL,zM,zN,zO,zP,zR,zS]at *;omega)));done)
   |skip
 ·rintro⟨⟨i,o⟩,hi,ho⟩
  cbv
  dsimp only at hi ho
  repeat' (first
   |with_reducible refine hold ?_ ?_
   |with_reducible refine And.intro ?_ ?_
   |(with_reducible intro hcd;(try simp only [zA,zB,zC,zD,zE,zF,zG,zH,zI,zJ,zK,zL,zM,zN,zO,zP]at hcd);try cbv)
   |fail)
  all_goals first
   |((try simp only [qV]at *);(try simp only [zQ,zA,zB,zC,zD,zE,zF,zG,zH,zI,zJ,zK,zL,zM,zN,zO,zP,zR,zS]at *);first|(refine qN ?_;omega)|(simp only [Hold];omega))
   |(subst hR;(have e:i=d.ls.length:=by((try simp only [qV]at *);(try simp only [zQ,zA,zB,zC,zD,zE,zF,zG,zH,zI,zJ,zK,zL,zM,zN,zO,zP,zR,zS]at *);omega));subst e;subst ho;exact Fit.refl _;done)
   |((have hk0:=hs1 i (by((try simp only [qV]at *);(try simp only [zQ,zA,zB,zC,zD,zE,zF,zG,zH,zI,zJ,zK,zL,zM,zN,zO,zP,zR,zS]at *);omega)));(try simp only [qV]at *);(try simp only [zQ,zA,zB,zC,zD,zE,zF,zG,zH,zI,zJ,zK,zL,zM,zN,zO,zP,zR,zS]at *);(refine qN ?_);omega)
   |((try simp only [zQ,zA,zB,zC,zD,zE,zF,zG,zH,zI,zJ,zK,zL,zM,zN,zO,zP,zR,zS]at *);(have hk0:=hs0 i (by((try simp only [qV]at *);(try simp only [zQ,zA,zB,zC,zD,zE,zF,zG,zH,zI,zJ,zK,zL,zM,zN,zO,zP,zR,zS]at *);omega)));(have hsu:difN (LO d) a b (i+1)=dif2 a b (lkO (d.ls.getD i l0T)) (dif1 a b (lkO (d.ls.getD i l0T)) o):=by rw [upi,un7 (by((try simp only [qV]at *);(try simp only [zQ,zA,zB,zC,zD,zE,zF,zG,zH,zI,zJ,zK,zL,zM,zN,zO,zP,zR,zS]at *);omega)),ho]);(have h1:=(usC (a:=a) (b:=b) (x:=(d.ls.getD i l0T)) (r:=o) hk0 (by((try simp only [qV]at *);(try simp only [zQ,zA,zB,zC,zD,zE,zF,zG,zH,zI,zJ,zK,zL,zM,zN,zO,zP,zR,zS]at *);omega)) (by((try simp only [qV]at *);(try simp only [zQ,zA,zB,zC,zD,zE,zF,zG,zH,zI,zJ,zK,zL,zM,zN,zO,zP,zR,zS]at *);omega))));obtain⟨p,ep⟩:∃p:Int×Int,p=(mx o.1 (d.ls.getD i l0T).lo,mn o.2 (d.ls.getD i l0T).hi):=⟨_,rfl⟩;obtain⟨o1,eo1⟩:∃x,x=mx p.1 (0-(d.ls.getD i l0T).hi):=⟨_,rfl⟩;obtain⟨o2,eo2⟩:∃x,x=mn p.2 (0-(d.ls.getD i l0T).lo):=⟨_,rfl⟩;(have h2:=(us5 (a:=a) (b:=b) (x:=(d.ls.getD i l0T)) (r:=p) hk0 (by((try simp only [qV]at *);(try simp only [zQ,zA,zB,zC,zD,zE,zF,zG,zH,zI,zJ,zK,zL,zM,zN,zO,zP,zR,zS]at *);omega)) (by((try simp only [qV]at *);(try simp only [zQ,zA,zB,zC,zD,zE,zF,zG,zH,zI,zJ,zK,zL,zM,zN,zO,zP,zR,zS]at *);omega))));(have hy2:((o1,o2):Int×Int)=difN (LO d) a b (i+1):=by rw [hsu,h1,←ep,h2,eo1,eo2]);refine⟨⟨(i+1,(o1,o2)),by((try simp only [qV]at *);(try simp only [zQ,zA,zB,zC,zD,zE,zF,zG,zH,zI,zJ,zK,zL,zM,zN,zO,zP,zR,zS]at *);omega),hy2⟩,by simp only [];omega,?_⟩;cbv;(repeat' (first|with_reducible refine hold ?_ ?_|with_reducible refine And.intro ?_ ?_));(all_goals first|trivial|exact qM (qE (by rfl))|exact qM (qF (by rfl))|exact qM (Fit.refl _)|exact qL (qK _)|(refine qM (qE ?_);(try simp only [qV]at *);simp only [zQ,zA,zB,zC,zD,zE,zF,zG,zH,zI,zJ,zK,zL,zM,zN,zO,zP,zR,zS]at *;omega)|(subst eo1;subst eo2;subst ep;(refine qL (qJ ?_);(repeat' (first|exact qA|exact qB|refine qC ?_ rfl ?_|refine qD ?_ ?_|exact qE (by rfl)|exact qF (by rfl)|exact Fit.refl _|exact qG _|(refine qE ?_;(try simp only [qV]at *);simp only [zQ,zA,zB,zC,zD,zE,zF,zG,zH,zI,zJ,zK,zL,zM,zN,zO,zP,zR,zS]at *;omega)));done))|skip))
   |((try simp only [zQ,zA,zB,zC,zD,zE,zF,zG,zH,zI,zJ,zK,zL,zM,zN,zO,zP,zR,zS]at *);(have hk0:=hs0 i (by((try simp only [qV]at *);(try simp only [zQ,zA,zB,zC,zD,zE,zF,zG,zH,zI,zJ,zK,zL,zM,zN,zO,zP,zR,zS]at *);omega)));(have hsu:difN (LO d) a b (i+1)=dif2 a b (lkO (d.ls.getD i l0T)) (dif1 a b (lkO (d.ls.getD i l0T)) o):=by rw [upi,un7 (by((try simp only [qV]at *);(try simp only [zQ,zA,zB,zC,zD,zE,zF,zG,zH,zI,zJ,zK,zL,zM,zN,zO,zP,zR,zS]at *);omega)),ho]);(have h1:=(usC (a:=a) (b:=b) (x:=(d.ls.getD i l0T)) (r:=o) hk0 (by((try simp only [qV]at *);(try simp only [zQ,zA,zB,zC,zD,zE,zF,zG,zH,zI,zJ,zK,zL,zM,zN,zO,zP,zR,zS]at *);omega)) (by((try simp only [qV]at *);(try simp only [zQ,zA,zB,zC,zD,zE,zF,zG,zH,zI,zJ,zK,zL,zM,zN,zO,zP,zR,zS]at *);omega))));obtain⟨o1,eo1⟩:∃x,x=mx o.1 (d.ls.getD i l0T).lo:=⟨_,rfl⟩;obtain⟨o2,eo2⟩:∃x,x=mn o.2 (d.ls.getD i l0T).hi:=⟨_,rfl⟩;(have h2:=(uss (a:=a) (b:=b) (x:=(d.ls.getD i l0T)) (r:=(o1,o2)) hk0 (by((try simp only [qV]at *);(try simp only [zQ,zA,zB,zC,zD,zE,zF,zG,zH,zI,zJ,zK,zL,zM,zN,zO,zP,zR,zS]at *);omega))));(have hy2:((o1,o2):Int×Int)=difN (LO d) a b (i+1):=by rw [hsu,h1,←eo1,←eo2,h2]);refine⟨⟨(i+1,(o1,o2)),by((try simp only [qV]at *);(try simp only [zQ,zA,zB,zC,zD,zE,zF,zG,zH,zI,zJ,zK,zL,zM,zN,zO,zP,zR,zS]at *);omega),hy2⟩,by simp only [];omega,?_⟩;cbv;(repeat' (first|with_reducible refine hold ?_ ?_|with_reducible refine And.intro ?_ ?_));(all_goals first|trivial|exact qM (qE (by rfl))|exact qM (qF (by rfl))|exact qM (Fit.refl _)|exact qL (qK _)|(refine qM (qE ?_);(try simp only [qV]at *);simp only [zQ,zA,zB,zC,zD,zE,zF,zG,zH,zI,zJ,zK,zL,zM,zN,zO,zP,zR,zS]at *;omega)|(subst eo1;subst eo2;(refine qL (qJ ?_);(repeat' (first|exact qA|exact qB|refine qC ?_ rfl ?_|refine qD ?_ ?_|exact qE (by rfl)|exact qF (by rfl)|exact Fit.refl _|exact qG _|(refine qE ?_;(try simp only [qV]at *);simp only [zQ,zA,zB,zC,zD,zE,zF,zG,zH,zI,zJ,zK,zL,zM,zN,zO,zP,zR,zS]at *;omega)));done))|skip))
   |((try simp only [zQ,zA,zB,zC,zD,zE,zF,zG,zH,zI,zJ,zK,zL,zM,zN,zO,zP,zR,zS]at *);(have hk0:=hs0 i (by((try simp only [qV]at *);(try simp only [zQ,zA,zB,zC,zD,zE,zF,zG,zH,zI,zJ,zK,zL,zM,zN,zO,zP,zR,zS]at *);omega)));(have hsu:difN (LO d) a b (i+1)=dif2 a b (lkO (d.ls.getD i l0T)) (dif1 a b (lkO (d.ls.getD i l0T)) o):=by rw [upi,un7 (by((try simp only [qV]at *);(try simp only [zQ,zA,zB,zC,zD,zE,zF,zG,zH,zI,zJ,zK,zL,zM,zN,zO,zP,zR,zS]at *);omega)),ho]);(have h1:=(usw (a:=a) (b:=b) (x:=(d.ls.getD i l0T)) (r:=o) hk0 (by((try simp only [qV]at *);(try simp only [zQ,zA,zB,zC,zD,zE,zF,zG,zH,zI,zJ,zK,zL,zM,zN,zO,zP,zR,zS]at *);omega))));obtain⟨o1,eo1⟩:∃x,x=mx o.1 (0-(d.ls.getD i l0T).hi):=⟨_,rfl⟩;obtain⟨o2,eo2⟩:∃x,x=mn o.2 (0-(d.ls.getD i l0T).lo):=⟨_,rfl⟩;(have h2:=(us5 (a:=a) (b:=b) (x:=(d.ls.getD i l0T)) (r:=o) hk0 (by((try simp only [qV]at *);(try simp only [zQ,zA,zB,zC,zD,zE,zF,zG,zH,zI,zJ,zK,zL,zM,zN,zO,zP,zR,zS]at *);omega)) (by((try simp only [qV]at *);(try simp only [zQ,zA,zB,zC,zD,zE,zF,zG,zH,zI,zJ,zK,zL,zM,zN,zO,zP,zR,zS]at *);omega))));(have hy2:((o1,o2):Int×Int)=difN (LO d) a b (i+1):=by rw [hsu,h1,h2,eo1,eo2]);refine⟨⟨(i+1,(o1,o2)),by((try simp only [qV]at *);(try simp only [zQ,zA,zB,zC,zD,zE,zF,zG,zH,zI,zJ,zK,zL,zM,zN,zO,zP,zR,zS]at *);omega),hy2⟩,by simp only [];omega,?_⟩;cbv;(repeat' (first|with_reducible refine hold ?_ ?_|with_reducible refine And.intro ?_ ?_));(all_goals first|trivial|exact qM (qE (by rfl))|exact qM (qF (by rfl))|exact qM (Fit.refl _)|exact qL (qK _)|(refine qM (qE ?_);(try simp only [qV]at *);simp only [zQ,zA,zB,zC,zD,zE,zF,zG,zH,zI,zJ,zK,zL,zM,zN,zO,zP,zR,zS]at *;omega)|(subst eo1;subst eo2;(refine qL (qJ ?_);(repeat' (first|exact qA|exact qB|refine qC ?_ rfl ?_|refine qD ?_ ?_|exact qE (by rfl)|exact qF (by rfl)|exact Fit.refl _|exact qG _|(refine qE ?_;(try simp only [qV]at *);simp only [zQ,zA,zB,zC,zD,zE,zF,zG,zH,zI,zJ,zK,zL,zM,zN,zO,zP,zR,zS]at *;omega)));done))|skip))
   |((try simp only [zQ,zA,zB,zC,zD,zE,zF,zG,zH,zI,zJ,zK,zL,zM,zN,zO,zP,zR,zS]at *);(have hk0:=hs0 i (by((try simp only [qV]at *);(try simp only [zQ,zA,zB,zC,zD,zE,zF,zG,zH,zI,zJ,zK,zL,zM,zN,zO,zP,zR,zS]at *);omega)));(have hsu:difN (LO d) a b (i+1)=dif2 a b (lkO (d.ls.getD i l0T)) (dif1 a b (lkO (d.ls.getD i l0T)) o):=by rw [upi,un7 (by((try simp only [qV]at *);(try simp only [zQ,zA,zB,zC,zD,zE,zF,zG,zH,zI,zJ,zK,zL,zM,zN,zO,zP,zR,zS]at *);omega)),ho]);(have h1:=(usw (a:=a) (b:=b) (x:=(d.ls.getD i l0T)) (r:=o) hk0 (by((try simp only [qV]at *);(try simp only [zQ,zA,zB,zC,zD,zE,zF,zG,zH,zI,zJ,zK,zL,zM,zN,zO,zP,zR,zS]at *);omega))));(have h2:=(uss (a:=a) (b:=b) (x:=(d.ls.getD i l0T)) (r:=o) hk0 (by((try simp only [qV]at *);(try simp only [zQ,zA,zB,zC,zD,zE,zF,zG,zH,zI,zJ,zK,zL,zM,zN,zO,zP,zR,zS]at *);omega))));(have hy2:o=difN (LO d) a b (i+1):=by rw [hsu,h1,h2]);refine⟨⟨(i+1,o),by((try simp only [qV]at *);(try simp only [zQ,zA,zB,zC,zD,zE,zF,zG,zH,zI,zJ,zK,zL,zM,zN,zO,zP,zR,zS]at *);omega),hy2⟩,by simp only [];omega,?_⟩;cbv;(repeat' (first|with_reducible refine hold ?_ ?_|with_reducible refine And.intro ?_ ?_));(all_goals first|trivial|exact qM (qE (by rfl))|exact qM (qF (by rfl))|exact qM (Fit.refl _)|exact qL (qK _)|(refine qM (qE ?_);(try simp only [qV]at *);simp only [zQ,zA,zB,zC,zD,zE,zF,zG,zH,zI,zJ,zK,zL,zM,zN,zO,zP,zR,zS]at *;omega)|((refine qL (qJ ?_);(repeat' (first|exact qA|exact qB|refine qC ?_ rfl ?_|refine qD ?_ ?_|exact qE (by rfl)|exact qF (by rfl)|exact Fit.refl _|exact qG _|(refine qE ?_;(try simp only [qV]at *);simp only [zQ,zA,zB,zC,zD,zE,zF,zG,zH,zI,zJ,zK,zL,zM,zN,zO,zP,zR,zS]at *;omega)));done))|skip))
   |skip
theorem uia {a b l h:Int}(ha:l≤a∧a≤h)(hb:l≤b∧b≤h):l≤mx a b∧mx a b≤h:=by unfold mx;split<;>omega
theorem uir {a b l h:Int}(ha:l≤a∧a≤h)(hb:l≤b∧b≤h):l≤mn a b∧mn a b≤h:=by unfold mn;split<;>omega
theorem uqC {fs:List Fa}(h:∀i,i<fs.length→0≤(fs.getD i f0).lo∧(fs.getD i f0).lo≤2000∧0≤(fs.getD i f0).hi∧(fs.getD i f0).hi≤2000)(c:Nat→Bool)(s:Nat):∀{n:Nat},n≤fs.length→(0≤(ownN fs c s n).1∧(ownN fs c s n).1≤2000)∧0≤(ownN fs c s n).2∧(ownN fs c s n).2≤2000:=by
 intro n
 induction n with
 |zero=>intro _;exact⟨⟨by simp only [ownN];omega,by simp only [ownN];omega⟩,by simp only [ownN];omega,by simp only [ownN];omega⟩
 | succ n ih=>
  intro hn
  have q:=ih (by omega)
  have k:=h n (by omega)
  simp only [ownN]
  split
  ·exact⟨uia q.1 ⟨k.1,k.2.1⟩,uir q.2 ⟨k.2.2.1,k.2.2.2⟩⟩
  ·exact q
theorem uri {ls:List Lk} {a b:Nat}(h:∀i,i<ls.length→(-2000≤(ls.getD i lk0).lo∧(ls.getD i lk0).lo≤2000)∧ -2000≤(ls.getD i lk0).hi∧(ls.getD i lk0).hi≤2000):∀{n:Nat},n≤ls.length→(-2000≤(difN ls a b n).1∧(difN ls a b n).1≤2000)∧ -2000≤(difN ls a b n).2∧(difN ls a b n).2≤2000:=by
 intro n
 induction n with
 |zero=>intro _;exact⟨⟨by simp only [difN];omega,by simp only [difN];omega⟩,by simp only [difN];omega,by simp only [difN];omega⟩
 | succ n ih=>
  intro hn
  have q:=ih (by omega)
  have k:=h n (by omega)
  have q1:(-2000≤(dif1 a b (ls.getD n lk0) (difN ls a b n)).1∧(dif1 a b (ls.getD n lk0) (difN ls a b n)).1≤2000)∧ -2000≤(dif1 a b (ls.getD n lk0) (difN ls a b n)).2∧(dif1 a b (ls.getD n lk0) (difN ls a b n)).2≤2000:=by
   unfold dif1
   split
   ·exact⟨uia q.1 k.1,uir q.2 k.2⟩
   ·exact q
  rw [upi]
  unfold dif2
  split
  ·exact⟨uia q1.1 ⟨by omega,by omega⟩,uir q1.2 ⟨by omega,by omega⟩⟩
  ·exact q1
theorem uuX {d:Dsp}(hd:DOk d):∀i,i<(FO d d.fs).length→0≤((FO d d.fs).getD i f0).lo∧((FO d d.fs).getD i f0).lo≤2000∧0≤((FO d d.fs).getD i f0).hi∧((FO d d.fs).getD i f0).hi≤2000:=fun i hi=>by
 rw [ucV]at hi
 rw [umC hi]
 have:=ula hd.t (hd.f i hi)
 unfold faO
 dsimp only
 omega
theorem uwd {d:Dsp}(hd:DOk d):∀i,i<(LO d).length→(-2000≤((LO d).getD i lk0).lo∧((LO d).getD i lk0).lo≤2000)∧ -2000≤((LO d).getD i lk0).hi∧((LO d).getD i lk0).hi≤2000:=fun i hi=>by
 rw [ugt]at hi
 rw [un7 hi]
 have:=hd.l i hi
 unfold ucw at this
 unfold lkO
 dsimp only
 omega
theorem ufl {d:Dsp}(hd:DOk d)(b s:Nat):(0≤(ownN (FO d d.fs) (outN b) s d.fs.length).1∧(ownN (FO d d.fs) (outN b) s d.fs.length).1≤2000)∧0≤(ownN (FO d d.fs) (outN b) s d.fs.length).2∧(ownN (FO d d.fs) (outN b) s d.fs.length).2≤2000:=uqC (uuX hd) _ _ (by rw [ucV];exact Nat.le_refl _)
theorem uib {d:Dsp}(hd:DOk d)(a b:Nat):(-2000≤(difN (LO d) a b d.ls.length).1∧(difN (LO d) a b d.ls.length).1≤2000)∧ -2000≤(difN (LO d) a b d.ls.length).2∧(difN (LO d) a b d.ls.length).2≤2000:=uri (uwd hd) (by rw [ugt];exact Nat.le_refl _)
theorem utq {s:Six} {n:Int}(h:mn s.h1 (n+s.ah)<mx s.l1 (n+s.al)):goB s n=false:=by
 unfold goB bL bH
 rw [decide_eq_false (p:=_∧_) (fun q=>by have:=q.1;omega)];rfl
theorem uuk {s:Six} {n:Int}(h:mn s.h2 (n+s.bh)<mx s.l2 (n+s.bl)):goB s n=false:=by
 unfold goB cL cH
 rw [decide_eq_false (p:=_∧_) (fun q=>by have:=q.2;omega)];rfl
theorem ukS {s:Six} {n:Int}(h:s.ch<s.cl∨xH s n<xL s n∨yH s n<yL s n):goB s n=false:=by
 unfold goB
 rw [decide_eq_false (p:=s.cl≤s.ch∧_) (fun q=>by have:=q.2;have:=q.1;omega),Bool.and_false]
theorem go_t {s:Six} {n:Int}(h1:¬mn s.h1 (n+s.ah)<mx s.l1 (n+s.al))(h2:¬mn s.h2 (n+s.bh)<mx s.l2 (n+s.bl))(h3:¬s.ch<s.cl)(h4:¬xH s n<xL s n)(h5:¬yH s n<yL s n):goB s n=true:=by
 unfold goB
 rw [decide_eq_true (show bL s n≤bH s n∧cL s n≤cH s n from⟨Int.not_lt.1 h1,Int.not_lt.1 h2⟩),decide_eq_true (show s.cl≤s.ch∧xL s n≤xH s n∧yL s n≤yH s n from⟨Int.not_lt.1 h3,Int.not_lt.1 h4,Int.not_lt.1 h5⟩)];rfl
theorem ucX {s:Six} {k:Nat} {n:Int} {b:Bnd}(hn:n=s.l0+(k:Int))(hb:b=bdN s k)(h:goB s n=false):b=bdN s (k+1):=by
 subst hn;subst hb
 simp only [bdN,bdS,h,Bool.false_eq_true,if_false]
theorem uk6 {s:Six} {k:Nat} {n:Int} {b o:Bnd}(hn:n=s.l0+(k:Int))(hb:b=bdN s k)(h:goB s n=true)(ho:o=⟨mn b.l0 n,mx b.h0 n,mn b.l1 (xL s n),mx b.h1 (xH s n),mn b.l2 (yL s n),mx b.h2 (yH s n)⟩):o=bdN s (k+1):=by
 subst hn;subst hb;subst ho
 simp only [bdN,bdS,h,if_true]
set_option maxHeartbeats 2000000 in
theorem usG (d:Dsp)(b:Nat)(hd:DOk d)(hb:b≤1000)(hS:d.sn=1):ua0 Tryz.prog 26 [(.agg [(iS d.tw),(iS d.tm),(.sl 1 (.sym fun _=>zi (d.tv).length) (fun ix=>[(.sl 1 (.sym fun _=>zi ((d.tv).getD ix.den.toNat []).length) (fun jx=>[(iv fun _=>((d.tv).getD ix.den.toNat []).getD jx.den.toNat 0)]))])),(.int .i64 (.lit 1)),(iv fun _=>d.pn),(.sl 4 (.sym fun _=>zi (d.ls).length) (fun ix=>[(iv fun _=>((d.ls).getD ix.den.toNat l0T).a),(iv fun _=>((d.ls).getD ix.den.toNat l0T).b),(iv fun _=>((d.ls).getD ix.den.toNat l0T).lo),(iv fun _=>((d.ls).getD ix.den.toNat l0T).hi)])),(.sl 6 (.sym fun _=>zi (d.fs).length) (fun ix=>[(iv fun _=>((d.fs).getD ix.den.toNat f0T).p),(iv fun _=>((d.fs).getD ix.den.toNat f0T).s),(iv fun _=>((d.fs).getD ix.den.toNat f0T).wl),(iv fun _=>((d.fs).getD ix.den.toNat f0T).wh),(iv fun _=>((d.fs).getD ix.den.toNat f0T).ml),(iv fun _=>((d.fs).getD ix.den.toNat f0T).mh)]))]),(.sl 2 (.sym fun _=>zi (d.fs).length) (fun ix=>[(iv fun _=>((FO d d.fs).getD ix.den.toNat f0).lo),(iv fun _=>((FO d d.fs).getD ix.den.toNat f0).hi)])),(iv fun _=>zi b)] [] (fun r _=>r=(.tup [(.sl 2 (.sym fun _=>zi 1) (fun ix=>[(iv fun _=>(allS (sixN (SN d) (LO d) (FO d d.fs) (outN b))).lo ix.den.toNat),(iv fun _=>(allS (sixN (SN d) (LO d) (FO d d.fs) (outN b))).hi ix.den.toNat)])),(.bool (.sym fun _=>decide (0≤(allS (sixN (SN d) (LO d) (FO d d.fs) (outN b))).h0)))])):=by
 have c64:=fun s=>usM d b s hd hb
 have c65:=fun a e=>ukC d a e hd
 have c66:=upk
 have f6:=hd.f6
 have l4:=hd.l4
 obtain⟨s6,hs6⟩:∃s6,s6=sixN (SN d) (LO d) (FO d d.fs) (outN b):=⟨_,rfl⟩
 have hSN:SN d=1:=by unfold SN;omega
 have hfl:=ucV d d.fs
 have hll:=ugt d
 have el0:(ownN (FO d d.fs) (outN b) 0 d.fs.length).1=s6.l0:=by rw [hs6];simp only [sixN,hSN,hfl,hll];try rfl
 have eh0:(ownN (FO d d.fs) (outN b) 0 d.fs.length).2=s6.h0:=by rw [hs6];simp only [sixN,hSN,hfl,hll];try rfl
 have el1:(0:Int)=s6.l1:=by rw [hs6];simp only [sixN,hSN,hfl,hll];try rfl
 have eh1:(0:Int)=s6.h1:=by rw [hs6];simp only [sixN,hSN,hfl,hll];try rfl
 have el2:(0:Int)=s6.l2:=by rw [hs6];simp only [sixN,hSN,hfl,hll];try rfl
 have eh2:(0:Int)=s6.h2:=by rw [hs6];simp only [sixN,hSN,hfl,hll];try rfl
 have eal:(-2000:Int)=s6.al:=by rw [hs6];simp only [sixN,hSN,hfl,hll];try rfl
 have eah:(2000:Int)=s6.ah:=by rw [hs6];simp only [sixN,hSN,hfl,hll];try rfl
 have ebl:(-2000:Int)=s6.bl:=by rw [hs6];simp only [sixN,hSN,hfl,hll];try rfl
 have ebh:(2000:Int)=s6.bh:=by rw [hs6];simp only [sixN,hSN,hfl,hll];try rfl
 have ecl:(-2000:Int)=s6.cl:=by rw [hs6];simp only [sixN,hSN,hfl,hll];try rfl
 have ech:(2000:Int)=s6.ch:=by rw [hs6];simp only [sixN,hSN,hfl,hll];try rfl
 have o0:=ufl hd b 0
 have q0:(0≤s6.l0∧s6.l0≤2000)∧0≤s6.h0∧s6.h0≤2000:=by omega
 have q1:(0≤s6.l1∧s6.l1≤2000)∧0≤s6.h1∧s6.h1≤2000:=by omega
 have q2:(0≤s6.l2∧s6.l2≤2000)∧0≤s6.h2∧s6.h2≤2000:=by omega
 have p0:(-2000≤s6.al∧s6.al≤2000)∧ -2000≤s6.ah∧s6.ah≤2000:=by omega
 have p1:(-2000≤s6.bl∧s6.bl≤2000)∧ -2000≤s6.bh∧s6.bh≤2000:=by omega
 have p2:(-2000≤s6.cl∧s6.cl≤2000)∧ -2000≤s6.ch∧s6.ch≤2000:=by omega
 rw [←hs6]
 clear hs6
 clear o0
 refine ua0.is fun R hR=>qW (sc:=sc26) tyok mix Tryz.func26 rfl Tryz.call26 (by kernel_rfl) (by kernel_rfl) ?_
 generalize Tryz.prog=P at c64 c65 c66⊢
 cbv
 repeat' (first
  |fail)
 all_goals first
  |skip
 refine⟨some 2,?_⟩
 cbv
 repeat' (first
  | (refine qP ?_ (c64 0) ?hfit
     case hfit=>((refine qD (qC (Fit.refl _) rfl (qC (Fit.refl _) rfl (qC (Fit.refl _) rfl (qC (qE (by first|rfl|exact hS.symm)) rfl (Fit.refl _))))) (qD (Fit.refl _) (qD (qE (by rfl)) (qD (Fit.refl _) qB))));done)
     try cbv)
  |fail)
 all_goals first
  |skip
 refine⟨none,[],{x:Nat×Int×Bnd // x.1≤(s6.h0-s6.l0+1).toNat∧x.2.1=s6.l0+zi x.1∧x.2.2=bdN s6 x.1},fun x=>⟨[(3,.own 0 0),(8,.own 7 0),(10,.own 32 0),(11,.own 33 0),(12,.own 34 0),(13,.own 48 0),(14,(iv fun _=>x.1.2.1))],[(0,.cells [(iS d.tw),(iS d.tm),(.sl 1 (.sym fun _=>zi (d.tv).length) (fun ix=>[(.sl 1 (.sym fun _=>zi ((d.tv).getD ix.den.toNat []).length) (fun jx=>[(iv fun _=>((d.tv).getD ix.den.toNat []).getD jx.den.toNat 0)]))])),(.int .i64 (.lit 1)),(iv fun _=>d.pn),(.sl 4 (.sym fun _=>zi (d.ls).length) (fun ix=>[(iv fun _=>((d.ls).getD ix.den.toNat l0T).a),(iv fun _=>((d.ls).getD ix.den.toNat l0T).b),(iv fun _=>((d.ls).getD ix.den.toNat l0T).lo),(iv fun _=>((d.ls).getD ix.den.toNat l0T).hi)])),(.sl 6 (.sym fun _=>zi (d.fs).length) (fun ix=>[(iv fun _=>((d.fs).getD ix.den.toNat f0T).p),(iv fun _=>((d.fs).getD ix.den.toNat f0T).s),(iv fun _=>((d.fs).getD ix.den.toNat f0T).wl),(iv fun _=>((d.fs).getD ix.den.toNat f0T).wh),(iv fun _=>((d.fs).getD ix.den.toNat f0T).ml),(iv fun _=>((d.fs).getD ix.den.toNat f0T).mh)]))] 29),(7,.cells [(iv fun _=>s6.l0),(iv fun _=>s6.h0),(iv fun _=>s6.l1),(iv fun _=>s6.h1),(iv fun _=>s6.l2),(iv fun _=>s6.h2)] 124),(32,.cells [(iv fun _=>s6.al),(iv fun _=>s6.ah)] 66),(33,.cells [(iv fun _=>s6.bl),(iv fun _=>s6.bh)] 66),(34,.cells [(iv fun _=>s6.cl),(iv fun _=>s6.ch)] 66),(48,.cells [(iv fun _=>x.1.2.2.l0),(iv fun _=>x.1.2.2.h0),(iv fun _=>x.1.2.2.l1),(iv fun _=>x.1.2.2.h1),(iv fun _=>x.1.2.2.l2),(iv fun _=>x.1.2.2.h2)] 124)],400⟩,fun x=>(s6.h0-s6.l0+1).toNat-x.1.1,?_,?_⟩
 ·refine⟨⟨(0,s6.l0,bd0),by simp only [];omega,by simp only [uab];omega,rfl⟩,?_⟩
  cbv
  repeat' (first
   |with_reducible refine hold ?_ ?_
   |with_reducible refine And.intro ?_ ?_)
  all_goals first
   |trivial
   |exact qM (Fit.refl _)
   |exact qL (qK _)
   |(refine qM (qE ?_);(try simp only [qV]at *);simp only [zQ,zA,zB,zC,zD,zE,zF,zG,zH,zI,zJ,zK,zL,zM,zN,zO,zP,zR,zS]at *;omega)
   |(refine qL (qJ ?_);(repeat' (first|exact qA|refine qC ?_ rfl ?_|exact qE (by first|rfl|exact el0|exact eh0|exact el1|exact eh1|exact el2|exact eh2|exact eal|exact eah|exact ebl|exact ebh|exact ecl|exact ech)));done)
   |skip
 ·rintro ⟨⟨k,n,w⟩,hk,hn,hb⟩
  cbv
  dsimp only at hk hn hb
  repeat' (first
   |(with_reducible intro hcd;exfalso;(try simp only [zQ,zA,zB,zC,zD,zE,zF,zG,zH,zI,zJ,zK,zL,zM,zN,zO,zP,zR,zS]at hcd);omega)
   |with_reducible refine hold ?_ ?_
   |with_reducible refine And.intro ?_ ?_
   |(with_reducible intro hcd;(try simp only [zA,zB,zC,zD,zE,zF,zG,zH,zI,zJ,zK,zL,zM,zN,zO,zP]at hcd);try cbv)
   | (refine qP ?_ (c66 _ _ _ _) (by(repeat' (first|exact qB|refine qD ?_ ?_|exact qE (by rfl)|exact qF (by rfl)|exact Fit.refl _|exact qA|refine qC ?_ rfl ?_)))
      try cbv)
   | (refine⟨some 4,?_⟩
      cbv)
   |fail)
  all_goals first
   |trivial
   |((try clear c66);(try clear c64);(try clear c65);((try simp only [qV]at *);(try simp only [zQ,zA,zB,zC,zD,zE,zF,zG,zH,zI,zJ,zK,zL,zM,zN,zO,zP,zR,zS]at *);first|(refine qN ?_;omega)|(simp only [Hold];omega)))
   |((try clear c66);(try clear c64);(try clear c65);((try clear el0 eh0 el1 eh1 el2 eh2 eal eah ebl ebh ecl ech hb hfl hll hSN f6 l4 hd);(try simp only [qV]at *);(try simp only [zQ,zA,zB,zC,zD,zE,zF,zG,zH,zI,zJ,zK,zL,zM,zN,zO,zP,zR,zS]at *);have hk8:n≤2000:=(by omega);(have v1:=uia (a:=s6.l1) (b:=n+s6.al) (l:= -4000) (h:=4000) ⟨by omega,by omega⟩ ⟨by omega,by omega⟩);(have v2:=uir (a:=s6.h1) (b:=n+s6.ah) (l:= -4000) (h:=4000) ⟨by omega,by omega⟩ ⟨by omega,by omega⟩);(have v3:=uia (a:=s6.l2) (b:=n+s6.bl) (l:= -4000) (h:=4000) ⟨by omega,by omega⟩ ⟨by omega,by omega⟩);(have v4:=uir (a:=s6.h2) (b:=n+s6.bh) (l:= -4000) (h:=4000) ⟨by omega,by omega⟩ ⟨by omega,by omega⟩);(refine qN ?_);omega))
   |((try clear c66);(try clear c64);(try clear c65);((try simp only [zQ,zA,zB,zC,zD,zE,zF,zG,zH,zI,zJ,zK,zL,zM,zN,zO,zP,zR,zS]at *);(have hk2:k+1≤(s6.h0-s6.l0+1).toNat:=by((try simp only [qV]at *);(try simp only [zQ,zA,zB,zC,zD,zE,zF,zG,zH,zI,zJ,zK,zL,zM,zN,zO,zP,zR,zS]at *);omega));obtain⟨n1,en1⟩:∃z,z=n+1:=⟨_,rfl⟩;(have hn2:n1=s6.l0+zi (k+1):=by((try simp only [qV]at *);(try simp only [zQ,zA,zB,zC,zD,zE,zF,zG,zH,zI,zJ,zK,zL,zM,zN,zO,zP,zR,zS]at *);omega));(have hb2:=ucX hn hb (utq (by assumption)));refine⟨⟨(k+1,n1,w),hk2,hn2,hb2⟩,by simp only [];omega,?_⟩;cbv;(repeat' (first|with_reducible refine hold ?_ ?_|with_reducible refine And.intro ?_ ?_));(all_goals first|trivial|exact qM (qE (by rfl))|exact qM (qF (by rfl))|exact qM (Fit.refl _)|exact qL (qK _)|(refine qM (qE ?_);(try simp only [qV]at *);simp only [zQ,zA,zB,zC,zD,zE,zF,zG,zH,zI,zJ,zK,zL,zM,zN,zO,zP,zR,zS]at *;omega)|(subst en1;exact qM (qE (by rfl)))|(refine qL (qJ ?_);(repeat' (first|exact qA|exact qB|refine qC ?_ rfl ?_|refine qD ?_ ?_|exact qE (by rfl)|exact qF (by rfl)|exact Fit.refl _|exact qG _|(refine qE ?_;(try simp only [qV]at *);simp only [zQ,zA,zB,zC,zD,zE,zF,zG,zH,zI,zJ,zK,zL,zM,zN,zO,zP,zR,zS]at *;omega)));done)|skip)))
   |((try clear c66);(try clear c64);(try clear c65);((try simp only [zQ,zA,zB,zC,zD,zE,zF,zG,zH,zI,zJ,zK,zL,zM,zN,zO,zP,zR,zS]at *);(have hk2:k+1≤(s6.h0-s6.l0+1).toNat:=by((try simp only [qV]at *);(try simp only [zQ,zA,zB,zC,zD,zE,zF,zG,zH,zI,zJ,zK,zL,zM,zN,zO,zP,zR,zS]at *);omega));obtain⟨n1,en1⟩:∃z,z=n+1:=⟨_,rfl⟩;(have hn2:n1=s6.l0+zi (k+1):=by((try simp only [qV]at *);(try simp only [zQ,zA,zB,zC,zD,zE,zF,zG,zH,zI,zJ,zK,zL,zM,zN,zO,zP,zR,zS]at *);omega));(have hb2:=ucX hn hb (uuk (by assumption)));refine⟨⟨(k+1,n1,w),hk2,hn2,hb2⟩,by simp only [];omega,?_⟩;cbv;(repeat' (first|with_reducible refine hold ?_ ?_|with_reducible refine And.intro ?_ ?_));(all_goals first|trivial|exact qM (qE (by rfl))|exact qM (qF (by rfl))|exact qM (Fit.refl _)|exact qL (qK _)|(refine qM (qE ?_);(try simp only [qV]at *);simp only [zQ,zA,zB,zC,zD,zE,zF,zG,zH,zI,zJ,zK,zL,zM,zN,zO,zP,zR,zS]at *;omega)|(subst en1;exact qM (qE (by rfl)))|(refine qL (qJ ?_);(repeat' (first|exact qA|exact qB|refine qC ?_ rfl ?_|refine qD ?_ ?_|exact qE (by rfl)|exact qF (by rfl)|exact Fit.refl _|exact qG _|(refine qE ?_;(try simp only [qV]at *);simp only [zQ,zA,zB,zC,zD,zE,zF,zG,zH,zI,zJ,zK,zL,zM,zN,zO,zP,zR,zS]at *;omega)));done)|skip)))
   |((try clear c66);(try clear c64);(try clear c65);((try simp only [zQ,zA,zB,zC,zD,zE,zF,zG,zH,zI,zJ,zK,zL,zM,zN,zO,zP,zR,zS]at *);(have hk2:k+1≤(s6.h0-s6.l0+1).toNat:=by((try simp only [qV]at *);(try simp only [zQ,zA,zB,zC,zD,zE,zF,zG,zH,zI,zJ,zK,zL,zM,zN,zO,zP,zR,zS]at *);omega));obtain⟨n1,en1⟩:∃z,z=n+1:=⟨_,rfl⟩;(have hn2:n1=s6.l0+zi (k+1):=by((try simp only [qV]at *);(try simp only [zQ,zA,zB,zC,zD,zE,zF,zG,zH,zI,zJ,zK,zL,zM,zN,zO,zP,zR,zS]at *);omega));(have hb2:=ucX hn hb (ukS (.inr (.inl (by assumption)))));refine⟨⟨(k+1,n1,w),hk2,hn2,hb2⟩,by simp only [];omega,?_⟩;cbv;(repeat' (first|with_reducible refine hold ?_ ?_|with_reducible refine And.intro ?_ ?_));(all_goals first|trivial|exact qM (qE (by rfl))|exact qM (qF (by rfl))|exact qM (Fit.refl _)|exact qL (qK _)|(refine qM (qE ?_);(try simp only [qV]at *);simp only [zQ,zA,zB,zC,zD,zE,zF,zG,zH,zI,zJ,zK,zL,zM,zN,zO,zP,zR,zS]at *;omega)|(subst en1;exact qM (qE (by rfl)))|(refine qL (qJ ?_);(repeat' (first|exact qA|exact qB|refine qC ?_ rfl ?_|refine qD ?_ ?_|exact qE (by rfl)|exact qF (by rfl)|exact Fit.refl _|exact qG _|(refine qE ?_;(try simp only [qV]at *);simp only [zQ,zA,zB,zC,zD,zE,zF,zG,zH,zI,zJ,zK,zL,zM,zN,zO,zP,zR,zS]at *;omega)));done)|skip)))
   |((try clear c66);(try clear c64);(try clear c65);((try simp only [zQ,zA,zB,zC,zD,zE,zF,zG,zH,zI,zJ,zK,zL,zM,zN,zO,zP,zR,zS]at *);(have hk2:k+1≤(s6.h0-s6.l0+1).toNat:=by((try simp only [qV]at *);(try simp only [zQ,zA,zB,zC,zD,zE,zF,zG,zH,zI,zJ,zK,zL,zM,zN,zO,zP,zR,zS]at *);omega));obtain⟨n1,en1⟩:∃z,z=n+1:=⟨_,rfl⟩;(have hn2:n1=s6.l0+zi (k+1):=by((try simp only [qV]at *);(try simp only [zQ,zA,zB,zC,zD,zE,zF,zG,zH,zI,zJ,zK,zL,zM,zN,zO,zP,zR,zS]at *);omega));(have hb2:=ucX hn hb (ukS (.inr (.inr (by assumption)))));refine⟨⟨(k+1,n1,w),hk2,hn2,hb2⟩,by simp only [];omega,?_⟩;cbv;(repeat' (first|with_reducible refine hold ?_ ?_|with_reducible refine And.intro ?_ ?_));(all_goals first|trivial|exact qM (qE (by rfl))|exact qM (qF (by rfl))|exact qM (Fit.refl _)|exact qL (qK _)|(refine qM (qE ?_);(try simp only [qV]at *);simp only [zQ,zA,zB,zC,zD,zE,zF,zG,zH,zI,zJ,zK,zL,zM,zN,zO,zP,zR,zS]at *;omega)|(subst en1;exact qM (qE (by rfl)))|(refine qL (qJ ?_);(repeat' (first|exact qA|exact qB|refine qC ?_ rfl ?_|refine qD ?_ ?_|exact qE (by rfl)|exact qF (by rfl)|exact Fit.refl _|exact qG _|(refine qE ?_;(try simp only [qV]at *);simp only [zQ,zA,zB,zC,zD,zE,zF,zG,zH,zI,zJ,zK,zL,zM,zN,zO,zP,zR,zS]at *;omega)));done)|skip)))
   |((try clear c66);(try clear c64);(try clear c65);((try simp only [zQ,zA,zB,zC,zD,zE,zF,zG,zH,zI,zJ,zK,zL,zM,zN,zO,zP,zR,zS]at *);(have hk2:k+1≤(s6.h0-s6.l0+1).toNat:=by((try simp only [qV]at *);(try simp only [zQ,zA,zB,zC,zD,zE,zF,zG,zH,zI,zJ,zK,zL,zM,zN,zO,zP,zR,zS]at *);omega));obtain⟨n1,en1⟩:∃z,z=n+1:=⟨_,rfl⟩;(have hn2:n1=s6.l0+zi (k+1):=by((try simp only [qV]at *);(try simp only [zQ,zA,zB,zC,zD,zE,zF,zG,zH,zI,zJ,zK,zL,zM,zN,zO,zP,zR,zS]at *);omega));obtain⟨o,eo⟩:∃o:Bnd,o=⟨mn w.l0 n,mx w.h0 n,mn w.l1 (xL s6 n),mx w.h1 (xH s6 n),mn w.l2 (yL s6 n),mx w.h2 (yH s6 n)⟩:=⟨_,rfl⟩;(have hb2:=uk6 hn hb (go_t (by assumption) (by assumption) (by assumption) (by assumption) (by assumption)) eo);refine⟨⟨(k+1,n1,o),hk2,hn2,hb2⟩,by simp only [];omega,?_⟩;cbv;(repeat' (first|with_reducible refine hold ?_ ?_|with_reducible refine And.intro ?_ ?_));(all_goals first|trivial|exact qM (qE (by rfl))|exact qM (qF (by rfl))|exact qM (Fit.refl _)|exact qL (qK _)|(refine qM (qE ?_);(try simp only [qV]at *);simp only [zQ,zA,zB,zC,zD,zE,zF,zG,zH,zI,zJ,zK,zL,zM,zN,zO,zP,zR,zS]at *;omega)|(subst en1;exact qM (qE (by rfl)))|(subst eo;(refine qL (qJ ?_));(repeat' (first|exact qA|exact qB|refine qC ?_ rfl ?_|refine qD ?_ ?_|exact qE (by rfl)|exact qF (by rfl)|exact Fit.refl _|exact qG _|(refine qE ?_;(try simp only [qV]at *);simp only [zQ,zA,zB,zC,zD,zE,zF,zG,zH,zI,zJ,zK,zL,zM,zN,zO,zP,zR,zS]at *;omega)));done)|(refine qL (qJ ?_);(repeat' (first|exact qA|exact qB|refine qC ?_ rfl ?_|refine qD ?_ ?_|exact qE (by rfl)|exact qF (by rfl)|exact Fit.refl _|exact qG _|(refine qE ?_;(try simp only [qV]at *);simp only [zQ,zA,zB,zC,zD,zE,zF,zG,zH,zI,zJ,zK,zL,zM,zN,zO,zP,zR,zS]at *;omega)));done)|skip)))
   |((try clear c66);(try clear c64);(try clear c65);(subst hR;(have e:k=(s6.h0-s6.l0+1).toNat:=by((try simp only [qV]at *);(try simp only [zQ,zA,zB,zC,zD,zE,zF,zG,zH,zI,zJ,zK,zL,zM,zN,zO,zP,zR,zS]at *);omega));subst e;subst hb;(refine qD ?_ (qD (qF (by rfl)) qB));(refine ua1 (by rfl) (fun ix h0 h1=> ?_);(have h2:ix.den<1:=h1);(have hx:ix.den.toNat=0:=by omega);(rcases hx with hx<;>simp only [hx]));all_goals (exact qC (qE (by rfl)) rfl (qC (qE (by rfl)) rfl qA))))
   |skip
set_option maxHeartbeats 2000000 in
theorem uue (d:Dsp)(b:Nat)(hd:DOk d)(hb:b≤1000)(hS:d.sn=2):ua0 Tryz.prog 26 [(.agg [(iS d.tw),(iS d.tm),(.sl 1 (.sym fun _=>zi (d.tv).length) (fun ix=>[(.sl 1 (.sym fun _=>zi ((d.tv).getD ix.den.toNat []).length) (fun jx=>[(iv fun _=>((d.tv).getD ix.den.toNat []).getD jx.den.toNat 0)]))])),(.int .i64 (.lit 2)),(iv fun _=>d.pn),(.sl 4 (.sym fun _=>zi (d.ls).length) (fun ix=>[(iv fun _=>((d.ls).getD ix.den.toNat l0T).a),(iv fun _=>((d.ls).getD ix.den.toNat l0T).b),(iv fun _=>((d.ls).getD ix.den.toNat l0T).lo),(iv fun _=>((d.ls).getD ix.den.toNat l0T).hi)])),(.sl 6 (.sym fun _=>zi (d.fs).length) (fun ix=>[(iv fun _=>((d.fs).getD ix.den.toNat f0T).p),(iv fun _=>((d.fs).getD ix.den.toNat f0T).s),(iv fun _=>((d.fs).getD ix.den.toNat f0T).wl),(iv fun _=>((d.fs).getD ix.den.toNat f0T).wh),(iv fun _=>((d.fs).getD ix.den.toNat f0T).ml),(iv fun _=>((d.fs).getD ix.den.toNat f0T).mh)]))]),(.sl 2 (.sym fun _=>zi (d.fs).length) (fun ix=>[(iv fun _=>((FO d d.fs).getD ix.den.toNat f0).lo),(iv fun _=>((FO d d.fs).getD ix.den.toNat f0).hi)])),(iv fun _=>zi b)] [] (fun r _=>r=(.tup [(.sl 2 (.sym fun _=>zi 2) (fun ix=>[(iv fun _=>(allS (sixN (SN d) (LO d) (FO d d.fs) (outN b))).lo ix.den.toNat),(iv fun _=>(allS (sixN (SN d) (LO d) (FO d d.fs) (outN b))).hi ix.den.toNat)])),(.bool (.sym fun _=>decide (0≤(allS (sixN (SN d) (LO d) (FO d d.fs) (outN b))).h0)))])):=by
 have c64:=fun s=>usM d b s hd hb
 have c65:=fun a e=>ukC d a e hd
 have c66:=upk
 have f6:=hd.f6
 have l4:=hd.l4
 obtain⟨s6,hs6⟩:∃s6,s6=sixN (SN d) (LO d) (FO d d.fs) (outN b):=⟨_,rfl⟩
 have hSN:SN d=2:=by unfold SN;omega
 have hfl:=ucV d d.fs
 have hll:=ugt d
 have el0:(ownN (FO d d.fs) (outN b) 0 d.fs.length).1=s6.l0:=by rw [hs6];simp only [sixN,hSN,hfl,hll];try rfl
 have eh0:(ownN (FO d d.fs) (outN b) 0 d.fs.length).2=s6.h0:=by rw [hs6];simp only [sixN,hSN,hfl,hll];try rfl
 have el1:(ownN (FO d d.fs) (outN b) 1 d.fs.length).1=s6.l1:=by rw [hs6];simp only [sixN,hSN,hfl,hll];try rfl
 have eh1:(ownN (FO d d.fs) (outN b) 1 d.fs.length).2=s6.h1:=by rw [hs6];simp only [sixN,hSN,hfl,hll];try rfl
 have el2:(0:Int)=s6.l2:=by rw [hs6];simp only [sixN,hSN,hfl,hll];try rfl
 have eh2:(0:Int)=s6.h2:=by rw [hs6];simp only [sixN,hSN,hfl,hll];try rfl
 have eal:(difN (LO d) 0 1 d.ls.length).1=s6.al:=by rw [hs6];simp only [sixN,hSN,hfl,hll];try rfl
 have eah:(difN (LO d) 0 1 d.ls.length).2=s6.ah:=by rw [hs6];simp only [sixN,hSN,hfl,hll];try rfl
 have ebl:(-2000:Int)=s6.bl:=by rw [hs6];simp only [sixN,hSN,hfl,hll];try rfl
 have ebh:(2000:Int)=s6.bh:=by rw [hs6];simp only [sixN,hSN,hfl,hll];try rfl
 have ecl:(-2000:Int)=s6.cl:=by rw [hs6];simp only [sixN,hSN,hfl,hll];try rfl
 have ech:(2000:Int)=s6.ch:=by rw [hs6];simp only [sixN,hSN,hfl,hll];try rfl
 have o0:=ufl hd b 0
 have o1:=ufl hd b 1
 have d0:=uib hd 0 1
 have q0:(0≤s6.l0∧s6.l0≤2000)∧0≤s6.h0∧s6.h0≤2000:=by omega
 have q1:(0≤s6.l1∧s6.l1≤2000)∧0≤s6.h1∧s6.h1≤2000:=by omega
 have q2:(0≤s6.l2∧s6.l2≤2000)∧0≤s6.h2∧s6.h2≤2000:=by omega
 have p0:(-2000≤s6.al∧s6.al≤2000)∧ -2000≤s6.ah∧s6.ah≤2000:=by omega
 have p1:(-2000≤s6.bl∧s6.bl≤2000)∧ -2000≤s6.bh∧s6.bh≤2000:=by omega
 have p2:(-2000≤s6.cl∧s6.cl≤2000)∧ -2000≤s6.ch∧s6.ch≤2000:=by omega
 rw [←hs6]
 clear hs6
 clear o0
 clear o1
 clear d0
 refine ua0.is fun R hR=>qW (sc:=sc26) tyok mix Tryz.func26 rfl Tryz.call26 (by kernel_rfl) (by kernel_rfl) ?_
 generalize Tryz.prog=P at c64 c65 c66⊢
 cbv
 repeat' (first
  |fail)
 all_goals first
  |skip
 refine⟨some 3,?_⟩
 cbv
 repeat' (first
  | (refine qP ?_ (c64 0) ?hfit
     case hfit=>((refine qD (qC (Fit.refl _) rfl (qC (Fit.refl _) rfl (qC (Fit.refl _) rfl (qC (qE (by first|rfl|exact hS.symm)) rfl (Fit.refl _))))) (qD (Fit.refl _) (qD (qE (by rfl)) (qD (Fit.refl _) qB))));done)
     try cbv)
  | (refine qP ?_ (c64 1) ?hfit
     case hfit=>((refine qD (qC (Fit.refl _) rfl (qC (Fit.refl _) rfl (qC (Fit.refl _) rfl (qC (qE (by first|rfl|exact hS.symm)) rfl (Fit.refl _))))) (qD (Fit.refl _) (qD (qE (by rfl)) (qD (Fit.refl _) qB))));done)
     try cbv)
  | (refine qP ?_ (c65 0 1) ?hfit
     case hfit=>((refine qD (qC (Fit.refl _) rfl (qC (Fit.refl _) rfl (qC (Fit.refl _) rfl (qC (qE (by first|rfl|exact hS.symm)) rfl (Fit.refl _))))) (qD (qE (by rfl)) (qD (qE (by rfl)) qB)));done)
     try cbv)
  |fail)
 all_goals first
  |skip
 refine⟨none,[],{x:Nat×Int×Bnd // x.1≤(s6.h0-s6.l0+1).toNat∧x.2.1=s6.l0+zi x.1∧x.2.2=bdN s6 x.1},fun x=>⟨[(3,.own 0 0),(8,.own 7 0),(10,.own 47 0),(11,.own 48 0),(12,.own 49 0),(13,.own 66 0),(14,(iv fun _=>x.1.2.1))],[(0,.cells [(iS d.tw),(iS d.tm),(.sl 1 (.sym fun _=>zi (d.tv).length) (fun ix=>[(.sl 1 (.sym fun _=>zi ((d.tv).getD ix.den.toNat []).length) (fun jx=>[(iv fun _=>((d.tv).getD ix.den.toNat []).getD jx.den.toNat 0)]))])),(.int .i64 (.lit 2)),(iv fun _=>d.pn),(.sl 4 (.sym fun _=>zi (d.ls).length) (fun ix=>[(iv fun _=>((d.ls).getD ix.den.toNat l0T).a),(iv fun _=>((d.ls).getD ix.den.toNat l0T).b),(iv fun _=>((d.ls).getD ix.den.toNat l0T).lo),(iv fun _=>((d.ls).getD ix.den.toNat l0T).hi)])),(.sl 6 (.sym fun _=>zi (d.fs).length) (fun ix=>[(iv fun _=>((d.fs).getD ix.den.toNat f0T).p),(iv fun _=>((d.fs).getD ix.den.toNat f0T).s),(iv fun _=>((d.fs).getD ix.den.toNat f0T).wl),(iv fun _=>((d.fs).getD ix.den.toNat f0T).wh),(iv fun _=>((d.fs).getD ix.den.toNat f0T).ml),(iv fun _=>((d.fs).getD ix.den.toNat f0T).mh)]))] 29),(7,.cells [(iv fun _=>s6.l0),(iv fun _=>s6.h0),(iv fun _=>s6.l1),(iv fun _=>s6.h1),(iv fun _=>s6.l2),(iv fun _=>s6.h2)] 124),(47,.cells [(iv fun _=>s6.al),(iv fun _=>s6.ah)] 66),(48,.cells [(iv fun _=>s6.bl),(iv fun _=>s6.bh)] 66),(49,.cells [(iv fun _=>s6.cl),(iv fun _=>s6.ch)] 66),(66,.cells [(iv fun _=>x.1.2.2.l0),(iv fun _=>x.1.2.2.h0),(iv fun _=>x.1.2.2.l1),(iv fun _=>x.1.2.2.h1),(iv fun _=>x.1.2.2.l2),(iv fun _=>x.1.2.2.h2)] 124)],400⟩,fun x=>(s6.h0-s6.l0+1).toNat-x.1.1,?_,?_⟩
 ·refine⟨⟨(0,s6.l0,bd0),by simp only [];omega,by simp only [uab];omega,rfl⟩,?_⟩
  cbv
  repeat' (first
   |with_reducible refine hold ?_ ?_
   |with_reducible refine And.intro ?_ ?_)
  all_goals first
   |trivial
   |exact qM (Fit.refl _)
   |exact qL (qK _)
   |(refine qM (qE ?_);(try simp only [qV]at *);simp only [zQ,zA,zB,zC,zD,zE,zF,zG,zH,zI,zJ,zK,zL,zM,zN,zO,zP,zR,zS]at *;omega)
   |(refine qL (qJ ?_);(repeat' (first|exact qA|refine qC ?_ rfl ?_|exact qE (by first|rfl|exact el0|exact eh0|exact el1|exact eh1|exact el2|exact eh2|exact eal|exact eah|exact ebl|exact ebh|exact ecl|exact ech)));done)
   |skip
 ·rintro ⟨⟨k,n,w⟩,hk,hn,hb⟩
  cbv
  dsimp only at hk hn hb
  repeat' (first
   |(with_reducible intro hcd;exfalso;(try simp only [zQ,zA,zB,zC,zD,zE,zF,zG,zH,zI,zJ,zK,zL,zM,zN,zO,zP,zR,zS]at hcd);omega)
   |with_reducible refine hold ?_ ?_
   |with_reducible refine And.intro ?_ ?_
   |(with_reducible intro hcd;(try simp only [zA,zB,zC,zD,zE,zF,zG,zH,zI,zJ,zK,zL,zM,zN,zO,zP]at hcd);try cbv)
   | (refine qP ?_ (c66 _ _ _ _) (by(repeat' (first|exact qB|refine qD ?_ ?_|exact qE (by rfl)|exact qF (by rfl)|exact Fit.refl _|exact qA|refine qC ?_ rfl ?_)))
      try cbv)
   | (refine⟨some 4,?_⟩
      cbv)
   |fail)
  all_goals first
   |trivial
   |((try clear c66);(try clear c64);(try clear c65);((try simp only [qV]at *);(try simp only [zQ,zA,zB,zC,zD,zE,zF,zG,zH,zI,zJ,zK,zL,zM,zN,zO,zP,zR,zS]at *);first|(refine qN ?_;omega)|(simp only [Hold];omega)))
   |((try clear c66);(try clear c64);(try clear c65);((try clear el0 eh0 el1 eh1 el2 eh2 eal eah ebl ebh ecl ech hb hfl hll hSN f6 l4 hd);(try simp only [qV]at *);(try simp only [zQ,zA,zB,zC,zD,zE,zF,zG,zH,zI,zJ,zK,zL,zM,zN,zO,zP,zR,zS]at *);have hk8:n≤2000:=(by omega);(have v1:=uia (a:=s6.l1) (b:=n+s6.al) (l:= -4000) (h:=4000) ⟨by omega,by omega⟩ ⟨by omega,by omega⟩);(have v2:=uir (a:=s6.h1) (b:=n+s6.ah) (l:= -4000) (h:=4000) ⟨by omega,by omega⟩ ⟨by omega,by omega⟩);(have v3:=uia (a:=s6.l2) (b:=n+s6.bl) (l:= -4000) (h:=4000) ⟨by omega,by omega⟩ ⟨by omega,by omega⟩);(have v4:=uir (a:=s6.h2) (b:=n+s6.bh) (l:= -4000) (h:=4000) ⟨by omega,by omega⟩ ⟨by omega,by omega⟩);(refine qN ?_);omega))
   |((try clear c66);(try clear c64);(try clear c65);((try simp only [zQ,zA,zB,zC,zD,zE,zF,zG,zH,zI,zJ,zK,zL,zM,zN,zO,zP,zR,zS]at *);(have hk2:k+1≤(s6.h0-s6.l0+1).toNat:=by((try simp only [qV]at *);(try simp only [zQ,zA,zB,zC,zD,zE,zF,zG,zH,zI,zJ,zK,zL,zM,zN,zO,zP,zR,zS]at *);omega));obtain⟨n1,en1⟩:∃z,z=n+1:=⟨_,rfl⟩;(have hn2:n1=s6.l0+zi (k+1):=by((try simp only [qV]at *);(try simp only [zQ,zA,zB,zC,zD,zE,zF,zG,zH,zI,zJ,zK,zL,zM,zN,zO,zP,zR,zS]at *);omega));(have hb2:=ucX hn hb (utq (by assumption)));refine⟨⟨(k+1,n1,w),hk2,hn2,hb2⟩,by simp only [];omega,?_⟩;cbv;(repeat' (first|with_reducible refine hold ?_ ?_|with_reducible refine And.intro ?_ ?_));(all_goals first|trivial|exact qM (qE (by rfl))|exact qM (qF (by rfl))|exact qM (Fit.refl _)|exact qL (qK _)|(refine qM (qE ?_);(try simp only [qV]at *);simp only [zQ,zA,zB,zC,zD,zE,zF,zG,zH,zI,zJ,zK,zL,zM,zN,zO,zP,zR,zS]at *;omega)|(subst en1;exact qM (qE (by rfl)))|(refine qL (qJ ?_);(repeat' (first|exact qA|exact qB|refine qC ?_ rfl ?_|refine qD ?_ ?_|exact qE (by rfl)|exact qF (by rfl)|exact Fit.refl _|exact qG _|(refine qE ?_;(try simp only [qV]at *);simp only [zQ,zA,zB,zC,zD,zE,zF,zG,zH,zI,zJ,zK,zL,zM,zN,zO,zP,zR,zS]at *;omega)));done)|skip)))
   |((try clear c66);(try clear c64);(try clear c65);((try simp only [zQ,zA,zB,zC,zD,zE,zF,zG,zH,zI,zJ,zK,zL,zM,zN,zO,zP,zR,zS]at *);(have hk2:k+1≤(s6.h0-s6.l0+1).toNat:=by((try simp only [qV]at *);(try simp only [zQ,zA,zB,zC,zD,zE,zF,zG,zH,zI,zJ,zK,zL,zM,zN,zO,zP,zR,zS]at *);omega));obtain⟨n1,en1⟩:∃z,z=n+1:=⟨_,rfl⟩;(have hn2:n1=s6.l0+zi (k+1):=by((try simp only [qV]at *);(try simp only [zQ,zA,zB,zC,zD,zE,zF,zG,zH,zI,zJ,zK,zL,zM,zN,zO,zP,zR,zS]at *);omega));(have hb2:=ucX hn hb (uuk (by assumption)));refine⟨⟨(k+1,n1,w),hk2,hn2,hb2⟩,by simp only [];omega,?_⟩;cbv;(repeat' (first|with_reducible refine hold ?_ ?_|with_reducible refine And.intro ?_ ?_));(all_goals first|trivial|exact qM (qE (by rfl))|exact qM (qF (by rfl))|exact qM (Fit.refl _)|exact qL (qK _)|(refine qM (qE ?_);(try simp only [qV]at *);simp only [zQ,zA,zB,zC,zD,zE,zF,zG,zH,zI,zJ,zK,zL,zM,zN,zO,zP,zR,zS]at *;omega)|(subst en1;exact qM (qE (by rfl)))|(refine qL (qJ ?_);(repeat' (first|exact qA|exact qB|refine qC ?_ rfl ?_|refine qD ?_ ?_|exact qE (by rfl)|exact qF (by rfl)|exact Fit.refl _|exact qG _|(refine qE ?_;(try simp only [qV]at *);simp only [zQ,zA,zB,zC,zD,zE,zF,zG,zH,zI,zJ,zK,zL,zM,zN,zO,zP,zR,zS]at *;omega)));done)|skip)))
   |((try clear c66);(try clear c64);(try clear c65);((try simp only [zQ,zA,zB,zC,zD,zE,zF,zG,zH,zI,zJ,zK,zL,zM,zN,zO,zP,zR,zS]at *);(have hk2:k+1≤(s6.h0-s6.l0+1).toNat:=by((try simp only [qV]at *);(try simp only [zQ,zA,zB,zC,zD,zE,zF,zG,zH,zI,zJ,zK,zL,zM,zN,zO,zP,zR,zS]at *);omega));obtain⟨n1,en1⟩:∃z,z=n+1:=⟨_,rfl⟩;(have hn2:n1=s6.l0+zi (k+1):=by((try simp only [qV]at *);(try simp only [zQ,zA,zB,zC,zD,zE,zF,zG,zH,zI,zJ,zK,zL,zM,zN,zO,zP,zR,zS]at *);omega));(have hb2:=ucX hn hb (ukS (.inr (.inl (by assumption)))));refine⟨⟨(k+1,n1,w),hk2,hn2,hb2⟩,by simp only [];omega,?_⟩;cbv;(repeat' (first|with_reducible refine hold ?_ ?_|with_reducible refine And.intro ?_ ?_));(all_goals first|trivial|exact qM (qE (by rfl))|exact qM (qF (by rfl))|exact qM (Fit.refl _)|exact qL (qK _)|(refine qM (qE ?_);(try simp only [qV]at *);simp only [zQ,zA,zB,zC,zD,zE,zF,zG,zH,zI,zJ,zK,zL,zM,zN,zO,zP,zR,zS]at *;omega)|(subst en1;exact qM (qE (by rfl)))|(refine qL (qJ ?_);(repeat' (first|exact qA|exact qB|refine qC ?_ rfl ?_|refine qD ?_ ?_|exact qE (by rfl)|exact qF (by rfl)|exact Fit.refl _|exact qG _|(refine qE ?_;(try simp only [qV]at *);simp only [zQ,zA,zB,zC,zD,zE,zF,zG,zH,zI,zJ,zK,zL,zM,zN,zO,zP,zR,zS]at *;omega)));done)|skip)))
   |((try clear c66);(try clear c64);(try clear c65);((try simp only [zQ,zA,zB,zC,zD,zE,zF,zG,zH,zI,zJ,zK,zL,zM,zN,zO,zP,zR,zS]at *);(have hk2:k+1≤(s6.h0-s6.l0+1).toNat:=by((try simp only [qV]at *);(try simp only [zQ,zA,zB,zC,zD,zE,zF,zG,zH,zI,zJ,zK,zL,zM,zN,zO,zP,zR,zS]at *);omega));obtain⟨n1,en1⟩:∃z,z=n+1:=⟨_,rfl⟩;(have hn2:n1=s6.l0+zi (k+1):=by((try simp only [qV]at *);(try simp only [zQ,zA,zB,zC,zD,zE,zF,zG,zH,zI,zJ,zK,zL,zM,zN,zO,zP,zR,zS]at *);omega));(have hb2:=ucX hn hb (ukS (.inr (.inr (by assumption)))));refine⟨⟨(k+1,n1,w),hk2,hn2,hb2⟩,by simp only [];omega,?_⟩;cbv;(repeat' (first|with_reducible refine hold ?_ ?_|with_reducible refine And.intro ?_ ?_));(all_goals first|trivial|exact qM (qE (by rfl))|exact qM (qF (by rfl))|exact qM (Fit.refl _)|exact qL (qK _)|(refine qM (qE ?_);(try simp only [qV]at *);simp only [zQ,zA,zB,zC,zD,zE,zF,zG,zH,zI,zJ,zK,zL,zM,zN,zO,zP,zR,zS]at *;omega)|(subst en1;exact qM (qE (by rfl)))|(refine qL (qJ ?_);(repeat' (first|exact qA|exact qB|refine qC ?_ rfl ?_|refine qD ?_ ?_|exact qE (by rfl)|exact qF (by rfl)|exact Fit.refl _|exact qG _|(refine qE ?_;(try simp only [qV]at *);simp only [zQ,zA,zB,zC,zD,zE,zF,zG,zH,zI,zJ,zK,zL,zM,zN,zO,zP,zR,zS]at *;omega)));done)|skip)))
   |((try clear c66);(try clear c64);(try clear c65);((try simp only [zQ,zA,zB,zC,zD,zE,zF,zG,zH,zI,zJ,zK,zL,zM,zN,zO,zP,zR,zS]at *);(have hk2:k+1≤(s6.h0-s6.l0+1).toNat:=by((try simp only [qV]at *);(try simp only [zQ,zA,zB,zC,zD,zE,zF,zG,zH,zI,zJ,zK,zL,zM,zN,zO,zP,zR,zS]at *);omega));obtain⟨n1,en1⟩:∃z,z=n+1:=⟨_,rfl⟩;(have hn2:n1=s6.l0+zi (k+1):=by((try simp only [qV]at *);(try simp only [zQ,zA,zB,zC,zD,zE,zF,zG,zH,zI,zJ,zK,zL,zM,zN,zO,zP,zR,zS]at *);omega));obtain⟨o,eo⟩:∃o:Bnd,o=⟨mn w.l0 n,mx w.h0 n,mn w.l1 (xL s6 n),mx w.h1 (xH s6 n),mn w.l2 (yL s6 n),mx w.h2 (yH s6 n)⟩:=⟨_,rfl⟩;(have hb2:=uk6 hn hb (go_t (by assumption) (by assumption) (by assumption) (by assumption) (by assumption)) eo);refine⟨⟨(k+1,n1,o),hk2,hn2,hb2⟩,by simp only [];omega,?_⟩;cbv;(repeat' (first|with_reducible refine hold ?_ ?_|with_reducible refine And.intro ?_ ?_));(all_goals first|trivial|exact qM (qE (by rfl))|exact qM (qF (by rfl))|exact qM (Fit.refl _)|exact qL (qK _)|(refine qM (qE ?_);(try simp only [qV]at *);simp only [zQ,zA,zB,zC,zD,zE,zF,zG,zH,zI,zJ,zK,zL,zM,zN,zO,zP,zR,zS]at *;omega)|(subst en1;exact qM (qE (by rfl)))|(subst eo;(refine qL (qJ ?_));(repeat' (first|exact qA|exact qB|refine qC ?_ rfl ?_|refine qD ?_ ?_|exact qE (by rfl)|exact qF (by rfl)|exact Fit.refl _|exact qG _|(refine qE ?_;(try simp only [qV]at *);simp only [zQ,zA,zB,zC,zD,zE,zF,zG,zH,zI,zJ,zK,zL,zM,zN,zO,zP,zR,zS]at *;omega)));done)|(refine qL (qJ ?_);(repeat' (first|exact qA|exact qB|refine qC ?_ rfl ?_|refine qD ?_ ?_|exact qE (by rfl)|exact qF (by rfl)|exact Fit.refl _|exact qG _|(refine qE ?_;(try simp only [qV]at *);simp only [zQ,zA,zB,zC,zD,zE,zF,zG,zH,zI,zJ,zK,zL,zM,zN,zO,zP,zR,zS]at *;omega)));done)|skip)))
   |((try clear c66);(try clear c64);(try clear c65);(subst hR;(have e:k=(s6.h0-s6.l0+1).toNat:=by((try simp only [qV]at *);(try simp only [zQ,zA,zB,zC,zD,zE,zF,zG,zH,zI,zJ,zK,zL,zM,zN,zO,zP,zR,zS]at *);omega));subst e;subst hb;(refine qD ?_ (qD (qF (by rfl)) qB));(refine ua1 (by rfl) (fun ix h0 h1=> ?_);(have h2:ix.den<2:=h1);(have hx:ix.den.toNat=0∨ix.den.toNat=1:=by omega);(rcases hx with hx|hx<;>simp only [hx]));all_goals (exact qC (qE (by rfl)) rfl (qC (qE (by rfl)) rfl qA))))
   |skip
set_option maxHeartbeats 2000000 in
theorem uts (d:Dsp)(b:Nat)(hd:DOk d)(hb:b≤1000)(hS:d.sn=3):ua0 Tryz.prog 26 [(.agg [(iS d.tw),(iS d.tm),(.sl 1 (.sym fun _=>zi (d.tv).length) (fun ix=>[(.sl 1 (.sym fun _=>zi ((d.tv).getD ix.den.toNat []).length) (fun jx=>[(iv fun _=>((d.tv).getD ix.den.toNat []).getD jx.den.toNat 0)]))])),(.int .i64 (.lit 3)),(iv fun _=>d.pn),(.sl 4 (.sym fun _=>zi (d.ls).length) (fun ix=>[(iv fun _=>((d.ls).getD ix.den.toNat l0T).a),(iv fun _=>((d.ls).getD ix.den.toNat l0T).b),(iv fun _=>((d.ls).getD ix.den.toNat l0T).lo),(iv fun _=>((d.ls).getD ix.den.toNat l0T).hi)])),(.sl 6 (.sym fun _=>zi (d.fs).length) (fun ix=>[(iv fun _=>((d.fs).getD ix.den.toNat f0T).p),(iv fun _=>((d.fs).getD ix.den.toNat f0T).s),(iv fun _=>((d.fs).getD ix.den.toNat f0T).wl),(iv fun _=>((d.fs).getD ix.den.toNat f0T).wh),(iv fun _=>((d.fs).getD ix.den.toNat f0T).ml),(iv fun _=>((d.fs).getD ix.den.toNat f0T).mh)]))]),(.sl 2 (.sym fun _=>zi (d.fs).length) (fun ix=>[(iv fun _=>((FO d d.fs).getD ix.den.toNat f0).lo),(iv fun _=>((FO d d.fs).getD ix.den.toNat f0).hi)])),(iv fun _=>zi b)] [] (fun r _=>r=(.tup [(.sl 2 (.sym fun _=>zi 3) (fun ix=>[(iv fun _=>(allS (sixN (SN d) (LO d) (FO d d.fs) (outN b))).lo ix.den.toNat),(iv fun _=>(allS (sixN (SN d) (LO d) (FO d d.fs) (outN b))).hi ix.den.toNat)])),(.bool (.sym fun _=>decide (0≤(allS (sixN (SN d) (LO d) (FO d d.fs) (outN b))).h0)))])):=by
 have c64:=fun s=>usM d b s hd hb
 have c65:=fun a e=>ukC d a e hd
 have c66:=upk
 have f6:=hd.f6
 have l4:=hd.l4
 obtain⟨s6,hs6⟩:∃s6,s6=sixN (SN d) (LO d) (FO d d.fs) (outN b):=⟨_,rfl⟩
 have hSN:SN d=3:=by unfold SN;omega
 have hfl:=ucV d d.fs
 have hll:=ugt d
 have el0:(ownN (FO d d.fs) (outN b) 0 d.fs.length).1=s6.l0:=by rw [hs6];simp only [sixN,hSN,hfl,hll];try rfl
 have eh0:(ownN (FO d d.fs) (outN b) 0 d.fs.length).2=s6.h0:=by rw [hs6];simp only [sixN,hSN,hfl,hll];try rfl
 have el1:(ownN (FO d d.fs) (outN b) 1 d.fs.length).1=s6.l1:=by rw [hs6];simp only [sixN,hSN,hfl,hll];try rfl
 have eh1:(ownN (FO d d.fs) (outN b) 1 d.fs.length).2=s6.h1:=by rw [hs6];simp only [sixN,hSN,hfl,hll];try rfl
 have el2:(ownN (FO d d.fs) (outN b) 2 d.fs.length).1=s6.l2:=by rw [hs6];simp only [sixN,hSN,hfl,hll];try rfl
 have eh2:(ownN (FO d d.fs) (outN b) 2 d.fs.length).2=s6.h2:=by rw [hs6];simp only [sixN,hSN,hfl,hll];try rfl
 have eal:(difN (LO d) 0 1 d.ls.length).1=s6.al:=by rw [hs6];simp only [sixN,hSN,hfl,hll];try rfl
 have eah:(difN (LO d) 0 1 d.ls.length).2=s6.ah:=by rw [hs6];simp only [sixN,hSN,hfl,hll];try rfl
 have ebl:(difN (LO d) 0 2 d.ls.length).1=s6.bl:=by rw [hs6];simp only [sixN,hSN,hfl,hll];try rfl
 have ebh:(difN (LO d) 0 2 d.ls.length).2=s6.bh:=by rw [hs6];simp only [sixN,hSN,hfl,hll];try rfl
 have ecl:(difN (LO d) 1 2 d.ls.length).1=s6.cl:=by rw [hs6];simp only [sixN,hSN,hfl,hll];try rfl
 have ech:(difN (LO d) 1 2 d.ls.length).2=s6.ch:=by rw [hs6];simp only [sixN,hSN,hfl,hll];try rfl
 have o0:=ufl hd b 0
 have o1:=ufl hd b 1
 have o2:=ufl hd b 2
 have d0:=uib hd 0 1
 have d1:=uib hd 0 2
 have d2:=uib hd 1 2
 have q0:(0≤s6.l0∧s6.l0≤2000)∧0≤s6.h0∧s6.h0≤2000:=by omega
 have q1:(0≤s6.l1∧s6.l1≤2000)∧0≤s6.h1∧s6.h1≤2000:=by omega
 have q2:(0≤s6.l2∧s6.l2≤2000)∧0≤s6.h2∧s6.h2≤2000:=by omega
 have p0:(-2000≤s6.al∧s6.al≤2000)∧ -2000≤s6.ah∧s6.ah≤2000:=by omega
 have p1:(-2000≤s6.bl∧s6.bl≤2000)∧ -2000≤s6.bh∧s6.bh≤2000:=by omega
 have p2:(-2000≤s6.cl∧s6.cl≤2000)∧ -2000≤s6.ch∧s6.ch≤2000:=by omega
 rw [←hs6]
 clear hs6
 clear o0
 clear o1
 clear o2
 clear d0
 clear d1
 clear d2
 refine ua0.is fun R hR=>qW (sc:=sc26) tyok mix Tryz.func26 rfl Tryz.call26 (by kernel_rfl) (by kernel_rfl) ?_
 generalize Tryz.prog=P at c64 c65 c66⊢
 cbv
 repeat' (first
  |fail)
 all_goals first
  |skip
 refine⟨some 4,?_⟩
 cbv
 repeat' (first
  | (refine qP ?_ (c64 0) ?hfit
     case hfit=>((refine qD (qC (Fit.refl _) rfl (qC (Fit.refl _) rfl (qC (Fit.refl _) rfl (qC (qE (by first|rfl|exact hS.symm)) rfl (Fit.refl _))))) (qD (Fit.refl _) (qD (qE (by rfl)) (qD (Fit.refl _) qB))));done)
     try cbv)
  | (refine qP ?_ (c64 1) ?hfit
     case hfit=>((refine qD (qC (Fit.refl _) rfl (qC (Fit.refl _) rfl (qC (Fit.refl _) rfl (qC (qE (by first|rfl|exact hS.symm)) rfl (Fit.refl _))))) (qD (Fit.refl _) (qD (qE (by rfl)) (qD (Fit.refl _) qB))));done)
     try cbv)
  | (refine qP ?_ (c64 2) ?hfit
     case hfit=>((refine qD (qC (Fit.refl _) rfl (qC (Fit.refl _) rfl (qC (Fit.refl _) rfl (qC (qE (by first|rfl|exact hS.symm)) rfl (Fit.refl _))))) (qD (Fit.refl _) (qD (qE (by rfl)) (qD (Fit.refl _) qB))));done)
     try cbv)
  | (refine qP ?_ (c65 0 1) ?hfit
     case hfit=>((refine qD (qC (Fit.refl _) rfl (qC (Fit.refl _) rfl (qC (Fit.refl _) rfl (qC (qE (by first|rfl|exact hS.symm)) rfl (Fit.refl _))))) (qD (qE (by rfl)) (qD (qE (by rfl)) qB)));done)
     try cbv)
  | (refine qP ?_ (c65 0 2) ?hfit
     case hfit=>((refine qD (qC (Fit.refl _) rfl (qC (Fit.refl _) rfl (qC (Fit.refl _) rfl (qC (qE (by first|rfl|exact hS.symm)) rfl (Fit.refl _))))) (qD (qE (by rfl)) (qD (qE (by rfl)) qB)));done)
     try cbv)
  | (refine qP ?_ (c65 1 2) ?hfit
     case hfit=>((refine qD (qC (Fit.refl _) rfl (qC (Fit.refl _) rfl (qC (Fit.refl _) rfl (qC (qE (by first|rfl|exact hS.symm)) rfl (Fit.refl _))))) (qD (qE (by rfl)) (qD (qE (by rfl)) qB)));done)
     try cbv)
  |fail)
 all_goals first
  |skip
 refine⟨none,[],{x:Nat×Int×Bnd // x.1≤(s6.h0-s6.l0+1).toNat∧x.2.1=s6.l0+zi x.1∧x.2.2=bdN s6 x.1},fun x=>⟨[(3,.own 0 0),(8,.own 7 0),(10,.own 62 0),(11,.own 63 0),(12,.own 64 0),(13,.own 87 0),(14,(iv fun _=>x.1.2.1))],[(0,.cells [(iS d.tw),(iS d.tm),(.sl 1 (.sym fun _=>zi (d.tv).length) (fun ix=>[(.sl 1 (.sym fun _=>zi ((d.tv).getD ix.den.toNat []).length) (fun jx=>[(iv fun _=>((d.tv).getD ix.den.toNat []).getD jx.den.toNat 0)]))])),(.int .i64 (.lit 3)),(iv fun _=>d.pn),(.sl 4 (.sym fun _=>zi (d.ls).length) (fun ix=>[(iv fun _=>((d.ls).getD ix.den.toNat l0T).a),(iv fun _=>((d.ls).getD ix.den.toNat l0T).b),(iv fun _=>((d.ls).getD ix.den.toNat l0T).lo),(iv fun _=>((d.ls).getD ix.den.toNat l0T).hi)])),(.sl 6 (.sym fun _=>zi (d.fs).length) (fun ix=>[(iv fun _=>((d.fs).getD ix.den.toNat f0T).p),(iv fun _=>((d.fs).getD ix.den.toNat f0T).s),(iv fun _=>((d.fs).getD ix.den.toNat f0T).wl),(iv fun _=>((d.fs).getD ix.den.toNat f0T).wh),(iv fun _=>((d.fs).getD ix.den.toNat f0T).ml),(iv fun _=>((d.fs).getD ix.den.toNat f0T).mh)]))] 29),(7,.cells [(iv fun _=>s6.l0),(iv fun _=>s6.h0),(iv fun _=>s6.l1),(iv fun _=>s6.h1),(iv fun _=>s6.l2),(iv fun _=>s6.h2)] 124),(62,.cells [(iv fun _=>s6.al),(iv fun _=>s6.ah)] 66),(63,.cells [(iv fun _=>s6.bl),(iv fun _=>s6.bh)] 66),(64,.cells [(iv fun _=>s6.cl),(iv fun _=>s6.ch)] 66),(87,.cells [(iv fun _=>x.1.2.2.l0),(iv fun _=>x.1.2.2.h0),(iv fun _=>x.1.2.2.l1),(iv fun _=>x.1.2.2.h1),(iv fun _=>x.1.2.2.l2),(iv fun _=>x.1.2.2.h2)] 124)],400⟩,fun x=>(s6.h0-s6.l0+1).toNat-x.1.1,?_,?_⟩
 ·refine⟨⟨(0,s6.l0,bd0),by simp only [];omega,by simp only [uab];omega,rfl⟩,?_⟩
  cbv
  repeat' (first
   |with_reducible refine hold ?_ ?_
   |with_reducible refine And.intro ?_ ?_)
  all_goals first
   |trivial
   |exact qM (Fit.refl _)
   |exact qL (qK _)
   |(refine qM (qE ?_);(try simp only [qV]at *);simp only [zQ,zA,zB,zC,zD,zE,zF,zG,zH,zI,zJ,zK,zL,zM,zN,zO,zP,zR,zS]at *;omega)
   |(refine qL (qJ ?_);(repeat' (first|exact qA|refine qC ?_ rfl ?_|exact qE (by first|rfl|exact el0|exact eh0|exact el1|exact eh1|exact el2|exact eh2|exact eal|exact eah|exact ebl|exact ebh|exact ecl|exact ech)));done)
   |skip
 ·rintro ⟨⟨k,n,w⟩,hk,hn,hb⟩
  cbv
  dsimp only at hk hn hb
  repeat' (first
   |with_reducible refine hold ?_ ?_
   |with_reducible refine And.intro ?_ ?_
   |(with_reducible intro hcd;(try simp only [zA,zB,zC,zD,zE,zF,zG,zH,zI,zJ,zK,zL,zM,zN,zO,zP]at hcd);try cbv)
   | (refine qP ?_ (c66 _ _ _ _) (by(repeat' (first|exact qB|refine qD ?_ ?_|exact qE (by rfl)|exact qF (by rfl)|exact Fit.refl _|exact qA|refine qC ?_ rfl ?_)))
      try cbv)
   | (refine⟨some 4,?_⟩
      cbv)
   |fail)
  all_goals first
   |trivial
   |((try clear c66);(try clear c64);(try clear c65);((try simp only [qV]at *);(try simp only [zQ,zA,zB,zC,zD,zE,zF,zG,zH,zI,zJ,zK,zL,zM,zN,zO,zP,zR,zS]at *);first|(refine qN ?_;omega)|(simp only [Hold];omega)))
   |((try clear c66);(try clear c64);(try clear c65);((try clear el0 eh0 el1 eh1 el2 eh2 eal eah ebl ebh ecl ech hb hfl hll hSN f6 l4 hd);(try simp only [qV]at *);(try simp only [zQ,zA,zB,zC,zD,zE,zF,zG,zH,zI,zJ,zK,zL,zM,zN,zO,zP,zR,zS]at *);have hk8:n≤2000:=(by omega);(have v1:=uia (a:=s6.l1) (b:=n+s6.al) (l:= -4000) (h:=4000) ⟨by omega,by omega⟩ ⟨by omega,by omega⟩);(have v2:=uir (a:=s6.h1) (b:=n+s6.ah) (l:= -4000) (h:=4000) ⟨by omega,by omega⟩ ⟨by omega,by omega⟩);(have v3:=uia (a:=s6.l2) (b:=n+s6.bl) (l:= -4000) (h:=4000) ⟨by omega,by omega⟩ ⟨by omega,by omega⟩);(have v4:=uir (a:=s6.h2) (b:=n+s6.bh) (l:= -4000) (h:=4000) ⟨by omega,by omega⟩ ⟨by omega,by omega⟩);(refine qN ?_);omega))
   |((try clear c66);(try clear c64);(try clear c65);((try simp only [zQ,zA,zB,zC,zD,zE,zF,zG,zH,zI,zJ,zK,zL,zM,zN,zO,zP,zR,zS]at *);(have hk2:k+1≤(s6.h0-s6.l0+1).toNat:=by((try simp only [qV]at *);(try simp only [zQ,zA,zB,zC,zD,zE,zF,zG,zH,zI,zJ,zK,zL,zM,zN,zO,zP,zR,zS]at *);omega));obtain⟨n1,en1⟩:∃z,z=n+1:=⟨_,rfl⟩;(have hn2:n1=s6.l0+zi (k+1):=by((try simp only [qV]at *);(try simp only [zQ,zA,zB,zC,zD,zE,zF,zG,zH,zI,zJ,zK,zL,zM,zN,zO,zP,zR,zS]at *);omega));(have hb2:=ucX hn hb (utq (by assumption)));refine⟨⟨(k+1,n1,w),hk2,hn2,hb2⟩,by simp only [];omega,?_⟩;cbv;(repeat' (first|with_reducible refine hold ?_ ?_|with_reducible refine And.intro ?_ ?_));(all_goals first|trivial|exact qM (qE (by rfl))|exact qM (qF (by rfl))|exact qM (Fit.refl _)|exact qL (qK _)|(refine qM (qE ?_);(try simp only [qV]at *);simp only [zQ,zA,zB,zC,zD,zE,zF,zG,zH,zI,zJ,zK,zL,zM,zN,zO,zP,zR,zS]at *;omega)|(subst en1;exact qM (qE (by rfl)))|(refine qL (qJ ?_);(repeat' (first|exact qA|exact qB|refine qC ?_ rfl ?_|refine qD ?_ ?_|exact qE (by rfl)|exact qF (by rfl)|exact Fit.refl _|exact qG _|(refine qE ?_;(try simp only [qV]at *);simp only [zQ,zA,zB,zC,zD,zE,zF,zG,zH,zI,zJ,zK,zL,zM,zN,zO,zP,zR,zS]at *;omega)));done)|skip)))
   |((try clear c66);(try clear c64);(try clear c65);((try simp only [zQ,zA,zB,zC,zD,zE,zF,zG,zH,zI,zJ,zK,zL,zM,zN,zO,zP,zR,zS]at *);(have hk2:k+1≤(s6.h0-s6.l0+1).toNat:=by((try simp only [qV]at *);(try simp only [zQ,zA,zB,zC,zD,zE,zF,zG,zH,zI,zJ,zK,zL,zM,zN,zO,zP,zR,zS]at *);omega));obtain⟨n1,en1⟩:∃z,z=n+1:=⟨_,rfl⟩;(have hn2:n1=s6.l0+zi (k+1):=by((try simp only [qV]at *);(try simp only [zQ,zA,zB,zC,zD,zE,zF,zG,zH,zI,zJ,zK,zL,zM,zN,zO,zP,zR,zS]at *);omega));(have hb2:=ucX hn hb (uuk (by assumption)));refine⟨⟨(k+1,n1,w),hk2,hn2,hb2⟩,by simp only [];omega,?_⟩;cbv;(repeat' (first|with_reducible refine hold ?_ ?_|with_reducible refine And.intro ?_ ?_));(all_goals first|trivial|exact qM (qE (by rfl))|exact qM (qF (by rfl))|exact qM (Fit.refl _)|exact qL (qK _)|(refine qM (qE ?_);(try simp only [qV]at *);simp only [zQ,zA,zB,zC,zD,zE,zF,zG,zH,zI,zJ,zK,zL,zM,zN,zO,zP,zR,zS]at *;omega)|(subst en1;exact qM (qE (by rfl)))|(refine qL (qJ ?_);(repeat' (first|exact qA|exact qB|refine qC ?_ rfl ?_|refine qD ?_ ?_|exact qE (by rfl)|exact qF (by rfl)|exact Fit.refl _|exact qG _|(refine qE ?_;(try simp only [qV]at *);simp only [zQ,zA,zB,zC,zD,zE,zF,zG,zH,zI,zJ,zK,zL,zM,zN,zO,zP,zR,zS]at *;omega)));done)|skip)))
   |((try clear c66);(try clear c64);(try clear c65);((try simp only [zQ,zA,zB,zC,zD,zE,zF,zG,zH,zI,zJ,zK,zL,zM,zN,zO,zP,zR,zS]at *);(have hk2:k+1≤(s6.h0-s6.l0+1).toNat:=by((try simp only [qV]at *);(try simp only [zQ,zA,zB,zC,zD,zE,zF,zG,zH,zI,zJ,zK,zL,zM,zN,zO,zP,zR,zS]at *);omega));obtain⟨n1,en1⟩:∃z,z=n+1:=⟨_,rfl⟩;(have hn2:n1=s6.l0+zi (k+1):=by((try simp only [qV]at *);(try simp only [zQ,zA,zB,zC,zD,zE,zF,zG,zH,zI,zJ,zK,zL,zM,zN,zO,zP,zR,zS]at *);omega));(have hb2:=ucX hn hb (ukS (.inl (by assumption))));refine⟨⟨(k+1,n1,w),hk2,hn2,hb2⟩,by simp only [];omega,?_⟩;cbv;(repeat' (first|with_reducible refine hold ?_ ?_|with_reducible refine And.intro ?_ ?_));(all_goals first|trivial|exact qM (qE (by rfl))|exact qM (qF (by rfl))|exact qM (Fit.refl _)|exact qL (qK _)|(refine qM (qE ?_);(try simp only [qV]at *);simp only [zQ,zA,zB,zC,zD,zE,zF,zG,zH,zI,zJ,zK,zL,zM,zN,zO,zP,zR,zS]at *;omega)|(subst en1;exact qM (qE (by rfl)))|(refine qL (qJ ?_);(repeat' (first|exact qA|exact qB|refine qC ?_ rfl ?_|refine qD ?_ ?_|exact qE (by rfl)|exact qF (by rfl)|exact Fit.refl _|exact qG _|(refine qE ?_;(try simp only [qV]at *);simp only [zQ,zA,zB,zC,zD,zE,zF,zG,zH,zI,zJ,zK,zL,zM,zN,zO,zP,zR,zS]at *;omega)));done)|skip)))
   |((try clear c66);(try clear c64);(try clear c65);((try simp only [zQ,zA,zB,zC,zD,zE,zF,zG,zH,zI,zJ,zK,zL,zM,zN,zO,zP,zR,zS]at *);(have hk2:k+1≤(s6.h0-s6.l0+1).toNat:=by((try simp only [qV]at *);(try simp only [zQ,zA,zB,zC,zD,zE,zF,zG,zH,zI,zJ,zK,zL,zM,zN,zO,zP,zR,zS]at *);omega));obtain⟨n1,en1⟩:∃z,z=n+1:=⟨_,rfl⟩;(have hn2:n1=s6.l0+zi (k+1):=by((try simp only [qV]at *);(try simp only [zQ,zA,zB,zC,zD,zE,zF,zG,zH,zI,zJ,zK,zL,zM,zN,zO,zP,zR,zS]at *);omega));(have hb2:=ucX hn hb (ukS (.inr (.inl (by assumption)))));refine⟨⟨(k+1,n1,w),hk2,hn2,hb2⟩,by simp only [];omega,?_⟩;cbv;(repeat' (first|with_reducible refine hold ?_ ?_|with_reducible refine And.intro ?_ ?_));(all_goals first|trivial|exact qM (qE (by rfl))|exact qM (qF (by rfl))|exact qM (Fit.refl _)|exact qL (qK _)|(refine qM (qE ?_);(try simp only [qV]at *);simp only [zQ,zA,zB,zC,zD,zE,zF,zG,zH,zI,zJ,zK,zL,zM,zN,zO,zP,zR,zS]at *;omega)|(subst en1;exact qM (qE (by rfl)))|(refine qL (qJ ?_);(repeat' (first|exact qA|exact qB|refine qC ?_ rfl ?_|refine qD ?_ ?_|exact qE (by rfl)|exact qF (by rfl)|exact Fit.refl _|exact qG _|(refine qE ?_;(try simp only [qV]at *);simp only [zQ,zA,zB,zC,zD,zE,zF,zG,zH,zI,zJ,zK,zL,zM,zN,zO,zP,zR,zS]at *;omega)));done)|skip)))
   |((try clear c66);(try clear c64);(try clear c65);((try simp only [zQ,zA,zB,zC,zD,zE,zF,zG,zH,zI,zJ,zK,zL,zM,zN,zO,zP,zR,zS]at *);(have hk2:k+1≤(s6.h0-s6.l0+1).toNat:=by((try simp only [qV]at *);(try simp only [zQ,zA,zB,zC,zD,zE,zF,zG,zH,zI,zJ,zK,zL,zM,zN,zO,zP,zR,zS]at *);omega));obtain⟨n1,en1⟩:∃z,z=n+1:=⟨_,rfl⟩;(have hn2:n1=s6.l0+zi (k+1):=by((try simp only [qV]at *);(try simp only [zQ,zA,zB,zC,zD,zE,zF,zG,zH,zI,zJ,zK,zL,zM,zN,zO,zP,zR,zS]at *);omega));(have hb2:=ucX hn hb (ukS (.inr (.inr (by assumption)))));refine⟨⟨(k+1,n1,w),hk2,hn2,hb2⟩,by simp only [];omega,?_⟩;cbv;(repeat' (first|with_reducible refine hold ?_ ?_|with_reducible refine And.intro ?_ ?_));(all_goals first|trivial|exact qM (qE (by rfl))|exact qM (qF (by rfl))|exact qM (Fit.refl _)|exact qL (qK _)|(refine qM (qE ?_);(try simp only [qV]at *);simp only [zQ,zA,zB,zC,zD,zE,zF,zG,zH,zI,zJ,zK,zL,zM,zN,zO,zP,zR,zS]at *;omega)|(subst en1;exact qM (qE (by rfl)))|(refine qL (qJ ?_);(repeat' (first|exact qA|exact qB|refine qC ?_ rfl ?_|refine qD ?_ ?_|exact qE (by rfl)|exact qF (by rfl)|exact Fit.refl _|exact qG _|(refine qE ?_;(try simp only [qV]at *);simp only [zQ,zA,zB,zC,zD,zE,zF,zG,zH,zI,zJ,zK,zL,zM,zN,zO,zP,zR,zS]at *;omega)));done)|skip)))
   |((try clear c66);(try clear c64);(try clear c65);((try simp only [zQ,zA,zB,zC,zD,zE,zF,zG,zH,zI,zJ,zK,zL,zM,zN,zO,zP,zR,zS]at *);(have hk2:k+1≤(s6.h0-s6.l0+1).toNat:=by((try simp only [qV]at *);(try simp only [zQ,zA,zB,zC,zD,zE,zF,zG,zH,zI,zJ,zK,zL,zM,zN,zO,zP,zR,zS]at *);omega));obtain⟨n1,en1⟩:∃z,z=n+1:=⟨_,rfl⟩;(have hn2:n1=s6.l0+zi (k+1):=by((try simp only [qV]at *);(try simp only [zQ,zA,zB,zC,zD,zE,zF,zG,zH,zI,zJ,zK,zL,zM,zN,zO,zP,zR,zS]at *);omega));obtain⟨o,eo⟩:∃o:Bnd,o=⟨mn w.l0 n,mx w.h0 n,mn w.l1 (xL s6 n),mx w.h1 (xH s6 n),mn w.l2 (yL s6 n),mx w.h2 (yH s6 n)⟩:=⟨_,rfl⟩;(have hb2:=uk6 hn hb (go_t (by assumption) (by assumption) (by assumption) (by assumption) (by assumption)) eo);refine⟨⟨(k+1,n1,o),hk2,hn2,hb2⟩,by simp only [];omega,?_⟩;cbv;(repeat' (first|with_reducible refine hold ?_ ?_|with_reducible refine And.intro ?_ ?_));(all_goals first|trivial|exact qM (qE (by rfl))|exact qM (qF (by rfl))|exact qM (Fit.refl _)|exact qL (qK _)|(refine qM (qE ?_);(try simp only [qV]at *);simp only [zQ,zA,zB,zC,zD,zE,zF,zG,zH,zI,zJ,zK,zL,zM,zN,zO,zP,zR,zS]at *;omega)|(subst en1;exact qM (qE (by rfl)))|(subst eo;(refine qL (qJ ?_));(repeat' (first|exact qA|exact qB|refine qC ?_ rfl ?_|refine qD ?_ ?_|exact qE (by rfl)|exact qF (by rfl)|exact Fit.refl _|exact qG _|(refine qE ?_;(try simp only [qV]at *);simp only [zQ,zA,zB,zC,zD,zE,zF,zG,zH,zI,zJ,zK,zL,zM,zN,zO,zP,zR,zS]at *;omega)));done)|(refine qL (qJ ?_);(repeat' (first|exact qA|exact qB|refine qC ?_ rfl ?_|refine qD ?_ ?_|exact qE (by rfl)|exact qF (by rfl)|exact Fit.refl _|exact qG _|(refine qE ?_;(try simp only [qV]at *);simp only [zQ,zA,zB,zC,zD,zE,zF,zG,zH,zI,zJ,zK,zL,zM,zN,zO,zP,zR,zS]at *;omega)));done)|skip)))
   |((try clear c66);(try clear c64);(try clear c65);(subst hR;(have e:k=(s6.h0-s6.l0+1).toNat:=by((try simp only [qV]at *);(try simp only [zQ,zA,zB,zC,zD,zE,zF,zG,zH,zI,zJ,zK,zL,zM,zN,zO,zP,zR,zS]at *);omega));subst e;subst hb;(refine qD ?_ (qD (qF (by rfl)) qB));(refine ua1 (by rfl) (fun ix h0 h1=> ?_);(have h2:ix.den<3:=h1);(have hx:ix.den.toNat=0∨ix.den.toNat=1∨ix.den.toNat=2:=by omega);(rcases hx with hx|hx|hx<;>simp only [hx]));all_goals (exact qC (qE (by rfl)) rfl (qC (qE (by rfl)) rfl qA))))
   |skip
theorem uwp (d:Dsp)(b:Nat)(hd:DOk d)(hb:b≤1000):ua0 Tryz.prog 26 [(dspS d),(.sl 2 (.sym fun _=>zi (d.fs).length) (fun ix=>[(iv fun _=>((FO d d.fs).getD ix.den.toNat f0).lo),(iv fun _=>((FO d d.fs).getD ix.den.toNat f0).hi)])),(iv fun _=>zi b)] [] (fun r _=>r=(.tup [(.sl 2 (.sym fun _=>d.sn) (fun ix=>[(iv fun _=>(allS (sixN (SN d) (LO d) (FO d d.fs) (outN b))).lo ix.den.toNat),(iv fun _=>(allS (sixN (SN d) (LO d) (FO d d.fs) (outN b))).hi ix.den.toNat)])),(.bool (.sym fun _=>(ueh (SN d) (LO d) (FO d d.fs)) b))])):=by
 have s1:=hd.s1
 have s3:=hd.s3
 have h:d.sn=1∨d.sn=2∨d.sn=3:=by omega
 rcases h with hS|hS|hS
 ·exact((usG d b hd hb hS).pre (qD (qC (Fit.refl _) rfl (qC (Fit.refl _) rfl (qC (Fit.refl _) rfl (qC (qE (by exact hS)) rfl (Fit.refl _))))) (Fit.refl _))).post fun r bs h=>⟨_,by subst h;exact qD (ua1 hS.symm fun _ _ _=>Fit.refl _) (Fit.refl _),rfl⟩
 ·exact((uue d b hd hb hS).pre (qD (qC (Fit.refl _) rfl (qC (Fit.refl _) rfl (qC (Fit.refl _) rfl (qC (qE (by exact hS)) rfl (Fit.refl _))))) (Fit.refl _))).post fun r bs h=>⟨_,by subst h;exact qD (ua1 hS.symm fun _ _ _=>Fit.refl _) (Fit.refl _),rfl⟩
 ·exact((uts d b hd hb hS).pre (qD (qC (Fit.refl _) rfl (qC (Fit.refl _) rfl (qC (Fit.refl _) rfl (qC (qE (by exact hS)) rfl (Fit.refl _))))) (Fit.refl _))).post fun r bs h=>⟨_,by subst h;exact qD (ua1 hS.symm fun _ _ _=>Fit.refl _) (Fit.refl _),rfl⟩
theorem uvQ (d:Dsp)(b:Nat)(hd:DOk d)(hb:b≤1000):ua0 Tryz.prog 46 [(dspS d),(.sl 2 (.sym fun _=>zi (d.fs).length) (fun ix=>[(iv fun _=>((FO d d.fs).getD ix.den.toNat f0).lo),(iv fun _=>((FO d d.fs).getD ix.den.toNat f0).hi)])),(iv fun _=>zi b)] [] (fun r _=>r=(.bool (.sym fun _=>(ueh (SN d) (LO d) (FO d d.fs)) b))):=by
 have c26:=uwp d b hd hb
 refine ua0.is fun R hR=>qW (sc:=sc46) tyok mix Tryz.func46 rfl Tryz.call46 (by kernel_rfl) (by kernel_rfl) ?_
 generalize Tryz.prog=P at c26⊢
 cbv
 repeat' (first
  | (refine qP ?_ (c26) ?hfit
     case hfit=>((repeat' (first|exact qB|refine qD ?_ ?_|exact qE (by rfl)|exact qF (by rfl)|exact Fit.refl _|exact qA|refine qC ?_ rfl ?_));done)
     try cbv)
  |fail)
 all_goals first
  |(subst hR;(repeat' (first|exact qA|exact qB|refine qC ?_ rfl ?_|refine qD ?_ ?_|exact qE (by rfl)|exact qF (by rfl)|exact Fit.refl _|exact qG _|(refine qE ?_;(try simp only [qV]at *);simp only [zQ,zA,zB,zC,zD,zE,zF,zG,zH,zI,zJ,zK,zL,zM,zN,zO,zP,zR,zS]at *;omega)));done)
  |skip
theorem uux (d:Dsp)(hd:DOk d):ua0 Tryz.prog 35 [(dspS d)] [] (fun r _=>r=(.sl 2 (.sym fun _=>zi (d.fs).length) (fun ix=>[(iv fun _=>((FO d d.fs).getD ix.den.toNat f0).lo),(iv fun _=>((FO d d.fs).getD ix.den.toNat f0).hi)]))):=by
 have c80:=fun (f:FaT) (hf:ubN d f)=>uw3 d f hd.t hf
 have f6:=hd.f6
 refine ua0.is fun R hR=>qW (sc:=sc35) tyok mix Tryz.func35 rfl Tryz.call35 (by kernel_rfl) (by kernel_rfl) ?_
 generalize Tryz.prog=P at c80⊢
 cbv
 repeat' (first
  |fail)
 all_goals first
  |skip
 refine⟨none,[⟨.tmp 3,66,2⟩],{i:Nat // i≤d.fs.length},fun x=>⟨[(1,.own 0 0),(3,.row 4),(4,(iv fun _=>zi x.1))],[(0,.cells [(iS d.tw),(iS d.tm),(.sl 1 (.sym fun _=>zi (d.tv).length) (fun ix=>[(.sl 1 (.sym fun _=>zi ((d.tv).getD ix.den.toNat []).length) (fun jx=>[(iv fun _=>((d.tv).getD ix.den.toNat []).getD jx.den.toNat 0)]))])),(iv fun _=>d.sn),(iv fun _=>d.pn),(.sl 4 (.sym fun _=>zi (d.ls).length) (fun ix=>[(iv fun _=>((d.ls).getD ix.den.toNat l0T).a),(iv fun _=>((d.ls).getD ix.den.toNat l0T).b),(iv fun _=>((d.ls).getD ix.den.toNat l0T).lo),(iv fun _=>((d.ls).getD ix.den.toNat l0T).hi)])),(.sl 6 (.sym fun _=>zi (d.fs).length) (fun ix=>[(iv fun _=>((d.fs).getD ix.den.toNat f0T).p),(iv fun _=>((d.fs).getD ix.den.toNat f0T).s),(iv fun _=>((d.fs).getD ix.den.toNat f0T).wl),(iv fun _=>((d.fs).getD ix.den.toNat f0T).wh),(iv fun _=>((d.fs).getD ix.den.toNat f0T).ml),(iv fun _=>((d.fs).getD ix.den.toNat f0T).mh)]))] 29),(4,.row 66 2 (.sym fun _=>zi x.1) (fun ix=>[(iv fun _=>((FO d d.fs).getD ix.den.toNat f0).lo),(iv fun _=>((FO d d.fs).getD ix.den.toNat f0).hi)]))],20⟩,fun x=>d.fs.length-x.1,?_,?_⟩
 ·refine⟨⟨0,by omega⟩,?_⟩
  cbv
  repeat' (first
   |with_reducible refine hold ?_ ?_
   |with_reducible refine And.intro ?_ ?_)
  all_goals first
   |trivial
   |exact qM (qE (by rfl))
   |exact qM (Fit.refl _)
   |exact qL (qK _)
   |(refine qL (ua8 ?_ ?_);(first|rfl|((try simp only [qV]at *);(try simp only [zQ,zA,zB,zC,zD,zE,zF,zG,zH,zI,zJ,zK,zL,zM,zN,zO,zP,zR,zS]at *);omega));intro ix h0 h1;exfalso;(try simp only [qV]at *);(try simp only [zQ,zA,zB,zC,zD,zE,zF,zG,zH,zI,zJ,zK,zL,zM,zN,zO,zP,zR,zS]at *);omega)
   |skip
 ·rintro ⟨i,hi⟩
  cbv
  have hF2:i<d.fs.length→mLo d (d.fs.getD i f0T)=((FO d d.fs).getD i f0).lo∧mHi d (d.fs.getD i f0T)=((FO d d.fs).getD i f0).hi:=fun hi=>by rw [umC hi];exact⟨rfl,rfl⟩
  repeat' (first
   |with_reducible refine hold ?_ ?_
   |with_reducible refine And.intro ?_ ?_
   |(with_reducible intro hcd;(try simp only [zA,zB,zC,zD,zE,zF,zG,zH,zI,zJ,zK,zL,zM,zN,zO,zP]at hcd);try cbv)
   | ((have hlt:i<d.fs.length:=(by((try simp only [qV]at *);(try simp only [zQ,zA,zB,zC,zD,zE,zF,zG,zH,zI,zJ,zK,zL,zM,zN,zO,zP,zR,zS]at *);omega)))
      have hlo:=(hF2 hlt).1
      have hhi:=(hF2 hlt).2
      refine⟨fun ix=>[(iv fun _=>((FO d d.fs).getD ix.den.toNat f0).lo),(iv fun _=>((FO d d.fs).getD ix.den.toNat f0).hi)],?_⟩
      cbv
      refine hold (ubt (by intro ix jx h0 h1 h2;(have e3:jx.den.toNat=ix.den.toNat:=by rw [h2]);simp only [e3];exact Fit.refl _) (by intro ix jx h0 h1 h2;(have h3:jx.den.toNat=i:=by((try simp only [qV]at *);(try simp only [zQ,zA,zB,zC,zD,zE,zF,zG,zH,zI,zJ,zK,zL,zM,zN,zO,zP,zR,zS]at *);omega));simp only [h3];exact qC (qE hlo) rfl (qC (qE hhi) rfl qA)) (by(try simp only [qV]at *);(try simp only [zQ,zA,zB,zC,zD,zE,zF,zG,zH,zI,zJ,zK,zL,zM,zN,zO,zP,zR,zS]at *);omega)) (Or.inl ?_)
      try cbv)
   | (refine qP ?_ (c80 (d.fs.getD i f0T) (hd.f i (by((try simp only [qV]at *);(try simp only [zQ,zA,zB,zC,zD,zE,zF,zG,zH,zI,zJ,zK,zL,zM,zN,zO,zP,zR,zS]at *);omega)))) ?hfit
      case hfit=>((repeat' (first|exact qB|refine qD ?_ ?_|exact qE (by rfl)|exact qF (by rfl)|exact Fit.refl _|exact qA|refine qC ?_ rfl ?_));done)
      try cbv)
   |fail)
  all_goals first
   |((try simp only [qV]at *);(try simp only [zQ,zA,zB,zC,zD,zE,zF,zG,zH,zI,zJ,zK,zL,zM,zN,zO,zP,zR,zS]at *);first|(refine qN ?_;omega)|(simp only [Hold];omega))
   |(subst hR;(refine ua1 (by((try simp only [qV]at *);(try simp only [zQ,zA,zB,zC,zD,zE,zF,zG,zH,zI,zJ,zK,zL,zM,zN,zO,zP,zR,zS]at *);omega)) (fun _ _ _=>Fit.refl _));done)
   |((try simp only [zQ,zA,zB,zC,zD,zE,zF,zG,zH,zI,zJ,zK,zL,zM,zN,zO,zP,zR,zS]at *);refine⟨⟨i+1,by((try simp only [qV]at *);(try simp only [zQ,zA,zB,zC,zD,zE,zF,zG,zH,zI,zJ,zK,zL,zM,zN,zO,zP,zR,zS]at *);omega)⟩,by simp only [];omega,?_⟩;cbv;(repeat' (first|with_reducible refine hold ?_ ?_|with_reducible refine And.intro ?_ ?_));(all_goals first|trivial|exact qM (qE (by rfl))|exact qM (qF (by rfl))|exact qM (Fit.refl _)|exact qL (qK _)|(refine qM (qE ?_);(try simp only [qV]at *);simp only [zQ,zA,zB,zC,zD,zE,zF,zG,zH,zI,zJ,zK,zL,zM,zN,zO,zP,zR,zS]at *;omega)|(refine qL (qJ ?_);(repeat' (first|exact qA|exact qB|refine qC ?_ rfl ?_|refine qD ?_ ?_|exact qE (by rfl)|exact qF (by rfl)|exact Fit.refl _|exact qG _|(refine qE ?_;(try simp only [qV]at *);simp only [zQ,zA,zB,zC,zD,zE,zF,zG,zH,zI,zJ,zK,zL,zM,zN,zO,zP,zR,zS]at *;omega)));done)|skip))
   |skip
theorem ukT {a b:Int} {A n N:Nat}(ha:a=(A:Int))(hb:b=(n:Int))(hn:n≤6)(hN:N=A*2^n)(h6:N≤128):Hold (0≤b∧b<(IntKind.bits .i64:Int)∧zi N=a*2^b.toNat∧inR .i64 (zi N)):=by
 subst ha
 subst hb
 refine⟨by omega,?_,?_,?_⟩
 ·show(n:Int)<64
  omega
 ·rw [hN];simp [zi]
 ·unfold inR
  simp only [uab]
  omega
theorem ujy {n:Nat}(h:n≤6):1≤2^n∧2^n≤64:=⟨Nat.pow_pos (by decide),by have:2^n≤2^6:=Nat.pow_le_pow_right (by decide) h;omega⟩
theorem utW (d:Dsp)(hd:DOk d):ua0 Tryz.prog 47 [(dspS d)] [] (fun r _=>r=(iv fun _=>zi (2^d.fs.length-1))):=by
 have f6:=hd.f6
 have hN6:=ujy f6
 obtain⟨N,hN⟩:∃N,N=2^d.fs.length:=⟨_,rfl⟩
 rw [←hN]at hN6
 refine ua0.is fun R hR=>qW (sc:=sc47) tyok mix Tryz.func47 rfl Tryz.call47 (by kernel_rfl) (by kernel_rfl) ?_
 generalize Tryz.prog=P
 cbv
 repeat' (first
  |with_reducible refine hold ?_ ?_
  | (refine⟨zi N,?_⟩
     cbv
     refine hold (ukT (A:=1) (n:=d.fs.length) (by first|rfl|((try simp only [qV]at *);(try simp only [zQ,zA,zB,zC,zD,zE,zF,zG,zH,zI,zJ,zK,zL,zM,zN,zO,zP,zR,zS]at *);rfl)) (by first|rfl|((try simp only [qV]at *);(try simp only [zQ,zA,zB,zC,zD,zE,zF,zG,zH,zI,zJ,zK,zL,zM,zN,zO,zP,zR,zS]at *);rfl)) (by omega) (by rw [hN,Nat.one_mul]) (by omega)) ?_
     try cbv)
  |fail)
 all_goals first
  |((try simp only [qV]at *);(try simp only [zQ,zA,zB,zC,zD,zE,zF,zG,zH,zI,zJ,zK,zL,zM,zN,zO,zP,zR,zS]at *);first|(refine qN ?_;omega)|(simp only [Hold];omega))
  |(subst hR;(refine qE ?_;rw [←hN];(try simp only [qV]at *);(try simp only [zQ,zA,zB,zC,zD,zE,zF,zG,zH,zI,zJ,zK,zL,zM,zN,zO,zP,zR,zS]at *);omega);done)
  |((try simp only [qV]at *);(try simp only [zQ,zA,zB,zC,zD,zE,zF,zG,zH,zI,zJ,zK,zL,zM,zN,zO,zP,zR,zS]at *);first|(refine ueb ?_;omega)|(refine ucS ?_;omega)|(refine qN ?_;omega))
  |skip
theorem usK (d:Dsp)(h:¬ua4 d=0):ua0 Tryz.prog 14 [(dspS d)] [] (fun r _=>r=(.tup [.sl 2 (.lit 0) (fun _=>[]),(iv fun _=>ua4 d)])):=by
 have c21:=uer d
 refine ua0.is fun R hR=>qW (sc:=sc14) tyok mix Tryz.func14 rfl Tryz.call14 (by kernel_rfl) (by kernel_rfl) ?_
 generalize Tryz.prog=P at c21⊢
 cbv
 repeat' (first
  |(with_reducible intro hcd;exfalso;(try simp only [zQ,zA,zB,zC,zD,zE,zF,zG,zH,zI,zJ,zK,zL,zM,zN,zO,zP,zR,zS]at hcd);omega)
  |with_reducible refine And.intro ?_ ?_
  |(with_reducible intro hcd;(try simp only [zA,zB,zC,zD,zE,zF,zG,zH,zI,zJ,zK,zL,zM,zN,zO,zP]at hcd);try cbv)
  | (refine qP ?_ (c21) ?hfit
     case hfit=>((repeat' (first|exact qB|refine qD ?_ ?_|exact qE (by rfl)|exact qF (by rfl)|exact Fit.refl _|exact qA|refine qC ?_ rfl ?_));done)
     try cbv)
  |fail)
 all_goals first
  |(subst hR;exact qD (qO rfl) (qD (Fit.refl _) qB);done)
  |skip
theorem ujt {d:Dsp}(h:ua4 d=0):ueh (SN d) (LO d) (FO d d.fs) (2^d.fs.length-1)=canD (SN d) (LO d) []:=by
 have hd:=ua3.1 h
 have q:=uoV (okk hd hd.f)
 rwa [ucV]at q
theorem uuu {d:Dsp}(h:ua4 d=0)(hc:ueh (SN d) (LO d) (FO d d.fs) (2^d.fs.length-1)=false):ua9 d=9:=by
 refine ufS h ?_
 rw [ueI,←ujt h]
 exact hc
theorem urv {d:Dsp}(h:ua4 d=0)(hc:ueh (SN d) (LO d) (FO d d.fs) (2^d.fs.length-1)=true):ua9 d=0:=by
 refine udO h ?_
 rw [ueI,←ujt h]
 exact hc
theorem uiA (d:Dsp)(h:ua4 d=0):ua0 Tryz.prog 14 [(dspS d)] [] (fun r _=>r=(.tup [(.sl 2 (.sym fun _=>zi (d.fs).length) (fun ix=>[(iv fun _=>((FO d d.fs).getD ix.den.toNat f0).lo),(iv fun _=>((FO d d.fs).getD ix.den.toNat f0).hi)])),(iv fun _=>ua9 d)])):=by
 have hd:=ua3.1 h
 have hp6:=ujy hd.f6
 have c21:=uer d
 have c35:=uux d hd
 have c47:=utW d hd
 have c46:=uvQ d (2^d.fs.length-1) hd (by omega)
 refine ua0.is fun R hR=>qW (sc:=sc14) tyok mix Tryz.func14 rfl Tryz.call14 (by kernel_rfl) (by kernel_rfl) ?_
 generalize Tryz.prog=P at c21 c35 c47 c46⊢
 cbv
 repeat' (first
  |(with_reducible intro hcd;exfalso;(try simp only [zQ,zA,zB,zC,zD,zE,zF,zG,zH,zI,zJ,zK,zL,zM,zN,zO,zP,zR,zS]at hcd);omega)
  |with_reducible refine And.intro ?_ ?_
  |(with_reducible intro hcd;(try simp only [zA,zB,zC,zD,zE,zF,zG,zH,zI,zJ,zK,zL,zM,zN,zO,zP]at hcd);try cbv)
  | (refine qP ?_ (c21) ?hfit
     case hfit=>((repeat' (first|exact qB|refine qD ?_ ?_|exact qE (by rfl)|exact qF (by rfl)|exact Fit.refl _|exact qA|refine qC ?_ rfl ?_));done)
     try cbv)
  | (refine qP ?_ (c35) ?hfit
     case hfit=>((repeat' (first|exact qB|refine qD ?_ ?_|exact qE (by rfl)|exact qF (by rfl)|exact Fit.refl _|exact qA|refine qC ?_ rfl ?_));done)
     try cbv)
  | (refine qP ?_ (c47) ?hfit
     case hfit=>((repeat' (first|exact qB|refine qD ?_ ?_|exact qE (by rfl)|exact qF (by rfl)|exact Fit.refl _|exact qA|refine qC ?_ rfl ?_));done)
     try cbv)
  | (refine qP ?_ (c46) ?hfit
     case hfit=>((repeat' (first|exact qB|refine qD ?_ ?_|exact qE (by rfl)|exact qF (by rfl)|exact Fit.refl _|exact qA|refine qC ?_ rfl ?_));done)
     try cbv)
  |fail)
 all_goals first
  |((try clear c21);(try clear c35);(try clear c47);(try clear c46);(subst hR;(have e:=uuu h (by assumption));(exact qD (Fit.refl _) (qD (qE e.symm) qB));done))
  |((try clear c21);(try clear c35);(try clear c47);(try clear c46);(subst hR;(have e:=urv h (by assumption));(exact qD (Fit.refl _) (qD (qE e.symm) qB));done))
  |skip
theorem uqb {f:FuncId} {args:List SV} {b:Bool}(h:ua0 Tryz.prog f args [] (fun r _=>r = .bool (.sym fun _=>b)))(hb:b=false):ua0 Tryz.prog f args [] (fun r _=>r = .bool (.lit false)):=h.post fun r bs q=>⟨_,by subst q;exact qF hb,rfl⟩
theorem ucB {f:FuncId} {args:List SV} {b:Bool}(h:ua0 Tryz.prog f args [] (fun r _=>r = .bool (.sym fun _=>b)))(hb:b=true):ua0 Tryz.prog f args [] (fun r _=>r = .bool (.lit true)):=h.post fun r bs q=>⟨_,by subst q;exact qF hb,rfl⟩
theorem ulX {d:Dsp}(h:¬ua4 d=0):ua9 d=ua4 d:=if_neg h
theorem ua0.fitZ {f:FuncId} {args:List SV} {A B:SV}(h:ua0 Tryz.prog f args [] (fun r _=>r=A))(hf:Fit A B):ua0 Tryz.prog f args [] (fun r _=>r=B):=h.post fun r bs q=>⟨B,by subst q;exact hf,rfl⟩
theorem uoy {P:Nat}(hP:P≤4):ua7 (2^P-1) 16=uaK P:=by
 have c:∀P:Fin 5,ua7 (2^P.val-1) 16=uaK P.val:=by decide
 exact c ⟨P,by omega⟩
set_option maxHeartbeats 2000000 in
theorem uqV (d:Dsp)(n:Int)(hf:ua9 d=0)(hn0:0≤n)(hn1:n≤1000000)(he:mstL d=[]):ua0 Tryz.prog 24 [(dspS d),(iS ((mstL d))),(iv fun _=>n)] [] (fun r _=>r=(.sl 1 (.sym fun _=>d.pn) (fun ix=>[(iv fun _=>cosF d n ix.den.toNat)]))):=by
 have hF:=(uao hf).1
 have hd:=ua3.1 hF
 have p1:=hd.p1
 have p4:=hd.p4
 have hbl:=uij hf
 have hb0:=(ujC hf).2
 have hbe:=fun (k:Nat) (hk:k<(beaL d).length)=>ume hf hk
 have hend:∀{k:Nat},k=(beaL d).length→∀p,ub9 n.toNat (beaL d) (beaL d).length k p=cosF d n p:=fun hk p=>by subst hk;rfl
 obtain⟨N,hN⟩:∃N,N=2^d.pn.toNat:=⟨_,rfl⟩
 have hN6:=ujy (show d.pn.toNat≤6 by omega)
 rw [←hN]at hN6
 have c48:=usa (N-1) (by omega)
 rw [hN,uoy (by omega),←unR he,←hN]at c48
 have hM:(mstL d).length=0:=by rw [he];rfl
 obtain⟨Lb,hLb⟩:∃L,L=beaL d:=⟨_,rfl⟩
 rw [←hLb]at hbl hb0 hbe hend c48
 clear hLb hf hF hd he
 refine ua0.is fun R hR=>qW (sc:=sc24) tyok mix Tryz.func24 rfl Tryz.call24 (by kernel_rfl) (by kernel_rfl) ?_
 generalize Tryz.prog=P at c48⊢
 cbv
 repeat' (first
  |(with_reducible intro hcd;exfalso;(try simp only [zQ,zA,zB,zC,zD,zE,zF,zG,zH,zI,zJ,zK,zL,zM,zN,zO,zP,zR,zS]at hcd);omega)
  |with_reducible refine hold ?_ ?_
  |with_reducible refine And.intro ?_ ?_
  |(with_reducible intro hcd;(try simp only [zA,zB,zC,zD,zE,zF,zG,zH,zI,zJ,zK,zL,zM,zN,zO,zP]at hcd);try cbv)
  | (refine⟨zi N,?_⟩
     cbv
     refine hold (ukT (A:=1) (n:=d.pn.toNat) (by first|rfl|((try simp only [qV]at *);(try simp only [zQ,zA,zB,zC,zD,zE,zF,zG,zH,zI,zJ,zK,zL,zM,zN,zO,zP,zR,zS]at *);rfl)) (by((try simp only [qV]at *);(try simp only [zQ,zA,zB,zC,zD,zE,zF,zG,zH,zI,zJ,zK,zL,zM,zN,zO,zP,zR,zS]at *);omega)) (by omega) (by rw [hN,Nat.one_mul]) (by omega)) ?_
     try cbv)
  | (refine qP ?_ (c48) ?hfit
     case hfit=>((refine qD (qE (by(try simp only [qV]at *);(try simp only [zQ,zA,zB,zC,zD,zE,zF,zG,zH,zI,zJ,zK,zL,zM,zN,zO,zP,zR,zS]at *);omega)) qB);done)
     try cbv)
  |fail)
 all_goals first
  |((try simp only [qV]at *);(try simp only [zQ,zA,zB,zC,zD,zE,zF,zG,zH,zI,zJ,zK,zL,zM,zN,zO,zP,zR,zS]at *);first|(refine qN ?_;omega)|(simp only [Hold];omega))
  |((try simp only [qV]at *);(try simp only [zQ,zA,zB,zC,zD,zE,zF,zG,zH,zI,zJ,zK,zL,zM,zN,zO,zP,zR,zS]at *);first|(refine ueb ?_;omega)|(refine ucS ?_;omega)|(refine qN ?_;omega))
  |(unfold Hold;exact⟨show(0:Int)≤d.pn by omega,rfl,show d.pn*((1:Nat):Int)≤16777216 by omega,show d.pn*((8:Nat):Int)≤16777216 by omega,show d.pn≤16777216 by omega⟩)
  |skip
 refine⟨none,[],{k:Nat // k≤Lb.length},fun x=>⟨[(2,(iv fun _=>n)),(7,(iS Lb)),(8,.row 16),(9,(iv fun _=>zi x.1))],[(0,.cells [(iS d.tw),(iS d.tm),(.sl 1 (.sym fun _=>zi (d.tv).length) (fun ix=>[(.sl 1 (.sym fun _=>zi ((d.tv).getD ix.den.toNat []).length) (fun jx=>[(iv fun _=>((d.tv).getD ix.den.toNat []).getD jx.den.toNat 0)]))])),(iv fun _=>d.sn),(iv fun _=>d.pn),(.sl 4 (.sym fun _=>zi (d.ls).length) (fun ix=>[(iv fun _=>((d.ls).getD ix.den.toNat l0T).a),(iv fun _=>((d.ls).getD ix.den.toNat l0T).b),(iv fun _=>((d.ls).getD ix.den.toNat l0T).lo),(iv fun _=>((d.ls).getD ix.den.toNat l0T).hi)])),(.sl 6 (.sym fun _=>zi (d.fs).length) (fun ix=>[(iv fun _=>((d.fs).getD ix.den.toNat f0T).p),(iv fun _=>((d.fs).getD ix.den.toNat f0T).s),(iv fun _=>((d.fs).getD ix.den.toNat f0T).wl),(iv fun _=>((d.fs).getD ix.den.toNat f0T).wh),(iv fun _=>((d.fs).getD ix.den.toNat f0T).ml),(iv fun _=>((d.fs).getD ix.den.toNat f0T).mh)]))] 29),(16,.row 3 1 (.sym fun _=>d.pn) (fun ix=>[(iv fun _=>(ub9 n.toNat Lb Lb.length x.1) ix.den.toNat)]))],300⟩,fun x=>Lb.length-x.1,?_,?_⟩
 ·refine⟨⟨0,by omega⟩,?_⟩
  cbv
  repeat' (first
   |with_reducible refine hold ?_ ?_
   |with_reducible refine And.intro ?_ ?_)
  all_goals first
   |trivial
   |exact qM (qE (by rfl))
   |exact qM (Fit.refl _)
   |exact qL (qK _)
   |(refine qL (ua8 ?_ ?_)<;>first|rfl|((try simp only [qV]at *);(try simp only [zQ,zA,zB,zC,zD,zE,zF,zG,zH,zI,zJ,zK,zL,zM,zN,zO,zP,zR,zS]at *);omega)|(intro ix h0 h1;first|exact Fit.refl _|exact qC (qE rfl) rfl qA))
   |skip
 ·rintro ⟨k,hk⟩
  cbv
  repeat' (first
   |with_reducible refine hold ?_ ?_
   |with_reducible refine And.intro ?_ ?_
   | (with_reducible refine qS ?_ ?_ ?_
      try cbv)
   | (with_reducible refine qT ?_ ?_
      try cbv)
   |(with_reducible intro hcd;(try simp only [zA,zB,zC,zD,zE,zF,zG,zH,zI,zJ,zK,zL,zM,zN,zO,zP]at hcd);try cbv)
   | ((have hk9:=hbe k (by((try simp only [qV]at *);(try simp only [zQ,zA,zB,zC,zD,zE,zF,zG,zH,zI,zJ,zK,zL,zM,zN,zO,zP,zR,zS]at *);omega)))
      refine⟨fun ix=>[(iv fun _=>(updN (ub9 n.toNat Lb Lb.length k) (Lb.getD k 0).toNat (n.tdiv (zi Lb.length))) ix.den.toNat)],?_⟩
      cbv
      refine hold (ub6 (o2:=0) (x:=[_]) (by((try simp only [qV]at *);(try simp only [zQ,zA,zB,zC,zD,zE,zF,zG,zH,zI,zJ,zK,zL,zM,zN,zO,zP,zR,zS]at *);omega)) (by intro jx h0 h1 h2;refine qC (qE ?_) rfl qA;(try simp only [qV]at *);(try simp only [zQ,zA,zB,zC,zD,zE,zF,zG,zH,zI,zJ,zK,zL,zM,zN,zO,zP,zR,zS]at *);exact udC (by omega)) (by intro jx h0 h1 h2;refine⟨_,rfl,qC (qE ?_) rfl qA⟩;(try simp only [qV]at *);(try simp only [zQ,zA,zB,zC,zD,zE,zF,zG,zH,zI,zJ,zK,zL,zM,zN,zO,zP,zR,zS]at *);exact ucQ (by omega))) ?_
      try cbv)
   | ((have hk9:=hbe k (by((try simp only [qV]at *);(try simp only [zQ,zA,zB,zC,zD,zE,zF,zG,zH,zI,zJ,zK,zL,zM,zN,zO,zP,zR,zS]at *);omega)))
      refine⟨fun ix=>[(iv fun _=>(updN (updN (ub9 n.toNat Lb Lb.length k) (Lb.getD k 0).toNat (n.tdiv (zi Lb.length))) (Lb.getD k 0).toNat ((updN (ub9 n.toNat Lb Lb.length k) (Lb.getD k 0).toNat (n.tdiv (zi Lb.length))) (Lb.getD k 0).toNat+1)) ix.den.toNat)],?_⟩
      cbv
      refine hold (ub6 (o2:=0) (x:=[_]) (by((try simp only [qV]at *);(try simp only [zQ,zA,zB,zC,zD,zE,zF,zG,zH,zI,zJ,zK,zL,zM,zN,zO,zP,zR,zS]at *);omega)) (by intro jx h0 h1 h2;refine qC (qE ?_) rfl qA;(try simp only [qV]at *);(try simp only [zQ,zA,zB,zC,zD,zE,zF,zG,zH,zI,zJ,zK,zL,zM,zN,zO,zP,zR,zS]at *);exact udC (by omega)) (by intro jx h0 h1 h2;refine⟨_,rfl,qC (qE ?_) rfl qA⟩;(try simp only [qV]at *);(try simp only [zQ,zA,zB,zC,zD,zE,zF,zG,zH,zI,zJ,zK,zL,zM,zN,zO,zP,zR,zS]at *);exact umc (by omega) (by omega))) ?_
      try cbv)
   |fail)
  all_goals first
   |trivial
   |((try simp only [qV]at *);(try simp only [zQ,zA,zB,zC,zD,zE,zF,zG,zH,zI,zJ,zK,zL,zM,zN,zO,zP,zR,zS]at *);first|(refine qN ?_;omega)|(simp only [Hold];omega))
   |((have hk9:=hbe k (by((try simp only [qV]at *);(try simp only [zQ,zA,zB,zC,zD,zE,zF,zG,zH,zI,zJ,zK,zL,zM,zN,zO,zP,zR,zS]at *);omega)));(try simp only [qV]at *);(try simp only [zQ,zA,zB,zC,zD,zE,zF,zG,zH,zI,zJ,zK,zL,zM,zN,zO,zP,zR,zS]at *);simp only [Hold];first|omega|exact⟨by omega,by omega⟩)
   |((have hk9:=hbe k (by((try simp only [qV]at *);(try simp only [zQ,zA,zB,zC,zD,zE,zF,zG,zH,zI,zJ,zK,zL,zM,zN,zO,zP,zR,zS]at *);omega)));(have hq9:=ulg (m:=Lb.length) hn0 hn1);(try simp only [qV]at *);(try simp only [zQ,zA,zB,zC,zD,zE,zF,zG,zH,zI,zJ,zK,zL,zM,zN,zO,zP,zR,zS]at *);first|(refine qN ?_;omega)|(rw [←ucQ (by omega)];refine qN ?_;omega))
   |((have hke:k=Lb.length:=(by((try simp only [qV]at *);(try simp only [zQ,zA,zB,zC,zD,zE,zF,zG,zH,zI,zJ,zK,zL,zM,zN,zO,zP,zR,zS]at *);omega)));subst hR;exact ua1 rfl (fun ix h0 h1=>qC (qE (hend hke _)) rfl qA))
   |((try simp only [zQ,zA,zB,zC,zD,zE,zF,zG,zH,zI,zJ,zK,zL,zM,zN,zO,zP,zR,zS]at *);(have hk9:=hbe k (by((try simp only [qV]at *);(try simp only [zQ,zA,zB,zC,zD,zE,zF,zG,zH,zI,zJ,zK,zL,zM,zN,zO,zP,zR,zS]at *);omega)));(have hlo:¬(k:Int)<n.tmod (Lb.length:Int):=hcd);refine⟨⟨k+1,by((try simp only [qV]at *);(try simp only [zQ,zA,zB,zC,zD,zE,zF,zG,zH,zI,zJ,zK,zL,zM,zN,zO,zP,zR,zS]at *);omega)⟩,by simp only [];omega,?_⟩;cbv;(repeat' (first|with_reducible refine hold ?_ ?_|with_reducible refine And.intro ?_ ?_));(all_goals first|trivial|exact qM (qE (by rfl))|exact qM (qF (by rfl))|exact qM (Fit.refl _)|exact qL (qK _)|(refine qM (qE ?_);(try simp only [qV]at *);simp only [zQ,zA,zB,zC,zD,zE,zF,zG,zH,zI,zJ,zK,zL,zM,zN,zO,zP,zR,zS]at *;omega)|(refine qL (qJ ?_);(repeat' (first|exact qA|exact qB|refine qC ?_ rfl ?_|refine qD ?_ ?_|exact qE (by rfl)|exact qF (by rfl)|exact Fit.refl _|exact qG _|(refine qE ?_;(try simp only [qV]at *);simp only [zQ,zA,zB,zC,zD,zE,zF,zG,zH,zI,zJ,zK,zL,zM,zN,zO,zP,zR,zS]at *;omega)));done)|(refine qL (ua8 ?_ ?_)<;>first|rfl|(intro ix h0 h1;first|exact Fit.refl _|exact qC (qE (udB hn0 hk9.1 hlo)) rfl qA|exact qC (qE (udM hn0 hk9.1 hhi rfl)) rfl qA))|skip))
   |((try simp only [zQ,zA,zB,zC,zD,zE,zF,zG,zH,zI,zJ,zK,zL,zM,zN,zO,zP,zR,zS]at *);(have hk9:=hbe k (by((try simp only [qV]at *);(try simp only [zQ,zA,zB,zC,zD,zE,zF,zG,zH,zI,zJ,zK,zL,zM,zN,zO,zP,zR,zS]at *);omega)));(have hhi:(k:Int)<n.tmod (Lb.length:Int):=hcd);refine⟨⟨k+1,by((try simp only [qV]at *);(try simp only [zQ,zA,zB,zC,zD,zE,zF,zG,zH,zI,zJ,zK,zL,zM,zN,zO,zP,zR,zS]at *);omega)⟩,by simp only [];omega,?_⟩;cbv;(repeat' (first|with_reducible refine hold ?_ ?_|with_reducible refine And.intro ?_ ?_));(all_goals first|trivial|exact qM (qE (by rfl))|exact qM (qF (by rfl))|exact qM (Fit.refl _)|exact qL (qK _)|(refine qM (qE ?_);(try simp only [qV]at *);simp only [zQ,zA,zB,zC,zD,zE,zF,zG,zH,zI,zJ,zK,zL,zM,zN,zO,zP,zR,zS]at *;omega)|(refine qL (qJ ?_);(repeat' (first|exact qA|exact qB|refine qC ?_ rfl ?_|refine qD ?_ ?_|exact qE (by rfl)|exact qF (by rfl)|exact Fit.refl _|exact qG _|(refine qE ?_;(try simp only [qV]at *);simp only [zQ,zA,zB,zC,zD,zE,zF,zG,zH,zI,zJ,zK,zL,zM,zN,zO,zP,zR,zS]at *;omega)));done)|(refine qL (ua8 ?_ ?_)<;>first|rfl|(intro ix h0 h1;first|exact Fit.refl _|exact qC (qE (udB hn0 hk9.1 hlo)) rfl qA|exact qC (qE (udM hn0 hk9.1 hhi rfl)) rfl qA))|skip))
   |skip
set_option maxHeartbeats 2000000 in
theorem ur3 (d:Dsp)(n:Int)(hf:ua9 d=0)(hn0:0≤n)(hn1:n≤1000000)(he:mstL d≠[]):ua0 Tryz.prog 24 [(dspS d),(iS ((mstL d))),(iv fun _=>n)] [] (fun r _=>r=(.sl 1 (.sym fun _=>d.pn) (fun ix=>[(iv fun _=>cosF d n ix.den.toNat)]))):=by
 have hF:=(uao hf).1
 have hd:=ua3.1 hF
 have p1:=hd.p1
 have p4:=hd.p4
 have hbl:=uij hf
 have hb0:=(ujC hf).2
 have hbe:=fun (k:Nat) (hk:k<(beaL d).length)=>ume hf hk
 have hend:∀{k:Nat},k=(beaL d).length→∀p,ub9 n.toNat (beaL d) (beaL d).length k p=cosF d n p:=fun hk p=>by subst hk;rfl
 obtain⟨N,hN⟩:∃N,N=2^d.pn.toNat:=⟨_,rfl⟩
 have hN6:=ujy (show d.pn.toNat≤6 by omega)
 rw [←hN]at hN6
 have hM:0<(mstL d).length:=by cases e:mstL d with
  |nil=>exact absurd e he
  |cons _ _=>exact Nat.succ_pos _
 rw [←up0 he]
 rw [←up0 he]at hM
 obtain⟨Lb,hLb⟩:∃L,L=beaL d:=⟨_,rfl⟩
 rw [←hLb]at hbl hb0 hbe hend hM
 rw [←hLb]
 clear hLb hf hF hd he
 refine ua0.is fun R hR=>qW (sc:=sc24) tyok mix Tryz.func24 rfl Tryz.call24 (by kernel_rfl) (by kernel_rfl) ?_
 generalize Tryz.prog=P
 cbv
 repeat' (first
  |(with_reducible intro hcd;exfalso;(try simp only [zQ,zA,zB,zC,zD,zE,zF,zG,zH,zI,zJ,zK,zL,zM,zN,zO,zP,zR,zS]at hcd);omega)
  |with_reducible refine hold ?_ ?_
  |with_reducible refine And.intro ?_ ?_
  |(with_reducible intro hcd;(try simp only [zA,zB,zC,zD,zE,zF,zG,zH,zI,zJ,zK,zL,zM,zN,zO,zP]at hcd);try cbv)
  |fail)
 all_goals first
  |(unfold Hold;exact⟨show(0:Int)≤d.pn by omega,rfl,show d.pn*((1:Nat):Int)≤16777216 by omega,show d.pn*((8:Nat):Int)≤16777216 by omega,show d.pn≤16777216 by omega⟩)
  |skip
 refine⟨none,[],{k:Nat // k≤Lb.length},fun x=>⟨[(2,(iv fun _=>n)),(7,(iS Lb)),(8,.row 9),(9,(iv fun _=>zi x.1))],[(0,.cells [(iS d.tw),(iS d.tm),(.sl 1 (.sym fun _=>zi (d.tv).length) (fun ix=>[(.sl 1 (.sym fun _=>zi ((d.tv).getD ix.den.toNat []).length) (fun jx=>[(iv fun _=>((d.tv).getD ix.den.toNat []).getD jx.den.toNat 0)]))])),(iv fun _=>d.sn),(iv fun _=>d.pn),(.sl 4 (.sym fun _=>zi (d.ls).length) (fun ix=>[(iv fun _=>((d.ls).getD ix.den.toNat l0T).a),(iv fun _=>((d.ls).getD ix.den.toNat l0T).b),(iv fun _=>((d.ls).getD ix.den.toNat l0T).lo),(iv fun _=>((d.ls).getD ix.den.toNat l0T).hi)])),(.sl 6 (.sym fun _=>zi (d.fs).length) (fun ix=>[(iv fun _=>((d.fs).getD ix.den.toNat f0T).p),(iv fun _=>((d.fs).getD ix.den.toNat f0T).s),(iv fun _=>((d.fs).getD ix.den.toNat f0T).wl),(iv fun _=>((d.fs).getD ix.den.toNat f0T).wh),(iv fun _=>((d.fs).getD ix.den.toNat f0T).ml),(iv fun _=>((d.fs).getD ix.den.toNat f0T).mh)]))] 29),(9,.row 3 1 (.sym fun _=>d.pn) (fun ix=>[(iv fun _=>(ub9 n.toNat Lb Lb.length x.1) ix.den.toNat)]))],300⟩,fun x=>Lb.length-x.1,?_,?_⟩
 ·refine⟨⟨0,by omega⟩,?_⟩
  cbv
  repeat' (first
   |with_reducible refine hold ?_ ?_
   |with_reducible refine And.intro ?_ ?_)
  all_goals first
   |trivial
   |exact qM (qE (by rfl))
   |exact qM (Fit.refl _)
   |exact qL (qK _)
   |(refine qL (ua8 ?_ ?_)<;>first|rfl|((try simp only [qV]at *);(try simp only [zQ,zA,zB,zC,zD,zE,zF,zG,zH,zI,zJ,zK,zL,zM,zN,zO,zP,zR,zS]at *);omega)|(intro ix h0 h1;first|exact Fit.refl _|exact qC (qE rfl) rfl qA))
   |skip
 ·rintro ⟨k,hk⟩
  cbv
  repeat' (first
   |with_reducible refine hold ?_ ?_
   |with_reducible refine And.intro ?_ ?_
   | (with_reducible refine qS ?_ ?_ ?_
      try cbv)
   | (with_reducible refine qT ?_ ?_
      try cbv)
   |(with_reducible intro hcd;(try simp only [zA,zB,zC,zD,zE,zF,zG,zH,zI,zJ,zK,zL,zM,zN,zO,zP]at hcd);try cbv)
   | ((have hk9:=hbe k (by((try simp only [qV]at *);(try simp only [zQ,zA,zB,zC,zD,zE,zF,zG,zH,zI,zJ,zK,zL,zM,zN,zO,zP,zR,zS]at *);omega)))
      refine⟨fun ix=>[(iv fun _=>(updN (ub9 n.toNat Lb Lb.length k) (Lb.getD k 0).toNat (n.tdiv (zi Lb.length))) ix.den.toNat)],?_⟩
      cbv
      refine hold (ub6 (o2:=0) (x:=[_]) (by((try simp only [qV]at *);(try simp only [zQ,zA,zB,zC,zD,zE,zF,zG,zH,zI,zJ,zK,zL,zM,zN,zO,zP,zR,zS]at *);omega)) (by intro jx h0 h1 h2;refine qC (qE ?_) rfl qA;(try simp only [qV]at *);(try simp only [zQ,zA,zB,zC,zD,zE,zF,zG,zH,zI,zJ,zK,zL,zM,zN,zO,zP,zR,zS]at *);exact udC (by omega)) (by intro jx h0 h1 h2;refine⟨_,rfl,qC (qE ?_) rfl qA⟩;(try simp only [qV]at *);(try simp only [zQ,zA,zB,zC,zD,zE,zF,zG,zH,zI,zJ,zK,zL,zM,zN,zO,zP,zR,zS]at *);exact ucQ (by omega))) ?_
      try cbv)
   | ((have hk9:=hbe k (by((try simp only [qV]at *);(try simp only [zQ,zA,zB,zC,zD,zE,zF,zG,zH,zI,zJ,zK,zL,zM,zN,zO,zP,zR,zS]at *);omega)))
      refine⟨fun ix=>[(iv fun _=>(updN (updN (ub9 n.toNat Lb Lb.length k) (Lb.getD k 0).toNat (n.tdiv (zi Lb.length))) (Lb.getD k 0).toNat ((updN (ub9 n.toNat Lb Lb.length k) (Lb.getD k 0).toNat (n.tdiv (zi Lb.length))) (Lb.getD k 0).toNat+1)) ix.den.toNat)],?_⟩
      cbv
      refine hold (ub6 (o2:=0) (x:=[_]) (by((try simp only [qV]at *);(try simp only [zQ,zA,zB,zC,zD,zE,zF,zG,zH,zI,zJ,zK,zL,zM,zN,zO,zP,zR,zS]at *);omega)) (by intro jx h0 h1 h2;refine qC (qE ?_) rfl qA;(try simp only [qV]at *);(try simp only [zQ,zA,zB,zC,zD,zE,zF,zG,zH,zI,zJ,zK,zL,zM,zN,zO,zP,zR,zS]at *);exact udC (by omega)) (by intro jx h0 h1 h2;refine⟨_,rfl,qC (qE ?_) rfl qA⟩;(try simp only [qV]at *);(try simp only [zQ,zA,zB,zC,zD,zE,zF,zG,zH,zI,zJ,zK,zL,zM,zN,zO,zP,zR,zS]at *);exact umc (by omega) (by omega))) ?_
      try cbv)
   |fail)
  all_goals first
   |trivial
   |((try simp only [qV]at *);(try simp only [zQ,zA,zB,zC,zD,zE,zF,zG,zH,zI,zJ,zK,zL,zM,zN,zO,zP,zR,zS]at *);first|(refine qN ?_;omega)|(simp only [Hold];omega))
   |((have hk9:=hbe k (by((try simp only [qV]at *);(try simp only [zQ,zA,zB,zC,zD,zE,zF,zG,zH,zI,zJ,zK,zL,zM,zN,zO,zP,zR,zS]at *);omega)));(try simp only [qV]at *);(try simp only [zQ,zA,zB,zC,zD,zE,zF,zG,zH,zI,zJ,zK,zL,zM,zN,zO,zP,zR,zS]at *);simp only [Hold];first|omega|exact⟨by omega,by omega⟩)
   |((have hk9:=hbe k (by((try simp only [qV]at *);(try simp only [zQ,zA,zB,zC,zD,zE,zF,zG,zH,zI,zJ,zK,zL,zM,zN,zO,zP,zR,zS]at *);omega)));(have hq9:=ulg (m:=Lb.length) hn0 hn1);(try simp only [qV]at *);(try simp only [zQ,zA,zB,zC,zD,zE,zF,zG,zH,zI,zJ,zK,zL,zM,zN,zO,zP,zR,zS]at *);first|(refine qN ?_;omega)|(rw [←ucQ (by omega)];refine qN ?_;omega))
   |((have hke:k=Lb.length:=(by((try simp only [qV]at *);(try simp only [zQ,zA,zB,zC,zD,zE,zF,zG,zH,zI,zJ,zK,zL,zM,zN,zO,zP,zR,zS]at *);omega)));subst hR;exact ua1 rfl (fun ix h0 h1=>qC (qE (hend hke _)) rfl qA))
   |((try simp only [zQ,zA,zB,zC,zD,zE,zF,zG,zH,zI,zJ,zK,zL,zM,zN,zO,zP,zR,zS]at *);(have hk9:=hbe k (by((try simp only [qV]at *);(try simp only [zQ,zA,zB,zC,zD,zE,zF,zG,zH,zI,zJ,zK,zL,zM,zN,zO,zP,zR,zS]at *);omega)));(have hlo:¬(k:Int)<n.tmod (Lb.length:Int):=hcd);refine⟨⟨k+1,by((try simp only [qV]at *);(try simp only [zQ,zA,zB,zC,zD,zE,zF,zG,zH,zI,zJ,zK,zL,zM,zN,zO,zP,zR,zS]at *);omega)⟩,by simp only [];omega,?_⟩;cbv;(repeat' (first|with_reducible refine hold ?_ ?_|with_reducible refine And.intro ?_ ?_));(all_goals first|trivial|exact qM (qE (by rfl))|exact qM (qF (by rfl))|exact qM (Fit.refl _)|exact qL (qK _)|(refine qM (qE ?_);(try simp only [qV]at *);simp only [zQ,zA,zB,zC,zD,zE,zF,zG,zH,zI,zJ,zK,zL,zM,zN,zO,zP,zR,zS]at *;omega)|(refine qL (qJ ?_);(repeat' (first|exact qA|exact qB|refine qC ?_ rfl ?_|refine qD ?_ ?_|exact qE (by rfl)|exact qF (by rfl)|exact Fit.refl _|exact qG _|(refine qE ?_;(try simp only [qV]at *);simp only [zQ,zA,zB,zC,zD,zE,zF,zG,zH,zI,zJ,zK,zL,zM,zN,zO,zP,zR,zS]at *;omega)));done)|(refine qL (ua8 ?_ ?_)<;>first|rfl|(intro ix h0 h1;first|exact Fit.refl _|exact qC (qE (udB hn0 hk9.1 hlo)) rfl qA|exact qC (qE (udM hn0 hk9.1 hhi rfl)) rfl qA))|skip))
   |((try simp only [zQ,zA,zB,zC,zD,zE,zF,zG,zH,zI,zJ,zK,zL,zM,zN,zO,zP,zR,zS]at *);(have hk9:=hbe k (by((try simp only [qV]at *);(try simp only [zQ,zA,zB,zC,zD,zE,zF,zG,zH,zI,zJ,zK,zL,zM,zN,zO,zP,zR,zS]at *);omega)));(have hhi:(k:Int)<n.tmod (Lb.length:Int):=hcd);refine⟨⟨k+1,by((try simp only [qV]at *);(try simp only [zQ,zA,zB,zC,zD,zE,zF,zG,zH,zI,zJ,zK,zL,zM,zN,zO,zP,zR,zS]at *);omega)⟩,by simp only [];omega,?_⟩;cbv;(repeat' (first|with_reducible refine hold ?_ ?_|with_reducible refine And.intro ?_ ?_));(all_goals first|trivial|exact qM (qE (by rfl))|exact qM (qF (by rfl))|exact qM (Fit.refl _)|exact qL (qK _)|(refine qM (qE ?_);(try simp only [qV]at *);simp only [zQ,zA,zB,zC,zD,zE,zF,zG,zH,zI,zJ,zK,zL,zM,zN,zO,zP,zR,zS]at *;omega)|(refine qL (qJ ?_);(repeat' (first|exact qA|exact qB|refine qC ?_ rfl ?_|refine qD ?_ ?_|exact qE (by rfl)|exact qF (by rfl)|exact Fit.refl _|exact qG _|(refine qE ?_;(try simp only [qV]at *);simp only [zQ,zA,zB,zC,zD,zE,zF,zG,zH,zI,zJ,zK,zL,zM,zN,zO,zP,zR,zS]at *;omega)));done)|(refine qL (ua8 ?_ ?_)<;>first|rfl|(intro ix h0 h1;first|exact Fit.refl _|exact qC (qE (udB hn0 hk9.1 hlo)) rfl qA|exact qC (qE (udM hn0 hk9.1 hhi rfl)) rfl qA))|skip))
   |skip
theorem uu4 (d:Dsp)(n:Int)(hf:ua9 d=0)(hn0:0≤n)(hn1:n≤1000000):ua0 Tryz.prog 24 [(dspS d),(iS ((mstL d))),(iv fun _=>n)] [] (fun r _=>r=(.sl 1 (.sym fun _=>d.pn) (fun ix=>[(iv fun _=>cosF d n ix.den.toNat)]))):=by
 by_cases he:mstL d=[]
 ·exact uqV d n hf hn0 hn1 he
 ·exact ur3 d n hf hn0 hn1 he
def refP (d:Dsp)(b:Nat):Bool:=ueh (SN d) (LO d) (FO d d.fs) (ofN (ptD d) b d.fs.length)
def umm :Option Nat→List Int
 |none=>[]
 |some b=>ua7 b 16
theorem ls_y {h:Nat→Bool} {k:Nat} {L L2:List Int}(hL:L=(lsN h k).map zi)(hk:h k=true)(e:L2=L++[zi k]):L2=(lsN h (k+1)).map zi:=by
 rw [e,hL,lsN,if_pos hk,List.map_append];rfl
theorem ls_n {h:Nat→Bool} {k:Nat} {L:List Int}(hL:L=(lsN h k).map zi)(hk:h k=false):L=(lsN h (k+1)).map zi:=by
 rw [hL,lsN,if_neg (by rw [hk];decide)]
theorem sh_y {P:Nat} {h:Nat→Bool} {k:Nat} {s:Int}(hs:s=Few.shN P h k)(hk:h k=true):mnI s (zi (ua7 k 16).length)=Few.shN P h (k+1):=by
 rw [hs];simp only [Few.shN,hk,if_true];rfl
theorem sh_n {P:Nat} {h:Nat→Bool} {k:Nat} {s:Int}(hs:s=Few.shN P h k)(hk:h k=false):s=Few.shN P h (k+1):=by
 rw [hs];simp only [Few.shN,hk,Bool.false_eq_true,if_false]
theorem uuO {l:List Nat} {i:Nat}(h:i<l.length):(l.map zi).getD i 0=zi (l.getD i 0):=by
 simp [List.getD_eq_getElem?_getD,List.getElem?_map,List.getElem?_eq_getElem h]
theorem ukF {P:Nat} {sh:Int} {L:List Nat} {i:Nat}(h:sh<zi (ua7 (L.getD i 0) 16).length):evN P sh L (i+1)=evN P sh L i∧smN sh L (i+1)=smN sh L i∧bsN sh L (i+1)=bsN sh L i:=by
 have h':((ua7 (L.getD i 0) 16).length:Int)>sh:=h
 exact⟨if_pos h',if_pos h',if_pos h'⟩
theorem ev_n {P:Nat} {sh:Int} {L:List Nat} {i:Nat}(h:¬sh<zi (ua7 (L.getD i 0) 16).length):evN P sh L (i+1)=evN P sh L i &&& L.getD i 0:=if_neg (show ¬((ua7 (L.getD i 0) 16).length:Int)>sh from h)
theorem sm_n {sh:Int} {L:List Nat} {i:Nat}(h:¬sh<zi (ua7 (L.getD i 0) 16).length):smN sh L (i+1)=smN sh L i |||L.getD i 0:=if_neg (show ¬((ua7 (L.getD i 0) 16).length:Int)>sh from h)
theorem unT {sh:Int} {L:List Nat} {i:Nat}(h:¬sh<zi (ua7 (L.getD i 0) 16).length)(ho:none=bsN sh L i):some (L.getD i 0)=bsN sh L (i+1):=by
 have e:bsN sh L (i+1)=_:=if_neg (show ¬((ua7 (L.getD i 0) 16).length:Int)>sh from h)
 rw [e,←ho]
theorem ukv {sh:Int} {L:List Nat} {i b:Nat}(h:¬sh<zi (ua7 (L.getD i 0) 16).length)(ho:some b=bsN sh L i):bsN sh L (i+1)=if ucz.lexB (ua7 (L.getD i 0) 16) (ua7 b 16)=true then some (L.getD i 0)else some b:=by
 have e:bsN sh L (i+1)=_:=if_neg (show ¬((ua7 (L.getD i 0) 16).length:Int)>sh from h)
 rw [e,←ho]
theorem uuT {sh:Int} {L:List Nat}(hs:∀i,i<L.length→sh≤zi (ua7 (L.getD i 0) 16).length):∀{n b:Nat},n≤L.length→some b=bsN sh L n→zi (ua7 b 16).length=sh:=by
 intro n
 induction n with
 |zero=>intro b _ h;cases h
 | succ n ih=>
  intro b hn h
  by_cases c:sh<zi (ua7 (L.getD n 0) 16).length
  ·rw [(ukF (P:=0) c).2.2]at h
   exact ih (by omega) h
  ·have q:=hs n (by omega)
   have e:zi (ua7 (L.getD n 0) 16).length=sh:=by omega
   cases ho:bsN sh L n with
   | none=>
    rw [←unT c ho.symm]at h
    injection h with h
    rw [h];exact e
   | some b'=>
    rw [ukv c ho.symm]at h
    split at h
    ·injection h with h
     rw [h];exact e
    ·injection h with h
     rw [h];exact ih (by omega) ho.symm
theorem uxI {P:Nat} {sh:Int} {L:List Nat}:∀n,evN P sh L n<2^P:=by
 intro n
 induction n with
 |zero=>exact Nat.sub_lt (Nat.pow_pos (by decide)) (by decide)
 | succ n ih=>
  unfold evN
  split
  ·exact ih
  ·exact Nat.lt_of_le_of_lt Nat.and_le_left ih
theorem uxs {P:Nat} {sh:Int} {L:List Nat}(h:∀i,i<L.length→L.getD i 0<2^P):∀{n:Nat},n≤L.length→smN sh L n<2^P:=by
 intro n
 induction n with
 |zero=>intro _;exact Nat.pow_pos (by decide)
 | succ n ih=>
  intro hn
  unfold smN
  split
  ·exact ih (by omega)
  ·exact Nat.or_lt_two_pow (ih (by omega)) (h n (by omega))
theorem uof {a b:Int} {x y:Nat}(ha:a=(x:Int))(hb:b=(y:Int))(hx:x<2^6)(hy:y<2^6):Hold (∃x' y':Nat,a=(x':Int)∧b=(y':Int)∧inR .i64 (x':Int)∧inR .i64 (y':Int)∧zi (x &&& y)=((x' &&& y':Nat):Int)):=by
 refine⟨x,y,ha,hb,?_,?_,rfl⟩<;>unfold inR<;>simp only<;>omega
theorem udY {a b:List Int}(h:a=b):Fit (iS a) (iS b):=by
 subst h
 exact Fit.refl _
set_option maxHeartbeats 4000000 in
theorem uwa (d:Dsp)(N:Nat)(hd:DOk d)(hN:N=2^d.pn.toNat):ua0 Tryz.prog 23 [(dspS d),(.sl 2 (.sym fun _=>zi (d.fs).length) (fun ix=>[(iv fun _=>((FO d d.fs).getD ix.den.toNat f0).lo),(iv fun _=>((FO d d.fs).getD ix.den.toNat f0).hi)]))] [] (fun r _=>r=(.tup [(.sl 1 (.sym fun _=>zi ((umm (bsN (Few.shN d.pn.toNat (refP d) N) (lsN (refP d) N) (lsN (refP d) N).length))).length) (fun ix=>[(iv fun _=>((umm (bsN (Few.shN d.pn.toNat (refP d) N) (lsN (refP d) N) (lsN (refP d) N).length))).getD ix.den.toNat 0)])),(.sl 1 (.sym fun _=>zi ((ua7 (evN d.pn.toNat (Few.shN d.pn.toNat (refP d) N) (lsN (refP d) N) (lsN (refP d) N).length) 16)).length) (fun ix=>[(iv fun _=>((ua7 (evN d.pn.toNat (Few.shN d.pn.toNat (refP d) N) (lsN (refP d) N) (lsN (refP d) N).length) 16)).getD ix.den.toNat 0)])),(.sl 1 (.sym fun _=>zi ((ua7 (smN (Few.shN d.pn.toNat (refP d) N) (lsN (refP d) N) (lsN (refP d) N).length) 16)).length) (fun ix=>[(iv fun _=>((ua7 (smN (Few.shN d.pn.toNat (refP d) N) (lsN (refP d) N) (lsN (refP d) N).length) 16)).getD ix.den.toNat 0)]))])):=by
 have c46:=fun (k:Nat) (hk:k≤N)=>(show ua0 Tryz.prog 46 [(dspS d),(.sl 2 (.sym fun _=>zi (d.fs).length) (fun ix=>[(iv fun _=>((FO d d.fs).getD ix.den.toNat f0).lo),(iv fun _=>((FO d d.fs).getD ix.den.toNat f0).hi)])),(iv fun _=>zi (ofN (ptD d) k d.fs.length))] [] (fun r _=>r=(.bool (.sym fun _=>refP d k)))from uvQ d (ofN (ptD d) k d.fs.length) hd (Nat.le_of_lt (Nat.lt_of_lt_of_le (usl (ptD d) k d.fs.length) (Nat.le_trans (Nat.pow_le_pow_right (by decide) hd.f6) (by decide)))))
 have c59:=fun (k:Nat) (hk:k≤N)=>of30 d k hd (by have q:=hd.p4;have:2^d.pn.toNat≤2^4:=Nat.pow_le_pow_right (by decide) (by omega);omega)
 have c48:=usa
 have c60:=uqX
 have f6:=hd.f6
 have p1:=hd.p1
 have p4:=hd.p4
 have hN6:=ujy (show d.pn.toNat≤6 by omega)
 have hN4:N≤16:=by
  have:2^d.pn.toNat≤2^4:=Nat.pow_le_pow_right (by decide) (by omega)
  omega
 rw [←hN]at hN6
 have hm:∀i,i<(lsN (refP d) N).length→(lsN (refP d) N).getD i 0<N∧refP d ((lsN (refP d) N).getD i 0)=true:=fun i hi=>unI.1 (uga hi)
 have hq:∀i,i<(lsN (refP d) N).length→Few.shN d.pn.toNat (refP d) N≤zi (ua7 ((lsN (refP d) N).getD i 0) 16).length:=fun i hi=>(urW (P:=d.pn.toNat) (h:=refP d) (n:=N)).2 _ (hm i hi).1 (hm i hi).2
 have hlt:∀i,i<(lsN (refP d) N).length→(lsN (refP d) N).getD i 0<2^d.pn.toNat:=fun i hi=>by rw [←hN];exact(hm i hi).1
 have hbl:=fun {n b:Nat}=>uuT hq (n:=n) (b:=b)
 have hsm:=fun {n:Nat}=>uxs (P:=d.pn.toNat) (sh:=Few.shN d.pn.toNat (refP d) N) hlt (n:=n)
 have hev:=fun (n:Nat)=>uxI (P:=d.pn.toNat) (sh:=Few.shN d.pn.toNat (refP d) N) (L:=lsN (refP d) N) n
 rw [←hN]at hsm hev
 refine ua0.is fun R hR=>qW (sc:=sc23) tyok mix Tryz.func23 rfl Tryz.call23 (by kernel_rfl) (by kernel_rfl) ?_
 generalize Tryz.prog=P at c46 c59 c48 c60⊢
 cbv
 repeat' (first
  |fail)
 all_goals first
  |skip
 refine⟨none,[⟨.tmp 7,3,1⟩],{x:Nat×List Int×Int // x.1≤N∧x.2.1=(lsN (refP d) x.1).map zi∧x.2.2=Few.shN d.pn.toNat (refP d) x.1},fun x=>⟨[(1,(.sl 2 (.sym fun _=>zi (d.fs).length) (fun ix=>[(iv fun _=>((FO d d.fs).getD ix.den.toNat f0).lo),(iv fun _=>((FO d d.fs).getD ix.den.toNat f0).hi)]))),(2,.own 0 0),(7,.row 9),(8,(iv fun _=>x.1.2.2)),(9,(iv fun _=>zi x.1.1))],[(0,.cells [(iS d.tw),(iS d.tm),(.sl 1 (.sym fun _=>zi (d.tv).length) (fun ix=>[(.sl 1 (.sym fun _=>zi ((d.tv).getD ix.den.toNat []).length) (fun jx=>[(iv fun _=>((d.tv).getD ix.den.toNat []).getD jx.den.toNat 0)]))])),(iv fun _=>d.sn),(iv fun _=>d.pn),(.sl 4 (.sym fun _=>zi (d.ls).length) (fun ix=>[(iv fun _=>((d.ls).getD ix.den.toNat l0T).a),(iv fun _=>((d.ls).getD ix.den.toNat l0T).b),(iv fun _=>((d.ls).getD ix.den.toNat l0T).lo),(iv fun _=>((d.ls).getD ix.den.toNat l0T).hi)])),(.sl 6 (.sym fun _=>zi (d.fs).length) (fun ix=>[(iv fun _=>((d.fs).getD ix.den.toNat f0T).p),(iv fun _=>((d.fs).getD ix.den.toNat f0T).s),(iv fun _=>((d.fs).getD ix.den.toNat f0T).wl),(iv fun _=>((d.fs).getD ix.den.toNat f0T).wh),(iv fun _=>((d.fs).getD ix.den.toNat f0T).ml),(iv fun _=>((d.fs).getD ix.den.toNat f0T).mh)]))] 29),(9,.row 3 1 (.sym fun _=>zi (x.1.2.1).length) (fun ix=>[(iv fun _=>(x.1.2.1).getD ix.den.toNat 0)]))],60⟩,fun x=>N-x.1.1,?_,?_⟩
 ·refine⟨⟨(0,[],d.pn),by simp only [];omega,rfl,by simp only [Few.shN];omega⟩,?_⟩
  cbv
  repeat' (first
   |with_reducible refine hold ?_ ?_
   |with_reducible refine And.intro ?_ ?_)
  all_goals first
   |trivial
   |exact qM (qE (by rfl))
   |exact qM (Fit.refl _)
   |exact qL (qK _)
   |(refine qL (ua8 ?_ ?_);(first|rfl|((try simp only [qV]at *);(try simp only [zQ,zA,zB,zC,zD,zE,zF,zG,zH,zI,zJ,zK,zL,zM,zN,zO,zP,zR,zS]at *);omega));intro ix h0 h1;exfalso;(try simp only [qV]at *);(try simp only [zQ,zA,zB,zC,zD,zE,zF,zG,zH,zI,zJ,zK,zL,zM,zN,zO,zP,zR,zS]at *);omega)
   |skip
 ·rintro ⟨⟨k,L,s⟩,hk,hL,hs⟩
  cbv
  dsimp only at hk hL hs
  have hll:L.length≤N:=by rw [hL,List.length_map];exact Nat.le_trans (ut6 _ _) hk
  repeat' (first
   |with_reducible refine hold ?_ ?_
   |with_reducible refine And.intro ?_ ?_
   |(with_reducible intro hcd;(try simp only [zA,zB,zC,zD,zE,zF,zG,zH,zI,zJ,zK,zL,zM,zN,zO,zP]at hcd);try cbv)
   | (refine⟨zi N,?_⟩
      cbv
      refine hold (ukT (A:=1) (n:=d.pn.toNat) (by first|rfl|((try simp only [qV]at *);(try simp only [zQ,zA,zB,zC,zD,zE,zF,zG,zH,zI,zJ,zK,zL,zM,zN,zO,zP,zR,zS]at *);rfl)) (by((try simp only [qV]at *);(try simp only [zQ,zA,zB,zC,zD,zE,zF,zG,zH,zI,zJ,zK,zL,zM,zN,zO,zP,zR,zS]at *);omega)) (by omega) (by rw [hN,Nat.one_mul]) (by omega)) ?_
      try cbv)
   | (obtain⟨L2,eL2⟩:∃y:List Int,y=L++[zi k]:=⟨_,rfl⟩
      refine⟨udn L2,?_⟩
      cbv
      refine hold (uai (L:=L) eL2 (by(first|rfl|((try simp only [qV]at *);(try simp only [zQ,zA,zB,zC,zD,zE,zF,zG,zH,zI,zJ,zK,zL,zM,zN,zO,zP,zR,zS]at *);done)|((try simp only [qV]at *);(try simp only [zQ,zA,zB,zC,zD,zE,zF,zG,zH,zI,zJ,zK,zL,zM,zN,zO,zP,zR,zS]at *);omega))) (by rfl) (fun ix=>Fit.refl _) (fun ix h=>qC (qE (by rfl)) rfl qA) (by(try simp only [qV]at *);(try simp only [zQ,zA,zB,zC,zD,zE,zF,zG,zH,zI,zJ,zK,zL,zM,zN,zO,zP,zR,zS]at *);omega)) (Or.inl ?_)
      try cbv)
   | (refine qP ?_ (c59 k (by((try simp only [qV]at *);(try simp only [zQ,zA,zB,zC,zD,zE,zF,zG,zH,zI,zJ,zK,zL,zM,zN,zO,zP,zR,zS]at *);omega))) ?hfit
      case hfit=>((repeat' (first|exact qB|refine qD ?_ ?_|exact qE (by rfl)|exact qF (by rfl)|exact Fit.refl _|exact qA|refine qC ?_ rfl ?_));done)
      try cbv)
   | (refine qP ?_ (c46 k (by((try simp only [qV]at *);(try simp only [zQ,zA,zB,zC,zD,zE,zF,zG,zH,zI,zJ,zK,zL,zM,zN,zO,zP,zR,zS]at *);omega))) ?hfit
      case hfit=>((repeat' (first|exact qB|refine qD ?_ ?_|exact qE (by rfl)|exact qF (by rfl)|exact Fit.refl _|exact qA|refine qC ?_ rfl ?_));done)
      try cbv)
   | (refine qP ?_ (c48 k (by omega)) ?hfit
      case hfit=>((repeat' (first|exact qB|refine qD ?_ ?_|exact qE (by rfl)|exact qF (by rfl)|exact Fit.refl _|exact qA|refine qC ?_ rfl ?_));done)
      try cbv)
   |fail)
  all_goals first
   |((try clear c46);(try clear c59);(try clear c48);((try simp only [qV]at *);(try simp only [zQ,zA,zB,zC,zD,zE,zF,zG,zH,zI,zJ,zK,zL,zM,zN,zO,zP,zR,zS]at *);first|(refine qN ?_;omega)|(simp only [Hold];omega)))
   |((try clear c46);(try clear c59);(try clear c48);((try simp only [qV]at *);(try simp only [zQ,zA,zB,zC,zD,zE,zF,zG,zH,zI,zJ,zK,zL,zM,zN,zO,zP,zR,zS]at *);first|(refine ueb ?_;omega)|(refine ucS ?_;omega)|(refine qN ?_;omega)))
   |((try clear c46);(try clear c59);(try clear c48);((try simp only [zQ,zA,zB,zC,zD,zE,zF,zG,zH,zI,zJ,zK,zL,zM,zN,zO,zP,zR,zS]at *);(have hl2:=ls_y hL (by assumption) eL2);obtain⟨s1,es1⟩:∃s1,s1=mnI s (zi (ua7 k 16).length):=⟨_,rfl⟩;(have hs2:=es1.trans (sh_y hs (by assumption)));refine⟨⟨(k+1,L2,s1),(by((try simp only [qV]at *);(try simp only [zQ,zA,zB,zC,zD,zE,zF,zG,zH,zI,zJ,zK,zL,zM,zN,zO,zP,zR,zS]at *);omega)),hl2,hs2⟩,by simp only [];omega,?_⟩;cbv;(repeat' (first|with_reducible refine hold ?_ ?_|with_reducible refine And.intro ?_ ?_));(all_goals first|trivial|exact qM (qE (by rfl))|exact qM (qF (by rfl))|exact qM (Fit.refl _)|exact qL (qK _)|(refine qM (qE ?_);(try simp only [qV]at *);simp only [zQ,zA,zB,zC,zD,zE,zF,zG,zH,zI,zJ,zK,zL,zM,zN,zO,zP,zR,zS]at *;omega)|(refine qL (qJ ?_);(repeat' (first|exact qA|exact qB|refine qC ?_ rfl ?_|refine qD ?_ ?_|exact qE (by rfl)|exact qF (by rfl)|exact Fit.refl _|exact qG _|(refine qE ?_;(try simp only [qV]at *);simp only [zQ,zA,zB,zC,zD,zE,zF,zG,zH,zI,zJ,zK,zL,zM,zN,zO,zP,zR,zS]at *;omega)));done)|(subst es1;exact qM (qE (by rfl)))|(refine qL (uiz ?_ ?_);(first|rfl|((try simp only [qV]at *);(try simp only [zQ,zA,zB,zC,zD,zE,zF,zG,zH,zI,zJ,zK,zL,zM,zN,zO,zP,zR,zS]at *);simp only [eL2,List.length_append,List.length_cons,List.length_nil];omega));intro ix;(try simp only [eL2]);first|exact Fit.refl _|exact qC (qE (by rfl)) rfl qA)|skip)))
   |((try clear c46);(try clear c59);(try clear c48);((try simp only [zQ,zA,zB,zC,zD,zE,zF,zG,zH,zI,zJ,zK,zL,zM,zN,zO,zP,zR,zS]at *);(have hl2:=ls_n hL (by assumption));(have hs2:=sh_n hs (by assumption));refine⟨⟨(k+1,L,s),(by((try simp only [qV]at *);(try simp only [zQ,zA,zB,zC,zD,zE,zF,zG,zH,zI,zJ,zK,zL,zM,zN,zO,zP,zR,zS]at *);omega)),hl2,hs2⟩,by simp only [];omega,?_⟩;cbv;(repeat' (first|with_reducible refine hold ?_ ?_|with_reducible refine And.intro ?_ ?_));(all_goals first|trivial|exact qM (qE (by rfl))|exact qM (qF (by rfl))|exact qM (Fit.refl _)|exact qL (qK _)|(refine qM (qE ?_);(try simp only [qV]at *);simp only [zQ,zA,zB,zC,zD,zE,zF,zG,zH,zI,zJ,zK,zL,zM,zN,zO,zP,zR,zS]at *;omega)|(refine qL (qJ ?_);(repeat' (first|exact qA|exact qB|refine qC ?_ rfl ?_|refine qD ?_ ?_|exact qE (by rfl)|exact qF (by rfl)|exact Fit.refl _|exact qG _|(refine qE ?_;(try simp only [qV]at *);simp only [zQ,zA,zB,zC,zD,zE,zF,zG,zH,zI,zJ,zK,zL,zM,zN,zO,zP,zR,zS]at *;omega)));done)|skip)))
   |skip
  have hkN:k=N:=(by((try simp only [qV]at *);(try simp only [zQ,zA,zB,zC,zD,zE,zF,zG,zH,zI,zJ,zK,zL,zM,zN,zO,zP,zR,zS]at *);omega))
  subst hkN
  obtain⟨Ls,hLs⟩:∃Ls,Ls=lsN (refP d) k:=⟨_,rfl⟩
  obtain⟨sh,hsh⟩:∃sh,sh=Few.shN d.pn.toNat (refP d) k:=⟨_,rfl⟩
  rw [←hLs]at hL hm hbl hsm hev hq
  rw [←hsh]at hbl hsm hev hq hs
  have hx:∀i,i<Ls.length→L.getD i 0=zi (Ls.getD i 0):=fun i hi=>by rw [hL];exact uuO hi
  have hLl:L.length=Ls.length:=by rw [hL,List.length_map]
  rw [←hLs,←hsh]at hR
  clear hL hlt
  have hs:=hs.symm
  subst hs
  refine⟨none,[],{x:Nat×Nat×Nat×Option Nat // x.1≤Ls.length∧x.2.1=evN d.pn.toNat sh Ls x.1∧x.2.2.1=smN sh Ls x.1∧x.2.2.2=bsN sh Ls x.1},fun x=>⟨[(7,.row 9),(8,(iv fun _=>sh)),(10,(iS ((umm x.1.2.2.2)))),(13,(iv fun _=>zi x.1.2.1)),(14,(iv fun _=>zi x.1.2.2.1)),(15,(.bool (.lit x.1.2.2.2.isSome))),(16,(iv fun _=>zi x.1.1))],[(0,.cells [(iS d.tw),(iS d.tm),(.sl 1 (.sym fun _=>zi (d.tv).length) (fun ix=>[(.sl 1 (.sym fun _=>zi ((d.tv).getD ix.den.toNat []).length) (fun jx=>[(iv fun _=>((d.tv).getD ix.den.toNat []).getD jx.den.toNat 0)]))])),(iv fun _=>d.sn),(iv fun _=>d.pn),(.sl 4 (.sym fun _=>zi (d.ls).length) (fun ix=>[(iv fun _=>((d.ls).getD ix.den.toNat l0T).a),(iv fun _=>((d.ls).getD ix.den.toNat l0T).b),(iv fun _=>((d.ls).getD ix.den.toNat l0T).lo),(iv fun _=>((d.ls).getD ix.den.toNat l0T).hi)])),(.sl 6 (.sym fun _=>zi (d.fs).length) (fun ix=>[(iv fun _=>((d.fs).getD ix.den.toNat f0T).p),(iv fun _=>((d.fs).getD ix.den.toNat f0T).s),(iv fun _=>((d.fs).getD ix.den.toNat f0T).wl),(iv fun _=>((d.fs).getD ix.den.toNat f0T).wh),(iv fun _=>((d.fs).getD ix.den.toNat f0T).ml),(iv fun _=>((d.fs).getD ix.den.toNat f0T).mh)]))] 29),(9,.row 3 1 (.sym fun _=>zi (L).length) (fun ix=>[(iv fun _=>(L).getD ix.den.toNat 0)]))],300⟩,fun x=>Ls.length-x.1.1,?_,?_⟩
  ·obtain⟨E0,eE0⟩:∃E0,E0=evN d.pn.toNat sh Ls 0:=⟨_,rfl⟩
   refine⟨⟨(0,E0,0,none),by simp only [];omega,eE0,rfl,rfl⟩,?_⟩
   cbv
   repeat' (first
    |with_reducible refine hold ?_ ?_
    |with_reducible refine And.intro ?_ ?_)
   all_goals first
    |trivial
    |exact qM (qE (by rfl))
    |exact qM (qF (by rfl))
    |exact qM (Fit.refl _)
    |exact qL (qK _)
    |((have hE0:E0=k-1:=by rw [eE0,hN];rfl);refine qM (qE ?_);(try simp only [qV]at *);(try simp only [zQ,zA,zB,zC,zD,zE,zF,zG,zH,zI,zJ,zK,zL,zM,zN,zO,zP,zR,zS]at *);omega)
    |(refine qM (qO rfl))
    |skip
  ·rintro ⟨⟨i,ev,sm,o⟩,hi,he,hs2,ho⟩
   cbv
   dsimp only at hi he hs2 ho
   rcases o with _|b
   ·have hev9:ev<2^6:=by rw [he];have:=hev i;omega
    have hsm9:sm<2^6:=by rw [hs2];have:=hsm hi;omega
    cbv
    repeat' (first
     |with_reducible refine hold ?_ ?_
     |with_reducible refine And.intro ?_ ?_
     |(with_reducible intro hcd;(try simp only [zA,zB,zC,zD,zE,zF,zG,zH,zI,zJ,zK,zL,zM,zN,zO,zP]at hcd);try cbv)
     | (refine qP ?_ (c48 (Ls.getD i 0) (by have:=(hm i (by((try simp only [qV]at *);(try simp only [zQ,zA,zB,zC,zD,zE,zF,zG,zH,zI,zJ,zK,zL,zM,zN,zO,zP,zR,zS]at *);omega))).1;omega)) ?hfit
        case hfit=>((refine qD (qE (hx i (by((try simp only [qV]at *);(try simp only [zQ,zA,zB,zC,zD,zE,zF,zG,zH,zI,zJ,zK,zL,zM,zN,zO,zP,zR,zS]at *);omega)))) qB);done)
        try cbv)
     | (refine⟨zi (ev &&& Ls.getD i 0),?_⟩
        cbv
        refine hold (uof (x:=ev) (y:=Ls.getD i 0) (by first|rfl|((try simp only [qV]at *);(try simp only [zQ,zA,zB,zC,zD,zE,zF,zG,zH,zI,zJ,zK,zL,zM,zN,zO,zP,zR,zS]at *);rfl)) (hx i (by((try simp only [qV]at *);(try simp only [zQ,zA,zB,zC,zD,zE,zF,zG,zH,zI,zJ,zK,zL,zM,zN,zO,zP,zR,zS]at *);omega))) hev9 (by have:=(hm i (by((try simp only [qV]at *);(try simp only [zQ,zA,zB,zC,zD,zE,zF,zG,zH,zI,zJ,zK,zL,zM,zN,zO,zP,zR,zS]at *);omega))).1;omega)) ?_
        try cbv)
     | (refine⟨zi (sm |||Ls.getD i 0),?_⟩
        cbv
        refine hold (uor (x:=sm) (y:=Ls.getD i 0) (by first|rfl|((try simp only [qV]at *);(try simp only [zQ,zA,zB,zC,zD,zE,zF,zG,zH,zI,zJ,zK,zL,zM,zN,zO,zP,zR,zS]at *);rfl)) (hx i (by((try simp only [qV]at *);(try simp only [zQ,zA,zB,zC,zD,zE,zF,zG,zH,zI,zJ,zK,zL,zM,zN,zO,zP,zR,zS]at *);omega))) hsm9 (by have:=(hm i (by((try simp only [qV]at *);(try simp only [zQ,zA,zB,zC,zD,zE,zF,zG,zH,zI,zJ,zK,zL,zM,zN,zO,zP,zR,zS]at *);omega))).1;omega)) ?_
        try cbv)
     | (refine qP ?_ (c48 ev (by omega)) ?hfit
        case hfit=>((refine qD (qE (by rfl)) qB);done)
        try cbv)
     | (refine qP ?_ (c48 sm (by omega)) ?hfit
        case hfit=>((refine qD (qE (by rfl)) qB);done)
        try cbv)
     |fail)
    all_goals first
     |trivial
     |((try clear c46);(try clear c59);(try clear c48);(try clear c60);((try simp only [qV]at *);(try simp only [zQ,zA,zB,zC,zD,zE,zF,zG,zH,zI,zJ,zK,zL,zM,zN,zO,zP,zR,zS]at *);first|(refine qN ?_;omega)|(simp only [Hold];omega)))
     |((try clear c46);(try clear c59);(try clear c48);(try clear c60);((try simp only [zQ,zA,zB,zC,zD,zE,zF,zG,zH,zI,zJ,zK,zL,zM,zN,zO,zP,zR,zS]at *);(have hcg:sh<zi (ua7 (Ls.getD i 0) 16).length:=by((try simp only [qV]at *);(try simp only [zQ,zA,zB,zC,zD,zE,zF,zG,zH,zI,zJ,zK,zL,zM,zN,zO,zP,zR,zS]at *);omega));(have hg:=ukF (P:=d.pn.toNat) hcg);refine⟨⟨(i+1,ev,sm,none),(by((try simp only [qV]at *);(try simp only [zQ,zA,zB,zC,zD,zE,zF,zG,zH,zI,zJ,zK,zL,zM,zN,zO,zP,zR,zS]at *);omega)),he.trans hg.1.symm,hs2.trans hg.2.1.symm,ho.trans hg.2.2.symm⟩,by simp only [];omega,?_⟩;cbv;(repeat' (first|with_reducible refine hold ?_ ?_|with_reducible refine And.intro ?_ ?_));(all_goals first|trivial|exact qM (qE (by rfl))|exact qM (qF (by rfl))|exact qM (Fit.refl _)|exact qL (qK _)|(refine qM (qE ?_);(try simp only [qV]at *);simp only [zQ,zA,zB,zC,zD,zE,zF,zG,zH,zI,zJ,zK,zL,zM,zN,zO,zP,zR,zS]at *;omega)|(refine qL (qJ ?_);(repeat' (first|exact qA|exact qB|refine qC ?_ rfl ?_|refine qD ?_ ?_|exact qE (by rfl)|exact qF (by rfl)|exact Fit.refl _|exact qG _|(refine qE ?_;(try simp only [qV]at *);simp only [zQ,zA,zB,zC,zD,zE,zF,zG,zH,zI,zJ,zK,zL,zM,zN,zO,zP,zR,zS]at *;omega)));done)|skip)))
     |((try clear c46);(try clear c59);(try clear c48);(try clear c60);((try simp only [zQ,zA,zB,zC,zD,zE,zF,zG,zH,zI,zJ,zK,zL,zM,zN,zO,zP,zR,zS]at *);(have hcl:¬sh<zi (ua7 (Ls.getD i 0) 16).length:=by((try simp only [qV]at *);(try simp only [zQ,zA,zB,zC,zD,zE,zF,zG,zH,zI,zJ,zK,zL,zM,zN,zO,zP,zR,zS]at *);omega));obtain⟨ev2,eev⟩:∃z,z=ev &&& Ls.getD i 0:=⟨_,rfl⟩;obtain⟨sm2,esm⟩:∃z,z=sm |||Ls.getD i 0:=⟨_,rfl⟩;(have hev2:ev2=evN d.pn.toNat sh Ls (i+1):=by rw [ev_n hcl,←he,eev]);(have hsm2:sm2=smN sh Ls (i+1):=by rw [sm_n hcl,←hs2,esm]);(have hob:=unT hcl ho);refine⟨⟨(i+1,ev2,sm2,some (Ls.getD i 0)),(by((try simp only [qV]at *);(try simp only [zQ,zA,zB,zC,zD,zE,zF,zG,zH,zI,zJ,zK,zL,zM,zN,zO,zP,zR,zS]at *);omega)),hev2,hsm2,hob⟩,by simp only [];omega,?_⟩;cbv;(repeat' (first|with_reducible refine hold ?_ ?_|with_reducible refine And.intro ?_ ?_));(all_goals first|trivial|exact qM (qE (by rfl))|exact qM (qF (by rfl))|exact qM (Fit.refl _)|exact qL (qK _)|(refine qM (qE ?_);(try simp only [qV]at *);simp only [zQ,zA,zB,zC,zD,zE,zF,zG,zH,zI,zJ,zK,zL,zM,zN,zO,zP,zR,zS]at *;omega)|(refine qL (qJ ?_);(repeat' (first|exact qA|exact qB|refine qC ?_ rfl ?_|refine qD ?_ ?_|exact qE (by rfl)|exact qF (by rfl)|exact Fit.refl _|exact qG _|(refine qE ?_;(try simp only [qV]at *);simp only [zQ,zA,zB,zC,zD,zE,zF,zG,zH,zI,zJ,zK,zL,zM,zN,zO,zP,zR,zS]at *;omega)));done)|(subst eev;exact qM (qE (by rfl)))|(subst esm;exact qM (qE (by rfl)))|skip)))
     |((try clear c46);(try clear c59);(try clear c48);(try clear c60);(subst hR;(have e:i=Ls.length:=(by((try simp only [qV]at *);(try simp only [zQ,zA,zB,zC,zD,zE,zF,zG,zH,zI,zJ,zK,zL,zM,zN,zO,zP,zR,zS]at *);omega)));subst e;exact qD (udY (congrArg umm ho)) (qD (udY (by rw [he])) (qD (udY (by rw [hs2])) qB))))
     |skip
   ·have hev9:ev<2^6:=by rw [he];have:=hev i;omega
    have hsm9:sm<2^6:=by rw [hs2];have:=hsm hi;omega
    cbv
    repeat' (first
     |with_reducible refine hold ?_ ?_
     |with_reducible refine And.intro ?_ ?_
     |(with_reducible intro hcd;(try simp only [zA,zB,zC,zD,zE,zF,zG,zH,zI,zJ,zK,zL,zM,zN,zO,zP]at hcd);try cbv)
     | (refine qP ?_ (c48 (Ls.getD i 0) (by have:=(hm i (by((try simp only [qV]at *);(try simp only [zQ,zA,zB,zC,zD,zE,zF,zG,zH,zI,zJ,zK,zL,zM,zN,zO,zP,zR,zS]at *);omega))).1;omega)) ?hfit
        case hfit=>((refine qD (qE (hx i (by((try simp only [qV]at *);(try simp only [zQ,zA,zB,zC,zD,zE,zF,zG,zH,zI,zJ,zK,zL,zM,zN,zO,zP,zR,zS]at *);omega)))) qB);done)
        try cbv)
     | (refine⟨zi (ev &&& Ls.getD i 0),?_⟩
        cbv
        refine hold (uof (x:=ev) (y:=Ls.getD i 0) (by first|rfl|((try simp only [qV]at *);(try simp only [zQ,zA,zB,zC,zD,zE,zF,zG,zH,zI,zJ,zK,zL,zM,zN,zO,zP,zR,zS]at *);rfl)) (hx i (by((try simp only [qV]at *);(try simp only [zQ,zA,zB,zC,zD,zE,zF,zG,zH,zI,zJ,zK,zL,zM,zN,zO,zP,zR,zS]at *);omega))) hev9 (by have:=(hm i (by((try simp only [qV]at *);(try simp only [zQ,zA,zB,zC,zD,zE,zF,zG,zH,zI,zJ,zK,zL,zM,zN,zO,zP,zR,zS]at *);omega))).1;omega)) ?_
        try cbv)
     | (refine⟨zi (sm |||Ls.getD i 0),?_⟩
        cbv
        refine hold (uor (x:=sm) (y:=Ls.getD i 0) (by first|rfl|((try simp only [qV]at *);(try simp only [zQ,zA,zB,zC,zD,zE,zF,zG,zH,zI,zJ,zK,zL,zM,zN,zO,zP,zR,zS]at *);rfl)) (hx i (by((try simp only [qV]at *);(try simp only [zQ,zA,zB,zC,zD,zE,zF,zG,zH,zI,zJ,zK,zL,zM,zN,zO,zP,zR,zS]at *);omega))) hsm9 (by have:=(hm i (by((try simp only [qV]at *);(try simp only [zQ,zA,zB,zC,zD,zE,zF,zG,zH,zI,zJ,zK,zL,zM,zN,zO,zP,zR,zS]at *);omega))).1;omega)) ?_
        try cbv)
     | (refine qP ?_ (c60 (ua7 (Ls.getD i 0) 16) (ua7 b 16) (Nat.le_trans (ugo _ _) (by decide)) (show(ua7 (Ls.getD i 0) 16).length=(ua7 b 16).length by have q1:=hq i (by((try simp only [qV]at *);(try simp only [zQ,zA,zB,zC,zD,zE,zF,zG,zH,zI,zJ,zK,zL,zM,zN,zO,zP,zR,zS]at *);omega));have q2:=hbl hi ho;have q3:¬sh<zi (ua7 (Ls.getD i 0) 16).length:=(by((try simp only [qV]at *);(try simp only [zQ,zA,zB,zC,zD,zE,zF,zG,zH,zI,zJ,zK,zL,zM,zN,zO,zP,zR,zS]at *);omega));simp only [uab]at q1 q2 q3;omega)) ?hfit
        case hfit=>(exact qD (Fit.refl _) (qD (Fit.refl _) qB))
        try cbv)
     | (refine qP ?_ (c48 ev (by omega)) ?hfit
        case hfit=>((refine qD (qE (by rfl)) qB);done)
        try cbv)
     | (refine qP ?_ (c48 sm (by omega)) ?hfit
        case hfit=>((refine qD (qE (by rfl)) qB);done)
        try cbv)
     |fail)
    all_goals first
     |trivial
     |((try clear c46);(try clear c59);(try clear c48);(try clear c60);((try simp only [qV]at *);(try simp only [zQ,zA,zB,zC,zD,zE,zF,zG,zH,zI,zJ,zK,zL,zM,zN,zO,zP,zR,zS]at *);first|(refine qN ?_;omega)|(simp only [Hold];omega)))
     |((try clear c46);(try clear c59);(try clear c48);(try clear c60);((try simp only [zQ,zA,zB,zC,zD,zE,zF,zG,zH,zI,zJ,zK,zL,zM,zN,zO,zP,zR,zS]at *);(have hcg:sh<zi (ua7 (Ls.getD i 0) 16).length:=by((try simp only [qV]at *);(try simp only [zQ,zA,zB,zC,zD,zE,zF,zG,zH,zI,zJ,zK,zL,zM,zN,zO,zP,zR,zS]at *);omega));(have hg:=ukF (P:=d.pn.toNat) hcg);refine⟨⟨(i+1,ev,sm,some b),(by((try simp only [qV]at *);(try simp only [zQ,zA,zB,zC,zD,zE,zF,zG,zH,zI,zJ,zK,zL,zM,zN,zO,zP,zR,zS]at *);omega)),he.trans hg.1.symm,hs2.trans hg.2.1.symm,ho.trans hg.2.2.symm⟩,by simp only [];omega,?_⟩;cbv;(repeat' (first|with_reducible refine hold ?_ ?_|with_reducible refine And.intro ?_ ?_));(all_goals first|trivial|exact qM (qE (by rfl))|exact qM (qF (by rfl))|exact qM (Fit.refl _)|exact qL (qK _)|(refine qM (qE ?_);(try simp only [qV]at *);simp only [zQ,zA,zB,zC,zD,zE,zF,zG,zH,zI,zJ,zK,zL,zM,zN,zO,zP,zR,zS]at *;omega)|(refine qL (qJ ?_);(repeat' (first|exact qA|exact qB|refine qC ?_ rfl ?_|refine qD ?_ ?_|exact qE (by rfl)|exact qF (by rfl)|exact Fit.refl _|exact qG _|(refine qE ?_;(try simp only [qV]at *);simp only [zQ,zA,zB,zC,zD,zE,zF,zG,zH,zI,zJ,zK,zL,zM,zN,zO,zP,zR,zS]at *;omega)));done)|skip)))
     |((try clear c46);(try clear c59);(try clear c48);(try clear c60);((try simp only [zQ,zA,zB,zC,zD,zE,zF,zG,zH,zI,zJ,zK,zL,zM,zN,zO,zP,zR,zS]at *);(have hcl:¬sh<zi (ua7 (Ls.getD i 0) 16).length:=by((try simp only [qV]at *);(try simp only [zQ,zA,zB,zC,zD,zE,zF,zG,zH,zI,zJ,zK,zL,zM,zN,zO,zP,zR,zS]at *);omega));obtain⟨ev2,eev⟩:∃z,z=ev &&& Ls.getD i 0:=⟨_,rfl⟩;obtain⟨sm2,esm⟩:∃z,z=sm |||Ls.getD i 0:=⟨_,rfl⟩;(have hev2:ev2=evN d.pn.toNat sh Ls (i+1):=by rw [ev_n hcl,←he,eev]);(have hsm2:sm2=smN sh Ls (i+1):=by rw [sm_n hcl,←hs2,esm]);(have hob:some (Ls.getD i 0)=bsN sh Ls (i+1):=by rw [ukv hcl ho,if_pos (by assumption)]);refine⟨⟨(i+1,ev2,sm2,some (Ls.getD i 0)),(by((try simp only [qV]at *);(try simp only [zQ,zA,zB,zC,zD,zE,zF,zG,zH,zI,zJ,zK,zL,zM,zN,zO,zP,zR,zS]at *);omega)),hev2,hsm2,hob⟩,by simp only [];omega,?_⟩;cbv;(repeat' (first|with_reducible refine hold ?_ ?_|with_reducible refine And.intro ?_ ?_));(all_goals first|trivial|exact qM (qE (by rfl))|exact qM (qF (by rfl))|exact qM (Fit.refl _)|exact qL (qK _)|(refine qM (qE ?_);(try simp only [qV]at *);simp only [zQ,zA,zB,zC,zD,zE,zF,zG,zH,zI,zJ,zK,zL,zM,zN,zO,zP,zR,zS]at *;omega)|(refine qL (qJ ?_);(repeat' (first|exact qA|exact qB|refine qC ?_ rfl ?_|refine qD ?_ ?_|exact qE (by rfl)|exact qF (by rfl)|exact Fit.refl _|exact qG _|(refine qE ?_;(try simp only [qV]at *);simp only [zQ,zA,zB,zC,zD,zE,zF,zG,zH,zI,zJ,zK,zL,zM,zN,zO,zP,zR,zS]at *;omega)));done)|(subst eev;exact qM (qE (by rfl)))|(subst esm;exact qM (qE (by rfl)))|skip)))
     |((try clear c46);(try clear c59);(try clear c48);(try clear c60);((try simp only [zQ,zA,zB,zC,zD,zE,zF,zG,zH,zI,zJ,zK,zL,zM,zN,zO,zP,zR,zS]at *);(have hcl:¬sh<zi (ua7 (Ls.getD i 0) 16).length:=by((try simp only [qV]at *);(try simp only [zQ,zA,zB,zC,zD,zE,zF,zG,zH,zI,zJ,zK,zL,zM,zN,zO,zP,zR,zS]at *);omega));obtain⟨ev2,eev⟩:∃z,z=ev &&& Ls.getD i 0:=⟨_,rfl⟩;obtain⟨sm2,esm⟩:∃z,z=sm |||Ls.getD i 0:=⟨_,rfl⟩;(have hev2:ev2=evN d.pn.toNat sh Ls (i+1):=by rw [ev_n hcl,←he,eev]);(have hsm2:sm2=smN sh Ls (i+1):=by rw [sm_n hcl,←hs2,esm]);(have hob:some b=bsN sh Ls (i+1):=by rw [ukv hcl ho,if_neg (by(first|assumption|(rw [Bool.not_eq_true];assumption)))]);refine⟨⟨(i+1,ev2,sm2,some b),(by((try simp only [qV]at *);(try simp only [zQ,zA,zB,zC,zD,zE,zF,zG,zH,zI,zJ,zK,zL,zM,zN,zO,zP,zR,zS]at *);omega)),hev2,hsm2,hob⟩,by simp only [];omega,?_⟩;cbv;(repeat' (first|with_reducible refine hold ?_ ?_|with_reducible refine And.intro ?_ ?_));(all_goals first|trivial|exact qM (qE (by rfl))|exact qM (qF (by rfl))|exact qM (Fit.refl _)|exact qL (qK _)|(refine qM (qE ?_);(try simp only [qV]at *);simp only [zQ,zA,zB,zC,zD,zE,zF,zG,zH,zI,zJ,zK,zL,zM,zN,zO,zP,zR,zS]at *;omega)|(refine qL (qJ ?_);(repeat' (first|exact qA|exact qB|refine qC ?_ rfl ?_|refine qD ?_ ?_|exact qE (by rfl)|exact qF (by rfl)|exact Fit.refl _|exact qG _|(refine qE ?_;(try simp only [qV]at *);simp only [zQ,zA,zB,zC,zD,zE,zF,zG,zH,zI,zJ,zK,zL,zM,zN,zO,zP,zR,zS]at *;omega)));done)|(subst eev;exact qM (qE (by rfl)))|(subst esm;exact qM (qE (by rfl)))|skip)))
     |((try clear c46);(try clear c59);(try clear c48);(try clear c60);(subst hR;(have e:i=Ls.length:=(by((try simp only [qV]at *);(try simp only [zQ,zA,zB,zC,zD,zE,zF,zG,zH,zI,zJ,zK,zL,zM,zN,zO,zP,zR,zS]at *);omega)));subst e;exact qD (udY (congrArg umm ho)) (qD (udY (by rw [he])) (qD (udY (by rw [hs2])) qB))))
     |skip
end Go.Proofs.YtkdggbfknlcdaaaGreat
