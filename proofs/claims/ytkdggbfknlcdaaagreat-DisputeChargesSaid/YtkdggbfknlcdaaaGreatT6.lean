/- Contracts of the functions that the laws come to. No condition. -/
import Derived.Test.YtkdggbfknlcdaaaGreatT5
set_option linter.unusedVariables false
set_option linter.unusedSimpArgs false
set_option linter.deprecated false
set_option linter.all false

namespace Go.Proofs.YtkdggbfknlcdaaaGreat
open Go Go.Eng Go.Proofs Go.Eng.Dif Go.Eng.Few
set_option maxRecDepth 10000
theorem uuj {p:Nat→Bool} {n i:Nat}(hi:i<n)(h:p i=false):allB p n=false:=by
 rw [uaq]
 intro q
 rw [q i hi]at h;cases h
theorem urx {p:Nat→Bool} {n:Nat}(h:∀i,i<n→p i=true):allB p n=true:=by rw [uam];exact h
def eqI (na:Nat)(fa:Nat→Int)(nb:Nat)(fb:Nat→Int):Bool:=decide (na=nb)&&allB (fun i=>decide (fa i=fb i)) na
theorem usS {na nb:Nat} {fa fb:Nat→Int}(h:¬na=nb):eqI na fa nb fb=false:=by unfold eqI;rw [decide_eq_false h];rfl
theorem uvH {na nb:Nat} {fa fb:Nat→Int} {i:Nat}(hi:i<na)(h:¬fa i=fb i):eqI na fa nb fb=false:=by
 unfold eqI
 rw [uuj (i:=i) hi (decide_eq_false h)];simp
theorem usU {na nb:Nat} {fa fb:Nat→Int}(h:na=nb)(h':∀i,i<na→fa i=fb i):eqI na fa nb fb=true:=by
 unfold eqI
 rw [decide_eq_true h,urx fun i hi=>decide_eq_true (h' i hi)];rfl
theorem ugT :EqOk Tryz.prog 59 2:=unI (by kernel_rfl)
theorem ujz {m b:Int} {c:List SV} {new e':IX→List SV}(h0:∀jx:IX,jx.den=0→Fit (.agg c) (.agg (e' jx)))(h1:∀ix jx:IX,0≤ix.den→ix.den<m→jx.den=1+ix.den→Fit (.agg (new ix)) (.agg (e' jx)))(hb:0<m∧(1+m)*b≤140737488355328):
 Hold (uds 1 (fun _=>c) m new e'∧0<m∧(1+m)*b≤140737488355328):=
 ⟨⟨fun μ ν ix v i0 i1 q jx hj=>(h0 jx (by omega)).le _ _ _ q,fun μ ν ix v i0 i1 q jx hj=>(h1 ix jx i0 i1 hj).le _ _ _ q⟩,hb⟩
theorem ueE (a b:Int):ua0 Tryz.prog 27 [(iv fun _=>a),(iv fun _=>b)] [] (fun r _=>r=(.agg [(iv fun _=>a),(iv fun _=>b)])):=by
 refine ua0.is fun R hR=>qW (sc:=sc27) tyok mix Tryz.func27 rfl Tryz.call27 (by kernel_rfl) (by kernel_rfl) ?_
 generalize Tryz.prog=P
 cbv
 repeat' (first
  |fail)
 all_goals first
  |(subst hR;(repeat' (first|exact qA|exact qB|refine qC ?_ rfl ?_|refine qD ?_ ?_|exact qE (by rfl)|exact qF (by rfl)|exact Fit.refl _|exact qG _|(refine qE ?_;(try simp only [qV]at *);simp only [zQ,zA,zB,zC,zD,zE,zF,zG,zH,zI,zJ,zK,zL,zM,zN,zO,zP,zR,zS]at *;omega)));done)
  |skip
theorem to18 (a b:Int):ua0 Tryz.prog 36 [(.agg [(iv fun _=>a),(iv fun _=>b)])] [] (fun r _=>r=(.agg [(iv fun _=>a),(iv fun _=>b)])):=by
 refine ua0.is fun R hR=>qW (sc:=sc36) tyok mix Tryz.func36 rfl Tryz.call36 (by kernel_rfl) (by kernel_rfl) ?_
 generalize Tryz.prog=P
 cbv
 repeat' (first
  |fail)
 all_goals first
  |(subst hR;(repeat' (first|exact qA|exact qB|refine qC ?_ rfl ?_|refine qD ?_ ?_|exact qE (by rfl)|exact qF (by rfl)|exact Fit.refl _|exact qG _|(refine qE ?_;(try simp only [qV]at *);simp only [zQ,zA,zB,zC,zD,zE,zF,zG,zH,zI,zJ,zK,zL,zM,zN,zO,zP,zR,zS]at *;omega)));done)
  |skip
theorem upg (na nb:Nat)(fa fb:Nat→Int)(ha:na≤1000)(hb:nb≤1000):ua0 Tryz.prog 15 [(.sl 1 (.sym fun _=>zi na) (fun ix=>[(iv fun _=>fa ix.den.toNat)])),(.sl 1 (.sym fun _=>zi nb) (fun ix=>[(iv fun _=>fb ix.den.toNat)]))] [] (fun r _=>r=(.bool (.sym fun _=>eqI na fa nb fb))):=by
 refine ua0.is fun R hR=>qW (sc:=sc15) tyok mix Tryz.func15 rfl Tryz.call15 (by kernel_rfl) (by kernel_rfl) ?_
 generalize Tryz.prog=P
 cbv
 repeat' (first
  |with_reducible refine And.intro ?_ ?_
  |(with_reducible intro hcd;(try simp only [zA,zB,zC,zD,zE,zF,zG,zH,zI,zJ,zK,zL,zM,zN,zO,zP]at hcd);try cbv)
  |fail)
 all_goals first
  |(subst hR;(refine qF ?_;(try simp only [qV]at *);(try simp only [zQ,zA,zB,zC,zD,zE,zF,zG,zH,zI,zJ,zK,zL,zM,zN,zO,zP,zR,zS]at *);exact(usS (by omega)).symm);done)
  |skip
 refine⟨none,[],{i:Nat // i≤na∧∀j,j<i→fa j=fb j},fun x=>⟨[(0,(.sl 1 (.sym fun _=>zi na) (fun ix=>[(iv fun _=>fa ix.den.toNat)]))),(1,(.sl 1 (.sym fun _=>zi nb) (fun ix=>[(iv fun _=>fb ix.den.toNat)]))),(5,(iv fun _=>zi x.1))],[],40⟩,fun x=>na-x.1,?_,?_⟩
 ·refine⟨⟨0,by omega,fun j hj=>by omega⟩,?_⟩
  cbv
  repeat' (first
   |with_reducible refine hold ?_ ?_
   |with_reducible refine And.intro ?_ ?_)
  all_goals first
   |trivial
   |exact qM (qE (by rfl))
   |exact qM (Fit.refl _)
   |skip
 ·rintro⟨i,hi,hq⟩
  cbv
  repeat' (first
   |with_reducible refine hold ?_ ?_
   |with_reducible refine And.intro ?_ ?_
   |(with_reducible intro hcd;(try simp only [zA,zB,zC,zD,zE,zF,zG,zH,zI,zJ,zK,zL,zM,zN,zO,zP]at hcd);try cbv)
   |fail)
  all_goals first
   |((try simp only [qV]at *);(try simp only [zQ,zA,zB,zC,zD,zE,zF,zG,zH,zI,zJ,zK,zL,zM,zN,zO,zP,zR,zS]at *);first|(refine qN ?_;omega)|(simp only [Hold];omega))
   |(subst hR;(refine qF ?_;(try simp only [qV]at *);(try simp only [zQ,zA,zB,zC,zD,zE,zF,zG,zH,zI,zJ,zK,zL,zM,zN,zO,zP,zR,zS]at *);exact(uvH (i:=i) (by omega) (by assumption)).symm);done)
   |(subst hR;(refine qF ?_;(try simp only [qV]at *);(try simp only [zQ,zA,zB,zC,zD,zE,zF,zG,zH,zI,zJ,zK,zL,zM,zN,zO,zP,zR,zS]at *);exact(usU (by omega) fun j hj=>hq j (by omega)).symm);done)
   |((try simp only [zQ,zA,zB,zC,zD,zE,zF,zG,zH,zI,zJ,zK,zL,zM,zN,zO,zP,zR,zS]at *);refine⟨⟨i+1,by omega,fun j hj=>(Nat.lt_or_ge j i).elim (hq j) fun q=>by rw [show j=i by omega];first|assumption|omega⟩,by simp only [];omega,?_⟩;cbv;(repeat' (first|with_reducible refine hold ?_ ?_|with_reducible refine And.intro ?_ ?_));(all_goals first|trivial|exact qM (qE (by rfl))|exact qM (qF (by rfl))|exact qM (Fit.refl _)|exact qL (qK _)|(refine qM (qE ?_);(try simp only [qV]at *);simp only [zQ,zA,zB,zC,zD,zE,zF,zG,zH,zI,zJ,zK,zL,zM,zN,zO,zP,zR,zS]at *;omega)|skip))
   |skip
theorem uub :ua0 Tryz.prog 39 [] [] (fun r _=>r=(dspS d3)):=by
 have c40:= @ueE
 refine ua0.is fun R hR=>qW (sc:=sc39) tyok mix Tryz.func39 rfl Tryz.call39 (by kernel_rfl) (by kernel_rfl) ?_
 generalize Tryz.prog=P at c40⊢
 cbv
 repeat' (first
  | (refine qP ?_ (c40 _ _) (by(repeat' (first|exact qB|refine qD ?_ ?_|exact qE (by rfl)|exact qF (by rfl)|exact Fit.refl _|exact qA|refine qC ?_ rfl ?_)))
     try cbv)
  |fail)
 all_goals first
  |(subst hR;(repeat' (first|exact qA|exact qB|refine qC ?_ rfl ?_|refine qD ?_ ?_|exact qE (by rfl)|exact qF (by rfl)|exact qE (by kernel_rfl)|exact qF (by kernel_rfl)|exact Fit.refl _|(exact qO (by rfl))|(first|(refine ua1 (by rfl) (fun ix h0 h1=> ?_);(have h2:ix.den<2:=h1);(have hx:ix.den.toNat=0∨ix.den.toNat=1:=by omega);(rcases hx with hx|hx<;>simp only [hx]))|(refine ua1 (by rfl) (fun ix h0 h1=> ?_);(have h2:ix.den<3:=h1);(have hx:ix.den.toNat=0∨ix.den.toNat=1∨ix.den.toNat=2:=by omega);(rcases hx with hx|hx|hx<;>simp only [hx]))|(refine ua1 (by rfl) (fun ix h0 h1=> ?_);(have h2:ix.den<4:=h1);(have hx:ix.den.toNat=0∨ix.den.toNat=1∨ix.den.toNat=2∨ix.den.toNat=3:=by omega);(rcases hx with hx|hx|hx|hx<;>simp only [hx]))|(refine ua1 (by rfl) (fun ix h0 h1=> ?_);(have h2:ix.den<1:=h1);(have hx:ix.den.toNat=0:=by omega);(rcases hx with hx<;>simp only [hx]))|(refine ua1 (by rfl) (fun ix h0 h1=> ?_);(have h2:ix.den<5:=h1);(have hx:ix.den.toNat=0∨ix.den.toNat=1∨ix.den.toNat=2∨ix.den.toNat=3∨ix.den.toNat=4:=by omega);(rcases hx with hx|hx|hx|hx|hx<;>simp only [hx])))));done)
  |skip
theorem ur2 :ub6 Tryz.prog 39 [] [] (fun r bs=>r=(.agg [(iS d3.tw),(iS d3.tm),(.sl 1 (.sym fun _=>zi (d3.tv).length) (fun ix=>[(.sl 1 (.sym fun _=>zi ((d3.tv).getD ix.den.toNat []).length) (fun jx=>[(iv fun _=>((d3.tv).getD ix.den.toNat []).getD jx.den.toNat 0)]))])),(iv fun _=>d3.sn),(iv fun _=>d3.pn),(.sl 4 (.sym fun _=>zi (d3.ls).length) (fun ix=>[(iv fun _=>((d3.ls).getD ix.den.toNat l0T).a),(iv fun _=>((d3.ls).getD ix.den.toNat l0T).b),(iv fun _=>((d3.ls).getD ix.den.toNat l0T).lo),(iv fun _=>((d3.ls).getD ix.den.toNat l0T).hi)])),.ows 0 0 3 3 6])∧bs=[.cells [(.int .i64 (.lit (0))),(.int .i64 (.lit (0))),(.int .i64 (.lit (12))),(.int .i64 (.lit (12))),(.int .i64 (.lit (5))),(.int .i64 (.lit (6))),(.int .i64 (.lit (1))),(.int .i64 (.lit (0))),(.int .i64 (.lit (14))),(.int .i64 (.lit (14))),(.int .i64 (.lit (2))),(.int .i64 (.lit (3))),(.int .i64 (.lit (2))),(.int .i64 (.lit (1))),(.int .i64 (.lit (10))),(.int .i64 (.lit (10))),(.int .i64 (.lit (4))),(.int .i64 (.lit (4)))] 106]):=by
 have c40:= @ueE
 refine ub6.is rfl rfl fun R B hR hB=>uf1 (sc:=sc39) tyok mix Tryz.func39 rfl Tryz.call39 (by kernel_rfl) (by kernel_rfl) ?_
 generalize Tryz.prog=P at c40⊢
 cbv
 repeat' (first
  | (refine qP ?_ (c40 _ _) (by(repeat' (first|exact qB|refine qD ?_ ?_|exact qE (by rfl)|exact qF (by rfl)|exact Fit.refl _|exact qA|refine qC ?_ rfl ?_)))
     try cbv)
  |fail)
 all_goals first|trivial|skip
 refine⟨[],(20:Nat),?_⟩
 cbv
 subst hR
 subst hB
 refine⟨?_,?_⟩
 ·(repeat' (first|exact qA|exact qB|refine qC ?_ rfl ?_|refine qD ?_ ?_|exact qE (by rfl)|exact qF (by rfl)|exact qE (by kernel_rfl)|exact qF (by kernel_rfl)|exact Fit.refl _|(exact qO (by rfl))|(first|(refine ua1 (by rfl) (fun ix h0 h1=> ?_);(have h2:ix.den<2:=h1);(have hx:ix.den.toNat=0∨ix.den.toNat=1:=by omega);(rcases hx with hx|hx<;>simp only [hx]))|(refine ua1 (by rfl) (fun ix h0 h1=> ?_);(have h2:ix.den<3:=h1);(have hx:ix.den.toNat=0∨ix.den.toNat=1∨ix.den.toNat=2:=by omega);(rcases hx with hx|hx|hx<;>simp only [hx]))|(refine ua1 (by rfl) (fun ix h0 h1=> ?_);(have h2:ix.den<4:=h1);(have hx:ix.den.toNat=0∨ix.den.toNat=1∨ix.den.toNat=2∨ix.den.toNat=3:=by omega);(rcases hx with hx|hx|hx|hx<;>simp only [hx]))|(refine ua1 (by rfl) (fun ix h0 h1=> ?_);(have h2:ix.den<1:=h1);(have hx:ix.den.toNat=0:=by omega);(rcases hx with hx<;>simp only [hx]))|(refine ua1 (by rfl) (fun ix h0 h1=> ?_);(have h2:ix.den<5:=h1);(have hx:ix.den.toNat=0∨ix.den.toNat=1∨ix.den.toNat=2∨ix.den.toNat=3∨ix.den.toNat=4:=by omega);(rcases hx with hx|hx|hx|hx|hx<;>simp only [hx])))))
 ·(repeat' (first|exact qH|refine qI ?_ ?_))
  refine qJ ?_
  (repeat' (first|exact qA|exact qB|refine qC ?_ rfl ?_|refine qD ?_ ?_|exact qE (by rfl)|exact qF (by rfl)|exact qE (by kernel_rfl)|exact qF (by kernel_rfl)|exact Fit.refl _|(exact qO (by rfl))|(first|(refine ua1 (by rfl) (fun ix h0 h1=> ?_);(have h2:ix.den<2:=h1);(have hx:ix.den.toNat=0∨ix.den.toNat=1:=by omega);(rcases hx with hx|hx<;>simp only [hx]))|(refine ua1 (by rfl) (fun ix h0 h1=> ?_);(have h2:ix.den<3:=h1);(have hx:ix.den.toNat=0∨ix.den.toNat=1∨ix.den.toNat=2:=by omega);(rcases hx with hx|hx|hx<;>simp only [hx]))|(refine ua1 (by rfl) (fun ix h0 h1=> ?_);(have h2:ix.den<4:=h1);(have hx:ix.den.toNat=0∨ix.den.toNat=1∨ix.den.toNat=2∨ix.den.toNat=3:=by omega);(rcases hx with hx|hx|hx|hx<;>simp only [hx]))|(refine ua1 (by rfl) (fun ix h0 h1=> ?_);(have h2:ix.den<1:=h1);(have hx:ix.den.toNat=0:=by omega);(rcases hx with hx<;>simp only [hx]))|(refine ua1 (by rfl) (fun ix h0 h1=> ?_);(have h2:ix.den<5:=h1);(have hx:ix.den.toNat=0∨ix.den.toNat=1∨ix.den.toNat=2∨ix.den.toNat=3∨ix.den.toNat=4:=by omega);(rcases hx with hx|hx|hx|hx|hx<;>simp only [hx])))))
theorem uwU :ua0 Tryz.prog 40 [] [] (fun r _=>r=(dspS d2)):=by
 have c37:=ur2
 refine ua0.is fun R hR=>qW (sc:=sc40) tyok mix Tryz.func40 rfl Tryz.call40 (by kernel_rfl) (by kernel_rfl) ?_
 generalize Tryz.prog=P at c37⊢
 cbv
 repeat' (first
  | (refine Or.inr ⟨true,?_⟩
     cbv
     refine qU ?_ (c37) (by cbv;(repeat' (first|exact qB|refine qD ?_ ?_|exact qE (by rfl)|exact qF (by rfl)|exact Fit.refl _|exact qA|refine qC ?_ rfl ?_))) (by cbv;(repeat' (first|exact qH|refine qI ?_ ?_|exact qK _|refine qJ ?_|exact qA|exact qE (by rfl)|exact qF (by rfl)|exact Fit.refl _|exact qG _|refine qC ?_ rfl ?_)))
     try cbv)
  | (refine⟨fun ix=>[(iv fun _=>(d2.fs.getD ix.den.toNat f0T).p),(iv fun _=>(d2.fs.getD ix.den.toNat f0T).s),(iv fun _=>(d2.fs.getD ix.den.toNat f0T).wl),(iv fun _=>(d2.fs.getD ix.den.toNat f0T).wh),(iv fun _=>(d2.fs.getD ix.den.toNat f0T).ml),(iv fun _=>(d2.fs.getD ix.den.toNat f0T).mh)],?_⟩
     cbv
     refine hold (ujz (fun jx h0=>(by(have h3:jx.den.toNat=0:=by omega);simp only [h3];(repeat' (first|exact qA|exact qB|refine qC ?_ rfl ?_|refine qD ?_ ?_|exact qE (by rfl)|exact qF (by rfl)|exact qE (by kernel_rfl)|exact qF (by kernel_rfl)|exact Fit.refl _|(exact qO (by rfl))|(first|(refine ua1 (by rfl) (fun ix h0 h1=> ?_);(have h2:ix.den<2:=h1);(have hx:ix.den.toNat=0∨ix.den.toNat=1:=by omega);(rcases hx with hx|hx<;>simp only [hx]))|(refine ua1 (by rfl) (fun ix h0 h1=> ?_);(have h2:ix.den<3:=h1);(have hx:ix.den.toNat=0∨ix.den.toNat=1∨ix.den.toNat=2:=by omega);(rcases hx with hx|hx|hx<;>simp only [hx]))|(refine ua1 (by rfl) (fun ix h0 h1=> ?_);(have h2:ix.den<4:=h1);(have hx:ix.den.toNat=0∨ix.den.toNat=1∨ix.den.toNat=2∨ix.den.toNat=3:=by omega);(rcases hx with hx|hx|hx|hx<;>simp only [hx]))|(refine ua1 (by rfl) (fun ix h0 h1=> ?_);(have h2:ix.den<1:=h1);(have hx:ix.den.toNat=0:=by omega);(rcases hx with hx<;>simp only [hx]))|(refine ua1 (by rfl) (fun ix h0 h1=> ?_);(have h2:ix.den<5:=h1);(have hx:ix.den.toNat=0∨ix.den.toNat=1∨ix.den.toNat=2∨ix.den.toNat=3∨ix.den.toNat=4:=by omega);(rcases hx with hx|hx|hx|hx|hx<;>simp only [hx]))))))) (fun ix jx h0 h1 h2=>(by(have h3:jx.den.toNat=1:=by(have h4:ix.den<1:=h1;omega));simp only [h3];(repeat' (first|exact qA|exact qB|refine qC ?_ rfl ?_|refine qD ?_ ?_|exact qE (by rfl)|exact qF (by rfl)|exact qE (by kernel_rfl)|exact qF (by kernel_rfl)|exact Fit.refl _|(exact qO (by rfl))|(first|(refine ua1 (by rfl) (fun ix h0 h1=> ?_);(have h2:ix.den<2:=h1);(have hx:ix.den.toNat=0∨ix.den.toNat=1:=by omega);(rcases hx with hx|hx<;>simp only [hx]))|(refine ua1 (by rfl) (fun ix h0 h1=> ?_);(have h2:ix.den<3:=h1);(have hx:ix.den.toNat=0∨ix.den.toNat=1∨ix.den.toNat=2:=by omega);(rcases hx with hx|hx|hx<;>simp only [hx]))|(refine ua1 (by rfl) (fun ix h0 h1=> ?_);(have h2:ix.den<4:=h1);(have hx:ix.den.toNat=0∨ix.den.toNat=1∨ix.den.toNat=2∨ix.den.toNat=3:=by omega);(rcases hx with hx|hx|hx|hx<;>simp only [hx]))|(refine ua1 (by rfl) (fun ix h0 h1=> ?_);(have h2:ix.den<1:=h1);(have hx:ix.den.toNat=0:=by omega);(rcases hx with hx<;>simp only [hx]))|(refine ua1 (by rfl) (fun ix h0 h1=> ?_);(have h2:ix.den<5:=h1);(have hx:ix.den.toNat=0∨ix.den.toNat=1∨ix.den.toNat=2∨ix.den.toNat=3∨ix.den.toNat=4:=by omega);(rcases hx with hx|hx|hx|hx|hx<;>simp only [hx]))))))) ⟨by decide,by decide⟩) ?_
     try cbv)
  |fail)
 all_goals first
  |(subst hR;(repeat' (first|exact qA|exact qB|refine qC ?_ rfl ?_|refine qD ?_ ?_|exact qE (by rfl)|exact qF (by rfl)|exact qE (by kernel_rfl)|exact qF (by kernel_rfl)|exact Fit.refl _|(exact qO (by rfl))|(first|(refine ua1 (by rfl) (fun ix h0 h1=> ?_);(have h2:ix.den<2:=h1);(have hx:ix.den.toNat=0∨ix.den.toNat=1:=by omega);(rcases hx with hx|hx<;>simp only [hx]))|(refine ua1 (by rfl) (fun ix h0 h1=> ?_);(have h2:ix.den<3:=h1);(have hx:ix.den.toNat=0∨ix.den.toNat=1∨ix.den.toNat=2:=by omega);(rcases hx with hx|hx|hx<;>simp only [hx]))|(refine ua1 (by rfl) (fun ix h0 h1=> ?_);(have h2:ix.den<4:=h1);(have hx:ix.den.toNat=0∨ix.den.toNat=1∨ix.den.toNat=2∨ix.den.toNat=3:=by omega);(rcases hx with hx|hx|hx|hx<;>simp only [hx]))|(refine ua1 (by rfl) (fun ix h0 h1=> ?_);(have h2:ix.den<1:=h1);(have hx:ix.den.toNat=0:=by omega);(rcases hx with hx<;>simp only [hx]))|(refine ua1 (by rfl) (fun ix h0 h1=> ?_);(have h2:ix.den<5:=h1);(have hx:ix.den.toNat=0∨ix.den.toNat=1∨ix.den.toNat=2∨ix.den.toNat=3∨ix.den.toNat=4:=by omega);(rcases hx with hx|hx|hx|hx|hx<;>simp only [hx])))));done)
  |skip
theorem urX {n:Int} {f:Nat→Int} {L:List Int}(hn:n=(L.length:Int))(h:∀i,i<L.length→f i=L.getD i 0):Fit (.sl 1 (.sym fun _=>n) (fun ix=>[(iv fun _=>f ix.den.toNat)])) (iS L):=
 ua1 hn (fun ix h0 h1=>qC (qE (h _ (by have h2:ix.den<n:=h1;omega))) rfl qA)
theorem utK {n:Int} {f g:Nat→Int} {L:List (Int×Int)}(hn:n=(L.length:Int))(h:∀i,i<L.length→f i=(L.getD i (0,0)).1∧g i=(L.getD i (0,0)).2):Fit (.sl 2 (.sym fun _=>n) (fun ix=>[(iv fun _=>f ix.den.toNat),(iv fun _=>g ix.den.toNat)])) (.sl 2 (.sym fun _=>zi (L).length) (fun ix=>[(iv fun _=>((L).getD ix.den.toNat (0,0)).1),(iv fun _=>((L).getD ix.den.toNat (0,0)).2)])):=
 ua1 hn (fun ix h0 h1=>qC (qE (h _ (by have h2:ix.den<n:=h1;omega)).1) rfl (qC (qE (h _ (by have h2:ix.den<n:=h1;omega)).2) rfl qA))
theorem uwe :ua0 Tryz.prog 38 [(dspS d3),(iv fun _=>0)] [] (fun r _=>r=(.tup [(.agg [(.int .i64 (.lit (115))),(.int .i64 (.lit (119)))]),(.int .i64 (.lit (0)))])):=
 (uur d3 0 (by decide)).post fun r bs h=>⟨_,by subst h;exact qD (qC (qE uoK.2.1) rfl (qC (qE uoK.2.2) rfl qA)) (qD (qE uoK.1) qB),rfl⟩
theorem uvw :ua0 Tryz.prog 11 [(dspS d3)] [] (fun r _=>r=(.tup [(.int .i64 (.lit (1))),(.int .i64 (.lit (0)))])):=
 (uu8 d3).post fun r bs h=>⟨_,by subst h;exact qD (qE uw4.2) (qD (qE uw4.1) qB),rfl⟩
theorem uvS :ua0 Tryz.prog 13 [(dspS d3)] [] (fun r _=>r=(.tup [(iS ([1])),(.int .i64 (.lit (0)))])):=
 (uoc d3).post fun r bs h=>⟨_,by subst h;rw [lea3];exact qD (Fit.refl _) (qD (qE ugO) qB),rfl⟩
theorem uqf :ua0 Tryz.prog 18 [(dspS d3)] [] (fun r _=>r=(.tup [(iS ([1])),(.int .i64 (.lit (0)))])):=
 (uox d3).post fun r bs h=>⟨_,by subst h;rw [bel3];exact qD (Fit.refl _) (qD (qE ugO) qB),rfl⟩
theorem uvl :ua0 Tryz.prog 19 [(dspS d3)] [] (fun r _=>r=(.tup [(iS ([1])),(iS ([1])),(.int .i64 (.lit (0)))])):=
 (ukn d3).post fun r bs h=>⟨_,by subst h;rw [mst3,may3];exact qD (Fit.refl _) (qD (Fit.refl _) (qD (qE ugO) qB)),rfl⟩
def B2X :List (Int×Int):=[(116,119),(116,116)]
theorem uuo :ua0 Tryz.prog 30 [(dspS d2)] [] (fun r _=>r=(.tup [(.sl 2 (.sym fun _=>zi (B2X).length) (fun ix=>[(iv fun _=>((B2X).getD ix.den.toNat (0,0)).1),(iv fun _=>((B2X).getD ix.den.toNat (0,0)).2)])),(.int .i64 (.lit (0)))])):=
 (uqx d2).post fun r bs h=>⟨_,by subst h;exact qD (utK (f:=loT d2 []) (g:=hiT d2 []) (L:=B2X) bnd2.2 (fun i hi=>by
  have hi:i<2:=hi
  rcases(show i=0∨i=1 by omega)with e|e<;>subst e<;>(first|exact bd2.1|exact bd2.2))) (qD (qE bnd2.1) qB),rfl⟩
theorem ut9 :ua0 Tryz.prog 25 [(dspS d3),(iv fun _=>0),(iv fun _=>1000)] [] (fun r _=>r=(.tup [(.agg [(.int .i64 (.lit (116))),(.int .i64 (.lit (119)))]),(.int .i64 (.lit (0)))])):=
 (udU d3 0 1000).post fun r bs h=>⟨_,by subst h;exact qD (qC (qE ch3.2.1) rfl (qC (qE ch3.2.2) rfl qA)) (qD (qE ch3.1) qB),rfl⟩
theorem usy :ua0 Tryz.prog 20 [(dspS d3),(iv fun _=>100)] [] (fun r _=>r=(.tup [(iS ([0,100,0])),(.int .i64 (.lit (0)))])):=
 (uoH d3 100).post fun r bs h=>⟨_,by subst h;exact qD (urX (f:=cosF d3 100) (L:=[0,100,0]) co3.2 (fun i hi=>by
  have hi:i<3:=hi
  rcases(show i=0∨i=1∨i=2 by omega)with e|e|e<;>subst e<;>(first|exact cos3.1|exact cos3.2.1|exact cos3.2.2))) (qD (qE co3.1) qB),rfl⟩
theorem utf :ua0 Tryz.prog 20 [(dspS d2),(iv fun _=>100)] [] (fun r _=>r=(.tup [(iS ([34,33,33])),(.int .i64 (.lit (0)))])):=
 (uoH d2 100).post fun r bs h=>⟨_,by subst h;exact qD (urX (f:=cosF d2 100) (L:=[34,33,33]) co2.2 (fun i hi=>by
  have hi:i<3:=hi
  rcases(show i=0∨i=1∨i=2 by omega)with e|e|e<;>subst e<;>(first|exact cos2.1|exact cos2.2.1|exact cos2.2.2))) (qD (qE co2.1) qB),rfl⟩
theorem uvF :ua0 Tryz.prog 15 [(iS ([1])),(iS ([1]))] [] (fun r _=>r=(.bool (.lit true))):=
 (upg 1 1 (fun n=>([1]).getD n 0) (fun n=>([1]).getD n 0) (by decide) (by decide)).post fun r bs h=>⟨_,by subst h;(repeat' (first|exact qA|exact qB|refine qC ?_ rfl ?_|refine qD ?_ ?_|exact qE (by rfl)|exact qF (by rfl)|exact qE (by kernel_rfl)|exact qF (by kernel_rfl)|exact Fit.refl _|(exact qO (by rfl))|(first|(refine ua1 (by rfl) (fun ix h0 h1=> ?_);(have h2:ix.den<2:=h1);(have hx:ix.den.toNat=0∨ix.den.toNat=1:=by omega);(rcases hx with hx|hx<;>simp only [hx]))|(refine ua1 (by rfl) (fun ix h0 h1=> ?_);(have h2:ix.den<3:=h1);(have hx:ix.den.toNat=0∨ix.den.toNat=1∨ix.den.toNat=2:=by omega);(rcases hx with hx|hx|hx<;>simp only [hx]))|(refine ua1 (by rfl) (fun ix h0 h1=> ?_);(have h2:ix.den<4:=h1);(have hx:ix.den.toNat=0∨ix.den.toNat=1∨ix.den.toNat=2∨ix.den.toNat=3:=by omega);(rcases hx with hx|hx|hx|hx<;>simp only [hx]))|(refine ua1 (by rfl) (fun ix h0 h1=> ?_);(have h2:ix.den<1:=h1);(have hx:ix.den.toNat=0:=by omega);(rcases hx with hx<;>simp only [hx]))|(refine ua1 (by rfl) (fun ix h0 h1=> ?_);(have h2:ix.den<5:=h1);(have hx:ix.den.toNat=0∨ix.den.toNat=1∨ix.den.toNat=2∨ix.den.toNat=3∨ix.den.toNat=4:=by omega);(rcases hx with hx|hx|hx|hx|hx<;>simp only [hx]))))),rfl⟩
theorem uw3 :ua0 Tryz.prog 15 [(iS ([0,100,0])),(iS ([0,100,0]))] [] (fun r _=>r=(.bool (.lit true))):=
 (upg 3 3 (fun n=>([0,100,0]).getD n 0) (fun n=>([0,100,0]).getD n 0) (by decide) (by decide)).post fun r bs h=>⟨_,by subst h;(repeat' (first|exact qA|exact qB|refine qC ?_ rfl ?_|refine qD ?_ ?_|exact qE (by rfl)|exact qF (by rfl)|exact qE (by kernel_rfl)|exact qF (by kernel_rfl)|exact Fit.refl _|(exact qO (by rfl))|(first|(refine ua1 (by rfl) (fun ix h0 h1=> ?_);(have h2:ix.den<2:=h1);(have hx:ix.den.toNat=0∨ix.den.toNat=1:=by omega);(rcases hx with hx|hx<;>simp only [hx]))|(refine ua1 (by rfl) (fun ix h0 h1=> ?_);(have h2:ix.den<3:=h1);(have hx:ix.den.toNat=0∨ix.den.toNat=1∨ix.den.toNat=2:=by omega);(rcases hx with hx|hx|hx<;>simp only [hx]))|(refine ua1 (by rfl) (fun ix h0 h1=> ?_);(have h2:ix.den<4:=h1);(have hx:ix.den.toNat=0∨ix.den.toNat=1∨ix.den.toNat=2∨ix.den.toNat=3:=by omega);(rcases hx with hx|hx|hx|hx<;>simp only [hx]))|(refine ua1 (by rfl) (fun ix h0 h1=> ?_);(have h2:ix.den<1:=h1);(have hx:ix.den.toNat=0:=by omega);(rcases hx with hx<;>simp only [hx]))|(refine ua1 (by rfl) (fun ix h0 h1=> ?_);(have h2:ix.den<5:=h1);(have hx:ix.den.toNat=0∨ix.den.toNat=1∨ix.den.toNat=2∨ix.den.toNat=3∨ix.den.toNat=4:=by omega);(rcases hx with hx|hx|hx|hx|hx<;>simp only [hx]))))),rfl⟩
theorem uuT :ua0 Tryz.prog 15 [(iS ([34,33,33])),(iS ([34,33,33]))] [] (fun r _=>r=(.bool (.lit true))):=
 (upg 3 3 (fun n=>([34,33,33]).getD n 0) (fun n=>([34,33,33]).getD n 0) (by decide) (by decide)).post fun r bs h=>⟨_,by subst h;(repeat' (first|exact qA|exact qB|refine qC ?_ rfl ?_|refine qD ?_ ?_|exact qE (by rfl)|exact qF (by rfl)|exact qE (by kernel_rfl)|exact qF (by kernel_rfl)|exact Fit.refl _|(exact qO (by rfl))|(first|(refine ua1 (by rfl) (fun ix h0 h1=> ?_);(have h2:ix.den<2:=h1);(have hx:ix.den.toNat=0∨ix.den.toNat=1:=by omega);(rcases hx with hx|hx<;>simp only [hx]))|(refine ua1 (by rfl) (fun ix h0 h1=> ?_);(have h2:ix.den<3:=h1);(have hx:ix.den.toNat=0∨ix.den.toNat=1∨ix.den.toNat=2:=by omega);(rcases hx with hx|hx|hx<;>simp only [hx]))|(refine ua1 (by rfl) (fun ix h0 h1=> ?_);(have h2:ix.den<4:=h1);(have hx:ix.den.toNat=0∨ix.den.toNat=1∨ix.den.toNat=2∨ix.den.toNat=3:=by omega);(rcases hx with hx|hx|hx|hx<;>simp only [hx]))|(refine ua1 (by rfl) (fun ix h0 h1=> ?_);(have h2:ix.den<1:=h1);(have hx:ix.den.toNat=0:=by omega);(rcases hx with hx<;>simp only [hx]))|(refine ua1 (by rfl) (fun ix h0 h1=> ?_);(have h2:ix.den<5:=h1);(have hx:ix.den.toNat=0∨ix.den.toNat=1∨ix.den.toNat=2∨ix.den.toNat=3∨ix.den.toNat=4:=by omega);(rcases hx with hx|hx|hx|hx|hx<;>simp only [hx]))))),rfl⟩
set_option maxHeartbeats 1000000 in
theorem ufe :ua0 Tryz.prog 10 [] [] (fun r _=>r=(.bool (.lit true))):=by
 have k37:=uub
 have k39:=uwU
 have kmeanX:=uwe
 have kfirstX:=uvw
 have kleaveX:=uvS
 have kbelieveX:=uqf
 have kblameX:=uvl
 have kboundsX:=uuo
 have kchargeX:=ut9
 have kcosts3X:=usy
 have kcosts2X:=utf
 have kintsXa:=uvF
 have kintsXb:=uw3
 have kintsXc:=uuT
 have c40:= @ueE
 have h33:=ugT
 refine ua0.is fun R hR=>qW (sc:=sc10) tyok mix Tryz.func10 rfl Tryz.call10 (by kernel_rfl) (by kernel_rfl) ?_
 generalize Tryz.prog=P at k37 k39 kmeanX kfirstX kleaveX kbelieveX kblameX kboundsX kchargeX kcosts3X kcosts2X kintsXa kintsXb kintsXc c40 h33⊢
 cbv
 repeat' (first
  |with_reducible refine hold ?_ ?_
  |with_reducible refine And.intro ?_ ?_
  |(with_reducible intro hcd;(try simp only [zA,zB,zC,zD,zE,zF,zG,zH,zI,zJ,zK,zL,zM,zN,zO,zP]at hcd);try cbv)
  | (refine qP ?_ (c40 _ _) (by(repeat' (first|exact qB|refine qD ?_ ?_|exact qE (by rfl)|exact qF (by rfl)|exact Fit.refl _|exact qA|refine qC ?_ rfl ?_)))
     try cbv)
  | (refine qP ?_ (k37) ?hfit
     case hfit=>((repeat' (first|exact qA|exact qB|refine qC ?_ rfl ?_|refine qD ?_ ?_|exact qE (by rfl)|exact qF (by rfl)|exact Fit.refl _|(exact qO (by rfl))|(first|(refine ua1 (by rfl) (fun ix h0 h1=> ?_);(have h2:ix.den<2:=h1);(have hx:ix.den.toNat=0∨ix.den.toNat=1:=by omega);(rcases hx with hx|hx<;>simp only [hx]))|(refine ua1 (by rfl) (fun ix h0 h1=> ?_);(have h2:ix.den<3:=h1);(have hx:ix.den.toNat=0∨ix.den.toNat=1∨ix.den.toNat=2:=by omega);(rcases hx with hx|hx|hx<;>simp only [hx]))|(refine ua1 (by rfl) (fun ix h0 h1=> ?_);(have h2:ix.den<4:=h1);(have hx:ix.den.toNat=0∨ix.den.toNat=1∨ix.den.toNat=2∨ix.den.toNat=3:=by omega);(rcases hx with hx|hx|hx|hx<;>simp only [hx]))|(refine ua1 (by rfl) (fun ix h0 h1=> ?_);(have h2:ix.den<1:=h1);(have hx:ix.den.toNat=0:=by omega);(rcases hx with hx<;>simp only [hx]))|(refine ua1 (by rfl) (fun ix h0 h1=> ?_);(have h2:ix.den<5:=h1);(have hx:ix.den.toNat=0∨ix.den.toNat=1∨ix.den.toNat=2∨ix.den.toNat=3∨ix.den.toNat=4:=by omega);(rcases hx with hx|hx|hx|hx|hx<;>simp only [hx])))));done)
     try cbv)
  | (refine qP ?_ (k39) ?hfit
     case hfit=>((repeat' (first|exact qA|exact qB|refine qC ?_ rfl ?_|refine qD ?_ ?_|exact qE (by rfl)|exact qF (by rfl)|exact Fit.refl _|(exact qO (by rfl))|(first|(refine ua1 (by rfl) (fun ix h0 h1=> ?_);(have h2:ix.den<2:=h1);(have hx:ix.den.toNat=0∨ix.den.toNat=1:=by omega);(rcases hx with hx|hx<;>simp only [hx]))|(refine ua1 (by rfl) (fun ix h0 h1=> ?_);(have h2:ix.den<3:=h1);(have hx:ix.den.toNat=0∨ix.den.toNat=1∨ix.den.toNat=2:=by omega);(rcases hx with hx|hx|hx<;>simp only [hx]))|(refine ua1 (by rfl) (fun ix h0 h1=> ?_);(have h2:ix.den<4:=h1);(have hx:ix.den.toNat=0∨ix.den.toNat=1∨ix.den.toNat=2∨ix.den.toNat=3:=by omega);(rcases hx with hx|hx|hx|hx<;>simp only [hx]))|(refine ua1 (by rfl) (fun ix h0 h1=> ?_);(have h2:ix.den<1:=h1);(have hx:ix.den.toNat=0:=by omega);(rcases hx with hx<;>simp only [hx]))|(refine ua1 (by rfl) (fun ix h0 h1=> ?_);(have h2:ix.den<5:=h1);(have hx:ix.den.toNat=0∨ix.den.toNat=1∨ix.den.toNat=2∨ix.den.toNat=3∨ix.den.toNat=4:=by omega);(rcases hx with hx|hx|hx|hx|hx<;>simp only [hx])))));done)
     try cbv)
  | (refine qP ?_ (kmeanX) ?hfit
     case hfit=>((repeat' (first|exact qA|exact qB|refine qC ?_ rfl ?_|refine qD ?_ ?_|exact qE (by rfl)|exact qF (by rfl)|exact Fit.refl _|(exact qO (by rfl))|(first|(refine ua1 (by rfl) (fun ix h0 h1=> ?_);(have h2:ix.den<2:=h1);(have hx:ix.den.toNat=0∨ix.den.toNat=1:=by omega);(rcases hx with hx|hx<;>simp only [hx]))|(refine ua1 (by rfl) (fun ix h0 h1=> ?_);(have h2:ix.den<3:=h1);(have hx:ix.den.toNat=0∨ix.den.toNat=1∨ix.den.toNat=2:=by omega);(rcases hx with hx|hx|hx<;>simp only [hx]))|(refine ua1 (by rfl) (fun ix h0 h1=> ?_);(have h2:ix.den<4:=h1);(have hx:ix.den.toNat=0∨ix.den.toNat=1∨ix.den.toNat=2∨ix.den.toNat=3:=by omega);(rcases hx with hx|hx|hx|hx<;>simp only [hx]))|(refine ua1 (by rfl) (fun ix h0 h1=> ?_);(have h2:ix.den<1:=h1);(have hx:ix.den.toNat=0:=by omega);(rcases hx with hx<;>simp only [hx]))|(refine ua1 (by rfl) (fun ix h0 h1=> ?_);(have h2:ix.den<5:=h1);(have hx:ix.den.toNat=0∨ix.den.toNat=1∨ix.den.toNat=2∨ix.den.toNat=3∨ix.den.toNat=4:=by omega);(rcases hx with hx|hx|hx|hx|hx<;>simp only [hx])))));done)
     try cbv)
  | (refine qP ?_ (kfirstX) ?hfit
     case hfit=>((repeat' (first|exact qA|exact qB|refine qC ?_ rfl ?_|refine qD ?_ ?_|exact qE (by rfl)|exact qF (by rfl)|exact Fit.refl _|(exact qO (by rfl))|(first|(refine ua1 (by rfl) (fun ix h0 h1=> ?_);(have h2:ix.den<2:=h1);(have hx:ix.den.toNat=0∨ix.den.toNat=1:=by omega);(rcases hx with hx|hx<;>simp only [hx]))|(refine ua1 (by rfl) (fun ix h0 h1=> ?_);(have h2:ix.den<3:=h1);(have hx:ix.den.toNat=0∨ix.den.toNat=1∨ix.den.toNat=2:=by omega);(rcases hx with hx|hx|hx<;>simp only [hx]))|(refine ua1 (by rfl) (fun ix h0 h1=> ?_);(have h2:ix.den<4:=h1);(have hx:ix.den.toNat=0∨ix.den.toNat=1∨ix.den.toNat=2∨ix.den.toNat=3:=by omega);(rcases hx with hx|hx|hx|hx<;>simp only [hx]))|(refine ua1 (by rfl) (fun ix h0 h1=> ?_);(have h2:ix.den<1:=h1);(have hx:ix.den.toNat=0:=by omega);(rcases hx with hx<;>simp only [hx]))|(refine ua1 (by rfl) (fun ix h0 h1=> ?_);(have h2:ix.den<5:=h1);(have hx:ix.den.toNat=0∨ix.den.toNat=1∨ix.den.toNat=2∨ix.den.toNat=3∨ix.den.toNat=4:=by omega);(rcases hx with hx|hx|hx|hx|hx<;>simp only [hx])))));done)
     try cbv)
  | (refine qP ?_ (kleaveX) ?hfit
     case hfit=>((repeat' (first|exact qA|exact qB|refine qC ?_ rfl ?_|refine qD ?_ ?_|exact qE (by rfl)|exact qF (by rfl)|exact Fit.refl _|(exact qO (by rfl))|(first|(refine ua1 (by rfl) (fun ix h0 h1=> ?_);(have h2:ix.den<2:=h1);(have hx:ix.den.toNat=0∨ix.den.toNat=1:=by omega);(rcases hx with hx|hx<;>simp only [hx]))|(refine ua1 (by rfl) (fun ix h0 h1=> ?_);(have h2:ix.den<3:=h1);(have hx:ix.den.toNat=0∨ix.den.toNat=1∨ix.den.toNat=2:=by omega);(rcases hx with hx|hx|hx<;>simp only [hx]))|(refine ua1 (by rfl) (fun ix h0 h1=> ?_);(have h2:ix.den<4:=h1);(have hx:ix.den.toNat=0∨ix.den.toNat=1∨ix.den.toNat=2∨ix.den.toNat=3:=by omega);(rcases hx with hx|hx|hx|hx<;>simp only [hx]))|(refine ua1 (by rfl) (fun ix h0 h1=> ?_);(have h2:ix.den<1:=h1);(have hx:ix.den.toNat=0:=by omega);(rcases hx with hx<;>simp only [hx]))|(refine ua1 (by rfl) (fun ix h0 h1=> ?_);(have h2:ix.den<5:=h1);(have hx:ix.den.toNat=0∨ix.den.toNat=1∨ix.den.toNat=2∨ix.den.toNat=3∨ix.den.toNat=4:=by omega);(rcases hx with hx|hx|hx|hx|hx<;>simp only [hx])))));done)
     try cbv)
  | (refine qP ?_ (kbelieveX) ?hfit
     case hfit=>((repeat' (first|exact qA|exact qB|refine qC ?_ rfl ?_|refine qD ?_ ?_|exact qE (by rfl)|exact qF (by rfl)|exact Fit.refl _|(exact qO (by rfl))|(first|(refine ua1 (by rfl) (fun ix h0 h1=> ?_);(have h2:ix.den<2:=h1);(have hx:ix.den.toNat=0∨ix.den.toNat=1:=by omega);(rcases hx with hx|hx<;>simp only [hx]))|(refine ua1 (by rfl) (fun ix h0 h1=> ?_);(have h2:ix.den<3:=h1);(have hx:ix.den.toNat=0∨ix.den.toNat=1∨ix.den.toNat=2:=by omega);(rcases hx with hx|hx|hx<;>simp only [hx]))|(refine ua1 (by rfl) (fun ix h0 h1=> ?_);(have h2:ix.den<4:=h1);(have hx:ix.den.toNat=0∨ix.den.toNat=1∨ix.den.toNat=2∨ix.den.toNat=3:=by omega);(rcases hx with hx|hx|hx|hx<;>simp only [hx]))|(refine ua1 (by rfl) (fun ix h0 h1=> ?_);(have h2:ix.den<1:=h1);(have hx:ix.den.toNat=0:=by omega);(rcases hx with hx<;>simp only [hx]))|(refine ua1 (by rfl) (fun ix h0 h1=> ?_);(have h2:ix.den<5:=h1);(have hx:ix.den.toNat=0∨ix.den.toNat=1∨ix.den.toNat=2∨ix.den.toNat=3∨ix.den.toNat=4:=by omega);(rcases hx with hx|hx|hx|hx|hx<;>simp only [hx])))));done)
     try cbv)
  | (refine qP ?_ (kblameX) ?hfit
     case hfit=>((repeat' (first|exact qA|exact qB|refine qC ?_ rfl ?_|refine qD ?_ ?_|exact qE (by rfl)|exact qF (by rfl)|exact Fit.refl _|(exact qO (by rfl))|(first|(refine ua1 (by rfl) (fun ix h0 h1=> ?_);(have h2:ix.den<2:=h1);(have hx:ix.den.toNat=0∨ix.den.toNat=1:=by omega);(rcases hx with hx|hx<;>simp only [hx]))|(refine ua1 (by rfl) (fun ix h0 h1=> ?_);(have h2:ix.den<3:=h1);(have hx:ix.den.toNat=0∨ix.den.toNat=1∨ix.den.toNat=2:=by omega);(rcases hx with hx|hx|hx<;>simp only [hx]))|(refine ua1 (by rfl) (fun ix h0 h1=> ?_);(have h2:ix.den<4:=h1);(have hx:ix.den.toNat=0∨ix.den.toNat=1∨ix.den.toNat=2∨ix.den.toNat=3:=by omega);(rcases hx with hx|hx|hx|hx<;>simp only [hx]))|(refine ua1 (by rfl) (fun ix h0 h1=> ?_);(have h2:ix.den<1:=h1);(have hx:ix.den.toNat=0:=by omega);(rcases hx with hx<;>simp only [hx]))|(refine ua1 (by rfl) (fun ix h0 h1=> ?_);(have h2:ix.den<5:=h1);(have hx:ix.den.toNat=0∨ix.den.toNat=1∨ix.den.toNat=2∨ix.den.toNat=3∨ix.den.toNat=4:=by omega);(rcases hx with hx|hx|hx|hx|hx<;>simp only [hx])))));done)
     try cbv)
  | (refine qP ?_ (kboundsX) ?hfit
     case hfit=>((repeat' (first|exact qA|exact qB|refine qC ?_ rfl ?_|refine qD ?_ ?_|exact qE (by rfl)|exact qF (by rfl)|exact Fit.refl _|(exact qO (by rfl))|(first|(refine ua1 (by rfl) (fun ix h0 h1=> ?_);(have h2:ix.den<2:=h1);(have hx:ix.den.toNat=0∨ix.den.toNat=1:=by omega);(rcases hx with hx|hx<;>simp only [hx]))|(refine ua1 (by rfl) (fun ix h0 h1=> ?_);(have h2:ix.den<3:=h1);(have hx:ix.den.toNat=0∨ix.den.toNat=1∨ix.den.toNat=2:=by omega);(rcases hx with hx|hx|hx<;>simp only [hx]))|(refine ua1 (by rfl) (fun ix h0 h1=> ?_);(have h2:ix.den<4:=h1);(have hx:ix.den.toNat=0∨ix.den.toNat=1∨ix.den.toNat=2∨ix.den.toNat=3:=by omega);(rcases hx with hx|hx|hx|hx<;>simp only [hx]))|(refine ua1 (by rfl) (fun ix h0 h1=> ?_);(have h2:ix.den<1:=h1);(have hx:ix.den.toNat=0:=by omega);(rcases hx with hx<;>simp only [hx]))|(refine ua1 (by rfl) (fun ix h0 h1=> ?_);(have h2:ix.den<5:=h1);(have hx:ix.den.toNat=0∨ix.den.toNat=1∨ix.den.toNat=2∨ix.den.toNat=3∨ix.den.toNat=4:=by omega);(rcases hx with hx|hx|hx|hx|hx<;>simp only [hx])))));done)
     try cbv)
  | (refine qP ?_ (kchargeX) ?hfit
     case hfit=>((repeat' (first|exact qA|exact qB|refine qC ?_ rfl ?_|refine qD ?_ ?_|exact qE (by rfl)|exact qF (by rfl)|exact Fit.refl _|(exact qO (by rfl))|(first|(refine ua1 (by rfl) (fun ix h0 h1=> ?_);(have h2:ix.den<2:=h1);(have hx:ix.den.toNat=0∨ix.den.toNat=1:=by omega);(rcases hx with hx|hx<;>simp only [hx]))|(refine ua1 (by rfl) (fun ix h0 h1=> ?_);(have h2:ix.den<3:=h1);(have hx:ix.den.toNat=0∨ix.den.toNat=1∨ix.den.toNat=2:=by omega);(rcases hx with hx|hx|hx<;>simp only [hx]))|(refine ua1 (by rfl) (fun ix h0 h1=> ?_);(have h2:ix.den<4:=h1);(have hx:ix.den.toNat=0∨ix.den.toNat=1∨ix.den.toNat=2∨ix.den.toNat=3:=by omega);(rcases hx with hx|hx|hx|hx<;>simp only [hx]))|(refine ua1 (by rfl) (fun ix h0 h1=> ?_);(have h2:ix.den<1:=h1);(have hx:ix.den.toNat=0:=by omega);(rcases hx with hx<;>simp only [hx]))|(refine ua1 (by rfl) (fun ix h0 h1=> ?_);(have h2:ix.den<5:=h1);(have hx:ix.den.toNat=0∨ix.den.toNat=1∨ix.den.toNat=2∨ix.den.toNat=3∨ix.den.toNat=4:=by omega);(rcases hx with hx|hx|hx|hx|hx<;>simp only [hx])))));done)
     try cbv)
  | (refine qP ?_ (kcosts3X) ?hfit
     case hfit=>((repeat' (first|exact qA|exact qB|refine qC ?_ rfl ?_|refine qD ?_ ?_|exact qE (by rfl)|exact qF (by rfl)|exact Fit.refl _|(exact qO (by rfl))|(first|(refine ua1 (by rfl) (fun ix h0 h1=> ?_);(have h2:ix.den<2:=h1);(have hx:ix.den.toNat=0∨ix.den.toNat=1:=by omega);(rcases hx with hx|hx<;>simp only [hx]))|(refine ua1 (by rfl) (fun ix h0 h1=> ?_);(have h2:ix.den<3:=h1);(have hx:ix.den.toNat=0∨ix.den.toNat=1∨ix.den.toNat=2:=by omega);(rcases hx with hx|hx|hx<;>simp only [hx]))|(refine ua1 (by rfl) (fun ix h0 h1=> ?_);(have h2:ix.den<4:=h1);(have hx:ix.den.toNat=0∨ix.den.toNat=1∨ix.den.toNat=2∨ix.den.toNat=3:=by omega);(rcases hx with hx|hx|hx|hx<;>simp only [hx]))|(refine ua1 (by rfl) (fun ix h0 h1=> ?_);(have h2:ix.den<1:=h1);(have hx:ix.den.toNat=0:=by omega);(rcases hx with hx<;>simp only [hx]))|(refine ua1 (by rfl) (fun ix h0 h1=> ?_);(have h2:ix.den<5:=h1);(have hx:ix.den.toNat=0∨ix.den.toNat=1∨ix.den.toNat=2∨ix.den.toNat=3∨ix.den.toNat=4:=by omega);(rcases hx with hx|hx|hx|hx|hx<;>simp only [hx])))));done)
     try cbv)
  | (refine qP ?_ (kcosts2X) ?hfit
     case hfit=>((repeat' (first|exact qA|exact qB|refine qC ?_ rfl ?_|refine qD ?_ ?_|exact qE (by rfl)|exact qF (by rfl)|exact Fit.refl _|(exact qO (by rfl))|(first|(refine ua1 (by rfl) (fun ix h0 h1=> ?_);(have h2:ix.den<2:=h1);(have hx:ix.den.toNat=0∨ix.den.toNat=1:=by omega);(rcases hx with hx|hx<;>simp only [hx]))|(refine ua1 (by rfl) (fun ix h0 h1=> ?_);(have h2:ix.den<3:=h1);(have hx:ix.den.toNat=0∨ix.den.toNat=1∨ix.den.toNat=2:=by omega);(rcases hx with hx|hx|hx<;>simp only [hx]))|(refine ua1 (by rfl) (fun ix h0 h1=> ?_);(have h2:ix.den<4:=h1);(have hx:ix.den.toNat=0∨ix.den.toNat=1∨ix.den.toNat=2∨ix.den.toNat=3:=by omega);(rcases hx with hx|hx|hx|hx<;>simp only [hx]))|(refine ua1 (by rfl) (fun ix h0 h1=> ?_);(have h2:ix.den<1:=h1);(have hx:ix.den.toNat=0:=by omega);(rcases hx with hx<;>simp only [hx]))|(refine ua1 (by rfl) (fun ix h0 h1=> ?_);(have h2:ix.den<5:=h1);(have hx:ix.den.toNat=0∨ix.den.toNat=1∨ix.den.toNat=2∨ix.den.toNat=3∨ix.den.toNat=4:=by omega);(rcases hx with hx|hx|hx|hx|hx<;>simp only [hx])))));done)
     try cbv)
  | (refine qP ?_ (kintsXb) ?hfit
     case hfit=>((repeat' (first|exact qA|exact qB|refine qC ?_ rfl ?_|refine qD ?_ ?_|exact qE (by rfl)|exact qF (by rfl)|exact Fit.refl _|(exact qO (by rfl))|(first|(refine ua1 (by rfl) (fun ix h0 h1=> ?_);(have h2:ix.den<2:=h1);(have hx:ix.den.toNat=0∨ix.den.toNat=1:=by omega);(rcases hx with hx|hx<;>simp only [hx]))|(refine ua1 (by rfl) (fun ix h0 h1=> ?_);(have h2:ix.den<3:=h1);(have hx:ix.den.toNat=0∨ix.den.toNat=1∨ix.den.toNat=2:=by omega);(rcases hx with hx|hx|hx<;>simp only [hx]))|(refine ua1 (by rfl) (fun ix h0 h1=> ?_);(have h2:ix.den<4:=h1);(have hx:ix.den.toNat=0∨ix.den.toNat=1∨ix.den.toNat=2∨ix.den.toNat=3:=by omega);(rcases hx with hx|hx|hx|hx<;>simp only [hx]))|(refine ua1 (by rfl) (fun ix h0 h1=> ?_);(have h2:ix.den<1:=h1);(have hx:ix.den.toNat=0:=by omega);(rcases hx with hx<;>simp only [hx]))|(refine ua1 (by rfl) (fun ix h0 h1=> ?_);(have h2:ix.den<5:=h1);(have hx:ix.den.toNat=0∨ix.den.toNat=1∨ix.den.toNat=2∨ix.den.toNat=3∨ix.den.toNat=4:=by omega);(rcases hx with hx|hx|hx|hx|hx<;>simp only [hx])))));done)
     try cbv)
  | (refine qP ?_ (kintsXc) ?hfit
     case hfit=>((repeat' (first|exact qA|exact qB|refine qC ?_ rfl ?_|refine qD ?_ ?_|exact qE (by rfl)|exact qF (by rfl)|exact Fit.refl _|(exact qO (by rfl))|(first|(refine ua1 (by rfl) (fun ix h0 h1=> ?_);(have h2:ix.den<2:=h1);(have hx:ix.den.toNat=0∨ix.den.toNat=1:=by omega);(rcases hx with hx|hx<;>simp only [hx]))|(refine ua1 (by rfl) (fun ix h0 h1=> ?_);(have h2:ix.den<3:=h1);(have hx:ix.den.toNat=0∨ix.den.toNat=1∨ix.den.toNat=2:=by omega);(rcases hx with hx|hx|hx<;>simp only [hx]))|(refine ua1 (by rfl) (fun ix h0 h1=> ?_);(have h2:ix.den<4:=h1);(have hx:ix.den.toNat=0∨ix.den.toNat=1∨ix.den.toNat=2∨ix.den.toNat=3:=by omega);(rcases hx with hx|hx|hx|hx<;>simp only [hx]))|(refine ua1 (by rfl) (fun ix h0 h1=> ?_);(have h2:ix.den<1:=h1);(have hx:ix.den.toNat=0:=by omega);(rcases hx with hx<;>simp only [hx]))|(refine ua1 (by rfl) (fun ix h0 h1=> ?_);(have h2:ix.den<5:=h1);(have hx:ix.den.toNat=0∨ix.den.toNat=1∨ix.den.toNat=2∨ix.den.toNat=3∨ix.den.toNat=4:=by omega);(rcases hx with hx|hx|hx|hx|hx<;>simp only [hx])))));done)
     try cbv)
  | (refine⟨none,?_⟩
     refine qR ?_ (kintsXa) rfl ?hfit
     case hfit=>(cbv;(repeat' (first|exact qA|exact qB|refine qC ?_ rfl ?_|refine qD ?_ ?_|exact qE (by rfl)|exact qF (by rfl)|exact Fit.refl _|(exact qO (by rfl))|(first|(refine ua1 (by rfl) (fun ix h0 h1=> ?_);(have h2:ix.den<2:=h1);(have hx:ix.den.toNat=0∨ix.den.toNat=1:=by omega);(rcases hx with hx|hx<;>simp only [hx]))|(refine ua1 (by rfl) (fun ix h0 h1=> ?_);(have h2:ix.den<3:=h1);(have hx:ix.den.toNat=0∨ix.den.toNat=1∨ix.den.toNat=2:=by omega);(rcases hx with hx|hx|hx<;>simp only [hx]))|(refine ua1 (by rfl) (fun ix h0 h1=> ?_);(have h2:ix.den<4:=h1);(have hx:ix.den.toNat=0∨ix.den.toNat=1∨ix.den.toNat=2∨ix.den.toNat=3:=by omega);(rcases hx with hx|hx|hx|hx<;>simp only [hx]))|(refine ua1 (by rfl) (fun ix h0 h1=> ?_);(have h2:ix.den<1:=h1);(have hx:ix.den.toNat=0:=by omega);(rcases hx with hx<;>simp only [hx]))|(refine ua1 (by rfl) (fun ix h0 h1=> ?_);(have h2:ix.den<5:=h1);(have hx:ix.den.toNat=0∨ix.den.toNat=1∨ix.den.toNat=2∨ix.den.toNat=3∨ix.den.toNat=4:=by omega);(rcases hx with hx|hx|hx|hx|hx<;>simp only [hx])))));done)
     try cbv)
  |fail)
 all_goals first
  |trivial
  |(subst hR;(repeat' (first|exact qA|exact qB|refine qC ?_ rfl ?_|refine qD ?_ ?_|exact qE (by rfl)|exact qF (by rfl)|exact Fit.refl _|exact qG _|(refine qE ?_;(try simp only [qV]at *);simp only [zQ,zA,zB,zC,zD,zE,zF,zG,zH,zI,zJ,zK,zL,zM,zN,zO,zP,zR,zS]at *;omega)));done)
  |skip
end Go.Proofs.YtkdggbfknlcdaaaGreat
namespace Go.Proofs.YtkdggbfknlcdaaaGreat
open Go Go.Eng Go.Proofs
set_option maxRecDepth 10000
theorem usI (tw tm:List Int)(tv:List (List Int))(hT:ThinT tw tm tv):ua0 Tryz.prog 43 [(.agg [(iS tw),(iS tm),(.sl 1 (.sym fun _=>zi (tv).length) (fun ix=>[(.sl 1 (.sym fun _=>zi ((tv).getD ix.den.toNat []).length) (fun jx=>[(iv fun _=>((tv).getD ix.den.toNat []).getD jx.den.toNat 0)]))]))])] [] (fun r _=>r=(.agg [(iS tw),(iS tm),(.sl 1 (.sym fun _=>zi (tv).length) (fun ix=>[(.sl 1 (.sym fun _=>zi ((tv).getD ix.den.toNat []).length) (fun jx=>[(iv fun _=>((tv).getD ix.den.toNat []).getD jx.den.toNat 0)]))]))])):=by
 have c87w:=upH tw (by have:=hT.w;omega)
 have c87m:=upH tm (by have:=hT.m;omega)
 have c87r:=fun (i:Nat) (hi:i<tv.length)=>upH (tv.getD i []) (by have:=hT.r i hi;omega)
 refine ua0.is fun R hR=>qW (sc:=sc43) tyok mix Tryz.func43 rfl Tryz.call43 (by kernel_rfl) (by kernel_rfl) ?_
 generalize Tryz.prog=P at c87w c87m c87r⊢
 cbv
 repeat' (first
  | (refine qP ?_ (c87w) ?hfit
     case hfit=>((repeat' (first|exact qB|refine qD ?_ ?_|exact qE (by rfl)|exact qF (by rfl)|exact Fit.refl _|exact qA|refine qC ?_ rfl ?_));done)
     try cbv)
  | (refine qP ?_ (c87m) ?hfit
     case hfit=>((repeat' (first|exact qB|refine qD ?_ ?_|exact qE (by rfl)|exact qF (by rfl)|exact Fit.refl _|exact qA|refine qC ?_ rfl ?_));done)
     try cbv)
  |fail)
 all_goals first
  |skip
 refine⟨none,[⟨.cell 9 2,22,1⟩],{i:Nat // i≤tv.length},fun x=>⟨[(1,.own 0 0),(2,.own 1 0),(3,.own 9 0),(4,(iv fun _=>zi x.1))],[(0,.cells [(iS tw),(iS tm),(.sl 1 (.sym fun _=>zi (tv).length) (fun ix=>[(.sl 1 (.sym fun _=>zi ((tv).getD ix.den.toNat []).length) (fun jx=>[(iv fun _=>((tv).getD ix.den.toNat []).getD jx.den.toNat 0)]))]))] 25),(1,.cells [.val (.slice none 0 0),.val (.slice none 0 0),.val (.slice none 0 0)] 35),(9,.cells [(iS tw),(iS tm),.row 12] 35),(12,.row 22 1 (.sym fun _=>zi x.1) (fun ix=>[(.sl 1 (.sym fun _=>zi (tv.getD ix.den.toNat []).length) (fun jx=>[(iv fun _=>(tv.getD ix.den.toNat []).getD jx.den.toNat 0)]))]))],60⟩,fun x=>tv.length-x.1,?_,?_⟩
 ·refine⟨⟨0,by omega⟩,?_⟩
  cbv
  repeat' (first
   |with_reducible refine hold ?_ ?_
   |with_reducible refine And.intro ?_ ?_)
  all_goals first
   |trivial
   |exact qM (qE (by rfl))
   |exact qM (Fit.refl _)
   |exact qL (qK _)
   |(refine qL (uab ?_ ?_);(first|rfl|((try simp only [qV]at *);(try simp only [zQ,zA,zB,zC,zD,zE,zF,zG,zH,zI,zJ,zK,zL,zM,zN,zO,zP,zR,zS]at *);omega));intro ix h0 h1;first|exact Fit.refl _|(exfalso;(try simp only [qV]at *);(try simp only [zQ,zA,zB,zC,zD,zE,zF,zG,zH,zI,zJ,zK,zL,zM,zN,zO,zP,zR,zS]at *);omega))
   |skip
 ·rintro ⟨i,hi⟩
  cbv
  have tv8:=hT.v
  repeat' (first
   |with_reducible refine hold ?_ ?_
   |with_reducible refine And.intro ?_ ?_
   |(with_reducible intro hcd;(try simp only [zA,zB,zC,zD,zE,zF,zG,zH,zI,zJ,zK,zL,zM,zN,zO,zP]at hcd);try cbv)
   | (refine qP ?_ (c87r i (show Hold _ from ?_)) ?hfit
      case hfit=>((repeat' (first|exact qB|refine qD ?_ ?_|exact qE (by rfl)|exact qF (by rfl)|exact Fit.refl _|exact qA|refine qC ?_ rfl ?_));done)
      try cbv)
   | (refine⟨fun ix=>[(.sl 1 (.sym fun _=>zi (tv.getD ix.den.toNat []).length) (fun jx=>[(iv fun _=>(tv.getD ix.den.toNat []).getD jx.den.toNat 0)]))],?_⟩
      cbv
      refine hold (ubo (by intro ix jx h0 h1 h2;simp only [h2];exact Fit.refl _) (by intro ix jx h0 h1 h2;(have h3:jx.den.toNat=i:=by((try simp only [qV]at *);(try simp only [zQ,zA,zB,zC,zD,zE,zF,zG,zH,zI,zJ,zK,zL,zM,zN,zO,zP,zR,zS]at *);omega));simp only [h3];(first|exact Fit.refl _|(repeat' (first|exact qA|exact Fit.refl _|exact qE (by rfl)|refine qC ?_ rfl ?_)))) (by(try simp only [qV]at *);(try simp only [zQ,zA,zB,zC,zD,zE,zF,zG,zH,zI,zJ,zK,zL,zM,zN,zO,zP,zR,zS]at *);omega)) (Or.inl ?_)
      try cbv)
   |fail)
  all_goals first
   |((try simp only [qV]at *);(try simp only [zQ,zA,zB,zC,zD,zE,zF,zG,zH,zI,zJ,zK,zL,zM,zN,zO,zP,zR,zS]at *);first|(refine qN ?_;omega)|(simp only [Hold];omega))
   |(subst hR;(have hie:i=tv.length:=by((try simp only [qV]at *);(try simp only [zQ,zA,zB,zC,zD,zE,zF,zG,zH,zI,zJ,zK,zL,zM,zN,zO,zP,zR,zS]at *);omega));subst hie;(repeat' (first|exact qA|exact Fit.refl _|exact qE (by rfl)|refine qC ?_ rfl ?_));done;done)
   |((try simp only [zQ,zA,zB,zC,zD,zE,zF,zG,zH,zI,zJ,zK,zL,zM,zN,zO,zP,zR,zS]at *);refine⟨⟨i+1,by omega⟩,by simp only [];omega,?_⟩;cbv;(repeat' (first|with_reducible refine hold ?_ ?_|with_reducible refine And.intro ?_ ?_));(all_goals first|trivial|exact qM (qE (by rfl))|exact qM (qF (by rfl))|exact qM (Fit.refl _)|exact qL (qK _)|(refine qM (qE ?_);(try simp only [qV]at *);simp only [zQ,zA,zB,zC,zD,zE,zF,zG,zH,zI,zJ,zK,zL,zM,zN,zO,zP,zR,zS]at *;omega)|(refine qL (uab ?_ ?_);(first|rfl|((try simp only [qV]at *);(try simp only [zQ,zA,zB,zC,zD,zE,zF,zG,zH,zI,zJ,zK,zL,zM,zN,zO,zP,zR,zS]at *);omega));intro ix h0 h1;first|exact Fit.refl _|(exfalso;(try simp only [qV]at *);(try simp only [zQ,zA,zB,zC,zD,zE,zF,zG,zH,zI,zJ,zK,zL,zM,zN,zO,zP,zR,zS]at *);omega))|skip))
   |skip
theorem uoD {l:List Int} {most:Int}(h:ucb l most=true) {i j:Nat}(hij:i≤j)(hj:j<l.length):l.getD i 0≤l.getD j 0:=by
 by_cases e:i=j
 ·subst e;exact Int.le_refl _
 ·exact Int.le_of_lt (ufT h (by omega) hj)
theorem uo2 {n q:Int}(hq:0<q)(hn:0≤n):(2*n+q)/(2*q)=if q≤2*(n-n/q*q)then n/q+1 else n/q:=by
 have h1:=Int.emod_add_mul_ediv n q
 have h2:=Int.emod_nonneg n (show q≠0 by omega)
 have h3:=Int.emod_lt_of_pos n hq
 have e:n-n/q*q=n%q:=by rw [Int.mul_comm];omega
 rw [e]
 have key:∀k r:Int,n=q*k+r→0≤r→r<q→(2*n+q)/(2*q)=if q≤2*r then k+1 else k:=fun k r hk h0 hr=>by
  split
  ·rename_i hle
   have:2*n+q=(2*r-q)+(k+1)*(2*q):=by
    have h5:(k+1)*(2*q)=2*(q*k)+2*q:=by rw [Int.add_mul,Int.one_mul,Int.mul_left_comm,Int.mul_comm k q]
    omega
   rw [this,Int.add_mul_ediv_right _ _ (by omega),Int.ediv_eq_zero_of_lt (by omega) (by omega)]
   omega
  ·rename_i hle
   have:2*n+q=(2*r+q)+k*(2*q):=by
    have h5:k*(2*q)=2*(q*k):=by rw [Int.mul_left_comm,Int.mul_comm k q]
    omega
   rw [this,Int.add_mul_ediv_right _ _ (by omega),Int.ediv_eq_zero_of_lt (by omega) (by omega)]
   omega
 exact key (n/q) (n%q) (by omega) h2 h3
theorem IsB.unique {f:Int→Int→Int} {wl wh ml mh lo hi lo' hi':Int}(h:IsB f wl wh ml mh lo hi)(h':IsB f wl wh ml mh lo' hi'):lo=lo'∧hi=hi':=by
 obtain⟨w1,m1,a1,a2,a3,a4,a5⟩:=h.lo
 obtain⟨w2,m2,b1,b2,b3,b4,b5⟩:=h'.lo
 obtain⟨w3,m3,c1,c2,c3,c4,c5⟩:=h.hi
 obtain⟨w4,m4,d1,d2,d3,d4,d5⟩:=h'.hi
 have q1:=h.le w2 m2 b1 b2 b3 b4
 have q2:=h'.le w1 m1 a1 a2 a3 a4
 have q3:=h.le w4 m4 d1 d2 d3 d4
 have q4:=h'.le w3 m3 c1 c2 c3 c4
 omega
theorem ug5 {l:List Int} {most n:Int}(hr:ucb l most=true) {i j:Nat}(hi:InCell l n i)(hj:InCell l n j):i=j:=by
 have key:∀{i j:Nat},InCell l n i→InCell l n j→¬i<j:=fun {i j} hi hj hlt=>by
  have h1:=hi.hi
  have h2:=hj.lt
  have h3:=hj.lo
  have:=uoD hr (i:=i+1) (j:=j) (by omega) (by omega)
  rcases h1 with h1|h1<;>omega
 have a:=key hi hj
 have b:=key hj hi
 omega
set_option maxHeartbeats 1000000 in
theorem at95 (tw tm:List Int)(tv:List (List Int))(w m:Int)(h:TOk tw tm tv∧Pt tw tm w m):ua0 Tryz.prog 69 [(.agg [(iS tw),(iS tm),(.sl 1 (.sym fun _=>zi (tv).length) (fun ix=>[(.sl 1 (.sym fun _=>zi ((tv).getD ix.den.toNat []).length) (fun jx=>[(iv fun _=>((tv).getD ix.den.toNat []).getD jx.den.toNat 0)]))]))]),(iv fun _=>w),(iv fun _=>m)] [] (fun r _=>r=(iv fun _=>atS tw tm tv w m)):=by
 obtain⟨h,hp⟩:=h
 have d1:=h.w5;have d2:=h.m5;have d3:=h.w2;have d4:=h.m2
 have e:=h.len
 have q0:=hp.w0;have q1:=hp.w1;have q2:=hp.m0;have q3:=hp.m1
 refine ua0.is fun R hR=>qW (sc:=sc69) tyok mix Tryz.func69 rfl Tryz.call69 (by kernel_rfl) (by kernel_rfl) ?_
 generalize Tryz.prog=P
 cbv
 repeat' (first
  |with_reducible refine hold ?_ ?_
  |(with_reducible intro hcd;(try simp only [ua9,zA,zB,zC,zD,zE,zF,zG,zH,zI,zJ,zK,zL,zM,zN,zO,zP]at hcd);try cbv))
 all_goals first
  |((try simp only [ua9,zA,zB,zC,zD,zE,zF,zG,zH,zI,zJ,zK,zL,zM,zN,zO,zP]at⊢);first|(refine qN ?_;omega)|(simp only [Hold];omega))
  |skip
 refine⟨none,[],{i:Nat // i+2≤tw.length∧(i+2=tw.length∨w<tw.getD (i+1) 0)},fun x=>⟨[(3,.own 0 0),(1,(iv fun _=>w)),(2,(iv fun _=>m)),(7,(iv fun _=>zi x.1)),(8,(iv fun _=>zi (tm.length-2)))],[(0,.cells [(iS tw),(iS tm),(.sl 1 (.sym fun _=>zi (tv).length) (fun ix=>[(.sl 1 (.sym fun _=>zi ((tv).getD ix.den.toNat []).length) (fun jx=>[(iv fun _=>((tv).getD ix.den.toNat []).getD jx.den.toNat 0)]))]))] 25)],12⟩,fun x=>x.1,?_,?_⟩
 ·obtain⟨i0,ei0⟩:∃i0,i0=tw.length-2:=⟨_,rfl⟩
  refine⟨⟨i0,by omega,by omega⟩,?_⟩
  cbv
  repeat' (first
   |with_reducible refine hold ?_ ?_
   |with_reducible refine And.intro ?_ ?_)
  all_goals first
   |trivial
   |exact qM (qE (by rfl))
   |exact qM (Fit.refl _)
   |exact qL (qK _)
   |(refine qM (qE ?_);simp only [ua9,zA,zB,zC,zD,zE,zF,zG,zH,zI,zJ,zK,zL,zM,zN,zO,zP];omega)
   |skip
 ·rintro ⟨i, hi1,hi2⟩
  cbv
  have ei:(i:Int).toNat=i:=by omega
  repeat' (first
   |with_reducible refine hold ?_ ?_
   |with_reducible refine And.intro ?_ ?_
   |(with_reducible intro hcd;(try simp only [ua9,zA,zB,zC,zD,zE,zF,zG,zH,zI,zJ,zK,zL,zM,zN,zO,zP,ei]at hcd);try cbv))
  all_goals first
   |((try simp only [ua9,zA,zB,zC,zD,zE,zF,zG,zH,zI,zJ,zK,zL,zM,zN,zO,zP,ei]at⊢);first|(refine qN ?_;omega)|(simp only [Hold];omega))
   |(have ip:w<tw.getD i 0→0<i:=(fun q=>Nat.pos_of_ne_zero fun q2=>by rw [q2]at q;omega);obtain⟨i1,ei1⟩:∃i1,i1=i-1:=⟨_,rfl⟩;refine⟨⟨i1,by have:=ip (by omega);refine⟨by omega,.inr ?_⟩;rw [show i1+1=i by omega];assumption⟩,by have:=ip (by omega);simp only [];omega,?_⟩;cbv;(repeat' (first|with_reducible refine hold ?_ ?_|with_reducible refine And.intro ?_ ?_));(all_goals first|trivial|exact qM (qE (by rfl))|exact qM (qF (by rfl))|exact qM (Fit.refl _)|exact qL (qK _)|(refine qM (qE ?_);simp only [ua9,zA,zB,zC,zD,zE,zF,zG,zH,zI,zJ,zK,zL,zM,zN,zO,zP];omega)|(refine qM (qE ?_);simp only [ua9,zA,zB,zC,zD,zE,zF,zG,zH,zI,zJ,zK,zL,zM,zN,zO,zP];have:=ip (by omega);omega)|skip))
   |skip
  have hi0:tw.getD i 0≤w:=by omega
  refine⟨none,[],{k:Nat // k+2≤tm.length∧(k+2=tm.length∨m<tm.getD (k+1) 0)},fun x=>⟨[(3,.own 0 0),(1,(iv fun _=>w)),(2,(iv fun _=>m)),(7,(iv fun _=>zi i)),(8,(iv fun _=>zi x.1))],[(0,.cells [(iS tw),(iS tm),(.sl 1 (.sym fun _=>zi (tv).length) (fun ix=>[(.sl 1 (.sym fun _=>zi ((tv).getD ix.den.toNat []).length) (fun jx=>[(iv fun _=>((tv).getD ix.den.toNat []).getD jx.den.toNat 0)]))]))] 25)],20⟩,fun x=>x.1,?_,?_⟩
  ·obtain⟨k0,ek0⟩:∃k0,k0=tm.length-2:=⟨_,rfl⟩
   refine⟨⟨k0,by omega,by omega⟩,?_⟩
   cbv
   repeat' (first
    |with_reducible refine hold ?_ ?_
    |with_reducible refine And.intro ?_ ?_)
   all_goals first
    |trivial
    |exact qM (qE (by rfl))
    |exact qM (Fit.refl _)
    |exact qL (qK _)
    |(refine qM (qE ?_);simp only [ua9,zA,zB,zC,zD,zE,zF,zG,zH,zI,zJ,zK,zL,zM,zN,zO,zP];omega)
    |skip
  ·rintro ⟨k,hk1,hk2⟩
   cbv
   have ek:(k:Int).toNat=k:=by omega
   by_cases hx:m<tm.getD k 0
   ·skip
    repeat' (first
     |with_reducible refine hold ?_ ?_
     |with_reducible refine And.intro ?_ ?_
     | (with_reducible refine qS ?_ ?_ ?_
        try cbv)
     |(with_reducible intro hcd;(try simp only [ua9,zA,zB,zC,zD,zE,zF,zG,zH,zI,zJ,zK,zL,zM,zN,zO,zP,ek]at hcd);try cbv))
    all_goals first
     |trivial
     |((try simp only [ua9,zA,zB,zC,zD,zE,zF,zG,zH,zI,zJ,zK,zL,zM,zN,zO,zP,ek]at⊢);first|(refine qN ?_;omega)|(simp only [Hold];omega))
     |(have kp:m<tm.getD k 0→0<k:=(fun q=>Nat.pos_of_ne_zero fun q2=>by rw [q2]at q;omega);obtain⟨k1,ek1⟩:∃k1,k1=k-1:=⟨_,rfl⟩;refine⟨⟨k1,by have:=kp (by omega);refine⟨by omega,.inr ?_⟩;rw [show k1+1=k by omega];assumption⟩,by have:=kp (by omega);simp only [];omega,?_⟩;cbv;(repeat' (first|with_reducible refine hold ?_ ?_|with_reducible refine And.intro ?_ ?_));(all_goals first|trivial|exact qM (qE (by rfl))|exact qM (qF (by rfl))|exact qM (Fit.refl _)|exact qL (qK _)|(refine qM (qE ?_);simp only [ua9,zA,zB,zC,zD,zE,zF,zG,zH,zI,zJ,zK,zL,zM,zN,zO,zP];omega)|(refine qM (qE ?_);simp only [ua9,zA,zB,zC,zD,zE,zF,zG,zH,zI,zJ,zK,zL,zM,zN,zO,zP];have:=kp (by omega);omega)|skip))
     |skip
   ·skip
    have ei1:((i:Int)+1).toNat=i+1:=by omega
    have ek1:((k:Int)+1).toNat=k+1:=by omega
    have hci:InCell tw w i:=⟨hi1,hi0,hi2⟩
    have hck:InCell tm m k:=⟨hk1,by omega,hk2⟩
    have hii:=ug5 h.rw hci (ubR d3 q0)
    have hkk:=ug5 h.rm hck (ubR d4 q2)
    have a1:=uao h.rw i (by omega)
    have a2:=uao h.rw (i+1) (by omega)
    have a3:=uao h.rm k (by omega)
    have a4:=uao h.rm (k+1) (by omega)
    simp only [ubd,Nat.add_sub_cancel]at a1 a2 a3 a4
    have r1:=h.row i (by omega)
    have r2:=h.row (i+1) (by omega)
    have v1:=h.val i (by omega) k (by omega)
    have v2:=h.val (i+1) (by omega) k (by omega)
    have v3:=h.val i (by omega) (k+1) (by omega)
    have v4:=h.val (i+1) (by omega) (k+1) (by omega)
    have b1:=hci.le_hi q1
    have b2:=hck.le_hi q3
    have c1:=hci.lo
    have c2:=hck.lo
    have hat:atS tw tm tv w m=atI tw tm tv w m i k:=by rw [atS,←hii,←hkk]
    obtain⟨l1,hl1⟩:∃l1,(tv.getD i []).length=l1:=⟨_,rfl⟩
    obtain⟨l2,hl2⟩:∃l2,(tv.getD (i+1) []).length=l2:=⟨_,rfl⟩
    obtain⟨a,ha⟩:∃a,tw.getD i 0=a:=⟨_,rfl⟩
    obtain⟨b,hb⟩:∃b,tw.getD (i+1) 0=b:=⟨_,rfl⟩
    obtain⟨c,hc⟩:∃c,tm.getD k 0=c:=⟨_,rfl⟩
    obtain⟨d,hd⟩:∃d,tm.getD (k+1) 0=d:=⟨_,rfl⟩
    obtain⟨v00,h00⟩:∃v,(tv.getD i []).getD k 0=v:=⟨_,rfl⟩
    obtain⟨v10,h10⟩:∃v,(tv.getD (i+1) []).getD k 0=v:=⟨_,rfl⟩
    obtain⟨v01,h01⟩:∃v,(tv.getD i []).getD (k+1) 0=v:=⟨_,rfl⟩
    obtain⟨v11,h11⟩:∃v,(tv.getD (i+1) []).getD (k+1) 0=v:=⟨_,rfl⟩
    rw [atI,ha,hb,hc,hd,h00,h10,h01,h11]at hat
    rw [hl1]at r1
    rw [hl2]at r2
    rw [ha]at a1 a2 c1
    rw [hb]at a2 b1
    rw [hc]at a3 a4 c2
    rw [hd]at a4 b2
    rw [h00]at v1
    rw [h10]at v2
    rw [h01]at v3
    rw [h11]at v4
    have s1:=ubN (x:=v00) (y:=b-w) 2000 40 v1 (by omega)
    have s2:=ubN (x:=v10) (y:=w-a) 2000 40 v2 (by omega)
    have s3:=ubN (x:=v01) (y:=b-w) 2000 40 v3 (by omega)
    have s4:=ubN (x:=v11) (y:=w-a) 2000 40 v4 (by omega)
    have t1:=ubN (x:=v00*(b-w)) (y:=d-m) 80000 60 s1 (by omega)
    have t2:=ubN (x:=v10*(w-a)) (y:=d-m) 80000 60 s2 (by omega)
    have t3:=ubN (x:=v01*(b-w)) (y:=m-c) 80000 60 s3 (by omega)
    have t4:=ubN (x:=v11*(w-a)) (y:=m-c) 80000 60 s4 (by omega)
    have u1:=ubN (x:=b-w+(w-a)) (y:=d-m+(m-c)) 40 60 (by omega) (by omega)
    have u2:1≤(b-w+(w-a))*(d-m+(m-c)):=Int.mul_pos (by omega) (by omega)
    obtain⟨q,hq⟩:∃q,(b-w+(w-a))*(d-m+(m-c))=q:=⟨_,rfl⟩
    obtain⟨n,hn⟩:∃n,v00*(b-w)*(d-m)+v10*(w-a)*(d-m)+v01*(b-w)*(m-c)+v11*(w-a)*(m-c)=n:=⟨_,rfl⟩
    rw [hq]at u1 u2
    have hn0:0≤n∧n≤20000000:=by omega
    have ht:n.tdiv q=n/q:=Int.tdiv_eq_ediv_of_nonneg hn0.1
    have hd0:0≤n/q:=Int.ediv_nonneg hn0.1 (by omega)
    have hd1:n/q*q≤n:=Int.ediv_mul_le n (by omega)
    have hd2:n/q≤n:=Int.ediv_le_self q hn0.1
    have hd3:0≤n/q*q:=Int.mul_nonneg hd0 (by omega)
    have hat2:atS tw tm tv w m=if q≤2*(n-n/q*q)then n/q+1 else n/q:=by
     rw [hat,unT,usr,hn,←uo2 (by omega) hn0.1]
     have e1:(b-a)*(d-c)=q:=by rw [←hq];congr 1<;>omega
     rw [Int.mul_assoc,e1,Int.tdiv_eq_ediv_of_nonneg (by omega)]
    repeat' (first
     |with_reducible refine hold ?_ ?_
     |with_reducible refine And.intro ?_ ?_
     | (with_reducible refine qS ?_ ?_ ?_
        try cbv)
     |(with_reducible intro hcd;(try simp only [ua9,zA,zB,zC,zD,zE,zF,zG,zH,zI,zJ,zK,zL,zM,zN,zO,zP,ei,ek,ei1,ek1,hl1,hl2,ha,hb,hc,hd,h00,h10,h01,h11,hq,hn,ht]at hcd);try cbv))
    all_goals first
     |((try simp only [ua9,zA,zB,zC,zD,zE,zF,zG,zH,zI,zJ,zK,zL,zM,zN,zO,zP,ei,ek,ei1,ek1,hl1,hl2,ha,hb,hc,hd,h00,h10,h01,h11,hq,hn,ht]at⊢);first|(refine qN ?_;omega)|(simp only [Hold];omega))
     |(exfalso;omega)
     |(subst hR;refine qE ?_;simp only [ua9,zA,zB,zC,zD,zE,zF,zG,zH,zI,zJ,zK,zL,zM,zN,zO,zP,ei,ek,ei1,ek1,hl1,hl2,ha,hb,hc,hd,h00,h10,h01,h11,hq,hn,ht];rw [hat2];split<;>omega)
     |skip
def Seen (wl ml mh:Int)(i j:Nat)(w m:Int):Prop:=ml≤m∧m≤mh∧((wl≤w∧w<wl+i)∨(w=wl+i∧m<ml+j))
structure Scan (f:Int→Int→Int)(wl ml mh:Int)(i j:Nat)(lo hi:Int):Prop where
 le:∀w m,Seen wl ml mh i j w m→lo≤f w m∧f w m≤hi
 hit:(lo=9999∧hi = -1∧∀w m,¬Seen wl ml mh i j w m)∨((∃w m,Seen wl ml mh i j w m∧lo=f w m)∧∃w m,Seen wl ml mh i j w m∧hi=f w m)
theorem uwf (f:Int→Int→Int)(wl ml mh:Int):Scan f wl ml mh 0 0 9999 (-1):=by
 have h:∀w m,¬Seen wl ml mh 0 0 w m:=fun w m h=>by unfold Seen at h;omega
 exact⟨fun w m s=>absurd s (h w m),.inl ⟨rfl,rfl,h⟩⟩
theorem unN {f:Int→Int→Int} {wl ml mh:Int} {i j:Nat} {lo hi:Int}(h:Scan f wl ml mh i j lo hi)(hm:ml+j≤mh)(hf:0≤f (wl+i) (ml+j)∧f (wl+i) (ml+j)≤2000):
 Scan f wl ml mh i (j+1) (if f (wl+i) (ml+j)<lo then f (wl+i) (ml+j)else lo) (if f (wl+i) (ml+j)>hi then f (wl+i) (ml+j)else hi):=by
 have hs:∀w m,Seen wl ml mh i (j+1) w m↔Seen wl ml mh i j w m∨(w=wl+i∧m=ml+j):=fun w m=>by unfold Seen;omega
 refine⟨fun w m s=> ?_,.inr ?_⟩
 ·rcases(hs w m).1 s with s|⟨rfl,rfl⟩
  ·have:=h.le w m s
   split<;>split<;>omega
  ·split<;>split<;>omega
 ·have hn:Seen wl ml mh i (j+1) (wl+i) (ml+j):=(hs _ _).2 (.inr ⟨rfl,rfl⟩)
  rcases h.hit with⟨rfl,rfl,_⟩|⟨⟨w,m,s,e⟩,w',m',s',e'⟩
  ·rw [if_pos (by omega),if_pos (by omega)]
   exact⟨⟨_,_,hn,rfl⟩,_,_,hn,rfl⟩
  ·refine⟨?_,?_⟩
   ·split
    ·exact⟨_,_,hn,rfl⟩
    ·exact⟨w,m,(hs _ _).2 (.inl s),e⟩
   ·split
    ·exact⟨_,_,hn,rfl⟩
    ·exact⟨w',m',(hs _ _).2 (.inl s'),e'⟩
theorem Scan.congr {f:Int→Int→Int} {wl ml mh:Int} {i j i' j':Nat} {lo hi:Int}(h:Scan f wl ml mh i j lo hi)(hs:∀w m,Seen wl ml mh i j w m↔Seen wl ml mh i' j' w m):Scan f wl ml mh i' j' lo hi:=
 ⟨fun w m s=>h.le w m ((hs w m).2 s),h.hit.imp (fun q=>⟨q.1,q.2.1,fun w m s=>q.2.2 w m ((hs w m).2 s)⟩) fun q=>⟨let ⟨w,m,s,e⟩:=q.1;⟨w,m,(hs w m).1 s,e⟩,let ⟨w,m,s,e⟩:=q.2;⟨w,m,(hs w m).1 s,e⟩⟩⟩
theorem unM {f:Int→Int→Int} {wl ml mh:Int} {i j:Nat} {lo hi:Int}(h:Scan f wl ml mh i j lo hi)(hj:mh<ml+j):Scan f wl ml mh (i+1) 0 lo hi:=
 h.congr fun w m=>by unfold Seen;omega
theorem urc {f:Int→Int→Int} {wl wh ml mh:Int} {i:Nat} {lo hi:Int}(h:Scan f wl ml mh i 0 lo hi)(hend:wl+i=wh+1)(hw:wl≤wh)(hm:ml≤mh):IsB f wl wh ml mh lo hi:=by
 have hs:∀w m,Seen wl ml mh i 0 w m↔wl≤w∧w≤wh∧ml≤m∧m≤mh:=fun w m=>by unfold Seen;omega
 rcases h.hit with⟨_,_,q⟩|⟨⟨w,m,s,e⟩,w',m',s',e'⟩
 ·exact absurd ((hs wl ml).2 ⟨by omega,hw,by omega,hm⟩) (q wl ml)
 ·refine⟨fun w m a b c d=>h.le w m ((hs w m).2 ⟨a,b,c,d⟩),?_,?_⟩
  ·obtain⟨a,b,c,d⟩:=(hs w m).1 s;exact⟨w,m,a,b,c,d,e⟩
  ·obtain⟨a,b,c,d⟩:=(hs w' m').1 s';exact⟨w',m',a,b,c,d,e'⟩
theorem uvh {tw tm:List Int} {tv:List (List Int)}(h:TOk tw tm tv):(0≤tw.getD 0 0∧tw.getD (tw.length-1) 0≤40)∧0≤tm.getD 0 0∧tm.getD (tm.length-1) 0≤60:=by
 have a:=h.w2;have b:=h.m2
 have p1:=uao h.rw 0 (by omega)
 have p2:=uao h.rw (tw.length-1) (by omega)
 have p3:=uao h.rm 0 (by omega)
 have p4:=uao h.rm (tm.length-1) (by omega)
 unfold ubd at p1 p2 p3 p4
 omega
theorem uqt (tw tm:List Int)(tv:List (List Int))(wl wh ml mh:Int)(hT:TOk tw tm tv)(hB:Box tw tm wl wh ml mh):ua0 Tryz.prog 106 [(.agg [(iS tw),(iS tm),(.sl 1 (.sym fun _=>zi (tv).length) (fun ix=>[(.sl 1 (.sym fun _=>zi ((tv).getD ix.den.toNat []).length) (fun jx=>[(iv fun _=>((tv).getD ix.den.toNat []).getD jx.den.toNat 0)]))]))]),(.agg [(iv fun _=>wl),(iv fun _=>wh)]),(.agg [(iv fun _=>ml),(iv fun _=>mh)])] [] (fun r _=>r=(.agg [(iv fun _=>bLo tw tm tv wl wh ml mh),(iv fun _=>bHi tw tm tv wl wh ml mh)])):=by
 have c95:=fun (i j:Nat) (h:wl+zi i≤wh∧ml+zi j≤mh)=>at95 tw tm tv (wl+zi i) (ml+zi j) ⟨hT,hB.pt (by simp only [ua9];omega) h.1 (by simp only [ua9];omega) h.2⟩
 have hbd:∀i j:Nat,wl+zi i≤wh→ml+zi j≤mh→0≤atS tw tm tv (wl+(i:Int)) (ml+(j:Int))∧atS tw tm tv (wl+(i:Int)) (ml+(j:Int))≤2000:=fun i j h1 h2=>ure hT (hB.pt (by omega) h1 (by omega) h2)
 have b1:=hB.w0;have b2:=hB.w1;have b3:=hB.m0;have b4:=hB.m1;have b5:=hB.w;have b6:=hB.m
 have hpr:=uvh hT
 refine ua0.is fun R hR=>qW (sc:=uwa) tyok mix Tryz.func106 rfl Tryz.call106 (by kernel_rfl) (by kernel_rfl) ?_
 generalize Tryz.prog=P at c95⊢
 cbv
 obtain⟨p1,p2⟩:=hpr
 repeat' (first
  |fail)
 all_goals first
  |skip
 refine⟨none,[],{p:Nat×Int×Int // wl+zi p.1≤wh+1∧Scan (atS tw tm tv) wl ml mh p.1 0 p.2.1 p.2.2},fun x=>⟨[(3,.own 0 0),(4,.own 1 0),(5,.own 2 0),(6,.own 3 0),(7,.own 5 0),(8,(iv fun _=>wl+zi x.1.1))],[(0,.cells [(iS tw),(iS tm),(.sl 1 (.sym fun _=>zi (tv).length) (fun ix=>[(.sl 1 (.sym fun _=>zi ((tv).getD ix.den.toNat []).length) (fun jx=>[(iv fun _=>((tv).getD ix.den.toNat []).getD jx.den.toNat 0)]))]))] 25),(1,.cells [(iv fun _=>wl),(iv fun _=>wh)] 66),(2,.cells [(iv fun _=>ml),(iv fun _=>mh)] 66),(3,.cells [.int .i64 (.lit 0),.int .i64 (.lit 0)] 66),(5,.cells [(iv fun _=>x.1.2.1),(iv fun _=>x.1.2.2)] 66)],60⟩,fun x=>(wh+1-wl).toNat-x.1.1,?_,?_⟩
 ·refine⟨⟨(0,9999,-1),by simp only [ua9];omega,uwf _ _ _ _⟩,?_⟩
  cbv
  repeat' (first
   |with_reducible refine hold ?_ ?_
   |with_reducible refine And.intro ?_ ?_)
  all_goals first
   |trivial
   |exact qM (Fit.refl _)
   |exact qL (qK _)
   |(refine qM (qE ?_);(try simp only [qV]at *);simp only [zQ,zA,zB,zC,zD,zE,zF,zG,zH,zI,zJ,zK,zL,zM,zN,zO,zP,zR,zS]at *;omega)
   |(refine qL (qJ ?_);refine qC (qE ?_) rfl (qC (qE ?_) rfl qA)<;>first|rfl|(simp only [enlo,enhi];rfl)|((try simp only [qV]at *);(try simp only [zQ,zA,zB,zC,zD,zE,zF,zG,zH,zI,zJ,zK,zL,zM,zN,zO,zP,zR,zS]at *);omega))
   |skip
 ·rintro ⟨⟨i,lo,hi⟩,hi2,hs⟩
  cbv
  repeat' (first
   |with_reducible refine And.intro ?_ ?_
   |(with_reducible intro hcd;(try simp only [zA,zB,zC,zD,zE,zF,zG,zH,zI,zJ,zK,zL,zM,zN,zO,zP]at hcd);try cbv)
   |fail)
  all_goals first
   |(subst hR;(have hu:=(urc hs (by((try simp only [qV]at *);(try simp only [zQ,zA,zB,zC,zD,zE,zF,zG,zH,zI,zJ,zK,zL,zM,zN,zO,zP,zR,zS]at *);omega)) hB.w hB.m).unique (uvG hT hB));(repeat' (first|exact qA|exact qE hu.1|exact qE hu.2|refine qC ?_ rfl ?_));done;done)
   |skip
  refine⟨none,[],{p:Nat×Int×Int // ml+zi p.1≤mh+1∧Scan (atS tw tm tv) wl ml mh i p.1 p.2.1 p.2.2},fun x=>⟨[(3,.own 0 0),(4,.own 1 0),(5,.own 2 0),(6,.own 3 0),(7,.own 5 0),(8,(iv fun _=>wl+zi i)),(9,(iv fun _=>ml+zi x.1.1))],[(0,.cells [(iS tw),(iS tm),(.sl 1 (.sym fun _=>zi (tv).length) (fun ix=>[(.sl 1 (.sym fun _=>zi ((tv).getD ix.den.toNat []).length) (fun jx=>[(iv fun _=>((tv).getD ix.den.toNat []).getD jx.den.toNat 0)]))]))] 25),(1,.cells [(iv fun _=>wl),(iv fun _=>wh)] 66),(2,.cells [(iv fun _=>ml),(iv fun _=>mh)] 66),(3,.cells [.int .i64 (.lit 0),.int .i64 (.lit 0)] 66),(5,.cells [(iv fun _=>x.1.2.1),(iv fun _=>x.1.2.2)] 66)],60⟩,fun x=>(mh+1-ml).toNat-x.1.1,?_,?_⟩
  ·refine⟨⟨(0,lo,hi),by simp only [ua9];omega,hs⟩,?_⟩
   cbv
   repeat' (first
    |with_reducible refine hold ?_ ?_
    |with_reducible refine And.intro ?_ ?_)
   all_goals first
    |trivial
    |exact qM (qE (by rfl))
    |exact qM (Fit.refl _)
    |exact qL (qK _)
    |(refine qM (qE ?_);(try simp only [qV]at *);simp only [zQ,zA,zB,zC,zD,zE,zF,zG,zH,zI,zJ,zK,zL,zM,zN,zO,zP,zR,zS]at *;omega)
    |skip
  ·rintro ⟨⟨j,lo2,hi2⟩,hj,hs2⟩
   cbv
   repeat' (first
    |with_reducible refine hold ?_ ?_
    |with_reducible refine And.intro ?_ ?_
    |(with_reducible intro hcd;(try simp only [zA,zB,zC,zD,zE,zF,zG,zH,zI,zJ,zK,zL,zM,zN,zO,zP]at hcd);try cbv)
    | (refine qP ?_ (c95 i j (show Hold _ from ?_)) ?hfit
       case hfit=>((repeat' (first|exact qB|refine qD ?_ ?_|exact qE (by rfl)|exact qF (by rfl)|exact Fit.refl _|exact qA|refine qC ?_ rfl ?_));done)
       try cbv)
    |fail)
   all_goals first
    |trivial
    |((try simp only [qV]at *);(try simp only [zQ,zA,zB,zC,zD,zE,zF,zG,zH,zI,zJ,zK,zL,zM,zN,zO,zP,zR,zS]at *);first|(refine qN ?_;omega)|(simp only [Hold];omega))
    |((try simp only [zQ,zA,zB,zC,zD,zE,zF,zG,zH,zI,zJ,zK,zL,zM,zN,zO,zP,zR,zS]at *);obtain⟨nlo,enlo⟩:∃nlo,nlo=if atS tw tm tv (wl+zi i) (ml+zi j)<lo2 then atS tw tm tv (wl+zi i) (ml+zi j)else lo2:=⟨_,rfl⟩;obtain⟨nhi,enhi⟩:∃nhi,nhi=if atS tw tm tv (wl+zi i) (ml+zi j)>hi2 then atS tw tm tv (wl+zi i) (ml+zi j)else hi2:=⟨_,rfl⟩;refine⟨⟨(j+1,nlo,nhi),by((try simp only [qV]at *);(try simp only [zQ,zA,zB,zC,zD,zE,zF,zG,zH,zI,zJ,zK,zL,zM,zN,zO,zP,zR,zS]at *);omega),by rw [enlo,enhi];exact unN hs2 (by((try simp only [qV]at *);(try simp only [zQ,zA,zB,zC,zD,zE,zF,zG,zH,zI,zJ,zK,zL,zM,zN,zO,zP,zR,zS]at *);omega)) (hbd i j (by((try simp only [qV]at *);(try simp only [zQ,zA,zB,zC,zD,zE,zF,zG,zH,zI,zJ,zK,zL,zM,zN,zO,zP,zR,zS]at *);omega)) (by((try simp only [qV]at *);(try simp only [zQ,zA,zB,zC,zD,zE,zF,zG,zH,zI,zJ,zK,zL,zM,zN,zO,zP,zR,zS]at *);omega)))⟩,by simp only [];omega,?_⟩;cbv;(repeat' (first|with_reducible refine hold ?_ ?_|with_reducible refine And.intro ?_ ?_));(all_goals first|trivial|exact qM (qE (by rfl))|exact qM (qF (by rfl))|exact qM (Fit.refl _)|exact qL (qK _)|(refine qM (qE ?_);(try simp only [qV]at *);simp only [zQ,zA,zB,zC,zD,zE,zF,zG,zH,zI,zJ,zK,zL,zM,zN,zO,zP,zR,zS]at *;omega)|(refine qL (qJ ?_);refine qC (qE ?_) rfl (qC (qE ?_) rfl qA)<;>first|rfl|(simp only [enlo,enhi];rfl)|((try simp only [qV]at *);(try simp only [zQ,zA,zB,zC,zD,zE,zF,zG,zH,zI,zJ,zK,zL,zM,zN,zO,zP,zR,zS]at *);omega))|skip))
    |((try simp only [zQ,zA,zB,zC,zD,zE,zF,zG,zH,zI,zJ,zK,zL,zM,zN,zO,zP,zR,zS]at *);refine⟨⟨(i+1,lo2,hi2),by((try simp only [qV]at *);(try simp only [zQ,zA,zB,zC,zD,zE,zF,zG,zH,zI,zJ,zK,zL,zM,zN,zO,zP,zR,zS]at *);omega),unM hs2 (by((try simp only [qV]at *);(try simp only [zQ,zA,zB,zC,zD,zE,zF,zG,zH,zI,zJ,zK,zL,zM,zN,zO,zP,zR,zS]at *);omega))⟩,by simp only [];omega,?_⟩;cbv;(repeat' (first|with_reducible refine hold ?_ ?_|with_reducible refine And.intro ?_ ?_));(all_goals first|trivial|exact qM (qE (by rfl))|exact qM (qF (by rfl))|exact qM (Fit.refl _)|exact qL (qK _)|(refine qM (qE ?_);(try simp only [qV]at *);simp only [zQ,zA,zB,zC,zD,zE,zF,zG,zH,zI,zJ,zK,zL,zM,zN,zO,zP,zR,zS]at *;omega)|(refine qL (qJ ?_);refine qC (qE ?_) rfl (qC (qE ?_) rfl qA)<;>first|rfl|(simp only [enlo,enhi];rfl)|((try simp only [qV]at *);(try simp only [zQ,zA,zB,zC,zD,zE,zF,zG,zH,zI,zJ,zK,zL,zM,zN,zO,zP,zR,zS]at *);omega))|skip))
    |skip
end Go.Proofs.YtkdggbfknlcdaaaGreat
namespace Go.Proofs.YtkdggbfknlcdaaaGreat
open Go Go.Eng Go.Proofs Go.Eng.Dif Go.Eng.Few
set_option maxRecDepth 10000
set_option maxHeartbeats 2000000 in
theorem udw (d:Dsp)(hT:ThinT d.tw d.tm d.tv)(h1:d.ls.length≤1000)(h2:d.fs.length≤1000):ua0 Tryz.prog 12 [(dspS d)] [] (fun r _=>r=(dspS d)):=by
 have c46:=usI d.tw d.tm d.tv hT
 have c18:= @to18
 refine ua0.is fun R hR=>qW (sc:=sc12) tyok mix Tryz.func12 rfl Tryz.call12 (by kernel_rfl) (by kernel_rfl) ?_
 generalize Tryz.prog=P at c46 c18⊢
 cbv
 repeat' (first
  | (refine qP ?_ (c46) ?hfit
     case hfit=>((repeat' (first|exact qB|refine qD ?_ ?_|exact qE (by rfl)|exact qF (by rfl)|exact Fit.refl _|exact qA|refine qC ?_ rfl ?_));done)
     try cbv)
  |fail)
 all_goals first
  |skip
 refine⟨none,[⟨.cell 10 5,102,4⟩],{i:Nat // i≤d.ls.length},fun x=>⟨[(1,.own 0 0),(2,.own 1 0),(3,.own 10 0),(4,(iv fun _=>zi x.1))],[(0,.cells [(iS d.tw),(iS d.tm),(.sl 1 (.sym fun _=>zi (d.tv).length) (fun ix=>[(.sl 1 (.sym fun _=>zi ((d.tv).getD ix.den.toNat []).length) (fun jx=>[(iv fun _=>((d.tv).getD ix.den.toNat []).getD jx.den.toNat 0)]))])),(iv fun _=>d.sn),(iv fun _=>d.pn),(.sl 4 (.sym fun _=>zi (d.ls).length) (fun ix=>[(iv fun _=>((d.ls).getD ix.den.toNat l0T).a),(iv fun _=>((d.ls).getD ix.den.toNat l0T).b),(iv fun _=>((d.ls).getD ix.den.toNat l0T).lo),(iv fun _=>((d.ls).getD ix.den.toNat l0T).hi)])),(.sl 6 (.sym fun _=>zi (d.fs).length) (fun ix=>[(iv fun _=>((d.fs).getD ix.den.toNat f0T).p),(iv fun _=>((d.fs).getD ix.den.toNat f0T).s),(iv fun _=>((d.fs).getD ix.den.toNat f0T).wl),(iv fun _=>((d.fs).getD ix.den.toNat f0T).wh),(iv fun _=>((d.fs).getD ix.den.toNat f0T).ml),(iv fun _=>((d.fs).getD ix.den.toNat f0T).mh)]))] 29),(1,.cells [.val (Value.slice none 0 0),.val (Value.slice none 0 0),.val (Value.slice none 0 0),.int .i64 (.lit 0),.int .i64 (.lit 0),.val (Value.slice none 0 0),.val (Value.slice none 0 0)] 39),(10,.cells [(iS d.tw),(iS d.tm),(.sl 1 (.sym fun _=>zi (d.tv).length) (fun ix=>[(.sl 1 (.sym fun _=>zi ((d.tv).getD ix.den.toNat []).length) (fun jx=>[(iv fun _=>((d.tv).getD ix.den.toNat []).getD jx.den.toNat 0)]))])),(iv fun _=>d.sn),(iv fun _=>d.pn),.row 13,.val (Value.slice none 0 0)] 39),(13,.row 102 4 (.sym fun _=>zi x.1) (fun ix=>[(iv fun _=>(d.ls.getD ix.den.toNat l0T).a),(iv fun _=>(d.ls.getD ix.den.toNat l0T).b),(iv fun _=>(d.ls.getD ix.den.toNat l0T).lo),(iv fun _=>(d.ls.getD ix.den.toNat l0T).hi)]))],120⟩,fun x=>d.ls.length-x.1,?_,?_⟩
 ·refine⟨⟨0,by omega⟩,?_⟩
  cbv
  repeat' (first
   |with_reducible refine hold ?_ ?_
   |with_reducible refine And.intro ?_ ?_)
  all_goals first
   |trivial
   |exact qM (qE (by rfl))
   |exact qM (Fit.refl _)
   |exact qL (qK _)
   |(refine qL (uab ?_ ?_);(first|rfl|((try simp only [qV]at *);(try simp only [zQ,zA,zB,zC,zD,zE,zF,zG,zH,zI,zJ,zK,zL,zM,zN,zO,zP,zR,zS]at *);omega));intro ix h0 h1;exfalso;(try simp only [qV]at *);(try simp only [zQ,zA,zB,zC,zD,zE,zF,zG,zH,zI,zJ,zK,zL,zM,zN,zO,zP,zR,zS]at *);omega)
   |skip
 ·rintro ⟨i,hi⟩
  cbv
  repeat' (first
   |with_reducible refine hold ?_ ?_
   |with_reducible refine And.intro ?_ ?_
   |(with_reducible intro hcd;(try simp only [zA,zB,zC,zD,zE,zF,zG,zH,zI,zJ,zK,zL,zM,zN,zO,zP]at hcd);try cbv)
   | (refine qP ?_ (c18 _ _) (by(repeat' (first|exact qB|refine qD ?_ ?_|exact qE (by rfl)|exact qF (by rfl)|exact Fit.refl _|exact qA|refine qC ?_ rfl ?_)))
      try cbv)
   | (refine⟨fun ix=>[(iv fun _=>(d.ls.getD ix.den.toNat l0T).a),(iv fun _=>(d.ls.getD ix.den.toNat l0T).b),(iv fun _=>(d.ls.getD ix.den.toNat l0T).lo),(iv fun _=>(d.ls.getD ix.den.toNat l0T).hi)],?_⟩
      cbv
      refine hold (ubo (by intro ix jx h0 h1 h2;simp only [h2];exact Fit.refl _) (by intro ix jx h0 h1 h2;(have h3:jx.den.toNat=i:=by((try simp only [qV]at *);(try simp only [zQ,zA,zB,zC,zD,zE,zF,zG,zH,zI,zJ,zK,zL,zM,zN,zO,zP,zR,zS]at *);omega));simp only [h3];exact(qC (qE rfl) rfl (qC (qE rfl) rfl (qC (qE rfl) rfl (qC (qE rfl) rfl qA))))) (by(try simp only [qV]at *);(try simp only [zQ,zA,zB,zC,zD,zE,zF,zG,zH,zI,zJ,zK,zL,zM,zN,zO,zP,zR,zS]at *);omega)) (Or.inl ?_)
      try cbv)
   |fail)
  all_goals first
   |((try simp only [qV]at *);(try simp only [zQ,zA,zB,zC,zD,zE,zF,zG,zH,zI,zJ,zK,zL,zM,zN,zO,zP,zR,zS]at *);first|(refine qN ?_;omega)|(simp only [Hold];omega))
   |((try simp only [zQ,zA,zB,zC,zD,zE,zF,zG,zH,zI,zJ,zK,zL,zM,zN,zO,zP,zR,zS]at *);refine⟨⟨i+1,by omega⟩,by simp only [];omega,?_⟩;cbv;(repeat' (first|with_reducible refine hold ?_ ?_|with_reducible refine And.intro ?_ ?_));(all_goals first|trivial|exact qM (qE (by rfl))|exact qM (qF (by rfl))|exact qM (Fit.refl _)|exact qL (qK _)|(refine qM (qE ?_);(try simp only [qV]at *);simp only [zQ,zA,zB,zC,zD,zE,zF,zG,zH,zI,zJ,zK,zL,zM,zN,zO,zP,zR,zS]at *;omega)|(refine qL (qJ ?_);(repeat' (first|exact qA|exact qB|refine qC ?_ rfl ?_|refine qD ?_ ?_|exact qE (by rfl)|exact qF (by rfl)|exact Fit.refl _|exact qG _|(refine qE ?_;(try simp only [qV]at *);simp only [zQ,zA,zB,zC,zD,zE,zF,zG,zH,zI,zJ,zK,zL,zM,zN,zO,zP,zR,zS]at *;omega)));done)|(refine qL (uab ?_ ?_)<;>first|rfl|((try simp only [qV]at *);(try simp only [zQ,zA,zB,zC,zD,zE,zF,zG,zH,zI,zJ,zK,zL,zM,zN,zO,zP,zR,zS]at *);omega)|(intro ix h0 h1;exact Fit.refl _))|skip))
   |skip
  have hil:i=d.ls.length:=(by((try simp only [qV]at *);(try simp only [zQ,zA,zB,zC,zD,zE,zF,zG,zH,zI,zJ,zK,zL,zM,zN,zO,zP,zR,zS]at *);omega))
  subst hil
  refine⟨none,[⟨.cell 10 6,106,6⟩],{j:Nat // j≤d.fs.length},fun x=>⟨[(1,.own 0 0),(2,.own 1 0),(3,.own 10 0),(5,(iv fun _=>zi x.1))],[(0,.cells [(iS d.tw),(iS d.tm),(.sl 1 (.sym fun _=>zi (d.tv).length) (fun ix=>[(.sl 1 (.sym fun _=>zi ((d.tv).getD ix.den.toNat []).length) (fun jx=>[(iv fun _=>((d.tv).getD ix.den.toNat []).getD jx.den.toNat 0)]))])),(iv fun _=>d.sn),(iv fun _=>d.pn),(.sl 4 (.sym fun _=>zi (d.ls).length) (fun ix=>[(iv fun _=>((d.ls).getD ix.den.toNat l0T).a),(iv fun _=>((d.ls).getD ix.den.toNat l0T).b),(iv fun _=>((d.ls).getD ix.den.toNat l0T).lo),(iv fun _=>((d.ls).getD ix.den.toNat l0T).hi)])),(.sl 6 (.sym fun _=>zi (d.fs).length) (fun ix=>[(iv fun _=>((d.fs).getD ix.den.toNat f0T).p),(iv fun _=>((d.fs).getD ix.den.toNat f0T).s),(iv fun _=>((d.fs).getD ix.den.toNat f0T).wl),(iv fun _=>((d.fs).getD ix.den.toNat f0T).wh),(iv fun _=>((d.fs).getD ix.den.toNat f0T).ml),(iv fun _=>((d.fs).getD ix.den.toNat f0T).mh)]))] 29),(1,.cells [.val (Value.slice none 0 0),.val (Value.slice none 0 0),.val (Value.slice none 0 0),.int .i64 (.lit 0),.int .i64 (.lit 0),.val (Value.slice none 0 0),.val (Value.slice none 0 0)] 39),(10,.cells [(iS d.tw),(iS d.tm),(.sl 1 (.sym fun _=>zi (d.tv).length) (fun ix=>[(.sl 1 (.sym fun _=>zi ((d.tv).getD ix.den.toNat []).length) (fun jx=>[(iv fun _=>((d.tv).getD ix.den.toNat []).getD jx.den.toNat 0)]))])),(iv fun _=>d.sn),(iv fun _=>d.pn),.row 13,.row 126] 39),(13,.row 102 4 (.sym fun _=>zi d.ls.length) (fun ix=>[(iv fun _=>(d.ls.getD ix.den.toNat l0T).a),(iv fun _=>(d.ls.getD ix.den.toNat l0T).b),(iv fun _=>(d.ls.getD ix.den.toNat l0T).lo),(iv fun _=>(d.ls.getD ix.den.toNat l0T).hi)])),(126,.row 106 6 (.sym fun _=>zi x.1) (fun ix=>[(iv fun _=>(d.fs.getD ix.den.toNat f0T).p),(iv fun _=>(d.fs.getD ix.den.toNat f0T).s),(iv fun _=>(d.fs.getD ix.den.toNat f0T).wl),(iv fun _=>(d.fs.getD ix.den.toNat f0T).wh),(iv fun _=>(d.fs.getD ix.den.toNat f0T).ml),(iv fun _=>(d.fs.getD ix.den.toNat f0T).mh)]))],200⟩,fun x=>d.fs.length-x.1,?_,?_⟩
  ·refine⟨⟨0,by omega⟩,?_⟩
   cbv
   repeat' (first
    |with_reducible refine hold ?_ ?_
    |with_reducible refine And.intro ?_ ?_)
   all_goals first
    |trivial
    |exact qM (qE (by rfl))
    |exact qM (Fit.refl _)
    |exact qL (qK _)
    |(refine qL (uab ?_ ?_);(first|rfl|((try simp only [qV]at *);(try simp only [zQ,zA,zB,zC,zD,zE,zF,zG,zH,zI,zJ,zK,zL,zM,zN,zO,zP,zR,zS]at *);omega));intro ix h0 h1;exfalso;(try simp only [qV]at *);(try simp only [zQ,zA,zB,zC,zD,zE,zF,zG,zH,zI,zJ,zK,zL,zM,zN,zO,zP,zR,zS]at *);omega)
    |skip
  ·rintro ⟨j,hj⟩
   cbv
   repeat' (first
    |with_reducible refine hold ?_ ?_
    |with_reducible refine And.intro ?_ ?_
    |(with_reducible intro hcd;(try simp only [zA,zB,zC,zD,zE,zF,zG,zH,zI,zJ,zK,zL,zM,zN,zO,zP]at hcd);try cbv)
    | (refine qP ?_ (c18 _ _) (by(repeat' (first|exact qB|refine qD ?_ ?_|exact qE (by rfl)|exact qF (by rfl)|exact Fit.refl _|exact qA|refine qC ?_ rfl ?_)))
       try cbv)
    | (refine⟨fun ix=>[(iv fun _=>(d.fs.getD ix.den.toNat f0T).p),(iv fun _=>(d.fs.getD ix.den.toNat f0T).s),(iv fun _=>(d.fs.getD ix.den.toNat f0T).wl),(iv fun _=>(d.fs.getD ix.den.toNat f0T).wh),(iv fun _=>(d.fs.getD ix.den.toNat f0T).ml),(iv fun _=>(d.fs.getD ix.den.toNat f0T).mh)],?_⟩
       cbv
       refine hold (ubo (by intro ix jx h0 h1 h2;simp only [h2];exact Fit.refl _) (by intro ix jx h0 h1 h2;(have h3:jx.den.toNat=j:=by((try simp only [qV]at *);(try simp only [zQ,zA,zB,zC,zD,zE,zF,zG,zH,zI,zJ,zK,zL,zM,zN,zO,zP,zR,zS]at *);omega));simp only [h3];exact(qC (qE rfl) rfl (qC (qE rfl) rfl (qC (qE rfl) rfl (qC (qE rfl) rfl (qC (qE rfl) rfl (qC (qE rfl) rfl qA))))))) (by(try simp only [qV]at *);(try simp only [zQ,zA,zB,zC,zD,zE,zF,zG,zH,zI,zJ,zK,zL,zM,zN,zO,zP,zR,zS]at *);omega)) (Or.inl ?_)
       try cbv)
    |fail)
   all_goals first
    |((try simp only [qV]at *);(try simp only [zQ,zA,zB,zC,zD,zE,zF,zG,zH,zI,zJ,zK,zL,zM,zN,zO,zP,zR,zS]at *);first|(refine qN ?_;omega)|(simp only [Hold];omega))
    |((have hit:j=d.fs.length:=(by((try simp only [qV]at *);(try simp only [zQ,zA,zB,zC,zD,zE,zF,zG,zH,zI,zJ,zK,zL,zM,zN,zO,zP,zR,zS]at *);omega)));subst hR;subst hit;exact Fit.refl _)
    |((try simp only [zQ,zA,zB,zC,zD,zE,zF,zG,zH,zI,zJ,zK,zL,zM,zN,zO,zP,zR,zS]at *);refine⟨⟨j+1,by omega⟩,by simp only [];omega,?_⟩;cbv;(repeat' (first|with_reducible refine hold ?_ ?_|with_reducible refine And.intro ?_ ?_));(all_goals first|trivial|exact qM (qE (by rfl))|exact qM (qF (by rfl))|exact qM (Fit.refl _)|exact qL (qK _)|(refine qM (qE ?_);(try simp only [qV]at *);simp only [zQ,zA,zB,zC,zD,zE,zF,zG,zH,zI,zJ,zK,zL,zM,zN,zO,zP,zR,zS]at *;omega)|(refine qL (qJ ?_);(repeat' (first|exact qA|exact qB|refine qC ?_ rfl ?_|refine qD ?_ ?_|exact qE (by rfl)|exact qF (by rfl)|exact Fit.refl _|exact qG _|(refine qE ?_;(try simp only [qV]at *);simp only [zQ,zA,zB,zC,zD,zE,zF,zG,zH,zI,zJ,zK,zL,zM,zN,zO,zP,zR,zS]at *;omega)));done)|(refine qL (uab ?_ ?_)<;>first|rfl|((try simp only [qV]at *);(try simp only [zQ,zA,zB,zC,zD,zE,zF,zG,zH,zI,zJ,zK,zL,zM,zN,zO,zP,zR,zS]at *);omega)|(intro ix h0 h1;exact Fit.refl _))|skip))
    |skip
def ue8 (d:Dsp):Bool:=ukU d.tw d.tm d.tv&&(decide (d.ls.length≤7)&&decide (d.fs.length≤9))
theorem ugk {d:Dsp}:ue8 d=true↔ThinT d.tw d.tm d.tv∧d.ls.length≤7∧d.fs.length≤9:=by
 unfold ue8
 rw [Bool.and_eq_true,Bool.and_eq_true,decide_eq_true_eq,decide_eq_true_eq,ueV]
theorem uty {d:Dsp}(h:ukU d.tw d.tm d.tv=false):ue8 d=false:=by unfold ue8;rw [h];rfl
theorem utn {d:Dsp}(h:ukU d.tw d.tm d.tv=true)(h':¬d.ls.length≤7):ue8 d=false:=by unfold ue8;rw [h,decide_eq_false h'];rfl
theorem usL {d:Dsp}(h:ukU d.tw d.tm d.tv=true)(h':d.ls.length≤7):ue8 d=decide (d.fs.length≤9):=by unfold ue8;rw [h,decide_eq_true h'];rfl
theorem uh1 (d:Dsp):ua0 Tryz.prog 9 [(dspS d)] [] (fun r _=>r=(.bool (.sym fun _=>ue8 d))):=by
 have c42:=uuB d.tw d.tm d.tv
 refine ua0.is fun R hR=>qW (sc:=sc9) tyok mix Tryz.func9 rfl Tryz.call9 (by kernel_rfl) (by kernel_rfl) ?_
 generalize Tryz.prog=P at c42⊢
 cbv
 repeat' (first
  |with_reducible refine And.intro ?_ ?_
  |(with_reducible intro hcd;(try simp only [zA,zB,zC,zD,zE,zF,zG,zH,zI,zJ,zK,zL,zM,zN,zO,zP]at hcd);try cbv)
  | (refine qP ?_ (c42) ?hfit
     case hfit=>((repeat' (first|exact qB|refine qD ?_ ?_|exact qE (by rfl)|exact qF (by rfl)|exact Fit.refl _|exact qA|refine qC ?_ rfl ?_));done)
     try cbv)
  |fail)
 all_goals first
  |(subst hR;(refine qF ?_;(try simp only [qV]at *);(try simp only [zQ,zA,zB,zC,zD,zE,zF,zG,zH,zI,zJ,zK,zL,zM,zN,zO,zP,zR,zS]at *);(try simp only [uam,uaq,uaJ,uaV,uaW,ub0,uae,uaf,uad,uag]at *);first|exact(uty (by assumption)).symm|exact(utn (by assumption) (by omega)).symm|(rw [usL (by assumption) (by omega)];first|rfl|(apply Bool.eq_iff_iff.2;simp only [decide_eq_true_eq];omega)));done)
  |skip
theorem urq (a b:Int)(l:List Int)(h:1≤l.length∧l.length≤1000):ua0 Tryz.prog 97 [(iS l),(.agg [(iv fun _=>a),(iv fun _=>b)])] [] (fun r _=>r=(.bool (.sym fun _=>ofB (l.getD 0 0) a b (l.getD (l.length-1) 0)))):=by
 have c25:=uuO l h
 refine ua0.is fun R hR=>qW (sc:=sc97) tyok mix Tryz.func97 rfl Tryz.call97 (by kernel_rfl) (by kernel_rfl) ?_
 generalize Tryz.prog=P at c25⊢
 cbv
 repeat' (first
  |with_reducible refine hold ?_ ?_
  |with_reducible refine And.intro ?_ ?_
  |(with_reducible intro hcd;(try simp only [zA,zB,zC,zD,zE,zF,zG,zH,zI,zJ,zK,zL,zM,zN,zO,zP]at hcd);try cbv)
  | (refine qP ?_ (c25) ?hfit
     case hfit=>((repeat' (first|exact qB|refine qD ?_ ?_|exact qE (by rfl)|exact qF (by rfl)|exact Fit.refl _|exact qA|refine qC ?_ rfl ?_));done)
     try cbv)
  |fail)
 all_goals first
  |((try simp only [qV]at *);(try simp only [zQ,zA,zB,zC,zD,zE,zF,zG,zH,zI,zJ,zK,zL,zM,zN,zO,zP,zR,zS,uam,uaq,uaJ,uaV,uaW,ub0,uae,uaf,uad,uag]at *);first|(refine qN ?_;omega)|(simp only [Hold];omega))
  |(subst hR;(refine qF ?_;(try simp only [qV]at *);(try simp only [zQ,zA,zB,zC,zD,zE,zF,zG,zH,zI,zJ,zK,zL,zM,zN,zO,zP,zR,zS]at *);(try simp only [uam,uaq,uaJ,uaV,uaW,ub0,uae,uaf,uad,uag]at *);(try simp only [show Int.toNat 0=0 from rfl]at *);apply Bool.eq_iff_iff.2;simp only [uaW,uam,uaq,uaJ,uaV,uaW,ub0,uae,uaf,uad,uag,Bool.and_eq_true,Bool.or_eq_true,Bool.not_eq_true',decide_eq_true_eq,decide_eq_false_iff_not,Bool.false_eq_true,reduceCtorEq,Bool.true_and,Bool.and_true,Bool.false_and,Bool.and_false,iff_true,true_iff,Bool.not_true,Bool.not_false]at *;constructor<;>intro q<;>first|omega|(exact q.elim)|(exact absurd q (by omega)));done)
  |skip
theorem uw5 (n lo hi:Int):(decide (lo≤n)&&decide (n≤hi))=inB lo n hi:=by
 apply Bool.eq_iff_iff.2
 rw [uaJ,Bool.and_eq_true,decide_eq_true_eq,decide_eq_true_eq]
theorem in17 (n lo hi:Int):ua0 Tryz.prog 22 [(iv fun _=>n),(iv fun _=>lo),(iv fun _=>hi)] [] (fun r _=>r=(.bool (.sym fun _=>inB lo n hi))):=by
 have:=in31 n lo hi
 simp only [uw5]at this
 exact this
set_option maxHeartbeats 1000000 in
theorem uu2 (d:Dsp):ua0 Tryz.prog 58 [(dspS d)] [] (fun r _=>r=(iv fun _=>ua6 d)):=by
 have c75:=ut1 d.tw d.tm d.tv
 have c17:= @in17
 have c76:= @urq
 have hwm:=fun h:ubH d.tw d.tm d.tv=0=>udf h
 refine ua0.is fun R hR=>qW (sc:=sc58) tyok mix Tryz.func58 rfl Tryz.call58 (by kernel_rfl) (by kernel_rfl) ?_
 generalize Tryz.prog=P at c75 c17 c76⊢
 cbv
 repeat' (first
  |with_reducible refine And.intro ?_ ?_
  |(with_reducible intro hcd;(try simp only [zA,zB,zC,zD,zE,zF,zG,zH,zI,zJ,zK,zL,zM,zN,zO,zP]at hcd);try cbv)
  | (refine qP ?_ (c75) ?hfit
     case hfit=>((repeat' (first|exact qB|refine qD ?_ ?_|exact qE (by rfl)|exact qF (by rfl)|exact Fit.refl _|exact qA|refine qC ?_ rfl ?_));done)
     try cbv)
  |fail)
 all_goals first
  |(subst hR;(refine qE ?_;(try simp only [qV]at *);(try simp only [zQ,zA,zB,zC,zD,zE,zF,zG,zH,zI,zJ,zK,zL,zM,zN,zO,zP,zR,zS]at *);exact(ug0 (by first|assumption|omega)).symm);done)
  |(subst hR;(refine qE ?_;(try simp only [qV]at *);(try simp only [zQ,zA,zB,zC,zD,zE,zF,zG,zH,zI,zJ,zK,zL,zM,zN,zO,zP,zR,zS]at *);exact(ufp (by first|assumption|omega) (by unfold ue9;omega)).symm);done)
  |(subst hR;(refine qE ?_;(try simp only [qV]at *);(try simp only [zQ,zA,zB,zC,zD,zE,zF,zG,zH,zI,zJ,zK,zL,zM,zN,zO,zP,zR,zS]at *);exact(ueU (by first|assumption|omega) (by unfold ue9;omega) (fun g=>by have a1:=g.1;have a2:=g.2.1;omega)).symm);done)
  |skip
 have hF:ubH d.tw d.tm d.tv=0:=by((try simp only [qV]at *);(try simp only [zQ,zA,zB,zC,zD,zE,zF,zG,zH,zI,zJ,zK,zL,zM,zN,zO,zP,zR,zS]at *);first|assumption|omega)
 have hm:¬ue9 d:=by unfold ue9;((try simp only [qV]at *);(try simp only [zQ,zA,zB,zC,zD,zE,zF,zG,zH,zI,zJ,zK,zL,zM,zN,zO,zP,zR,zS]at *);omega)
 have hs1:1≤d.sn:=by((try simp only [qV]at *);(try simp only [zQ,zA,zB,zC,zD,zE,zF,zG,zH,zI,zJ,zK,zL,zM,zN,zO,zP,zR,zS]at *);omega)
 have hp1:1≤d.pn:=by((try simp only [qV]at *);(try simp only [zQ,zA,zB,zC,zD,zE,zF,zG,zH,zI,zJ,zK,zL,zM,zN,zO,zP,zR,zS]at *);omega)
 have hT:=hwm hF
 have hw2:=hT.w2
 have hw5:=hT.w5
 have hm2:=hT.m2
 have hm5:=hT.m5
 have hsm:d.sn≤3:=by((try simp only [qV]at *);(try simp only [zQ,zA,zB,zC,zD,zE,zF,zG,zH,zI,zJ,zK,zL,zM,zN,zO,zP,zR,zS]at *);omega)
 have hpm:d.pn≤4:=by((try simp only [qV]at *);(try simp only [zQ,zA,zB,zC,zD,zE,zF,zG,zH,zI,zJ,zK,zL,zM,zN,zO,zP,zR,zS]at *);omega)
 have c76w:=fun (a b:Int)=>c76 a b d.tw ⟨by omega,by omega⟩
 have c76m:=fun (a b:Int)=>c76 a b d.tm ⟨by omega,by omega⟩
 refine⟨none,[],{i:Nat // i≤d.ls.length∧∀k,k<i→ucw d.sn (d.ls.getD k l0T)},fun x=>⟨[(1,.own 0 0),(4,(iv fun _=>zi x.1))],[(0,.cells [(iS d.tw),(iS d.tm),(.sl 1 (.sym fun _=>zi (d.tv).length) (fun ix=>[(.sl 1 (.sym fun _=>zi ((d.tv).getD ix.den.toNat []).length) (fun jx=>[(iv fun _=>((d.tv).getD ix.den.toNat []).getD jx.den.toNat 0)]))])),(iv fun _=>d.sn),(iv fun _=>d.pn),(.sl 4 (.sym fun _=>zi (d.ls).length) (fun ix=>[(iv fun _=>((d.ls).getD ix.den.toNat l0T).a),(iv fun _=>((d.ls).getD ix.den.toNat l0T).b),(iv fun _=>((d.ls).getD ix.den.toNat l0T).lo),(iv fun _=>((d.ls).getD ix.den.toNat l0T).hi)])),(.sl 6 (.sym fun _=>zi (d.fs).length) (fun ix=>[(iv fun _=>((d.fs).getD ix.den.toNat f0T).p),(iv fun _=>((d.fs).getD ix.den.toNat f0T).s),(iv fun _=>((d.fs).getD ix.den.toNat f0T).wl),(iv fun _=>((d.fs).getD ix.den.toNat f0T).wh),(iv fun _=>((d.fs).getD ix.den.toNat f0T).ml),(iv fun _=>((d.fs).getD ix.den.toNat f0T).mh)]))] 29)],100⟩,fun x=>d.ls.length-x.1,?_,?_⟩
 ·refine⟨⟨0,by omega,fun k hk=>by omega⟩,?_⟩
  cbv
  repeat' (first
   |with_reducible refine hold ?_ ?_
   |with_reducible refine And.intro ?_ ?_)
  all_goals first
   |trivial
   |exact qM (qE (by rfl))
   |exact qM (Fit.refl _)
   |exact qL (qK _)
   |skip
 ·rintro ⟨i,hi,hq⟩
  cbv
  repeat' (first
   |with_reducible refine hold ?_ ?_
   |with_reducible refine And.intro ?_ ?_
   |(with_reducible intro hcd;(try simp only [zA,zB,zC,zD,zE,zF,zG,zH,zI,zJ,zK,zL,zM,zN,zO,zP]at hcd);try cbv)
   | (refine qP ?_ (c17 _ _ _) (by(repeat' (first|exact qB|refine qD ?_ ?_|exact qE (by rfl)|exact qF (by rfl)|exact Fit.refl _|exact qA|refine qC ?_ rfl ?_)))
      try cbv)
   |fail)
  all_goals first
   |((try simp only [qV]at *);(try simp only [zQ,zA,zB,zC,zD,zE,zF,zG,zH,zI,zJ,zK,zL,zM,zN,zO,zP,zR,zS,uam,uaq,uaJ,uaV,uaW,ub0,uae,uaf,uad,uag]at *);first|(refine qN ?_;omega)|(simp only [Hold];omega))
   |(subst hR;(refine qE ?_;(try simp only [qV]at *);(try simp only [zQ,zA,zB,zC,zD,zE,zF,zG,zH,zI,zJ,zK,zL,zM,zN,zO,zP,zR,zS]at *);(try simp only [uam,uaq,uaJ,uaV,uaW,ub0,uae,uaf,uad,uag]at *);exact(ueU hF hm (fun g=>by have g:=ueY.1 g;have q:=g.2.2.1 i (by omega);unfold ucw at q;omega)).symm);done)
   |((try simp only [zQ,zA,zB,zC,zD,zE,zF,zG,zH,zI,zJ,zK,zL,zM,zN,zO,zP,zR,zS,uam,uaq,uaJ,uaV,uaW,ub0,uae,uaf,uad,uag]at *);refine⟨⟨i+1,by omega,fun k hk=>(Nat.lt_or_ge k i).elim (hq k) fun q=>by rw [show k=i by omega];unfold ucw;omega⟩,by simp only [];omega,?_⟩;cbv;(repeat' (first|with_reducible refine hold ?_ ?_|with_reducible refine And.intro ?_ ?_));(all_goals first|trivial|exact qM (qE (by rfl))|exact qM (qF (by rfl))|exact qM (Fit.refl _)|exact qL (qK _)|(refine qM (qE ?_);(try simp only [qV]at *);simp only [zQ,zA,zB,zC,zD,zE,zF,zG,zH,zI,zJ,zK,zL,zM,zN,zO,zP,zR,zS]at *;omega)|(refine qL (qJ ?_);(repeat' (first|exact qA|exact qB|refine qC ?_ rfl ?_|refine qD ?_ ?_|exact qE (by rfl)|exact qF (by rfl)|exact Fit.refl _|exact qG _|(refine qE ?_;(try simp only [qV]at *);simp only [zQ,zA,zB,zC,zD,zE,zF,zG,zH,zI,zJ,zK,zL,zM,zN,zO,zP,zR,zS]at *;omega)));done)|skip))
   |skip
  have hq:∀k,k<d.ls.length→ucw d.sn (d.ls.getD k l0T):=fun k hk=>hq k (by((try simp only [qV]at *);(try simp only [zQ,zA,zB,zC,zD,zE,zF,zG,zH,zI,zJ,zK,zL,zM,zN,zO,zP,zR,zS]at *);omega))
  refine⟨none,[],{j:Nat // j≤d.fs.length∧∀k,k<j→uc2 d (d.fs.getD k f0T)},fun x=>⟨[(1,.own 0 0),(6,(iv fun _=>zi x.1))],[(0,.cells [(iS d.tw),(iS d.tm),(.sl 1 (.sym fun _=>zi (d.tv).length) (fun ix=>[(.sl 1 (.sym fun _=>zi ((d.tv).getD ix.den.toNat []).length) (fun jx=>[(iv fun _=>((d.tv).getD ix.den.toNat []).getD jx.den.toNat 0)]))])),(iv fun _=>d.sn),(iv fun _=>d.pn),(.sl 4 (.sym fun _=>zi (d.ls).length) (fun ix=>[(iv fun _=>((d.ls).getD ix.den.toNat l0T).a),(iv fun _=>((d.ls).getD ix.den.toNat l0T).b),(iv fun _=>((d.ls).getD ix.den.toNat l0T).lo),(iv fun _=>((d.ls).getD ix.den.toNat l0T).hi)])),(.sl 6 (.sym fun _=>zi (d.fs).length) (fun ix=>[(iv fun _=>((d.fs).getD ix.den.toNat f0T).p),(iv fun _=>((d.fs).getD ix.den.toNat f0T).s),(iv fun _=>((d.fs).getD ix.den.toNat f0T).wl),(iv fun _=>((d.fs).getD ix.den.toNat f0T).wh),(iv fun _=>((d.fs).getD ix.den.toNat f0T).ml),(iv fun _=>((d.fs).getD ix.den.toNat f0T).mh)]))] 29)],200⟩,fun x=>d.fs.length-x.1,?_,?_⟩
  ·refine⟨⟨0,by omega,fun k hk=>by omega⟩,?_⟩
   cbv
   repeat' (first
    |with_reducible refine hold ?_ ?_
    |with_reducible refine And.intro ?_ ?_)
   all_goals first
    |trivial
    |exact qM (qE (by rfl))
    |exact qM (Fit.refl _)
    |exact qL (qK _)
    |skip
  ·rintro ⟨j,hj,hr⟩
   cbv
   repeat' (first
    |with_reducible refine hold ?_ ?_
    |with_reducible refine And.intro ?_ ?_
    |(with_reducible intro hcd;(try simp only [zA,zB,zC,zD,zE,zF,zG,zH,zI,zJ,zK,zL,zM,zN,zO,zP]at hcd);try cbv)
    | (refine qP ?_ (c17 _ _ _) (by(repeat' (first|exact qB|refine qD ?_ ?_|exact qE (by rfl)|exact qF (by rfl)|exact Fit.refl _|exact qA|refine qC ?_ rfl ?_)))
       try cbv)
    | (refine qP ?_ (c76w (d.fs.getD j f0T).wl (d.fs.getD j f0T).wh) ?hfit
       case hfit=>((repeat' (first|exact qB|refine qD ?_ ?_|exact qE (by rfl)|exact qF (by rfl)|exact Fit.refl _|exact qA|refine qC ?_ rfl ?_));done)
       try cbv)
    | (refine qP ?_ (c76m (d.fs.getD j f0T).ml (d.fs.getD j f0T).mh) ?hfit
       case hfit=>((repeat' (first|exact qB|refine qD ?_ ?_|exact qE (by rfl)|exact qF (by rfl)|exact Fit.refl _|exact qA|refine qC ?_ rfl ?_));done)
       try cbv)
    |fail)
   all_goals first
    |((try simp only [qV]at *);(try simp only [zQ,zA,zB,zC,zD,zE,zF,zG,zH,zI,zJ,zK,zL,zM,zN,zO,zP,zR,zS,uam,uaq,uaJ,uaV,uaW,ub0,uae,uaf,uad,uag]at *);first|(refine qN ?_;omega)|(simp only [Hold];omega))
    |(subst hR;(refine qE ?_;(try simp only [qV]at *);(try simp only [zQ,zA,zB,zC,zD,zE,zF,zG,zH,zI,zJ,zK,zL,zM,zN,zO,zP,zR,zS]at *);(try simp only [uam,uaq,uaJ,uaV,uaW,ub0,uae,uaf,uad,uag]at *);exact(ueU hF hm (fun g=>by have g:=ueY.1 g;have q:=g.2.2.2 j (by omega);unfold uc2 at q;first|omega|(rw [show ofB (d.tw.getD 0 0) (d.fs.getD j f0T).wl (d.fs.getD j f0T).wh (d.tw.getD (d.tw.length-1) 0)=false by assumption]at *;omega))).symm);done)
    |(subst hR;(refine qE ?_;(try simp only [qV]at *);(try simp only [zQ,zA,zB,zC,zD,zE,zF,zG,zH,zI,zJ,zK,zL,zM,zN,zO,zP,zR,zS]at *);(try simp only [uam,uaq,uaJ,uaV,uaW,ub0,uae,uaf,uad,uag]at *);exact(ugG hF hm (ueY.2 ⟨hs1,hp1,fun k hk=>hq k (by omega),fun k hk=>hr k (by omega)⟩)).symm);done)
    |((try simp only [zQ,zA,zB,zC,zD,zE,zF,zG,zH,zI,zJ,zK,zL,zM,zN,zO,zP,zR,zS,uam,uaq,uaJ,uaV,uaW,ub0,uae,uaf,uad,uag]at *);refine⟨⟨j+1,by omega,fun k hk=>(Nat.lt_or_ge k j).elim (hr k) fun q=>by rw [show k=j by omega];unfold uc2;omega⟩,by simp only [];omega,?_⟩;cbv;(repeat' (first|with_reducible refine hold ?_ ?_|with_reducible refine And.intro ?_ ?_));(all_goals first|trivial|exact qM (qE (by rfl))|exact qM (qF (by rfl))|exact qM (Fit.refl _)|exact qL (qK _)|(refine qM (qE ?_);(try simp only [qV]at *);simp only [zQ,zA,zB,zC,zD,zE,zF,zG,zH,zI,zJ,zK,zL,zM,zN,zO,zP,zR,zS]at *;omega)|(refine qL (qJ ?_);(repeat' (first|exact qA|exact qB|refine qC ?_ rfl ?_|refine qD ?_ ?_|exact qE (by rfl)|exact qF (by rfl)|exact Fit.refl _|exact qG _|(refine qE ?_;(try simp only [qV]at *);simp only [zQ,zA,zB,zC,zD,zE,zF,zG,zH,zI,zJ,zK,zL,zM,zN,zO,zP,zR,zS]at *;omega)));done)|skip))
    |skip
theorem uel (d:Dsp):ua0 Tryz.prog 21 [(dspS d)] [] (fun r _=>r=(iv fun _=>ua6 d)):=by
 have c47:=uu2 d
 refine ua0.is fun R hR=>qW (sc:=sc21) tyok mix Tryz.func21 rfl Tryz.call21 (by kernel_rfl) (by kernel_rfl) ?_
 generalize Tryz.prog=P at c47⊢
 cbv
 repeat' (first
  | (refine qP ?_ (c47) ?hfit
     case hfit=>((repeat' (first|exact qB|refine qD ?_ ?_|exact qE (by rfl)|exact qF (by rfl)|exact Fit.refl _|exact qA|refine qC ?_ rfl ?_));done)
     try cbv)
  |fail)
 all_goals first
  |(subst hR;(repeat' (first|exact qA|exact qB|refine qC ?_ rfl ?_|refine qD ?_ ?_|exact qE (by rfl)|exact qF (by rfl)|exact Fit.refl _|exact qG _|(refine qE ?_;(try simp only [qV]at *);simp only [zQ,zA,zB,zC,zD,zE,zF,zG,zH,zI,zJ,zK,zL,zM,zN,zO,zP,zR,zS]at *;omega)));done)
  |skip
theorem uuA (d:Dsp)(f:FaT)(hT:TOk d.tw d.tm d.tv)(hf:uc2 d f):ua0 Tryz.prog 80 [(dspS d),(.agg [(iv fun _=>f.p),(iv fun _=>f.s),(iv fun _=>f.wl),(iv fun _=>f.wh),(iv fun _=>f.ml),(iv fun _=>f.mh)])] [] (fun r _=>r=(.agg [(iv fun _=>mLo d f),(iv fun _=>mHi d f)])):=by
 have c53:=uqt d.tw d.tm d.tv f.wl f.wh f.ml f.mh hT (uhB hf)
 refine ua0.is fun R hR=>qW (sc:=sc80) tyok mix Tryz.func80 rfl Tryz.call80 (by kernel_rfl) (by kernel_rfl) ?_
 generalize Tryz.prog=P at c53⊢
 cbv
 repeat' (first
  | (refine qP ?_ (c53) ?hfit
     case hfit=>((repeat' (first|exact qB|refine qD ?_ ?_|exact qE (by rfl)|exact qF (by rfl)|exact Fit.refl _|exact qA|refine qC ?_ rfl ?_));done)
     try cbv)
  |fail)
 all_goals first
  |(subst hR;(repeat' (first|exact qA|exact qB|refine qC ?_ rfl ?_|refine qD ?_ ?_|exact qE (by rfl)|exact qF (by rfl)|exact Fit.refl _|exact qG _|(refine qE ?_;(try simp only [qV]at *);simp only [zQ,zA,zB,zC,zD,zE,zF,zG,zH,zI,zJ,zK,zL,zM,zN,zO,zP,zR,zS]at *;omega)));done)
  |skip
end Go.Proofs.YtkdggbfknlcdaaaGreat
namespace Go.Proofs.YtkdggbfknlcdaaaGreat
open Go.Eng.Dif Go.Eng.Few
theorem utN {d:Dsp}(hF:ua6 d=0)(h:¬uac d=0):uac d=9:=by
 cases hl:udq d with
 |true=>exact absurd (udI hF hl) h
 |false=>exact ufN hF hl
theorem uuF {d:Dsp}(hd:DOk d) {o:List Int}(hc:canT d d.fs o=true) {s:Nat}(hs:s<SN d):0≤loT d o s∧loT d o s≤hiT d o s∧hiT d o s≤2000:=uuC (okk hd (ujK hd.f o)) hc hs
def wL (a1 a2:Int)(x:LkT):LkT:=⟨x.a,x.b,max (-2000) (x.lo-a1),min 2000 (x.hi+a2)⟩
set_option maxRecDepth 10000 in
theorem unV {d:Dsp}(hf:uac d=0):Asc d.fs.length 0 (leaL d):=by
 have e:leaL d=fewL d.fs.length (okFa d):=if_pos hf
 have q:=ubZ (udZ hf)
 rw [e];exact q.1
theorem usA {a b:List Int}(h:a.length<b.length):ub5 a b=true:=by
 unfold ub5
 rw [if_neg (by omega),decide_eq_true h]
theorem ut2 {a b:List Int}(h:¬a.length<b.length)(h':¬a.length=b.length):ub5 a b=false:=by
 unfold ub5
 rw [if_neg h',decide_eq_false h]
theorem usW {a b:List Int}(h:a.length=b.length):ub5 a b=ub5.lexB a b:=by
 unfold ub5
 rw [if_pos h]
theorem up0 {k p:Nat}(hp:p≤16)(h:¬0<(k:Int).fdiv (2^p)):uas k p=uas k 16:=by
 rw [ufM]at h
 have h0:k/2^p=0:=by clear hp;generalize k/2^p=z at h⊢;omega
 have h1:k<2^p:=by
  rcases Nat.lt_or_ge k (2^p)with q|q
  ·exact q
  ·have:=Nat.div_pos q (Nat.pow_pos (by decide));omega
 have:=uku h1 (16-p)
 rw [show p+(16-p)=16 by omega]at this
 exact this.symm
theorem ujg {k p:Nat}(hk:k<2^16)(h:0<(k:Int).fdiv (2^p)):p<16:=by
 rw [ufM]at h
 rcases Nat.lt_or_ge p 16 with q|q
 ·exact q
 ·have h1:2^16≤2^p:=Nat.pow_le_pow_right (by decide) q
  have h0:k/2^p=0:=Nat.div_eq_of_lt (by omega)
  omega
end Go.Proofs.YtkdggbfknlcdaaaGreat
namespace Go.Proofs.YtkdggbfknlcdaaaGreat
open Go Go.Eng Go.Proofs Go.Eng.Dif Go.Eng.Few
set_option maxRecDepth 10000
theorem uw8 (k:Nat)(hk:k<2^16):ua0 Tryz.prog 48 [(iv fun _=>zi k)] [] (fun r _=>r=(iS (uas k 16))):=by
 refine ua0.is fun R hR=>qW (sc:=sc48) tyok mix Tryz.func48 rfl Tryz.call48 (by kernel_rfl) (by kernel_rfl) ?_
 generalize Tryz.prog=P
 cbv
 repeat' (first
  |fail)
 all_goals first
  |skip
 refine⟨none,[⟨.tmp 3,3,1⟩],{x:Nat×List Int // x.1≤16∧x.2=uas k x.1},fun x=>⟨[(0,(iv fun _=>zi k)),(3,.row 3),(4,(iv fun _=>zi x.1.1))],[(3,.row 3 1 (.sym fun _=>zi (x.1.2).length) (fun ix=>[(iv fun _=>(x.1.2).getD ix.den.toNat 0)]))],30⟩,fun x=>16-x.1.1,?_,?_⟩
 ·refine⟨⟨(0,[]),by omega,rfl⟩,?_⟩
  cbv
  repeat' (first
   |with_reducible refine hold ?_ ?_
   |with_reducible refine And.intro ?_ ?_)
  all_goals first
   |trivial
   |exact qM (qE (by rfl))
   |exact qM (Fit.refl _)
   |(refine qL (uab ?_ ?_);(first|rfl|((try simp only [qV]at *);(try simp only [zQ,zA,zB,zC,zD,zE,zF,zG,zH,zI,zJ,zK,zL,zM,zN,zO,zP,zR,zS]at *);omega));intro ix h0 h1;exfalso;(try simp only [qV]at *);(try simp only [zQ,zA,zB,zC,zD,zE,zF,zG,zH,zI,zJ,zK,zL,zM,zN,zO,zP,zR,zS]at *);omega)
   |skip
 ·rintro ⟨⟨p,L⟩,hp,hL⟩
  cbv
  dsimp only at hp hL
  have hs:=uxr k p
  have hlen:=uga k p
  rw [←hL]at hlen
  repeat' (first
   |with_reducible refine hold ?_ ?_
   |with_reducible refine And.intro ?_ ?_
   | (with_reducible refine qT ?_ ?_
      try cbv)
   |(with_reducible intro hcd;(try simp only [zA,zB,zC,zD,zE,zF,zG,zH,zI,zJ,zK,zL,zM,zN,zO,zP]at hcd);try cbv)
   | (with_reducible refine uv5 ?_ ?_
      try cbv)
   | (obtain⟨L2,eL2⟩:∃y:List Int,y=L++[zi p]:=⟨_,rfl⟩
      refine⟨udu L2,?_⟩
      cbv
      refine hold (uaj (L:=L) eL2 (by(first|rfl|((try simp only [qV]at *);(try simp only [zQ,zA,zB,zC,zD,zE,zF,zG,zH,zI,zJ,zK,zL,zM,zN,zO,zP,zR,zS]at *);done)|((try simp only [qV]at *);(try simp only [zQ,zA,zB,zC,zD,zE,zF,zG,zH,zI,zJ,zK,zL,zM,zN,zO,zP,zR,zS]at *);omega))) (by rfl) (fun ix=>Fit.refl _) (fun ix h=>qC (qE (by rfl)) rfl qA) (by(try simp only [qV]at *);(try simp only [zQ,zA,zB,zC,zD,zE,zF,zG,zH,zI,zJ,zK,zL,zM,zN,zO,zP,zR,zS]at *);omega)) (Or.inl ?_)
      try cbv)
   |fail)
  all_goals first
   |((try simp only [qV]at *);(try simp only [zQ,zA,zB,zC,zD,zE,zF,zG,zH,zI,zJ,zK,zL,zM,zN,zO,zP,zR,zS]at *);first|(refine qN ?_;omega)|(simp only [Hold];omega))
   |((try simp only [qV]at *);(try simp only [zQ,zA,zB,zC,zD,zE,zF,zG,zH,zI,zJ,zK,zL,zM,zN,zO,zP,zR,zS]at *);first|(refine udT ?_;omega)|(refine uoh ?_;omega)|(refine ucW ?_;omega)|(refine qN ?_;omega))
   |((try simp only [zQ,zA,zB,zC,zD,zE,zF,zG,zH,zI,zJ,zK,zL,zM,zN,zO,zP,zR,zS]at *);(have hp16:p<16:=ujg hk (by((try simp only [qV]at *);(try simp only [zQ,zA,zB,zC,zD,zE,zF,zG,zH,zI,zJ,zK,zL,zM,zN,zO,zP,zR,zS]at *);first|assumption|omega)));refine⟨⟨(p+1,L2),by((try simp only [qV]at *);(try simp only [zQ,zA,zB,zC,zD,zE,zF,zG,zH,zI,zJ,zK,zL,zM,zN,zO,zP,zR,zS]at *);omega),by rw [eL2,hL];exact(uui (by(try simp only [qV]at *);(try simp only [zQ,zA,zB,zC,zD,zE,zF,zG,zH,zI,zJ,zK,zL,zM,zN,zO,zP,zR,zS]at *);assumption)).symm⟩,by simp only [];omega,?_⟩;cbv;(repeat' (first|with_reducible refine hold ?_ ?_|with_reducible refine And.intro ?_ ?_));(all_goals first|trivial|exact qM (qE (by rfl))|exact qM (qF (by rfl))|exact qM (Fit.refl _)|exact qL (qK _)|(refine qM (qE ?_);(try simp only [qV]at *);simp only [zQ,zA,zB,zC,zD,zE,zF,zG,zH,zI,zJ,zK,zL,zM,zN,zO,zP,zR,zS]at *;omega)|(refine qL (ulR ?_ ?_);(first|rfl|((try simp only [qV]at *);(try simp only [zQ,zA,zB,zC,zD,zE,zF,zG,zH,zI,zJ,zK,zL,zM,zN,zO,zP,zR,zS]at *);simp only [eL2,List.length_append,List.length_cons,List.length_nil];omega));intro ix;(try simp only [eL2]);first|exact Fit.refl _|exact qC (qE (by rfl)) rfl qA)|skip))
   |((try simp only [zQ,zA,zB,zC,zD,zE,zF,zG,zH,zI,zJ,zK,zL,zM,zN,zO,zP,zR,zS]at *);(have hp16:p<16:=ujg hk (by((try simp only [qV]at *);(try simp only [zQ,zA,zB,zC,zD,zE,zF,zG,zH,zI,zJ,zK,zL,zM,zN,zO,zP,zR,zS]at *);first|assumption|omega)));refine⟨⟨(p+1,L),by((try simp only [qV]at *);(try simp only [zQ,zA,zB,zC,zD,zE,zF,zG,zH,zI,zJ,zK,zL,zM,zN,zO,zP,zR,zS]at *);omega),by rw [hL];exact(usw (by(try simp only [qV]at *);(try simp only [zQ,zA,zB,zC,zD,zE,zF,zG,zH,zI,zJ,zK,zL,zM,zN,zO,zP,zR,zS]at *);assumption)).symm⟩,by simp only [];omega,?_⟩;cbv;(repeat' (first|with_reducible refine hold ?_ ?_|with_reducible refine And.intro ?_ ?_));(all_goals first|trivial|exact qM (qE (by rfl))|exact qM (qF (by rfl))|exact qM (Fit.refl _)|exact qL (qK _)|(refine qM (qE ?_);(try simp only [qV]at *);simp only [zQ,zA,zB,zC,zD,zE,zF,zG,zH,zI,zJ,zK,zL,zM,zN,zO,zP,zR,zS]at *;omega)|(refine qL (ulR ?_ ?_);(first|rfl|((try simp only [qV]at *);(try simp only [zQ,zA,zB,zC,zD,zE,zF,zG,zH,zI,zJ,zK,zL,zM,zN,zO,zP,zR,zS]at *);simp only [List.length_append,List.length_cons,List.length_nil];omega));intro ix;first|exact Fit.refl _|exact qC (qE (by rfl)) rfl qA)|skip))
   |((have hst:uas k p=uas k 16:=up0 hp (by((try simp only [qV]at *);(try simp only [zQ,zA,zB,zC,zD,zE,zF,zG,zH,zI,zJ,zK,zL,zM,zN,zO,zP,zR,zS]at *);first|assumption|omega)));(have hLL:L=uas k 16:=hL.trans hst);subst hLL;subst hR;exact Fit.refl _)
   |skip
theorem uqK (a b:List Int)(ha:a.length≤1000)(he:a.length=b.length):ua0 Tryz.prog 60 [(iS a),(iS b)] [] (fun r _=>r=(.bool (.sym fun _=>ub5.lexB a b))):=by
 refine ua0.is fun R hR=>qW (sc:=sc60) tyok mix Tryz.func60 rfl Tryz.call60 (by kernel_rfl) (by kernel_rfl) ?_
 generalize Tryz.prog=P
 cbv
 repeat' (first
  |fail)
 all_goals first
  |skip
 refine⟨none,[],{i:Nat // i≤a.length∧∀j,j<i→a.getD j 0=b.getD j 0},fun x=>⟨[(0,(iS a)),(1,(iS b)),(5,(iv fun _=>zi x.1))],[],60⟩,fun x=>a.length-x.1,?_,?_⟩
 ·refine⟨⟨0,by omega,fun j hj=>by omega⟩,?_⟩
  cbv
  repeat' (first
   |with_reducible refine hold ?_ ?_
   |with_reducible refine And.intro ?_ ?_)
  all_goals first
   |trivial
   |exact qM (qE (by rfl))
   |exact qM (Fit.refl _)
   |skip
 ·rintro⟨i,hi,hq⟩
  cbv
  repeat' (first
   |with_reducible refine hold ?_ ?_
   |with_reducible refine And.intro ?_ ?_
   |(with_reducible intro hcd;(try simp only [zA,zB,zC,zD,zE,zF,zG,zH,zI,zJ,zK,zL,zM,zN,zO,zP]at hcd);try cbv)
   |fail)
  all_goals first
   |((try simp only [qV]at *);(try simp only [zQ,zA,zB,zC,zD,zE,zF,zG,zH,zI,zJ,zK,zL,zM,zN,zO,zP,zR,zS]at *);first|(refine qN ?_;omega)|(simp only [Hold];omega))
   |(subst hR;(refine qF ?_;(have hne:¬a.getD i 0=b.getD i 0:=by assumption);exact(uuV (i:=i) (by((try simp only [qV]at *);(try simp only [zQ,zA,zB,zC,zD,zE,zF,zG,zH,zI,zJ,zK,zL,zM,zN,zO,zP,zR,zS]at *);omega)) he hq hne).symm);done)
   |(subst hR;(refine qF ?_;rw [uq9 (a:=a) (b:=b) (fun j hj=>hq j (by((try simp only [qV]at *);(try simp only [zQ,zA,zB,zC,zD,zE,zF,zG,zH,zI,zJ,zK,zL,zM,zN,zO,zP,zR,zS]at *);omega))) he];(try simp only [qV]at *);(try simp only [zQ,zA,zB,zC,zD,zE,zF,zG,zH,zI,zJ,zK,zL,zM,zN,zO,zP,zR,zS]at *);first|omega|exact decide_eq_false (by omega));done)
   |((try simp only [zQ,zA,zB,zC,zD,zE,zF,zG,zH,zI,zJ,zK,zL,zM,zN,zO,zP,zR,zS]at *);(have hne:a.getD i 0=b.getD i 0:=by first|assumption|exact Classical.not_not.1 (by assumption));refine⟨⟨i+1,by((try simp only [qV]at *);(try simp only [zQ,zA,zB,zC,zD,zE,zF,zG,zH,zI,zJ,zK,zL,zM,zN,zO,zP,zR,zS]at *);omega),fun j hj=>(Nat.lt_or_ge j i).elim (hq j) fun q=>by rw [show j=i by omega];exact hne⟩,by simp only [];omega,?_⟩;cbv;(repeat' (first|with_reducible refine hold ?_ ?_|with_reducible refine And.intro ?_ ?_));(all_goals first|trivial|exact qM (qE (by rfl))|exact qM (qF (by rfl))|exact qM (Fit.refl _)|exact qL (qK _)|(refine qM (qE ?_);(try simp only [qV]at *);simp only [zQ,zA,zB,zC,zD,zE,zF,zG,zH,zI,zJ,zK,zL,zM,zN,zO,zP,zR,zS]at *;omega)|skip))
   |skip
theorem uno (a b:List Int)(ha:a.length≤1000)(hb:b.length≤1000):ua0 Tryz.prog 49 [(iS a),(iS b)] [] (fun r _=>r=(.bool (.sym fun _=>ub5 a b))):=by
 have c60:=fun he:a.length=b.length=>uqK a b ha he
 refine ua0.is fun R hR=>qW (sc:=sc49) tyok mix Tryz.func49 rfl Tryz.call49 (by kernel_rfl) (by kernel_rfl) ?_
 generalize Tryz.prog=P at c60⊢
 cbv
 repeat' (first
  |with_reducible refine And.intro ?_ ?_
  |(with_reducible intro hcd;(try simp only [zA,zB,zC,zD,zE,zF,zG,zH,zI,zJ,zK,zL,zM,zN,zO,zP]at hcd);try cbv)
  | (refine qP ?_ (c60 (show Hold _ from ?_)) ?hfit
     case hfit=>((repeat' (first|exact qB|refine qD ?_ ?_|exact qE (by rfl)|exact qF (by rfl)|exact Fit.refl _|exact qA|refine qC ?_ rfl ?_));done)
     try cbv)
  |fail)
 all_goals first
  |((try simp only [qV]at *);(try simp only [zQ,zA,zB,zC,zD,zE,zF,zG,zH,zI,zJ,zK,zL,zM,zN,zO,zP,zR,zS]at *);first|(refine qN ?_;omega)|(simp only [Hold];omega))
  |(subst hR;(refine qF ?_;(try simp only [qV]at *);(try simp only [zQ,zA,zB,zC,zD,zE,zF,zG,zH,zI,zJ,zK,zL,zM,zN,zO,zP,zR,zS]at *);first|exact(usA (by omega)).symm|exact(ut2 (by omega) (by omega)).symm|exact(usW (by omega)).symm);done)
  |skip
theorem uux {a b:Int} {x y:Nat}(ha:a=(x:Int))(hb:b=(y:Int))(hx:x<2^6)(hy:y<2^6):Hold (∃x' y':Nat,a=(x':Int)∧b=(y':Int)∧inR .i64 (x':Int)∧inR .i64 (y':Int)∧inR .i64 ((x' |||y':Nat):Int)∧zi (x |||y)=((x' |||y':Nat):Int)):=by
 have h3:(x |||y)<2^6:=Nat.or_lt_two_pow hx hy
 refine⟨x,y,ha,hb,?_,?_,?_,rfl⟩<;>unfold inR<;>simp only<;>omega
theorem uvc {q:Int}(h0:0≤q)(hn:q≤6):Hold (inR .i64 (1*2^q.toNat)):=by
 have h2:2^q.toNat≤2^6:=Nat.pow_le_pow_right (by decide) (by omega)
 have e:(1:Int)*2^q.toNat=((2^q.toNat:Nat):Int):=by simp
 rw [e]
 clear e
 generalize 2^q.toNat=y at h2⊢
 refine qN ?_
 omega
theorem uv6 {L:List Int} {n:Nat}(h:n=L.length):uby L n=uby L L.length:=by rw [h]
theorem uob (a b c e:Int):ua0 Tryz.prog 66 [(.agg [(iv fun _=>a),(iv fun _=>b)]),(.agg [(iv fun _=>c),(iv fun _=>e)])] [] (fun r _=>r=(.agg [(iv fun _=>mx a c),(iv fun _=>mn b e)])):=by
 refine ua0.is fun R hR=>qW (sc:=sc66) tyok mix Tryz.func66 rfl Tryz.call66 (by kernel_rfl) (by kernel_rfl) ?_
 generalize Tryz.prog=P
 cbv
 repeat' (first
  |fail)
 all_goals first
  |(subst hR;(repeat' (first|exact qA|exact qB|refine qC ?_ rfl ?_|refine qD ?_ ?_|exact qE (by rfl)|exact qF (by rfl)|exact Fit.refl _|exact qG _|(refine qE ?_;(try simp only [qV]at *);simp only [zQ,zA,zB,zC,zD,zE,zF,zG,zH,zI,zJ,zK,zL,zM,zN,zO,zP,zR,zS]at *;omega)));done)
  |skip
theorem uwQ {fs:List Fa} {b s i:Nat} {q:Int}(h0:0≤q)(hq:(fs.getD i f0).s=q.toNat)(h1:q=(s:Int))(h2:((b:Int).fdiv (2^i)).tmod 2=0):ownN fs (outN b) s (i+1)=(mx (ownN fs (outN b) s i).1 (fs.getD i f0).lo,mn (ownN fs (outN b) s i).2 (fs.getD i f0).hi):=by
 have e:(decide ((fs.getD i f0).s=s)&&outN b i)=true:=by
  rw [Bool.and_eq_true,decide_eq_true_eq]
  exact⟨by omega,by unfold outN;rw [(usg b i).1 h2];rfl⟩
 simp only [ownN,if_pos e]
theorem uvv {fs:List Fa} {b s i:Nat} {q:Int}(h0:0≤q)(hq:(fs.getD i f0).s=q.toNat)(h1:¬q=(s:Int)):ownN fs (outN b) s (i+1)=ownN fs (outN b) s i:=by
 have e:¬(decide ((fs.getD i f0).s=s)&&outN b i)=true:=by
  rw [Bool.and_eq_true,decide_eq_true_eq]
  rintro⟨h,_⟩
  omega
 simp only [ownN,if_neg e]
theorem uvo {fs:List Fa} {b s i:Nat}(h2:¬((b:Int).fdiv (2^i)).tmod 2=0):ownN fs (outN b) s (i+1)=ownN fs (outN b) s i:=by
 have e:¬(decide ((fs.getD i f0).s=s)&&outN b i)=true:=by
  rw [Bool.and_eq_true]
  rintro⟨_,h⟩
  unfold outN at h
  rw [Bool.not_eq_true']at h
  exact h2 ((usg b i).2 h)
 simp only [ownN,if_neg e]
theorem utj (d:Dsp)(b s:Nat)(hd:DOk d)(hb:b≤1000):ua0 Tryz.prog 64 [(dspS d),(.sl 2 (.sym fun _=>zi (d.fs).length) (fun ix=>[(iv fun _=>((FO d d.fs).getD ix.den.toNat f0).lo),(iv fun _=>((FO d d.fs).getD ix.den.toNat f0).hi)])),(iv fun _=>zi s),(iv fun _=>zi b)] [] (fun r _=>r=(.agg [(iv fun _=>(ownN (FO d d.fs) (outN b) s d.fs.length).1),(iv fun _=>(ownN (FO d d.fs) (outN b) s d.fs.length).2)])):=by
 have f6:=hd.f6
 have hs0:∀i,i<d.fs.length→0≤(d.fs.getD i f0T).s:=fun i hi=>by have:=hd.f i hi;unfold uc2 at this;omega
 refine ua0.is fun R hR=>qW (sc:=sc64) tyok mix Tryz.func64 rfl Tryz.call64 (by kernel_rfl) (by kernel_rfl) ?_
 generalize Tryz.prog=P
 cbv
 repeat' (first
  |fail)
 all_goals first
  |skip
 refine⟨none,[],{x:Nat×(Int×Int) // x.1≤d.fs.length∧x.2=ownN (FO d d.fs) (outN b) s x.1},fun x=>⟨[(4,.own 0 0),(8,.own 1 0),(9,.own 3 0),(1,(.sl 2 (.sym fun _=>zi (d.fs).length) (fun ix=>[(iv fun _=>((FO d d.fs).getD ix.den.toNat f0).lo),(iv fun _=>((FO d d.fs).getD ix.den.toNat f0).hi)]))),(2,(iv fun _=>zi s)),(3,(iv fun _=>zi b)),(10,(iv fun _=>zi x.1.1))],[(0,.cells [(iS d.tw),(iS d.tm),(.sl 1 (.sym fun _=>zi (d.tv).length) (fun ix=>[(.sl 1 (.sym fun _=>zi ((d.tv).getD ix.den.toNat []).length) (fun jx=>[(iv fun _=>((d.tv).getD ix.den.toNat []).getD jx.den.toNat 0)]))])),(iv fun _=>d.sn),(iv fun _=>d.pn),(.sl 4 (.sym fun _=>zi (d.ls).length) (fun ix=>[(iv fun _=>((d.ls).getD ix.den.toNat l0T).a),(iv fun _=>((d.ls).getD ix.den.toNat l0T).b),(iv fun _=>((d.ls).getD ix.den.toNat l0T).lo),(iv fun _=>((d.ls).getD ix.den.toNat l0T).hi)])),(.sl 6 (.sym fun _=>zi (d.fs).length) (fun ix=>[(iv fun _=>((d.fs).getD ix.den.toNat f0T).p),(iv fun _=>((d.fs).getD ix.den.toNat f0T).s),(iv fun _=>((d.fs).getD ix.den.toNat f0T).wl),(iv fun _=>((d.fs).getD ix.den.toNat f0T).wh),(iv fun _=>((d.fs).getD ix.den.toNat f0T).ml),(iv fun _=>((d.fs).getD ix.den.toNat f0T).mh)]))] 29),(1,.cells [.int .i64 (.lit 0),.int .i64 (.lit 0)] 66),(3,.cells [(iv fun _=>x.1.2.1),(iv fun _=>x.1.2.2)] 66)],20⟩,fun x=>d.fs.length-x.1.1,?_,?_⟩
 ·refine⟨⟨(0,(0,2000)),by simp only [];omega,rfl⟩,?_⟩
  cbv
  repeat' (first
   |with_reducible refine hold ?_ ?_
   |with_reducible refine And.intro ?_ ?_)
  all_goals first
   |trivial
   |exact qM (qE (by rfl))
   |exact qM (Fit.refl _)
   |exact qL (qK _)
   |(refine qL (qJ ?_);(repeat' (first|exact qA|exact qB|refine qC ?_ rfl ?_|refine qD ?_ ?_|exact qE (by rfl)|exact qF (by rfl)|exact Fit.refl _|exact qG _|(refine qE ?_;(try simp only [qV]at *);simp only [zQ,zA,zB,zC,zD,zE,zF,zG,zH,zI,zJ,zK,zL,zM,zN,zO,zP,zR,zS]at *;omega)));done)
   |skip
 ·rintro ⟨⟨i,o⟩,hi,ho⟩
  cbv
  dsimp only at hi ho
  repeat' (first
   |with_reducible refine hold ?_ ?_
   |with_reducible refine And.intro ?_ ?_
   | (with_reducible refine qT ?_ ?_
      try cbv)
   |(with_reducible intro hcd;(try simp only [zA,zB,zC,zD,zE,zF,zG,zH,zI,zJ,zK,zL,zM,zN,zO,zP]at hcd);try cbv)
   | (with_reducible refine uv5 ?_ ?_
      try cbv)
   |fail)
  all_goals first
   |((try simp only [qV]at *);(try simp only [zQ,zA,zB,zC,zD,zE,zF,zG,zH,zI,zJ,zK,zL,zM,zN,zO,zP,zR,zS]at *);first|(refine qN ?_;omega)|(simp only [Hold];omega))
   |(subst hR;(have e:i=d.fs.length:=by((try simp only [qV]at *);(try simp only [zQ,zA,zB,zC,zD,zE,zF,zG,zH,zI,zJ,zK,zL,zM,zN,zO,zP,zR,zS]at *);omega));subst e;subst ho;exact Fit.refl _;done)
   |((try simp only [qV]at *);(try simp only [zQ,zA,zB,zC,zD,zE,zF,zG,zH,zI,zJ,zK,zL,zM,zN,zO,zP,zR,zS]at *);simp only [Hold];first|assumption|omega|exact⟨by omega,by omega⟩|(refine qN ?_;omega))
   |((try simp only [qV]at *);(try simp only [zQ,zA,zB,zC,zD,zE,zF,zG,zH,zI,zJ,zK,zL,zM,zN,zO,zP,zR,zS]at *);first|(refine udT ?_;omega)|(refine uoh ?_;omega)|(refine ucW ?_;omega)|(refine qN ?_;omega))
   |((try simp only [zQ,zA,zB,zC,zD,zE,zF,zG,zH,zI,zJ,zK,zL,zM,zN,zO,zP,zR,zS]at *);(have hy:=(uwQ (fs:=FO d d.fs) (b:=b) (s:=s) (i:=i) (q:=(d.fs.getD i f0T).s) (hs0 i (by((try simp only [qV]at *);(try simp only [zQ,zA,zB,zC,zD,zE,zF,zG,zH,zI,zJ,zK,zL,zM,zN,zO,zP,zR,zS]at *);omega))) (by rw [umE (by((try simp only [qV]at *);(try simp only [zQ,zA,zB,zC,zD,zE,zF,zG,zH,zI,zJ,zK,zL,zM,zN,zO,zP,zR,zS]at *);omega))];rfl) (by assumption) (by assumption)));obtain⟨o1,eo1⟩:∃x,x=mx o.1 ((FO d d.fs).getD i f0).lo:=⟨_,rfl⟩;obtain⟨o2,eo2⟩:∃x,x=mn o.2 ((FO d d.fs).getD i f0).hi:=⟨_,rfl⟩;(have hy2:((o1,o2):Int×Int)=ownN (FO d d.fs) (outN b) s (i+1):=by rw [hy,←ho,eo1,eo2]);refine⟨⟨(i+1,(o1,o2)),by((try simp only [qV]at *);(try simp only [zQ,zA,zB,zC,zD,zE,zF,zG,zH,zI,zJ,zK,zL,zM,zN,zO,zP,zR,zS]at *);omega),hy2⟩,by simp only [];omega,?_⟩;cbv;(repeat' (first|with_reducible refine hold ?_ ?_|with_reducible refine And.intro ?_ ?_));(all_goals first|trivial|exact qM (qE (by rfl))|exact qM (qF (by rfl))|exact qM (Fit.refl _)|exact qL (qK _)|(refine qM (qE ?_);(try simp only [qV]at *);simp only [zQ,zA,zB,zC,zD,zE,zF,zG,zH,zI,zJ,zK,zL,zM,zN,zO,zP,zR,zS]at *;omega)|(subst eo1;subst eo2;(refine qL (qJ ?_);(repeat' (first|exact qA|exact qB|refine qC ?_ rfl ?_|refine qD ?_ ?_|exact qE (by rfl)|exact qF (by rfl)|exact Fit.refl _|exact qG _|(refine qE ?_;(try simp only [qV]at *);simp only [zQ,zA,zB,zC,zD,zE,zF,zG,zH,zI,zJ,zK,zL,zM,zN,zO,zP,zR,zS]at *;omega)));done))|skip))
   |((try simp only [zQ,zA,zB,zC,zD,zE,zF,zG,zH,zI,zJ,zK,zL,zM,zN,zO,zP,zR,zS]at *);(have hy:=(uvv (fs:=FO d d.fs) (b:=b) (s:=s) (i:=i) (q:=(d.fs.getD i f0T).s) (hs0 i (by((try simp only [qV]at *);(try simp only [zQ,zA,zB,zC,zD,zE,zF,zG,zH,zI,zJ,zK,zL,zM,zN,zO,zP,zR,zS]at *);omega))) (by rw [umE (by((try simp only [qV]at *);(try simp only [zQ,zA,zB,zC,zD,zE,zF,zG,zH,zI,zJ,zK,zL,zM,zN,zO,zP,zR,zS]at *);omega))];rfl) (by assumption)));(have hy2:=ho.trans hy.symm);refine⟨⟨(i+1,o),by((try simp only [qV]at *);(try simp only [zQ,zA,zB,zC,zD,zE,zF,zG,zH,zI,zJ,zK,zL,zM,zN,zO,zP,zR,zS]at *);omega),hy2⟩,by simp only [];omega,?_⟩;cbv;(repeat' (first|with_reducible refine hold ?_ ?_|with_reducible refine And.intro ?_ ?_));(all_goals first|trivial|exact qM (qE (by rfl))|exact qM (qF (by rfl))|exact qM (Fit.refl _)|exact qL (qK _)|(refine qM (qE ?_);(try simp only [qV]at *);simp only [zQ,zA,zB,zC,zD,zE,zF,zG,zH,zI,zJ,zK,zL,zM,zN,zO,zP,zR,zS]at *;omega)|(refine qL (qJ ?_);(repeat' (first|exact qA|exact qB|refine qC ?_ rfl ?_|refine qD ?_ ?_|exact qE (by rfl)|exact qF (by rfl)|exact Fit.refl _|exact qG _|(refine qE ?_;(try simp only [qV]at *);simp only [zQ,zA,zB,zC,zD,zE,zF,zG,zH,zI,zJ,zK,zL,zM,zN,zO,zP,zR,zS]at *;omega)));done)|skip))
   |((try simp only [zQ,zA,zB,zC,zD,zE,zF,zG,zH,zI,zJ,zK,zL,zM,zN,zO,zP,zR,zS]at *);(have hy:=(uvo (fs:=FO d d.fs) (b:=b) (s:=s) (i:=i) (by assumption)));(have hy2:=ho.trans hy.symm);refine⟨⟨(i+1,o),by((try simp only [qV]at *);(try simp only [zQ,zA,zB,zC,zD,zE,zF,zG,zH,zI,zJ,zK,zL,zM,zN,zO,zP,zR,zS]at *);omega),hy2⟩,by simp only [];omega,?_⟩;cbv;(repeat' (first|with_reducible refine hold ?_ ?_|with_reducible refine And.intro ?_ ?_));(all_goals first|trivial|exact qM (qE (by rfl))|exact qM (qF (by rfl))|exact qM (Fit.refl _)|exact qL (qK _)|(refine qM (qE ?_);(try simp only [qV]at *);simp only [zQ,zA,zB,zC,zD,zE,zF,zG,zH,zI,zJ,zK,zL,zM,zN,zO,zP,zR,zS]at *;omega)|(refine qL (qJ ?_);(repeat' (first|exact qA|exact qB|refine qC ?_ rfl ?_|refine qD ?_ ?_|exact qE (by rfl)|exact qF (by rfl)|exact Fit.refl _|exact qG _|(refine qE ?_;(try simp only [qV]at *);simp only [zQ,zA,zB,zC,zD,zE,zF,zG,zH,zI,zJ,zK,zL,zM,zN,zO,zP,zR,zS]at *;omega)));done)|skip))
   |skip
def dif1 (a b:Nat)(k:Lk)(r:Int×Int):Int×Int:=if k.a=a∧k.b=b then(mx r.1 k.lo,mn r.2 k.hi)else r
def dif2 (a b:Nat)(k:Lk)(r:Int×Int):Int×Int:=if k.a=b∧k.b=a then(mx r.1 (-k.hi),mn r.2 (-k.lo))else r
theorem unS {ls:List Lk} {a b i:Nat}:difN ls a b (i+1)=dif2 a b (ls.getD i lk0) (dif1 a b (ls.getD i lk0) (difN ls a b i)):=rfl
theorem usm {a b:Nat} {x:LkT} {r:Int×Int}(h0:0≤x.a∧0≤x.b)(h1:x.a=zi a)(h2:x.b=zi b):dif1 a b (lkO x) r=(mx r.1 x.lo,mn r.2 x.hi):=by
 simp only [ua9]at h1 h2
 exact if_pos (show x.a.toNat=a∧x.b.toNat=b by omega)
theorem urV {a b:Nat} {x:LkT} {r:Int×Int}(h0:0≤x.a∧0≤x.b)(h:¬(x.a=zi a∧x.b=zi b)):dif1 a b (lkO x) r=r:=by
 simp only [ua9]at h
 exact if_neg (show ¬(x.a.toNat=a∧x.b.toNat=b) by omega)
theorem urR {a b:Nat} {x:LkT} {r:Int×Int}(h0:0≤x.a∧0≤x.b)(h1:x.a=zi b)(h2:x.b=zi a):dif2 a b (lkO x) r=(mx r.1 (0-x.hi),mn r.2 (0-x.lo)):=by
 simp only [ua9]at h1 h2
 rw [Int.zero_sub,Int.zero_sub]
 exact if_pos (show x.a.toNat=b∧x.b.toNat=a by omega)
theorem usc {a b:Nat} {x:LkT} {r:Int×Int}(h0:0≤x.a∧0≤x.b)(h:¬(x.a=zi b∧x.b=zi a)):dif2 a b (lkO x) r=r:=by
 simp only [ua9]at h
 exact if_neg (show ¬(x.a.toNat=b∧x.b.toNat=a) by omega)
theorem ujT (d:Dsp)(a b:Nat)(hd:DOk d):ua0 Tryz.prog 65 [(dspS d),(iv fun _=>zi a),(iv fun _=>zi b)] [] (fun r _=>r=(.agg [(iv fun _=>(difN (LO d) a b d.ls.length).1),(iv fun _=>(difN (LO d) a b d.ls.length).2)])):=by
 have l4:=hd.l4
 have hs0:∀i,i<d.ls.length→0≤(d.ls.getD i l0T).a∧0≤(d.ls.getD i l0T).b:=fun i hi=>by have:=hd.l i hi;unfold ucw at this;omega
 have hs1:∀i,i<d.ls.length→ -2000≤(d.ls.getD i l0T).lo∧(d.ls.getD i l0T).lo≤(d.ls.getD i l0T).hi∧(d.ls.getD i l0T).hi≤2000:=fun i hi=>by have:=hd.l i hi;unfold ucw at this;omega
 refine ua0.is fun R hR=>qW (sc:=sc65) tyok mix Tryz.func65 rfl Tryz.call65 (by kernel_rfl) (by kernel_rfl) ?_
 generalize Tryz.prog=P
 cbv
 repeat' (first
  |fail)
 all_goals first
  |skip
 refine⟨none,[],{x:Nat×(Int×Int) // x.1≤d.ls.length∧x.2=difN (LO d) a b x.1},fun x=>⟨[(3,.own 0 0),(6,.own 1 0),(7,.own 3 0),(1,(iv fun _=>zi a)),(2,(iv fun _=>zi b)),(8,(iv fun _=>zi x.1.1))],[(0,.cells [(iS d.tw),(iS d.tm),(.sl 1 (.sym fun _=>zi (d.tv).length) (fun ix=>[(.sl 1 (.sym fun _=>zi ((d.tv).getD ix.den.toNat []).length) (fun jx=>[(iv fun _=>((d.tv).getD ix.den.toNat []).getD jx.den.toNat 0)]))])),(iv fun _=>d.sn),(iv fun _=>d.pn),(.sl 4 (.sym fun _=>zi (d.ls).length) (fun ix=>[(iv fun _=>((d.ls).getD ix.den.toNat l0T).a),(iv fun _=>((d.ls).getD ix.den.toNat l0T).b),(iv fun _=>((d.ls).getD ix.den.toNat l0T).lo),(iv fun _=>((d.ls).getD ix.den.toNat l0T).hi)])),(.sl 6 (.sym fun _=>zi (d.fs).length) (fun ix=>[(iv fun _=>((d.fs).getD ix.den.toNat f0T).p),(iv fun _=>((d.fs).getD ix.den.toNat f0T).s),(iv fun _=>((d.fs).getD ix.den.toNat f0T).wl),(iv fun _=>((d.fs).getD ix.den.toNat f0T).wh),(iv fun _=>((d.fs).getD ix.den.toNat f0T).ml),(iv fun _=>((d.fs).getD ix.den.toNat f0T).mh)]))] 29),(1,.cells [.int .i64 (.lit 0),.int .i64 (.lit 0)] 66),(3,.cells [(iv fun _=>x.1.2.1),(iv fun _=>x.1.2.2)] 66)],60⟩,fun x=>d.ls.length-x.1.1,?_,?_⟩
 ·refine⟨⟨(0,(-2000,2000)),by simp only [];omega,rfl⟩,?_⟩
  cbv
  repeat' (first
   |with_reducible refine hold ?_ ?_
   |with_reducible refine And.intro ?_ ?_)
  all_goals first
   |trivial
   |exact qM (qE (by rfl))
   |exact qM (Fit.refl _)
   |exact qL (qK _)
   |(refine qL (qJ ?_);(repeat' (first|exact qA|exact qB|refine qC ?_ rfl ?_|refine qD ?_ ?_|exact qE (by rfl)|exact qF (by rfl)|exact Fit.refl _|exact qG _|(refine qE ?_;(try simp only [qV]at *);simp only [zQ,zA,zB,zC,zD,zE,zF,zG,zH,zI,zJ,zK,zL,zM,zN,zO,zP,zR,zS]at *;omega)));done)
   |skip
 ·rintro⟨⟨i,o⟩,hi,ho⟩
  cbv
  dsimp only at hi ho
  repeat' (first
   |with_reducible refine hold ?_ ?_
   |with_reducible refine And.intro ?_ ?_
   |(with_reducible intro hcd;(try simp only [zA,zB,zC,zD,zE,zF,zG,zH,zI,zJ,zK,zL,zM,zN,zO,zP]at hcd);try cbv)
   |fail)
  all_goals first
   |((try simp only [qV]at *);(try simp only [zQ,zA,zB,zC,zD,zE,zF,zG,zH,zI,zJ,zK,zL,zM,zN,zO,zP,zR,zS]at *);first|(refine qN ?_;omega)|(simp only [Hold];omega))
   |(subst hR;(have e:i=d.ls.length:=by((try simp only [qV]at *);(try simp only [zQ,zA,zB,zC,zD,zE,zF,zG,zH,zI,zJ,zK,zL,zM,zN,zO,zP,zR,zS]at *);omega));subst e;subst ho;exact Fit.refl _;done)
   |((have hk0:=hs1 i (by((try simp only [qV]at *);(try simp only [zQ,zA,zB,zC,zD,zE,zF,zG,zH,zI,zJ,zK,zL,zM,zN,zO,zP,zR,zS]at *);omega)));(try simp only [qV]at *);(try simp only [zQ,zA,zB,zC,zD,zE,zF,zG,zH,zI,zJ,zK,zL,zM,zN,zO,zP,zR,zS]at *);(refine qN ?_);omega)
   |((try simp only [zQ,zA,zB,zC,zD,zE,zF,zG,zH,zI,zJ,zK,zL,zM,zN,zO,zP,zR,zS]at *);(have hk0:=hs0 i (by((try simp only [qV]at *);(try simp only [zQ,zA,zB,zC,zD,zE,zF,zG,zH,zI,zJ,zK,zL,zM,zN,zO,zP,zR,zS]at *);omega)));(have hsu:difN (LO d) a b (i+1)=dif2 a b (lkO (d.ls.getD i l0T)) (dif1 a b (lkO (d.ls.getD i l0T)) o):=by rw [unS,umI (by((try simp only [qV]at *);(try simp only [zQ,zA,zB,zC,zD,zE,zF,zG,zH,zI,zJ,zK,zL,zM,zN,zO,zP,zR,zS]at *);omega)),ho]);(have h1:=(usm (a:=a) (b:=b) (x:=(d.ls.getD i l0T)) (r:=o) hk0 (by((try simp only [qV]at *);(try simp only [zQ,zA,zB,zC,zD,zE,zF,zG,zH,zI,zJ,zK,zL,zM,zN,zO,zP,zR,zS]at *);omega)) (by((try simp only [qV]at *);(try simp only [zQ,zA,zB,zC,zD,zE,zF,zG,zH,zI,zJ,zK,zL,zM,zN,zO,zP,zR,zS]at *);omega))));obtain⟨p,ep⟩:∃p:Int×Int,p=(mx o.1 (d.ls.getD i l0T).lo,mn o.2 (d.ls.getD i l0T).hi):=⟨_,rfl⟩;obtain⟨o1,eo1⟩:∃x,x=mx p.1 (0-(d.ls.getD i l0T).hi):=⟨_,rfl⟩;obtain⟨o2,eo2⟩:∃x,x=mn p.2 (0-(d.ls.getD i l0T).lo):=⟨_,rfl⟩;(have h2:=(urR (a:=a) (b:=b) (x:=(d.ls.getD i l0T)) (r:=p) hk0 (by((try simp only [qV]at *);(try simp only [zQ,zA,zB,zC,zD,zE,zF,zG,zH,zI,zJ,zK,zL,zM,zN,zO,zP,zR,zS]at *);omega)) (by((try simp only [qV]at *);(try simp only [zQ,zA,zB,zC,zD,zE,zF,zG,zH,zI,zJ,zK,zL,zM,zN,zO,zP,zR,zS]at *);omega))));(have hy2:((o1,o2):Int×Int)=difN (LO d) a b (i+1):=by rw [hsu,h1,←ep,h2,eo1,eo2]);refine⟨⟨(i+1,(o1,o2)),by((try simp only [qV]at *);(try simp only [zQ,zA,zB,zC,zD,zE,zF,zG,zH,zI,zJ,zK,zL,zM,zN,zO,zP,zR,zS]at *);omega),hy2⟩,by simp only [];omega,?_⟩;cbv;(repeat' (first|with_reducible refine hold ?_ ?_|with_reducible refine And.intro ?_ ?_));(all_goals first|trivial|exact qM (qE (by rfl))|exact qM (qF (by rfl))|exact qM (Fit.refl _)|exact qL (qK _)|(refine qM (qE ?_);(try simp only [qV]at *);simp only [zQ,zA,zB,zC,zD,zE,zF,zG,zH,zI,zJ,zK,zL,zM,zN,zO,zP,zR,zS]at *;omega)|(subst eo1;subst eo2;subst ep;(refine qL (qJ ?_);(repeat' (first|exact qA|exact qB|refine qC ?_ rfl ?_|refine qD ?_ ?_|exact qE (by rfl)|exact qF (by rfl)|exact Fit.refl _|exact qG _|(refine qE ?_;(try simp only [qV]at *);simp only [zQ,zA,zB,zC,zD,zE,zF,zG,zH,zI,zJ,zK,zL,zM,zN,zO,zP,zR,zS]at *;omega)));done))|skip))
   |((try simp only [zQ,zA,zB,zC,zD,zE,zF,zG,zH,zI,zJ,zK,zL,zM,zN,zO,zP,zR,zS]at *);(have hk0:=hs0 i (by((try simp only [qV]at *);(try simp only [zQ,zA,zB,zC,zD,zE,zF,zG,zH,zI,zJ,zK,zL,zM,zN,zO,zP,zR,zS]at *);omega)));(have hsu:difN (LO d) a b (i+1)=dif2 a b (lkO (d.ls.getD i l0T)) (dif1 a b (lkO (d.ls.getD i l0T)) o):=by rw [unS,umI (by((try simp only [qV]at *);(try simp only [zQ,zA,zB,zC,zD,zE,zF,zG,zH,zI,zJ,zK,zL,zM,zN,zO,zP,zR,zS]at *);omega)),ho]);(have h1:=(usm (a:=a) (b:=b) (x:=(d.ls.getD i l0T)) (r:=o) hk0 (by((try simp only [qV]at *);(try simp only [zQ,zA,zB,zC,zD,zE,zF,zG,zH,zI,zJ,zK,zL,zM,zN,zO,zP,zR,zS]at *);omega)) (by((try simp only [qV]at *);(try simp only [zQ,zA,zB,zC,zD,zE,zF,zG,zH,zI,zJ,zK,zL,zM,zN,zO,zP,zR,zS]at *);omega))));obtain⟨o1,eo1⟩:∃x,x=mx o.1 (d.ls.getD i l0T).lo:=⟨_,rfl⟩;obtain⟨o2,eo2⟩:∃x,x=mn o.2 (d.ls.getD i l0T).hi:=⟨_,rfl⟩;(have h2:=(usc (a:=a) (b:=b) (x:=(d.ls.getD i l0T)) (r:=(o1,o2)) hk0 (by((try simp only [qV]at *);(try simp only [zQ,zA,zB,zC,zD,zE,zF,zG,zH,zI,zJ,zK,zL,zM,zN,zO,zP,zR,zS]at *);omega))));(have hy2:((o1,o2):Int×Int)=difN (LO d) a b (i+1):=by rw [hsu,h1,←eo1,←eo2,h2]);refine⟨⟨(i+1,(o1,o2)),by((try simp only [qV]at *);(try simp only [zQ,zA,zB,zC,zD,zE,zF,zG,zH,zI,zJ,zK,zL,zM,zN,zO,zP,zR,zS]at *);omega),hy2⟩,by simp only [];omega,?_⟩;cbv;(repeat' (first|with_reducible refine hold ?_ ?_|with_reducible refine And.intro ?_ ?_));(all_goals first|trivial|exact qM (qE (by rfl))|exact qM (qF (by rfl))|exact qM (Fit.refl _)|exact qL (qK _)|(refine qM (qE ?_);(try simp only [qV]at *);simp only [zQ,zA,zB,zC,zD,zE,zF,zG,zH,zI,zJ,zK,zL,zM,zN,zO,zP,zR,zS]at *;omega)|(subst eo1;subst eo2;(refine qL (qJ ?_);(repeat' (first|exact qA|exact qB|refine qC ?_ rfl ?_|refine qD ?_ ?_|exact qE (by rfl)|exact qF (by rfl)|exact Fit.refl _|exact qG _|(refine qE ?_;(try simp only [qV]at *);simp only [zQ,zA,zB,zC,zD,zE,zF,zG,zH,zI,zJ,zK,zL,zM,zN,zO,zP,zR,zS]at *;omega)));done))|skip))
   |((try simp only [zQ,zA,zB,zC,zD,zE,zF,zG,zH,zI,zJ,zK,zL,zM,zN,zO,zP,zR,zS]at *);(have hk0:=hs0 i (by((try simp only [qV]at *);(try simp only [zQ,zA,zB,zC,zD,zE,zF,zG,zH,zI,zJ,zK,zL,zM,zN,zO,zP,zR,zS]at *);omega)));(have hsu:difN (LO d) a b (i+1)=dif2 a b (lkO (d.ls.getD i l0T)) (dif1 a b (lkO (d.ls.getD i l0T)) o):=by rw [unS,umI (by((try simp only [qV]at *);(try simp only [zQ,zA,zB,zC,zD,zE,zF,zG,zH,zI,zJ,zK,zL,zM,zN,zO,zP,zR,zS]at *);omega)),ho]);(have h1:=(urV (a:=a) (b:=b) (x:=(d.ls.getD i l0T)) (r:=o) hk0 (by((try simp only [qV]at *);(try simp only [zQ,zA,zB,zC,zD,zE,zF,zG,zH,zI,zJ,zK,zL,zM,zN,zO,zP,zR,zS]at *);omega))));obtain⟨o1,eo1⟩:∃x,x=mx o.1 (0-(d.ls.getD i l0T).hi):=⟨_,rfl⟩;obtain⟨o2,eo2⟩:∃x,x=mn o.2 (0-(d.ls.getD i l0T).lo):=⟨_,rfl⟩;(have h2:=(urR (a:=a) (b:=b) (x:=(d.ls.getD i l0T)) (r:=o) hk0 (by((try simp only [qV]at *);(try simp only [zQ,zA,zB,zC,zD,zE,zF,zG,zH,zI,zJ,zK,zL,zM,zN,zO,zP,zR,zS]at *);omega)) (by((try simp only [qV]at *);(try simp only [zQ,zA,zB,zC,zD,zE,zF,zG,zH,zI,zJ,zK,zL,zM,zN,zO,zP,zR,zS]at *);omega))));(have hy2:((o1,o2):Int×Int)=difN (LO d) a b (i+1):=by rw [hsu,h1,h2,eo1,eo2]);refine⟨⟨(i+1,(o1,o2)),by((try simp only [qV]at *);(try simp only [zQ,zA,zB,zC,zD,zE,zF,zG,zH,zI,zJ,zK,zL,zM,zN,zO,zP,zR,zS]at *);omega),hy2⟩,by simp only [];omega,?_⟩;cbv;(repeat' (first|with_reducible refine hold ?_ ?_|with_reducible refine And.intro ?_ ?_));(all_goals first|trivial|exact qM (qE (by rfl))|exact qM (qF (by rfl))|exact qM (Fit.refl _)|exact qL (qK _)|(refine qM (qE ?_);(try simp only [qV]at *);simp only [zQ,zA,zB,zC,zD,zE,zF,zG,zH,zI,zJ,zK,zL,zM,zN,zO,zP,zR,zS]at *;omega)|(subst eo1;subst eo2;(refine qL (qJ ?_);(repeat' (first|exact qA|exact qB|refine qC ?_ rfl ?_|refine qD ?_ ?_|exact qE (by rfl)|exact qF (by rfl)|exact Fit.refl _|exact qG _|(refine qE ?_;(try simp only [qV]at *);simp only [zQ,zA,zB,zC,zD,zE,zF,zG,zH,zI,zJ,zK,zL,zM,zN,zO,zP,zR,zS]at *;omega)));done))|skip))
   |((try simp only [zQ,zA,zB,zC,zD,zE,zF,zG,zH,zI,zJ,zK,zL,zM,zN,zO,zP,zR,zS]at *);(have hk0:=hs0 i (by((try simp only [qV]at *);(try simp only [zQ,zA,zB,zC,zD,zE,zF,zG,zH,zI,zJ,zK,zL,zM,zN,zO,zP,zR,zS]at *);omega)));(have hsu:difN (LO d) a b (i+1)=dif2 a b (lkO (d.ls.getD i l0T)) (dif1 a b (lkO (d.ls.getD i l0T)) o):=by rw [unS,umI (by((try simp only [qV]at *);(try simp only [zQ,zA,zB,zC,zD,zE,zF,zG,zH,zI,zJ,zK,zL,zM,zN,zO,zP,zR,zS]at *);omega)),ho]);(have h1:=(urV (a:=a) (b:=b) (x:=(d.ls.getD i l0T)) (r:=o) hk0 (by((try simp only [qV]at *);(try simp only [zQ,zA,zB,zC,zD,zE,zF,zG,zH,zI,zJ,zK,zL,zM,zN,zO,zP,zR,zS]at *);omega))));(have h2:=(usc (a:=a) (b:=b) (x:=(d.ls.getD i l0T)) (r:=o) hk0 (by((try simp only [qV]at *);(try simp only [zQ,zA,zB,zC,zD,zE,zF,zG,zH,zI,zJ,zK,zL,zM,zN,zO,zP,zR,zS]at *);omega))));(have hy2:o=difN (LO d) a b (i+1):=by rw [hsu,h1,h2]);refine⟨⟨(i+1,o),by((try simp only [qV]at *);(try simp only [zQ,zA,zB,zC,zD,zE,zF,zG,zH,zI,zJ,zK,zL,zM,zN,zO,zP,zR,zS]at *);omega),hy2⟩,by simp only [];omega,?_⟩;cbv;(repeat' (first|with_reducible refine hold ?_ ?_|with_reducible refine And.intro ?_ ?_));(all_goals first|trivial|exact qM (qE (by rfl))|exact qM (qF (by rfl))|exact qM (Fit.refl _)|exact qL (qK _)|(refine qM (qE ?_);(try simp only [qV]at *);simp only [zQ,zA,zB,zC,zD,zE,zF,zG,zH,zI,zJ,zK,zL,zM,zN,zO,zP,zR,zS]at *;omega)|((refine qL (qJ ?_);(repeat' (first|exact qA|exact qB|refine qC ?_ rfl ?_|refine qD ?_ ?_|exact qE (by rfl)|exact qF (by rfl)|exact Fit.refl _|exact qG _|(refine qE ?_;(try simp only [qV]at *);simp only [zQ,zA,zB,zC,zD,zE,zF,zG,zH,zI,zJ,zK,zL,zM,zN,zO,zP,zR,zS]at *;omega)));done))|skip))
   |skip
theorem uhO {a b l h:Int}(ha:l≤a∧a≤h)(hb:l≤b∧b≤h):l≤mx a b∧mx a b≤h:=by unfold mx;split<;>omega
theorem uhY {a b l h:Int}(ha:l≤a∧a≤h)(hb:l≤b∧b≤h):l≤mn a b∧mn a b≤h:=by unfold mn;split<;>omega
theorem uqE {fs:List Fa}(h:∀i,i<fs.length→0≤(fs.getD i f0).lo∧(fs.getD i f0).lo≤2000∧0≤(fs.getD i f0).hi∧(fs.getD i f0).hi≤2000)(c:Nat→Bool)(s:Nat):∀{n:Nat},n≤fs.length→(0≤(ownN fs c s n).1∧(ownN fs c s n).1≤2000)∧0≤(ownN fs c s n).2∧(ownN fs c s n).2≤2000:=by
 intro n
 induction n with
 |zero=>intro _;exact⟨⟨by simp only [ownN];omega,by simp only [ownN];omega⟩,by simp only [ownN];omega,by simp only [ownN];omega⟩
 | succ n ih=>
  intro hn
  have q:=ih (by omega)
  have k:=h n (by omega)
  simp only [ownN]
  split
  ·exact⟨uhO q.1 ⟨k.1,k.2.1⟩,uhY q.2 ⟨k.2.2.1,k.2.2.2⟩⟩
  ·exact q
theorem uro {ls:List Lk} {a b:Nat}(h:∀i,i<ls.length→(-2000≤(ls.getD i lk0).lo∧(ls.getD i lk0).lo≤2000)∧ -2000≤(ls.getD i lk0).hi∧(ls.getD i lk0).hi≤2000):∀{n:Nat},n≤ls.length→(-2000≤(difN ls a b n).1∧(difN ls a b n).1≤2000)∧ -2000≤(difN ls a b n).2∧(difN ls a b n).2≤2000:=by
 intro n
 induction n with
 |zero=>intro _;exact⟨⟨by simp only [difN];omega,by simp only [difN];omega⟩,by simp only [difN];omega,by simp only [difN];omega⟩
 | succ n ih=>
  intro hn
  have q:=ih (by omega)
  have k:=h n (by omega)
  have q1:(-2000≤(dif1 a b (ls.getD n lk0) (difN ls a b n)).1∧(dif1 a b (ls.getD n lk0) (difN ls a b n)).1≤2000)∧ -2000≤(dif1 a b (ls.getD n lk0) (difN ls a b n)).2∧(dif1 a b (ls.getD n lk0) (difN ls a b n)).2≤2000:=by
   unfold dif1
   split
   ·exact⟨uhO q.1 k.1,uhY q.2 k.2⟩
   ·exact q
  rw [unS]
  unfold dif2
  split
  ·exact⟨uhO q1.1 ⟨by omega,by omega⟩,uhY q1.2 ⟨by omega,by omega⟩⟩
  ·exact q1
theorem uuL {d:Dsp}(hd:DOk d):∀i,i<(FO d d.fs).length→0≤((FO d d.fs).getD i f0).lo∧((FO d d.fs).getD i f0).lo≤2000∧0≤((FO d d.fs).getD i f0).hi∧((FO d d.fs).getD i f0).hi≤2000:=fun i hi=>by
 rw [ucz]at hi
 rw [umE hi]
 have:=uk5 hd.t (hd.f i hi)
 unfold faO
 dsimp only
 omega
theorem uus {d:Dsp}(hd:DOk d):∀i,i<(LO d).length→(-2000≤((LO d).getD i lk0).lo∧((LO d).getD i lk0).lo≤2000)∧ -2000≤((LO d).getD i lk0).hi∧((LO d).getD i lk0).hi≤2000:=fun i hi=>by
 rw [ufX]at hi
 rw [umI hi]
 have:=hd.l i hi
 unfold ucw at this
 unfold lkO
 dsimp only
 omega
theorem ufs {d:Dsp}(hd:DOk d)(b s:Nat):(0≤(ownN (FO d d.fs) (outN b) s d.fs.length).1∧(ownN (FO d d.fs) (outN b) s d.fs.length).1≤2000)∧0≤(ownN (FO d d.fs) (outN b) s d.fs.length).2∧(ownN (FO d d.fs) (outN b) s d.fs.length).2≤2000:=uqE (uuL hd) _ _ (by rw [ucz];exact Nat.le_refl _)
theorem uhQ {d:Dsp}(hd:DOk d)(a b:Nat):(-2000≤(difN (LO d) a b d.ls.length).1∧(difN (LO d) a b d.ls.length).1≤2000)∧ -2000≤(difN (LO d) a b d.ls.length).2∧(difN (LO d) a b d.ls.length).2≤2000:=uro (uus hd) (by rw [ufX];exact Nat.le_refl _)
theorem usR {s:Six} {n:Int}(h:mn s.h1 (n+s.ah)<mx s.l1 (n+s.al)):goB s n=false:=by
 unfold goB bL bH
 rw [decide_eq_false (p:=_∧_) (fun q=>by have:=q.1;omega)];rfl
theorem uu0 {s:Six} {n:Int}(h:mn s.h2 (n+s.bh)<mx s.l2 (n+s.bl)):goB s n=false:=by
 unfold goB cL cH
 rw [decide_eq_false (p:=_∧_) (fun q=>by have:=q.2;omega)];rfl
theorem ukB {s:Six} {n:Int}(h:s.ch<s.cl∨xH s n<xL s n∨yH s n<yL s n):goB s n=false:=by
 unfold goB
 rw [decide_eq_false (p:=s.cl≤s.ch∧_) (fun q=>by have:=q.2;have:=q.1;omega),Bool.and_false]
theorem go_t {s:Six} {n:Int}(h1:¬mn s.h1 (n+s.ah)<mx s.l1 (n+s.al))(h2:¬mn s.h2 (n+s.bh)<mx s.l2 (n+s.bl))(h3:¬s.ch<s.cl)(h4:¬xH s n<xL s n)(h5:¬yH s n<yL s n):goB s n=true:=by
 unfold goB
 rw [decide_eq_true (show bL s n≤bH s n∧cL s n≤cH s n from⟨Int.not_lt.1 h1,Int.not_lt.1 h2⟩),decide_eq_true (show s.cl≤s.ch∧xL s n≤xH s n∧yL s n≤yH s n from⟨Int.not_lt.1 h3,Int.not_lt.1 h4,Int.not_lt.1 h5⟩)];rfl
theorem ucR {s:Six} {k:Nat} {n:Int} {b:Bnd}(hn:n=s.l0+(k:Int))(hb:b=bdN s k)(h:goB s n=false):b=bdN s (k+1):=by
 subst hn;subst hb
 simp only [bdN,bdS,h,Bool.false_eq_true,if_false]
theorem uky {s:Six} {k:Nat} {n:Int} {b o:Bnd}(hn:n=s.l0+(k:Int))(hb:b=bdN s k)(h:goB s n=true)(ho:o=⟨mn b.l0 n,mx b.h0 n,mn b.l1 (xL s n),mx b.h1 (xH s n),mn b.l2 (yL s n),mx b.h2 (yH s n)⟩):o=bdN s (k+1):=by
 subst hn;subst hb;subst ho
 simp only [bdN,bdS,h,if_true]
set_option maxHeartbeats 2000000 in
theorem ute (d:Dsp)(b:Nat)(hd:DOk d)(hb:b≤1000)(hS:d.sn=1):ua0 Tryz.prog 26 [(.agg [(iS d.tw),(iS d.tm),(.sl 1 (.sym fun _=>zi (d.tv).length) (fun ix=>[(.sl 1 (.sym fun _=>zi ((d.tv).getD ix.den.toNat []).length) (fun jx=>[(iv fun _=>((d.tv).getD ix.den.toNat []).getD jx.den.toNat 0)]))])),(.int .i64 (.lit 1)),(iv fun _=>d.pn),(.sl 4 (.sym fun _=>zi (d.ls).length) (fun ix=>[(iv fun _=>((d.ls).getD ix.den.toNat l0T).a),(iv fun _=>((d.ls).getD ix.den.toNat l0T).b),(iv fun _=>((d.ls).getD ix.den.toNat l0T).lo),(iv fun _=>((d.ls).getD ix.den.toNat l0T).hi)])),(.sl 6 (.sym fun _=>zi (d.fs).length) (fun ix=>[(iv fun _=>((d.fs).getD ix.den.toNat f0T).p),(iv fun _=>((d.fs).getD ix.den.toNat f0T).s),(iv fun _=>((d.fs).getD ix.den.toNat f0T).wl),(iv fun _=>((d.fs).getD ix.den.toNat f0T).wh),(iv fun _=>((d.fs).getD ix.den.toNat f0T).ml),(iv fun _=>((d.fs).getD ix.den.toNat f0T).mh)]))]),(.sl 2 (.sym fun _=>zi (d.fs).length) (fun ix=>[(iv fun _=>((FO d d.fs).getD ix.den.toNat f0).lo),(iv fun _=>((FO d d.fs).getD ix.den.toNat f0).hi)])),(iv fun _=>zi b)] [] (fun r _=>r=(.tup [(.sl 2 (.sym fun _=>zi 1) (fun ix=>[(iv fun _=>(allS (sixN (SN d) (LO d) (FO d d.fs) (outN b))).lo ix.den.toNat),(iv fun _=>(allS (sixN (SN d) (LO d) (FO d d.fs) (outN b))).hi ix.den.toNat)])),(.bool (.sym fun _=>decide (0≤(allS (sixN (SN d) (LO d) (FO d d.fs) (outN b))).h0)))])):=by
 have c64:=fun s=>utj d b s hd hb
 have c65:=fun a e=>ujT d a e hd
 have c66:=uob
 have f6:=hd.f6
 have l4:=hd.l4
 obtain⟨s6,hs6⟩:∃s6,s6=sixN (SN d) (LO d) (FO d d.fs) (outN b):=⟨_,rfl⟩
 have hSN:SN d=1:=by unfold SN;omega
 have hfl:=ucz d d.fs
 have hll:=ufX d
 have el0:(ownN (FO d d.fs) (outN b) 0 d.fs.length).1=s6.l0:=by rw [hs6];simp only [sixN,hSN,hfl,hll];try rfl
 have eh0:(ownN (FO d d.fs) (outN b) 0 d.fs.length).2=s6.h0:=by rw [hs6];simp only [sixN,hSN,hfl,hll];try rfl
 have el1:(0:Int)=s6.l1:=by rw [hs6];simp only [sixN,hSN,hfl,hll];try rfl
 have eh1:(0:Int)=s6.h1:=by rw [hs6];simp only [sixN,hSN,hfl,hll];try rfl
 have el2:(0:Int)=s6.l2:=by rw [hs6];simp only [sixN,hSN,hfl,hll];try rfl
 have eh2:(0:Int)=s6.h2:=by rw [hs6];simp only [sixN,hSN,hfl,hll];try rfl
 have eal:(-2000:Int)=s6.al:=by rw [hs6];simp only [sixN,hSN,hfl,hll];try rfl
 have eah:(2000:Int)=s6.ah:=by rw [hs6];simp only [sixN,hSN,hfl,hll];try rfl
 have ebl:(-2000:Int)=s6.bl:=by rw [hs6];simp only [sixN,hSN,hfl,hll];try rfl
 have ebh:(2000:Int)=s6.bh:=by rw [hs6];simp only [sixN,hSN,hfl,hll];try rfl
 have ecl:(-2000:Int)=s6.cl:=by rw [hs6];simp only [sixN,hSN,hfl,hll];try rfl
 have ech:(2000:Int)=s6.ch:=by rw [hs6];simp only [sixN,hSN,hfl,hll];try rfl
 have o0:=ufs hd b 0
 have q0:(0≤s6.l0∧s6.l0≤2000)∧0≤s6.h0∧s6.h0≤2000:=by omega
 have q1:(0≤s6.l1∧s6.l1≤2000)∧0≤s6.h1∧s6.h1≤2000:=by omega
 have q2:(0≤s6.l2∧s6.l2≤2000)∧0≤s6.h2∧s6.h2≤2000:=by omega
 have p0:(-2000≤s6.al∧s6.al≤2000)∧ -2000≤s6.ah∧s6.ah≤2000:=by omega
 have p1:(-2000≤s6.bl∧s6.bl≤2000)∧ -2000≤s6.bh∧s6.bh≤2000:=by omega
 have p2:(-2000≤s6.cl∧s6.cl≤2000)∧ -2000≤s6.ch∧s6.ch≤2000:=by omega
 rw [←hs6]
 clear hs6
 clear o0
 refine ua0.is fun R hR=>qW (sc:=sc26) tyok mix Tryz.func26 rfl Tryz.call26 (by kernel_rfl) (by kernel_rfl) ?_
 generalize Tryz.prog=P at c64 c65 c66⊢
 cbv
 repeat' (first
  |fail)
 all_goals first
  |skip
 refine⟨some 2,?_⟩
 cbv
 repeat' (first
  | (refine qP ?_ (c64 0) ?hfit
     case hfit=>((refine qD (qC (Fit.refl _) rfl (qC (Fit.refl _) rfl (qC (Fit.refl _) rfl (qC (qE (by first|rfl|exact hS.symm)) rfl (Fit.refl _))))) (qD (Fit.refl _) (qD (qE (by rfl)) (qD (Fit.refl _) qB))));done)
     try cbv)
  |fail)
 all_goals first
  |skip
 refine⟨none,[],{x:Nat×Int×Bnd // x.1≤(s6.h0-s6.l0+1).toNat∧x.2.1=s6.l0+zi x.1∧x.2.2=bdN s6 x.1},fun x=>⟨[(3,.own 0 0),(8,.own 7 0),(10,.own 32 0),(11,.own 33 0),(12,.own 34 0),(13,.own 48 0),(14,(iv fun _=>x.1.2.1))],[(0,.cells [(iS d.tw),(iS d.tm),(.sl 1 (.sym fun _=>zi (d.tv).length) (fun ix=>[(.sl 1 (.sym fun _=>zi ((d.tv).getD ix.den.toNat []).length) (fun jx=>[(iv fun _=>((d.tv).getD ix.den.toNat []).getD jx.den.toNat 0)]))])),(.int .i64 (.lit 1)),(iv fun _=>d.pn),(.sl 4 (.sym fun _=>zi (d.ls).length) (fun ix=>[(iv fun _=>((d.ls).getD ix.den.toNat l0T).a),(iv fun _=>((d.ls).getD ix.den.toNat l0T).b),(iv fun _=>((d.ls).getD ix.den.toNat l0T).lo),(iv fun _=>((d.ls).getD ix.den.toNat l0T).hi)])),(.sl 6 (.sym fun _=>zi (d.fs).length) (fun ix=>[(iv fun _=>((d.fs).getD ix.den.toNat f0T).p),(iv fun _=>((d.fs).getD ix.den.toNat f0T).s),(iv fun _=>((d.fs).getD ix.den.toNat f0T).wl),(iv fun _=>((d.fs).getD ix.den.toNat f0T).wh),(iv fun _=>((d.fs).getD ix.den.toNat f0T).ml),(iv fun _=>((d.fs).getD ix.den.toNat f0T).mh)]))] 29),(7,.cells [(iv fun _=>s6.l0),(iv fun _=>s6.h0),(iv fun _=>s6.l1),(iv fun _=>s6.h1),(iv fun _=>s6.l2),(iv fun _=>s6.h2)] 124),(32,.cells [(iv fun _=>s6.al),(iv fun _=>s6.ah)] 66),(33,.cells [(iv fun _=>s6.bl),(iv fun _=>s6.bh)] 66),(34,.cells [(iv fun _=>s6.cl),(iv fun _=>s6.ch)] 66),(48,.cells [(iv fun _=>x.1.2.2.l0),(iv fun _=>x.1.2.2.h0),(iv fun _=>x.1.2.2.l1),(iv fun _=>x.1.2.2.h1),(iv fun _=>x.1.2.2.l2),(iv fun _=>x.1.2.2.h2)] 124)],400⟩,fun x=>(s6.h0-s6.l0+1).toNat-x.1.1,?_,?_⟩
 ·refine⟨⟨(0,s6.l0,bd0),by simp only [];omega,by simp only [ua9];omega,rfl⟩,?_⟩
  cbv
  repeat' (first
   |with_reducible refine hold ?_ ?_
   |with_reducible refine And.intro ?_ ?_)
  all_goals first
   |trivial
   |exact qM (Fit.refl _)
   |exact qL (qK _)
   |(refine qM (qE ?_);(try simp only [qV]at *);simp only [zQ,zA,zB,zC,zD,zE,zF,zG,zH,zI,zJ,zK,zL,zM,zN,zO,zP,zR,zS]at *;omega)
   |(refine qL (qJ ?_);(repeat' (first|exact qA|refine qC ?_ rfl ?_|exact qE (by first|rfl|exact el0|exact eh0|exact el1|exact eh1|exact el2|exact eh2|exact eal|exact eah|exact ebl|exact ebh|exact ecl|exact ech)));done)
   |skip
 ·rintro ⟨⟨k,n,w⟩,hk,hn,hb⟩
  cbv
  dsimp only at hk hn hb
  repeat' (first
   |(with_reducible intro hcd;exfalso;(try simp only [zQ,zA,zB,zC,zD,zE,zF,zG,zH,zI,zJ,zK,zL,zM,zN,zO,zP,zR,zS]at hcd);omega)
   |with_reducible refine hold ?_ ?_
   |with_reducible refine And.intro ?_ ?_
   |(with_reducible intro hcd;(try simp only [zA,zB,zC,zD,zE,zF,zG,zH,zI,zJ,zK,zL,zM,zN,zO,zP]at hcd);try cbv)
   | (refine qP ?_ (c66 _ _ _ _) (by(repeat' (first|exact qB|refine qD ?_ ?_|exact qE (by rfl)|exact qF (by rfl)|exact Fit.refl _|exact qA|refine qC ?_ rfl ?_)))
      try cbv)
   | (refine⟨some 4,?_⟩
      cbv)
   |fail)
  all_goals first
   |trivial
   |((try clear c66);(try clear c64);(try clear c65);((try simp only [qV]at *);(try simp only [zQ,zA,zB,zC,zD,zE,zF,zG,zH,zI,zJ,zK,zL,zM,zN,zO,zP,zR,zS]at *);first|(refine qN ?_;omega)|(simp only [Hold];omega)))
   |((try clear c66);(try clear c64);(try clear c65);((try clear el0 eh0 el1 eh1 el2 eh2 eal eah ebl ebh ecl ech hb hfl hll hSN f6 l4 hd);(try simp only [qV]at *);(try simp only [zQ,zA,zB,zC,zD,zE,zF,zG,zH,zI,zJ,zK,zL,zM,zN,zO,zP,zR,zS]at *);have hk8:n≤2000:=(by omega);(have v1:=uhO (a:=s6.l1) (b:=n+s6.al) (l:= -4000) (h:=4000) ⟨by omega,by omega⟩ ⟨by omega,by omega⟩);(have v2:=uhY (a:=s6.h1) (b:=n+s6.ah) (l:= -4000) (h:=4000) ⟨by omega,by omega⟩ ⟨by omega,by omega⟩);(have v3:=uhO (a:=s6.l2) (b:=n+s6.bl) (l:= -4000) (h:=4000) ⟨by omega,by omega⟩ ⟨by omega,by omega⟩);(have v4:=uhY (a:=s6.h2) (b:=n+s6.bh) (l:= -4000) (h:=4000) ⟨by omega,by omega⟩ ⟨by omega,by omega⟩);(refine qN ?_);omega))
   |((try clear c66);(try clear c64);(try clear c65);((try simp only [zQ,zA,zB,zC,zD,zE,zF,zG,zH,zI,zJ,zK,zL,zM,zN,zO,zP,zR,zS]at *);(have hk2:k+1≤(s6.h0-s6.l0+1).toNat:=by((try simp only [qV]at *);(try simp only [zQ,zA,zB,zC,zD,zE,zF,zG,zH,zI,zJ,zK,zL,zM,zN,zO,zP,zR,zS]at *);omega));obtain⟨n1,en1⟩:∃z,z=n+1:=⟨_,rfl⟩;(have hn2:n1=s6.l0+zi (k+1):=by((try simp only [qV]at *);(try simp only [zQ,zA,zB,zC,zD,zE,zF,zG,zH,zI,zJ,zK,zL,zM,zN,zO,zP,zR,zS]at *);omega));(have hb2:=ucR hn hb (usR (by assumption)));refine⟨⟨(k+1,n1,w),hk2,hn2,hb2⟩,by simp only [];omega,?_⟩;cbv;(repeat' (first|with_reducible refine hold ?_ ?_|with_reducible refine And.intro ?_ ?_));(all_goals first|trivial|exact qM (qE (by rfl))|exact qM (qF (by rfl))|exact qM (Fit.refl _)|exact qL (qK _)|(refine qM (qE ?_);(try simp only [qV]at *);simp only [zQ,zA,zB,zC,zD,zE,zF,zG,zH,zI,zJ,zK,zL,zM,zN,zO,zP,zR,zS]at *;omega)|(subst en1;exact qM (qE (by rfl)))|(refine qL (qJ ?_);(repeat' (first|exact qA|exact qB|refine qC ?_ rfl ?_|refine qD ?_ ?_|exact qE (by rfl)|exact qF (by rfl)|exact Fit.refl _|exact qG _|(refine qE ?_;(try simp only [qV]at *);simp only [zQ,zA,zB,zC,zD,zE,zF,zG,zH,zI,zJ,zK,zL,zM,zN,zO,zP,zR,zS]at *;omega)));done)|skip)))
   |((try clear c66);(try clear c64);(try clear c65);((try simp only [zQ,zA,zB,zC,zD,zE,zF,zG,zH,zI,zJ,zK,zL,zM,zN,zO,zP,zR,zS]at *);(have hk2:k+1≤(s6.h0-s6.l0+1).toNat:=by((try simp only [qV]at *);(try simp only [zQ,zA,zB,zC,zD,zE,zF,zG,zH,zI,zJ,zK,zL,zM,zN,zO,zP,zR,zS]at *);omega));obtain⟨n1,en1⟩:∃z,z=n+1:=⟨_,rfl⟩;(have hn2:n1=s6.l0+zi (k+1):=by((try simp only [qV]at *);(try simp only [zQ,zA,zB,zC,zD,zE,zF,zG,zH,zI,zJ,zK,zL,zM,zN,zO,zP,zR,zS]at *);omega));(have hb2:=ucR hn hb (uu0 (by assumption)));refine⟨⟨(k+1,n1,w),hk2,hn2,hb2⟩,by simp only [];omega,?_⟩;cbv;(repeat' (first|with_reducible refine hold ?_ ?_|with_reducible refine And.intro ?_ ?_));(all_goals first|trivial|exact qM (qE (by rfl))|exact qM (qF (by rfl))|exact qM (Fit.refl _)|exact qL (qK _)|(refine qM (qE ?_);(try simp only [qV]at *);simp only [zQ,zA,zB,zC,zD,zE,zF,zG,zH,zI,zJ,zK,zL,zM,zN,zO,zP,zR,zS]at *;omega)|(subst en1;exact qM (qE (by rfl)))|(refine qL (qJ ?_);(repeat' (first|exact qA|exact qB|refine qC ?_ rfl ?_|refine qD ?_ ?_|exact qE (by rfl)|exact qF (by rfl)|exact Fit.refl _|exact qG _|(refine qE ?_;(try simp only [qV]at *);simp only [zQ,zA,zB,zC,zD,zE,zF,zG,zH,zI,zJ,zK,zL,zM,zN,zO,zP,zR,zS]at *;omega)));done)|skip)))
   |((try clear c66);(try clear c64);(try clear c65);((try simp only [zQ,zA,zB,zC,zD,zE,zF,zG,zH,zI,zJ,zK,zL,zM,zN,zO,zP,zR,zS]at *);(have hk2:k+1≤(s6.h0-s6.l0+1).toNat:=by((try simp only [qV]at *);(try simp only [zQ,zA,zB,zC,zD,zE,zF,zG,zH,zI,zJ,zK,zL,zM,zN,zO,zP,zR,zS]at *);omega));obtain⟨n1,en1⟩:∃z,z=n+1:=⟨_,rfl⟩;(have hn2:n1=s6.l0+zi (k+1):=by((try simp only [qV]at *);(try simp only [zQ,zA,zB,zC,zD,zE,zF,zG,zH,zI,zJ,zK,zL,zM,zN,zO,zP,zR,zS]at *);omega));(have hb2:=ucR hn hb (ukB (.inr (.inl (by assumption)))));refine⟨⟨(k+1,n1,w),hk2,hn2,hb2⟩,by simp only [];omega,?_⟩;cbv;(repeat' (first|with_reducible refine hold ?_ ?_|with_reducible refine And.intro ?_ ?_));(all_goals first|trivial|exact qM (qE (by rfl))|exact qM (qF (by rfl))|exact qM (Fit.refl _)|exact qL (qK _)|(refine qM (qE ?_);(try simp only [qV]at *);simp only [zQ,zA,zB,zC,zD,zE,zF,zG,zH,zI,zJ,zK,zL,zM,zN,zO,zP,zR,zS]at *;omega)|(subst en1;exact qM (qE (by rfl)))|(refine qL (qJ ?_);(repeat' (first|exact qA|exact qB|refine qC ?_ rfl ?_|refine qD ?_ ?_|exact qE (by rfl)|exact qF (by rfl)|exact Fit.refl _|exact qG _|(refine qE ?_;(try simp only [qV]at *);simp only [zQ,zA,zB,zC,zD,zE,zF,zG,zH,zI,zJ,zK,zL,zM,zN,zO,zP,zR,zS]at *;omega)));done)|skip)))
   |((try clear c66);(try clear c64);(try clear c65);((try simp only [zQ,zA,zB,zC,zD,zE,zF,zG,zH,zI,zJ,zK,zL,zM,zN,zO,zP,zR,zS]at *);(have hk2:k+1≤(s6.h0-s6.l0+1).toNat:=by((try simp only [qV]at *);(try simp only [zQ,zA,zB,zC,zD,zE,zF,zG,zH,zI,zJ,zK,zL,zM,zN,zO,zP,zR,zS]at *);omega));obtain⟨n1,en1⟩:∃z,z=n+1:=⟨_,rfl⟩;(have hn2:n1=s6.l0+zi (k+1):=by((try simp only [qV]at *);(try simp only [zQ,zA,zB,zC,zD,zE,zF,zG,zH,zI,zJ,zK,zL,zM,zN,zO,zP,zR,zS]at *);omega));(have hb2:=ucR hn hb (ukB (.inr (.inr (by assumption)))));refine⟨⟨(k+1,n1,w),hk2,hn2,hb2⟩,by simp only [];omega,?_⟩;cbv;(repeat' (first|with_reducible refine hold ?_ ?_|with_reducible refine And.intro ?_ ?_));(all_goals first|trivial|exact qM (qE (by rfl))|exact qM (qF (by rfl))|exact qM (Fit.refl _)|exact qL (qK _)|(refine qM (qE ?_);(try simp only [qV]at *);simp only [zQ,zA,zB,zC,zD,zE,zF,zG,zH,zI,zJ,zK,zL,zM,zN,zO,zP,zR,zS]at *;omega)|(subst en1;exact qM (qE (by rfl)))|(refine qL (qJ ?_);(repeat' (first|exact qA|exact qB|refine qC ?_ rfl ?_|refine qD ?_ ?_|exact qE (by rfl)|exact qF (by rfl)|exact Fit.refl _|exact qG _|(refine qE ?_;(try simp only [qV]at *);simp only [zQ,zA,zB,zC,zD,zE,zF,zG,zH,zI,zJ,zK,zL,zM,zN,zO,zP,zR,zS]at *;omega)));done)|skip)))
   |((try clear c66);(try clear c64);(try clear c65);((try simp only [zQ,zA,zB,zC,zD,zE,zF,zG,zH,zI,zJ,zK,zL,zM,zN,zO,zP,zR,zS]at *);(have hk2:k+1≤(s6.h0-s6.l0+1).toNat:=by((try simp only [qV]at *);(try simp only [zQ,zA,zB,zC,zD,zE,zF,zG,zH,zI,zJ,zK,zL,zM,zN,zO,zP,zR,zS]at *);omega));obtain⟨n1,en1⟩:∃z,z=n+1:=⟨_,rfl⟩;(have hn2:n1=s6.l0+zi (k+1):=by((try simp only [qV]at *);(try simp only [zQ,zA,zB,zC,zD,zE,zF,zG,zH,zI,zJ,zK,zL,zM,zN,zO,zP,zR,zS]at *);omega));obtain⟨o,eo⟩:∃o:Bnd,o=⟨mn w.l0 n,mx w.h0 n,mn w.l1 (xL s6 n),mx w.h1 (xH s6 n),mn w.l2 (yL s6 n),mx w.h2 (yH s6 n)⟩:=⟨_,rfl⟩;(have hb2:=uky hn hb (go_t (by assumption) (by assumption) (by assumption) (by assumption) (by assumption)) eo);refine⟨⟨(k+1,n1,o),hk2,hn2,hb2⟩,by simp only [];omega,?_⟩;cbv;(repeat' (first|with_reducible refine hold ?_ ?_|with_reducible refine And.intro ?_ ?_));(all_goals first|trivial|exact qM (qE (by rfl))|exact qM (qF (by rfl))|exact qM (Fit.refl _)|exact qL (qK _)|(refine qM (qE ?_);(try simp only [qV]at *);simp only [zQ,zA,zB,zC,zD,zE,zF,zG,zH,zI,zJ,zK,zL,zM,zN,zO,zP,zR,zS]at *;omega)|(subst en1;exact qM (qE (by rfl)))|(subst eo;(refine qL (qJ ?_));(repeat' (first|exact qA|exact qB|refine qC ?_ rfl ?_|refine qD ?_ ?_|exact qE (by rfl)|exact qF (by rfl)|exact Fit.refl _|exact qG _|(refine qE ?_;(try simp only [qV]at *);simp only [zQ,zA,zB,zC,zD,zE,zF,zG,zH,zI,zJ,zK,zL,zM,zN,zO,zP,zR,zS]at *;omega)));done)|(refine qL (qJ ?_);(repeat' (first|exact qA|exact qB|refine qC ?_ rfl ?_|refine qD ?_ ?_|exact qE (by rfl)|exact qF (by rfl)|exact Fit.refl _|exact qG _|(refine qE ?_;(try simp only [qV]at *);simp only [zQ,zA,zB,zC,zD,zE,zF,zG,zH,zI,zJ,zK,zL,zM,zN,zO,zP,zR,zS]at *;omega)));done)|skip)))
   |((try clear c66);(try clear c64);(try clear c65);(subst hR;(have e:k=(s6.h0-s6.l0+1).toNat:=by((try simp only [qV]at *);(try simp only [zQ,zA,zB,zC,zD,zE,zF,zG,zH,zI,zJ,zK,zL,zM,zN,zO,zP,zR,zS]at *);omega));subst e;subst hb;(refine qD ?_ (qD (qF (by rfl)) qB));(refine ua1 (by rfl) (fun ix h0 h1=> ?_);(have h2:ix.den<1:=h1);(have hx:ix.den.toNat=0:=by omega);(rcases hx with hx<;>simp only [hx]));all_goals (exact qC (qE (by rfl)) rfl (qC (qE (by rfl)) rfl qA))))
   |skip
set_option maxHeartbeats 2000000 in
theorem usz (d:Dsp)(b:Nat)(hd:DOk d)(hb:b≤1000)(hS:d.sn=2):ua0 Tryz.prog 26 [(.agg [(iS d.tw),(iS d.tm),(.sl 1 (.sym fun _=>zi (d.tv).length) (fun ix=>[(.sl 1 (.sym fun _=>zi ((d.tv).getD ix.den.toNat []).length) (fun jx=>[(iv fun _=>((d.tv).getD ix.den.toNat []).getD jx.den.toNat 0)]))])),(.int .i64 (.lit 2)),(iv fun _=>d.pn),(.sl 4 (.sym fun _=>zi (d.ls).length) (fun ix=>[(iv fun _=>((d.ls).getD ix.den.toNat l0T).a),(iv fun _=>((d.ls).getD ix.den.toNat l0T).b),(iv fun _=>((d.ls).getD ix.den.toNat l0T).lo),(iv fun _=>((d.ls).getD ix.den.toNat l0T).hi)])),(.sl 6 (.sym fun _=>zi (d.fs).length) (fun ix=>[(iv fun _=>((d.fs).getD ix.den.toNat f0T).p),(iv fun _=>((d.fs).getD ix.den.toNat f0T).s),(iv fun _=>((d.fs).getD ix.den.toNat f0T).wl),(iv fun _=>((d.fs).getD ix.den.toNat f0T).wh),(iv fun _=>((d.fs).getD ix.den.toNat f0T).ml),(iv fun _=>((d.fs).getD ix.den.toNat f0T).mh)]))]),(.sl 2 (.sym fun _=>zi (d.fs).length) (fun ix=>[(iv fun _=>((FO d d.fs).getD ix.den.toNat f0).lo),(iv fun _=>((FO d d.fs).getD ix.den.toNat f0).hi)])),(iv fun _=>zi b)] [] (fun r _=>r=(.tup [(.sl 2 (.sym fun _=>zi 2) (fun ix=>[(iv fun _=>(allS (sixN (SN d) (LO d) (FO d d.fs) (outN b))).lo ix.den.toNat),(iv fun _=>(allS (sixN (SN d) (LO d) (FO d d.fs) (outN b))).hi ix.den.toNat)])),(.bool (.sym fun _=>decide (0≤(allS (sixN (SN d) (LO d) (FO d d.fs) (outN b))).h0)))])):=by
 have c64:=fun s=>utj d b s hd hb
 have c65:=fun a e=>ujT d a e hd
 have c66:=uob
 have f6:=hd.f6
 have l4:=hd.l4
 obtain⟨s6,hs6⟩:∃s6,s6=sixN (SN d) (LO d) (FO d d.fs) (outN b):=⟨_,rfl⟩
 have hSN:SN d=2:=by unfold SN;omega
 have hfl:=ucz d d.fs
 have hll:=ufX d
 have el0:(ownN (FO d d.fs) (outN b) 0 d.fs.length).1=s6.l0:=by rw [hs6];simp only [sixN,hSN,hfl,hll];try rfl
 have eh0:(ownN (FO d d.fs) (outN b) 0 d.fs.length).2=s6.h0:=by rw [hs6];simp only [sixN,hSN,hfl,hll];try rfl
 have el1:(ownN (FO d d.fs) (outN b) 1 d.fs.length).1=s6.l1:=by rw [hs6];simp only [sixN,hSN,hfl,hll];try rfl
 have eh1:(ownN (FO d d.fs) (outN b) 1 d.fs.length).2=s6.h1:=by rw [hs6];simp only [sixN,hSN,hfl,hll];try rfl
 have el2:(0:Int)=s6.l2:=by rw [hs6];simp only [sixN,hSN,hfl,hll];try rfl
 have eh2:(0:Int)=s6.h2:=by rw [hs6];simp only [sixN,hSN,hfl,hll];try rfl
 have eal:(difN (LO d) 0 1 d.ls.length).1=s6.al:=by rw [hs6];simp only [sixN,hSN,hfl,hll];try rfl
 have eah:(difN (LO d) 0 1 d.ls.length).2=s6.ah:=by rw [hs6];simp only [sixN,hSN,hfl,hll];try rfl
 have ebl:(-2000:Int)=s6.bl:=by rw [hs6];simp only [sixN,hSN,hfl,hll];try rfl
 have ebh:(2000:Int)=s6.bh:=by rw [hs6];simp only [sixN,hSN,hfl,hll];try rfl
 have ecl:(-2000:Int)=s6.cl:=by rw [hs6];simp only [sixN,hSN,hfl,hll];try rfl
 have ech:(2000:Int)=s6.ch:=by rw [hs6];simp only [sixN,hSN,hfl,hll];try rfl
 have o0:=ufs hd b 0
 have o1:=ufs hd b 1
 have d0:=uhQ hd 0 1
 have q0:(0≤s6.l0∧s6.l0≤2000)∧0≤s6.h0∧s6.h0≤2000:=by omega
 have q1:(0≤s6.l1∧s6.l1≤2000)∧0≤s6.h1∧s6.h1≤2000:=by omega
 have q2:(0≤s6.l2∧s6.l2≤2000)∧0≤s6.h2∧s6.h2≤2000:=by omega
 have p0:(-2000≤s6.al∧s6.al≤2000)∧ -2000≤s6.ah∧s6.ah≤2000:=by omega
 have p1:(-2000≤s6.bl∧s6.bl≤2000)∧ -2000≤s6.bh∧s6.bh≤2000:=by omega
 have p2:(-2000≤s6.cl∧s6.cl≤2000)∧ -2000≤s6.ch∧s6.ch≤2000:=by omega
 rw [←hs6]
 clear hs6
 clear o0
 clear o1
 clear d0
 refine ua0.is fun R hR=>qW (sc:=sc26) tyok mix Tryz.func26 rfl Tryz.call26 (by kernel_rfl) (by kernel_rfl) ?_
 generalize Tryz.prog=P at c64 c65 c66⊢
 cbv
 repeat' (first
  |fail)
 all_goals first
  |skip
 refine⟨some 3,?_⟩
 cbv
 repeat' (first
  | (refine qP ?_ (c64 0) ?hfit
     case hfit=>((refine qD (qC (Fit.refl _) rfl (qC (Fit.refl _) rfl (qC (Fit.refl _) rfl (qC (qE (by first|rfl|exact hS.symm)) rfl (Fit.refl _))))) (qD (Fit.refl _) (qD (qE (by rfl)) (qD (Fit.refl _) qB))));done)
     try cbv)
  | (refine qP ?_ (c64 1) ?hfit
     case hfit=>((refine qD (qC (Fit.refl _) rfl (qC (Fit.refl _) rfl (qC (Fit.refl _) rfl (qC (qE (by first|rfl|exact hS.symm)) rfl (Fit.refl _))))) (qD (Fit.refl _) (qD (qE (by rfl)) (qD (Fit.refl _) qB))));done)
     try cbv)
  | (refine qP ?_ (c65 0 1) ?hfit
     case hfit=>((refine qD (qC (Fit.refl _) rfl (qC (Fit.refl _) rfl (qC (Fit.refl _) rfl (qC (qE (by first|rfl|exact hS.symm)) rfl (Fit.refl _))))) (qD (qE (by rfl)) (qD (qE (by rfl)) qB)));done)
     try cbv)
  |fail)
 all_goals first
  |skip
 refine⟨none,[],{x:Nat×Int×Bnd // x.1≤(s6.h0-s6.l0+1).toNat∧x.2.1=s6.l0+zi x.1∧x.2.2=bdN s6 x.1},fun x=>⟨[(3,.own 0 0),(8,.own 7 0),(10,.own 47 0),(11,.own 48 0),(12,.own 49 0),(13,.own 66 0),(14,(iv fun _=>x.1.2.1))],[(0,.cells [(iS d.tw),(iS d.tm),(.sl 1 (.sym fun _=>zi (d.tv).length) (fun ix=>[(.sl 1 (.sym fun _=>zi ((d.tv).getD ix.den.toNat []).length) (fun jx=>[(iv fun _=>((d.tv).getD ix.den.toNat []).getD jx.den.toNat 0)]))])),(.int .i64 (.lit 2)),(iv fun _=>d.pn),(.sl 4 (.sym fun _=>zi (d.ls).length) (fun ix=>[(iv fun _=>((d.ls).getD ix.den.toNat l0T).a),(iv fun _=>((d.ls).getD ix.den.toNat l0T).b),(iv fun _=>((d.ls).getD ix.den.toNat l0T).lo),(iv fun _=>((d.ls).getD ix.den.toNat l0T).hi)])),(.sl 6 (.sym fun _=>zi (d.fs).length) (fun ix=>[(iv fun _=>((d.fs).getD ix.den.toNat f0T).p),(iv fun _=>((d.fs).getD ix.den.toNat f0T).s),(iv fun _=>((d.fs).getD ix.den.toNat f0T).wl),(iv fun _=>((d.fs).getD ix.den.toNat f0T).wh),(iv fun _=>((d.fs).getD ix.den.toNat f0T).ml),(iv fun _=>((d.fs).getD ix.den.toNat f0T).mh)]))] 29),(7,.cells [(iv fun _=>s6.l0),(iv fun _=>s6.h0),(iv fun _=>s6.l1),(iv fun _=>s6.h1),(iv fun _=>s6.l2),(iv fun _=>s6.h2)] 124),(47,.cells [(iv fun _=>s6.al),(iv fun _=>s6.ah)] 66),(48,.cells [(iv fun _=>s6.bl),(iv fun _=>s6.bh)] 66),(49,.cells [(iv fun _=>s6.cl),(iv fun _=>s6.ch)] 66),(66,.cells [(iv fun _=>x.1.2.2.l0),(iv fun _=>x.1.2.2.h0),(iv fun _=>x.1.2.2.l1),(iv fun _=>x.1.2.2.h1),(iv fun _=>x.1.2.2.l2),(iv fun _=>x.1.2.2.h2)] 124)],400⟩,fun x=>(s6.h0-s6.l0+1).toNat-x.1.1,?_,?_⟩
 ·refine⟨⟨(0,s6.l0,bd0),by simp only [];omega,by simp only [ua9];omega,rfl⟩,?_⟩
  cbv
  repeat' (first
   |with_reducible refine hold ?_ ?_
   |with_reducible refine And.intro ?_ ?_)
  all_goals first
   |trivial
   |exact qM (Fit.refl _)
   |exact qL (qK _)
   |(refine qM (qE ?_);(try simp only [qV]at *);simp only [zQ,zA,zB,zC,zD,zE,zF,zG,zH,zI,zJ,zK,zL,zM,zN,zO,zP,zR,zS]at *;omega)
   |(refine qL (qJ ?_);(repeat' (first|exact qA|refine qC ?_ rfl ?_|exact qE (by first|rfl|exact el0|exact eh0|exact el1|exact eh1|exact el2|exact eh2|exact eal|exact eah|exact ebl|exact ebh|exact ecl|exact ech)));done)
   |skip
 ·rintro ⟨⟨k,n,w⟩,hk,hn,hb⟩
  cbv
  dsimp only at hk hn hb
  repeat' (first
   |(with_reducible intro hcd;exfalso;(try simp only [zQ,zA,zB,zC,zD,zE,zF,zG,zH,zI,zJ,zK,zL,zM,zN,zO,zP,zR,zS]at hcd);omega)
   |with_reducible refine hold ?_ ?_
   |with_reducible refine And.intro ?_ ?_
   |(with_reducible intro hcd;(try simp only [zA,zB,zC,zD,zE,zF,zG,zH,zI,zJ,zK,zL,zM,zN,zO,zP]at hcd);try cbv)
   | (refine qP ?_ (c66 _ _ _ _) (by(repeat' (first|exact qB|refine qD ?_ ?_|exact qE (by rfl)|exact qF (by rfl)|exact Fit.refl _|exact qA|refine qC ?_ rfl ?_)))
      try cbv)
   | (refine⟨some 4,?_⟩
      cbv)
   |fail)
  all_goals first
   |trivial
   |((try clear c66);(try clear c64);(try clear c65);((try simp only [qV]at *);(try simp only [zQ,zA,zB,zC,zD,zE,zF,zG,zH,zI,zJ,zK,zL,zM,zN,zO,zP,zR,zS]at *);first|(refine qN ?_;omega)|(simp only [Hold];omega)))
   |((try clear c66);(try clear c64);(try clear c65);((try clear el0 eh0 el1 eh1 el2 eh2 eal eah ebl ebh ecl ech hb hfl hll hSN f6 l4 hd);(try simp only [qV]at *);(try simp only [zQ,zA,zB,zC,zD,zE,zF,zG,zH,zI,zJ,zK,zL,zM,zN,zO,zP,zR,zS]at *);have hk8:n≤2000:=(by omega);(have v1:=uhO (a:=s6.l1) (b:=n+s6.al) (l:= -4000) (h:=4000) ⟨by omega,by omega⟩ ⟨by omega,by omega⟩);(have v2:=uhY (a:=s6.h1) (b:=n+s6.ah) (l:= -4000) (h:=4000) ⟨by omega,by omega⟩ ⟨by omega,by omega⟩);(have v3:=uhO (a:=s6.l2) (b:=n+s6.bl) (l:= -4000) (h:=4000) ⟨by omega,by omega⟩ ⟨by omega,by omega⟩);(have v4:=uhY (a:=s6.h2) (b:=n+s6.bh) (l:= -4000) (h:=4000) ⟨by omega,by omega⟩ ⟨by omega,by omega⟩);(refine qN ?_);omega))
   |((try clear c66);(try clear c64);(try clear c65);((try simp only [zQ,zA,zB,zC,zD,zE,zF,zG,zH,zI,zJ,zK,zL,zM,zN,zO,zP,zR,zS]at *);(have hk2:k+1≤(s6.h0-s6.l0+1).toNat:=by((try simp only [qV]at *);(try simp only [zQ,zA,zB,zC,zD,zE,zF,zG,zH,zI,zJ,zK,zL,zM,zN,zO,zP,zR,zS]at *);omega));obtain⟨n1,en1⟩:∃z,z=n+1:=⟨_,rfl⟩;(have hn2:n1=s6.l0+zi (k+1):=by((try simp only [qV]at *);(try simp only [zQ,zA,zB,zC,zD,zE,zF,zG,zH,zI,zJ,zK,zL,zM,zN,zO,zP,zR,zS]at *);omega));(have hb2:=ucR hn hb (usR (by assumption)));refine⟨⟨(k+1,n1,w),hk2,hn2,hb2⟩,by simp only [];omega,?_⟩;cbv;(repeat' (first|with_reducible refine hold ?_ ?_|with_reducible refine And.intro ?_ ?_));(all_goals first|trivial|exact qM (qE (by rfl))|exact qM (qF (by rfl))|exact qM (Fit.refl _)|exact qL (qK _)|(refine qM (qE ?_);(try simp only [qV]at *);simp only [zQ,zA,zB,zC,zD,zE,zF,zG,zH,zI,zJ,zK,zL,zM,zN,zO,zP,zR,zS]at *;omega)|(subst en1;exact qM (qE (by rfl)))|(refine qL (qJ ?_);(repeat' (first|exact qA|exact qB|refine qC ?_ rfl ?_|refine qD ?_ ?_|exact qE (by rfl)|exact qF (by rfl)|exact Fit.refl _|exact qG _|(refine qE ?_;(try simp only [qV]at *);simp only [zQ,zA,zB,zC,zD,zE,zF,zG,zH,zI,zJ,zK,zL,zM,zN,zO,zP,zR,zS]at *;omega)));done)|skip)))
   |((try clear c66);(try clear c64);(try clear c65);((try simp only [zQ,zA,zB,zC,zD,zE,zF,zG,zH,zI,zJ,zK,zL,zM,zN,zO,zP,zR,zS]at *);(have hk2:k+1≤(s6.h0-s6.l0+1).toNat:=by((try simp only [qV]at *);(try simp only [zQ,zA,zB,zC,zD,zE,zF,zG,zH,zI,zJ,zK,zL,zM,zN,zO,zP,zR,zS]at *);omega));obtain⟨n1,en1⟩:∃z,z=n+1:=⟨_,rfl⟩;(have hn2:n1=s6.l0+zi (k+1):=by((try simp only [qV]at *);(try simp only [zQ,zA,zB,zC,zD,zE,zF,zG,zH,zI,zJ,zK,zL,zM,zN,zO,zP,zR,zS]at *);omega));(have hb2:=ucR hn hb (uu0 (by assumption)));refine⟨⟨(k+1,n1,w),hk2,hn2,hb2⟩,by simp only [];omega,?_⟩;cbv;(repeat' (first|with_reducible refine hold ?_ ?_|with_reducible refine And.intro ?_ ?_));(all_goals first|trivial|exact qM (qE (by rfl))|exact qM (qF (by rfl))|exact qM (Fit.refl _)|exact qL (qK _)|(refine qM (qE ?_);(try simp only [qV]at *);simp only [zQ,zA,zB,zC,zD,zE,zF,zG,zH,zI,zJ,zK,zL,zM,zN,zO,zP,zR,zS]at *;omega)|(subst en1;exact qM (qE (by rfl)))|(refine qL (qJ ?_);(repeat' (first|exact qA|exact qB|refine qC ?_ rfl ?_|refine qD ?_ ?_|exact qE (by rfl)|exact qF (by rfl)|exact Fit.refl _|exact qG _|(refine qE ?_;(try simp only [qV]at *);simp only [zQ,zA,zB,zC,zD,zE,zF,zG,zH,zI,zJ,zK,zL,zM,zN,zO,zP,zR,zS]at *;omega)));done)|skip)))
   |((try clear c66);(try clear c64);(try clear c65);((try simp only [zQ,zA,zB,zC,zD,zE,zF,zG,zH,zI,zJ,zK,zL,zM,zN,zO,zP,zR,zS]at *);(have hk2:k+1≤(s6.h0-s6.l0+1).toNat:=by((try simp only [qV]at *);(try simp only [zQ,zA,zB,zC,zD,zE,zF,zG,zH,zI,zJ,zK,zL,zM,zN,zO,zP,zR,zS]at *);omega));obtain⟨n1,en1⟩:∃z,z=n+1:=⟨_,rfl⟩;(have hn2:n1=s6.l0+zi (k+1):=by((try simp only [qV]at *);(try simp only [zQ,zA,zB,zC,zD,zE,zF,zG,zH,zI,zJ,zK,zL,zM,zN,zO,zP,zR,zS]at *);omega));(have hb2:=ucR hn hb (ukB (.inr (.inl (by assumption)))));refine⟨⟨(k+1,n1,w),hk2,hn2,hb2⟩,by simp only [];omega,?_⟩;cbv;(repeat' (first|with_reducible refine hold ?_ ?_|with_reducible refine And.intro ?_ ?_));(all_goals first|trivial|exact qM (qE (by rfl))|exact qM (qF (by rfl))|exact qM (Fit.refl _)|exact qL (qK _)|(refine qM (qE ?_);(try simp only [qV]at *);simp only [zQ,zA,zB,zC,zD,zE,zF,zG,zH,zI,zJ,zK,zL,zM,zN,zO,zP,zR,zS]at *;omega)|(subst en1;exact qM (qE (by rfl)))|(refine qL (qJ ?_);(repeat' (first|exact qA|exact qB|refine qC ?_ rfl ?_|refine qD ?_ ?_|exact qE (by rfl)|exact qF (by rfl)|exact Fit.refl _|exact qG _|(refine qE ?_;(try simp only [qV]at *);simp only [zQ,zA,zB,zC,zD,zE,zF,zG,zH,zI,zJ,zK,zL,zM,zN,zO,zP,zR,zS]at *;omega)));done)|skip)))
   |((try clear c66);(try clear c64);(try clear c65);((try simp only [zQ,zA,zB,zC,zD,zE,zF,zG,zH,zI,zJ,zK,zL,zM,zN,zO,zP,zR,zS]at *);(have hk2:k+1≤(s6.h0-s6.l0+1).toNat:=by((try simp only [qV]at *);(try simp only [zQ,zA,zB,zC,zD,zE,zF,zG,zH,zI,zJ,zK,zL,zM,zN,zO,zP,zR,zS]at *);omega));obtain⟨n1,en1⟩:∃z,z=n+1:=⟨_,rfl⟩;(have hn2:n1=s6.l0+zi (k+1):=by((try simp only [qV]at *);(try simp only [zQ,zA,zB,zC,zD,zE,zF,zG,zH,zI,zJ,zK,zL,zM,zN,zO,zP,zR,zS]at *);omega));(have hb2:=ucR hn hb (ukB (.inr (.inr (by assumption)))));refine⟨⟨(k+1,n1,w),hk2,hn2,hb2⟩,by simp only [];omega,?_⟩;cbv;(repeat' (first|with_reducible refine hold ?_ ?_|with_reducible refine And.intro ?_ ?_));(all_goals first|trivial|exact qM (qE (by rfl))|exact qM (qF (by rfl))|exact qM (Fit.refl _)|exact qL (qK _)|(refine qM (qE ?_);(try simp only [qV]at *);simp only [zQ,zA,zB,zC,zD,zE,zF,zG,zH,zI,zJ,zK,zL,zM,zN,zO,zP,zR,zS]at *;omega)|(subst en1;exact qM (qE (by rfl)))|(refine qL (qJ ?_);(repeat' (first|exact qA|exact qB|refine qC ?_ rfl ?_|refine qD ?_ ?_|exact qE (by rfl)|exact qF (by rfl)|exact Fit.refl _|exact qG _|(refine qE ?_;(try simp only [qV]at *);simp only [zQ,zA,zB,zC,zD,zE,zF,zG,zH,zI,zJ,zK,zL,zM,zN,zO,zP,zR,zS]at *;omega)));done)|skip)))
   |((try clear c66);(try clear c64);(try clear c65);((try simp only [zQ,zA,zB,zC,zD,zE,zF,zG,zH,zI,zJ,zK,zL,zM,zN,zO,zP,zR,zS]at *);(have hk2:k+1≤(s6.h0-s6.l0+1).toNat:=by((try simp only [qV]at *);(try simp only [zQ,zA,zB,zC,zD,zE,zF,zG,zH,zI,zJ,zK,zL,zM,zN,zO,zP,zR,zS]at *);omega));obtain⟨n1,en1⟩:∃z,z=n+1:=⟨_,rfl⟩;(have hn2:n1=s6.l0+zi (k+1):=by((try simp only [qV]at *);(try simp only [zQ,zA,zB,zC,zD,zE,zF,zG,zH,zI,zJ,zK,zL,zM,zN,zO,zP,zR,zS]at *);omega));obtain⟨o,eo⟩:∃o:Bnd,o=⟨mn w.l0 n,mx w.h0 n,mn w.l1 (xL s6 n),mx w.h1 (xH s6 n),mn w.l2 (yL s6 n),mx w.h2 (yH s6 n)⟩:=⟨_,rfl⟩;(have hb2:=uky hn hb (go_t (by assumption) (by assumption) (by assumption) (by assumption) (by assumption)) eo);refine⟨⟨(k+1,n1,o),hk2,hn2,hb2⟩,by simp only [];omega,?_⟩;cbv;(repeat' (first|with_reducible refine hold ?_ ?_|with_reducible refine And.intro ?_ ?_));(all_goals first|trivial|exact qM (qE (by rfl))|exact qM (qF (by rfl))|exact qM (Fit.refl _)|exact qL (qK _)|(refine qM (qE ?_);(try simp only [qV]at *);simp only [zQ,zA,zB,zC,zD,zE,zF,zG,zH,zI,zJ,zK,zL,zM,zN,zO,zP,zR,zS]at *;omega)|(subst en1;exact qM (qE (by rfl)))|(subst eo;(refine qL (qJ ?_));(repeat' (first|exact qA|exact qB|refine qC ?_ rfl ?_|refine qD ?_ ?_|exact qE (by rfl)|exact qF (by rfl)|exact Fit.refl _|exact qG _|(refine qE ?_;(try simp only [qV]at *);simp only [zQ,zA,zB,zC,zD,zE,zF,zG,zH,zI,zJ,zK,zL,zM,zN,zO,zP,zR,zS]at *;omega)));done)|(refine qL (qJ ?_);(repeat' (first|exact qA|exact qB|refine qC ?_ rfl ?_|refine qD ?_ ?_|exact qE (by rfl)|exact qF (by rfl)|exact Fit.refl _|exact qG _|(refine qE ?_;(try simp only [qV]at *);simp only [zQ,zA,zB,zC,zD,zE,zF,zG,zH,zI,zJ,zK,zL,zM,zN,zO,zP,zR,zS]at *;omega)));done)|skip)))
   |((try clear c66);(try clear c64);(try clear c65);(subst hR;(have e:k=(s6.h0-s6.l0+1).toNat:=by((try simp only [qV]at *);(try simp only [zQ,zA,zB,zC,zD,zE,zF,zG,zH,zI,zJ,zK,zL,zM,zN,zO,zP,zR,zS]at *);omega));subst e;subst hb;(refine qD ?_ (qD (qF (by rfl)) qB));(refine ua1 (by rfl) (fun ix h0 h1=> ?_);(have h2:ix.den<2:=h1);(have hx:ix.den.toNat=0∨ix.den.toNat=1:=by omega);(rcases hx with hx|hx<;>simp only [hx]));all_goals (exact qC (qE (by rfl)) rfl (qC (qE (by rfl)) rfl qA))))
   |skip
set_option maxHeartbeats 2000000 in
theorem usO (d:Dsp)(b:Nat)(hd:DOk d)(hb:b≤1000)(hS:d.sn=3):ua0 Tryz.prog 26 [(.agg [(iS d.tw),(iS d.tm),(.sl 1 (.sym fun _=>zi (d.tv).length) (fun ix=>[(.sl 1 (.sym fun _=>zi ((d.tv).getD ix.den.toNat []).length) (fun jx=>[(iv fun _=>((d.tv).getD ix.den.toNat []).getD jx.den.toNat 0)]))])),(.int .i64 (.lit 3)),(iv fun _=>d.pn),(.sl 4 (.sym fun _=>zi (d.ls).length) (fun ix=>[(iv fun _=>((d.ls).getD ix.den.toNat l0T).a),(iv fun _=>((d.ls).getD ix.den.toNat l0T).b),(iv fun _=>((d.ls).getD ix.den.toNat l0T).lo),(iv fun _=>((d.ls).getD ix.den.toNat l0T).hi)])),(.sl 6 (.sym fun _=>zi (d.fs).length) (fun ix=>[(iv fun _=>((d.fs).getD ix.den.toNat f0T).p),(iv fun _=>((d.fs).getD ix.den.toNat f0T).s),(iv fun _=>((d.fs).getD ix.den.toNat f0T).wl),(iv fun _=>((d.fs).getD ix.den.toNat f0T).wh),(iv fun _=>((d.fs).getD ix.den.toNat f0T).ml),(iv fun _=>((d.fs).getD ix.den.toNat f0T).mh)]))]),(.sl 2 (.sym fun _=>zi (d.fs).length) (fun ix=>[(iv fun _=>((FO d d.fs).getD ix.den.toNat f0).lo),(iv fun _=>((FO d d.fs).getD ix.den.toNat f0).hi)])),(iv fun _=>zi b)] [] (fun r _=>r=(.tup [(.sl 2 (.sym fun _=>zi 3) (fun ix=>[(iv fun _=>(allS (sixN (SN d) (LO d) (FO d d.fs) (outN b))).lo ix.den.toNat),(iv fun _=>(allS (sixN (SN d) (LO d) (FO d d.fs) (outN b))).hi ix.den.toNat)])),(.bool (.sym fun _=>decide (0≤(allS (sixN (SN d) (LO d) (FO d d.fs) (outN b))).h0)))])):=by
 have c64:=fun s=>utj d b s hd hb
 have c65:=fun a e=>ujT d a e hd
 have c66:=uob
 have f6:=hd.f6
 have l4:=hd.l4
 obtain⟨s6,hs6⟩:∃s6,s6=sixN (SN d) (LO d) (FO d d.fs) (outN b):=⟨_,rfl⟩
 have hSN:SN d=3:=by unfold SN;omega
 have hfl:=ucz d d.fs
 have hll:=ufX d
 have el0:(ownN (FO d d.fs) (outN b) 0 d.fs.length).1=s6.l0:=by rw [hs6];simp only [sixN,hSN,hfl,hll];try rfl
 have eh0:(ownN (FO d d.fs) (outN b) 0 d.fs.length).2=s6.h0:=by rw [hs6];simp only [sixN,hSN,hfl,hll];try rfl
 have el1:(ownN (FO d d.fs) (outN b) 1 d.fs.length).1=s6.l1:=by rw [hs6];simp only [sixN,hSN,hfl,hll];try rfl
 have eh1:(ownN (FO d d.fs) (outN b) 1 d.fs.length).2=s6.h1:=by rw [hs6];simp only [sixN,hSN,hfl,hll];try rfl
 have el2:(ownN (FO d d.fs) (outN b) 2 d.fs.length).1=s6.l2:=by rw [hs6];simp only [sixN,hSN,hfl,hll];try rfl
 have eh2:(ownN (FO d d.fs) (outN b) 2 d.fs.length).2=s6.h2:=by rw [hs6];simp only [sixN,hSN,hfl,hll];try rfl
 have eal:(difN (LO d) 0 1 d.ls.length).1=s6.al:=by rw [hs6];simp only [sixN,hSN,hfl,hll];try rfl
 have eah:(difN (LO d) 0 1 d.ls.length).2=s6.ah:=by rw [hs6];simp only [sixN,hSN,hfl,hll];try rfl
 have ebl:(difN (LO d) 0 2 d.ls.length).1=s6.bl:=by rw [hs6];simp only [sixN,hSN,hfl,hll];try rfl
 have ebh:(difN (LO d) 0 2 d.ls.length).2=s6.bh:=by rw [hs6];simp only [sixN,hSN,hfl,hll];try rfl
 have ecl:(difN (LO d) 1 2 d.ls.length).1=s6.cl:=by rw [hs6];simp only [sixN,hSN,hfl,hll];try rfl
 have ech:(difN (LO d) 1 2 d.ls.length).2=s6.ch:=by rw [hs6];simp only [sixN,hSN,hfl,hll];try rfl
 have o0:=ufs hd b 0
 have o1:=ufs hd b 1
 have o2:=ufs hd b 2
 have d0:=uhQ hd 0 1
 have d1:=uhQ hd 0 2
 have d2:=uhQ hd 1 2
 have q0:(0≤s6.l0∧s6.l0≤2000)∧0≤s6.h0∧s6.h0≤2000:=by omega
 have q1:(0≤s6.l1∧s6.l1≤2000)∧0≤s6.h1∧s6.h1≤2000:=by omega
 have q2:(0≤s6.l2∧s6.l2≤2000)∧0≤s6.h2∧s6.h2≤2000:=by omega
 have p0:(-2000≤s6.al∧s6.al≤2000)∧ -2000≤s6.ah∧s6.ah≤2000:=by omega
 have p1:(-2000≤s6.bl∧s6.bl≤2000)∧ -2000≤s6.bh∧s6.bh≤2000:=by omega
 have p2:(-2000≤s6.cl∧s6.cl≤2000)∧ -2000≤s6.ch∧s6.ch≤2000:=by omega
 rw [←hs6]
 clear hs6
 clear o0
 clear o1
 clear o2
 clear d0
 clear d1
 clear d2
 refine ua0.is fun R hR=>qW (sc:=sc26) tyok mix Tryz.func26 rfl Tryz.call26 (by kernel_rfl) (by kernel_rfl) ?_
 generalize Tryz.prog=P at c64 c65 c66⊢
 cbv
 repeat' (first
  |fail)
 all_goals first
  |skip
 refine⟨some 4,?_⟩
 cbv
 repeat' (first
  | (refine qP ?_ (c64 0) ?hfit
     case hfit=>((refine qD (qC (Fit.refl _) rfl (qC (Fit.refl _) rfl (qC (Fit.refl _) rfl (qC (qE (by first|rfl|exact hS.symm)) rfl (Fit.refl _))))) (qD (Fit.refl _) (qD (qE (by rfl)) (qD (Fit.refl _) qB))));done)
     try cbv)
  | (refine qP ?_ (c64 1) ?hfit
     case hfit=>((refine qD (qC (Fit.refl _) rfl (qC (Fit.refl _) rfl (qC (Fit.refl _) rfl (qC (qE (by first|rfl|exact hS.symm)) rfl (Fit.refl _))))) (qD (Fit.refl _) (qD (qE (by rfl)) (qD (Fit.refl _) qB))));done)
     try cbv)
  | (refine qP ?_ (c64 2) ?hfit
     case hfit=>((refine qD (qC (Fit.refl _) rfl (qC (Fit.refl _) rfl (qC (Fit.refl _) rfl (qC (qE (by first|rfl|exact hS.symm)) rfl (Fit.refl _))))) (qD (Fit.refl _) (qD (qE (by rfl)) (qD (Fit.refl _) qB))));done)
     try cbv)
  | (refine qP ?_ (c65 0 1) ?hfit
     case hfit=>((refine qD (qC (Fit.refl _) rfl (qC (Fit.refl _) rfl (qC (Fit.refl _) rfl (qC (qE (by first|rfl|exact hS.symm)) rfl (Fit.refl _))))) (qD (qE (by rfl)) (qD (qE (by rfl)) qB)));done)
     try cbv)
  | (refine qP ?_ (c65 0 2) ?hfit
     case hfit=>((refine qD (qC (Fit.refl _) rfl (qC (Fit.refl _) rfl (qC (Fit.refl _) rfl (qC (qE (by first|rfl|exact hS.symm)) rfl (Fit.refl _))))) (qD (qE (by rfl)) (qD (qE (by rfl)) qB)));done)
     try cbv)
  | (refine qP ?_ (c65 1 2) ?hfit
     case hfit=>((refine qD (qC (Fit.refl _) rfl (qC (Fit.refl _) rfl (qC (Fit.refl _) rfl (qC (qE (by first|rfl|exact hS.symm)) rfl (Fit.refl _))))) (qD (qE (by rfl)) (qD (qE (by rfl)) qB)));done)
     try cbv)
  |fail)
 all_goals first
  |skip
 refine⟨none,[],{x:Nat×Int×Bnd // x.1≤(s6.h0-s6.l0+1).toNat∧x.2.1=s6.l0+zi x.1∧x.2.2=bdN s6 x.1},fun x=>⟨[(3,.own 0 0),(8,.own 7 0),(10,.own 62 0),(11,.own 63 0),(12,.own 64 0),(13,.own 87 0),(14,(iv fun _=>x.1.2.1))],[(0,.cells [(iS d.tw),(iS d.tm),(.sl 1 (.sym fun _=>zi (d.tv).length) (fun ix=>[(.sl 1 (.sym fun _=>zi ((d.tv).getD ix.den.toNat []).length) (fun jx=>[(iv fun _=>((d.tv).getD ix.den.toNat []).getD jx.den.toNat 0)]))])),(.int .i64 (.lit 3)),(iv fun _=>d.pn),(.sl 4 (.sym fun _=>zi (d.ls).length) (fun ix=>[(iv fun _=>((d.ls).getD ix.den.toNat l0T).a),(iv fun _=>((d.ls).getD ix.den.toNat l0T).b),(iv fun _=>((d.ls).getD ix.den.toNat l0T).lo),(iv fun _=>((d.ls).getD ix.den.toNat l0T).hi)])),(.sl 6 (.sym fun _=>zi (d.fs).length) (fun ix=>[(iv fun _=>((d.fs).getD ix.den.toNat f0T).p),(iv fun _=>((d.fs).getD ix.den.toNat f0T).s),(iv fun _=>((d.fs).getD ix.den.toNat f0T).wl),(iv fun _=>((d.fs).getD ix.den.toNat f0T).wh),(iv fun _=>((d.fs).getD ix.den.toNat f0T).ml),(iv fun _=>((d.fs).getD ix.den.toNat f0T).mh)]))] 29),(7,.cells [(iv fun _=>s6.l0),(iv fun _=>s6.h0),(iv fun _=>s6.l1),(iv fun _=>s6.h1),(iv fun _=>s6.l2),(iv fun _=>s6.h2)] 124),(62,.cells [(iv fun _=>s6.al),(iv fun _=>s6.ah)] 66),(63,.cells [(iv fun _=>s6.bl),(iv fun _=>s6.bh)] 66),(64,.cells [(iv fun _=>s6.cl),(iv fun _=>s6.ch)] 66),(87,.cells [(iv fun _=>x.1.2.2.l0),(iv fun _=>x.1.2.2.h0),(iv fun _=>x.1.2.2.l1),(iv fun _=>x.1.2.2.h1),(iv fun _=>x.1.2.2.l2),(iv fun _=>x.1.2.2.h2)] 124)],400⟩,fun x=>(s6.h0-s6.l0+1).toNat-x.1.1,?_,?_⟩
 ·refine⟨⟨(0,s6.l0,bd0),by simp only [];omega,by simp only [ua9];omega,rfl⟩,?_⟩
  cbv
  repeat' (first
   |with_reducible refine hold ?_ ?_
   |with_reducible refine And.intro ?_ ?_)
  all_goals first
   |trivial
   |exact qM (Fit.refl _)
   |exact qL (qK _)
   |(refine qM (qE ?_);(try simp only [qV]at *);simp only [zQ,zA,zB,zC,zD,zE,zF,zG,zH,zI,zJ,zK,zL,zM,zN,zO,zP,zR,zS]at *;omega)
   |(refine qL (qJ ?_);(repeat' (first|exact qA|refine qC ?_ rfl ?_|exact qE (by first|rfl|exact el0|exact eh0|exact el1|exact eh1|exact el2|exact eh2|exact eal|exact eah|exact ebl|exact ebh|exact ecl|exact ech)));done)
   |skip
 ·rintro ⟨⟨k,n,w⟩,hk,hn,hb⟩
  cbv
  dsimp only at hk hn hb
  repeat' (first
   |with_reducible refine hold ?_ ?_
   |with_reducible refine And.intro ?_ ?_
   |(with_reducible intro hcd;(try simp only [zA,zB,zC,zD,zE,zF,zG,zH,zI,zJ,zK,zL,zM,zN,zO,zP]at hcd);try cbv)
   | (refine qP ?_ (c66 _ _ _ _) (by(repeat' (first|exact qB|refine qD ?_ ?_|exact qE (by rfl)|exact qF (by rfl)|exact Fit.refl _|exact qA|refine qC ?_ rfl ?_)))
      try cbv)
   | (refine⟨some 4,?_⟩
      cbv)
   |fail)
  all_goals first
   |trivial
   |((try clear c66);(try clear c64);(try clear c65);((try simp only [qV]at *);(try simp only [zQ,zA,zB,zC,zD,zE,zF,zG,zH,zI,zJ,zK,zL,zM,zN,zO,zP,zR,zS]at *);first|(refine qN ?_;omega)|(simp only [Hold];omega)))
   |((try clear c66);(try clear c64);(try clear c65);((try clear el0 eh0 el1 eh1 el2 eh2 eal eah ebl ebh ecl ech hb hfl hll hSN f6 l4 hd);(try simp only [qV]at *);(try simp only [zQ,zA,zB,zC,zD,zE,zF,zG,zH,zI,zJ,zK,zL,zM,zN,zO,zP,zR,zS]at *);have hk8:n≤2000:=(by omega);(have v1:=uhO (a:=s6.l1) (b:=n+s6.al) (l:= -4000) (h:=4000) ⟨by omega,by omega⟩ ⟨by omega,by omega⟩);(have v2:=uhY (a:=s6.h1) (b:=n+s6.ah) (l:= -4000) (h:=4000) ⟨by omega,by omega⟩ ⟨by omega,by omega⟩);(have v3:=uhO (a:=s6.l2) (b:=n+s6.bl) (l:= -4000) (h:=4000) ⟨by omega,by omega⟩ ⟨by omega,by omega⟩);(have v4:=uhY (a:=s6.h2) (b:=n+s6.bh) (l:= -4000) (h:=4000) ⟨by omega,by omega⟩ ⟨by omega,by omega⟩);(refine qN ?_);omega))
   |((try clear c66);(try clear c64);(try clear c65);((try simp only [zQ,zA,zB,zC,zD,zE,zF,zG,zH,zI,zJ,zK,zL,zM,zN,zO,zP,zR,zS]at *);(have hk2:k+1≤(s6.h0-s6.l0+1).toNat:=by((try simp only [qV]at *);(try simp only [zQ,zA,zB,zC,zD,zE,zF,zG,zH,zI,zJ,zK,zL,zM,zN,zO,zP,zR,zS]at *);omega));obtain⟨n1,en1⟩:∃z,z=n+1:=⟨_,rfl⟩;(have hn2:n1=s6.l0+zi (k+1):=by((try simp only [qV]at *);(try simp only [zQ,zA,zB,zC,zD,zE,zF,zG,zH,zI,zJ,zK,zL,zM,zN,zO,zP,zR,zS]at *);omega));(have hb2:=ucR hn hb (usR (by assumption)));refine⟨⟨(k+1,n1,w),hk2,hn2,hb2⟩,by simp only [];omega,?_⟩;cbv;(repeat' (first|with_reducible refine hold ?_ ?_|with_reducible refine And.intro ?_ ?_));(all_goals first|trivial|exact qM (qE (by rfl))|exact qM (qF (by rfl))|exact qM (Fit.refl _)|exact qL (qK _)|(refine qM (qE ?_);(try simp only [qV]at *);simp only [zQ,zA,zB,zC,zD,zE,zF,zG,zH,zI,zJ,zK,zL,zM,zN,zO,zP,zR,zS]at *;omega)|(subst en1;exact qM (qE (by rfl)))|(refine qL (qJ ?_);(repeat' (first|exact qA|exact qB|refine qC ?_ rfl ?_|refine qD ?_ ?_|exact qE (by rfl)|exact qF (by rfl)|exact Fit.refl _|exact qG _|(refine qE ?_;(try simp only [qV]at *);simp only [zQ,zA,zB,zC,zD,zE,zF,zG,zH,zI,zJ,zK,zL,zM,zN,zO,zP,zR,zS]at *;omega)));done)|skip)))
   |((try clear c66);(try clear c64);(try clear c65);((try simp only [zQ,zA,zB,zC,zD,zE,zF,zG,zH,zI,zJ,zK,zL,zM,zN,zO,zP,zR,zS]at *);(have hk2:k+1≤(s6.h0-s6.l0+1).toNat:=by((try simp only [qV]at *);(try simp only [zQ,zA,zB,zC,zD,zE,zF,zG,zH,zI,zJ,zK,zL,zM,zN,zO,zP,zR,zS]at *);omega));obtain⟨n1,en1⟩:∃z,z=n+1:=⟨_,rfl⟩;(have hn2:n1=s6.l0+zi (k+1):=by((try simp only [qV]at *);(try simp only [zQ,zA,zB,zC,zD,zE,zF,zG,zH,zI,zJ,zK,zL,zM,zN,zO,zP,zR,zS]at *);omega));(have hb2:=ucR hn hb (uu0 (by assumption)));refine⟨⟨(k+1,n1,w),hk2,hn2,hb2⟩,by simp only [];omega,?_⟩;cbv;(repeat' (first|with_reducible refine hold ?_ ?_|with_reducible refine And.intro ?_ ?_));(all_goals first|trivial|exact qM (qE (by rfl))|exact qM (qF (by rfl))|exact qM (Fit.refl _)|exact qL (qK _)|(refine qM (qE ?_);(try simp only [qV]at *);simp only [zQ,zA,zB,zC,zD,zE,zF,zG,zH,zI,zJ,zK,zL,zM,zN,zO,zP,zR,zS]at *;omega)|(subst en1;exact qM (qE (by rfl)))|(refine qL (qJ ?_);(repeat' (first|exact qA|exact qB|refine qC ?_ rfl ?_|refine qD ?_ ?_|exact qE (by rfl)|exact qF (by rfl)|exact Fit.refl _|exact qG _|(refine qE ?_;(try simp only [qV]at *);simp only [zQ,zA,zB,zC,zD,zE,zF,zG,zH,zI,zJ,zK,zL,zM,zN,zO,zP,zR,zS]at *;omega)));done)|skip)))
   |((try clear c66);(try clear c64);(try clear c65);((try simp only [zQ,zA,zB,zC,zD,zE,zF,zG,zH,zI,zJ,zK,zL,zM,zN,zO,zP,zR,zS]at *);(have hk2:k+1≤(s6.h0-s6.l0+1).toNat:=by((try simp only [qV]at *);(try simp only [zQ,zA,zB,zC,zD,zE,zF,zG,zH,zI,zJ,zK,zL,zM,zN,zO,zP,zR,zS]at *);omega));obtain⟨n1,en1⟩:∃z,z=n+1:=⟨_,rfl⟩;(have hn2:n1=s6.l0+zi (k+1):=by((try simp only [qV]at *);(try simp only [zQ,zA,zB,zC,zD,zE,zF,zG,zH,zI,zJ,zK,zL,zM,zN,zO,zP,zR,zS]at *);omega));(have hb2:=ucR hn hb (ukB (.inl (by assumption))));refine⟨⟨(k+1,n1,w),hk2,hn2,hb2⟩,by simp only [];omega,?_⟩;cbv;(repeat' (first|with_reducible refine hold ?_ ?_|with_reducible refine And.intro ?_ ?_));(all_goals first|trivial|exact qM (qE (by rfl))|exact qM (qF (by rfl))|exact qM (Fit.refl _)|exact qL (qK _)|(refine qM (qE ?_);(try simp only [qV]at *);simp only [zQ,zA,zB,zC,zD,zE,zF,zG,zH,zI,zJ,zK,zL,zM,zN,zO,zP,zR,zS]at *;omega)|(subst en1;exact qM (qE (by rfl)))|(refine qL (qJ ?_);(repeat' (first|exact qA|exact qB|refine qC ?_ rfl ?_|refine qD ?_ ?_|exact qE (by rfl)|exact qF (by rfl)|exact Fit.refl _|exact qG _|(refine qE ?_;(try simp only [qV]at *);simp only [zQ,zA,zB,zC,zD,zE,zF,zG,zH,zI,zJ,zK,zL,zM,zN,zO,zP,zR,zS]at *;omega)));done)|skip)))
   |((try clear c66);(try clear c64);(try clear c65);((try simp only [zQ,zA,zB,zC,zD,zE,zF,zG,zH,zI,zJ,zK,zL,zM,zN,zO,zP,zR,zS]at *);(have hk2:k+1≤(s6.h0-s6.l0+1).toNat:=by((try simp only [qV]at *);(try simp only [zQ,zA,zB,zC,zD,zE,zF,zG,zH,zI,zJ,zK,zL,zM,zN,zO,zP,zR,zS]at *);omega));obtain⟨n1,en1⟩:∃z,z=n+1:=⟨_,rfl⟩;(have hn2:n1=s6.l0+zi (k+1):=by((try simp only [qV]at *);(try simp only [zQ,zA,zB,zC,zD,zE,zF,zG,zH,zI,zJ,zK,zL,zM,zN,zO,zP,zR,zS]at *);omega));(have hb2:=ucR hn hb (ukB (.inr (.inl (by assumption)))));refine⟨⟨(k+1,n1,w),hk2,hn2,hb2⟩,by simp only [];omega,?_⟩;cbv;(repeat' (first|with_reducible refine hold ?_ ?_|with_reducible refine And.intro ?_ ?_));(all_goals first|trivial|exact qM (qE (by rfl))|exact qM (qF (by rfl))|exact qM (Fit.refl _)|exact qL (qK _)|(refine qM (qE ?_);(try simp only [qV]at *);simp only [zQ,zA,zB,zC,zD,zE,zF,zG,zH,zI,zJ,zK,zL,zM,zN,zO,zP,zR,zS]at *;omega)|(subst en1;exact qM (qE (by rfl)))|(refine qL (qJ ?_);(repeat' (first|exact qA|exact qB|refine qC ?_ rfl ?_|refine qD ?_ ?_|exact qE (by rfl)|exact qF (by rfl)|exact Fit.refl _|exact qG _|(refine qE ?_;(try simp only [qV]at *);simp only [zQ,zA,zB,zC,zD,zE,zF,zG,zH,zI,zJ,zK,zL,zM,zN,zO,zP,zR,zS]at *;omega)));done)|skip)))
   |((try clear c66);(try clear c64);(try clear c65);((try simp only [zQ,zA,zB,zC,zD,zE,zF,zG,zH,zI,zJ,zK,zL,zM,zN,zO,zP,zR,zS]at *);(have hk2:k+1≤(s6.h0-s6.l0+1).toNat:=by((try simp only [qV]at *);(try simp only [zQ,zA,zB,zC,zD,zE,zF,zG,zH,zI,zJ,zK,zL,zM,zN,zO,zP,zR,zS]at *);omega));obtain⟨n1,en1⟩:∃z,z=n+1:=⟨_,rfl⟩;(have hn2:n1=s6.l0+zi (k+1):=by((try simp only [qV]at *);(try simp only [zQ,zA,zB,zC,zD,zE,zF,zG,zH,zI,zJ,zK,zL,zM,zN,zO,zP,zR,zS]at *);omega));(have hb2:=ucR hn hb (ukB (.inr (.inr (by assumption)))));refine⟨⟨(k+1,n1,w),hk2,hn2,hb2⟩,by simp only [];omega,?_⟩;cbv;(repeat' (first|with_reducible refine hold ?_ ?_|with_reducible refine And.intro ?_ ?_));(all_goals first|trivial|exact qM (qE (by rfl))|exact qM (qF (by rfl))|exact qM (Fit.refl _)|exact qL (qK _)|(refine qM (qE ?_);(try simp only [qV]at *);simp only [zQ,zA,zB,zC,zD,zE,zF,zG,zH,zI,zJ,zK,zL,zM,zN,zO,zP,zR,zS]at *;omega)|(subst en1;exact qM (qE (by rfl)))|(refine qL (qJ ?_);(repeat' (first|exact qA|exact qB|refine qC ?_ rfl ?_|refine qD ?_ ?_|exact qE (by rfl)|exact qF (by rfl)|exact Fit.refl _|exact qG _|(refine qE ?_;(try simp only [qV]at *);simp only [zQ,zA,zB,zC,zD,zE,zF,zG,zH,zI,zJ,zK,zL,zM,zN,zO,zP,zR,zS]at *;omega)));done)|skip)))
   |((try clear c66);(try clear c64);(try clear c65);((try simp only [zQ,zA,zB,zC,zD,zE,zF,zG,zH,zI,zJ,zK,zL,zM,zN,zO,zP,zR,zS]at *);(have hk2:k+1≤(s6.h0-s6.l0+1).toNat:=by((try simp only [qV]at *);(try simp only [zQ,zA,zB,zC,zD,zE,zF,zG,zH,zI,zJ,zK,zL,zM,zN,zO,zP,zR,zS]at *);omega));obtain⟨n1,en1⟩:∃z,z=n+1:=⟨_,rfl⟩;(have hn2:n1=s6.l0+zi (k+1):=by((try simp only [qV]at *);(try simp only [zQ,zA,zB,zC,zD,zE,zF,zG,zH,zI,zJ,zK,zL,zM,zN,zO,zP,zR,zS]at *);omega));obtain⟨o,eo⟩:∃o:Bnd,o=⟨mn w.l0 n,mx w.h0 n,mn w.l1 (xL s6 n),mx w.h1 (xH s6 n),mn w.l2 (yL s6 n),mx w.h2 (yH s6 n)⟩:=⟨_,rfl⟩;(have hb2:=uky hn hb (go_t (by assumption) (by assumption) (by assumption) (by assumption) (by assumption)) eo);refine⟨⟨(k+1,n1,o),hk2,hn2,hb2⟩,by simp only [];omega,?_⟩;cbv;(repeat' (first|with_reducible refine hold ?_ ?_|with_reducible refine And.intro ?_ ?_));(all_goals first|trivial|exact qM (qE (by rfl))|exact qM (qF (by rfl))|exact qM (Fit.refl _)|exact qL (qK _)|(refine qM (qE ?_);(try simp only [qV]at *);simp only [zQ,zA,zB,zC,zD,zE,zF,zG,zH,zI,zJ,zK,zL,zM,zN,zO,zP,zR,zS]at *;omega)|(subst en1;exact qM (qE (by rfl)))|(subst eo;(refine qL (qJ ?_));(repeat' (first|exact qA|exact qB|refine qC ?_ rfl ?_|refine qD ?_ ?_|exact qE (by rfl)|exact qF (by rfl)|exact Fit.refl _|exact qG _|(refine qE ?_;(try simp only [qV]at *);simp only [zQ,zA,zB,zC,zD,zE,zF,zG,zH,zI,zJ,zK,zL,zM,zN,zO,zP,zR,zS]at *;omega)));done)|(refine qL (qJ ?_);(repeat' (first|exact qA|exact qB|refine qC ?_ rfl ?_|refine qD ?_ ?_|exact qE (by rfl)|exact qF (by rfl)|exact Fit.refl _|exact qG _|(refine qE ?_;(try simp only [qV]at *);simp only [zQ,zA,zB,zC,zD,zE,zF,zG,zH,zI,zJ,zK,zL,zM,zN,zO,zP,zR,zS]at *;omega)));done)|skip)))
   |((try clear c66);(try clear c64);(try clear c65);(subst hR;(have e:k=(s6.h0-s6.l0+1).toNat:=by((try simp only [qV]at *);(try simp only [zQ,zA,zB,zC,zD,zE,zF,zG,zH,zI,zJ,zK,zL,zM,zN,zO,zP,zR,zS]at *);omega));subst e;subst hb;(refine qD ?_ (qD (qF (by rfl)) qB));(refine ua1 (by rfl) (fun ix h0 h1=> ?_);(have h2:ix.den<3:=h1);(have hx:ix.den.toNat=0∨ix.den.toNat=1∨ix.den.toNat=2:=by omega);(rcases hx with hx|hx|hx<;>simp only [hx]));all_goals (exact qC (qE (by rfl)) rfl (qC (qE (by rfl)) rfl qA))))
   |skip
theorem uvO (d:Dsp)(b:Nat)(hd:DOk d)(hb:b≤1000):ua0 Tryz.prog 26 [(dspS d),(.sl 2 (.sym fun _=>zi (d.fs).length) (fun ix=>[(iv fun _=>((FO d d.fs).getD ix.den.toNat f0).lo),(iv fun _=>((FO d d.fs).getD ix.den.toNat f0).hi)])),(iv fun _=>zi b)] [] (fun r _=>r=(.tup [(.sl 2 (.sym fun _=>d.sn) (fun ix=>[(iv fun _=>(allS (sixN (SN d) (LO d) (FO d d.fs) (outN b))).lo ix.den.toNat),(iv fun _=>(allS (sixN (SN d) (LO d) (FO d d.fs) (outN b))).hi ix.den.toNat)])),(.bool (.sym fun _=>(ubw (SN d) (LO d) (FO d d.fs)) b))])):=by
 have s1:=hd.s1
 have s3:=hd.s3
 have h:d.sn=1∨d.sn=2∨d.sn=3:=by omega
 rcases h with hS|hS|hS
 ·exact((ute d b hd hb hS).pre (qD (qC (Fit.refl _) rfl (qC (Fit.refl _) rfl (qC (Fit.refl _) rfl (qC (qE (by exact hS)) rfl (Fit.refl _))))) (Fit.refl _))).post fun r bs h=>⟨_,by subst h;exact qD (ua1 hS.symm fun _ _ _=>Fit.refl _) (Fit.refl _),rfl⟩
 ·exact((usz d b hd hb hS).pre (qD (qC (Fit.refl _) rfl (qC (Fit.refl _) rfl (qC (Fit.refl _) rfl (qC (qE (by exact hS)) rfl (Fit.refl _))))) (Fit.refl _))).post fun r bs h=>⟨_,by subst h;exact qD (ua1 hS.symm fun _ _ _=>Fit.refl _) (Fit.refl _),rfl⟩
 ·exact((usO d b hd hb hS).pre (qD (qC (Fit.refl _) rfl (qC (Fit.refl _) rfl (qC (Fit.refl _) rfl (qC (qE (by exact hS)) rfl (Fit.refl _))))) (Fit.refl _))).post fun r bs h=>⟨_,by subst h;exact qD (ua1 hS.symm fun _ _ _=>Fit.refl _) (Fit.refl _),rfl⟩
theorem uvB (d:Dsp)(b:Nat)(hd:DOk d)(hb:b≤1000):ua0 Tryz.prog 46 [(dspS d),(.sl 2 (.sym fun _=>zi (d.fs).length) (fun ix=>[(iv fun _=>((FO d d.fs).getD ix.den.toNat f0).lo),(iv fun _=>((FO d d.fs).getD ix.den.toNat f0).hi)])),(iv fun _=>zi b)] [] (fun r _=>r=(.bool (.sym fun _=>(ubw (SN d) (LO d) (FO d d.fs)) b))):=by
 have c26:=uvO d b hd hb
 refine ua0.is fun R hR=>qW (sc:=sc46) tyok mix Tryz.func46 rfl Tryz.call46 (by kernel_rfl) (by kernel_rfl) ?_
 generalize Tryz.prog=P at c26⊢
 cbv
 repeat' (first
  | (refine qP ?_ (c26) ?hfit
     case hfit=>((repeat' (first|exact qB|refine qD ?_ ?_|exact qE (by rfl)|exact qF (by rfl)|exact Fit.refl _|exact qA|refine qC ?_ rfl ?_));done)
     try cbv)
  |fail)
 all_goals first
  |(subst hR;(repeat' (first|exact qA|exact qB|refine qC ?_ rfl ?_|refine qD ?_ ?_|exact qE (by rfl)|exact qF (by rfl)|exact Fit.refl _|exact qG _|(refine qE ?_;(try simp only [qV]at *);simp only [zQ,zA,zB,zC,zD,zE,zF,zG,zH,zI,zJ,zK,zL,zM,zN,zO,zP,zR,zS]at *;omega)));done)
  |skip
theorem uu4 (d:Dsp)(hd:DOk d):ua0 Tryz.prog 35 [(dspS d)] [] (fun r _=>r=(.sl 2 (.sym fun _=>zi (d.fs).length) (fun ix=>[(iv fun _=>((FO d d.fs).getD ix.den.toNat f0).lo),(iv fun _=>((FO d d.fs).getD ix.den.toNat f0).hi)]))):=by
 have c80:=fun (f:FaT) (hf:uc2 d f)=>uuA d f hd.t hf
 have f6:=hd.f6
 refine ua0.is fun R hR=>qW (sc:=sc35) tyok mix Tryz.func35 rfl Tryz.call35 (by kernel_rfl) (by kernel_rfl) ?_
 generalize Tryz.prog=P at c80⊢
 cbv
 repeat' (first
  |fail)
 all_goals first
  |skip
 refine⟨none,[⟨.tmp 3,66,2⟩],{i:Nat // i≤d.fs.length},fun x=>⟨[(1,.own 0 0),(3,.row 4),(4,(iv fun _=>zi x.1))],[(0,.cells [(iS d.tw),(iS d.tm),(.sl 1 (.sym fun _=>zi (d.tv).length) (fun ix=>[(.sl 1 (.sym fun _=>zi ((d.tv).getD ix.den.toNat []).length) (fun jx=>[(iv fun _=>((d.tv).getD ix.den.toNat []).getD jx.den.toNat 0)]))])),(iv fun _=>d.sn),(iv fun _=>d.pn),(.sl 4 (.sym fun _=>zi (d.ls).length) (fun ix=>[(iv fun _=>((d.ls).getD ix.den.toNat l0T).a),(iv fun _=>((d.ls).getD ix.den.toNat l0T).b),(iv fun _=>((d.ls).getD ix.den.toNat l0T).lo),(iv fun _=>((d.ls).getD ix.den.toNat l0T).hi)])),(.sl 6 (.sym fun _=>zi (d.fs).length) (fun ix=>[(iv fun _=>((d.fs).getD ix.den.toNat f0T).p),(iv fun _=>((d.fs).getD ix.den.toNat f0T).s),(iv fun _=>((d.fs).getD ix.den.toNat f0T).wl),(iv fun _=>((d.fs).getD ix.den.toNat f0T).wh),(iv fun _=>((d.fs).getD ix.den.toNat f0T).ml),(iv fun _=>((d.fs).getD ix.den.toNat f0T).mh)]))] 29),(4,.row 66 2 (.sym fun _=>zi x.1) (fun ix=>[(iv fun _=>((FO d d.fs).getD ix.den.toNat f0).lo),(iv fun _=>((FO d d.fs).getD ix.den.toNat f0).hi)]))],20⟩,fun x=>d.fs.length-x.1,?_,?_⟩
 ·refine⟨⟨0,by omega⟩,?_⟩
  cbv
  repeat' (first
   |with_reducible refine hold ?_ ?_
   |with_reducible refine And.intro ?_ ?_)
  all_goals first
   |trivial
   |exact qM (qE (by rfl))
   |exact qM (Fit.refl _)
   |exact qL (qK _)
   |(refine qL (uab ?_ ?_);(first|rfl|((try simp only [qV]at *);(try simp only [zQ,zA,zB,zC,zD,zE,zF,zG,zH,zI,zJ,zK,zL,zM,zN,zO,zP,zR,zS]at *);omega));intro ix h0 h1;exfalso;(try simp only [qV]at *);(try simp only [zQ,zA,zB,zC,zD,zE,zF,zG,zH,zI,zJ,zK,zL,zM,zN,zO,zP,zR,zS]at *);omega)
   |skip
 ·rintro ⟨i,hi⟩
  cbv
  have hF2:i<d.fs.length→mLo d (d.fs.getD i f0T)=((FO d d.fs).getD i f0).lo∧mHi d (d.fs.getD i f0T)=((FO d d.fs).getD i f0).hi:=fun hi=>by rw [umE hi];exact⟨rfl,rfl⟩
  repeat' (first
   |with_reducible refine hold ?_ ?_
   |with_reducible refine And.intro ?_ ?_
   |(with_reducible intro hcd;(try simp only [zA,zB,zC,zD,zE,zF,zG,zH,zI,zJ,zK,zL,zM,zN,zO,zP]at hcd);try cbv)
   | ((have hlt:i<d.fs.length:=(by((try simp only [qV]at *);(try simp only [zQ,zA,zB,zC,zD,zE,zF,zG,zH,zI,zJ,zK,zL,zM,zN,zO,zP,zR,zS]at *);omega)))
      have hlo:=(hF2 hlt).1
      have hhi:=(hF2 hlt).2
      refine⟨fun ix=>[(iv fun _=>((FO d d.fs).getD ix.den.toNat f0).lo),(iv fun _=>((FO d d.fs).getD ix.den.toNat f0).hi)],?_⟩
      cbv
      refine hold (ubo (by intro ix jx h0 h1 h2;(have e3:jx.den.toNat=ix.den.toNat:=by rw [h2]);simp only [e3];exact Fit.refl _) (by intro ix jx h0 h1 h2;(have h3:jx.den.toNat=i:=by((try simp only [qV]at *);(try simp only [zQ,zA,zB,zC,zD,zE,zF,zG,zH,zI,zJ,zK,zL,zM,zN,zO,zP,zR,zS]at *);omega));simp only [h3];exact qC (qE hlo) rfl (qC (qE hhi) rfl qA)) (by(try simp only [qV]at *);(try simp only [zQ,zA,zB,zC,zD,zE,zF,zG,zH,zI,zJ,zK,zL,zM,zN,zO,zP,zR,zS]at *);omega)) (Or.inl ?_)
      try cbv)
   | (refine qP ?_ (c80 (d.fs.getD i f0T) (hd.f i (by((try simp only [qV]at *);(try simp only [zQ,zA,zB,zC,zD,zE,zF,zG,zH,zI,zJ,zK,zL,zM,zN,zO,zP,zR,zS]at *);omega)))) ?hfit
      case hfit=>((repeat' (first|exact qB|refine qD ?_ ?_|exact qE (by rfl)|exact qF (by rfl)|exact Fit.refl _|exact qA|refine qC ?_ rfl ?_));done)
      try cbv)
   |fail)
  all_goals first
   |((try simp only [qV]at *);(try simp only [zQ,zA,zB,zC,zD,zE,zF,zG,zH,zI,zJ,zK,zL,zM,zN,zO,zP,zR,zS]at *);first|(refine qN ?_;omega)|(simp only [Hold];omega))
   |(subst hR;(refine ua1 (by((try simp only [qV]at *);(try simp only [zQ,zA,zB,zC,zD,zE,zF,zG,zH,zI,zJ,zK,zL,zM,zN,zO,zP,zR,zS]at *);omega)) (fun _ _ _=>Fit.refl _));done)
   |((try simp only [zQ,zA,zB,zC,zD,zE,zF,zG,zH,zI,zJ,zK,zL,zM,zN,zO,zP,zR,zS]at *);refine⟨⟨i+1,by((try simp only [qV]at *);(try simp only [zQ,zA,zB,zC,zD,zE,zF,zG,zH,zI,zJ,zK,zL,zM,zN,zO,zP,zR,zS]at *);omega)⟩,by simp only [];omega,?_⟩;cbv;(repeat' (first|with_reducible refine hold ?_ ?_|with_reducible refine And.intro ?_ ?_));(all_goals first|trivial|exact qM (qE (by rfl))|exact qM (qF (by rfl))|exact qM (Fit.refl _)|exact qL (qK _)|(refine qM (qE ?_);(try simp only [qV]at *);simp only [zQ,zA,zB,zC,zD,zE,zF,zG,zH,zI,zJ,zK,zL,zM,zN,zO,zP,zR,zS]at *;omega)|(refine qL (qJ ?_);(repeat' (first|exact qA|exact qB|refine qC ?_ rfl ?_|refine qD ?_ ?_|exact qE (by rfl)|exact qF (by rfl)|exact Fit.refl _|exact qG _|(refine qE ?_;(try simp only [qV]at *);simp only [zQ,zA,zB,zC,zD,zE,zF,zG,zH,zI,zJ,zK,zL,zM,zN,zO,zP,zR,zS]at *;omega)));done)|skip))
   |skip
theorem ukI {a b:Int} {A n N:Nat}(ha:a=(A:Int))(hb:b=(n:Int))(hn:n≤6)(hN:N=A*2^n)(h6:N≤128):Hold (0≤b∧b<(IntKind.bits .i64:Int)∧zi N=a*2^b.toNat∧inR .i64 (zi N)):=by
 subst ha
 subst hb
 refine⟨by omega,?_,?_,?_⟩
 ·show(n:Int)<64
  omega
 ·rw [hN];simp [zi]
 ·unfold inR
  simp only [ua9]
  omega
theorem uiA {n:Nat}(h:n≤6):1≤2^n∧2^n≤64:=⟨Nat.pow_pos (by decide),by have:2^n≤2^6:=Nat.pow_le_pow_right (by decide) h;omega⟩
theorem usJ (d:Dsp)(hd:DOk d):ua0 Tryz.prog 47 [(dspS d)] [] (fun r _=>r=(iv fun _=>zi (2^d.fs.length-1))):=by
 have f6:=hd.f6
 have hN6:=uiA f6
 obtain⟨N,hN⟩:∃N,N=2^d.fs.length:=⟨_,rfl⟩
 rw [←hN]at hN6
 refine ua0.is fun R hR=>qW (sc:=sc47) tyok mix Tryz.func47 rfl Tryz.call47 (by kernel_rfl) (by kernel_rfl) ?_
 generalize Tryz.prog=P
 cbv
 repeat' (first
  |with_reducible refine hold ?_ ?_
  | (refine⟨zi N,?_⟩
     cbv
     refine hold (ukI (A:=1) (n:=d.fs.length) (by first|rfl|((try simp only [qV]at *);(try simp only [zQ,zA,zB,zC,zD,zE,zF,zG,zH,zI,zJ,zK,zL,zM,zN,zO,zP,zR,zS]at *);rfl)) (by first|rfl|((try simp only [qV]at *);(try simp only [zQ,zA,zB,zC,zD,zE,zF,zG,zH,zI,zJ,zK,zL,zM,zN,zO,zP,zR,zS]at *);rfl)) (by omega) (by rw [hN,Nat.one_mul]) (by omega)) ?_
     try cbv)
  |fail)
 all_goals first
  |((try simp only [qV]at *);(try simp only [zQ,zA,zB,zC,zD,zE,zF,zG,zH,zI,zJ,zK,zL,zM,zN,zO,zP,zR,zS]at *);first|(refine qN ?_;omega)|(simp only [Hold];omega))
  |(subst hR;(refine qE ?_;rw [←hN];(try simp only [qV]at *);(try simp only [zQ,zA,zB,zC,zD,zE,zF,zG,zH,zI,zJ,zK,zL,zM,zN,zO,zP,zR,zS]at *);omega);done)
  |((try simp only [qV]at *);(try simp only [zQ,zA,zB,zC,zD,zE,zF,zG,zH,zI,zJ,zK,zL,zM,zN,zO,zP,zR,zS]at *);first|(refine udT ?_;omega)|(refine ucW ?_;omega)|(refine qN ?_;omega))
  |skip
theorem usK (d:Dsp)(h:¬ua6 d=0):ua0 Tryz.prog 14 [(dspS d)] [] (fun r _=>r=(.tup [.sl 2 (.lit 0) (fun _=>[]),(iv fun _=>ua6 d)])):=by
 have c21:=uel d
 refine ua0.is fun R hR=>qW (sc:=sc14) tyok mix Tryz.func14 rfl Tryz.call14 (by kernel_rfl) (by kernel_rfl) ?_
 generalize Tryz.prog=P at c21⊢
 cbv
 repeat' (first
  |(with_reducible intro hcd;exfalso;(try simp only [zQ,zA,zB,zC,zD,zE,zF,zG,zH,zI,zJ,zK,zL,zM,zN,zO,zP,zR,zS]at hcd);omega)
  |with_reducible refine And.intro ?_ ?_
  |(with_reducible intro hcd;(try simp only [zA,zB,zC,zD,zE,zF,zG,zH,zI,zJ,zK,zL,zM,zN,zO,zP]at hcd);try cbv)
  | (refine qP ?_ (c21) ?hfit
     case hfit=>((repeat' (first|exact qB|refine qD ?_ ?_|exact qE (by rfl)|exact qF (by rfl)|exact Fit.refl _|exact qA|refine qC ?_ rfl ?_));done)
     try cbv)
  |fail)
 all_goals first
  |(subst hR;exact qD (qO rfl) (qD (Fit.refl _) qB);done)
  |skip
theorem uj9 {d:Dsp}(h:ua6 d=0):ubw (SN d) (LO d) (FO d d.fs) (2^d.fs.length-1)=canD (SN d) (LO d) []:=by
 have hd:=ua3.1 h
 have q:=ujs (okk hd hd.f)
 rwa [ucz]at q
theorem usB {d:Dsp}(h:ua6 d=0)(hc:ubw (SN d) (LO d) (FO d d.fs) (2^d.fs.length-1)=false):uac d=9:=by
 refine ufN h ?_
 rw [ueP,←uj9 h]
 exact hc
theorem uq6 {d:Dsp}(h:ua6 d=0)(hc:ubw (SN d) (LO d) (FO d d.fs) (2^d.fs.length-1)=true):uac d=0:=by
 refine udI h ?_
 rw [ueP,←uj9 h]
 exact hc
theorem uhF (d:Dsp)(h:ua6 d=0):ua0 Tryz.prog 14 [(dspS d)] [] (fun r _=>r=(.tup [(.sl 2 (.sym fun _=>zi (d.fs).length) (fun ix=>[(iv fun _=>((FO d d.fs).getD ix.den.toNat f0).lo),(iv fun _=>((FO d d.fs).getD ix.den.toNat f0).hi)])),(iv fun _=>uac d)])):=by
 have hd:=ua3.1 h
 have hp6:=uiA hd.f6
 have c21:=uel d
 have c35:=uu4 d hd
 have c47:=usJ d hd
 have c46:=uvB d (2^d.fs.length-1) hd (by omega)
 refine ua0.is fun R hR=>qW (sc:=sc14) tyok mix Tryz.func14 rfl Tryz.call14 (by kernel_rfl) (by kernel_rfl) ?_
 generalize Tryz.prog=P at c21 c35 c47 c46⊢
 cbv
 repeat' (first
  |(with_reducible intro hcd;exfalso;(try simp only [zQ,zA,zB,zC,zD,zE,zF,zG,zH,zI,zJ,zK,zL,zM,zN,zO,zP,zR,zS]at hcd);omega)
  |with_reducible refine And.intro ?_ ?_
  |(with_reducible intro hcd;(try simp only [zA,zB,zC,zD,zE,zF,zG,zH,zI,zJ,zK,zL,zM,zN,zO,zP]at hcd);try cbv)
  | (refine qP ?_ (c21) ?hfit
     case hfit=>((repeat' (first|exact qB|refine qD ?_ ?_|exact qE (by rfl)|exact qF (by rfl)|exact Fit.refl _|exact qA|refine qC ?_ rfl ?_));done)
     try cbv)
  | (refine qP ?_ (c35) ?hfit
     case hfit=>((repeat' (first|exact qB|refine qD ?_ ?_|exact qE (by rfl)|exact qF (by rfl)|exact Fit.refl _|exact qA|refine qC ?_ rfl ?_));done)
     try cbv)
  | (refine qP ?_ (c47) ?hfit
     case hfit=>((repeat' (first|exact qB|refine qD ?_ ?_|exact qE (by rfl)|exact qF (by rfl)|exact Fit.refl _|exact qA|refine qC ?_ rfl ?_));done)
     try cbv)
  | (refine qP ?_ (c46) ?hfit
     case hfit=>((repeat' (first|exact qB|refine qD ?_ ?_|exact qE (by rfl)|exact qF (by rfl)|exact Fit.refl _|exact qA|refine qC ?_ rfl ?_));done)
     try cbv)
  |fail)
 all_goals first
  |((try clear c21);(try clear c35);(try clear c47);(try clear c46);(subst hR;(have e:=usB h (by assumption));(exact qD (Fit.refl _) (qD (qE e.symm) qB));done))
  |((try clear c21);(try clear c35);(try clear c47);(try clear c46);(subst hR;(have e:=uq6 h (by assumption));(exact qD (Fit.refl _) (qD (qE e.symm) qB));done))
  |skip
set_option maxHeartbeats 2000000 in
theorem uup (d:Dsp)(N:Nat)(hd:DOk d)(hN:N=2^d.fs.length):ua0 Tryz.prog 16 [(dspS d),(.sl 2 (.sym fun _=>zi (d.fs).length) (fun ix=>[(iv fun _=>((FO d d.fs).getD ix.den.toNat f0).lo),(iv fun _=>((FO d d.fs).getD ix.den.toNat f0).hi)]))] [] (fun r _=>r=(.sl 1 (.sym fun _=>zi (uas (lvB d.fs.length (ubw (SN d) (LO d) (FO d d.fs)) N) 16).length) (fun ix=>[(iv fun _=>(uas (lvB d.fs.length (ubw (SN d) (LO d) (FO d d.fs)) N) 16).getD ix.den.toNat 0)]))):=by
 have c48:=fun (k:Nat) (hk:k≤N)=>uw8 k (by have:=uiA hd.f6;omega)
 have c49:=fun (k:Nat) (B:List Int) (hB:B.length≤1000)=>uno (uas k 16) B (Nat.le_trans (uga k 16) (by decide)) hB
 have c46:=fun (o:Nat) (ho:o≤N)=>uvB d o hd (by have:=uiA hd.f6;omega)
 have f6:=hd.f6
 have hN6:=uiA f6
 rw [←hN]at hN6
 refine ua0.is fun R hR=>qW (sc:=sc16) tyok mix Tryz.func16 rfl Tryz.call16 (by kernel_rfl) (by kernel_rfl) ?_
 generalize Tryz.prog=P at c48 c49 c46⊢
 cbv
 repeat' (first
  |with_reducible refine hold ?_ ?_
  | (refine⟨zi N,?_⟩
     cbv
     refine hold (ukI (A:=1) (n:=d.fs.length) (by first|rfl|((try simp only [qV]at *);(try simp only [zQ,zA,zB,zC,zD,zE,zF,zG,zH,zI,zJ,zK,zL,zM,zN,zO,zP,zR,zS]at *);rfl)) (by first|rfl|((try simp only [qV]at *);(try simp only [zQ,zA,zB,zC,zD,zE,zF,zG,zH,zI,zJ,zK,zL,zM,zN,zO,zP,zR,zS]at *);rfl)) (by omega) (by rw [hN,Nat.one_mul]) (by omega)) ?_
     try cbv)
  | (refine qP ?_ (c48 (N-1) (by omega)) ?hfit
     case hfit=>((refine qD (qE (by(try simp only [qV]at *);(try simp only [zQ,zA,zB,zC,zD,zE,zF,zG,zH,zI,zJ,zK,zL,zM,zN,zO,zP,zR,zS]at *);omega)) qB);done)
     try cbv)
  |fail)
 all_goals first
  |((try clear c48);(try clear c49);(try clear c46);((try simp only [qV]at *);(try simp only [zQ,zA,zB,zC,zD,zE,zF,zG,zH,zI,zJ,zK,zL,zM,zN,zO,zP,zR,zS]at *);first|(refine qN ?_;omega)|(simp only [Hold];omega)))
  |((try clear c48);(try clear c49);(try clear c46);((try simp only [qV]at *);(try simp only [zQ,zA,zB,zC,zD,zE,zF,zG,zH,zI,zJ,zK,zL,zM,zN,zO,zP,zR,zS]at *);first|(refine udT ?_;omega)|(refine ucW ?_;omega)|(refine qN ?_;omega)))
  |skip
 refine⟨none,[],{x:Nat×List Int // x.1≤N∧x.2=uas (lvB d.fs.length (ubw (SN d) (LO d) (FO d d.fs)) x.1) 16},fun x=>⟨[(1,(.sl 2 (.sym fun _=>zi (d.fs).length) (fun ix=>[(iv fun _=>((FO d d.fs).getD ix.den.toNat f0).lo),(iv fun _=>((FO d d.fs).getD ix.den.toNat f0).hi)]))),(2,.own 0 0),(5,(iS x.1.2)),(6,(iv fun _=>zi x.1.1))],[(0,.cells [(iS d.tw),(iS d.tm),(.sl 1 (.sym fun _=>zi (d.tv).length) (fun ix=>[(.sl 1 (.sym fun _=>zi ((d.tv).getD ix.den.toNat []).length) (fun jx=>[(iv fun _=>((d.tv).getD ix.den.toNat []).getD jx.den.toNat 0)]))])),(iv fun _=>d.sn),(iv fun _=>d.pn),(.sl 4 (.sym fun _=>zi (d.ls).length) (fun ix=>[(iv fun _=>((d.ls).getD ix.den.toNat l0T).a),(iv fun _=>((d.ls).getD ix.den.toNat l0T).b),(iv fun _=>((d.ls).getD ix.den.toNat l0T).lo),(iv fun _=>((d.ls).getD ix.den.toNat l0T).hi)])),(.sl 6 (.sym fun _=>zi (d.fs).length) (fun ix=>[(iv fun _=>((d.fs).getD ix.den.toNat f0T).p),(iv fun _=>((d.fs).getD ix.den.toNat f0T).s),(iv fun _=>((d.fs).getD ix.den.toNat f0T).wl),(iv fun _=>((d.fs).getD ix.den.toNat f0T).wh),(iv fun _=>((d.fs).getD ix.den.toNat f0T).ml),(iv fun _=>((d.fs).getD ix.den.toNat f0T).mh)]))] 29)],60⟩,fun x=>N-x.1.1,?_,?_⟩
 ·obtain⟨B0,eB0⟩:∃B0,B0=uas (lvB d.fs.length (ubw (SN d) (LO d) (FO d d.fs)) 0) 16:=⟨_,rfl⟩
  refine⟨⟨(0,B0),by simp only [];omega,by rw [eB0]⟩,?_⟩
  cbv
  repeat' (first
   |with_reducible refine hold ?_ ?_
   |with_reducible refine And.intro ?_ ?_)
  all_goals first
   |trivial
   |exact qM (qE (by rfl))
   |exact qM (Fit.refl _)
   |exact qL (qK _)
   |(subst eB0;simp only [show lvB d.fs.length (ubw (SN d) (LO d) (FO d d.fs)) 0=N-1 from by subst hN;rfl];exact qM (Fit.refl _))
   |skip
 ·rintro ⟨⟨k,B⟩,hk,hB⟩
  cbv
  dsimp only at hk hB
  have hk16:k≤N:=hk
  have hBl:B.length≤1000:=by rw [hB];exact Nat.le_trans (uga _ _) (by decide)
  repeat' (first
   |with_reducible refine hold ?_ ?_
   |with_reducible refine And.intro ?_ ?_
   |(with_reducible intro hcd;(try simp only [zA,zB,zC,zD,zE,zF,zG,zH,zI,zJ,zK,zL,zM,zN,zO,zP]at hcd);try cbv)
   | (refine⟨zi N,?_⟩
      cbv
      refine hold (ukI (A:=1) (n:=d.fs.length) (by first|rfl|((try simp only [qV]at *);(try simp only [zQ,zA,zB,zC,zD,zE,zF,zG,zH,zI,zJ,zK,zL,zM,zN,zO,zP,zR,zS]at *);rfl)) (by first|rfl|((try simp only [qV]at *);(try simp only [zQ,zA,zB,zC,zD,zE,zF,zG,zH,zI,zJ,zK,zL,zM,zN,zO,zP,zR,zS]at *);rfl)) (by omega) (by rw [hN,Nat.one_mul]) (by omega)) ?_
      try cbv)
   | (refine qP ?_ (c48 k (by((try simp only [qV]at *);(try simp only [zQ,zA,zB,zC,zD,zE,zF,zG,zH,zI,zJ,zK,zL,zM,zN,zO,zP,zR,zS]at *);omega))) ?hfit
      case hfit=>((repeat' (first|exact qB|refine qD ?_ ?_|exact qE (by rfl)|exact qF (by rfl)|exact Fit.refl _|exact qA|refine qC ?_ rfl ?_));done)
      try cbv)
   | (refine qP ?_ (c49 k B hBl) ?hfit
      case hfit=>((repeat' (first|exact qB|refine qD ?_ ?_|exact qE (by rfl)|exact qF (by rfl)|exact Fit.refl _|exact qA|refine qC ?_ rfl ?_));done)
      try cbv)
   | (refine qP ?_ (c46 k (by((try simp only [qV]at *);(try simp only [zQ,zA,zB,zC,zD,zE,zF,zG,zH,zI,zJ,zK,zL,zM,zN,zO,zP,zR,zS]at *);omega))) ?hfit
      case hfit=>((repeat' (first|exact qB|refine qD ?_ ?_|exact qE (by rfl)|exact qF (by rfl)|exact Fit.refl _|exact qA|refine qC ?_ rfl ?_));done)
      try cbv)
   |fail)
  all_goals first
   |((try clear c48);(try clear c49);(try clear c46);((try simp only [qV]at *);(try simp only [zQ,zA,zB,zC,zD,zE,zF,zG,zH,zI,zJ,zK,zL,zM,zN,zO,zP,zR,zS]at *);first|(refine qN ?_;omega)|(simp only [Hold];omega)))
   |((try clear c48);(try clear c49);(try clear c46);((try simp only [qV]at *);(try simp only [zQ,zA,zB,zC,zD,zE,zF,zG,zH,zI,zJ,zK,zL,zM,zN,zO,zP,zR,zS]at *);first|(refine udT ?_;omega)|(refine ucW ?_;omega)|(refine qN ?_;omega)))
   |((try clear c48);(try clear c49);(try clear c46);((try simp only [zQ,zA,zB,zC,zD,zE,zF,zG,zH,zI,zJ,zK,zL,zM,zN,zO,zP,zR,zS]at *);obtain⟨B1,eB1⟩:∃B1,B1=uas k 16:=⟨_,rfl⟩;refine⟨⟨(k+1,B1),by((try simp only [qV]at *);(try simp only [zQ,zA,zB,zC,zD,zE,zF,zG,zH,zI,zJ,zK,zL,zM,zN,zO,zP,zR,zS]at *);omega),by rw [eB1,uut (h:=ubw (SN d) (LO d) (FO d d.fs)) (by rw [←hB];assumption) (by assumption)]⟩,by simp only [];omega,?_⟩;cbv;(repeat' (first|with_reducible refine hold ?_ ?_|with_reducible refine And.intro ?_ ?_));(all_goals first|trivial|exact qM (qE (by rfl))|exact qM (qF (by rfl))|exact qM (Fit.refl _)|exact qL (qK _)|(refine qM (qE ?_);(try simp only [qV]at *);simp only [zQ,zA,zB,zC,zD,zE,zF,zG,zH,zI,zJ,zK,zL,zM,zN,zO,zP,zR,zS]at *;omega)|(refine qL (qJ ?_);(repeat' (first|exact qA|exact qB|refine qC ?_ rfl ?_|refine qD ?_ ?_|exact qE (by rfl)|exact qF (by rfl)|exact Fit.refl _|exact qG _|(refine qE ?_;(try simp only [qV]at *);simp only [zQ,zA,zB,zC,zD,zE,zF,zG,zH,zI,zJ,zK,zL,zM,zN,zO,zP,zR,zS]at *;omega)));done)|(subst eB1;exact qM (Fit.refl _))|skip)))
   |((try clear c48);(try clear c49);(try clear c46);((try simp only [zQ,zA,zB,zC,zD,zE,zF,zG,zH,zI,zJ,zK,zL,zM,zN,zO,zP,zR,zS]at *);refine⟨⟨(k+1,B),by((try simp only [qV]at *);(try simp only [zQ,zA,zB,zC,zD,zE,zF,zG,zH,zI,zJ,zK,zL,zM,zN,zO,zP,zR,zS]at *);omega),by rw [uvb (h:=ubw (SN d) (LO d) (FO d d.fs)) (by rw [←hB];assumption)];exact hB⟩,by simp only [];omega,?_⟩;cbv;(repeat' (first|with_reducible refine hold ?_ ?_|with_reducible refine And.intro ?_ ?_));(all_goals first|trivial|exact qM (qE (by rfl))|exact qM (qF (by rfl))|exact qM (Fit.refl _)|exact qL (qK _)|(refine qM (qE ?_);(try simp only [qV]at *);simp only [zQ,zA,zB,zC,zD,zE,zF,zG,zH,zI,zJ,zK,zL,zM,zN,zO,zP,zR,zS]at *;omega)|(refine qL (qJ ?_);(repeat' (first|exact qA|exact qB|refine qC ?_ rfl ?_|refine qD ?_ ?_|exact qE (by rfl)|exact qF (by rfl)|exact Fit.refl _|exact qG _|(refine qE ?_;(try simp only [qV]at *);simp only [zQ,zA,zB,zC,zD,zE,zF,zG,zH,zI,zJ,zK,zL,zM,zN,zO,zP,zR,zS]at *;omega)));done)|(exact qM (Fit.refl _))|skip)))
   |((try clear c48);(try clear c49);(try clear c46);((try simp only [zQ,zA,zB,zC,zD,zE,zF,zG,zH,zI,zJ,zK,zL,zM,zN,zO,zP,zR,zS]at *);refine⟨⟨(k+1,B),by((try simp only [qV]at *);(try simp only [zQ,zA,zB,zC,zD,zE,zF,zG,zH,zI,zJ,zK,zL,zM,zN,zO,zP,zR,zS]at *);omega),by rw [uvj (h:=ubw (SN d) (LO d) (FO d d.fs)) (by assumption)];exact hB⟩,by simp only [];omega,?_⟩;cbv;(repeat' (first|with_reducible refine hold ?_ ?_|with_reducible refine And.intro ?_ ?_));(all_goals first|trivial|exact qM (qE (by rfl))|exact qM (qF (by rfl))|exact qM (Fit.refl _)|exact qL (qK _)|(refine qM (qE ?_);(try simp only [qV]at *);simp only [zQ,zA,zB,zC,zD,zE,zF,zG,zH,zI,zJ,zK,zL,zM,zN,zO,zP,zR,zS]at *;omega)|(refine qL (qJ ?_);(repeat' (first|exact qA|exact qB|refine qC ?_ rfl ?_|refine qD ?_ ?_|exact qE (by rfl)|exact qF (by rfl)|exact Fit.refl _|exact qG _|(refine qE ?_;(try simp only [qV]at *);simp only [zQ,zA,zB,zC,zD,zE,zF,zG,zH,zI,zJ,zK,zL,zM,zN,zO,zP,zR,zS]at *;omega)));done)|(exact qM (Fit.refl _))|skip)))
   |((try clear c48);(try clear c49);(try clear c46);(subst hR;(have hke:k=N:=(by((try simp only [qV]at *);(try simp only [zQ,zA,zB,zC,zD,zE,zF,zG,zH,zI,zJ,zK,zL,zM,zN,zO,zP,zR,zS]at *);omega)));subst hke;subst hB;exact Fit.refl _))
   |skip
theorem unF {f:FuncId} {args:List SV} {b:Bool}(h:ua0 Tryz.prog f args [] (fun r _=>r = .bool (.sym fun _=>b)))(hb:b=false):ua0 Tryz.prog f args [] (fun r _=>r = .bool (.lit false)):=h.post fun r bs q=>⟨_,by subst q;exact qF hb,rfl⟩
theorem uee {f:FuncId} {args:List SV} {b:Bool}(h:ua0 Tryz.prog f args [] (fun r _=>r = .bool (.sym fun _=>b)))(hb:b=true):ua0 Tryz.prog f args [] (fun r _=>r = .bool (.lit true)):=h.post fun r bs q=>⟨_,by subst q;exact qF hb,rfl⟩
theorem utr {d:Dsp}(h:uac d=0) {N:Nat}(hN:N=2^d.fs.length):uas (lvB d.fs.length (ubw (SN d) (LO d) (FO d d.fs)) N) 16=leaL d:=by
 have hF:=(uar h).1
 have hd:=ua3.1 hF
 have hl:=ucz d d.fs
 have f6:=hd.f6
 subst hN
 have q:=ukw (okk hd hd.f) (by rw [hl];omega) (by rw [←ueP];exact(uar h).2)
 rw [hl]at q
 rw [q]
 show _=if uac d=0 then fewL d.fs.length (okFa d)else []
 rw [if_pos h]
 rw [ujN]
end Go.Proofs.YtkdggbfknlcdaaaGreat
