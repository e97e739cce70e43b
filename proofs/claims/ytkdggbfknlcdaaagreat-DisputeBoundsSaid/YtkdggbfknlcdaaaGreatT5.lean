/- Contracts of the functions that the laws come to. No condition. -/
import Derived.Test.YtkdggbfknlcdaaaGreatT4
set_option linter.unusedVariables false
set_option linter.unusedSimpArgs false
set_option linter.deprecated false

namespace Go.Proofs.YtkdggbfknlcdaaaGreat
open Go Go.Eng Go.Proofs Go.Eng.Dif Go.Eng.Few
set_option maxRecDepth 10000
theorem uw9 :umv Tryz.prog 95 16:=ut4 (e:=93) (g:=3) (n:=4) (m:=4) (by kernel_rfl)
theorem uzP {v:Nat} {Y:Nat→Int} {f t a b i:Nat}(ht:t<4)(ha:a=at4 f v)(hb:b=at4 v t):lst (phN v Y (f*4+t)) (at4 f t) (phN v Y (f*4+t) a+phN v Y (f*4+t) b) i=phN v Y (f*4+(t+1)) i:=by
 subst ha
 subst hb
 have e:phN v Y (f*4+(t+1))=stp v (phN v Y (f*4+t)) (f*4+t):=rfl
 rw [e]
 unfold stp
 rw [show(f*4+t)/4=f by omega,show(f*4+t)%4=t by omega]
 rfl
theorem ux7 {v:Nat} {Y:Nat→Int} {f t i:Nat}(h:t=4):phN v Y (f*4+t) i=phN v Y ((f+1)*4) i:=by
 subst h
 rw [show f*4+4=(f+1)*4 by omega]
theorem uxp {v:Nat} {X:Nat→Int} {f i:Nat}(h:f=4):phN v (fwN X v) (f*4) i=fwN X (v+1) i:=by subst h;rfl
theorem uxu {M:Nat→Int} {n v i:Nat}(h:v=4):fwN (fwP M n) v i=fwP M (n+1) i:=by subst h;rfl
theorem uvJ {M:Nat→Int} {n i:Nat}(h:n=4):fwP M n i=clo M i:=by subst h;rfl
theorem uvA {M:Nat→Int} {n v:Nat}(hn:n<4)(hv:v=4)(h:ukM (fwN (fwP M n) v) (fwP M n)) {i:Nat}(hi:i<16):fwN (fwP M n) v i=clo M i:=by
 subst hv
 have h':ukM (fwP M (n+1)) (fwP M n):=h
 have:=ut0 h' (3-n) i hi
 rw [show n+1+(3-n)=4 by omega]at this
 exact this.symm
theorem usk {P:Nat→Int}(hP:∀i,i<16→ -5642219814912000≤P i∧P i≤2000) {a b:Nat}(ha:a<16)(hb:b<16):uai (inR .i64 (uv2 (IX.sym fun _=>P a).den (IX.sym fun _=>P b).den)):=by
 have h1:=hP a ha
 have h2:=hP b hb
 refine qN ?_
 simp only [zQ,zA,zB,zC,zD,zE,zF,zG,zH,zI,zJ,zK,zL,zM,zN,zO,zP,zR,zS]
 omega
theorem uuL {A B:Nat→Int}(h:decide (uba [IX.sym fun _=>A 0,IX.sym fun _=>A 1,IX.sym fun _=>A 2,IX.sym fun _=>A 3,IX.sym fun _=>A 4,IX.sym fun _=>A 5,IX.sym fun _=>A 6,IX.sym fun _=>A 7,IX.sym fun _=>A 8,IX.sym fun _=>A 9,IX.sym fun _=>A 10,IX.sym fun _=>A 11,IX.sym fun _=>A 12,IX.sym fun _=>A 13,IX.sym fun _=>A 14,IX.sym fun _=>A 15]=uba [IX.sym fun _=>B 0,IX.sym fun _=>B 1,IX.sym fun _=>B 2,IX.sym fun _=>B 3,IX.sym fun _=>B 4,IX.sym fun _=>B 5,IX.sym fun _=>B 6,IX.sym fun _=>B 7,IX.sym fun _=>B 8,IX.sym fun _=>B 9,IX.sym fun _=>B 10,IX.sym fun _=>B 11,IX.sym fun _=>B 12,IX.sym fun _=>B 13,IX.sym fun _=>B 14,IX.sym fun _=>B 15])=true):ukM A B:=by
 have e:=of_decide_eq_true h
 simp only [uba,List.map_cons,List.map_nil,ub6,List.cons.injEq,and_true]at e
 intro i hi
 rcases(show i=0∨i=1∨i=2∨i=3∨i=4∨i=5∨i=6∨i=7∨i=8∨i=9∨i=10∨i=11∨i=12∨i=13∨i=14∨i=15 by omega)with q|q|q|q|q|q|q|q|q|q|q|q|q|q|q|q<;>subst q
 ·exact e.1
 ·exact e.2.1
 ·exact e.2.2.1
 ·exact e.2.2.2.1
 ·exact e.2.2.2.2.1
 ·exact e.2.2.2.2.2.1
 ·exact e.2.2.2.2.2.2.1
 ·exact e.2.2.2.2.2.2.2.1
 ·exact e.2.2.2.2.2.2.2.2.1
 ·exact e.2.2.2.2.2.2.2.2.2.1
 ·exact e.2.2.2.2.2.2.2.2.2.2.1
 ·exact e.2.2.2.2.2.2.2.2.2.2.2.1
 ·exact e.2.2.2.2.2.2.2.2.2.2.2.2.1
 ·exact e.2.2.2.2.2.2.2.2.2.2.2.2.2.1
 ·exact e.2.2.2.2.2.2.2.2.2.2.2.2.2.2.1
 ·exact e.2.2.2.2.2.2.2.2.2.2.2.2.2.2.2
theorem uue {M:Nat→Int} {a b:Nat}(q:¬M a<0)(h:a=b):0≤M b:=by subst h;omega
theorem utg {M:Nat→Int} {n a:Nat}(h:M a<0)(ha:a=at4 n n)(hn:n<4):false=okD M:=by
 subst ha
 symm
 rw [Bool.eq_false_iff]
 intro q
 have:=ufB.1 q n hn
 omega
theorem upg {M:Nat→Int} {n:Nat}(hn:n=4)(h:∀j,j<n→0≤M (at4 j j)):true=okD M:=by
 subst hn
 exact(ufB.2 h).symm
set_option maxHeartbeats 2000000 in
theorem ulT (M:Nat→Int)(h1:∀i,i<16→ -2000≤M i)(h2:∀i,i<16→M i≤2000):ua0 Tryz.prog 78 [.own 0 0] [.cells [(.arr 16 (fun ix=>(iv fun _=>M ix.den.toNat)))] 95] (fun r bs=>r=(bv fun _=>okD (clo M))∧bs=[.cells [(.arr 16 (fun ix=>(iv fun _=>(clo M) ix.den.toNat)))] 95]):=by
 have he:=uw9
 have c98:= @uoS
 refine ua0.isB rfl fun R B hR hB=>qW (sc:=uBO) uaj mix Tryz.func78 rfl Tryz.call78 (by kernel_rfl) (by kernel_rfl) ?_
 generalize Tryz.prog=P at he c98⊢
 cbv
 repeat' (first|fail)
 all_goals first|skip
 refine⟨none,[],{n:Nat // n≤4},fun x=>⟨[(0,.own 0 0),(8,(iv fun _=>zi x.1))],[(0,.cells [(.arr 16 (fun ix=>(iv fun _=>(fwP M x.1) ix.den.toNat)))] 95)],60⟩,fun x=>4-x.1,?_,?_⟩
 ·refine⟨⟨0,by omega⟩,?_⟩
  cbv
  repeat' (first|with_reducible refine ua4 ?_ ?_|with_reducible refine And.intro ?_ ?_)
  all_goals first|trivial|exact qM (qE (by rfl))|exact qM (Fit.refl _)|exact qL (qK _)|skip
 ·rintro ⟨n, hn⟩
  cbv
  repeat' (first|with_reducible refine And.intro ?_ ?_|(with_reducible intro hcd;(try simp only [zA,zB,zC,zD,zE,zF,zG,zH,zI,zJ,zK,zL,zM,zN,zO,zP]at hcd);try cbv)|fail)
  all_goals first|skip
  refine⟨none,[],{v:Nat // v≤4},fun x=>⟨[(0,.own 0 0),(8,(iv fun _=>zi n)),(3,.own 64 0),(13,(iv fun _=>zi x.1))],[(0,.cells [(.arr 16 (fun ix=>(iv fun _=>(fwN (fwP M n) x.1) ix.den.toNat)))] 95),(64,.cells [(.arr 16 (fun ix=>(iv fun _=>(fwP M n) ix.den.toNat)))] 95)],200⟩,fun x=>4-x.1,?_,?_⟩
  ·refine⟨⟨0,by omega⟩,?_⟩
   cbv
   repeat' (first|with_reducible refine ua4 ?_ ?_|with_reducible refine And.intro ?_ ?_)
   all_goals first|trivial|exact qM (qE (by rfl))|exact qM (Fit.refl _)|exact qL (qK _)|skip
  ·rintro ⟨v, hv⟩
   cbv
   repeat' (first|with_reducible refine ua4 ?_ ?_|with_reducible refine And.intro ?_ ?_|(with_reducible intro hcd;(try simp only [zA,zB,zC,zD,zE,zF,zG,zH,zI,zJ,zK,zL,zM,zN,zO,zP]at hcd);try cbv)|fail)
   all_goals first|trivial|((try simp only [qV]at *);(try simp only [zQ,zA,zB,zC,zD,zE,zF,zG,zH,zI,zJ,zK,zL,zM,zN,zO,zP,zR,zS]at *);first|(refine qN ?_;omega)|(simp only [uai];omega))|((try simp only [zQ,zA,zB,zC,zD,zE,zF,zG,zH,zI,zJ,zK,zL,zM,zN,zO,zP,zR,zS]at *);refine⟨⟨n+1,by omega⟩,by simp only [];omega,?_⟩;cbv;(repeat' (first|with_reducible refine ua4 ?_ ?_|with_reducible refine And.intro ?_ ?_));(all_goals first|trivial|exact qM (qE (by rfl))|exact qM (qF (by rfl))|exact qM (Fit.refl _)|exact qL (qK _)|(refine qM (qE ?_);(try simp only [qV]at *);simp only [zQ,zA,zB,zC,zD,zE,zF,zG,zH,zI,zJ,zK,zL,zM,zN,zO,zP,zR,zS]at *;omega)|(refine qL (qJ (ub1 (fun ix h0 h1=>qE (uxu (by((try simp only [qV]at *);(try simp only [zQ,zA,zB,zC,zD,zE,zF,zG,zH,zI,zJ,zK,zL,zM,zN,zO,zP,zR,zS]at *);omega)))) qA)))|skip))|skip
   refine⟨none,[],{f:Nat // f≤4},fun x=>⟨[(0,.own 0 0),(8,(iv fun _=>zi n)),(3,.own 64 0),(13,(iv fun _=>zi v)),(4,(iv fun _=>zi v)),(16,(iv fun _=>zi x.1))],[(0,.cells [(.arr 16 (fun ix=>(iv fun _=>(phN v (fwN (fwP M n) v) (x.1*4)) ix.den.toNat)))] 95),(64,.cells [(.arr 16 (fun ix=>(iv fun _=>(fwP M n) ix.den.toNat)))] 95)],300⟩,fun x=>4-x.1,?_,?_⟩
   ·refine⟨⟨0,by omega⟩,?_⟩
    cbv
    repeat' (first|with_reducible refine ua4 ?_ ?_|with_reducible refine And.intro ?_ ?_)
    all_goals first|trivial|exact qM (qE (by rfl))|exact qM (Fit.refl _)|exact qL (qK _)|skip
   ·rintro ⟨f,hf⟩
    cbv
    repeat' (first|with_reducible refine ua4 ?_ ?_|with_reducible refine And.intro ?_ ?_|(with_reducible intro hcd;(try simp only [zA,zB,zC,zD,zE,zF,zG,zH,zI,zJ,zK,zL,zM,zN,zO,zP]at hcd);try cbv)|fail)
    all_goals first|((try simp only [qV]at *);(try simp only [zQ,zA,zB,zC,zD,zE,zF,zG,zH,zI,zJ,zK,zL,zM,zN,zO,zP,zR,zS]at *);first|(refine qN ?_;omega)|(simp only [uai];omega))|((try simp only [zQ,zA,zB,zC,zD,zE,zF,zG,zH,zI,zJ,zK,zL,zM,zN,zO,zP,zR,zS]at *);refine⟨⟨v+1,by omega⟩,by simp only [];omega,?_⟩;cbv;(repeat' (first|with_reducible refine ua4 ?_ ?_|with_reducible refine And.intro ?_ ?_));(all_goals first|trivial|exact qM (qE (by rfl))|exact qM (qF (by rfl))|exact qM (Fit.refl _)|exact qL (qK _)|(refine qM (qE ?_);(try simp only [qV]at *);simp only [zQ,zA,zB,zC,zD,zE,zF,zG,zH,zI,zJ,zK,zL,zM,zN,zO,zP,zR,zS]at *;omega)|(refine qL (qJ (ub1 (fun ix h0 h1=>qE (uxp (by((try simp only [qV]at *);(try simp only [zQ,zA,zB,zC,zD,zE,zF,zG,zH,zI,zJ,zK,zL,zM,zN,zO,zP,zR,zS]at *);omega)))) qA)))|(refine qL (qJ (ub1 (fun ix h0 h1=>qE rfl) qA)))|skip))|skip
    refine⟨none,[],{t:Nat // t≤4},fun x=>⟨[(0,.own 0 0),(8,(iv fun _=>zi n)),(3,.own 64 0),(13,(iv fun _=>zi v)),(4,(iv fun _=>zi v)),(16,(iv fun _=>zi f)),(5,(iv fun _=>zi f)),(19,(iv fun _=>zi x.1))],[(0,.cells [(.arr 16 (fun ix=>(iv fun _=>(phN v (fwN (fwP M n) v) (f*4+x.1)) ix.den.toNat)))] 95),(64,.cells [(.arr 16 (fun ix=>(iv fun _=>(fwP M n) ix.den.toNat)))] 95)],400⟩,fun x=>4-x.1,?_,?_⟩
    ·refine⟨⟨0,by omega⟩,?_⟩
     cbv
     repeat' (first|with_reducible refine ua4 ?_ ?_|with_reducible refine And.intro ?_ ?_)
     all_goals first|trivial|exact qM (qE (by rfl))|exact qM (Fit.refl _)|exact qL (qK _)|skip
    ·rintro ⟨t,ht⟩
     cbv
     repeat' (first|with_reducible refine ua4 ?_ ?_|with_reducible refine And.intro ?_ ?_|(with_reducible intro hcd;(try simp only [zA,zB,zC,zD,zE,zF,zG,zH,zI,zJ,zK,zL,zM,zN,zO,zP]at hcd);try cbv)
      | (refine⟨some [0],?_⟩
         cbv
         refine qQ ?_ (c98 (phN v (fwN (fwP M n) v) (f*4+t)) (zi f) (zi t) (phN v (fwN (fwP M n) v) (f*4+t) ((zi f*4+zi v)*1+0).toNat+phN v (fwN (fwP M n) v) (f*4+t) ((zi v*4+zi t)*1+0).toNat) ⟨(by((try simp only [qV]at *);(try simp only [zQ,zA,zB,zC,zD,zE,zF,zG,zH,zI,zJ,zK,zL,zM,zN,zO,zP,zR,zS]at *);omega)),(by((try simp only [qV]at *);(try simp only [zQ,zA,zB,zC,zD,zE,zF,zG,zH,zI,zJ,zK,zL,zM,zN,zO,zP,zR,zS]at *);omega))⟩ ⟨(by((try simp only [qV]at *);(try simp only [zQ,zA,zB,zC,zD,zE,zF,zG,zH,zI,zJ,zK,zL,zM,zN,zO,zP,zR,zS]at *);omega)),(by((try simp only [qV]at *);(try simp only [zQ,zA,zB,zC,zD,zE,zF,zG,zH,zI,zJ,zK,zL,zM,zN,zO,zP,zR,zS]at *);omega))⟩) ?hfit ?hbo
         case hfit=>(cbv;(repeat' (first|exact qB|refine qD ?_ ?_|exact qE (by rfl)|exact qF (by rfl)|exact Fit.refl _|exact qA|refine qC ?_ rfl ?_));done)
         case hbo=>(cbv;(repeat' (first|exact qH|refine qI ?_ ?_|exact qK _|refine qJ ?_|exact qA|exact qE (by rfl)|exact qF (by rfl)|exact Fit.refl _|exact qG _|refine qC ?_ rfl ?_));done)
         try cbv)
      |fail)
     all_goals first|((try simp only [qV]at *);(try simp only [zQ,zA,zB,zC,zD,zE,zF,zG,zH,zI,zJ,zK,zL,zM,zN,zO,zP,zR,zS]at *);first|(refine qN ?_;omega)|(simp only [uai];omega))|(refine usk (P:=phN v (fwN (fwP M n) v) (f*4+t)) (fun i hi=>uxF h1 h2 (by((try simp only [qV]at *);(try simp only [zQ,zA,zB,zC,zD,zE,zF,zG,zH,zI,zJ,zK,zL,zM,zN,zO,zP,zR,zS]at *);omega)) (by((try simp only [qV]at *);(try simp only [zQ,zA,zB,zC,zD,zE,zF,zG,zH,zI,zJ,zK,zL,zM,zN,zO,zP,zR,zS]at *);omega)) (by((try simp only [qV]at *);(try simp only [zQ,zA,zB,zC,zD,zE,zF,zG,zH,zI,zJ,zK,zL,zM,zN,zO,zP,zR,zS]at *);omega)) hi) ?_ ?_<;>((try simp only [qV]at *);(try simp only [zQ,zA,zB,zC,zD,zE,zF,zG,zH,zI,zJ,zK,zL,zM,zN,zO,zP,zR,zS]at *);omega))|((try simp only [zQ,zA,zB,zC,zD,zE,zF,zG,zH,zI,zJ,zK,zL,zM,zN,zO,zP,zR,zS]at *);refine⟨⟨t+1,by omega⟩,by simp only [];omega,?_⟩;cbv;(repeat' (first|with_reducible refine ua4 ?_ ?_|with_reducible refine And.intro ?_ ?_));(all_goals first|trivial|exact qM (qE (by rfl))|exact qM (qF (by rfl))|exact qM (Fit.refl _)|exact qL (qK _)|(refine qM (qE ?_);(try simp only [qV]at *);simp only [zQ,zA,zB,zC,zD,zE,zF,zG,zH,zI,zJ,zK,zL,zM,zN,zO,zP,zR,zS]at *;omega)|(refine qL (qJ (ub1 (fun ix h0 h1=>qE (uzP (by((try simp only [qV]at *);(try simp only [zQ,zA,zB,zC,zD,zE,zF,zG,zH,zI,zJ,zK,zL,zM,zN,zO,zP,zR,zS]at *);omega)) (by unfold at4;(try simp only [qV]at *);(try simp only [zQ,zA,zB,zC,zD,zE,zF,zG,zH,zI,zJ,zK,zL,zM,zN,zO,zP,zR,zS]at *);omega) (by unfold at4;(try simp only [qV]at *);(try simp only [zQ,zA,zB,zC,zD,zE,zF,zG,zH,zI,zJ,zK,zL,zM,zN,zO,zP,zR,zS]at *);omega))) qA)))|(refine qL (qJ (ub1 (fun ix h0 h1=>qE rfl) qA)))|skip))|((try simp only [zQ,zA,zB,zC,zD,zE,zF,zG,zH,zI,zJ,zK,zL,zM,zN,zO,zP,zR,zS]at *);refine⟨⟨f+1,by omega⟩,by simp only [];omega,?_⟩;cbv;(repeat' (first|with_reducible refine ua4 ?_ ?_|with_reducible refine And.intro ?_ ?_));(all_goals first|trivial|exact qM (qE (by rfl))|exact qM (qF (by rfl))|exact qM (Fit.refl _)|exact qL (qK _)|(refine qM (qE ?_);(try simp only [qV]at *);simp only [zQ,zA,zB,zC,zD,zE,zF,zG,zH,zI,zJ,zK,zL,zM,zN,zO,zP,zR,zS]at *;omega)|(refine qL (qJ (ub1 (fun ix h0 h1=>qE (ux7 (by((try simp only [qV]at *);(try simp only [zQ,zA,zB,zC,zD,zE,zF,zG,zH,zI,zJ,zK,zL,zM,zN,zO,zP,zR,zS]at *);omega)))) qA)))|skip))|skip
   refine⟨none,[],{m:Nat // m≤4∧∀j,j<m→0≤clo M (at4 j j)},fun x=>⟨[(0,.own 0 0),(50,(iv fun _=>zi x.1))],[(0,.cells [(.arr 16 (fun ix=>(iv fun _=>(clo M) ix.den.toNat)))] 95)],500⟩,fun x=>4-x.1,?_,?_⟩
   ·refine⟨⟨0,by omega,fun j hj=>by omega⟩,?_⟩
    cbv
    repeat' (first|with_reducible refine ua4 ?_ ?_|with_reducible refine And.intro ?_ ?_)
    all_goals first|trivial|exact qM (qE (by rfl))|exact qM (Fit.refl _)|(refine qL (qJ (ub1 (fun ix h0 h1=>qE (uvA (by((try simp only [qV]at *);(try simp only [zQ,zA,zB,zC,zD,zE,zF,zG,zH,zI,zJ,zK,zL,zM,zN,zO,zP,zR,zS]at *);omega)) (by((try simp only [qV]at *);(try simp only [zQ,zA,zB,zC,zD,zE,zF,zG,zH,zI,zJ,zK,zL,zM,zN,zO,zP,zR,zS]at *);omega)) (uuL hcd) (by omega))) qA)))|skip
   ·rintro⟨m,hm,hq⟩
    cbv
    repeat' (first|with_reducible refine ua4 ?_ ?_|with_reducible refine And.intro ?_ ?_|(with_reducible intro hcd;(try simp only [zA,zB,zC,zD,zE,zF,zG,zH,zI,zJ,zK,zL,zM,zN,zO,zP]at hcd);try cbv)|fail)
    all_goals first|((try simp only [qV]at *);(try simp only [zQ,zA,zB,zC,zD,zE,zF,zG,zH,zI,zJ,zK,zL,zM,zN,zO,zP,zR,zS]at *);first|(refine qN ?_;omega)|(simp only [uai];omega))|(subst hR;(refine qF ?_;(try simp only [qV]at *);(try simp only [zQ,zA,zB,zC,zD,zE,zF,zG,zH,zI,zJ,zK,zL,zM,zN,zO,zP,zR,zS]at *);exact utg (n:=m) (by assumption) (by unfold at4;omega) (by omega));done)|(subst hR;(refine qF ?_;(try simp only [qV]at *);(try simp only [zQ,zA,zB,zC,zD,zE,zF,zG,zH,zI,zJ,zK,zL,zM,zN,zO,zP,zR,zS]at *);exact upg (n:=m) (by omega) hq);done)|(subst hB;(repeat' (first|exact qH|refine qI ?_ ?_|exact qK _|refine qJ ?_|exact qA|exact qE (by rfl)|exact qF (by rfl)|exact Fit.refl _|exact qG _|refine qC ?_ rfl ?_));done)|((try simp only [zQ,zA,zB,zC,zD,zE,zF,zG,zH,zI,zJ,zK,zL,zM,zN,zO,zP,zR,zS]at *);(have g:0≤clo M (at4 m m):=uue (by assumption) (by((try simp only [qV]at *);(try simp only [zQ,zA,zB,zC,zD,zE,zF,zG,zH,zI,zJ,zK,zL,zM,zN,zO,zP,zR,zS]at *);unfold at4;omega)));refine⟨⟨m+1,by omega,fun j hj=>(Nat.lt_or_ge j m).elim (hq j) fun q=>by rw [show j=m by omega];exact g⟩,by simp only [];omega,?_⟩;cbv;(repeat' (first|with_reducible refine ua4 ?_ ?_|with_reducible refine And.intro ?_ ?_));(all_goals first|trivial|exact qM (qE (by rfl))|exact qM (qF (by rfl))|exact qM (Fit.refl _)|exact qL (qK _)|(refine qM (qE ?_);(try simp only [qV]at *);simp only [zQ,zA,zB,zC,zD,zE,zF,zG,zH,zI,zJ,zK,zL,zM,zN,zO,zP,zR,zS]at *;omega)|(refine qL (qJ (ub1 (fun ix h0 h1=>qE rfl) qA)))|skip))|skip
  refine⟨none,[],{m:Nat // m≤4∧∀j,j<m→0≤clo M (at4 j j)},fun x=>⟨[(0,.own 0 0),(50,(iv fun _=>zi x.1))],[(0,.cells [(.arr 16 (fun ix=>(iv fun _=>(clo M) ix.den.toNat)))] 95)],500⟩,fun x=>4-x.1,?_,?_⟩
  ·refine⟨⟨0,by omega,fun j hj=>by omega⟩,?_⟩
   cbv
   repeat' (first|with_reducible refine ua4 ?_ ?_|with_reducible refine And.intro ?_ ?_)
   all_goals first|trivial|exact qM (qE (by rfl))|exact qM (Fit.refl _)|(refine qL (qJ (ub1 (fun ix h0 h1=>qE (uvJ (by((try simp only [qV]at *);(try simp only [zQ,zA,zB,zC,zD,zE,zF,zG,zH,zI,zJ,zK,zL,zM,zN,zO,zP,zR,zS]at *);omega)))) qA)))|skip
  ·rintro⟨m,hm,hq⟩
   cbv
   repeat' (first|with_reducible refine ua4 ?_ ?_|with_reducible refine And.intro ?_ ?_|(with_reducible intro hcd;(try simp only [zA,zB,zC,zD,zE,zF,zG,zH,zI,zJ,zK,zL,zM,zN,zO,zP]at hcd);try cbv)|fail)
   all_goals first|((try simp only [qV]at *);(try simp only [zQ,zA,zB,zC,zD,zE,zF,zG,zH,zI,zJ,zK,zL,zM,zN,zO,zP,zR,zS]at *);first|(refine qN ?_;omega)|(simp only [uai];omega))|(subst hR;(refine qF ?_;(try simp only [qV]at *);(try simp only [zQ,zA,zB,zC,zD,zE,zF,zG,zH,zI,zJ,zK,zL,zM,zN,zO,zP,zR,zS]at *);exact utg (n:=m) (by assumption) (by unfold at4;omega) (by omega));done)|(subst hR;(refine qF ?_;(try simp only [qV]at *);(try simp only [zQ,zA,zB,zC,zD,zE,zF,zG,zH,zI,zJ,zK,zL,zM,zN,zO,zP,zR,zS]at *);exact upg (n:=m) (by omega) hq);done)|(subst hB;(repeat' (first|exact qH|refine qI ?_ ?_|exact qK _|refine qJ ?_|exact qA|exact qE (by rfl)|exact qF (by rfl)|exact Fit.refl _|exact qG _|refine qC ?_ rfl ?_));done)|((try simp only [zQ,zA,zB,zC,zD,zE,zF,zG,zH,zI,zJ,zK,zL,zM,zN,zO,zP,zR,zS]at *);(have g:0≤clo M (at4 m m):=uue (by assumption) (by((try simp only [qV]at *);(try simp only [zQ,zA,zB,zC,zD,zE,zF,zG,zH,zI,zJ,zK,zL,zM,zN,zO,zP,zR,zS]at *);unfold at4;omega)));refine⟨⟨m+1,by omega,fun j hj=>(Nat.lt_or_ge j m).elim (hq j) fun q=>by rw [show j=m by omega];exact g⟩,by simp only [];omega,?_⟩;cbv;(repeat' (first|with_reducible refine ua4 ?_ ?_|with_reducible refine And.intro ?_ ?_));(all_goals first|trivial|exact qM (qE (by rfl))|exact qM (qF (by rfl))|exact qM (Fit.refl _)|exact qL (qK _)|(refine qM (qE ?_);(try simp only [qV]at *);simp only [zQ,zA,zB,zC,zD,zE,zF,zG,zH,zI,zJ,zK,zL,zM,zN,zO,zP,zR,zS]at *;omega)|(refine qL (qJ (ub1 (fun ix h0 h1=>qE rfl) qA)))|skip))|skip
theorem uy2 (d:Dsp)(o:List Int):ua0 Tryz.prog 82 [(wpS d),(iS o)] [] (fun r _=>r = .clo 107 [] [(.pp 0 [(wpS d)]),.pp 0 [(iS o)]]):=by
 refine ua0.is fun R hR=>qW (sc:=uBQ) uaj mix Tryz.func82 rfl Tryz.call82 (by kernel_rfl) (by kernel_rfl) ?_
 generalize Tryz.prog=P
 cbv
 repeat' (first|fail)
 all_goals first|(subst hR;(repeat' (first|exact qA|exact qB|refine qC ?_ rfl ?_|refine qD ?_ ?_|exact qE (by rfl)|exact qF (by rfl)|exact Fit.refl _|exact qG _|(refine qE ?_;(try simp only [qV]at *);simp only [zQ,zA,zB,zC,zD,zE,zF,zG,zH,zI,zJ,zK,zL,zM,zN,zO,zP,zR,zS]at *;omega)));done)|skip
theorem uvO (d:Dsp)(o:List Int)(hf:d.fs.length≤1000)(ho:o.length≤1000):um1 Tryz.prog 107 [(.pp 0 [(wpS d)]),.pp 0 [(iS o)]] (ubV d.fs o).length (fun n:Nat=>[(.agg [(iv fun _=>((ubV d.fs o).getD n f0T).p),(iv fun _=>((ubV d.fs o).getD n f0T).s),(iv fun _=>((ubV d.fs o).getD n f0T).wl),(iv fun _=>((ubV d.fs o).getD n f0T).wh),(iv fun _=>((ubV d.fs o).getD n f0T).ml),(iv fun _=>((ubV d.fs o).getD n f0T).mh)])]):=by
 obtain⟨el,hel⟩:∃el:Nat→List SV,el=(fun n:Nat=>[(.agg [(iv fun _=>((ubV d.fs o).getD n f0T).p),(iv fun _=>((ubV d.fs o).getD n f0T).s),(iv fun _=>((ubV d.fs o).getD n f0T).wl),(iv fun _=>((ubV d.fs o).getD n f0T).wh),(iv fun _=>((ubV d.fs o).getD n f0T).ml),(iv fun _=>((ubV d.fs o).getD n f0T).mh)])]):=⟨_,rfl⟩
 have hpl:∀i,ubi (.tup (el i))=true:=fun i=>by rw [hel];rfl
 have help:∀n,el n=[(.agg [(iv fun _=>((ubV d.fs o).getD n f0T).p),(iv fun _=>((ubV d.fs o).getD n f0T).s),(iv fun _=>((ubV d.fs o).getD n f0T).wl),(iv fun _=>((ubV d.fs o).getD n f0T).wh),(iv fun _=>((ubV d.fs o).getD n f0T).ml),(iv fun _=>((ubV d.fs o).getD n f0T).mh)])]:=fun n=>by rw [hel]
 rw [←hel]
 clear hel
 have c63:=fun i:Nat=>(show ua0 Tryz.prog 53 [(iS o),(iv fun _=>zi i)] [] (fun r _=>r=(bv fun _=>inL o (zi i)))from ufV o (i:Int) ho)
 obtain⟨c,hc⟩:∃c,c=ukJ o:=⟨_,rfl⟩
 have hcy:∀i:Nat,inL o (zi i)=false→c i=true:=fun i h=>by rw [hc,←upe];unfold uyo;rw [show inL o (i:Int)=false from h];rfl
 have hcn:∀i:Nat,inL o (zi i)=true→c i=false:=fun i h=>by rw [hc,←upe];unfold uyo;rw [show inL o (i:Int)=true from h];rfl
 obtain⟨L,hL⟩:∃L,L=(ubV d.fs o).length:=⟨_,rfl⟩
 rw [←hL]
 obtain⟨w,hw⟩:∃w:Nat→Nat,w=fun i=>(kpT d.fs c i).length:=⟨_,rfl⟩
 have w0:w 0=0:=by rw [hw];rfl
 have wL:w d.fs.length=L:=by rw [hw,hL,hc];rfl
 have wn:∀i:Nat,c i=false→w (i+1)=w i:=fun i h=>by rw [hw];simp only [uux h]
 have wy:∀i:Nat,i<d.fs.length→c i=true→w i<L∧el (w i)=[(.agg [(iv fun _=>(d.fs.getD i f0T).p),(iv fun _=>(d.fs.getD i f0T).s),(iv fun _=>(d.fs.getD i f0T).wl),(iv fun _=>(d.fs.getD i f0T).wh),(iv fun _=>(d.fs.getD i f0T).ml),(iv fun _=>(d.fs.getD i f0T).mh)])]∧w (i+1)=w i+1:=fun i hi h=>by
  have q:=uy3 (fs:=d.fs) hi h
  rw [hw]
  refine⟨by rw [hL];unfold ubV;rw [←hc];exact q.1,?_,by simp only [uqh h,List.length_append,List.length_cons,List.length_nil]⟩
  rw [help]
  unfold ubV
  rw [←hc]
  simp only [q.2]
 clear hw hc hL help
 refine uh1 (sc:=uyM) uaj mix Tryz.func107 rfl Tryz.call107 (by kernel_rfl) (by kernel_rfl) fun y=> ?_
 generalize Tryz.prog=P at c63⊢
 refine⟨rfl,rfl,hpl,?_⟩
 cbv
 repeat' (first|fail)
 all_goals first|skip
 refine⟨none,[],{i:Nat // i≤d.fs.length},fun x=>.atg fun _=>w x.1,fun x=>⟨[(0,.val (Value.func (Fn.yield y) ⟨[]⟩ ⟨[]⟩)),(1,(.pp 0 [(wpS d)])),(2,.pp 0 [(iS o)]),(10,(.sl 6 (.sym fun _=>zi (d.fs).length) (fun ix=>[(iv fun _=>((d.fs).getD ix.den.toNat f0T).p),(iv fun _=>((d.fs).getD ix.den.toNat f0T).s),(iv fun _=>((d.fs).getD ix.den.toNat f0T).wl),(iv fun _=>((d.fs).getD ix.den.toNat f0T).wh),(iv fun _=>((d.fs).getD ix.den.toNat f0T).ml),(iv fun _=>((d.fs).getD ix.den.toNat f0T).mh)]))),(11,(iv fun _=>zi d.fs.length)),(12,(iv fun _=>zi x.1))],[],90⟩,fun x=>d.fs.length-x.1,?_,?_⟩
 ·refine⟨⟨0,by omega⟩,?_⟩
  cbv
  repeat' (first|with_reducible refine ua4 ?_ ?_|with_reducible refine And.intro ?_ ?_)
  all_goals first|trivial|exact qM (qE (by rfl))|exact qM (Fit.refl _)|(refine ueo ?_;exact w0.symm)|skip
 ·rintro ⟨i,hi⟩
  cbv
  repeat' (first|with_reducible refine ua4 ?_ ?_|with_reducible refine And.intro ?_ ?_|(with_reducible intro hcd;(try simp only [zA,zB,zC,zD,zE,zF,zG,zH,zI,zJ,zK,zL,zM,zN,zO,zP]at hcd);try cbv)|(refine qP ?_ (c63 i) ?hfit;(case hfit=>((repeat' (first|exact qB|refine qD ?_ ?_|exact qE (by rfl)|exact qF (by rfl)|exact Fit.refl _|exact qA|refine qC ?_ rfl ?_));done));try cbv)|fail)
  all_goals first|trivial|((try simp only [qV]at *);(try simp only [zQ,zA,zB,zC,zD,zE,zF,zG,zH,zI,zJ,zK,zL,zM,zN,zO,zP,zR,zS]at *);first|(refine qN ?_;omega)|(simp only [uai];omega))|((have h9:=wy i (by((try simp only [qV]at *);(try simp only [zQ,zA,zB,zC,zD,zE,zF,zG,zH,zI,zJ,zK,zL,zM,zN,zO,zP,zR,zS]at *);omega)) (hcy i (by assumption)));refine uhI h9.1 ?_;rw [h9.2.1];exact Fit.refl _)|((try simp only [zQ,zA,zB,zC,zD,zE,zF,zG,zH,zI,zJ,zK,zL,zM,zN,zO,zP,zR,zS]at *);refine⟨⟨i+1,by omega⟩,by simp only [];omega,?_⟩;cbv;(repeat' (first|with_reducible refine ua4 ?_ ?_|with_reducible refine And.intro ?_ ?_));(all_goals first|trivial|exact qM (qE (by rfl))|exact qM (qF (by rfl))|exact qM (Fit.refl _)|exact qL (qK _)|(refine qM (qE ?_);(try simp only [qV]at *);simp only [zQ,zA,zB,zC,zD,zE,zF,zG,zH,zI,zJ,zK,zL,zM,zN,zO,zP,zR,zS]at *;omega)|(refine ueo ?_;exact(wn i (hcn i (by assumption))).symm)|(refine ueo ?_;exact(wy i (by((try simp only [qV]at *);(try simp only [zQ,zA,zB,zC,zD,zE,zF,zG,zH,zI,zJ,zK,zL,zM,zN,zO,zP,zR,zS]at *);omega)) (hcy i (by assumption))).2.2.symm)|skip))|(show w i=L;rw [←wL];congr 1;((try simp only [qV]at *);(try simp only [zQ,zA,zB,zC,zD,zE,zF,zG,zH,zI,zJ,zK,zL,zM,zN,zO,zP,zR,zS]at *);omega))|skip
theorem uwL {f i:Nat}(h:f=4)(hi:i<16):iN (f*4) i=mS 0 i:=by subst h;exact uwT hi
theorem uxS {f t i:Nat}(h:t=4):iN (f*4+t) i=iN ((f+1)*4) i:=by
 subst h
 rw [show f*4+4=(f+1)*4 by omega]
theorem uy7 {f t i:Nat}(h:i=f*4+t)(ht:t<4)(hd:f≠t):2000=iN (f*4+(t+1)) i:=uwP (k:=f*4+t) h (by omega)
theorem uy1 {f t i:Nat}(h:i≠f*4+t):iN (f*4+t) i=iN (f*4+(t+1)) i:=uu1 h
theorem uw6 {f t i:Nat}(ht:t<4)(hd:f=t):iN (f*4+t) i=iN (f*4+(t+1)) i:=uxv (k:=f*4+t) (by omega)
theorem uyQ (s i:Nat):ugq (mS s) ⟨(0:Int).toNat,(zi s+1).toNat,0,2000⟩ i=mS (s+1) i:=by rw [uAN];rfl
theorem uxD {d:Dsp} {s i:Nat}(h:s=SN d):mS s i=mL d 0 i:=by subst h;rfl
theorem uyJ {d:Dsp} {k:Nat}(hd:DOk d)(h:k<d.ls.length)(i:Nat):ugq (mL d k) ⟨((d.ls.getD k l0T).a+1).toNat,((d.ls.getD k l0T).b+1).toNat,(d.ls.getD k l0T).lo,(d.ls.getD k l0T).hi⟩ i=mL d (k+1) i:=by
 have:=hd.l k h
 unfold ucw at this
 rw [uB6 h (by omega) (by omega)]
theorem uxJ {d:Dsp} {K:List FaT} {k i:Nat}(h:k=d.ls.length):mL d k i=mF d K 0 i:=by subst h;rfl
theorem uzg {d:Dsp} {K:List FaT} {k:Nat}(hK:FOk d K)(h:k<K.length)(i:Nat):ugq (mF d K k) ⟨(0:Int).toNat,((K.getD k f0T).s+1).toNat,mLo d (K.getD k f0T),mHi d (K.getD k f0T)⟩ i=mF d K (k+1) i:=by
 have:=hK k h
 unfold ubN at this
 rw [uBq h (by omega)]
 rfl
set_option maxHeartbeats 4000000 in
theorem ubC (d:Dsp)(o:List Int)(hd:DOk d)(ho:o.length≤1000):ua0 Tryz.prog 42 [(wpS d),(iS o)] [] (fun r _=>r=(.tup [(.agg [(.arr 16 (fun ix=>(iv fun _=>(clo (ufv d d.fs o)) ix.den.toNat)))]),(bv fun _=>ud5 d d.fs o)])):=by
 have c67:= @uhi
 have c87:=uy2 d o
 have c68:= @ulT
 obtain⟨K,hKd⟩:∃K,K=ubV d.fs o:=⟨_,rfl⟩
 have hK:FOk d K:=by rw [hKd];exact ulW hd.f o
 obtain⟨L,hL⟩:∃L,L=K.length:=⟨_,rfl⟩
 obtain⟨el,hel⟩:∃el:Nat→List SV,el=(fun n:Nat=>[(.agg [(iv fun _=>(K.getD n f0T).p),(iv fun _=>(K.getD n f0T).s),(iv fun _=>(K.getD n f0T).wl),(iv fun _=>(K.getD n f0T).wh),(iv fun _=>(K.getD n f0T).ml),(iv fun _=>(K.getD n f0T).mh)])]):=⟨_,rfl⟩
 have cI:um1 Tryz.prog 107 [(.pp 0 [(wpS d)]),.pp 0 [(iS o)]] L el:=by rw [hel,hL,hKd];exact uvO d o (by have:=hd.f6;omega) ho
 have elen:∀i,(el i).length=1∧SV.idsL (el i)=[]:=fun i=>by rw [hel];exact⟨rfl,rfl⟩
 have ei:∀i,el i=[(.agg [(iv fun _=>(K.getD i f0T).p),(iv fun _=>(K.getD i f0T).s),(iv fun _=>(K.getD i f0T).wl),(iv fun _=>(K.getD i f0T).wh),(iv fun _=>(K.getD i f0T).ml),(iv fun _=>(K.getD i f0T).mh)])]:=fun i=>by rw [hel]
 have hbd:∀i,-2000≤mF d K L i∧mF d K L i≤2000:=fun i=>by rw [hL,utl];exact uu6 hd hK i
 have hend:mF d K L=ufv d d.fs o:=by rw [hL,utl,hKd];rfl
 have hKb:∀i,i<L→(0≤(K.getD i f0T).s∧(K.getD i f0T).s≤d.sn-1)∧0≤mLo d (K.getD i f0T)∧mLo d (K.getD i f0T)≤mHi d (K.getD i f0T)∧mHi d (K.getD i f0T)≤2000:=fun i hi=>by
  have q:=hK i (by rw [←hL];exact hi)
  have b:=ulm hd.t q
  unfold ubN at q
  exact⟨q.2.1,b⟩
 have c45:=fun (i:Nat) (hi:i<L)=>urk d (K.getD i f0T) hd.t (hK i (by rw [←hL];exact hi))
 have s1:=hd.s1
 have s3:=hd.s3
 have l4:=hd.l4
 rw [show ud5 d d.fs o=okD (clo (ufv d d.fs o))from rfl]
 clear hel hKd
 refine ua0.is fun R hR=>qW (sc:=uAM) uaj mix Tryz.func42 rfl Tryz.call42 (by kernel_rfl) (by kernel_rfl) ?_
 generalize Tryz.prog=P at c67 c87 c68 c45 cI⊢
 cbv
 repeat' (first|fail)
 all_goals first|skip
 refine⟨none,[],{f:Nat // f≤4},fun x=>⟨[(1,(iS o)),(2,.own 0 0),(4,.own 1 0),(12,(iv fun _=>zi x.1))],[(0,.cells [(wpS d)] 87),(1,.cells [(.arr 16 (fun ix=>(iv fun _=>(iN (x.1*4)) ix.den.toNat)))] 95)],100⟩,fun x=>4-x.1,?_,?_⟩
 ·refine⟨⟨0,by omega⟩,?_⟩
  cbv
  repeat' (first|with_reducible refine ua4 ?_ ?_|with_reducible refine And.intro ?_ ?_)
  all_goals first|trivial|exact qM (qE (by rfl))|exact qM (Fit.refl _)|exact qL (qK _)|(refine qL (qJ (ub1 (fun ix h0 h1=>qE (uAJ _).symm) qA)))|skip
 ·rintro ⟨f, hf⟩
  cbv
  repeat' (first|with_reducible refine And.intro ?_ ?_|(with_reducible intro hcd;(try simp only [zA,zB,zC,zD,zE,zF,zG,zH,zI,zJ,zK,zL,zM,zN,zO,zP]at hcd);try cbv)|fail)
  all_goals first|skip
  refine⟨none,[],{t:Nat // t≤4},fun x=>⟨[(1,(iS o)),(2,.own 0 0),(4,.own 1 0),(12,(iv fun _=>zi f)),(6,(iv fun _=>zi f)),(15,(iv fun _=>zi x.1))],[(0,.cells [(wpS d)] 87),(1,.cells [(.arr 16 (fun ix=>(iv fun _=>(iN (f*4+x.1)) ix.den.toNat)))] 95)],200⟩,fun x=>4-x.1,?_,?_⟩
  ·refine⟨⟨0,by omega⟩,?_⟩
   cbv
   repeat' (first|with_reducible refine ua4 ?_ ?_|with_reducible refine And.intro ?_ ?_)
   all_goals first|trivial|exact qM (qE (by rfl))|exact qM (Fit.refl _)|exact qL (qK _)|skip
  ·rintro ⟨t,ht⟩
   cbv
   repeat' (first|with_reducible refine ua4 ?_ ?_|with_reducible refine And.intro ?_ ?_|(with_reducible intro hcd;(try simp only [zA,zB,zC,zD,zE,zF,zG,zH,zI,zJ,zK,zL,zM,zN,zO,zP]at hcd);try cbv)
    | (refine⟨fun ix=>(iv fun _=>iN (f*4+(t+1)) ix.den.toNat),?_⟩
       cbv
       refine ua4 (ugx (by intro jx h0 h1 h2;refine qE ?_;(try simp only [qV]at *);(try simp only [zQ,zA,zB,zC,zD,zE,zF,zG,zH,zI,zJ,zK,zL,zM,zN,zO,zP,zR,zS]at *);exact uy7 (by omega) (by omega) (by omega)) (by intro jx h0 h1 h2;refine qE ?_;(try simp only [qV]at *);(try simp only [zQ,zA,zB,zC,zD,zE,zF,zG,zH,zI,zJ,zK,zL,zM,zN,zO,zP,zR,zS]at *);exact uy1 (by omega))) ?_
       try cbv)
    |fail)
   all_goals first|((try simp only [qV]at *);(try simp only [zQ,zA,zB,zC,zD,zE,zF,zG,zH,zI,zJ,zK,zL,zM,zN,zO,zP,zR,zS]at *);first|(refine qN ?_;omega)|(simp only [uai];omega))|((try simp only [zQ,zA,zB,zC,zD,zE,zF,zG,zH,zI,zJ,zK,zL,zM,zN,zO,zP,zR,zS]at *);refine⟨⟨t+1,by omega⟩,by simp only [];omega,?_⟩;cbv;(repeat' (first|with_reducible refine ua4 ?_ ?_|with_reducible refine And.intro ?_ ?_));(all_goals first|trivial|exact qM (qE (by rfl))|exact qM (qF (by rfl))|exact qM (Fit.refl _)|exact qL (qK _)|(refine qM (qE ?_);(try simp only [qV]at *);simp only [zQ,zA,zB,zC,zD,zE,zF,zG,zH,zI,zJ,zK,zL,zM,zN,zO,zP,zR,zS]at *;omega)|(refine qL (qJ ?_);(repeat' (first|exact qA|exact qB|refine qC ?_ rfl ?_|refine qD ?_ ?_|exact qE (by rfl)|exact qF (by rfl)|exact Fit.refl _|exact qG _|(refine qE ?_;(try simp only [qV]at *);simp only [zQ,zA,zB,zC,zD,zE,zF,zG,zH,zI,zJ,zK,zL,zM,zN,zO,zP,zR,zS]at *;omega)));done)|(refine qL (qJ (ub1 (fun ix h0 h1=>qE rfl) qA)))|(refine qL (qJ (ub1 (fun ix h0 h1=>qE (uw6 (by((try simp only [qV]at *);(try simp only [zQ,zA,zB,zC,zD,zE,zF,zG,zH,zI,zJ,zK,zL,zM,zN,zO,zP,zR,zS]at *);omega)) (by((try simp only [qV]at *);(try simp only [zQ,zA,zB,zC,zD,zE,zF,zG,zH,zI,zJ,zK,zL,zM,zN,zO,zP,zR,zS]at *);omega)))) qA)))|skip))|((try simp only [zQ,zA,zB,zC,zD,zE,zF,zG,zH,zI,zJ,zK,zL,zM,zN,zO,zP,zR,zS]at *);refine⟨⟨f+1,by omega⟩,by simp only [];omega,?_⟩;cbv;(repeat' (first|with_reducible refine ua4 ?_ ?_|with_reducible refine And.intro ?_ ?_));(all_goals first|trivial|exact qM (qE (by rfl))|exact qM (qF (by rfl))|exact qM (Fit.refl _)|exact qL (qK _)|(refine qM (qE ?_);(try simp only [qV]at *);simp only [zQ,zA,zB,zC,zD,zE,zF,zG,zH,zI,zJ,zK,zL,zM,zN,zO,zP,zR,zS]at *;omega)|(refine qL (qJ ?_);(repeat' (first|exact qA|exact qB|refine qC ?_ rfl ?_|refine qD ?_ ?_|exact qE (by rfl)|exact qF (by rfl)|exact Fit.refl _|exact qG _|(refine qE ?_;(try simp only [qV]at *);simp only [zQ,zA,zB,zC,zD,zE,zF,zG,zH,zI,zJ,zK,zL,zM,zN,zO,zP,zR,zS]at *;omega)));done)|(refine qL (qJ (ub1 (fun ix h0 h1=>qE (uxS (by((try simp only [qV]at *);(try simp only [zQ,zA,zB,zC,zD,zE,zF,zG,zH,zI,zJ,zK,zL,zM,zN,zO,zP,zR,zS]at *);omega)))) qA)))|skip))|skip
  refine⟨none,[],{s:Nat // s≤d.sn.toNat},fun x=>⟨[(1,(iS o)),(2,.own 0 0),(4,.own 1 0),(31,(iv fun _=>d.sn)),(32,(iv fun _=>zi x.1))],[(0,.cells [(wpS d)] 87),(1,.cells [(.arr 16 (fun ix=>(iv fun _=>(mS x.1) ix.den.toNat)))] 95)],300⟩,fun x=>d.sn.toNat-x.1,?_,?_⟩
  ·refine⟨⟨0,by omega⟩,?_⟩
   cbv
   repeat' (first|with_reducible refine ua4 ?_ ?_|with_reducible refine And.intro ?_ ?_)
   all_goals first|trivial|exact qM (qE (by rfl))|exact qM (Fit.refl _)|exact qL (qK _)|(refine qL (qJ (ub1 (fun ix h0 h1=>qE (uwL (by((try simp only [qV]at *);(try simp only [zQ,zA,zB,zC,zD,zE,zF,zG,zH,zI,zJ,zK,zL,zM,zN,zO,zP,zR,zS]at *);omega)) (by omega))) qA)))|skip
  ·rintro ⟨s, hs⟩
   cbv
   repeat' (first|with_reducible refine ua4 ?_ ?_|with_reducible refine And.intro ?_ ?_|(with_reducible intro hcd;(try simp only [zA,zB,zC,zD,zE,zF,zG,zH,zI,zJ,zK,zL,zM,zN,zO,zP]at hcd);try cbv)
    | (refine⟨some [1],?_⟩
       cbv
       refine qQ ?_ (c67 (mS s) 0 (zi s+1) 0 2000 (by omega) ⟨(by((try simp only [qV]at *);(try simp only [zQ,zA,zB,zC,zD,zE,zF,zG,zH,zI,zJ,zK,zL,zM,zN,zO,zP,zR,zS]at *);omega)),(by((try simp only [qV]at *);(try simp only [zQ,zA,zB,zC,zD,zE,zF,zG,zH,zI,zJ,zK,zL,zM,zN,zO,zP,zR,zS]at *);omega))⟩ (by omega)) ?hfit ?hbo
       case hfit=>(cbv;(repeat' (first|exact qB|refine qD ?_ ?_|exact qE (by rfl)|exact qF (by rfl)|exact Fit.refl _|exact qA|refine qC ?_ rfl ?_));done)
       case hbo=>(cbv;(repeat' (first|exact qH|refine qI ?_ ?_|exact qK _|refine qJ ?_|exact qA|exact qE (by rfl)|exact qF (by rfl)|exact Fit.refl _|exact qG _|refine qC ?_ rfl ?_));done)
       try cbv)
    |fail)
   all_goals first|((try simp only [qV]at *);(try simp only [zQ,zA,zB,zC,zD,zE,zF,zG,zH,zI,zJ,zK,zL,zM,zN,zO,zP,zR,zS]at *);first|(refine qN ?_;omega)|(simp only [uai];omega))|((try simp only [zQ,zA,zB,zC,zD,zE,zF,zG,zH,zI,zJ,zK,zL,zM,zN,zO,zP,zR,zS]at *);refine⟨⟨s+1,by((try simp only [qV]at *);(try simp only [zQ,zA,zB,zC,zD,zE,zF,zG,zH,zI,zJ,zK,zL,zM,zN,zO,zP,zR,zS]at *);omega)⟩,by simp only [];omega,?_⟩;cbv;(repeat' (first|with_reducible refine ua4 ?_ ?_|with_reducible refine And.intro ?_ ?_));(all_goals first|trivial|exact qM (qE (by rfl))|exact qM (qF (by rfl))|exact qM (Fit.refl _)|exact qL (qK _)|(refine qM (qE ?_);(try simp only [qV]at *);simp only [zQ,zA,zB,zC,zD,zE,zF,zG,zH,zI,zJ,zK,zL,zM,zN,zO,zP,zR,zS]at *;omega)|(refine qL (qJ ?_);(repeat' (first|exact qA|exact qB|refine qC ?_ rfl ?_|refine qD ?_ ?_|exact qE (by rfl)|exact qF (by rfl)|exact Fit.refl _|exact qG _|(refine qE ?_;(try simp only [qV]at *);simp only [zQ,zA,zB,zC,zD,zE,zF,zG,zH,zI,zJ,zK,zL,zM,zN,zO,zP,zR,zS]at *;omega)));done)|(refine qL (qJ (ub1 (fun ix h0 h1=>qE (uyQ s _)) qA)))|skip))|skip
   refine⟨none,[],{k:Nat // k≤d.ls.length},fun x=>⟨[(1,(iS o)),(2,.own 0 0),(4,.own 1 0),(44,(.sl 4 (.sym fun _=>zi (d.ls).length) (fun ix=>[(iv fun _=>((d.ls).getD ix.den.toNat l0T).a),(iv fun _=>((d.ls).getD ix.den.toNat l0T).b),(iv fun _=>((d.ls).getD ix.den.toNat l0T).lo),(iv fun _=>((d.ls).getD ix.den.toNat l0T).hi)]))),(45,(iv fun _=>zi d.ls.length)),(46,(iv fun _=>zi x.1))],[(0,.cells [(wpS d)] 87),(1,.cells [(.arr 16 (fun ix=>(iv fun _=>(mL d x.1) ix.den.toNat)))] 95)],400⟩,fun x=>d.ls.length-x.1,?_,?_⟩
   ·refine⟨⟨0,by omega⟩,?_⟩
    cbv
    repeat' (first|with_reducible refine ua4 ?_ ?_|with_reducible refine And.intro ?_ ?_)
    all_goals first|trivial|exact qM (qE (by rfl))|exact qM (Fit.refl _)|exact qL (qK _)|(refine qL (qJ (ub1 (fun ix h0 h1=>qE (uxD (by unfold SN;(try simp only [qV]at *);(try simp only [zQ,zA,zB,zC,zD,zE,zF,zG,zH,zI,zJ,zK,zL,zM,zN,zO,zP,zR,zS]at *);omega))) qA)))|skip
   ·rintro ⟨k,hk⟩
    cbv
    have hlk:k<d.ls.length→ucw d.sn (d.ls.getD k l0T):=hd.l k
    unfold ucw at hlk
    repeat' (first|with_reducible refine ua4 ?_ ?_|with_reducible refine And.intro ?_ ?_|(with_reducible intro hcd;(try simp only [zA,zB,zC,zD,zE,zF,zG,zH,zI,zJ,zK,zL,zM,zN,zO,zP]at hcd);try cbv)
     | ((have hk9:=hlk (by((try simp only [qV]at *);(try simp only [zQ,zA,zB,zC,zD,zE,zF,zG,zH,zI,zJ,zK,zL,zM,zN,zO,zP,zR,zS]at *);omega)))
        refine⟨some [1],?_⟩
        cbv
        refine qQ ?_ (c67 (mL d k) ((d.ls.getD k l0T).a+1) ((d.ls.getD k l0T).b+1) (d.ls.getD k l0T).lo (d.ls.getD k l0T).hi ⟨by omega,by omega⟩ ⟨by omega,by omega⟩ (by omega)) ?hfit ?hbo
        case hfit=>(cbv;(repeat' (first|exact qB|refine qD ?_ ?_|exact qE (by rfl)|exact qF (by rfl)|exact Fit.refl _|exact qA|refine qC ?_ rfl ?_));done)
        case hbo=>(cbv;(repeat' (first|exact qH|refine qI ?_ ?_|exact qK _|refine qJ ?_|exact qA|exact qE (by rfl)|exact qF (by rfl)|exact Fit.refl _|exact qG _|refine qC ?_ rfl ?_));done)
        try cbv)
     |(refine qP ?_ (c87) ?hfit;(case hfit=>((repeat' (first|exact qB|refine qD ?_ ?_|exact qE (by rfl)|exact qF (by rfl)|exact Fit.refl _|exact qA|refine qC ?_ rfl ?_));done));try cbv)
     |fail)
    all_goals first|((try simp only [qV]at *);(try simp only [zQ,zA,zB,zC,zD,zE,zF,zG,zH,zI,zJ,zK,zL,zM,zN,zO,zP,zR,zS]at *);first|(refine qN ?_;omega)|(simp only [uai];omega))|((try simp only [zQ,zA,zB,zC,zD,zE,zF,zG,zH,zI,zJ,zK,zL,zM,zN,zO,zP,zR,zS]at *);refine⟨⟨k+1,by((try simp only [qV]at *);(try simp only [zQ,zA,zB,zC,zD,zE,zF,zG,zH,zI,zJ,zK,zL,zM,zN,zO,zP,zR,zS]at *);omega)⟩,by simp only [];omega,?_⟩;cbv;(repeat' (first|with_reducible refine ua4 ?_ ?_|with_reducible refine And.intro ?_ ?_));(all_goals first|trivial|exact qM (qE (by rfl))|exact qM (qF (by rfl))|exact qM (Fit.refl _)|exact qL (qK _)|(refine qM (qE ?_);(try simp only [qV]at *);simp only [zQ,zA,zB,zC,zD,zE,zF,zG,zH,zI,zJ,zK,zL,zM,zN,zO,zP,zR,zS]at *;omega)|(refine qL (qJ ?_);(repeat' (first|exact qA|exact qB|refine qC ?_ rfl ?_|refine qD ?_ ?_|exact qE (by rfl)|exact qF (by rfl)|exact Fit.refl _|exact qG _|(refine qE ?_;(try simp only [qV]at *);simp only [zQ,zA,zB,zC,zD,zE,zF,zG,zH,zI,zJ,zK,zL,zM,zN,zO,zP,zR,zS]at *;omega)));done)|(refine qL (qJ (ub1 (fun ix h0 h1=>qE (uyJ hd (by((try simp only [qV]at *);(try simp only [zQ,zA,zB,zC,zD,zE,zF,zG,zH,zI,zJ,zK,zL,zM,zN,zO,zP,zR,zS]at *);omega)) _)) qA)))|skip))|skip
    refine⟨[],L,el,fun _=>Unit,fun i _=>([(0,.cells [(wpS d)] 87),(1,.cells [(.arr 16 (fun ix=>(iv fun _=>(mF d K i) ix.den.toNat)))] 95)],500),?_⟩
    cbv
    refine⟨fun _=>⟨cI,elen⟩,⟨(),?_⟩,?_,?_⟩
    ·cbv
     repeat' (first|with_reducible refine ua4 ?_ ?_|with_reducible refine And.intro ?_ ?_)
     all_goals first|trivial|exact qL (qK _)|(refine qL (qJ (ub1 (fun ix h0 h1=>qE (uxJ (by((try simp only [qV]at *);(try simp only [zQ,zA,zB,zC,zD,zE,zF,zG,zH,zI,zJ,zK,zL,zM,zN,zO,zP,zR,zS]at *);omega)))) qA)))|skip
    ·intro i _ hil
     have hil':i<L:=hil
     simp only [ei]
     cbv
     repeat' (first|with_reducible refine ua4 ?_ ?_|(refine qP ?_ (c45 i hil) ?hfit;(case hfit=>((repeat' (first|exact qB|refine qD ?_ ?_|exact qE (by rfl)|exact qF (by rfl)|exact Fit.refl _|exact qA|refine qC ?_ rfl ?_));done));try cbv)
      | ((have hk9:=hKb i hil)
         refine⟨some [1],?_⟩
         cbv
         refine qQ ?_ (c67 (mF d K i) 0 ((K.getD i f0T).s+1) (mLo d (K.getD i f0T)) (mHi d (K.getD i f0T)) (by omega) ⟨by omega,by omega⟩ (by omega)) ?hfit ?hbo
         case hfit=>(cbv;(repeat' (first|exact qB|refine qD ?_ ?_|exact qE (by rfl)|exact qF (by rfl)|exact Fit.refl _|exact qA|refine qC ?_ rfl ?_));done)
         case hbo=>(cbv;(repeat' (first|exact qH|refine qI ?_ ?_|exact qK _|refine qJ ?_|exact qA|exact qE (by rfl)|exact qF (by rfl)|exact Fit.refl _|exact qG _|refine qC ?_ rfl ?_));done)
         try cbv)
      |fail)
     all_goals first|((have hk9:=hKb i hil);(try simp only [qV]at *);(try simp only [zQ,zA,zB,zC,zD,zE,zF,zG,zH,zI,zJ,zK,zL,zM,zN,zO,zP,zR,zS]at *);simp only [uai];first|omega|exact⟨by omega,by omega⟩)|(refine⟨(),?_⟩;cbv;(repeat' (first|with_reducible refine ua4 ?_ ?_|with_reducible refine And.intro ?_ ?_));(all_goals first|trivial|exact qM (qE (by rfl))|exact qM (qF (by rfl))|exact qM (Fit.refl _)|exact qL (qK _)|(refine qM (qE ?_);(try simp only [qV]at *);simp only [zQ,zA,zB,zC,zD,zE,zF,zG,zH,zI,zJ,zK,zL,zM,zN,zO,zP,zR,zS]at *;omega)|(refine qL (qJ ?_);(repeat' (first|exact qA|exact qB|refine qC ?_ rfl ?_|refine qD ?_ ?_|exact qE (by rfl)|exact qF (by rfl)|exact Fit.refl _|exact qG _|(refine qE ?_;(try simp only [qV]at *);simp only [zQ,zA,zB,zC,zD,zE,zF,zG,zH,zI,zJ,zK,zL,zM,zN,zO,zP,zR,zS]at *;omega)));done)|(refine qL (qJ (ub1 (fun ix h0 h1=>qE (uzg hK (by rw [←hL];exact hil) _)) qA)))|skip))|skip
    ·intro _
     cbv
     repeat' (first
      | (refine⟨some [1],?_⟩
         cbv
         refine qQ ?_ (c68 (mF d K L) (fun i _=>(hbd i).1) (fun i _=>(hbd i).2)) ?hfit ?hbo
         case hfit=>(cbv;(repeat' (first|exact qB|refine qD ?_ ?_|exact qE (by rfl)|exact qF (by rfl)|exact Fit.refl _|exact qA|refine qC ?_ rfl ?_));done)
         case hbo=>(cbv;(repeat' (first|exact qH|refine qI ?_ ?_|exact qK _|refine qJ ?_|exact qA|exact qE (by rfl)|exact qF (by rfl)|exact Fit.refl _|exact qG _|refine qC ?_ rfl ?_));done)
         try cbv)
      |fail)
     all_goals first|(subst hR;(rw [hend];exact Fit.refl _);done)|skip
end Go.Proofs.YtkdggbfknlcdaaaGreat
namespace Go.Proofs.YtkdggbfknlcdaaaGreat
open Go.Eng.Dif
theorem uiT (fs:List FaT):ubV fs []=fs:=by
 have h:∀n,n≤fs.length→kpT fs (ukJ []) n=fs.take n:=by
  intro n
  induction n with
  |zero=>intro _;rfl
  | succ n ih=>
   intro hn
   rw [uqh (show ukJ [] n=true from rfl),ih (by omega),uja (by omega),List.getD_eq_getElem?_getD,List.getElem?_eq_getElem (by omega)]
   rfl
 unfold ubV
 rw [h _ (Nat.le_refl _),List.take_of_length_le (Nat.le_refl _)]
theorem ukB {d:Dsp}(h:DOk d) {o:List Int}(hc:ud5 d d.fs o=true) {i:Nat}(hi:i<16): -2000≤clo (ufv d d.fs o) i∧clo (ufv d d.fs o) i≤2000:=by
 have hk:=ulW h.f o
 exact⟨uro (okk h hk) hc hi,Int.le_trans (uhQ _ _) (uu6 h hk i).2⟩
def ufO (d:Dsp)(n:Int):Int:=if ua5 d=0 then(if inB 0 n ((d.fs.length:Int)-1)=true then 0 else 2)else ua5 d
def uk3 (d:Dsp)(n:Int):Int:=if ufO d n=0 then mLo d (d.fs.getD n.toNat f0T)else 0
def ukH (d:Dsp)(n:Int):Int:=if ufO d n=0 then mHi d (d.fs.getD n.toNat f0T)else 0
theorem uqx {d:Dsp} {n:Int}(h:¬ua5 d=0):ufO d n=ua5 d∧uk3 d n=0∧ukH d n=0:=by
 have e:ufO d n=ua5 d:=by unfold ufO;rw [if_neg h]
 exact⟨e,by unfold uk3;rw [e,if_neg h],by unfold ukH;rw [e,if_neg h]⟩
theorem usU {d:Dsp} {n:Int}(h:ua5 d=0)(hn:¬(0≤n∧n≤(d.fs.length:Int)-1)):ufO d n=2∧uk3 d n=0∧ukH d n=0:=by
 have e:ufO d n=2:=by unfold ufO;rw [if_pos h,if_neg (by rw [uav];exact hn)]
 exact⟨e,by unfold uk3;rw [e];rfl,by unfold ukH;rw [e];rfl⟩
theorem ukI {d:Dsp} {n:Int}(h:ua5 d=0)(hn:0≤n∧n≤(d.fs.length:Int)-1):ufO d n=0∧uk3 d n=mLo d (d.fs.getD n.toNat f0T)∧ukH d n=mHi d (d.fs.getD n.toNat f0T):=by
 have e:ufO d n=0:=by unfold ufO;rw [if_pos h,if_pos (by rw [uav];exact hn)]
 exact⟨e,by unfold uk3;rw [e];rfl,by unfold ukH;rw [e];rfl⟩
def uj2 (d:Dsp):Int:=if ua5 d=0 then(if ud5 d d.fs []=true then 0 else 11)else ua5 d
def uoD (d:Dsp):Int:=if uj2 d=0 then d.sn else 0
def loT (d:Dsp)(o:List Int)(s:Nat):Int:= -clo (ufv d d.fs o) (at4 (s+1) 0)
def hiT (d:Dsp)(o:List Int)(s:Nat):Int:=clo (ufv d d.fs o) (at4 0 (s+1))
theorem uiY {d:Dsp}(h:¬ua5 d=0):uj2 d=ua5 d∧uoD d=0:=by
 have e:uj2 d=ua5 d:=by unfold uj2;rw [if_neg h]
 exact⟨e,by unfold uoD;rw [e,if_neg h]⟩
theorem uiH {d:Dsp}(h:ua5 d=0)(hc:ud5 d d.fs []=false):uj2 d=11∧uoD d=0:=by
 have e:uj2 d=11:=by unfold uj2;rw [if_pos h,if_neg (by rw [hc];simp)]
 exact⟨e,by unfold uoD;rw [e];rfl⟩
theorem uep {d:Dsp}(h:ua5 d=0)(hc:ud5 d d.fs []=true):uj2 d=0∧uoD d=d.sn:=by
 have e:uj2 d=0:=by unfold uj2;rw [if_pos h,if_pos hc]
 exact⟨e,by unfold uoD;rw [e];rfl⟩
theorem uq1 {d:Dsp}(h:uj2 d=0):ua5 d=0∧ud5 d d.fs []=true:=by
 by_cases hF:ua5 d=0
 ·refine⟨hF,?_⟩
  cases hC:ud5 d d.fs []with
  |true=>rfl
  |false=>rw [(uiH hF hC).1]at h;omega
 ·rw [(uiY hF).1]at h;exact absurd h hF
theorem upy {d:Dsp}(h:¬uj2 d=0):uoD d=0:=by unfold uoD;rw [if_neg h]
end Go.Proofs.YtkdggbfknlcdaaaGreat
namespace Go.Proofs.YtkdggbfknlcdaaaGreat
open Go Go.Eng Go.Proofs Go.Eng.Dif Go.Eng.Few
set_option maxRecDepth 10000
theorem ux4 (d:Dsp)(n:Int)(hl:d.fs.length≤1000):ua0 Tryz.prog 38 [(ub0 d),(iv fun _=>n)] [] (fun r _=>r=(.tup [(.agg [(iv fun _=>uk3 d n),(iv fun _=>ukH d n)]),(iv fun _=>ufO d n)])):=by
 have c16:=ubB d
 have c43:= @ud6
 have c44:=ucH d
 have c45:=fun (i:Nat) (h:ua5 d=0∧i<d.fs.length)=>urk d (d.fs.getD i f0T) (ua3.1 h.1).t ((ua3.1 h.1).f i h.2)
 refine ua0.is fun R hR=>qW (sc:=uBe) uaj mix Tryz.func38 rfl Tryz.call38 (by kernel_rfl) (by kernel_rfl) ?_
 generalize Tryz.prog=P at c16 c43 c44 c45⊢
 cbv
 repeat' (first|with_reducible refine ua4 ?_ ?_|with_reducible refine And.intro ?_ ?_|(with_reducible intro hcd;(try simp only [zA,zB,zC,zD,zE,zF,zG,zH,zI,zJ,zK,zL,zM,zN,zO,zP]at hcd);try cbv)|(refine qP ?_ (c16) ?hfit;(case hfit=>((repeat' (first|exact qB|refine qD ?_ ?_|exact qE (by rfl)|exact qF (by rfl)|exact Fit.refl _|exact qA|refine qC ?_ rfl ?_));done));try cbv)|(refine qP ?_ (c43 _ _ _) (by(repeat' (first|exact qB|refine qD ?_ ?_|exact qE (by rfl)|exact qF (by rfl)|exact Fit.refl _|exact qA|refine qC ?_ rfl ?_)));try cbv)|(refine qP ?_ (c44) ?hfit;(case hfit=>((repeat' (first|exact qB|refine qD ?_ ?_|exact qE (by rfl)|exact qF (by rfl)|exact Fit.refl _|exact qA|refine qC ?_ rfl ?_));done));try cbv)
  | ((have hn9:0≤n∧n≤(d.fs.length:Int)-1:=(by((try simp only [qV]at *);(try simp only [zQ,zA,zB,zC,zD,zE,zF,zG,zH,zI,zJ,zK,zL,zM,zN,zO,zP,zR,zS]at *);(try simp only [uah,uak,uav,uaE,uaJ,uaN,ua9,uab,ua8,uaa]at *);omega)))
     refine qP ?_ (c45 n.toNat ⟨by first|assumption|omega,by omega⟩) ?hfit
     case hfit=>((repeat' (first|exact qB|refine qD ?_ ?_|exact qE (by rfl)|exact qF (by rfl)|exact Fit.refl _|exact qA|refine qC ?_ rfl ?_));done)
     try cbv)
  |fail)
 all_goals first|((try simp only [qV]at *);(try simp only [zQ,zA,zB,zC,zD,zE,zF,zG,zH,zI,zJ,zK,zL,zM,zN,zO,zP,zR,zS,uah,uak,uav,uaE,uaJ,uaN,ua9,uab,ua8,uaa]at *);first|(refine qN ?_;omega)|(simp only [uai];omega))|(subst hR;(refine qD (qC (qE ?_) rfl (qC (qE ?_) rfl qA)) (qD (qE ?_) qB)<;>((try simp only [qV]at *);(try simp only [zQ,zA,zB,zC,zD,zE,zF,zG,zH,zI,zJ,zK,zL,zM,zN,zO,zP,zR,zS]at *);(try simp only [uah,uak,uav,uaE,uaJ,uaN,ua9,uab,ua8,uaa]at *);(have h0:=uqx (d:=d) (n:=n) (by first|assumption|omega));first|exact h0.2.1.symm|exact h0.2.2.symm|exact h0.1.symm));done)|(subst hR;(refine qD (qC (qE ?_) rfl (qC (qE ?_) rfl qA)) (qD (qE ?_) qB)<;>((try simp only [qV]at *);(try simp only [zQ,zA,zB,zC,zD,zE,zF,zG,zH,zI,zJ,zK,zL,zM,zN,zO,zP,zR,zS]at *);(try simp only [uah,uak,uav,uaE,uaJ,uaN,ua9,uab,ua8,uaa]at *);(have h0:=usU (d:=d) (n:=n) (by first|assumption|omega) (by first|assumption|omega));first|exact h0.2.1.symm|exact h0.2.2.symm|exact h0.1.symm));done)|(subst hR;(refine qD (qC (qE ?_) rfl (qC (qE ?_) rfl qA)) (qD (qE ?_) qB)<;>((try simp only [qV]at *);(try simp only [zQ,zA,zB,zC,zD,zE,zF,zG,zH,zI,zJ,zK,zL,zM,zN,zO,zP,zR,zS]at *);(try simp only [uah,uak,uav,uaE,uaJ,uaN,ua9,uab,ua8,uaa]at *);(have h0:=ukI (d:=d) (n:=n) (by first|assumption|omega) (by omega));first|exact h0.2.1.symm|exact h0.2.2.symm|exact h0.1.symm));done)|skip
theorem up3 (d:Dsp)(h:uj2 d=0):ua0 Tryz.prog 30 [(ub0 d)] [] (fun r _=>r=(.tup [(.sl 2 (.sym fun _=>uoD d) (fun ix=>[(iv fun _=>loT d [] ix.den.toNat),(iv fun _=>hiT d [] ix.den.toNat)])),(iv fun _=>uj2 d)])):=by
 have c16:=ubB d
 have c44:=ucH d
 have hF:=(uq1 h).1
 have hC:=(uq1 h).2
 have s1:=(ua3.1 hF).s1
 have s3:=(ua3.1 hF).s3
 have c54:=ubC d [] (ua3.1 hF) (by simp)
 have hbd:=fun (i:Nat) (hi:i<16)=>ukB (ua3.1 hF) hC hi
 have c55:=fun (s:Int) (hs:0≤s∧s<3)=>ueA (clo (ufv d d.fs [])) s hs (fun i hi=>⟨by have:=hbd i hi;omega,by have:=hbd i hi;omega⟩)
 refine ua0.is fun R hR=>qW (sc:=uAn) uaj mix Tryz.func30 rfl Tryz.call30 (by kernel_rfl) (by kernel_rfl) ?_
 generalize Tryz.prog=P at c16 c44 c54 c55⊢
 cbv
 repeat' (first|with_reducible refine And.intro ?_ ?_|(with_reducible intro hcd;(try simp only [zA,zB,zC,zD,zE,zF,zG,zH,zI,zJ,zK,zL,zM,zN,zO,zP]at hcd);try cbv)|(refine qP ?_ (c16) ?hfit;(case hfit=>((repeat' (first|exact qB|refine qD ?_ ?_|exact qE (by rfl)|exact qF (by rfl)|exact Fit.refl _|exact qA|refine qC ?_ rfl ?_));done));try cbv)|(refine qP ?_ (c44) ?hfit;(case hfit=>((repeat' (first|exact qB|refine qD ?_ ?_|exact qE (by rfl)|exact qF (by rfl)|exact Fit.refl _|exact qA|refine qC ?_ rfl ?_));done));try cbv)|(refine qP ?_ (c54) ?hfit;(case hfit=>((refine qD (Fit.refl _) (qD (qO rfl) qB));done));try cbv)|fail)
 all_goals first|trivial|(exfalso;rw [hC]at hcd;cases hcd;done)|skip
 refine⟨none,[⟨.tmp 7,59,2⟩],{s:Nat // s≤d.sn.toNat},fun x=>⟨[(1,.own 0 0),(5,.own 14 0),(7,.row 23),(23,(iv fun _=>d.sn)),(24,(iv fun _=>zi x.1))],[(0,.cells [(iS d.tw),(iS d.tm),(.sl 1 (.sym fun _=>zi (d.tv).length) (fun ix=>[(.sl 1 (.sym fun _=>zi ((d.tv).getD ix.den.toNat []).length) (fun jx=>[(iv fun _=>((d.tv).getD ix.den.toNat []).getD jx.den.toNat 0)]))])),(iv fun _=>d.sn),(iv fun _=>d.pn),(.sl 4 (.sym fun _=>zi (d.ls).length) (fun ix=>[(iv fun _=>((d.ls).getD ix.den.toNat l0T).a),(iv fun _=>((d.ls).getD ix.den.toNat l0T).b),(iv fun _=>((d.ls).getD ix.den.toNat l0T).lo),(iv fun _=>((d.ls).getD ix.den.toNat l0T).hi)])),(.sl 6 (.sym fun _=>zi (d.fs).length) (fun ix=>[(iv fun _=>((d.fs).getD ix.den.toNat f0T).p),(iv fun _=>((d.fs).getD ix.den.toNat f0T).s),(iv fun _=>((d.fs).getD ix.den.toNat f0T).wl),(iv fun _=>((d.fs).getD ix.den.toNat f0T).wh),(iv fun _=>((d.fs).getD ix.den.toNat f0T).ml),(iv fun _=>((d.fs).getD ix.den.toNat f0T).mh)]))] 39),(14,.cells [(.arr 16 (fun ix=>(iv fun _=>(clo (ufv d d.fs [])) ix.den.toNat)))] 95),(23,.row 59 2 (.sym fun _=>zi x.1) (fun ix=>[(iv fun _=>loT d [] ix.den.toNat),(iv fun _=>hiT d [] ix.den.toNat)]))],100⟩,fun x=>d.sn.toNat-x.1,?_,?_⟩
 ·refine⟨⟨0,by omega⟩,?_⟩
  cbv
  repeat' (first|with_reducible refine ua4 ?_ ?_|with_reducible refine And.intro ?_ ?_)
  all_goals first|trivial|exact qM (qE (by rfl))|exact qM (Fit.refl _)|exact qL (qK _)|(refine qL (uae ?_ ?_);(first|rfl|((try simp only [qV]at *);(try simp only [zQ,zA,zB,zC,zD,zE,zF,zG,zH,zI,zJ,zK,zL,zM,zN,zO,zP,zR,zS]at *);omega));intro ix h0 h1;exfalso;(try simp only [qV]at *);(try simp only [zQ,zA,zB,zC,zD,zE,zF,zG,zH,zI,zJ,zK,zL,zM,zN,zO,zP,zR,zS]at *);omega)|skip
 ·rintro ⟨s,hs⟩
  cbv
  repeat' (first|with_reducible refine ua4 ?_ ?_|with_reducible refine And.intro ?_ ?_|(with_reducible intro hcd;(try simp only [zA,zB,zC,zD,zE,zF,zG,zH,zI,zJ,zK,zL,zM,zN,zO,zP]at hcd);try cbv)
   | (refine⟨some [14],?_⟩
      cbv
      refine qQ ?_ (c55 (zi s) ⟨(by((try simp only [qV]at *);(try simp only [zQ,zA,zB,zC,zD,zE,zF,zG,zH,zI,zJ,zK,zL,zM,zN,zO,zP,zR,zS]at *);omega)),(by((try simp only [qV]at *);(try simp only [zQ,zA,zB,zC,zD,zE,zF,zG,zH,zI,zJ,zK,zL,zM,zN,zO,zP,zR,zS]at *);omega))⟩) ?hfit ?hbo
      case hfit=>(cbv;(repeat' (first|exact qB|refine qD ?_ ?_|exact qE (by rfl)|exact qF (by rfl)|exact Fit.refl _|exact qA|refine qC ?_ rfl ?_));done)
      case hbo=>(cbv;(repeat' (first|exact qH|refine qI ?_ ?_|exact qK _|refine qJ ?_|exact qA|exact qE (by rfl)|exact qF (by rfl)|exact Fit.refl _|exact qG _|refine qC ?_ rfl ?_));done)
      try cbv)
   | (refine⟨fun ix=>[(iv fun _=>loT d [] ix.den.toNat),(iv fun _=>hiT d [] ix.den.toNat)],?_⟩
      cbv
      refine ua4 (ub9 (by intro ix jx h0 h1 h2;simp only [h2];exact Fit.refl _) (by intro ix jx h0 h1 h2;(have h3:jx.den.toNat=s:=by((try simp only [qV]at *);(try simp only [zQ,zA,zB,zC,zD,zE,zF,zG,zH,zI,zJ,zK,zL,zM,zN,zO,zP,zR,zS]at *);omega));simp only [h3];exact qC (qE rfl) rfl (qC (qE rfl) rfl qA)) (by(try simp only [qV]at *);(try simp only [zQ,zA,zB,zC,zD,zE,zF,zG,zH,zI,zJ,zK,zL,zM,zN,zO,zP,zR,zS]at *);omega)) (Or.inl ?_)
      try cbv)
   |fail)
  all_goals first|((try simp only [qV]at *);(try simp only [zQ,zA,zB,zC,zD,zE,zF,zG,zH,zI,zJ,zK,zL,zM,zN,zO,zP,zR,zS]at *);first|(refine qN ?_;omega)|(simp only [uai];omega))|((have hse:(s:Int)=d.sn:=(by((try simp only [qV]at *);(try simp only [zQ,zA,zB,zC,zD,zE,zF,zG,zH,zI,zJ,zK,zL,zM,zN,zO,zP,zR,zS]at *);omega)));subst hR;exact qD (ua1 (hse.trans (uep hF hC).2.symm) (fun _ _ _=>Fit.refl _)) (qD (qE h.symm) qB))|((try simp only [zQ,zA,zB,zC,zD,zE,zF,zG,zH,zI,zJ,zK,zL,zM,zN,zO,zP,zR,zS]at *);refine⟨⟨s+1,by((try simp only [qV]at *);(try simp only [zQ,zA,zB,zC,zD,zE,zF,zG,zH,zI,zJ,zK,zL,zM,zN,zO,zP,zR,zS]at *);omega)⟩,by simp only [];omega,?_⟩;cbv;(repeat' (first|with_reducible refine ua4 ?_ ?_|with_reducible refine And.intro ?_ ?_));(all_goals first|trivial|exact qM (qE (by rfl))|exact qM (qF (by rfl))|exact qM (Fit.refl _)|exact qL (qK _)|(refine qM (qE ?_);(try simp only [qV]at *);simp only [zQ,zA,zB,zC,zD,zE,zF,zG,zH,zI,zJ,zK,zL,zM,zN,zO,zP,zR,zS]at *;omega)|(refine qL (qJ ?_);(repeat' (first|exact qA|exact qB|refine qC ?_ rfl ?_|refine qD ?_ ?_|exact qE (by rfl)|exact qF (by rfl)|exact Fit.refl _|exact qG _|(refine qE ?_;(try simp only [qV]at *);simp only [zQ,zA,zB,zC,zD,zE,zF,zG,zH,zI,zJ,zK,zL,zM,zN,zO,zP,zR,zS]at *;omega)));done)|(refine qL (uae ?_ ?_)<;>first|rfl|((try simp only [qV]at *);(try simp only [zQ,zA,zB,zC,zD,zE,zF,zG,zH,zI,zJ,zK,zL,zM,zN,zO,zP,zR,zS]at *);omega)|(intro ix h0 h1;exact Fit.refl _))|skip))|skip
theorem uqZ (d:Dsp)(h:¬uj2 d=0):ua0 Tryz.prog 30 [(ub0 d)] [] (fun r _=>r=(.tup [(.sl 2 (.sym fun _=>uoD d) (fun ix=>[(iv fun _=>loT d [] ix.den.toNat),(iv fun _=>hiT d [] ix.den.toNat)])),(iv fun _=>uj2 d)])):=by
 have c16:=ubB d
 have c44:=ucH d
 have c54:=fun h:ua5 d=0=>ubC d [] (ua3.1 h) (by simp)
 refine ua0.is fun R hR=>qW (sc:=uAn) uaj mix Tryz.func30 rfl Tryz.call30 (by kernel_rfl) (by kernel_rfl) ?_
 generalize Tryz.prog=P at c16 c44 c54⊢
 cbv
 repeat' (first|with_reducible refine And.intro ?_ ?_|(with_reducible intro hcd;(try simp only [zA,zB,zC,zD,zE,zF,zG,zH,zI,zJ,zK,zL,zM,zN,zO,zP]at hcd);try cbv)|(refine qP ?_ (c16) ?hfit;(case hfit=>((repeat' (first|exact qB|refine qD ?_ ?_|exact qE (by rfl)|exact qF (by rfl)|exact Fit.refl _|exact qA|refine qC ?_ rfl ?_));done));try cbv)|(refine qP ?_ (c44) ?hfit;(case hfit=>((repeat' (first|exact qB|refine qD ?_ ?_|exact qE (by rfl)|exact qF (by rfl)|exact Fit.refl _|exact qA|refine qC ?_ rfl ?_));done));try cbv)|(refine qP ?_ (c54 (show uai _ from ?_)) ?hfit;(case hfit=>((refine qD (Fit.refl _) (qD (qO rfl) qB));done));try cbv)|fail)
 all_goals first|trivial|(subst hR;((try simp only [qV]at *);(try simp only [zQ,zA,zB,zC,zD,zE,zF,zG,zH,zI,zJ,zK,zL,zM,zN,zO,zP,zR,zS]at *);(exact qD (qO (upy h)) (qD (qE (uiY (d:=d) (by first|assumption|omega)).1.symm) qB)));done)|(subst hR;((try simp only [qV]at *);(try simp only [zQ,zA,zB,zC,zD,zE,zF,zG,zH,zI,zJ,zK,zL,zM,zN,zO,zP,zR,zS]at *);(exact qD (qO (upy h)) (qD (qE (uiH (d:=d) (by first|assumption|omega) (by assumption)).1.symm) qB)));done)|(exfalso;exact h (uep (by((try simp only [qV]at *);(try simp only [zQ,zA,zB,zC,zD,zE,zF,zG,zH,zI,zJ,zK,zL,zM,zN,zO,zP,zR,zS]at *);first|assumption|omega)) (by assumption)).1)|skip
theorem udy (d:Dsp):ua0 Tryz.prog 30 [(ub0 d)] [] (fun r _=>r=(.tup [(.sl 2 (.sym fun _=>uoD d) (fun ix=>[(iv fun _=>loT d [] ix.den.toNat),(iv fun _=>hiT d [] ix.den.toNat)])),(iv fun _=>uj2 d)])):=by
 by_cases h:uj2 d=0
 ·exact up3 d h
 ·exact uqZ d h
theorem uq4 (l:List Int)(hl:l.length≤1000):ubf Tryz.prog 89 [(iS l)] [] (fun r bs=>r = .row 0∧bs=[.row 3 1 (.sym fun _=>zi l.length) (fun ix=>[(iv fun _=>l.getD ix.den.toNat 0)])]):=by
 refine ubf.is rfl rfl fun R B hR hB=>ufn (sc:=uCf) uaj mix Tryz.func89 rfl Tryz.call89 (by kernel_rfl) (by kernel_rfl) ?_
 generalize Tryz.prog=P
 cbv
 repeat' (first|with_reducible refine ua4 ?_ ?_|with_reducible refine And.intro ?_ ?_|(with_reducible intro hcd;(try simp only [zA,zB,zC,zD,zE,zF,zG,zH,zI,zJ,zK,zL,zM,zN,zO,zP]at hcd);try cbv)|fail)
 all_goals first|((try simp only [qV]at *);(try simp only [zQ,zA,zB,zC,zD,zE,zF,zG,zH,zI,zJ,zK,zL,zM,zN,zO,zP,zR,zS]at *);first|(refine qN ?_;omega)|(simp only [uai];omega))|(refine⟨[⟨.tmp 2,3,1⟩],(4:Nat),?_⟩;cbv;subst hR;subst hB;refine⟨?_,?_⟩;(first|exact Fit.refl _|((repeat' (first|exact qA|exact qB|refine qC ?_ rfl ?_|refine qD ?_ ?_|exact qE (by rfl)|exact qF (by rfl)|exact Fit.refl _|exact qG _|(refine qE ?_;(try simp only [qV]at *);simp only [zQ,zA,zB,zC,zD,zE,zF,zG,zH,zI,zJ,zK,zL,zM,zN,zO,zP,zR,zS]at *;omega)));done));(repeat' (first|exact qH|refine qI ?_ ?_));(all_goals first|exact qK _|(refine qJ ?_;(repeat' (first|exact qA|exact qB|refine qC ?_ rfl ?_|refine qD ?_ ?_|exact qE (by rfl)|exact qF (by rfl)|exact Fit.refl _|exact qG _|(refine qE ?_;(try simp only [qV]at *);simp only [zQ,zA,zB,zC,zD,zE,zF,zG,zH,zI,zJ,zK,zL,zM,zN,zO,zP,zR,zS]at *;omega)));done)|(refine uae ?_ ?_;(first|rfl|((try simp only [qV]at *);(try simp only [zQ,zA,zB,zC,zD,zE,zF,zG,zH,zI,zJ,zK,zL,zM,zN,zO,zP,zR,zS]at *);omega));intro ix h0 h1;first|exact Fit.refl _|(exfalso;(try simp only [qV]at *);(try simp only [zQ,zA,zB,zC,zD,zE,zF,zG,zH,zI,zJ,zK,zL,zM,zN,zO,zP,zR,zS]at *);omega))))|(refine⟨[],(5:Nat),?_⟩;cbv;subst hR;subst hB;refine⟨?_,?_⟩;(first|exact Fit.refl _|((repeat' (first|exact qA|exact qB|refine qC ?_ rfl ?_|refine qD ?_ ?_|exact qE (by rfl)|exact qF (by rfl)|exact Fit.refl _|exact qG _|(refine qE ?_;(try simp only [qV]at *);simp only [zQ,zA,zB,zC,zD,zE,zF,zG,zH,zI,zJ,zK,zL,zM,zN,zO,zP,zR,zS]at *;omega)));done));(repeat' (first|exact qH|refine qI ?_ ?_));(all_goals first|exact qK _|(refine qJ ?_;(repeat' (first|exact qA|exact qB|refine qC ?_ rfl ?_|refine qD ?_ ?_|exact qE (by rfl)|exact qF (by rfl)|exact Fit.refl _|exact qG _|(refine qE ?_;(try simp only [qV]at *);simp only [zQ,zA,zB,zC,zD,zE,zF,zG,zH,zI,zJ,zK,zL,zM,zN,zO,zP,zR,zS]at *;omega)));done)|(refine uae ?_ ?_;(first|rfl|((try simp only [qV]at *);(try simp only [zQ,zA,zB,zC,zD,zE,zF,zG,zH,zI,zJ,zK,zL,zM,zN,zO,zP,zR,zS]at *);omega));intro ix h0 h1;first|exact Fit.refl _|(exfalso;(try simp only [qV]at *);(try simp only [zQ,zA,zB,zC,zD,zE,zF,zG,zH,zI,zJ,zK,zL,zM,zN,zO,zP,zR,zS]at *);omega))))|skip
theorem ulo (l:List FaT)(hl:l.length≤1000):ua0 Tryz.prog 81 [(.sl 6 (.sym fun _=>zi (l).length) (fun ix=>[(iv fun _=>((l).getD ix.den.toNat f0T).p),(iv fun _=>((l).getD ix.den.toNat f0T).s),(iv fun _=>((l).getD ix.den.toNat f0T).wl),(iv fun _=>((l).getD ix.den.toNat f0T).wh),(iv fun _=>((l).getD ix.den.toNat f0T).ml),(iv fun _=>((l).getD ix.den.toNat f0T).mh)]))] [] (fun r _=>r=(.sl 6 (.sym fun _=>zi (l).length) (fun ix=>[(iv fun _=>((l).getD ix.den.toNat f0T).p),(iv fun _=>((l).getD ix.den.toNat f0T).s),(iv fun _=>((l).getD ix.den.toNat f0T).wl),(iv fun _=>((l).getD ix.den.toNat f0T).wh),(iv fun _=>((l).getD ix.den.toNat f0T).ml),(iv fun _=>((l).getD ix.den.toNat f0T).mh)]))):=by
 refine ua0.is fun R hR=>qW (sc:=uBr) uaj mix Tryz.func81 rfl Tryz.call81 (by kernel_rfl) (by kernel_rfl) ?_
 generalize Tryz.prog=P
 cbv
 repeat' (first|with_reducible refine ua4 ?_ ?_|with_reducible refine And.intro ?_ ?_|(with_reducible intro hcd;(try simp only [zA,zB,zC,zD,zE,zF,zG,zH,zI,zJ,zK,zL,zM,zN,zO,zP]at hcd);try cbv)|fail)
 all_goals first|((try simp only [qV]at *);(try simp only [zQ,zA,zB,zC,zD,zE,zF,zG,zH,zI,zJ,zK,zL,zM,zN,zO,zP,zR,zS]at *);first|(refine qN ?_;omega)|(simp only [uai];omega))|(subst hR;exact qO (by((try simp only [qV]at *);(try simp only [zQ,zA,zB,zC,zD,zE,zF,zG,zH,zI,zJ,zK,zL,zM,zN,zO,zP,zR,zS]at *);omega));done)|(subst hR;exact Fit.refl _;done)|skip
end Go.Proofs.YtkdggbfknlcdaaaGreat
namespace Go.Proofs.YtkdggbfknlcdaaaGreat
open Go.Eng.Dif
def noF (d:Dsp):Dsp:=⟨d.tw,d.tm,d.tv,d.sn,d.pn,d.ls,[]⟩
def ucn (d:Dsp)(fs:List FaT):Dsp:=⟨d.tw,d.tm,d.tv,d.sn,d.pn,d.ls,fs⟩
theorem uni {d:Dsp}(h:DOk d) {fs:List FaT}(hl:fs.length≤6)(hf:∀f∈fs,ubN d f):DOk (ucn d fs):=
 ⟨h.t,h.s1,h.s3,h.p1,h.p4,h.l4,hl,h.l,FOk.of (d:=d) hf⟩
theorem uqX {d:Dsp}(h:DOk d):DOk (noF d):=uni h (fs:=[]) (by simp) (fun f hf=>by cases hf)
def udX (d:Dsp):Bool:=ud5 (noF d) [] []
def uam (d:Dsp):Int:=if ua5 d=0 then(if udX d=true then 0 else 9)else ua5 d
theorem ujk {d:Dsp}(h:¬ua5 d=0):uam d=ua5 d:=by unfold uam;rw [if_neg h]
theorem umB {d:Dsp}(h:ua5 d=0)(hc:udX d=false):uam d=9:=by unfold uam;rw [if_pos h,if_neg (by rw [hc];simp)]
theorem ugw {d:Dsp}(h:ua5 d=0)(hc:udX d=true):uam d=0:=by unfold uam;rw [if_pos h,if_pos hc]
theorem uaH {d:Dsp}(h:uam d=0):ua5 d=0∧udX d=true:=by
 by_cases hF:ua5 d=0
 ·refine⟨hF,?_⟩
  cases hC:udX d with
  |true=>rfl
  |false=>rw [umB hF hC]at h;omega
 ·rw [ujk hF]at h;exact absurd h hF
theorem umn (d:Dsp):udX d=ueB (SN d) (LO d) []:=rfl
end Go.Proofs.YtkdggbfknlcdaaaGreat
namespace Go.Proofs.YtkdggbfknlcdaaaGreat
open Go Go.Eng Go.Proofs Go.Eng.Dif Go.Eng.Few
set_option maxRecDepth 10000
theorem uvN (d:Dsp):ubf Tryz.prog 62 [(ub0 d)] [] (fun r bs=>r = .own 0 0∧bs=[.cells [(iS d.tw),(iS d.tm),(.sl 1 (.sym fun _=>zi (d.tv).length) (fun ix=>[(.sl 1 (.sym fun _=>zi ((d.tv).getD ix.den.toNat []).length) (fun jx=>[(iv fun _=>((d.tv).getD ix.den.toNat []).getD jx.den.toNat 0)]))])),(iv fun _=>d.sn),(iv fun _=>d.pn),(.sl 4 (.sym fun _=>zi (d.ls).length) (fun ix=>[(iv fun _=>((d.ls).getD ix.den.toNat l0T).a),(iv fun _=>((d.ls).getD ix.den.toNat l0T).b),(iv fun _=>((d.ls).getD ix.den.toNat l0T).lo),(iv fun _=>((d.ls).getD ix.den.toNat l0T).hi)])),(.sl 6 (.sym fun _=>zi (d.fs).length) (fun ix=>[(iv fun _=>((d.fs).getD ix.den.toNat f0T).p),(iv fun _=>((d.fs).getD ix.den.toNat f0T).s),(iv fun _=>((d.fs).getD ix.den.toNat f0T).wl),(iv fun _=>((d.fs).getD ix.den.toNat f0T).wh),(iv fun _=>((d.fs).getD ix.den.toNat f0T).ml),(iv fun _=>((d.fs).getD ix.den.toNat f0T).mh)])),(.memo 106 59 false 6 (fun ks=>.agg [(iv fun _=>kLo d ks),(iv fun _=>kHi d ks)]))] 92]):=by
 have hmt:=ues
 refine ubf.is rfl rfl fun R B hR hB=>ufn (sc:=uAx) uaj mix Tryz.func62 rfl Tryz.call62 (by kernel_rfl) (by kernel_rfl) ?_
 generalize Tryz.prog=P at hmt⊢
 cbv
 repeat' (first
  | (refine⟨106,59,false,6,?_⟩
     cbv
     refine ua4 ⟨hmt,fun h=>by cases h⟩ ?_
     refine Or.inr ⟨(fun ks=>.agg [(iv fun _=>kLo d ks),(iv fun _=>kHi d ks)]),?_⟩
     cbv)
  |fail)
 all_goals first|(refine⟨[],(5:Nat),?_⟩;cbv;subst hR;subst hB;refine⟨?_,?_⟩;(first|exact Fit.refl _|((repeat' (first|exact qA|exact qB|refine qC ?_ rfl ?_|refine qD ?_ ?_|exact qE (by rfl)|exact qF (by rfl)|exact Fit.refl _|exact qG _|(refine qE ?_;(try simp only [qV]at *);simp only [zQ,zA,zB,zC,zD,zE,zF,zG,zH,zI,zJ,zK,zL,zM,zN,zO,zP,zR,zS]at *;omega)));done));(repeat' (first|exact qH|refine qI ?_ ?_));(all_goals first|exact qK _|(refine qJ ?_;(repeat' (first|exact qA|exact qB|refine qC ?_ rfl ?_|refine qD ?_ ?_|exact qE (by rfl)|exact qF (by rfl)|exact Fit.refl _|exact qG _|(refine qE ?_;(try simp only [qV]at *);simp only [zQ,zA,zB,zC,zD,zE,zF,zG,zH,zI,zJ,zK,zL,zM,zN,zO,zP,zR,zS]at *;omega)));done)|(refine uae ?_ ?_;(first|rfl|((try simp only [qV]at *);(try simp only [zQ,zA,zB,zC,zD,zE,zF,zG,zH,zI,zJ,zK,zL,zM,zN,zO,zP,zR,zS]at *);omega));intro ix h0 h1;first|exact Fit.refl _|(exfalso;(try simp only [qV]at *);(try simp only [zQ,zA,zB,zC,zD,zE,zF,zG,zH,zI,zJ,zK,zL,zM,zN,zO,zP,zR,zS]at *);omega))))|skip
theorem umu (d:Dsp)(h:uam d=0):ua0 Tryz.prog 41 [(ub0 d)] [] (fun r _=>r=(.tup [(wpS d),(iv fun _=>0)])):=by
 have c16:=ubB d
 have c44:=ucH d
 have c44n:=ucH (noF d)
 have c92:=ulo d.fs
 have hmt:=ues
 have hF:=(uaH h).1
 have hC:=(uaH h).2
 have f6:=(ua3.1 hF).f6
 have c54:=ubC (noF d) [] (uqX (ua3.1 hF)) (by simp)
 have hLn:ud5 (noF d) (noF d).fs []=true:=hC
 rw [hLn]at c54
 refine ua0.is fun R hR=>qW (sc:=uyX) uaj mix Tryz.func41 rfl Tryz.call41 (by kernel_rfl) (by kernel_rfl) ?_
 generalize Tryz.prog=P at c16 c44 c44n c92 hmt c54⊢
 cbv
 repeat' (first|with_reducible refine And.intro ?_ ?_|(with_reducible intro hcd;(try simp only [zA,zB,zC,zD,zE,zF,zG,zH,zI,zJ,zK,zL,zM,zN,zO,zP]at hcd);try cbv)|(refine qP ?_ (c16) ?hfit;(case hfit=>((repeat' (first|exact qB|refine qD ?_ ?_|exact qE (by rfl)|exact qF (by rfl)|exact Fit.refl _|exact qA|refine qC ?_ rfl ?_));done));try cbv)|(refine qP ?_ (c44) ?hfit;(case hfit=>((repeat' (first|exact qB|refine qD ?_ ?_|exact qE (by rfl)|exact qF (by rfl)|exact Fit.refl _|exact qA|refine qC ?_ rfl ?_));done));try cbv)|(refine qP ?_ (c92 (by((try simp only [qV]at *);(try simp only [zQ,zA,zB,zC,zD,zE,zF,zG,zH,zI,zJ,zK,zL,zM,zN,zO,zP,zR,zS]at *);omega))) ?hfit;(case hfit=>((repeat' (first|exact qB|refine qD ?_ ?_|exact qE (by rfl)|exact qF (by rfl)|exact Fit.refl _|exact qA|refine qC ?_ rfl ?_));done));try cbv)|(refine qP ?_ (c44n) ?hfit;(case hfit=>((refine qD ((qC (Fit.refl _) rfl (qC (Fit.refl _) rfl (qC (Fit.refl _) rfl (qC (Fit.refl _) rfl (qC (Fit.refl _) rfl (qC (Fit.refl _) rfl (qC (qO rfl) rfl qA)))))))) qB);done));try cbv)|(refine qP ?_ (c54) ?hfit;(case hfit=>((refine qD (Fit.refl _) (qD (qO rfl) qB));done));try cbv)|fail)
 all_goals first|trivial|(subst hR;(repeat' (first|exact qA|exact qB|refine qC ?_ rfl ?_|refine qD ?_ ?_|exact qE (by rfl)|exact qF (by rfl)|exact Fit.refl _|exact qG _|(refine qE ?_;(try simp only [qV]at *);simp only [zQ,zA,zB,zC,zD,zE,zF,zG,zH,zI,zJ,zK,zL,zM,zN,zO,zP,zR,zS]at *;omega)));done)|skip
theorem uvw (d:Dsp)(h:uam d=0):ubf Tryz.prog 41 [(ub0 d)] [] (fun r bs=>r=(.tup [.own 0 0,(iv fun _=>0)])∧bs=[.cells [(iS d.tw),(iS d.tm),(.sl 1 (.sym fun _=>zi (d.tv).length) (fun ix=>[(.sl 1 (.sym fun _=>zi ((d.tv).getD ix.den.toNat []).length) (fun jx=>[(iv fun _=>((d.tv).getD ix.den.toNat []).getD jx.den.toNat 0)]))])),(iv fun _=>d.sn),(iv fun _=>d.pn),(.sl 4 (.sym fun _=>zi (d.ls).length) (fun ix=>[(iv fun _=>((d.ls).getD ix.den.toNat l0T).a),(iv fun _=>((d.ls).getD ix.den.toNat l0T).b),(iv fun _=>((d.ls).getD ix.den.toNat l0T).lo),(iv fun _=>((d.ls).getD ix.den.toNat l0T).hi)])),(.sl 6 (.sym fun _=>zi (d.fs).length) (fun ix=>[(iv fun _=>((d.fs).getD ix.den.toNat f0T).p),(iv fun _=>((d.fs).getD ix.den.toNat f0T).s),(iv fun _=>((d.fs).getD ix.den.toNat f0T).wl),(iv fun _=>((d.fs).getD ix.den.toNat f0T).wh),(iv fun _=>((d.fs).getD ix.den.toNat f0T).ml),(iv fun _=>((d.fs).getD ix.den.toNat f0T).mh)])),(.memo 106 59 false 6 (fun ks=>.agg [(iv fun _=>kLo d ks),(iv fun _=>kHi d ks)]))] 92]):=by
 have c16:=ubB d
 have c44:=ucH d
 have c44n:=ucH (noF d)
 have c92:=ulo d.fs
 have hmt:=ues
 have hF:=(uaH h).1
 have hC:=(uaH h).2
 have f6:=(ua3.1 hF).f6
 have c54:=ubC (noF d) [] (uqX (ua3.1 hF)) (by simp)
 have hLn:ud5 (noF d) (noF d).fs []=true:=hC
 rw [hLn]at c54
 have c44o:=uvN d
 refine ubf.is rfl rfl fun R B hR hB=>ufn (sc:=uyX) uaj mix Tryz.func41 rfl Tryz.call41 (by kernel_rfl) (by kernel_rfl) ?_
 generalize Tryz.prog=P at c16 c44 c44n c92 hmt c54 c44o⊢
 cbv
 repeat' (first|with_reducible refine And.intro ?_ ?_|(with_reducible intro hcd;(try simp only [zA,zB,zC,zD,zE,zF,zG,zH,zI,zJ,zK,zL,zM,zN,zO,zP]at hcd);try cbv)|(refine qP ?_ (c16) ?hfit;(case hfit=>((repeat' (first|exact qB|refine qD ?_ ?_|exact qE (by rfl)|exact qF (by rfl)|exact Fit.refl _|exact qA|refine qC ?_ rfl ?_));done));try cbv)|(refine qP ?_ (c92 (by((try simp only [qV]at *);(try simp only [zQ,zA,zB,zC,zD,zE,zF,zG,zH,zI,zJ,zK,zL,zM,zN,zO,zP,zR,zS]at *);omega))) ?hfit;(case hfit=>((repeat' (first|exact qB|refine qD ?_ ?_|exact qE (by rfl)|exact qF (by rfl)|exact Fit.refl _|exact qA|refine qC ?_ rfl ?_));done));try cbv)|(refine qP ?_ (c44n) ?hfit;(case hfit=>((refine qD ((qC (Fit.refl _) rfl (qC (Fit.refl _) rfl (qC (Fit.refl _) rfl (qC (Fit.refl _) rfl (qC (Fit.refl _) rfl (qC (Fit.refl _) rfl (qC (qO rfl) rfl qA)))))))) qB);done));try cbv)|(refine qP ?_ (c54) ?hfit;(case hfit=>((refine qD (Fit.refl _) (qD (qO rfl) qB));done));try cbv)
  | (refine Or.inr ⟨true,?_⟩
     cbv
     refine qU ?_ (c44o) (by cbv;(repeat' (first|exact qB|refine qD ?_ ?_|exact qE (by rfl)|exact qF (by rfl)|exact Fit.refl _|exact qA|refine qC ?_ rfl ?_))) (by cbv;(repeat' (first|exact qH|refine qI ?_ ?_|exact qK _|refine qJ ?_|exact qA|exact qE (by rfl)|exact qF (by rfl)|exact Fit.refl _|exact qG _|refine qC ?_ rfl ?_)))
     try cbv)
  |fail)
 all_goals first|trivial|(refine⟨[],(30:Nat),?_⟩;cbv;subst hR;subst hB;refine⟨qD (Fit.refl _) (qD (qE rfl) qB),?_⟩;(repeat' (first|exact qH|refine qI ?_ ?_));(all_goals first|exact qK _|(refine qJ ?_;(repeat' (first|exact qA|exact qB|refine qC ?_ rfl ?_|refine qD ?_ ?_|exact qE (by rfl)|exact qF (by rfl)|exact Fit.refl _|exact qG _|(refine qE ?_;(try simp only [qV]at *);simp only [zQ,zA,zB,zC,zD,zE,zF,zG,zH,zI,zJ,zK,zL,zM,zN,zO,zP,zR,zS]at *;omega)));done)))|skip
theorem uj4 (d:Dsp)(h:¬uam d=0):ua0 Tryz.prog 41 [(ub0 d)] [] (fun r _=>r=(.tup [.val (Value.pointer none),(iv fun _=>uam d)])):=by
 have c16:=ubB d
 have c44:=ucH d
 have c44n:=ucH (noF d)
 have c92:=ulo d.fs
 have hmt:=ues
 have c54:=fun h:ua5 d=0=>(show ua0 Tryz.prog 42 [(wpS (noF d)),(iS (([]:List Int)))] [] (fun r _=>r=(.tup [(.agg [(.arr 16 (fun ix=>(iv fun _=>(clo (ufv (noF d) (noF d).fs [])) ix.den.toNat)))]),(bv fun _=>udX d)]))from ubC (noF d) [] (uqX (ua3.1 h)) (by simp))
 have hf6:=fun h:ua5 d=0=>(ua3.1 h).f6
 refine ua0.is fun R hR=>qW (sc:=uyX) uaj mix Tryz.func41 rfl Tryz.call41 (by kernel_rfl) (by kernel_rfl) ?_
 generalize Tryz.prog=P at c16 c44 c44n c92 hmt c54⊢
 cbv
 repeat' (first|with_reducible refine And.intro ?_ ?_|(with_reducible intro hcd;(try simp only [zA,zB,zC,zD,zE,zF,zG,zH,zI,zJ,zK,zL,zM,zN,zO,zP]at hcd);try cbv)|(refine qP ?_ (c16) ?hfit;(case hfit=>((repeat' (first|exact qB|refine qD ?_ ?_|exact qE (by rfl)|exact qF (by rfl)|exact Fit.refl _|exact qA|refine qC ?_ rfl ?_));done));try cbv)|(refine qP ?_ (c44) ?hfit;(case hfit=>((repeat' (first|exact qB|refine qD ?_ ?_|exact qE (by rfl)|exact qF (by rfl)|exact Fit.refl _|exact qA|refine qC ?_ rfl ?_));done));try cbv)
  | ((have hF9:ua5 d=0:=(by((try simp only [qV]at *);(try simp only [zQ,zA,zB,zC,zD,zE,zF,zG,zH,zI,zJ,zK,zL,zM,zN,zO,zP,zR,zS]at *);omega)))
     (have f6:=hf6 hF9)
     refine qP ?_ (c92 (by((try simp only [qV]at *);(try simp only [zQ,zA,zB,zC,zD,zE,zF,zG,zH,zI,zJ,zK,zL,zM,zN,zO,zP,zR,zS]at *);omega))) ?hfit
     case hfit=>((repeat' (first|exact qB|refine qD ?_ ?_|exact qE (by rfl)|exact qF (by rfl)|exact Fit.refl _|exact qA|refine qC ?_ rfl ?_));done)
     try cbv)
  |(refine qP ?_ (c44n) ?hfit;(case hfit=>((refine qD ((qC (Fit.refl _) rfl (qC (Fit.refl _) rfl (qC (Fit.refl _) rfl (qC (Fit.refl _) rfl (qC (Fit.refl _) rfl (qC (Fit.refl _) rfl (qC (qO rfl) rfl qA)))))))) qB);done));try cbv)
  |(refine qP ?_ (c54 (by((try simp only [qV]at *);(try simp only [zQ,zA,zB,zC,zD,zE,zF,zG,zH,zI,zJ,zK,zL,zM,zN,zO,zP,zR,zS]at *);omega))) ?hfit;(case hfit=>((refine qD (Fit.refl _) (qD (qO rfl) qB));done));try cbv)
  |fail)
 all_goals first|(subst hR;(refine qD (Fit.refl _) (qD (qE ?_) qB);(try simp only [qV]at *);(try simp only [zQ,zA,zB,zC,zD,zE,zF,zG,zH,zI,zJ,zK,zL,zM,zN,zO,zP,zR,zS]at *);first|exact(ujk (by first|assumption|omega)).symm|exact(umB (by first|assumption|omega) (by assumption)).symm);done)|(exfalso;exact h (ugw (by((try simp only [qV]at *);(try simp only [zQ,zA,zB,zC,zD,zE,zF,zG,zH,zI,zJ,zK,zL,zM,zN,zO,zP,zR,zS]at *);first|assumption|omega)) (by assumption)))|skip
end Go.Proofs.YtkdggbfknlcdaaaGreat
namespace Go.Proofs.YtkdggbfknlcdaaaGreat
open Go.Eng.Dif
theorem ugF {d:Dsp}:ud5 d d.fs []=ueB (SN d) (LO d) (FO d d.fs):=by
 unfold ud5 ufv ueB
 rw [uiT]
theorem uwh (d:Dsp)(n:Nat):FO d (d.fs.take n)=(FO d d.fs).take n:=List.map_take ..
theorem usR (d:Dsp)(n:Nat):ud5 (ucn d (d.fs.take n)) (ucn d (d.fs.take n)).fs []=ueB (SN d) (LO d) ((FO d d.fs).take n):=by
 rw [ugF,←uwh]
 rfl
theorem uuF {d:Dsp}(h:DOk d)(n:Nat):DOk (ucn d (d.fs.take n)):=
 uni h (by have:=h.f6;rw [List.length_take];omega) fun f hf=>FOk.mem h.f (List.mem_of_mem_take hf)
def uuB (d:Dsp):Option Nat:=uvH (SN d) (LO d) (FO d d.fs) d.fs.length 0
def urv (d:Dsp):Int:=if uam d=0 then(match uuB d with|some _=>0|none=>7)else uam d
def urt (d:Dsp):Int:=if uam d=0 then(match uuB d with|some r=>(r:Int)|none=>0)else 0
theorem utc {d:Dsp}(h:¬uam d=0):urv d=uam d∧urt d=0:=by unfold urv urt;rw [if_neg h,if_neg h];exact⟨rfl,rfl⟩
theorem upq {d:Dsp}(h:uam d=0)(h':uuB d=none):urv d=7∧urt d=0:=by unfold urv urt;rw [if_pos h,if_pos h,h'];exact⟨rfl,rfl⟩
theorem uk1 {d:Dsp} {r:Nat}(h:uam d=0)(h':uuB d=some r):urv d=0∧urt d=(r:Int):=by unfold urv urt;rw [if_pos h,if_pos h,h'];exact⟨rfl,rfl⟩
def uwn (d:Dsp)(k i:Nat):Option Nat:=uvH (SN d) (LO d) (FO d d.fs) k i
def okI (d:Dsp)(i:Nat):Bool:=ueB (SN d) (LO d) ((FO d d.fs).take (i+1))
theorem upb {d:Dsp} {k i:Nat}(hk:0<k)(h:okI d i=false):uwn d k i=some i:=by
 cases k with
 |zero=>omega
 |succ k=>unfold uwn uvH;rw [show ueB (SN d) (LO d) ((FO d d.fs).take (i+1))=false from h];rfl
theorem uvp {d:Dsp} {k i:Nat}(hk:0<k)(h:okI d i=true):uwn d k i=uwn d (k-1) (i+1):=by
 cases k with
 |zero=>omega
 |succ k=>unfold uwn;rw [uvH,show ueB (SN d) (LO d) ((FO d d.fs).take (i+1))=true from h];rfl
end Go.Proofs.YtkdggbfknlcdaaaGreat
namespace Go.Proofs.YtkdggbfknlcdaaaGreat
open Go Go.Eng Go.Proofs Go.Eng.Dif Go.Eng.Few
set_option maxRecDepth 10000
theorem usb (fs:List FaT) {n i:Nat}(h:i<n):(fs.take n).getD i f0T=fs.getD i f0T:=by simp [List.getD_eq_getElem?_getD,List.getElem?_take,h]
theorem umy (fs:List FaT) {i:Nat}(h:i<fs.length):(fs.take (i+1)).length=i+1:=by rw [List.length_take];omega
theorem uko (fs:List FaT) {n i j:Nat}(hj:j=i)(h:i<n):Fit (.agg [(iv fun _=>(fs.getD j f0T).p),(iv fun _=>(fs.getD j f0T).s),(iv fun _=>(fs.getD j f0T).wl),(iv fun _=>(fs.getD j f0T).wh),(iv fun _=>(fs.getD j f0T).ml),(iv fun _=>(fs.getD j f0T).mh)]) (.agg [(iv fun _=>((fs.take n).getD i f0T).p),(iv fun _=>((fs.take n).getD i f0T).s),(iv fun _=>((fs.take n).getD i f0T).wl),(iv fun _=>((fs.take n).getD i f0T).wh),(iv fun _=>((fs.take n).getD i f0T).ml),(iv fun _=>((fs.take n).getD i f0T).mh)]):=by subst hj;rw [usb fs h];exact Fit.refl _
theorem utd (d:Dsp)(h:uam d=0):ua0 Tryz.prog 11 [(ub0 d)] [] (fun r _=>r=(.tup [(iv fun _=>urt d),(iv fun _=>urv d)])):=by
 have hf:=h
 have hF:=(uaH h).1
 have f6:=(ua3.1 hF).f6
 have c54:=fun i:Nat=>(show ua0 Tryz.prog 42 [(.pp 0 [(.sl 1 (.sym fun _=>zi ((ucn d (d.fs.take (i+1))).tw).length) (fun ix=>[(iv fun _=>((ucn d (d.fs.take (i+1))).tw).getD ix.den.toNat 0)])),(.sl 1 (.sym fun _=>zi ((ucn d (d.fs.take (i+1))).tm).length) (fun ix=>[(iv fun _=>((ucn d (d.fs.take (i+1))).tm).getD ix.den.toNat 0)])),(.sl 1 (.sym fun _=>zi ((ucn d (d.fs.take (i+1))).tv).length) (fun ix=>[(.sl 1 (.sym fun _=>zi (((ucn d (d.fs.take (i+1))).tv).getD ix.den.toNat []).length) (fun jx=>[(iv fun _=>(((ucn d (d.fs.take (i+1))).tv).getD ix.den.toNat []).getD jx.den.toNat 0)]))])),(iv fun _=>(ucn d (d.fs.take (i+1))).sn),(iv fun _=>(ucn d (d.fs.take (i+1))).pn),(.sl 4 (.sym fun _=>zi ((ucn d (d.fs.take (i+1))).ls).length) (fun ix=>[(iv fun _=>(((ucn d (d.fs.take (i+1))).ls).getD ix.den.toNat l0T).a),(iv fun _=>(((ucn d (d.fs.take (i+1))).ls).getD ix.den.toNat l0T).b),(iv fun _=>(((ucn d (d.fs.take (i+1))).ls).getD ix.den.toNat l0T).lo),(iv fun _=>(((ucn d (d.fs.take (i+1))).ls).getD ix.den.toNat l0T).hi)])),(.sl 6 (.sym fun _=>zi ((d.fs.take (i+1))).length) (fun ix=>[(iv fun _=>(((d.fs.take (i+1))).getD ix.den.toNat f0T).p),(iv fun _=>(((d.fs.take (i+1))).getD ix.den.toNat f0T).s),(iv fun _=>(((d.fs.take (i+1))).getD ix.den.toNat f0T).wl),(iv fun _=>(((d.fs.take (i+1))).getD ix.den.toNat f0T).wh),(iv fun _=>(((d.fs.take (i+1))).getD ix.den.toNat f0T).ml),(iv fun _=>(((d.fs.take (i+1))).getD ix.den.toNat f0T).mh)])),(.memo 106 59 false 6 (fun ks=>.agg [(iv fun _=>kLo (ucn d (d.fs.take (i+1))) ks),(iv fun _=>kHi (ucn d (d.fs.take (i+1))) ks)]))]),(iS (([]:List Int)))] [] (fun r _=>r=(.tup [(.agg [(.arr 16 (fun ix=>(iv fun _=>(clo (ufv (ucn d (d.fs.take (i+1))) (ucn d (d.fs.take (i+1))).fs [])) ix.den.toNat)))]),(bv fun _=>okI d i)]))from(show ud5 (ucn d (d.fs.take (i+1))) (ucn d (d.fs.take (i+1))).fs []=okI d i from usR d (i+1))▸ubC (ucn d (d.fs.take (i+1))) [] (uuF (ua3.1 hF) (i+1)) (by simp))
 have c59:=uvw d h
 refine ua0.is fun R hR=>qW (sc:=uAu) uaj mix Tryz.func11 rfl Tryz.call11 (by kernel_rfl) (by kernel_rfl) ?_
 generalize Tryz.prog=P at c54 c59⊢
 cbv
 repeat' (first|with_reducible refine And.intro ?_ ?_|(with_reducible intro hcd;(try simp only [zA,zB,zC,zD,zE,zF,zG,zH,zI,zJ,zK,zL,zM,zN,zO,zP]at hcd);try cbv)
  | (refine Or.inr ⟨true,?_⟩
     cbv
     refine qU ?_ (c59) (by cbv;(repeat' (first|exact qB|refine qD ?_ ?_|exact qE (by rfl)|exact qF (by rfl)|exact Fit.refl _|exact qA|refine qC ?_ rfl ?_))) (by cbv;(repeat' (first|exact qH|refine qI ?_ ?_|exact qK _|refine qJ ?_|exact qA|exact qE (by rfl)|exact qF (by rfl)|exact Fit.refl _|exact qG _|refine qC ?_ rfl ?_)))
     try cbv)
  |fail)
 all_goals first|trivial|skip
 refine⟨none,[],{i:Nat // i≤d.fs.length∧uuB d=uwn d (d.fs.length-i) i},fun x=>⟨[(1,.own 0 0),(4,.own 4 0),(19,(iv fun _=>zi d.fs.length)),(20,(iv fun _=>zi x.1))],[(0,.cells [(iS d.tw),(iS d.tm),(.sl 1 (.sym fun _=>zi (d.tv).length) (fun ix=>[(.sl 1 (.sym fun _=>zi ((d.tv).getD ix.den.toNat []).length) (fun jx=>[(iv fun _=>((d.tv).getD ix.den.toNat []).getD jx.den.toNat 0)]))])),(iv fun _=>d.sn),(iv fun _=>d.pn),(.sl 4 (.sym fun _=>zi (d.ls).length) (fun ix=>[(iv fun _=>((d.ls).getD ix.den.toNat l0T).a),(iv fun _=>((d.ls).getD ix.den.toNat l0T).b),(iv fun _=>((d.ls).getD ix.den.toNat l0T).lo),(iv fun _=>((d.ls).getD ix.den.toNat l0T).hi)])),(.sl 6 (.sym fun _=>zi (d.fs).length) (fun ix=>[(iv fun _=>((d.fs).getD ix.den.toNat f0T).p),(iv fun _=>((d.fs).getD ix.den.toNat f0T).s),(iv fun _=>((d.fs).getD ix.den.toNat f0T).wl),(iv fun _=>((d.fs).getD ix.den.toNat f0T).wh),(iv fun _=>((d.fs).getD ix.den.toNat f0T).ml),(iv fun _=>((d.fs).getD ix.den.toNat f0T).mh)]))] 39),(4,.cells [(iS d.tw),(iS d.tm),(.sl 1 (.sym fun _=>zi (d.tv).length) (fun ix=>[(.sl 1 (.sym fun _=>zi ((d.tv).getD ix.den.toNat []).length) (fun jx=>[(iv fun _=>((d.tv).getD ix.den.toNat []).getD jx.den.toNat 0)]))])),(iv fun _=>d.sn),(iv fun _=>d.pn),(.sl 4 (.sym fun _=>zi (d.ls).length) (fun ix=>[(iv fun _=>((d.ls).getD ix.den.toNat l0T).a),(iv fun _=>((d.ls).getD ix.den.toNat l0T).b),(iv fun _=>((d.ls).getD ix.den.toNat l0T).lo),(iv fun _=>((d.ls).getD ix.den.toNat l0T).hi)])),.any,(.memo 106 59 false 6 (fun ks=>.agg [(iv fun _=>kLo d ks),(iv fun _=>kHi d ks)]))] 92)],100⟩,fun x=>d.fs.length-x.1,?_,?_⟩
 ·refine⟨⟨0,by omega,rfl⟩,?_⟩
  cbv
  repeat' (first|with_reducible refine ua4 ?_ ?_|with_reducible refine And.intro ?_ ?_)
  all_goals first|trivial|exact qM (qE (by rfl))|exact qM (Fit.refl _)|exact qL (qK _)|(refine qL (qJ ?_);(repeat' (first|exact qA|exact qB|refine qC ?_ rfl ?_|refine qD ?_ ?_|exact qE (by rfl)|exact qF (by rfl)|exact Fit.refl _|exact qG _|(refine qE ?_;(try simp only [qV]at *);simp only [zQ,zA,zB,zC,zD,zE,zF,zG,zH,zI,zJ,zK,zL,zM,zN,zO,zP,zR,zS]at *;omega)));done)|skip
 ·rintro ⟨i,hi,h3⟩
  cbv
  repeat' (first|with_reducible refine ua4 ?_ ?_|with_reducible refine And.intro ?_ ?_|(with_reducible intro hcd;(try simp only [zA,zB,zC,zD,zE,zF,zG,zH,zI,zJ,zK,zL,zM,zN,zO,zP]at hcd);try cbv)
   | ((first|(refine url ?_ (c54 i) ⟨⟨fun _=>rfl,trivial⟩,rfl,trivial⟩ ?hfit;case hfit=>(cbv;(refine qD (uu9 (qC (Fit.refl _) rfl (qC (Fit.refl _) rfl (qC (Fit.refl _) rfl (qC (Fit.refl _) rfl (qC (Fit.refl _) rfl (qC (Fit.refl _) rfl (qC ?_ rfl (qC (Fit.refl _) rfl qA))))))))) (qD (qO rfl) qB);refine ua1 ?_ (fun ix h0 h1=>uko _ ?_ ?_)<;>((try simp only [qV]at *);(try simp only [zQ,zA,zB,zC,zD,zE,zF,zG,zH,zI,zJ,zK,zL,zM,zN,zO,zP,zR,zS]at *);first|omega|(rw [umy _ (by omega)];(try simp only [uac]);omega)));done))|(refine⟨none,?_⟩;refine url ?_ (c54 i) ⟨⟨fun _=>rfl,trivial⟩,rfl,trivial⟩ ?hfit;case hfit=>(cbv;(refine qD (uu9 (qC (Fit.refl _) rfl (qC (Fit.refl _) rfl (qC (Fit.refl _) rfl (qC (Fit.refl _) rfl (qC (Fit.refl _) rfl (qC (Fit.refl _) rfl (qC ?_ rfl (qC (Fit.refl _) rfl qA))))))))) (qD (qO rfl) qB);refine ua1 ?_ (fun ix h0 h1=>uko _ ?_ ?_)<;>((try simp only [qV]at *);(try simp only [zQ,zA,zB,zC,zD,zE,zF,zG,zH,zI,zJ,zK,zL,zM,zN,zO,zP,zR,zS]at *);first|omega|(rw [umy _ (by omega)];(try simp only [uac]);omega)));done)))
      try cbv)
   |fail)
  all_goals first|((try simp only [qV]at *);(try simp only [zQ,zA,zB,zC,zD,zE,zF,zG,zH,zI,zJ,zK,zL,zM,zN,zO,zP,zR,zS]at *);first|(refine qN ?_;omega)|(simp only [uai];omega))|(subst hR;(have h9:=uk1 hf (h3.trans (upb (by((try simp only [qV]at *);(try simp only [zQ,zA,zB,zC,zD,zE,zF,zG,zH,zI,zJ,zK,zL,zM,zN,zO,zP,zR,zS]at *);omega)) hcd)));exact qD (qE h9.2.symm) (qD (qE h9.1.symm) qB))|(subst hR;(have hz:d.fs.length-i=0:=by((try simp only [qV]at *);(try simp only [zQ,zA,zB,zC,zD,zE,zF,zG,zH,zI,zJ,zK,zL,zM,zN,zO,zP,zR,zS]at *);omega));rw [hz]at h3;(have h9:=upq hf h3);exact qD (qE h9.2.symm) (qD (qE h9.1.symm) qB))|((try simp only [zQ,zA,zB,zC,zD,zE,zF,zG,zH,zI,zJ,zK,zL,zM,zN,zO,zP,zR,zS]at *);refine⟨⟨i+1,by((try simp only [qV]at *);(try simp only [zQ,zA,zB,zC,zD,zE,zF,zG,zH,zI,zJ,zK,zL,zM,zN,zO,zP,zR,zS]at *);omega),by rw [show d.fs.length-(i+1)=d.fs.length-i-1 by omega,←uvp (by((try simp only [qV]at *);(try simp only [zQ,zA,zB,zC,zD,zE,zF,zG,zH,zI,zJ,zK,zL,zM,zN,zO,zP,zR,zS]at *);omega)) hcd];exact h3⟩,by simp only [];omega,?_⟩;cbv;(repeat' (first|with_reducible refine ua4 ?_ ?_|with_reducible refine And.intro ?_ ?_));(all_goals first|trivial|exact qM (qE (by rfl))|exact qM (qF (by rfl))|exact qM (Fit.refl _)|exact qL (qK _)|(refine qM (qE ?_);(try simp only [qV]at *);simp only [zQ,zA,zB,zC,zD,zE,zF,zG,zH,zI,zJ,zK,zL,zM,zN,zO,zP,zR,zS]at *;omega)|(refine qL (qJ ?_);(repeat' (first|exact qA|exact qB|refine qC ?_ rfl ?_|refine qD ?_ ?_|exact qE (by rfl)|exact qF (by rfl)|exact Fit.refl _|exact qG _|(refine qE ?_;(try simp only [qV]at *);simp only [zQ,zA,zB,zC,zD,zE,zF,zG,zH,zI,zJ,zK,zL,zM,zN,zO,zP,zR,zS]at *;omega)));done)|skip))|skip
theorem usi (d:Dsp)(h:¬uam d=0):ua0 Tryz.prog 11 [(ub0 d)] [] (fun r _=>r=(.tup [(iv fun _=>urt d),(iv fun _=>urv d)])):=by
 have c59:=uj4 d h
 refine ua0.is fun R hR=>qW (sc:=uAu) uaj mix Tryz.func11 rfl Tryz.call11 (by kernel_rfl) (by kernel_rfl) ?_
 generalize Tryz.prog=P at c59⊢
 cbv
 repeat' (first|with_reducible refine And.intro ?_ ?_|(with_reducible intro hcd;(try simp only [zA,zB,zC,zD,zE,zF,zG,zH,zI,zJ,zK,zL,zM,zN,zO,zP]at hcd);try cbv)|(refine qP ?_ (c59) ?hfit;(case hfit=>((repeat' (first|exact qB|refine qD ?_ ?_|exact qE (by rfl)|exact qF (by rfl)|exact Fit.refl _|exact qA|refine qC ?_ rfl ?_));done));try cbv)|fail)
 all_goals first|trivial|(subst hR;((have h9:=utc h);exact qD (qE h9.2.symm) (qD (qE h9.1.symm) qB));done)|skip
theorem uve (d:Dsp):ua0 Tryz.prog 11 [(ub0 d)] [] (fun r _=>r=(.tup [(iv fun _=>urt d),(iv fun _=>urv d)])):=by
 by_cases h:uam d=0
 ·exact utd d h
 ·exact usi d h
theorem upp (d:Dsp):ua0 Tryz.prog 84 [(wpS d)] [] (fun r _=>r=(iv fun _=>zi d.fs.length)):=by
 refine ua0.is fun R hR=>qW (sc:=uBc) uaj mix Tryz.func84 rfl Tryz.call84 (by kernel_rfl) (by kernel_rfl) ?_
 generalize Tryz.prog=P
 cbv
 repeat' (first|fail)
 all_goals first|(subst hR;(repeat' (first|exact qA|exact qB|refine qC ?_ rfl ?_|refine qD ?_ ?_|exact qE (by rfl)|exact qF (by rfl)|exact Fit.refl _|exact qG _|(refine qE ?_;(try simp only [qV]at *);simp only [zQ,zA,zB,zC,zD,zE,zF,zG,zH,zI,zJ,zK,zL,zM,zN,zO,zP,zR,zS]at *;omega)));done)|skip
theorem upA (d:Dsp)(o:List Int):ua0 Tryz.prog 85 [(wpS d),(iS o)] [] (fun r _=>r=(iS o)):=by
 refine ua0.is fun R hR=>qW (sc:=uBp) uaj mix Tryz.func85 rfl Tryz.call85 (by kernel_rfl) (by kernel_rfl) ?_
 generalize Tryz.prog=P
 cbv
 repeat' (first|fail)
 all_goals first|(subst hR;(repeat' (first|exact qA|exact qB|refine qC ?_ rfl ?_|refine qD ?_ ?_|exact qE (by rfl)|exact qF (by rfl)|exact Fit.refl _|exact qG _|(refine qE ?_;(try simp only [qV]at *);simp only [zQ,zA,zB,zC,zD,zE,zF,zG,zH,zI,zJ,zK,zL,zM,zN,zO,zP,zR,zS]at *;omega)));done)|skip
theorem uk9 (d:Dsp):ua0 Tryz.prog 86 [(wpS d)] [] (fun r _=>r=(iv fun _=>d.pn)):=by
 refine ua0.is fun R hR=>qW (sc:=uBY) uaj mix Tryz.func86 rfl Tryz.call86 (by kernel_rfl) (by kernel_rfl) ?_
 generalize Tryz.prog=P
 cbv
 repeat' (first|fail)
 all_goals first|(subst hR;(repeat' (first|exact qA|exact qB|refine qC ?_ rfl ?_|refine qD ?_ ?_|exact qE (by rfl)|exact qF (by rfl)|exact Fit.refl _|exact qG _|(refine qE ?_;(try simp only [qV]at *);simp only [zQ,zA,zB,zC,zD,zE,zF,zG,zH,zI,zJ,zK,zL,zM,zN,zO,zP,zR,zS]at *;omega)));done)|skip
theorem utf :ua0 Tryz.prog 44 [] [] (fun r _=>r=(.agg [.clo 84 [] [],.clo 85 [] []])):=by
 refine ua0.is fun R hR=>qW (sc:=uC4) uaj mix Tryz.func44 rfl Tryz.call44 (by kernel_rfl) (by kernel_rfl) ?_
 generalize Tryz.prog=P
 cbv
 repeat' (first|fail)
 all_goals first|(subst hR;(repeat' (first|exact qA|exact qB|refine qC ?_ rfl ?_|refine qD ?_ ?_|exact qE (by rfl)|exact qF (by rfl)|exact Fit.refl _|exact qG _|(refine qE ?_;(try simp only [qV]at *);simp only [zQ,zA,zB,zC,zD,zE,zF,zG,zH,zI,zJ,zK,zL,zM,zN,zO,zP,zR,zS]at *;omega)));done)|skip
theorem ugM :ua0 Tryz.prog 50 [] [] (fun r _=>r=(.agg [.clo 86 [] [],.clo 87 [] []])):=by
 refine ua0.is fun R hR=>qW (sc:=uB4) uaj mix Tryz.func50 rfl Tryz.call50 (by kernel_rfl) (by kernel_rfl) ?_
 generalize Tryz.prog=P
 cbv
 repeat' (first|fail)
 all_goals first|(subst hR;(repeat' (first|exact qA|exact qB|refine qC ?_ rfl ?_|refine qD ?_ ?_|exact qE (by rfl)|exact qF (by rfl)|exact Fit.refl _|exact qG _|(refine qE ?_;(try simp only [qV]at *);simp only [zQ,zA,zB,zC,zD,zE,zF,zG,zH,zI,zJ,zK,zL,zM,zN,zO,zP,zR,zS]at *;omega)));done)|skip
def thN (d:Dsp)(o:List Int)(n:Nat):List Int:=uc0 (fun i=>inL o (d.fs.getD i f0T).p) n
theorem uwR {d:Dsp} {o:List Int} {i:Nat}(h:inL o (d.fs.getD i f0T).p=true):thN d o (i+1)=thN d o i++[(i:Int)]:=by
 unfold thN
 simp only [uc0,h,if_true]
theorem uxM {d:Dsp} {o:List Int} {i:Nat}(h:inL o (d.fs.getD i f0T).p=false):thN d o (i+1)=thN d o i:=by
 unfold thN
 simp only [uc0,h,Bool.false_eq_true,if_false]
theorem um7 (d:Dsp)(o:List Int):∀n,(thN d o n).length≤n:=by
 intro n
 induction n with
 |zero=>exact Nat.le_refl _
 | succ n ih=>
  cases h:inL o (d.fs.getD n f0T).p with
  |true=>rw [uwR h,List.length_append];simp only [List.length_cons,List.length_nil];omega
  |false=>rw [uxM h];omega
theorem umh (d:Dsp)(o:List Int)(hf:d.fs.length≤1000)(ho:o.length≤1000):ua0 Tryz.prog 87 [(wpS d),(iS o)] [] (fun r _=>r=(iS ((thN d o d.fs.length)))):=by
 have c63:=fun (i:Nat)=>ufV o (d.fs.getD i f0T).p ho
 refine ua0.is fun R hR=>qW (sc:=uBS) uaj mix Tryz.func87 rfl Tryz.call87 (by kernel_rfl) (by kernel_rfl) ?_
 generalize Tryz.prog=P at c63⊢
 cbv
 repeat' (first|fail)
 all_goals first|skip
 refine⟨none,[⟨.tmp 4,3,1⟩],{i:Nat // i≤d.fs.length},fun x=>⟨[(1,(iS o)),(4,.row 8),(11,(.sl 6 (.sym fun _=>zi (d.fs).length) (fun ix=>[(iv fun _=>((d.fs).getD ix.den.toNat f0T).p),(iv fun _=>((d.fs).getD ix.den.toNat f0T).s),(iv fun _=>((d.fs).getD ix.den.toNat f0T).wl),(iv fun _=>((d.fs).getD ix.den.toNat f0T).wh),(iv fun _=>((d.fs).getD ix.den.toNat f0T).ml),(iv fun _=>((d.fs).getD ix.den.toNat f0T).mh)]))),(12,(iv fun _=>zi d.fs.length)),(13,(iv fun _=>zi x.1))],[(8,.row 3 1 (.sym fun _=>zi ((thN d o (x.1))).length) (fun ix=>[(iv fun _=>((thN d o (x.1))).getD ix.den.toNat 0)]))],90⟩,fun x=>d.fs.length-x.1,?_,?_⟩
 ·refine⟨⟨0,by omega⟩,?_⟩
  cbv
  repeat' (first|with_reducible refine ua4 ?_ ?_|with_reducible refine And.intro ?_ ?_)
  all_goals first|trivial|exact qM (qE (by rfl))|exact qM (Fit.refl _)|(refine qL (uae ?_ ?_);(first|rfl|((try simp only [qV]at *);(try simp only [zQ,zA,zB,zC,zD,zE,zF,zG,zH,zI,zJ,zK,zL,zM,zN,zO,zP,zR,zS]at *);omega));intro ix h0 h1;exfalso;(try simp only [qV]at *);(try simp only [zQ,zA,zB,zC,zD,zE,zF,zG,zH,zI,zJ,zK,zL,zM,zN,zO,zP,zR,zS]at *);omega)|skip
 ·rintro ⟨i,hi⟩
  cbv
  have hlen:=um7 d o i
  have hY:inL o (d.fs.getD i f0T).p=true→thN d o (i+1)=thN d o i++[zi i]:=uwR
  have hZ:inL o (d.fs.getD i f0T).p=false→thN d o (i+1)=thN d o i:=uxM
  obtain⟨M,hM⟩:∃M,M=thN d o i:=⟨_,rfl⟩
  rw [←hM]at hlen hY hZ⊢
  cbv
  repeat' (first|with_reducible refine ua4 ?_ ?_|with_reducible refine And.intro ?_ ?_|(with_reducible intro hcd;(try simp only [zA,zB,zC,zD,zE,zF,zG,zH,zI,zJ,zK,zL,zM,zN,zO,zP]at hcd);try cbv)|(refine qP ?_ (c63 i) ?hfit;(case hfit=>((repeat' (first|exact qB|refine qD ?_ ?_|exact qE (by rfl)|exact qF (by rfl)|exact Fit.refl _|exact qA|refine qC ?_ rfl ?_));done));try cbv)
   | (obtain⟨L2,eL2⟩:∃y:List Int,y=M++[zi i]:=⟨_,rfl⟩
      refine⟨ueD L2,?_⟩
      cbv
      refine ua4 (uaq (L:=M) eL2 (by(first|rfl|((try simp only [qV]at *);(try simp only [zQ,zA,zB,zC,zD,zE,zF,zG,zH,zI,zJ,zK,zL,zM,zN,zO,zP,zR,zS]at *);done)|((try simp only [qV]at *);(try simp only [zQ,zA,zB,zC,zD,zE,zF,zG,zH,zI,zJ,zK,zL,zM,zN,zO,zP,zR,zS]at *);omega))) (by rfl) (fun ix=>Fit.refl _) (fun ix h=>qC (qE (by rfl)) rfl qA) (by(try simp only [qV]at *);(try simp only [zQ,zA,zB,zC,zD,zE,zF,zG,zH,zI,zJ,zK,zL,zM,zN,zO,zP,zR,zS]at *);omega)) (Or.inl ?_)
      try cbv)
   |fail)
  all_goals first|((try simp only [qV]at *);(try simp only [zQ,zA,zB,zC,zD,zE,zF,zG,zH,zI,zJ,zK,zL,zM,zN,zO,zP,zR,zS]at *);first|(refine qN ?_;omega)|(simp only [uai];omega))|((have hie:i=d.fs.length:=(by((try simp only [qV]at *);(try simp only [zQ,zA,zB,zC,zD,zE,zF,zG,zH,zI,zJ,zK,zL,zM,zN,zO,zP,zR,zS]at *);omega)));subst hR;rw [←hie,←hM];exact Fit.refl _)|((try simp only [zQ,zA,zB,zC,zD,zE,zF,zG,zH,zI,zJ,zK,zL,zM,zN,zO,zP,zR,zS]at *);(have hx:thN d o (i+1)=L2:=(hY hcd).trans eL2.symm);refine⟨⟨i+1,by omega⟩,by simp only [];omega,?_⟩;cbv;(repeat' (first|with_reducible refine ua4 ?_ ?_|with_reducible refine And.intro ?_ ?_));(all_goals first|trivial|exact qM (qE (by rfl))|exact qM (qF (by rfl))|exact qM (Fit.refl _)|exact qL (qK _)|(refine qM (qE ?_);(try simp only [qV]at *);simp only [zQ,zA,zB,zC,zD,zE,zF,zG,zH,zI,zJ,zK,zL,zM,zN,zO,zP,zR,zS]at *;omega)|(simp only [hx];first|exact qL (qK _)|(refine qL (uae ?_ ?_)<;>first|rfl|(rw [eL2,List.length_append];rfl)|((try simp only [qV]at *);(try simp only [zQ,zA,zB,zC,zD,zE,zF,zG,zH,zI,zJ,zK,zL,zM,zN,zO,zP,zR,zS]at *);(try simp only [eL2,List.length_append,List.length_cons,List.length_nil]at *);omega)|(intro ix h0 h1;exact Fit.refl _)))|skip))|((try simp only [zQ,zA,zB,zC,zD,zE,zF,zG,zH,zI,zJ,zK,zL,zM,zN,zO,zP,zR,zS]at *);(have hx:thN d o (i+1)=M:=hZ hcd);refine⟨⟨i+1,by omega⟩,by simp only [];omega,?_⟩;cbv;(repeat' (first|with_reducible refine ua4 ?_ ?_|with_reducible refine And.intro ?_ ?_));(all_goals first|trivial|exact qM (qE (by rfl))|exact qM (qF (by rfl))|exact qM (Fit.refl _)|exact qL (qK _)|(refine qM (qE ?_);(try simp only [qV]at *);simp only [zQ,zA,zB,zC,zD,zE,zF,zG,zH,zI,zJ,zK,zL,zM,zN,zO,zP,zR,zS]at *;omega)|(simp only [hx];first|exact qL (qK _)|(refine qL (uae ?_ ?_)<;>first|rfl|(rw [eL2,List.length_append];rfl)|((try simp only [qV]at *);(try simp only [zQ,zA,zB,zC,zD,zE,zF,zG,zH,zI,zJ,zK,zL,zM,zN,zO,zP,zR,zS]at *);(try simp only [eL2,List.length_append,List.length_cons,List.length_nil]at *);omega)|(intro ix h0 h1;exact Fit.refl _)))|skip))|skip
end Go.Proofs.YtkdggbfknlcdaaaGreat
namespace Go.Proofs.YtkdggbfknlcdaaaGreat
open Go Go.Eng Go.Eng.Dif Go.Eng.Few
def uwf (F:List (List Int)):IX→List SV:=fun ix=>[.sl 1 (.sym fun _=>zi (F.getD ix.den.toNat []).length) (fun jx=>[(iv fun _=>(F.getD ix.den.toNat []).getD jx.den.toNat 0)])]
def uAs (o:List Int):SV:=.sl 1 (.sym fun _=>zi o.length) (fun jx=>[(iv fun _=>o.getD jx.den.toNat 0)])
theorem uld {F:List (List Int)} {ix:IX} {o:List Int}(h:F.getD ix.den.toNat []=o):uwf F ix=[uAs o]:=by
 subst h
 rfl
theorem ucB {n m b:Int} {F F2:List (List Int)} {o:List Int} {e new:IX→List SV}(h2:F2=F++[o])(hn:n=(F.length:Int))(hm:m=1)(he:∀ix,Fit (.agg (e ix)) (.agg (uwf F ix)))(hx:∀ix:IX,Fit (.agg (new ix)) (.agg [uAs o]))(hb:(n+1)*b≤140737488355328):
 uai (udS n e m new (uwf F2)∧0≤n∧0≤m∧(n+m)*b≤140737488355328):=by
 subst hm
 subst h2
 refine ub9 (fun ix jx h0 h1 h2=>(he ix).trans ?_) (fun ix jx h0 h1 h2=>(hx ix).trans ?_) ⟨by omega,by omega,hb⟩
 ·rw [uld (F:=F) rfl,uld (F:=F++[o]) (o:=F.getD ix.den.toNat []) (by
   rw [h2]
   simp only [List.getD_eq_getElem?_getD]
   rw [List.getElem?_append_left (by omega)])]
  exact Fit.refl _
 ·rw [uld (F:=F++[o]) (o:=o) (by
   rw [show jx.den.toNat=F.length by omega]
   simp [List.getD_eq_getElem?_getD])]
  exact Fit.refl _
def ueO (n:Nat)(ok:List Int→Bool)(m:Nat)(o:List Int)(i:Nat):Nat→List (List Int)
 |0=>[]
 |k+1=>ueO n ok m o i k++ubQ n ok m (o++[((i+k:Nat):Int)]) (i+k+1)
theorem uil {n:Nat} {ok:List Int→Bool} {m:Nat} {o:List Int} {i:Nat}:ubQ n ok (m+1) o i=ueO n ok m o i (n-m-i):=by
 have h:∀k,((List.range k).flatMap fun j=>ubQ n ok m (o++[((i+j:Nat):Int)]) (i+j+1))=ueO n ok m o i k:=by
  intro k
  induction k with
  |zero=>rfl
  |succ k ih=>rw [List.range_succ,List.flatMap_append,ih];simp [ueO]
 simp only [ubQ]
 exact h _
theorem utC {n:Nat} {ok:List Int→Bool} {m:Nat} {o:List Int} {i:Nat}:∀{k k':Nat},k≤k'→(ueO n ok m o i k).length≤(ueO n ok m o i k').length:=by
 intro k k'
 induction k' with
 |zero=>intro h;rw [show k=0 by omega];exact Nat.le_refl _
 | succ k' ih=>
  intro h
  rcases Nat.lt_or_ge k' k with q|q
  ·rw [show k=k'+1 by omega];exact Nat.le_refl _
  ·have:=ih q
   simp only [ueO,List.length_append];omega
theorem umM {n:Nat} {ok:List Int→Bool}:∀{m:Nat} {o:List Int} {i:Nat},(ubQ n ok m o i).length≤n^m:=by
 intro m
 induction m with
 | zero=>
  intro o i
  simp only [ubQ]
  split<;>simp
 | succ m ih=>
  intro o i
  rw [uil]
  have h:∀k,(ueO n ok m o i k).length≤k*n^m:=by
   intro k
   induction k with
   |zero=>simp [ueO]
   | succ k ik=>
    have:=ih (o:=o++[((i+k:Nat):Int)]) (i:=i+k+1)
    simp only [ueO,List.length_append,Nat.add_mul,Nat.one_mul];omega
  refine Nat.le_trans (h _) ?_
  rw [Nat.pow_succ,Nat.mul_comm]
  exact Nat.mul_le_mul_left _ (by omega)
theorem une {F G:List (List Int)} {n:Nat} {ok:List Int→Bool} {m:Nat} {o L:List Int} {i k:Nat}(hL:L=o++[((i+k:Nat):Int)])(hG:G=F++ueO n ok m o i k):F++ueO n ok m o i (k+1)=G++ubQ n ok m L (i+k+1):=by
 subst hL
 subst hG
 rw [ueO,List.append_assoc]
def udB (d:Dsp)(o:List Int):Bool:=ud5 d d.fs o
def uc7 (d:Dsp)(o:List Int):Bool:=ud5 d d.fs (thN d o d.fs.length)
end Go.Proofs.YtkdggbfknlcdaaaGreat
namespace Go.Proofs.YtkdggbfknlcdaaaGreat
open Go Go.Eng Go.Proofs Go.Eng.Dif Go.Eng.Few
set_option maxRecDepth 10000
theorem uwC (d:Dsp)(F:List (List Int))(o:List Int)(i:Int)(hd:DOk d)(ho:o.length≤100)(hF:F.length≤1000000)(hok:(udB d) o=true):ua0 Tryz.prog 88 [(iS o),(iv fun _=>i),(iv fun _=>0),.own 0 0,.own 1 0,.own 2 0,.own 3 0] [.cells [(wpS d)] 87,.cells [.clo 84 [] [],.clo 85 [] []] 110,.cells [.row 4] 23,.cells [.clo 88 [] [.own 0 0,.own 1 0,.own 2 0,.own 3 0]] 144,.row 22 1 (.sym fun _=>zi (F).length) (fun ix=>[.sl 1 (.sym fun _=>zi ((F).getD ix.den.toNat []).length) (fun jx=>[(iv fun _=>((F).getD ix.den.toNat []).getD jx.den.toNat 0)])])] (fun r bs=>r = .tup []∧bs=[.cells [(wpS d)] 87,.cells [.clo 84 [] [],.clo 85 [] []] 110,.cells [.row 4] 23,.cells [.clo 88 [] [.own 0 0,.own 1 0,.own 2 0,.own 3 0]] 144,.row 22 1 (.sym fun _=>zi ((F++[o])).length) (fun ix=>[.sl 1 (.sym fun _=>zi (((F++[o])).getD ix.den.toNat []).length) (fun jx=>[(iv fun _=>(((F++[o])).getD ix.den.toNat []).getD jx.den.toNat 0)])])]):=by
 have c89:=upA d o
 have hl:o.length≤1000:=by omega
 have c54:=ubC d o hd hl
 rw [show ud5 d d.fs o=true from hok]at c54
 refine ua0.isB rfl fun R B hR hB=>qW (sc:=uwk) uaj mix Tryz.func88 rfl Tryz.call88 (by kernel_rfl) (by kernel_rfl) ?_
 generalize Tryz.prog=P at c89 c54⊢
 cbv
 repeat' (first|with_reducible refine And.intro ?_ ?_|(with_reducible intro hcd;(try simp only [zA,zB,zC,zD,zE,zF,zG,zH,zI,zJ,zK,zL,zM,zN,zO,zP]at hcd);try cbv)|(refine qP ?_ (c89) ?hfit;(case hfit=>((repeat' (first|exact qB|refine qD ?_ ?_|exact qE (by rfl)|exact qF (by rfl)|exact Fit.refl _|exact qA|refine qC ?_ rfl ?_));done));try cbv)|(refine qP ?_ (c54) ?hfit;(case hfit=>((repeat' (first|exact qB|refine qD ?_ ?_|exact qE (by rfl)|exact qF (by rfl)|exact Fit.refl _|exact qA|refine qC ?_ rfl ?_));done));try cbv)
  | (obtain⟨F2,eF2⟩:∃y:List (List Int),y=F++[o]:=⟨_,rfl⟩
     refine⟨uwf F2,?_⟩
     cbv
     refine ua4 (ucB (F:=F) (o:=o) eF2 (by first|rfl|((try simp only [qV]at *);(try simp only [zQ,zA,zB,zC,zD,zE,zF,zG,zH,zI,zJ,zK,zL,zM,zN,zO,zP,zR,zS]at *);omega)) rfl (fun ix=>Fit.refl _) (fun ix=>Fit.refl _) (by(try simp only [qV]at *);(try simp only [zQ,zA,zB,zC,zD,zE,zF,zG,zH,zI,zJ,zK,zL,zM,zN,zO,zP,zR,zS]at *);omega)) (Or.inl ?_)
     try cbv)
  |fail)
 all_goals first|trivial|(subst hR;exact Fit.refl _;done)|(rw [←eF2]at hB;subst hB;refine qI (qK _) (qI (qK _) (qI (qK _) (qI (qK _) (qI (uae ?_ (fun ix h0 h1=>Fit.refl _)) qH))));(try simp only [qV]at *);(try simp only [zQ,zA,zB,zC,zD,zE,zF,zG,zH,zI,zJ,zK,zL,zM,zN,zO,zP,zR,zS]at *);simp only [eF2,List.length_append,List.length_cons,List.length_nil];omega)|skip
theorem uwF (d:Dsp)(F:List (List Int))(o:List Int)(i:Int)(hd:DOk d)(ho:o.length≤100)(hF:F.length≤1000000)(hok:(udB d) o=false):ua0 Tryz.prog 88 [(iS o),(iv fun _=>i),(iv fun _=>0),.own 0 0,.own 1 0,.own 2 0,.own 3 0] [.cells [(wpS d)] 87,.cells [.clo 84 [] [],.clo 85 [] []] 110,.cells [.row 4] 23,.cells [.clo 88 [] [.own 0 0,.own 1 0,.own 2 0,.own 3 0]] 144,.row 22 1 (.sym fun _=>zi (F).length) (fun ix=>[.sl 1 (.sym fun _=>zi ((F).getD ix.den.toNat []).length) (fun jx=>[(iv fun _=>((F).getD ix.den.toNat []).getD jx.den.toNat 0)])])] (fun r bs=>r = .tup []∧bs=[.cells [(wpS d)] 87,.cells [.clo 84 [] [],.clo 85 [] []] 110,.cells [.row 4] 23,.cells [.clo 88 [] [.own 0 0,.own 1 0,.own 2 0,.own 3 0]] 144,.row 22 1 (.sym fun _=>zi (F).length) (fun ix=>[.sl 1 (.sym fun _=>zi ((F).getD ix.den.toNat []).length) (fun jx=>[(iv fun _=>((F).getD ix.den.toNat []).getD jx.den.toNat 0)])])]):=by
 have c89:=upA d o
 have hl:o.length≤1000:=by omega
 have c54:=ubC d o hd hl
 rw [show ud5 d d.fs o=false from hok]at c54
 refine ua0.isB rfl fun R B hR hB=>qW (sc:=uwk) uaj mix Tryz.func88 rfl Tryz.call88 (by kernel_rfl) (by kernel_rfl) ?_
 generalize Tryz.prog=P at c89 c54⊢
 cbv
 repeat' (first|with_reducible refine And.intro ?_ ?_|(with_reducible intro hcd;(try simp only [zA,zB,zC,zD,zE,zF,zG,zH,zI,zJ,zK,zL,zM,zN,zO,zP]at hcd);try cbv)|(refine qP ?_ (c89) ?hfit;(case hfit=>((repeat' (first|exact qB|refine qD ?_ ?_|exact qE (by rfl)|exact qF (by rfl)|exact Fit.refl _|exact qA|refine qC ?_ rfl ?_));done));try cbv)|(refine qP ?_ (c54) ?hfit;(case hfit=>((repeat' (first|exact qB|refine qD ?_ ?_|exact qE (by rfl)|exact qF (by rfl)|exact Fit.refl _|exact qA|refine qC ?_ rfl ?_));done));try cbv)
  | (obtain⟨F2,eF2⟩:∃y:List (List Int),y=F++[o]:=⟨_,rfl⟩
     refine⟨uwf F2,?_⟩
     cbv
     refine ua4 (ucB (F:=F) (o:=o) eF2 (by first|rfl|((try simp only [qV]at *);(try simp only [zQ,zA,zB,zC,zD,zE,zF,zG,zH,zI,zJ,zK,zL,zM,zN,zO,zP,zR,zS]at *);omega)) rfl (fun ix=>Fit.refl _) (fun ix=>Fit.refl _) (by(try simp only [qV]at *);(try simp only [zQ,zA,zB,zC,zD,zE,zF,zG,zH,zI,zJ,zK,zL,zM,zN,zO,zP,zR,zS]at *);omega)) (Or.inl ?_)
     try cbv)
  |fail)
 all_goals first|trivial|(subst hR;exact Fit.refl _;done)|(subst hB;(repeat' (first|exact qH|refine qI ?_ ?_|exact qK _|refine qJ ?_|exact qA|exact qE (by rfl)|exact qF (by rfl)|exact Fit.refl _|exact qG _|refine qC ?_ rfl ?_));done)|skip
theorem uwN (d:Dsp)(F:List (List Int))(o:List Int)(i:Int)(hd:DOk d)(ho:o.length≤100)(hF:F.length≤1000000)(hok:(uc7 d) o=true):ua0 Tryz.prog 88 [(iS o),(iv fun _=>i),(iv fun _=>0),.own 0 0,.own 1 0,.own 2 0,.own 3 0] [.cells [(wpS d)] 87,.cells [.clo 86 [] [],.clo 87 [] []] 110,.cells [.row 4] 23,.cells [.clo 88 [] [.own 0 0,.own 1 0,.own 2 0,.own 3 0]] 144,.row 22 1 (.sym fun _=>zi (F).length) (fun ix=>[.sl 1 (.sym fun _=>zi ((F).getD ix.den.toNat []).length) (fun jx=>[(iv fun _=>((F).getD ix.den.toNat []).getD jx.den.toNat 0)])])] (fun r bs=>r = .tup []∧bs=[.cells [(wpS d)] 87,.cells [.clo 86 [] [],.clo 87 [] []] 110,.cells [.row 4] 23,.cells [.clo 88 [] [.own 0 0,.own 1 0,.own 2 0,.own 3 0]] 144,.row 22 1 (.sym fun _=>zi ((F++[o])).length) (fun ix=>[.sl 1 (.sym fun _=>zi (((F++[o])).getD ix.den.toNat []).length) (fun jx=>[(iv fun _=>(((F++[o])).getD ix.den.toNat []).getD jx.den.toNat 0)])])]):=by
 have c91:=umh d o (by have:=hd.f6;omega) (by omega)
 have hl:(thN d o d.fs.length).length≤1000:=by have h1:=um7 d o d.fs.length;have h2:=hd.f6;omega
 have c54:=ubC d (thN d o d.fs.length) hd hl
 rw [show ud5 d d.fs (thN d o d.fs.length)=true from hok]at c54
 refine ua0.isB rfl fun R B hR hB=>qW (sc:=uwk) uaj mix Tryz.func88 rfl Tryz.call88 (by kernel_rfl) (by kernel_rfl) ?_
 generalize Tryz.prog=P at c91 c54⊢
 cbv
 repeat' (first|with_reducible refine And.intro ?_ ?_|(with_reducible intro hcd;(try simp only [zA,zB,zC,zD,zE,zF,zG,zH,zI,zJ,zK,zL,zM,zN,zO,zP]at hcd);try cbv)|(refine qP ?_ (c91) ?hfit;(case hfit=>((repeat' (first|exact qB|refine qD ?_ ?_|exact qE (by rfl)|exact qF (by rfl)|exact Fit.refl _|exact qA|refine qC ?_ rfl ?_));done));try cbv)|(refine qP ?_ (c54) ?hfit;(case hfit=>((repeat' (first|exact qB|refine qD ?_ ?_|exact qE (by rfl)|exact qF (by rfl)|exact Fit.refl _|exact qA|refine qC ?_ rfl ?_));done));try cbv)
  | (obtain⟨F2,eF2⟩:∃y:List (List Int),y=F++[o]:=⟨_,rfl⟩
     refine⟨uwf F2,?_⟩
     cbv
     refine ua4 (ucB (F:=F) (o:=o) eF2 (by first|rfl|((try simp only [qV]at *);(try simp only [zQ,zA,zB,zC,zD,zE,zF,zG,zH,zI,zJ,zK,zL,zM,zN,zO,zP,zR,zS]at *);omega)) rfl (fun ix=>Fit.refl _) (fun ix=>Fit.refl _) (by(try simp only [qV]at *);(try simp only [zQ,zA,zB,zC,zD,zE,zF,zG,zH,zI,zJ,zK,zL,zM,zN,zO,zP,zR,zS]at *);omega)) (Or.inl ?_)
     try cbv)
  |fail)
 all_goals first|trivial|(subst hR;exact Fit.refl _;done)|(rw [←eF2]at hB;subst hB;refine qI (qK _) (qI (qK _) (qI (qK _) (qI (qK _) (qI (uae ?_ (fun ix h0 h1=>Fit.refl _)) qH))));(try simp only [qV]at *);(try simp only [zQ,zA,zB,zC,zD,zE,zF,zG,zH,zI,zJ,zK,zL,zM,zN,zO,zP,zR,zS]at *);simp only [eF2,List.length_append,List.length_cons,List.length_nil];omega)|skip
theorem uxB (d:Dsp)(F:List (List Int))(o:List Int)(i:Int)(hd:DOk d)(ho:o.length≤100)(hF:F.length≤1000000)(hok:(uc7 d) o=false):ua0 Tryz.prog 88 [(iS o),(iv fun _=>i),(iv fun _=>0),.own 0 0,.own 1 0,.own 2 0,.own 3 0] [.cells [(wpS d)] 87,.cells [.clo 86 [] [],.clo 87 [] []] 110,.cells [.row 4] 23,.cells [.clo 88 [] [.own 0 0,.own 1 0,.own 2 0,.own 3 0]] 144,.row 22 1 (.sym fun _=>zi (F).length) (fun ix=>[.sl 1 (.sym fun _=>zi ((F).getD ix.den.toNat []).length) (fun jx=>[(iv fun _=>((F).getD ix.den.toNat []).getD jx.den.toNat 0)])])] (fun r bs=>r = .tup []∧bs=[.cells [(wpS d)] 87,.cells [.clo 86 [] [],.clo 87 [] []] 110,.cells [.row 4] 23,.cells [.clo 88 [] [.own 0 0,.own 1 0,.own 2 0,.own 3 0]] 144,.row 22 1 (.sym fun _=>zi (F).length) (fun ix=>[.sl 1 (.sym fun _=>zi ((F).getD ix.den.toNat []).length) (fun jx=>[(iv fun _=>((F).getD ix.den.toNat []).getD jx.den.toNat 0)])])]):=by
 have c91:=umh d o (by have:=hd.f6;omega) (by omega)
 have hl:(thN d o d.fs.length).length≤1000:=by have h1:=um7 d o d.fs.length;have h2:=hd.f6;omega
 have c54:=ubC d (thN d o d.fs.length) hd hl
 rw [show ud5 d d.fs (thN d o d.fs.length)=false from hok]at c54
 refine ua0.isB rfl fun R B hR hB=>qW (sc:=uwk) uaj mix Tryz.func88 rfl Tryz.call88 (by kernel_rfl) (by kernel_rfl) ?_
 generalize Tryz.prog=P at c91 c54⊢
 cbv
 repeat' (first|with_reducible refine And.intro ?_ ?_|(with_reducible intro hcd;(try simp only [zA,zB,zC,zD,zE,zF,zG,zH,zI,zJ,zK,zL,zM,zN,zO,zP]at hcd);try cbv)|(refine qP ?_ (c91) ?hfit;(case hfit=>((repeat' (first|exact qB|refine qD ?_ ?_|exact qE (by rfl)|exact qF (by rfl)|exact Fit.refl _|exact qA|refine qC ?_ rfl ?_));done));try cbv)|(refine qP ?_ (c54) ?hfit;(case hfit=>((repeat' (first|exact qB|refine qD ?_ ?_|exact qE (by rfl)|exact qF (by rfl)|exact Fit.refl _|exact qA|refine qC ?_ rfl ?_));done));try cbv)
  | (obtain⟨F2,eF2⟩:∃y:List (List Int),y=F++[o]:=⟨_,rfl⟩
     refine⟨uwf F2,?_⟩
     cbv
     refine ua4 (ucB (F:=F) (o:=o) eF2 (by first|rfl|((try simp only [qV]at *);(try simp only [zQ,zA,zB,zC,zD,zE,zF,zG,zH,zI,zJ,zK,zL,zM,zN,zO,zP,zR,zS]at *);omega)) rfl (fun ix=>Fit.refl _) (fun ix=>Fit.refl _) (by(try simp only [qV]at *);(try simp only [zQ,zA,zB,zC,zD,zE,zF,zG,zH,zI,zJ,zK,zL,zM,zN,zO,zP,zR,zS]at *);omega)) (Or.inl ?_)
     try cbv)
  |fail)
 all_goals first|trivial|(subst hR;exact Fit.refl _;done)|(subst hB;(repeat' (first|exact qH|refine qI ?_ ?_|exact qK _|refine qJ ?_|exact qA|exact qE (by rfl)|exact qF (by rfl)|exact Fit.refl _|exact qG _|refine qC ?_ rfl ?_));done)|skip
set_option maxHeartbeats 2000000 in
theorem uz7 (d:Dsp)(F:List (List Int))(o:List Int)(i m M:Nat)(hd:DOk d)(ho:o.length≤100)(hM:M=m+1)(hi:i+M≤d.fs.length)(ih:∀k:Nat,k<d.fs.length-m-i→∀(G:List (List Int)) (L:List Int),G=(F++ueO d.fs.length (udB d) m o i k)→L=o++[((i+k:Nat):Int)]→ua0 Tryz.prog 88 [(iS L),(iv fun _=>zi (i+k)+1),(iv fun _=>zi M-1),.own 0 0,.own 1 0,.own 2 0,.own 3 0] [.cells [(wpS d)] 87,.cells [.clo 84 [] [],.clo 85 [] []] 110,.cells [.row 4] 23,.cells [.clo 88 [] [.own 0 0,.own 1 0,.own 2 0,.own 3 0]] 144,.row 22 1 (.sym fun _=>zi (G).length) (fun ix=>[.sl 1 (.sym fun _=>zi ((G).getD ix.den.toNat []).length) (fun jx=>[(iv fun _=>((G).getD ix.den.toNat []).getD jx.den.toNat 0)])])] (fun r bs=>r = .tup []∧bs=[.cells [(wpS d)] 87,.cells [.clo 84 [] [],.clo 85 [] []] 110,.cells [.row 4] 23,.cells [.clo 88 [] [.own 0 0,.own 1 0,.own 2 0,.own 3 0]] 144,.row 22 1 (.sym fun _=>zi ((G++ubQ d.fs.length (udB d) m L (i+k+1))).length) (fun ix=>[.sl 1 (.sym fun _=>zi (((G++ubQ d.fs.length (udB d) m L (i+k+1))).getD ix.den.toNat []).length) (fun jx=>[(iv fun _=>(((G++ubQ d.fs.length (udB d) m L (i+k+1))).getD ix.den.toNat []).getD jx.den.toNat 0)])])])):ua0 Tryz.prog 88 [(iS o),(iv fun _=>zi i),(iv fun _=>zi M),.own 0 0,.own 1 0,.own 2 0,.own 3 0] [.cells [(wpS d)] 87,.cells [.clo 84 [] [],.clo 85 [] []] 110,.cells [.row 4] 23,.cells [.clo 88 [] [.own 0 0,.own 1 0,.own 2 0,.own 3 0]] 144,.row 22 1 (.sym fun _=>zi (F).length) (fun ix=>[.sl 1 (.sym fun _=>zi ((F).getD ix.den.toNat []).length) (fun jx=>[(iv fun _=>((F).getD ix.den.toNat []).getD jx.den.toNat 0)])])] (fun r bs=>r = .tup []∧bs=[.cells [(wpS d)] 87,.cells [.clo 84 [] [],.clo 85 [] []] 110,.cells [.row 4] 23,.cells [.clo 88 [] [.own 0 0,.own 1 0,.own 2 0,.own 3 0]] 144,.row 22 1 (.sym fun _=>zi ((F++ueO d.fs.length (udB d) m o i (d.fs.length-m-i))).length) (fun ix=>[.sl 1 (.sym fun _=>zi (((F++ueO d.fs.length (udB d) m o i (d.fs.length-m-i))).getD ix.den.toNat []).length) (fun jx=>[(iv fun _=>(((F++ueO d.fs.length (udB d) m o i (d.fs.length-m-i))).getD ix.den.toNat []).getD jx.den.toNat 0)])])]):=by
 have c88:=upp d
 have c94:=uq4 o (by omega)
 refine ua0.isB rfl fun R B hR hB=>qW (sc:=uwk) uaj mix Tryz.func88 rfl Tryz.call88 (by kernel_rfl) (by kernel_rfl) ?_
 generalize Tryz.prog=P at c88 c94 ih⊢
 cbv
 have s3:=hd.p4
 have f6:=hd.f6
 have p1:=hd.p1
 repeat' (first|with_reducible refine And.intro ?_ ?_|(with_reducible intro hcd;(try simp only [zA,zB,zC,zD,zE,zF,zG,zH,zI,zJ,zK,zL,zM,zN,zO,zP]at hcd);try cbv)|fail)
 all_goals first|(exfalso;(try simp only [qV]at *);(try simp only [zQ,zA,zB,zC,zD,zE,zF,zG,zH,zI,zJ,zK,zL,zM,zN,zO,zP,zR,zS]at *);omega)|skip
 refine⟨none,[],{k:Nat // k≤d.fs.length-m-i},fun x=>⟨[(0,(iS o)),(2,(iv fun _=>zi M)),(3,.own 0 0),(4,.own 1 0),(5,.own 2 0),(6,.own 3 0),(12,(iv fun _=>zi (i+x.1)))],[(0,.cells [(wpS d)] 87),(1,.cells [.clo 84 [] [],.clo 85 [] []] 110),(2,.cells [.row 4] 23),(3,.cells [.clo 88 [] [.own 0 0,.own 1 0,.own 2 0,.own 3 0]] 144),(4,.row 22 1 (.sym fun _=>zi ((F++ueO d.fs.length (udB d) m o i x.1)).length) (fun ix=>[.sl 1 (.sym fun _=>zi (((F++ueO d.fs.length (udB d) m o i x.1)).getD ix.den.toNat []).length) (fun jx=>[(iv fun _=>(((F++ueO d.fs.length (udB d) m o i x.1)).getD ix.den.toNat []).getD jx.den.toNat 0)])]))],60⟩,fun x=>d.fs.length-m-i-x.1,?_,?_⟩
 ·refine⟨⟨0,by omega⟩,?_⟩
  cbv
  repeat' (first|with_reducible refine ua4 ?_ ?_|with_reducible refine And.intro ?_ ?_)
  all_goals first|trivial|exact qM (qE (by rfl))|exact qM (Fit.refl _)|exact qL (qK _)|(simp only [ueO,List.append_nil];exact qL (qK _))|skip
 ·rintro ⟨k,hk⟩
  cbv
  obtain⟨G,hG⟩:∃G,G=(F++ueO d.fs.length (udB d) m o i k):=⟨_,rfl⟩
  rw [←hG]
  cbv
  repeat' (first|with_reducible refine ua4 ?_ ?_|with_reducible refine And.intro ?_ ?_|(with_reducible intro hcd;(try simp only [zA,zB,zC,zD,zE,zF,zG,zH,zI,zJ,zK,zL,zM,zN,zO,zP]at hcd);try cbv)|(refine qP ?_ (c88) ?hfit;(case hfit=>((repeat' (first|exact qB|refine qD ?_ ?_|exact qE (by rfl)|exact qF (by rfl)|exact Fit.refl _|exact qA|refine qC ?_ rfl ?_));done));try cbv)
   | (refine Or.inr ⟨true,?_⟩
      cbv
      refine qU ?_ (c94) (by cbv;(repeat' (first|exact qB|refine qD ?_ ?_|exact qE (by rfl)|exact qF (by rfl)|exact Fit.refl _|exact qA|refine qC ?_ rfl ?_))) (by cbv;(repeat' (first|exact qH|refine qI ?_ ?_|exact qK _|refine qJ ?_|exact qA|exact qE (by rfl)|exact qF (by rfl)|exact Fit.refl _|exact qG _|refine qC ?_ rfl ?_)))
      try cbv)
   | (obtain⟨L2,eL2⟩:∃y:List Int,y=o++[((i+k:Nat):Int)]:=⟨_,rfl⟩
      refine⟨ueD L2,?_⟩
      cbv
      refine ua4 (uaq (L:=o) eL2 (by(first|rfl|((try simp only [qV]at *);(try simp only [zQ,zA,zB,zC,zD,zE,zF,zG,zH,zI,zJ,zK,zL,zM,zN,zO,zP,zR,zS]at *);done)|((try simp only [qV]at *);(try simp only [zQ,zA,zB,zC,zD,zE,zF,zG,zH,zI,zJ,zK,zL,zM,zN,zO,zP,zR,zS]at *);omega))) (by rfl) (fun ix=>Fit.refl _) (fun ix h=>qC (qE (by rfl)) rfl qA) (by(try simp only [qV]at *);(try simp only [zQ,zA,zB,zC,zD,zE,zF,zG,zH,zI,zJ,zK,zL,zM,zN,zO,zP,zR,zS]at *);omega)) (Or.inr ⟨true,?_⟩)
      try cbv)
   | (refine⟨some [0,1,2,3,4],?_⟩
      cbv
      refine qQ ?_ (ih k (by((try simp only [qV]at *);(try simp only [zQ,zA,zB,zC,zD,zE,zF,zG,zH,zI,zJ,zK,zL,zM,zN,zO,zP,zR,zS]at *);omega)) G L2 hG eL2) ?hfit ?hbo
      case hfit=>(cbv;refine qD (ua1 (uth eL2) (fun _ _ _=>Fit.refl _)) ?_;(repeat' (first|exact qB|refine qD ?_ ?_|exact qE (by rfl)|exact qF (by rfl)|exact Fit.refl _|exact qA|refine qC ?_ rfl ?_));done)
      case hbo=>(cbv;(repeat' (first|exact qH|refine qI ?_ ?_|exact qK _|refine qJ ?_|exact qA|exact qE (by rfl)|exact qF (by rfl)|exact Fit.refl _|exact qG _|refine qC ?_ rfl ?_));done)
      try cbv)
   |fail)
  all_goals first|((try simp only [qV]at *);(try simp only [zQ,zA,zB,zC,zD,zE,zF,zG,zH,zI,zJ,zK,zL,zM,zN,zO,zP,zR,zS]at *);first|(refine qN ?_;omega)|(simp only [uai];omega))|(subst hR;exact Fit.refl _;done)|((have hke:k=d.fs.length-m-i:=(by((try simp only [qV]at *);(try simp only [zQ,zA,zB,zC,zD,zE,zF,zG,zH,zI,zJ,zK,zL,zM,zN,zO,zP,zR,zS]at *);omega)));rw [hke]at hG;rw [←hG]at hB;subst hB;(repeat' (first|exact qH|refine qI ?_ ?_|exact qK _|refine qJ ?_|exact qA|exact qE (by rfl)|exact qF (by rfl)|exact Fit.refl _|exact qG _|refine qC ?_ rfl ?_));done)|((try simp only [zQ,zA,zB,zC,zD,zE,zF,zG,zH,zI,zJ,zK,zL,zM,zN,zO,zP,zR,zS]at *);(have hx:=une eL2 hG);refine⟨⟨k+1,by((try simp only [qV]at *);(try simp only [zQ,zA,zB,zC,zD,zE,zF,zG,zH,zI,zJ,zK,zL,zM,zN,zO,zP,zR,zS]at *);omega)⟩,by simp only [];omega,?_⟩;cbv;(repeat' (first|with_reducible refine ua4 ?_ ?_|with_reducible refine And.intro ?_ ?_));(all_goals first|trivial|exact qM (qE (by rfl))|exact qM (qF (by rfl))|exact qM (Fit.refl _)|exact qL (qK _)|(refine qM (qE ?_);(try simp only [qV]at *);simp only [zQ,zA,zB,zC,zD,zE,zF,zG,zH,zI,zJ,zK,zL,zM,zN,zO,zP,zR,zS]at *;omega)|(refine qL (qJ ?_);(repeat' (first|exact qA|exact qB|refine qC ?_ rfl ?_|refine qD ?_ ?_|exact qE (by rfl)|exact qF (by rfl)|exact Fit.refl _|exact qG _|(refine qE ?_;(try simp only [qV]at *);simp only [zQ,zA,zB,zC,zD,zE,zF,zG,zH,zI,zJ,zK,zL,zM,zN,zO,zP,zR,zS]at *;omega)));done)|(simp only [hx];exact qL (qK _))|(refine qM (qE ?_);(try simp only [qV]at *);(try simp only [zQ,zA,zB,zC,zD,zE,zF,zG,zH,zI,zJ,zK,zL,zM,zN,zO,zP,zR,zS]at *);omega)|skip))|skip
set_option maxHeartbeats 2000000 in
theorem uzl (d:Dsp)(F:List (List Int))(o:List Int)(i m M:Nat)(hd:DOk d)(ho:o.length≤100)(hM:M=m+1)(hi:i+M≤d.pn.toNat)(ih:∀k:Nat,k<d.pn.toNat-m-i→∀(G:List (List Int)) (L:List Int),G=(F++ueO d.pn.toNat (uc7 d) m o i k)→L=o++[((i+k:Nat):Int)]→ua0 Tryz.prog 88 [(iS L),(iv fun _=>zi (i+k)+1),(iv fun _=>zi M-1),.own 0 0,.own 1 0,.own 2 0,.own 3 0] [.cells [(wpS d)] 87,.cells [.clo 86 [] [],.clo 87 [] []] 110,.cells [.row 4] 23,.cells [.clo 88 [] [.own 0 0,.own 1 0,.own 2 0,.own 3 0]] 144,.row 22 1 (.sym fun _=>zi (G).length) (fun ix=>[.sl 1 (.sym fun _=>zi ((G).getD ix.den.toNat []).length) (fun jx=>[(iv fun _=>((G).getD ix.den.toNat []).getD jx.den.toNat 0)])])] (fun r bs=>r = .tup []∧bs=[.cells [(wpS d)] 87,.cells [.clo 86 [] [],.clo 87 [] []] 110,.cells [.row 4] 23,.cells [.clo 88 [] [.own 0 0,.own 1 0,.own 2 0,.own 3 0]] 144,.row 22 1 (.sym fun _=>zi ((G++ubQ d.pn.toNat (uc7 d) m L (i+k+1))).length) (fun ix=>[.sl 1 (.sym fun _=>zi (((G++ubQ d.pn.toNat (uc7 d) m L (i+k+1))).getD ix.den.toNat []).length) (fun jx=>[(iv fun _=>(((G++ubQ d.pn.toNat (uc7 d) m L (i+k+1))).getD ix.den.toNat []).getD jx.den.toNat 0)])])])):ua0 Tryz.prog 88 [(iS o),(iv fun _=>zi i),(iv fun _=>zi M),.own 0 0,.own 1 0,.own 2 0,.own 3 0] [.cells [(wpS d)] 87,.cells [.clo 86 [] [],.clo 87 [] []] 110,.cells [.row 4] 23,.cells [.clo 88 [] [.own 0 0,.own 1 0,.own 2 0,.own 3 0]] 144,.row 22 1 (.sym fun _=>zi (F).length) (fun ix=>[.sl 1 (.sym fun _=>zi ((F).getD ix.den.toNat []).length) (fun jx=>[(iv fun _=>((F).getD ix.den.toNat []).getD jx.den.toNat 0)])])] (fun r bs=>r = .tup []∧bs=[.cells [(wpS d)] 87,.cells [.clo 86 [] [],.clo 87 [] []] 110,.cells [.row 4] 23,.cells [.clo 88 [] [.own 0 0,.own 1 0,.own 2 0,.own 3 0]] 144,.row 22 1 (.sym fun _=>zi ((F++ueO d.pn.toNat (uc7 d) m o i (d.pn.toNat-m-i))).length) (fun ix=>[.sl 1 (.sym fun _=>zi (((F++ueO d.pn.toNat (uc7 d) m o i (d.pn.toNat-m-i))).getD ix.den.toNat []).length) (fun jx=>[(iv fun _=>(((F++ueO d.pn.toNat (uc7 d) m o i (d.pn.toNat-m-i))).getD ix.den.toNat []).getD jx.den.toNat 0)])])]):=by
 have c90:=uk9 d
 have c94:=uq4 o (by omega)
 refine ua0.isB rfl fun R B hR hB=>qW (sc:=uwk) uaj mix Tryz.func88 rfl Tryz.call88 (by kernel_rfl) (by kernel_rfl) ?_
 generalize Tryz.prog=P at c90 c94 ih⊢
 cbv
 have s3:=hd.p4
 have f6:=hd.f6
 have p1:=hd.p1
 repeat' (first|with_reducible refine And.intro ?_ ?_|(with_reducible intro hcd;(try simp only [zA,zB,zC,zD,zE,zF,zG,zH,zI,zJ,zK,zL,zM,zN,zO,zP]at hcd);try cbv)|fail)
 all_goals first|(exfalso;(try simp only [qV]at *);(try simp only [zQ,zA,zB,zC,zD,zE,zF,zG,zH,zI,zJ,zK,zL,zM,zN,zO,zP,zR,zS]at *);omega)|skip
 refine⟨none,[],{k:Nat // k≤d.pn.toNat-m-i},fun x=>⟨[(0,(iS o)),(2,(iv fun _=>zi M)),(3,.own 0 0),(4,.own 1 0),(5,.own 2 0),(6,.own 3 0),(12,(iv fun _=>zi (i+x.1)))],[(0,.cells [(wpS d)] 87),(1,.cells [.clo 86 [] [],.clo 87 [] []] 110),(2,.cells [.row 4] 23),(3,.cells [.clo 88 [] [.own 0 0,.own 1 0,.own 2 0,.own 3 0]] 144),(4,.row 22 1 (.sym fun _=>zi ((F++ueO d.pn.toNat (uc7 d) m o i x.1)).length) (fun ix=>[.sl 1 (.sym fun _=>zi (((F++ueO d.pn.toNat (uc7 d) m o i x.1)).getD ix.den.toNat []).length) (fun jx=>[(iv fun _=>(((F++ueO d.pn.toNat (uc7 d) m o i x.1)).getD ix.den.toNat []).getD jx.den.toNat 0)])]))],60⟩,fun x=>d.pn.toNat-m-i-x.1,?_,?_⟩
 ·refine⟨⟨0,by omega⟩,?_⟩
  cbv
  repeat' (first|with_reducible refine ua4 ?_ ?_|with_reducible refine And.intro ?_ ?_)
  all_goals first|trivial|exact qM (qE (by rfl))|exact qM (Fit.refl _)|exact qL (qK _)|(simp only [ueO,List.append_nil];exact qL (qK _))|skip
 ·rintro ⟨k,hk⟩
  cbv
  obtain⟨G,hG⟩:∃G,G=(F++ueO d.pn.toNat (uc7 d) m o i k):=⟨_,rfl⟩
  rw [←hG]
  cbv
  repeat' (first|with_reducible refine ua4 ?_ ?_|with_reducible refine And.intro ?_ ?_|(with_reducible intro hcd;(try simp only [zA,zB,zC,zD,zE,zF,zG,zH,zI,zJ,zK,zL,zM,zN,zO,zP]at hcd);try cbv)|(refine qP ?_ (c90) ?hfit;(case hfit=>((repeat' (first|exact qB|refine qD ?_ ?_|exact qE (by rfl)|exact qF (by rfl)|exact Fit.refl _|exact qA|refine qC ?_ rfl ?_));done));try cbv)
   | (refine Or.inr ⟨true,?_⟩
      cbv
      refine qU ?_ (c94) (by cbv;(repeat' (first|exact qB|refine qD ?_ ?_|exact qE (by rfl)|exact qF (by rfl)|exact Fit.refl _|exact qA|refine qC ?_ rfl ?_))) (by cbv;(repeat' (first|exact qH|refine qI ?_ ?_|exact qK _|refine qJ ?_|exact qA|exact qE (by rfl)|exact qF (by rfl)|exact Fit.refl _|exact qG _|refine qC ?_ rfl ?_)))
      try cbv)
   | (obtain⟨L2,eL2⟩:∃y:List Int,y=o++[((i+k:Nat):Int)]:=⟨_,rfl⟩
      refine⟨ueD L2,?_⟩
      cbv
      refine ua4 (uaq (L:=o) eL2 (by(first|rfl|((try simp only [qV]at *);(try simp only [zQ,zA,zB,zC,zD,zE,zF,zG,zH,zI,zJ,zK,zL,zM,zN,zO,zP,zR,zS]at *);done)|((try simp only [qV]at *);(try simp only [zQ,zA,zB,zC,zD,zE,zF,zG,zH,zI,zJ,zK,zL,zM,zN,zO,zP,zR,zS]at *);omega))) (by rfl) (fun ix=>Fit.refl _) (fun ix h=>qC (qE (by rfl)) rfl qA) (by(try simp only [qV]at *);(try simp only [zQ,zA,zB,zC,zD,zE,zF,zG,zH,zI,zJ,zK,zL,zM,zN,zO,zP,zR,zS]at *);omega)) (Or.inr ⟨true,?_⟩)
      try cbv)
   | (refine⟨some [0,1,2,3,4],?_⟩
      cbv
      refine qQ ?_ (ih k (by((try simp only [qV]at *);(try simp only [zQ,zA,zB,zC,zD,zE,zF,zG,zH,zI,zJ,zK,zL,zM,zN,zO,zP,zR,zS]at *);omega)) G L2 hG eL2) ?hfit ?hbo
      case hfit=>(cbv;refine qD (ua1 (uth eL2) (fun _ _ _=>Fit.refl _)) ?_;(repeat' (first|exact qB|refine qD ?_ ?_|exact qE (by rfl)|exact qF (by rfl)|exact Fit.refl _|exact qA|refine qC ?_ rfl ?_));done)
      case hbo=>(cbv;(repeat' (first|exact qH|refine qI ?_ ?_|exact qK _|refine qJ ?_|exact qA|exact qE (by rfl)|exact qF (by rfl)|exact Fit.refl _|exact qG _|refine qC ?_ rfl ?_));done)
      try cbv)
   |fail)
  all_goals first|((try simp only [qV]at *);(try simp only [zQ,zA,zB,zC,zD,zE,zF,zG,zH,zI,zJ,zK,zL,zM,zN,zO,zP,zR,zS]at *);first|(refine qN ?_;omega)|(simp only [uai];omega))|(subst hR;exact Fit.refl _;done)|((have hke:k=d.pn.toNat-m-i:=(by((try simp only [qV]at *);(try simp only [zQ,zA,zB,zC,zD,zE,zF,zG,zH,zI,zJ,zK,zL,zM,zN,zO,zP,zR,zS]at *);omega)));rw [hke]at hG;rw [←hG]at hB;subst hB;(repeat' (first|exact qH|refine qI ?_ ?_|exact qK _|refine qJ ?_|exact qA|exact qE (by rfl)|exact qF (by rfl)|exact Fit.refl _|exact qG _|refine qC ?_ rfl ?_));done)|((try simp only [zQ,zA,zB,zC,zD,zE,zF,zG,zH,zI,zJ,zK,zL,zM,zN,zO,zP,zR,zS]at *);(have hx:=une eL2 hG);refine⟨⟨k+1,by((try simp only [qV]at *);(try simp only [zQ,zA,zB,zC,zD,zE,zF,zG,zH,zI,zJ,zK,zL,zM,zN,zO,zP,zR,zS]at *);omega)⟩,by simp only [];omega,?_⟩;cbv;(repeat' (first|with_reducible refine ua4 ?_ ?_|with_reducible refine And.intro ?_ ?_));(all_goals first|trivial|exact qM (qE (by rfl))|exact qM (qF (by rfl))|exact qM (Fit.refl _)|exact qL (qK _)|(refine qM (qE ?_);(try simp only [qV]at *);simp only [zQ,zA,zB,zC,zD,zE,zF,zG,zH,zI,zJ,zK,zL,zM,zN,zO,zP,zR,zS]at *;omega)|(refine qL (qJ ?_);(repeat' (first|exact qA|exact qB|refine qC ?_ rfl ?_|refine qD ?_ ?_|exact qE (by rfl)|exact qF (by rfl)|exact Fit.refl _|exact qG _|(refine qE ?_;(try simp only [qV]at *);simp only [zQ,zA,zB,zC,zD,zE,zF,zG,zH,zI,zJ,zK,zL,zM,zN,zO,zP,zR,zS]at *;omega)));done)|(simp only [hx];exact qL (qK _))|(refine qM (qE ?_);(try simp only [qV]at *);(try simp only [zQ,zA,zB,zC,zD,zE,zF,zG,zH,zI,zJ,zK,zL,zM,zN,zO,zP,zR,zS]at *);omega)|skip))|skip
theorem uB9 (d:Dsp)(hd:DOk d):∀(m:Nat) (F:List (List Int)) (o:List Int) (i:Nat) (ie me:Int),ie=(i:Int)→me=(m:Int)→o.length≤i→i+m≤d.fs.length→F.length+(ubQ d.fs.length (udB d) m o i).length≤1000000→ua0 Tryz.prog 88 [(iS o),(iv fun _=>ie),(iv fun _=>me),.own 0 0,.own 1 0,.own 2 0,.own 3 0] [.cells [(wpS d)] 87,.cells [.clo 84 [] [],.clo 85 [] []] 110,.cells [.row 4] 23,.cells [.clo 88 [] [.own 0 0,.own 1 0,.own 2 0,.own 3 0]] 144,.row 22 1 (.sym fun _=>zi (F).length) (fun ix=>[.sl 1 (.sym fun _=>zi ((F).getD ix.den.toNat []).length) (fun jx=>[(iv fun _=>((F).getD ix.den.toNat []).getD jx.den.toNat 0)])])] (fun r bs=>r = .tup []∧bs=[.cells [(wpS d)] 87,.cells [.clo 84 [] [],.clo 85 [] []] 110,.cells [.row 4] 23,.cells [.clo 88 [] [.own 0 0,.own 1 0,.own 2 0,.own 3 0]] 144,.row 22 1 (.sym fun _=>zi ((F++ubQ d.fs.length (udB d) m o i)).length) (fun ix=>[.sl 1 (.sym fun _=>zi (((F++ubQ d.fs.length (udB d) m o i)).getD ix.den.toNat []).length) (fun jx=>[(iv fun _=>(((F++ubQ d.fs.length (udB d) m o i)).getD ix.den.toNat []).getD jx.den.toNat 0)])])]):=by
 have hf6:=hd.f6
 have hp4:=hd.p4
 intro m
 induction m with
 | zero=>
  intro F o i ie me hie hme ho him hB
  have hm0:me=0:=by omega
  subst hm0
  cases hok:(udB d) o with
  | true=>
   rw [show ubQ d.fs.length (udB d) 0 o i=[o] by simp only [ubQ,hok,if_true]]
   exact uwC d F o ie hd (by omega) (by omega) hok
  | false=>
   rw [show ubQ d.fs.length (udB d) 0 o i=[] by simp only [ubQ,hok,Bool.false_eq_true,if_false],List.append_nil]
   exact uwF d F o ie hd (by omega) (by omega) hok
 | succ m ih=>
  intro F o i ie me hie hme ho him hB
  subst hie
  subst hme
  rw [uil]at hB⊢
  refine uz7 d F o i m (m+1) hd (by omega) rfl him fun k hk G L hG hL=> ?_
  refine ih G L (i+k+1) (zi (i+k)+1) (zi (m+1)-1) (by simp only [uac];omega) (by simp only [uac];omega) (by rw [hL,List.length_append];simp only [List.length_cons,List.length_nil];omega) (by omega) ?_
  have h1:=utC (n:=d.fs.length) (ok:=(udB d)) (m:=m) (o:=o) (i:=i) (show k+1≤d.fs.length-m-i by omega)
  have h2:=congrArg List.length (une (F:=F) hL hG)
  rw [List.length_append,List.length_append]at h2
  omega
theorem uB7 (d:Dsp)(hd:DOk d):∀(m:Nat) (F:List (List Int)) (o:List Int) (i:Nat) (ie me:Int),ie=(i:Int)→me=(m:Int)→o.length≤i→i+m≤d.pn.toNat→F.length+(ubQ d.pn.toNat (uc7 d) m o i).length≤1000000→ua0 Tryz.prog 88 [(iS o),(iv fun _=>ie),(iv fun _=>me),.own 0 0,.own 1 0,.own 2 0,.own 3 0] [.cells [(wpS d)] 87,.cells [.clo 86 [] [],.clo 87 [] []] 110,.cells [.row 4] 23,.cells [.clo 88 [] [.own 0 0,.own 1 0,.own 2 0,.own 3 0]] 144,.row 22 1 (.sym fun _=>zi (F).length) (fun ix=>[.sl 1 (.sym fun _=>zi ((F).getD ix.den.toNat []).length) (fun jx=>[(iv fun _=>((F).getD ix.den.toNat []).getD jx.den.toNat 0)])])] (fun r bs=>r = .tup []∧bs=[.cells [(wpS d)] 87,.cells [.clo 86 [] [],.clo 87 [] []] 110,.cells [.row 4] 23,.cells [.clo 88 [] [.own 0 0,.own 1 0,.own 2 0,.own 3 0]] 144,.row 22 1 (.sym fun _=>zi ((F++ubQ d.pn.toNat (uc7 d) m o i)).length) (fun ix=>[.sl 1 (.sym fun _=>zi (((F++ubQ d.pn.toNat (uc7 d) m o i)).getD ix.den.toNat []).length) (fun jx=>[(iv fun _=>(((F++ubQ d.pn.toNat (uc7 d) m o i)).getD ix.den.toNat []).getD jx.den.toNat 0)])])]):=by
 have hf6:=hd.f6
 have hp4:=hd.p4
 intro m
 induction m with
 | zero=>
  intro F o i ie me hie hme ho him hB
  have hm0:me=0:=by omega
  subst hm0
  cases hok:(uc7 d) o with
  | true=>
   rw [show ubQ d.pn.toNat (uc7 d) 0 o i=[o] by simp only [ubQ,hok,if_true]]
   exact uwN d F o ie hd (by omega) (by omega) hok
  | false=>
   rw [show ubQ d.pn.toNat (uc7 d) 0 o i=[] by simp only [ubQ,hok,Bool.false_eq_true,if_false],List.append_nil]
   exact uxB d F o ie hd (by omega) (by omega) hok
 | succ m ih=>
  intro F o i ie me hie hme ho him hB
  subst hie
  subst hme
  rw [uil]at hB⊢
  refine uzl d F o i m (m+1) hd (by omega) rfl him fun k hk G L hG hL=> ?_
  refine ih G L (i+k+1) (zi (i+k)+1) (zi (m+1)-1) (by simp only [uac];omega) (by simp only [uac];omega) (by rw [hL,List.length_append];simp only [List.length_cons,List.length_nil];omega) (by omega) ?_
  have h1:=utC (n:=d.pn.toNat) (ok:=(uc7 d)) (m:=m) (o:=o) (i:=i) (show k+1≤d.pn.toNat-m-i by omega)
  have h2:=congrArg List.length (une (F:=F) hL hG)
  rw [List.length_append,List.length_append]at h2
  omega
theorem uty {n:Nat} {ok:List Int→Bool} {m k:Nat}(hk:0<k)(h:ubQ n ok m [] 0=[]):uoI n ok k m=uoI n ok (k-1) (m+1):=by
 cases k with
 |zero=>omega
 |succ k=>simp only [uoI,h,List.isEmpty_nil,if_true,Nat.add_sub_cancel]
theorem umZ {n:Nat} {ok:List Int→Bool} {m k:Nat}(hk:0<k)(h:ubQ n ok m [] 0≠[]):uoI n ok k m=ubQ n ok m [] 0:=by
 cases k with
 |zero=>omega
 | succ k=>
  simp only [uoI]
  rw [if_neg (by simpa using h)]
theorem umR {d:Dsp} {n:Nat} {ok:List Int→Bool} {m:Nat}(hn:n≤6)(hm:m≤n):(ubQ n ok m [] 0).length≤1000000:=by
 refine Nat.le_trans umM (Nat.le_trans (Nat.pow_le_pow_left hn m) (Nat.le_trans (Nat.pow_le_pow_right (by omega) (show m≤6 by omega)) (by decide)))
theorem uqB (d:Dsp)(hd:DOk d):ua0 Tryz.prog 51 [(.agg [.clo 84 [] [],.clo 85 [] []]),(wpS d)] [] (fun r _=>r=(.sl 1 (.sym fun _=>zi ((uaA d.fs.length (udB d))).length) (fun ix=>[(.sl 1 (.sym fun _=>zi (((uaA d.fs.length (udB d))).getD ix.den.toNat []).length) (fun jx=>[(iv fun _=>(((uaA d.fs.length (udB d))).getD ix.den.toNat []).getD jx.den.toNat 0)]))]))):=by
 have c88:=upp d
 have f6:=hd.f6
 have p4:=hd.p4
 have p1:=hd.p1
 have cadd:=fun (x:Nat) (h:x≤d.fs.length)=>(show ua0 Tryz.prog 88 [(iS (([]:List Int))),(iv fun _=>0),(iv fun _=>zi x),.own 0 0,.own 1 0,.own 2 0,.own 3 0] [.cells [(wpS d)] 87,.cells [.clo 84 [] [],.clo 85 [] []] 110,.cells [.row 4] 23,.cells [.clo 88 [] [.own 0 0,.own 1 0,.own 2 0,.own 3 0]] 144,.row 22 1 (.sym fun _=>zi (([]:List (List Int))).length) (fun ix=>[.sl 1 (.sym fun _=>zi ((([]:List (List Int))).getD ix.den.toNat []).length) (fun jx=>[(iv fun _=>((([]:List (List Int))).getD ix.den.toNat []).getD jx.den.toNat 0)])])] (fun r bs=>r = .tup []∧bs=[.cells [(wpS d)] 87,.cells [.clo 84 [] [],.clo 85 [] []] 110,.cells [.row 4] 23,.cells [.clo 88 [] [.own 0 0,.own 1 0,.own 2 0,.own 3 0]] 144,.row 22 1 (.sym fun _=>zi ((ubQ d.fs.length (udB d) x [] 0)).length) (fun ix=>[.sl 1 (.sym fun _=>zi (((ubQ d.fs.length (udB d) x [] 0)).getD ix.den.toNat []).length) (fun jx=>[(iv fun _=>(((ubQ d.fs.length (udB d) x [] 0)).getD ix.den.toNat []).getD jx.den.toNat 0)])])])from uB9 d hd x [] [] 0 0 (zi x) rfl (by simp only [uac]) (Nat.le_refl _) (by omega) (by have:=umR (d:=d) (n:=d.fs.length) (ok:=(udB d)) (m:=x) (by omega) h;simp only [List.length_nil];omega))
 refine ua0.is fun R hR=>qW (sc:=uAq) uaj mix Tryz.func51 rfl Tryz.call51 (by kernel_rfl) (by kernel_rfl) ?_
 generalize Tryz.prog=P at c88 cadd⊢
 cbv
 repeat' (first|with_reducible refine ua4 ?_ ?_|(refine qP ?_ (c88) ?hfit;(case hfit=>((repeat' (first|exact qB|refine qD ?_ ?_|exact qE (by rfl)|exact qF (by rfl)|exact Fit.refl _|exact qA|refine qC ?_ rfl ?_));done));try cbv)|fail)
 all_goals first|((try simp only [qV]at *);(try simp only [zQ,zA,zB,zC,zD,zE,zF,zG,zH,zI,zJ,zK,zL,zM,zN,zO,zP,zR,zS]at *);first|(refine qN ?_;omega)|(simp only [uai];omega))|skip
 refine⟨none,[⟨.cell 2 0,22,1⟩],{x:Nat // x≤d.fs.length+1∧uaA d.fs.length (udB d)=uoI d.fs.length (udB d) (d.fs.length+1-x) x},fun x=>⟨[(2,.own 0 0),(3,.own 1 0),(4,.own 2 0),(5,.own 3 0),(12,(iv fun _=>zi d.fs.length+1)),(13,(iv fun _=>zi x.1))],[(0,.cells [.clo 84 [] [],.clo 85 [] []] 110),(1,.cells [(wpS d)] 87),(2,.cells [.row 12] 23),(3,.cells [.clo 88 [] [.own 1 0,.own 0 0,.own 2 0,.own 3 0]] 144),(12,.row 22 1 (.sym fun _=>zi (([]:List (List Int))).length) (fun ix=>[.sl 1 (.sym fun _=>zi ((([]:List (List Int))).getD ix.den.toNat []).length) (fun jx=>[(iv fun _=>((([]:List (List Int))).getD ix.den.toNat []).getD jx.den.toNat 0)])]))],60⟩,fun x=>d.fs.length+1-x.1,?_,?_⟩
 ·refine⟨⟨0,by omega,rfl⟩,?_⟩
  cbv
  repeat' (first|with_reducible refine ua4 ?_ ?_|with_reducible refine And.intro ?_ ?_)
  all_goals first|trivial|exact qM (qE (by rfl))|exact qM (Fit.refl _)|exact qL (qK _)|(refine qL (uae ?_ ?_);(first|rfl|((try simp only [qV]at *);(try simp only [zQ,zA,zB,zC,zD,zE,zF,zG,zH,zI,zJ,zK,zL,zM,zN,zO,zP,zR,zS]at *);omega));intro ix h0 h1;exfalso;(try simp only [qV]at *);(try simp only [zQ,zA,zB,zC,zD,zE,zF,zG,zH,zI,zJ,zK,zL,zM,zN,zO,zP,zR,zS]at *);omega)|skip
 ·rintro ⟨x,hx,h3⟩
  cbv
  obtain⟨A,hA⟩:∃A,A=ubQ d.fs.length (udB d) x [] 0:=⟨_,rfl⟩
  have caddx:=fun h=>cadd x h
  rw [←hA]at caddx
  cbv
  repeat' (first|with_reducible refine ua4 ?_ ?_|with_reducible refine And.intro ?_ ?_|(with_reducible intro hcd;(try simp only [zA,zB,zC,zD,zE,zF,zG,zH,zI,zJ,zK,zL,zM,zN,zO,zP]at hcd);try cbv)
   | (refine⟨some [1,0,2,3,12],?_⟩
      cbv
      refine qQ ?_ (caddx (by((try simp only [qV]at *);(try simp only [zQ,zA,zB,zC,zD,zE,zF,zG,zH,zI,zJ,zK,zL,zM,zN,zO,zP,zR,zS]at *);omega))) ?hfit ?hbo
      case hfit=>(cbv;refine qD (qO rfl) ?_;(repeat' (first|exact qB|refine qD ?_ ?_|exact qE (by rfl)|exact qF (by rfl)|exact Fit.refl _|exact qA|refine qC ?_ rfl ?_));done)
      case hbo=>(cbv;(repeat' (first|exact qH|refine qI ?_ ?_|exact qK _|refine qJ ?_|exact qA|exact qE (by rfl)|exact qF (by rfl)|exact Fit.refl _|exact qG _|refine qC ?_ rfl ?_));done)
      try cbv)
   |fail)
  all_goals first|((try simp only [qV]at *);(try simp only [zQ,zA,zB,zC,zD,zE,zF,zG,zH,zI,zJ,zK,zL,zM,zN,zO,zP,zR,zS]at *);first|(refine qN ?_;omega)|(simp only [uai];omega))|(subst hR;((have hne:A≠[]:=fun q=>by(rw [q]at hcd;(try simp only [qV]at *);(try simp only [zQ,zA,zB,zC,zD,zE,zF,zG,zH,zI,zJ,zK,zL,zM,zN,zO,zP,zR,zS]at *);simp only [List.length_nil]at hcd;omega));(have e9:=h3.trans (umZ (by((try simp only [qV]at *);(try simp only [zQ,zA,zB,zC,zD,zE,zF,zG,zH,zI,zJ,zK,zL,zM,zN,zO,zP,zR,zS]at *);omega)) (by rw [←hA];exact hne)));rw [←hA]at e9;rw [e9];exact Fit.refl _);done)|(subst hR;((have hz:d.fs.length+1-x=0:=by((try simp only [qV]at *);(try simp only [zQ,zA,zB,zC,zD,zE,zF,zG,zH,zI,zJ,zK,zL,zM,zN,zO,zP,zR,zS]at *);omega));rw [hz]at h3;rw [show uaA d.fs.length (udB d)=[]from h3];exact Fit.refl _);done)|((try simp only [zQ,zA,zB,zC,zD,zE,zF,zG,zH,zI,zJ,zK,zL,zM,zN,zO,zP,zR,zS]at *);(have hAe:A=[]:=List.length_eq_zero_iff.1 (by((try simp only [qV]at *);(try simp only [zQ,zA,zB,zC,zD,zE,zF,zG,zH,zI,zJ,zK,zL,zM,zN,zO,zP,zR,zS]at *);omega)));refine⟨⟨x+1,by((try simp only [qV]at *);(try simp only [zQ,zA,zB,zC,zD,zE,zF,zG,zH,zI,zJ,zK,zL,zM,zN,zO,zP,zR,zS]at *);omega),by rw [show d.fs.length+1-(x+1)=d.fs.length+1-x-1 by omega,←uty (by((try simp only [qV]at *);(try simp only [zQ,zA,zB,zC,zD,zE,zF,zG,zH,zI,zJ,zK,zL,zM,zN,zO,zP,zR,zS]at *);omega)) (hA.symm.trans hAe)];exact h3⟩,by simp only [];omega,?_⟩;cbv;(repeat' (first|with_reducible refine ua4 ?_ ?_|with_reducible refine And.intro ?_ ?_));(all_goals first|trivial|exact qM (qE (by rfl))|exact qM (qF (by rfl))|exact qM (Fit.refl _)|exact qL (qK _)|(refine qM (qE ?_);(try simp only [qV]at *);simp only [zQ,zA,zB,zC,zD,zE,zF,zG,zH,zI,zJ,zK,zL,zM,zN,zO,zP,zR,zS]at *;omega)|(refine qL (qJ ?_);(repeat' (first|exact qA|exact qB|refine qC ?_ rfl ?_|refine qD ?_ ?_|exact qE (by rfl)|exact qF (by rfl)|exact Fit.refl _|exact qG _|(refine qE ?_;(try simp only [qV]at *);simp only [zQ,zA,zB,zC,zD,zE,zF,zG,zH,zI,zJ,zK,zL,zM,zN,zO,zP,zR,zS]at *;omega)));done)|(simp only [hAe];exact qL (qK _))|(refine qL (uae ?_ ?_);(first|rfl|(simp only [hAe];rfl));intro ix h0 h1;exfalso;simp only [hAe]at h1;(try simp only [qV]at *);(try simp only [zQ,zA,zB,zC,zD,zE,zF,zG,zH,zI,zJ,zK,zL,zM,zN,zO,zP,zR,zS]at *);omega)|skip))|skip
theorem uh4 (d:Dsp)(hd:DOk d):ua0 Tryz.prog 51 [(.agg [.clo 86 [] [],.clo 87 [] []]),(wpS d)] [] (fun r _=>r=(.sl 1 (.sym fun _=>zi ((uaA d.pn.toNat (uc7 d))).length) (fun ix=>[(.sl 1 (.sym fun _=>zi (((uaA d.pn.toNat (uc7 d))).getD ix.den.toNat []).length) (fun jx=>[(iv fun _=>(((uaA d.pn.toNat (uc7 d))).getD ix.den.toNat []).getD jx.den.toNat 0)]))]))):=by
 have c90:=uk9 d
 have f6:=hd.f6
 have p4:=hd.p4
 have p1:=hd.p1
 have cadd:=fun (x:Nat) (h:x≤d.pn.toNat)=>(show ua0 Tryz.prog 88 [(iS (([]:List Int))),(iv fun _=>0),(iv fun _=>zi x),.own 0 0,.own 1 0,.own 2 0,.own 3 0] [.cells [(wpS d)] 87,.cells [.clo 86 [] [],.clo 87 [] []] 110,.cells [.row 4] 23,.cells [.clo 88 [] [.own 0 0,.own 1 0,.own 2 0,.own 3 0]] 144,.row 22 1 (.sym fun _=>zi (([]:List (List Int))).length) (fun ix=>[.sl 1 (.sym fun _=>zi ((([]:List (List Int))).getD ix.den.toNat []).length) (fun jx=>[(iv fun _=>((([]:List (List Int))).getD ix.den.toNat []).getD jx.den.toNat 0)])])] (fun r bs=>r = .tup []∧bs=[.cells [(wpS d)] 87,.cells [.clo 86 [] [],.clo 87 [] []] 110,.cells [.row 4] 23,.cells [.clo 88 [] [.own 0 0,.own 1 0,.own 2 0,.own 3 0]] 144,.row 22 1 (.sym fun _=>zi ((ubQ d.pn.toNat (uc7 d) x [] 0)).length) (fun ix=>[.sl 1 (.sym fun _=>zi (((ubQ d.pn.toNat (uc7 d) x [] 0)).getD ix.den.toNat []).length) (fun jx=>[(iv fun _=>(((ubQ d.pn.toNat (uc7 d) x [] 0)).getD ix.den.toNat []).getD jx.den.toNat 0)])])])from uB7 d hd x [] [] 0 0 (zi x) rfl (by simp only [uac]) (Nat.le_refl _) (by omega) (by have:=umR (d:=d) (n:=d.pn.toNat) (ok:=(uc7 d)) (m:=x) (by omega) h;simp only [List.length_nil];omega))
 refine ua0.is fun R hR=>qW (sc:=uAq) uaj mix Tryz.func51 rfl Tryz.call51 (by kernel_rfl) (by kernel_rfl) ?_
 generalize Tryz.prog=P at c90 cadd⊢
 cbv
 repeat' (first|with_reducible refine ua4 ?_ ?_|(refine qP ?_ (c90) ?hfit;(case hfit=>((repeat' (first|exact qB|refine qD ?_ ?_|exact qE (by rfl)|exact qF (by rfl)|exact Fit.refl _|exact qA|refine qC ?_ rfl ?_));done));try cbv)|fail)
 all_goals first|((try simp only [qV]at *);(try simp only [zQ,zA,zB,zC,zD,zE,zF,zG,zH,zI,zJ,zK,zL,zM,zN,zO,zP,zR,zS]at *);first|(refine qN ?_;omega)|(simp only [uai];omega))|skip
 refine⟨none,[⟨.cell 2 0,22,1⟩],{x:Nat // x≤d.pn.toNat+1∧uaA d.pn.toNat (uc7 d)=uoI d.pn.toNat (uc7 d) (d.pn.toNat+1-x) x},fun x=>⟨[(2,.own 0 0),(3,.own 1 0),(4,.own 2 0),(5,.own 3 0),(12,(iv fun _=>d.pn+1)),(13,(iv fun _=>zi x.1))],[(0,.cells [.clo 86 [] [],.clo 87 [] []] 110),(1,.cells [(wpS d)] 87),(2,.cells [.row 12] 23),(3,.cells [.clo 88 [] [.own 1 0,.own 0 0,.own 2 0,.own 3 0]] 144),(12,.row 22 1 (.sym fun _=>zi (([]:List (List Int))).length) (fun ix=>[.sl 1 (.sym fun _=>zi ((([]:List (List Int))).getD ix.den.toNat []).length) (fun jx=>[(iv fun _=>((([]:List (List Int))).getD ix.den.toNat []).getD jx.den.toNat 0)])]))],60⟩,fun x=>d.pn.toNat+1-x.1,?_,?_⟩
 ·refine⟨⟨0,by omega,rfl⟩,?_⟩
  cbv
  repeat' (first|with_reducible refine ua4 ?_ ?_|with_reducible refine And.intro ?_ ?_)
  all_goals first|trivial|exact qM (qE (by rfl))|exact qM (Fit.refl _)|exact qL (qK _)|(refine qL (uae ?_ ?_);(first|rfl|((try simp only [qV]at *);(try simp only [zQ,zA,zB,zC,zD,zE,zF,zG,zH,zI,zJ,zK,zL,zM,zN,zO,zP,zR,zS]at *);omega));intro ix h0 h1;exfalso;(try simp only [qV]at *);(try simp only [zQ,zA,zB,zC,zD,zE,zF,zG,zH,zI,zJ,zK,zL,zM,zN,zO,zP,zR,zS]at *);omega)|skip
 ·rintro ⟨x,hx,h3⟩
  cbv
  obtain⟨A,hA⟩:∃A,A=ubQ d.pn.toNat (uc7 d) x [] 0:=⟨_,rfl⟩
  have caddx:=fun h=>cadd x h
  rw [←hA]at caddx
  cbv
  repeat' (first|with_reducible refine ua4 ?_ ?_|with_reducible refine And.intro ?_ ?_|(with_reducible intro hcd;(try simp only [zA,zB,zC,zD,zE,zF,zG,zH,zI,zJ,zK,zL,zM,zN,zO,zP]at hcd);try cbv)
   | (refine⟨some [1,0,2,3,12],?_⟩
      cbv
      refine qQ ?_ (caddx (by((try simp only [qV]at *);(try simp only [zQ,zA,zB,zC,zD,zE,zF,zG,zH,zI,zJ,zK,zL,zM,zN,zO,zP,zR,zS]at *);omega))) ?hfit ?hbo
      case hfit=>(cbv;refine qD (qO rfl) ?_;(repeat' (first|exact qB|refine qD ?_ ?_|exact qE (by rfl)|exact qF (by rfl)|exact Fit.refl _|exact qA|refine qC ?_ rfl ?_));done)
      case hbo=>(cbv;(repeat' (first|exact qH|refine qI ?_ ?_|exact qK _|refine qJ ?_|exact qA|exact qE (by rfl)|exact qF (by rfl)|exact Fit.refl _|exact qG _|refine qC ?_ rfl ?_));done)
      try cbv)
   |fail)
  all_goals first|((try simp only [qV]at *);(try simp only [zQ,zA,zB,zC,zD,zE,zF,zG,zH,zI,zJ,zK,zL,zM,zN,zO,zP,zR,zS]at *);first|(refine qN ?_;omega)|(simp only [uai];omega))|(subst hR;((have hne:A≠[]:=fun q=>by(rw [q]at hcd;(try simp only [qV]at *);(try simp only [zQ,zA,zB,zC,zD,zE,zF,zG,zH,zI,zJ,zK,zL,zM,zN,zO,zP,zR,zS]at *);simp only [List.length_nil]at hcd;omega));(have e9:=h3.trans (umZ (by((try simp only [qV]at *);(try simp only [zQ,zA,zB,zC,zD,zE,zF,zG,zH,zI,zJ,zK,zL,zM,zN,zO,zP,zR,zS]at *);omega)) (by rw [←hA];exact hne)));rw [←hA]at e9;rw [e9];exact Fit.refl _);done)|(subst hR;((have hz:d.pn.toNat+1-x=0:=by((try simp only [qV]at *);(try simp only [zQ,zA,zB,zC,zD,zE,zF,zG,zH,zI,zJ,zK,zL,zM,zN,zO,zP,zR,zS]at *);omega));rw [hz]at h3;rw [show uaA d.pn.toNat (uc7 d)=[]from h3];exact Fit.refl _);done)|((try simp only [zQ,zA,zB,zC,zD,zE,zF,zG,zH,zI,zJ,zK,zL,zM,zN,zO,zP,zR,zS]at *);(have hAe:A=[]:=List.length_eq_zero_iff.1 (by((try simp only [qV]at *);(try simp only [zQ,zA,zB,zC,zD,zE,zF,zG,zH,zI,zJ,zK,zL,zM,zN,zO,zP,zR,zS]at *);omega)));refine⟨⟨x+1,by((try simp only [qV]at *);(try simp only [zQ,zA,zB,zC,zD,zE,zF,zG,zH,zI,zJ,zK,zL,zM,zN,zO,zP,zR,zS]at *);omega),by rw [show d.pn.toNat+1-(x+1)=d.pn.toNat+1-x-1 by omega,←uty (by((try simp only [qV]at *);(try simp only [zQ,zA,zB,zC,zD,zE,zF,zG,zH,zI,zJ,zK,zL,zM,zN,zO,zP,zR,zS]at *);omega)) (hA.symm.trans hAe)];exact h3⟩,by simp only [];omega,?_⟩;cbv;(repeat' (first|with_reducible refine ua4 ?_ ?_|with_reducible refine And.intro ?_ ?_));(all_goals first|trivial|exact qM (qE (by rfl))|exact qM (qF (by rfl))|exact qM (Fit.refl _)|exact qL (qK _)|(refine qM (qE ?_);(try simp only [qV]at *);simp only [zQ,zA,zB,zC,zD,zE,zF,zG,zH,zI,zJ,zK,zL,zM,zN,zO,zP,zR,zS]at *;omega)|(refine qL (qJ ?_);(repeat' (first|exact qA|exact qB|refine qC ?_ rfl ?_|refine qD ?_ ?_|exact qE (by rfl)|exact qF (by rfl)|exact Fit.refl _|exact qG _|(refine qE ?_;(try simp only [qV]at *);simp only [zQ,zA,zB,zC,zD,zE,zF,zG,zH,zI,zJ,zK,zL,zM,zN,zO,zP,zR,zS]at *;omega)));done)|(simp only [hAe];exact qL (qK _))|(refine qL (uae ?_ ?_);(first|rfl|(simp only [hAe];rfl));intro ix h0 h1;exfalso;simp only [hAe]at h1;(try simp only [qV]at *);(try simp only [zQ,zA,zB,zC,zD,zE,zF,zG,zH,zI,zJ,zK,zL,zM,zN,zO,zP,zR,zS]at *);omega)|skip))|skip
end Go.Proofs.YtkdggbfknlcdaaaGreat
namespace Go.Proofs.YtkdggbfknlcdaaaGreat
open Go.Eng.Dif Go.Eng.Few
def ptD (d:Dsp)(i:Nat):Int:=(d.fs.getD i f0T).p
theorem uqe (d:Dsp):udB d=okF (SN d) (LO d) (FO d d.fs):=funext fun o=>upS
theorem ulR {d:Dsp}(h:DOk d):uc7 d=okP (SN d) (LO d) (FO d d.fs) (ptD d):=by
 funext o
 unfold uc7 okP
 rw [upS]
 unfold okF
 refine ukA (okk h h.f) fun i hi=> ?_
 rw [udj]at hi
 unfold uyB ukJ
 have e:(thN d o d.fs.length).contains (i:Int)=inL o (d.fs.getD i f0T).p:=uv1 hi
 rw [e,uhR]
 rfl
theorem uzJ {d:Dsp}(h:DOk d):∀i,i<(FO d d.fs).length→0≤ptD d i∧ptD d i<(d.pn.toNat:Int):=by
 intro i hi
 rw [udj]at hi
 have q:=h.f i hi
 have:=h.p1
 unfold ubN at q
 unfold ptD
 omega
theorem uzb {d:Dsp}(h:DOk d)(hl:udX d=true):udB d (uaZ d.fs.length)=true:=by
 rw [uqe]
 have:=uqM (okk h h.f)
 rw [udj]at this
 rw [this,←umn];exact hl
theorem uzy {d:Dsp}(h:DOk d)(hl:udX d=true):uc7 d (uaZ d.pn.toNat)=true:=by
 rw [ulR h,uqc (okk h h.f) (uzJ h),←umn];exact hl
theorem ufw {d:Dsp}(h:uam d=0):udB d (uaZ d.fs.length)=true:=uzb (ua3.1 (uaH h).1) (uaH h).2
theorem ufz {d:Dsp}(h:uam d=0):uc7 d (uaZ d.pn.toNat)=true:=uzy (ua3.1 (uaH h).1) (uaH h).2
theorem uhm {n:Nat} {ok:List Int→Bool}(h:ok (uaZ n)=true):0<(uaA n ok).length∧(uaA n ok).getD 0 []=udL n ok:=by
 have:=unz h
 cases hs:uaA n ok with
 |nil=>rw [hs]at this;cases this
 | cons a l=>
  rw [hs]at this
  refine⟨by simp,?_⟩
  have e:some a=some (udL n ok):=this
  show a=_
  exact Option.some.inj e
def ug4 (d:Dsp):List Int:=if uam d=0 then udL d.fs.length (udB d)else []
def utS (d:Dsp):List Int:=if uam d=0 then udL d.pn.toNat (uc7 d)else []
end Go.Proofs.YtkdggbfknlcdaaaGreat
namespace Go.Proofs.YtkdggbfknlcdaaaGreat
open Go Go.Eng Go.Proofs Go.Eng.Dif Go.Eng.Few
set_option maxRecDepth 10000
theorem uoy (d:Dsp)(h:uam d=0):ua0 Tryz.prog 45 [(.agg [.clo 84 [] [],.clo 85 [] []]),(ub0 d)] [] (fun r _=>r=(.tup [(iS ((ug4 d))),(iv fun _=>uam d)])):=by
 have c59:=umu d h
 have hd:=ua3.1 (uaH h).1
 have hs:=uhm (ufw h)
 have hsm:ug4 d=udL d.fs.length (udB d):=if_pos h
 rw [hsm,h,←hs.2]
 have hs1:=hs.1
 have c61:=uqB d hd
 obtain⟨Q,hQ⟩:∃Q,Q=uaA d.fs.length (udB d):=⟨_,rfl⟩
 rw [←hQ]at c61 hs1⊢
 refine ua0.is fun R hR=>qW (sc:=uyd) uaj mix Tryz.func45 rfl Tryz.call45 (by kernel_rfl) (by kernel_rfl) ?_
 generalize Tryz.prog=P at c59 c61⊢
 cbv
 repeat' (first|with_reducible refine ua4 ?_ ?_|with_reducible refine And.intro ?_ ?_|(with_reducible intro hcd;(try simp only [zA,zB,zC,zD,zE,zF,zG,zH,zI,zJ,zK,zL,zM,zN,zO,zP]at hcd);try cbv)|(refine qP ?_ (c59) ?hfit;(case hfit=>((repeat' (first|exact qB|refine qD ?_ ?_|exact qE (by rfl)|exact qF (by rfl)|exact Fit.refl _|exact qA|refine qC ?_ rfl ?_));done));try cbv)|(refine qP ?_ (c61) ?hfit;(case hfit=>((repeat' (first|exact qB|refine qD ?_ ?_|exact qE (by rfl)|exact qF (by rfl)|exact Fit.refl _|exact qA|refine qC ?_ rfl ?_));done));try cbv)|fail)
 all_goals first|trivial|((try simp only [qV]at *);(try simp only [zQ,zA,zB,zC,zD,zE,zF,zG,zH,zI,zJ,zK,zL,zM,zN,zO,zP,zR,zS]at *);first|(refine qN ?_;omega)|(simp only [uai];omega))|(subst hR;(repeat' (first|exact qA|exact qB|refine qC ?_ rfl ?_|refine qD ?_ ?_|exact qE (by rfl)|exact qF (by rfl)|exact Fit.refl _|exact qG _|(refine qE ?_;(try simp only [qV]at *);simp only [zQ,zA,zB,zC,zD,zE,zF,zG,zH,zI,zJ,zK,zL,zM,zN,zO,zP,zR,zS]at *;omega)));done)|skip
theorem unw (d:Dsp)(h:¬uam d=0):ua0 Tryz.prog 45 [(.agg [.clo 84 [] [],.clo 85 [] []]),(ub0 d)] [] (fun r _=>r=(.tup [(iS ((ug4 d))),(iv fun _=>uam d)])):=by
 have c59:=uj4 d h
 refine ua0.is fun R hR=>qW (sc:=uyd) uaj mix Tryz.func45 rfl Tryz.call45 (by kernel_rfl) (by kernel_rfl) ?_
 generalize Tryz.prog=P at c59⊢
 cbv
 repeat' (first|with_reducible refine And.intro ?_ ?_|(with_reducible intro hcd;(try simp only [zA,zB,zC,zD,zE,zF,zG,zH,zI,zJ,zK,zL,zM,zN,zO,zP]at hcd);try cbv)|(refine qP ?_ (c59) ?hfit;(case hfit=>((repeat' (first|exact qB|refine qD ?_ ?_|exact qE (by rfl)|exact qF (by rfl)|exact Fit.refl _|exact qA|refine qC ?_ rfl ?_));done));try cbv)|fail)
 all_goals first|trivial|(subst hR;(exact qD (qO (by(have e:ug4 d=[]:=if_neg h);rw [e];rfl)) (qD (Fit.refl _) qB));done)|skip
theorem upM (d:Dsp):ua0 Tryz.prog 45 [(.agg [.clo 84 [] [],.clo 85 [] []]),(ub0 d)] [] (fun r _=>r=(.tup [(iS ((ug4 d))),(iv fun _=>uam d)])):=by
 by_cases h:uam d=0
 ·exact uoy d h
 ·exact unw d h
theorem urm (d:Dsp):ua0 Tryz.prog 13 [(ub0 d)] [] (fun r _=>r=(.tup [(iS ((ug4 d))),(iv fun _=>uam d)])):=by
 have cb:=utf
 have c57:=upM d
 refine ua0.is fun R hR=>qW (sc:=uBk) uaj mix Tryz.func13 rfl Tryz.call13 (by kernel_rfl) (by kernel_rfl) ?_
 generalize Tryz.prog=P at cb c57⊢
 cbv
 repeat' (first|(refine qP ?_ (cb) ?hfit;(case hfit=>((repeat' (first|exact qB|refine qD ?_ ?_|exact qE (by rfl)|exact qF (by rfl)|exact Fit.refl _|exact qA|refine qC ?_ rfl ?_));done));try cbv)|(refine qP ?_ (c57) ?hfit;(case hfit=>((repeat' (first|exact qB|refine qD ?_ ?_|exact qE (by rfl)|exact qF (by rfl)|exact Fit.refl _|exact qA|refine qC ?_ rfl ?_));done));try cbv)|fail)
 all_goals first|(subst hR;(repeat' (first|exact qA|exact qB|refine qC ?_ rfl ?_|refine qD ?_ ?_|exact qE (by rfl)|exact qF (by rfl)|exact Fit.refl _|exact qG _|(refine qE ?_;(try simp only [qV]at *);simp only [zQ,zA,zB,zC,zD,zE,zF,zG,zH,zI,zJ,zK,zL,zM,zN,zO,zP,zR,zS]at *;omega)));done)|skip
theorem unG (d:Dsp)(h:uam d=0):ua0 Tryz.prog 45 [(.agg [.clo 86 [] [],.clo 87 [] []]),(ub0 d)] [] (fun r _=>r=(.tup [(iS ((utS d))),(iv fun _=>uam d)])):=by
 have c59:=umu d h
 have hd:=ua3.1 (uaH h).1
 have hs:=uhm (ufz h)
 have hsm:utS d=udL d.pn.toNat (uc7 d):=if_pos h
 rw [hsm,h,←hs.2]
 have hs1:=hs.1
 have c61:=uh4 d hd
 obtain⟨Q,hQ⟩:∃Q,Q=uaA d.pn.toNat (uc7 d):=⟨_,rfl⟩
 rw [←hQ]at c61 hs1⊢
 refine ua0.is fun R hR=>qW (sc:=uyd) uaj mix Tryz.func45 rfl Tryz.call45 (by kernel_rfl) (by kernel_rfl) ?_
 generalize Tryz.prog=P at c59 c61⊢
 cbv
 repeat' (first|with_reducible refine ua4 ?_ ?_|with_reducible refine And.intro ?_ ?_|(with_reducible intro hcd;(try simp only [zA,zB,zC,zD,zE,zF,zG,zH,zI,zJ,zK,zL,zM,zN,zO,zP]at hcd);try cbv)|(refine qP ?_ (c59) ?hfit;(case hfit=>((repeat' (first|exact qB|refine qD ?_ ?_|exact qE (by rfl)|exact qF (by rfl)|exact Fit.refl _|exact qA|refine qC ?_ rfl ?_));done));try cbv)|(refine qP ?_ (c61) ?hfit;(case hfit=>((repeat' (first|exact qB|refine qD ?_ ?_|exact qE (by rfl)|exact qF (by rfl)|exact Fit.refl _|exact qA|refine qC ?_ rfl ?_));done));try cbv)|fail)
 all_goals first|trivial|((try simp only [qV]at *);(try simp only [zQ,zA,zB,zC,zD,zE,zF,zG,zH,zI,zJ,zK,zL,zM,zN,zO,zP,zR,zS]at *);first|(refine qN ?_;omega)|(simp only [uai];omega))|(subst hR;(repeat' (first|exact qA|exact qB|refine qC ?_ rfl ?_|refine qD ?_ ?_|exact qE (by rfl)|exact qF (by rfl)|exact Fit.refl _|exact qG _|(refine qE ?_;(try simp only [qV]at *);simp only [zQ,zA,zB,zC,zD,zE,zF,zG,zH,zI,zJ,zK,zL,zM,zN,zO,zP,zR,zS]at *;omega)));done)|skip
theorem unH (d:Dsp)(h:¬uam d=0):ua0 Tryz.prog 45 [(.agg [.clo 86 [] [],.clo 87 [] []]),(ub0 d)] [] (fun r _=>r=(.tup [(iS ((utS d))),(iv fun _=>uam d)])):=by
 have c59:=uj4 d h
 refine ua0.is fun R hR=>qW (sc:=uyd) uaj mix Tryz.func45 rfl Tryz.call45 (by kernel_rfl) (by kernel_rfl) ?_
 generalize Tryz.prog=P at c59⊢
 cbv
 repeat' (first|with_reducible refine And.intro ?_ ?_|(with_reducible intro hcd;(try simp only [zA,zB,zC,zD,zE,zF,zG,zH,zI,zJ,zK,zL,zM,zN,zO,zP]at hcd);try cbv)|(refine qP ?_ (c59) ?hfit;(case hfit=>((repeat' (first|exact qB|refine qD ?_ ?_|exact qE (by rfl)|exact qF (by rfl)|exact Fit.refl _|exact qA|refine qC ?_ rfl ?_));done));try cbv)|fail)
 all_goals first|trivial|(subst hR;(exact qD (qO (by(have e:utS d=[]:=if_neg h);rw [e];rfl)) (qD (Fit.refl _) qB));done)|skip
theorem uqD (d:Dsp):ua0 Tryz.prog 45 [(.agg [.clo 86 [] [],.clo 87 [] []]),(ub0 d)] [] (fun r _=>r=(.tup [(iS ((utS d))),(iv fun _=>uam d)])):=by
 by_cases h:uam d=0
 ·exact unG d h
 ·exact unH d h
theorem uqj (d:Dsp):ua0 Tryz.prog 18 [(ub0 d)] [] (fun r _=>r=(.tup [(iS ((utS d))),(iv fun _=>uam d)])):=by
 have cb:=ugM
 have c57:=uqD d
 refine ua0.is fun R hR=>qW (sc:=uCh) uaj mix Tryz.func18 rfl Tryz.call18 (by kernel_rfl) (by kernel_rfl) ?_
 generalize Tryz.prog=P at cb c57⊢
 cbv
 repeat' (first|(refine qP ?_ (cb) ?hfit;(case hfit=>((repeat' (first|exact qB|refine qD ?_ ?_|exact qE (by rfl)|exact qF (by rfl)|exact Fit.refl _|exact qA|refine qC ?_ rfl ?_));done));try cbv)|(refine qP ?_ (c57) ?hfit;(case hfit=>((repeat' (first|exact qB|refine qD ?_ ?_|exact qE (by rfl)|exact qF (by rfl)|exact Fit.refl _|exact qA|refine qC ?_ rfl ?_));done));try cbv)|fail)
 all_goals first|(subst hR;(repeat' (first|exact qA|exact qB|refine qC ?_ rfl ?_|refine qD ?_ ?_|exact qE (by rfl)|exact qF (by rfl)|exact Fit.refl _|exact qG _|(refine qE ?_;(try simp only [qV]at *);simp only [zQ,zA,zB,zC,zD,zE,zF,zG,zH,zI,zJ,zK,zL,zM,zN,zO,zP,zR,zS]at *;omega)));done)|skip
end Go.Proofs.YtkdggbfknlcdaaaGreat
namespace Go.Proofs.YtkdggbfknlcdaaaGreat
open Go.Eng.Dif Go.Eng.Few
theorem ul5 {L:List (List Int)} {i:Nat}(h:i<L.length):L.getD i []∈L:=by
 rw [List.getD_eq_getElem?_getD,List.getElem?_eq_getElem h];exact List.getElem_mem h
theorem uq7 {L:List (List Int)} {x:List Int}(h:x∈L):∃i,i<L.length∧L.getD i []=x:=by
 obtain⟨i,h1,h2⟩:=List.getElem_of_mem h
 exact⟨i,h1,by rw [List.getD_eq_getElem?_getD,List.getElem?_eq_getElem h1];exact h2⟩
theorem uu7 (L:List (List Int))(p:Int):uhy (fun i=>inL (L.getD i []) p) L.length=L.all fun F=>F.contains p:=by
 apply Bool.eq_iff_iff.2
 rw [uah,List.all_eq_true]
 constructor
 ·intro h x hx
  obtain⟨i,h1,h2⟩:=uq7 hx
  rw [←h2,←uhR];exact h i h1
 ·intro h i hi
  rw [uhR];exact h _ (ul5 hi)
theorem utM (L:List (List Int))(p:Int):decide (0≤ubL (fun i=> !(inL (L.getD i []) p)) L.length 0)=L.any fun F=>F.contains p:=by
 apply Bool.eq_iff_iff.2
 rw [decide_eq_true_eq,uiC,List.any_eq_true]
 constructor
 ·rintro⟨j,_,h2,h3⟩
  refine⟨L.getD j [],ul5 (by omega),?_⟩
  rw [←uhR]
  simpa using h3
 ·rintro⟨x,hx,hp⟩
  obtain⟨i,h1,h2⟩:=uq7 hx
  refine⟨i,by omega,by omega,?_⟩
  rw [h2,uhR,hp];rfl
def um2 (d:Dsp):Nat→Bool:=ul2 d.pn.toNat (uc7 d)
def uru (d:Dsp):Nat→Bool:=ulq d.pn.toNat (uc7 d)
def uib (d:Dsp):List Int:=if uam d=0 then uc0 (um2 d) d.pn.toNat else []
def us2 (d:Dsp):List Int:=if uam d=0 then uc0 (uru d) d.pn.toNat else []
theorem ur3 {f:Nat→Bool} {k:Nat}(h:f k=true):uc0 f (k+1)=uc0 f k++[(k:Int)]:=by simp only [uc0,h,if_true]
theorem upx {f:Nat→Bool} {k:Nat}(h:f k=false):uc0 f (k+1)=uc0 f k:=by simp only [uc0,h,Bool.false_eq_true,if_false]
theorem uiB (f:Nat→Bool):∀n,(uc0 f n).length≤n:=by
 intro n
 induction n with
 |zero=>exact Nat.le_refl _
 | succ n ih=>
  cases h:f n with
  |true=>rw [ur3 h,List.length_append];simp only [List.length_cons,List.length_nil];omega
  |false=>rw [upx h];omega
theorem ujG {n:Nat} {ok:List Int→Bool}(hn:n≤4)(h:ok (uaZ n)=true):(uaA n ok).length≤1000∧∀i,((uaA n ok).getD i []).length≤1000:=by
 have hl:∀F∈uaA n ok,F.length≤4:=fun F hF=>by
  have q:=(uft h).1 hF
  have:=ulD h
  omega
 constructor
 ·obtain⟨j,h1,h2,_,_⟩:=uiO h
  rw [h2]
  exact Nat.le_trans umM (Nat.le_trans (Nat.pow_le_pow_left hn j) (Nat.le_trans (Nat.pow_le_pow_right (by omega) (show j≤4 by omega)) (by decide)))
 ·intro i
  rcases Nat.lt_or_ge i (uaA n ok).length with q|q
  ·have:=hl _ (ul5 q);omega
  ·rw [List.getD_eq_getElem?_getD,List.getElem?_eq_none q];simp
end Go.Proofs.YtkdggbfknlcdaaaGreat
namespace Go.Proofs.YtkdggbfknlcdaaaGreat
open Go Go.Eng Go.Proofs Go.Eng.Dif Go.Eng.Few
set_option maxRecDepth 10000
theorem uoW (x:List Int)(p:Int)(hx:x.length≤1000):ua0 Tryz.prog 52 [(iS x),.own 0 0] [.cells [(iv fun _=>p)] 3] (fun r bs=>r=(bv fun _=>inL x p)∧bs=[.cells [(iv fun _=>p)] 3]):=by
 have c63:=ufV x p hx
 refine ua0.isB rfl fun R B hR hB=>qW (sc:=uBT) uaj mix Tryz.func52 rfl Tryz.call52 (by kernel_rfl) (by kernel_rfl) ?_
 generalize Tryz.prog=P at c63⊢
 cbv
 repeat' (first|with_reducible refine And.intro ?_ ?_|(refine qP ?_ (c63) ?hfit;(case hfit=>((repeat' (first|exact qB|refine qD ?_ ?_|exact qE (by rfl)|exact qF (by rfl)|exact Fit.refl _|exact qA|refine qC ?_ rfl ?_));done));try cbv)|fail)
 all_goals first|(subst hR;(repeat' (first|exact qA|exact qB|refine qC ?_ rfl ?_|refine qD ?_ ?_|exact qE (by rfl)|exact qF (by rfl)|exact Fit.refl _|exact qG _|(refine qE ?_;(try simp only [qV]at *);simp only [zQ,zA,zB,zC,zD,zE,zF,zG,zH,zI,zJ,zK,zL,zM,zN,zO,zP,zR,zS]at *;omega)));done)|(subst hB;(repeat' (first|exact qH|refine qI ?_ ?_|exact qK _|refine qJ ?_|exact qA|exact qE (by rfl)|exact qF (by rfl)|exact Fit.refl _|exact qG _|refine qC ?_ rfl ?_));done)|skip
theorem uoq (L:List (List Int))(p:Int)(hL:∀i,(L.getD i []).length≤1000)(hfew:L.length≤1000)(i:Nat)(hi:i<L.length∧∀j,j<i→(inL (L.getD (j) []) p)=true):ua0 Tryz.prog 91 [(.sl 1 (.sym fun _=>zi ((L.getD (i) [])).length) (fun ix=>[(iv fun _=>((L.getD (i) [])).getD ix.den.toNat 0)])),.own 0 0] [.cells [.clo 52 [] [.own 1 0]] 117,.cells [(iv fun _=>p)] 3] (fun r bs=>r=(bv fun _=> !(inL (L.getD (i) []) p))∧bs=[.cells [.clo 52 [] [.own 1 0]] 117,.cells [(iv fun _=>p)] 3]):=by
 have cf:=uoW (L.getD i []) p (hL i)
 refine ua0.isB rfl fun R B hR hB=>qW (sc:=uB5) uaj mix Tryz.func91 rfl Tryz.call91 (by kernel_rfl) (by kernel_rfl) ?_
 generalize Tryz.prog=P at cf⊢
 cbv
 repeat' (first|with_reducible refine And.intro ?_ ?_
  | (refine⟨some [1],?_⟩
     cbv
     refine qQ ?_ (cf) (by cbv;(repeat' (first|exact qB|refine qD ?_ ?_|exact qE (by rfl)|exact qF (by rfl)|exact Fit.refl _|exact qA|refine qC ?_ rfl ?_))) (by cbv;(repeat' (first|exact qH|refine qI ?_ ?_|exact qK _|refine qJ ?_|exact qA|exact qE (by rfl)|exact qF (by rfl)|exact Fit.refl _|exact qG _|refine qC ?_ rfl ?_)))
     try cbv)
  |fail)
 all_goals first|(subst hR;(repeat' (first|exact qA|exact qB|refine qC ?_ rfl ?_|refine qD ?_ ?_|exact qE (by rfl)|exact qF (by rfl)|exact Fit.refl _|exact qG _|(refine qE ?_;(try simp only [qV]at *);simp only [zQ,zA,zB,zC,zD,zE,zF,zG,zH,zI,zJ,zK,zL,zM,zN,zO,zP,zR,zS]at *;omega)));done)|(subst hB;(repeat' (first|exact qH|refine qI ?_ ?_|exact qK _|refine qJ ?_|exact qA|exact qE (by rfl)|exact qF (by rfl)|exact Fit.refl _|exact qG _|refine qC ?_ rfl ?_));done)|skip
theorem unC (L:List (List Int))(p:Int)(hL:∀i,(L.getD i []).length≤1000)(hfew:L.length≤1000):ua0 Tryz.prog 92 [(.sl 1 (.sym fun _=>zi (L).length) (fun ix=>[(.sl 1 (.sym fun _=>zi ((L).getD ix.den.toNat []).length) (fun jx=>[(iv fun _=>((L).getD ix.den.toNat []).getD jx.den.toNat 0)]))])),.clo 91 [] [.own 0 0]] [.cells [.clo 52 [] [.own 1 0]] 117,.cells [(iv fun _=>p)] 3] (fun r bs=>r=(iv fun _=>ubL (fun i=>inL (L.getD (i) []) p) (L.length) 0)∧bs=[.cells [.clo 52 [] [.own 1 0]] 117,.cells [(iv fun _=>p)] 3]):=by
 have cl:=uoq L p hL hfew
 refine ua0.isB rfl fun R B hR hB=>qW (sc:=uzT) uaj mix Tryz.func92 rfl Tryz.call92 (by kernel_rfl) (by kernel_rfl) ?_
 generalize Tryz.prog=P at cl⊢
 cbv
 repeat' (first|fail)
 all_goals first|skip
 refine⟨none,[],{i:Nat // i≤L.length∧ubL (fun i=>inL (L.getD (i) []) p) (L.length) 0=ubL (fun i=>inL (L.getD (i) []) p) (L.length-i) i∧∀j,j<i→(inL (L.getD (j) []) p)=true},fun x=>⟨[(0,(.sl 1 (.sym fun _=>zi (L).length) (fun ix=>[(.sl 1 (.sym fun _=>zi ((L).getD ix.den.toNat []).length) (fun jx=>[(iv fun _=>((L).getD ix.den.toNat []).getD jx.den.toNat 0)]))]))),(1,.clo 91 [] [.own 0 0]),(7,(iv fun _=>zi (L.length))),(8,(iv fun _=>zi x.1))],[(0,.cells [.clo 52 [] [.own 1 0]] 117),(1,.cells [(iv fun _=>p)] 3)],20⟩,fun x=>L.length-x.1,?_,?_⟩
 ·refine⟨⟨0,by omega,rfl,fun j hj=>by omega⟩,?_⟩
  cbv
  repeat' (first|with_reducible refine ua4 ?_ ?_|with_reducible refine And.intro ?_ ?_)
  all_goals first|trivial|exact qM (qE (by rfl))|exact qM (Fit.refl _)|exact qL (qK _)|skip
 ·rintro ⟨i,hi,hr,hq⟩
  cbv
  repeat' (first|with_reducible refine ua4 ?_ ?_|with_reducible refine And.intro ?_ ?_|(with_reducible intro hcd;(try simp only [zA,zB,zC,zD,zE,zF,zG,zH,zI,zJ,zK,zL,zM,zN,zO,zP]at hcd);try cbv)
   | (refine⟨some [0,1],?_⟩
      cbv
      refine qQ ?_ (cl i ⟨by(try simp only [qV]at *);simp only [uac]at *;omega,hq⟩) (by cbv;(repeat' (first|exact qB|refine qD ?_ ?_|exact qE (by rfl)|exact qF (by rfl)|exact Fit.refl _|exact qA|refine qC ?_ rfl ?_))) (by cbv;(repeat' (first|exact qH|refine qI ?_ ?_|exact qK _|refine qJ ?_|exact qA|exact qE (by rfl)|exact qF (by rfl)|exact Fit.refl _|exact qG _|refine qC ?_ rfl ?_)))
      try cbv)
   |fail)
  all_goals first|((try simp only [qV]at *);(try simp only [zQ,zA,zB,zC,zD,zE,zF,zG,zH,zI,zJ,zK,zL,zM,zN,zO,zP,zR,zS]at *);first|(refine qN ?_;omega)|(simp only [uai];omega))|(subst hR;(refine qE ?_;simp only [zQ,zA,zB,zC,zD,zE,zF,zG,zH,zI,zJ,zK,zL,zM,zN,zO,zP,zR,zS]at *;rw [hr,ubc (by omega) hcd]);done)|(subst hR;(refine qE ?_;simp only [zQ,zA,zB,zC,zD,zE,zF,zG,zH,zI,zJ,zK,zL,zM,zN,zO,zP,zR,zS]at *;rw [hr,show L.length-i=0 by omega];rfl);done)|(subst hB;(repeat' (first|exact qH|refine qI ?_ ?_|exact qK _|refine qJ ?_|exact qA|exact qE (by rfl)|exact qF (by rfl)|exact Fit.refl _|exact qG _|refine qC ?_ rfl ?_));done)|((try simp only [zQ,zA,zB,zC,zD,zE,zF,zG,zH,zI,zJ,zK,zL,zM,zN,zO,zP,zR,zS]at *);refine⟨⟨i+1,by omega,by rw [hr,ucs (by omega) hcd];(try congr 1)<;>omega,fun j hj=>(Nat.lt_or_ge j i).elim (hq j) (fun q=>by rw [show j=i by omega];exact hcd)⟩,by simp only [];omega,?_⟩;cbv;(repeat' (first|with_reducible refine ua4 ?_ ?_|with_reducible refine And.intro ?_ ?_));(all_goals first|trivial|exact qM (qE (by rfl))|exact qM (qF (by rfl))|exact qM (Fit.refl _)|exact qL (qK _)|(refine qM (qE ?_);(try simp only [qV]at *);simp only [zQ,zA,zB,zC,zD,zE,zF,zG,zH,zI,zJ,zK,zL,zM,zN,zO,zP,zR,zS]at *;omega)|(refine qL (qJ ?_);(repeat' (first|exact qA|exact qB|refine qC ?_ rfl ?_|refine qD ?_ ?_|exact qE (by rfl)|exact qF (by rfl)|exact Fit.refl _|exact qG _|(refine qE ?_;(try simp only [qV]at *);simp only [zQ,zA,zB,zC,zD,zE,zF,zG,zH,zI,zJ,zK,zL,zM,zN,zO,zP,zR,zS]at *;omega)));done)|skip))|skip
theorem ulO (L:List (List Int))(p:Int)(hL:∀i,(L.getD i []).length≤1000)(hfew:L.length≤1000):ua0 Tryz.prog 55 [(.sl 1 (.sym fun _=>zi (L).length) (fun ix=>[(.sl 1 (.sym fun _=>zi ((L).getD ix.den.toNat []).length) (fun jx=>[(iv fun _=>((L).getD ix.den.toNat []).getD jx.den.toNat 0)]))])),.clo 91 [] [.own 0 0]] [.cells [.clo 52 [] [.own 1 0]] 117,.cells [(iv fun _=>p)] 3] (fun r bs=>r=(bv fun _=>decide (0≤ubL (fun i=>inL (L.getD (i) []) p) (L.length) 0))∧bs=[.cells [.clo 52 [] [.own 1 0]] 117,.cells [(iv fun _=>p)] 3]):=by
 have ci:=unC L p hL hfew
 refine ua0.isB rfl fun R B hR hB=>qW (sc:=uyU) uaj mix Tryz.func55 rfl Tryz.call55 (by kernel_rfl) (by kernel_rfl) ?_
 generalize Tryz.prog=P at ci⊢
 cbv
 repeat' (first|with_reducible refine And.intro ?_ ?_
  | (refine⟨some [0,1],?_⟩
     cbv
     refine qQ ?_ (ci) (by cbv;(repeat' (first|exact qB|refine qD ?_ ?_|exact qE (by rfl)|exact qF (by rfl)|exact Fit.refl _|exact qA|refine qC ?_ rfl ?_))) (by cbv;(repeat' (first|exact qH|refine qI ?_ ?_|exact qK _|refine qJ ?_|exact qA|exact qE (by rfl)|exact qF (by rfl)|exact Fit.refl _|exact qG _|refine qC ?_ rfl ?_)))
     try cbv)
  |fail)
 all_goals first|(subst hR;(repeat' (first|exact qA|exact qB|refine qC ?_ rfl ?_|refine qD ?_ ?_|exact qE (by rfl)|exact qF (by rfl)|exact Fit.refl _|exact qG _|(refine qE ?_;(try simp only [qV]at *);simp only [zQ,zA,zB,zC,zD,zE,zF,zG,zH,zI,zJ,zK,zL,zM,zN,zO,zP,zR,zS]at *;omega)));done)|(subst hB;(repeat' (first|exact qH|refine qI ?_ ?_|exact qK _|refine qJ ?_|exact qA|exact qE (by rfl)|exact qF (by rfl)|exact Fit.refl _|exact qG _|refine qC ?_ rfl ?_));done)|skip
theorem uhN (L:List (List Int))(p:Int)(hL:∀i,(L.getD i []).length≤1000)(hfew:L.length≤1000):ua0 Tryz.prog 54 [(.sl 1 (.sym fun _=>zi (L).length) (fun ix=>[(.sl 1 (.sym fun _=>zi ((L).getD ix.den.toNat []).length) (fun jx=>[(iv fun _=>((L).getD ix.den.toNat []).getD jx.den.toNat 0)]))])),.clo 52 [] [.own 0 0]] [.cells [(iv fun _=>p)] 3] (fun r bs=>r=(bv fun _=>uhy (fun i=>inL (L.getD (i) []) p) (L.length))∧bs=[.cells [(iv fun _=>p)] 3]):=by
 have cc:=ulO L p hL hfew
 refine ua0.isB rfl fun R B hR hB=>qW (sc:=uC7) uaj mix Tryz.func54 rfl Tryz.call54 (by kernel_rfl) (by kernel_rfl) ?_
 generalize Tryz.prog=P at cc⊢
 cbv
 repeat' (first|with_reducible refine And.intro ?_ ?_
  | (refine⟨some [1,0],?_⟩
     cbv
     refine qQ ?_ (cc) (by cbv;(repeat' (first|exact qB|refine qD ?_ ?_|exact qE (by rfl)|exact qF (by rfl)|exact Fit.refl _|exact qA|refine qC ?_ rfl ?_))) (by cbv;(repeat' (first|exact qH|refine qI ?_ ?_|exact qK _|refine qJ ?_|exact qA|exact qE (by rfl)|exact qF (by rfl)|exact Fit.refl _|exact qG _|refine qC ?_ rfl ?_)))
     try cbv)
  |fail)
 all_goals first|(subst hR;(repeat' (first|exact qA|exact qB|refine qC ?_ rfl ?_|refine qD ?_ ?_|exact qE (by rfl)|exact qF (by rfl)|exact Fit.refl _|exact qG _|(refine qE ?_;(try simp only [qV]at *);simp only [zQ,zA,zB,zC,zD,zE,zF,zG,zH,zI,zJ,zK,zL,zM,zN,zO,zP,zR,zS]at *;omega)));done)|(subst hB;(repeat' (first|exact qH|refine qI ?_ ?_|exact qK _|refine qJ ?_|exact qA|exact qE (by rfl)|exact qF (by rfl)|exact Fit.refl _|exact qG _|refine qC ?_ rfl ?_));done)|skip
theorem upX (L:List (List Int))(p:Int)(hL:∀i,(L.getD i []).length≤1000)(hfew:L.length≤1000):ua0 Tryz.prog 92 [(.sl 1 (.sym fun _=>zi (L).length) (fun ix=>[(.sl 1 (.sym fun _=>zi ((L).getD ix.den.toNat []).length) (fun jx=>[(iv fun _=>((L).getD ix.den.toNat []).getD jx.den.toNat 0)]))])),.clo 52 [] [.own 0 0]] [.cells [(iv fun _=>p)] 3] (fun r bs=>r=(iv fun _=>ubL (fun i=> !(inL (L.getD i []) p)) L.length 0)∧bs=[.cells [(iv fun _=>p)] 3]):=by
 have c62:=fun (i:Nat)=>uoW (L.getD i []) p (hL i)
 refine ua0.isB rfl fun R B hR hB=>qW (sc:=uzT) uaj mix Tryz.func92 rfl Tryz.call92 (by kernel_rfl) (by kernel_rfl) ?_
 generalize Tryz.prog=P at c62⊢
 cbv
 repeat' (first|fail)
 all_goals first|skip
 refine⟨none,[],{i:Nat // i≤L.length∧ubL (fun i=> !(inL (L.getD i []) p)) L.length 0=ubL (fun i=> !(inL (L.getD i []) p)) (L.length-i) i},fun x=>⟨[(0,(.sl 1 (.sym fun _=>zi (L).length) (fun ix=>[(.sl 1 (.sym fun _=>zi ((L).getD ix.den.toNat []).length) (fun jx=>[(iv fun _=>((L).getD ix.den.toNat []).getD jx.den.toNat 0)]))]))),(1,.clo 52 [] [.own 0 0]),(7,(iv fun _=>zi L.length)),(8,(iv fun _=>zi x.1))],[(0,.cells [(iv fun _=>p)] 3)],20⟩,fun x=>L.length-x.1,?_,?_⟩
 ·refine⟨⟨0,by omega,rfl⟩,?_⟩
  cbv
  repeat' (first|with_reducible refine ua4 ?_ ?_|with_reducible refine And.intro ?_ ?_)
  all_goals first|trivial|exact qM (qE (by rfl))|exact qM (Fit.refl _)|exact qL (qK _)|skip
 ·rintro ⟨i,hi,hr⟩
  cbv
  repeat' (first|with_reducible refine ua4 ?_ ?_|with_reducible refine And.intro ?_ ?_|(with_reducible intro hcd;(try simp only [zA,zB,zC,zD,zE,zF,zG,zH,zI,zJ,zK,zL,zM,zN,zO,zP]at hcd);try cbv)
   | (refine⟨some [0],?_⟩
      cbv
      refine qQ ?_ (c62 i) ?hfit ?hbo
      case hfit=>(cbv;(repeat' (first|exact qB|refine qD ?_ ?_|exact qE (by rfl)|exact qF (by rfl)|exact Fit.refl _|exact qA|refine qC ?_ rfl ?_));done)
      case hbo=>(cbv;(repeat' (first|exact qH|refine qI ?_ ?_|exact qK _|refine qJ ?_|exact qA|exact qE (by rfl)|exact qF (by rfl)|exact Fit.refl _|exact qG _|refine qC ?_ rfl ?_));done)
      try cbv)
   |fail)
  all_goals first|((try simp only [qV]at *);(try simp only [zQ,zA,zB,zC,zD,zE,zF,zG,zH,zI,zJ,zK,zL,zM,zN,zO,zP,zR,zS]at *);first|(refine qN ?_;omega)|(simp only [uai];omega))|(subst hR;(refine qE ?_;(try simp only [qV]at *);(try simp only [zQ,zA,zB,zC,zD,zE,zF,zG,zH,zI,zJ,zK,zL,zM,zN,zO,zP,zR,zS]at *);rw [hr,ubc (by omega) (by rw [hcd];rfl)]);done)|(subst hR;(refine qE ?_;(try simp only [qV]at *);(try simp only [zQ,zA,zB,zC,zD,zE,zF,zG,zH,zI,zJ,zK,zL,zM,zN,zO,zP,zR,zS]at *);rw [hr,show L.length-i=0 by omega];rfl);done)|(subst hB;(repeat' (first|exact qH|refine qI ?_ ?_|exact qK _|refine qJ ?_|exact qA|exact qE (by rfl)|exact qF (by rfl)|exact Fit.refl _|exact qG _|refine qC ?_ rfl ?_));done)|((try simp only [zQ,zA,zB,zC,zD,zE,zF,zG,zH,zI,zJ,zK,zL,zM,zN,zO,zP,zR,zS]at *);refine⟨⟨i+1,by omega,by rw [hr,ucs (by omega) (by rw [hcd];rfl)];(try congr 1)<;>omega⟩,by simp only [];omega,?_⟩;cbv;(repeat' (first|with_reducible refine ua4 ?_ ?_|with_reducible refine And.intro ?_ ?_));(all_goals first|trivial|exact qM (qE (by rfl))|exact qM (qF (by rfl))|exact qM (Fit.refl _)|exact qL (qK _)|(refine qM (qE ?_);(try simp only [qV]at *);simp only [zQ,zA,zB,zC,zD,zE,zF,zG,zH,zI,zJ,zK,zL,zM,zN,zO,zP,zR,zS]at *;omega)|(refine qL (qJ ?_);(repeat' (first|exact qA|exact qB|refine qC ?_ rfl ?_|refine qD ?_ ?_|exact qE (by rfl)|exact qF (by rfl)|exact Fit.refl _|exact qG _|(refine qE ?_;(try simp only [qV]at *);simp only [zQ,zA,zB,zC,zD,zE,zF,zG,zH,zI,zJ,zK,zL,zM,zN,zO,zP,zR,zS]at *;omega)));done)|skip))|skip
theorem uhH (L:List (List Int))(p:Int)(hL:∀i,(L.getD i []).length≤1000)(hfew:L.length≤1000):ua0 Tryz.prog 55 [(.sl 1 (.sym fun _=>zi (L).length) (fun ix=>[(.sl 1 (.sym fun _=>zi ((L).getD ix.den.toNat []).length) (fun jx=>[(iv fun _=>((L).getD ix.den.toNat []).getD jx.den.toNat 0)]))])),.clo 52 [] [.own 0 0]] [.cells [(iv fun _=>p)] 3] (fun r bs=>r=(bv fun _=>decide (0≤ubL (fun i=> !(inL (L.getD i []) p)) L.length 0))∧bs=[.cells [(iv fun _=>p)] 3]):=by
 have c97:=upX L p hL hfew
 refine ua0.isB rfl fun R B hR hB=>qW (sc:=uyU) uaj mix Tryz.func55 rfl Tryz.call55 (by kernel_rfl) (by kernel_rfl) ?_
 generalize Tryz.prog=P at c97⊢
 cbv
 repeat' (first|with_reducible refine And.intro ?_ ?_
  | (refine⟨some [0],?_⟩
     cbv
     refine qQ ?_ (c97) ?hfit ?hbo
     case hfit=>(cbv;(repeat' (first|exact qB|refine qD ?_ ?_|exact qE (by rfl)|exact qF (by rfl)|exact Fit.refl _|exact qA|refine qC ?_ rfl ?_));done)
     case hbo=>(cbv;(repeat' (first|exact qH|refine qI ?_ ?_|exact qK _|refine qJ ?_|exact qA|exact qE (by rfl)|exact qF (by rfl)|exact Fit.refl _|exact qG _|refine qC ?_ rfl ?_));done)
     try cbv)
  |fail)
 all_goals first|(subst hR;(repeat' (first|exact qA|exact qB|refine qC ?_ rfl ?_|refine qD ?_ ?_|exact qE (by rfl)|exact qF (by rfl)|exact Fit.refl _|exact qG _|(refine qE ?_;(try simp only [qV]at *);simp only [zQ,zA,zB,zC,zD,zE,zF,zG,zH,zI,zJ,zK,zL,zM,zN,zO,zP,zR,zS]at *;omega)));done)|(subst hB;(repeat' (first|exact qH|refine qI ?_ ?_|exact qK _|refine qJ ?_|exact qA|exact qE (by rfl)|exact qF (by rfl)|exact Fit.refl _|exact qG _|refine qC ?_ rfl ?_));done)|skip
set_option maxHeartbeats 2000000 in
theorem ut9 (d:Dsp)(h:uam d=0):ua0 Tryz.prog 19 [(ub0 d)] [] (fun r _=>r=(.tup [(iS ((uib d))),(iS ((us2 d))),(iv fun _=>uam d)])):=by
 have c59:=umu d h
 have c58:=ugM
 have hF:=(uaH h).1
 have hd:=ua3.1 hF
 have p1:=hd.p1
 have p4:=hd.p4
 have c61:=uh4 d hd
 have hsf:=ujG (n:=d.pn.toNat) (ok:=uc7 d) (by omega) (ufz h)
 rw [show uib d=uc0 (um2 d) d.pn.toNat from if_pos h,show us2 d=uc0 (uru d) d.pn.toNat from if_pos h,h]
 have hA:∀k:Nat,uhy (fun i=>inL ((uaA d.pn.toNat (uc7 d)).getD i []) (zi k)) (uaA d.pn.toNat (uc7 d)).length=um2 d k:=fun k=>uu7 _ _
 have hB:∀k:Nat,decide (0≤ubL (fun i=> !(inL ((uaA d.pn.toNat (uc7 d)).getD i []) (zi k))) (uaA d.pn.toNat (uc7 d)).length 0)=uru d k:=fun k=>utM _ _
 obtain⟨L,hL⟩:∃L,L=uaA d.pn.toNat (uc7 d):=⟨_,rfl⟩
 rw [←hL]at c61 hsf
 simp only [←hL]at hA hB
 have c64:=fun k:Nat=>(show ua0 Tryz.prog 54 [(.sl 1 (.sym fun _=>zi (L).length) (fun ix=>[(.sl 1 (.sym fun _=>zi ((L).getD ix.den.toNat []).length) (fun jx=>[(iv fun _=>((L).getD ix.den.toNat []).getD jx.den.toNat 0)]))])),.clo 52 [] [.own 0 0]] [.cells [(iv fun _=>zi k)] 3] (fun r bs=>r=(bv fun _=>um2 d k)∧bs=[.cells [(iv fun _=>zi k)] 3])from hA k▸uhN L (zi k) hsf.2 hsf.1)
 have c65:=fun k:Nat=>(show ua0 Tryz.prog 55 [(.sl 1 (.sym fun _=>zi (L).length) (fun ix=>[(.sl 1 (.sym fun _=>zi ((L).getD ix.den.toNat []).length) (fun jx=>[(iv fun _=>((L).getD ix.den.toNat []).getD jx.den.toNat 0)]))])),.clo 52 [] [.own 0 0]] [.cells [(iv fun _=>zi k)] 3] (fun r bs=>r=(bv fun _=>uru d k)∧bs=[.cells [(iv fun _=>zi k)] 3])from hB k▸uhH L (zi k) hsf.2 hsf.1)
 obtain⟨fA,hfA⟩:∃f,f=um2 d:=⟨_,rfl⟩
 obtain⟨fB,hfB⟩:∃f,f=uru d:=⟨_,rfl⟩
 rw [←hfA]at c64⊢
 rw [←hfB]at c65⊢
 clear hA hB hL hfA hfB
 refine ua0.is fun R hR=>qW (sc:=uA8) uaj mix Tryz.func19 rfl Tryz.call19 (by kernel_rfl) (by kernel_rfl) ?_
 generalize Tryz.prog=P at c59 c58 c61 c64 c65⊢
 cbv
 repeat' (first|with_reducible refine And.intro ?_ ?_|(with_reducible intro hcd;(try simp only [zA,zB,zC,zD,zE,zF,zG,zH,zI,zJ,zK,zL,zM,zN,zO,zP]at hcd);try cbv)|(refine qP ?_ (c59) ?hfit;(case hfit=>((repeat' (first|exact qB|refine qD ?_ ?_|exact qE (by rfl)|exact qF (by rfl)|exact Fit.refl _|exact qA|refine qC ?_ rfl ?_));done));try cbv)|(refine qP ?_ (c58) ?hfit;(case hfit=>((repeat' (first|exact qB|refine qD ?_ ?_|exact qE (by rfl)|exact qF (by rfl)|exact Fit.refl _|exact qA|refine qC ?_ rfl ?_));done));try cbv)|(refine qP ?_ (c61) ?hfit;(case hfit=>((repeat' (first|exact qB|refine qD ?_ ?_|exact qE (by rfl)|exact qF (by rfl)|exact Fit.refl _|exact qA|refine qC ?_ rfl ?_));done));try cbv)|fail)
 all_goals first|trivial|skip
 refine⟨none,[⟨.tmp 2,3,1⟩,⟨.tmp 3,3,1⟩],{k:Nat // k≤d.pn.toNat},fun x=>⟨[(1,.own 0 0),(6,(.sl 1 (.sym fun _=>zi (L).length) (fun ix=>[(.sl 1 (.sym fun _=>zi ((L).getD ix.den.toNat []).length) (fun jx=>[(iv fun _=>((L).getD ix.den.toNat []).getD jx.den.toNat 0)]))]))),(2,.row 20),(3,.row 21),(21,(iv fun _=>d.pn)),(22,(iv fun _=>zi x.1))],[(0,.cells [(iS d.tw),(iS d.tm),(.sl 1 (.sym fun _=>zi (d.tv).length) (fun ix=>[(.sl 1 (.sym fun _=>zi ((d.tv).getD ix.den.toNat []).length) (fun jx=>[(iv fun _=>((d.tv).getD ix.den.toNat []).getD jx.den.toNat 0)]))])),(iv fun _=>d.sn),(iv fun _=>d.pn),(.sl 4 (.sym fun _=>zi (d.ls).length) (fun ix=>[(iv fun _=>((d.ls).getD ix.den.toNat l0T).a),(iv fun _=>((d.ls).getD ix.den.toNat l0T).b),(iv fun _=>((d.ls).getD ix.den.toNat l0T).lo),(iv fun _=>((d.ls).getD ix.den.toNat l0T).hi)])),(.sl 6 (.sym fun _=>zi (d.fs).length) (fun ix=>[(iv fun _=>((d.fs).getD ix.den.toNat f0T).p),(iv fun _=>((d.fs).getD ix.den.toNat f0T).s),(iv fun _=>((d.fs).getD ix.den.toNat f0T).wl),(iv fun _=>((d.fs).getD ix.den.toNat f0T).wh),(iv fun _=>((d.fs).getD ix.den.toNat f0T).ml),(iv fun _=>((d.fs).getD ix.den.toNat f0T).mh)]))] 39),(20,.row 3 1 (.sym fun _=>zi ((uc0 fA x.1)).length) (fun ix=>[(iv fun _=>((uc0 fA x.1)).getD ix.den.toNat 0)])),(21,.row 3 1 (.sym fun _=>zi ((uc0 fB x.1)).length) (fun ix=>[(iv fun _=>((uc0 fB x.1)).getD ix.den.toNat 0)]))],100⟩,fun x=>d.pn.toNat-x.1,?_,?_⟩
 ·refine⟨⟨0,by omega⟩,?_⟩
  cbv
  repeat' (first|with_reducible refine ua4 ?_ ?_|with_reducible refine And.intro ?_ ?_)
  all_goals first|trivial|exact qM (qE (by rfl))|exact qM (Fit.refl _)|exact qL (qK _)|(refine qL (uae ?_ ?_);(first|rfl|((try simp only [qV]at *);(try simp only [zQ,zA,zB,zC,zD,zE,zF,zG,zH,zI,zJ,zK,zL,zM,zN,zO,zP,zR,zS]at *);omega));intro ix h0 h1;exfalso;(try simp only [qV]at *);(try simp only [zQ,zA,zB,zC,zD,zE,zF,zG,zH,zI,zJ,zK,zL,zM,zN,zO,zP,zR,zS]at *);omega)|skip
 ·rintro ⟨k,hk⟩
  cbv
  have hl1:=uiB fA k
  have hl2:=uiB fB k
  have hyA:=ur3 (f:=fA) (k:=k)
  have hnA:=upx (f:=fA) (k:=k)
  have hyB:=ur3 (f:=fB) (k:=k)
  have hnB:=upx (f:=fB) (k:=k)
  obtain⟨M1,hM1⟩:∃M,M=uc0 fA k:=⟨_,rfl⟩
  obtain⟨M2,hM2⟩:∃M,M=uc0 fB k:=⟨_,rfl⟩
  rw [←hM1]at hl1 hyA hnA⊢
  rw [←hM2]at hl2 hyB hnB⊢
  have c64k:=c64 k
  have c65k:=c65 k
  rcases hfa:fA k with _|_<;>rcases hfb:fB k with _|_
  ·rw [hfa]at c64k
   rw [hfb]at c65k
   cbv
   repeat' (first|with_reducible refine ua4 ?_ ?_|with_reducible refine And.intro ?_ ?_|(with_reducible intro hcd;(try simp only [zA,zB,zC,zD,zE,zF,zG,zH,zI,zJ,zK,zL,zM,zN,zO,zP]at hcd);try cbv)
    | (refine⟨some [102],?_⟩
       cbv
       refine qQ ?_ (c64k) ?hfit ?hbo
       case hfit=>(cbv;(repeat' (first|exact qB|refine qD ?_ ?_|exact qE (by rfl)|exact qF (by rfl)|exact Fit.refl _|exact qA|refine qC ?_ rfl ?_));done)
       case hbo=>(cbv;(repeat' (first|exact qH|refine qI ?_ ?_|exact qK _|refine qJ ?_|exact qA|exact qE (by rfl)|exact qF (by rfl)|exact Fit.refl _|exact qG _|refine qC ?_ rfl ?_));done)
       try cbv)
    | (refine⟨some [102],?_⟩
       cbv
       refine qQ ?_ (c65k) ?hfit ?hbo
       case hfit=>(cbv;(repeat' (first|exact qB|refine qD ?_ ?_|exact qE (by rfl)|exact qF (by rfl)|exact Fit.refl _|exact qA|refine qC ?_ rfl ?_));done)
       case hbo=>(cbv;(repeat' (first|exact qH|refine qI ?_ ?_|exact qK _|refine qJ ?_|exact qA|exact qE (by rfl)|exact qF (by rfl)|exact Fit.refl _|exact qG _|refine qC ?_ rfl ?_));done)
       try cbv)
    | (obtain⟨L3,eL3⟩:∃y:List Int,y=M1++[zi k]:=⟨_,rfl⟩
       refine⟨ueD L3,?_⟩
       cbv
       refine ua4 (uaq (L:=M1) eL3 (by(first|rfl|((try simp only [qV]at *);(try simp only [zQ,zA,zB,zC,zD,zE,zF,zG,zH,zI,zJ,zK,zL,zM,zN,zO,zP,zR,zS]at *);done)|((try simp only [qV]at *);(try simp only [zQ,zA,zB,zC,zD,zE,zF,zG,zH,zI,zJ,zK,zL,zM,zN,zO,zP,zR,zS]at *);omega))) (by rfl) (fun ix=>Fit.refl _) (fun ix h=>qC (qE (by rfl)) rfl qA) (by(try simp only [qV]at *);(try simp only [zQ,zA,zB,zC,zD,zE,zF,zG,zH,zI,zJ,zK,zL,zM,zN,zO,zP,zR,zS]at *);omega)) (Or.inl ?_)
       try cbv)
    | (obtain⟨L4,eL4⟩:∃y:List Int,y=M2++[zi k]:=⟨_,rfl⟩
       refine⟨ueD L4,?_⟩
       cbv
       refine ua4 (uaq (L:=M2) eL4 (by(first|rfl|((try simp only [qV]at *);(try simp only [zQ,zA,zB,zC,zD,zE,zF,zG,zH,zI,zJ,zK,zL,zM,zN,zO,zP,zR,zS]at *);done)|((try simp only [qV]at *);(try simp only [zQ,zA,zB,zC,zD,zE,zF,zG,zH,zI,zJ,zK,zL,zM,zN,zO,zP,zR,zS]at *);omega))) (by rfl) (fun ix=>Fit.refl _) (fun ix h=>qC (qE (by rfl)) rfl qA) (by(try simp only [qV]at *);(try simp only [zQ,zA,zB,zC,zD,zE,zF,zG,zH,zI,zJ,zK,zL,zM,zN,zO,zP,zR,zS]at *);omega)) (Or.inl ?_)
       try cbv)
    |fail)
   all_goals first|trivial|((try simp only [qV]at *);(try simp only [zQ,zA,zB,zC,zD,zE,zF,zG,zH,zI,zJ,zK,zL,zM,zN,zO,zP,zR,zS]at *);first|(refine qN ?_;omega)|(simp only [uai];omega))|((have hke:k=d.pn.toNat:=(by((try simp only [qV]at *);(try simp only [zQ,zA,zB,zC,zD,zE,zF,zG,zH,zI,zJ,zK,zL,zM,zN,zO,zP,zR,zS]at *);omega)));subst hR;rw [←hke,←hM1,←hM2];exact qD (Fit.refl _) (qD (Fit.refl _) (qD (qE rfl) qB)))|((try simp only [zQ,zA,zB,zC,zD,zE,zF,zG,zH,zI,zJ,zK,zL,zM,zN,zO,zP,zR,zS]at *);(have hx1:uc0 fA (k+1)=M1:=hnA hfa);(have hx2:uc0 fB (k+1)=M2:=hnB hfb);refine⟨⟨k+1,by((try simp only [qV]at *);(try simp only [zQ,zA,zB,zC,zD,zE,zF,zG,zH,zI,zJ,zK,zL,zM,zN,zO,zP,zR,zS]at *);omega)⟩,by simp only [];omega,?_⟩;cbv;(repeat' (first|with_reducible refine ua4 ?_ ?_|with_reducible refine And.intro ?_ ?_));(all_goals first|trivial|exact qM (qE (by rfl))|exact qM (qF (by rfl))|exact qM (Fit.refl _)|exact qL (qK _)|(refine qM (qE ?_);(try simp only [qV]at *);simp only [zQ,zA,zB,zC,zD,zE,zF,zG,zH,zI,zJ,zK,zL,zM,zN,zO,zP,zR,zS]at *;omega)|(refine qL (qJ ?_);(repeat' (first|exact qA|exact qB|refine qC ?_ rfl ?_|refine qD ?_ ?_|exact qE (by rfl)|exact qF (by rfl)|exact Fit.refl _|exact qG _|(refine qE ?_;(try simp only [qV]at *);simp only [zQ,zA,zB,zC,zD,zE,zF,zG,zH,zI,zJ,zK,zL,zM,zN,zO,zP,zR,zS]at *;omega)));done)|(simp only [hx1];first|exact qL (qK _)|(refine qL (uae ?_ ?_)<;>first|rfl|(rw [hM1,List.length_append];rfl)|((try simp only [qV]at *);(try simp only [zQ,zA,zB,zC,zD,zE,zF,zG,zH,zI,zJ,zK,zL,zM,zN,zO,zP,zR,zS]at *);(try simp only [hM1,List.length_append,List.length_cons,List.length_nil]at *);omega)|(intro ix h0 h1;exact Fit.refl _)))|(simp only [hx2];first|exact qL (qK _)|(refine qL (uae ?_ ?_)<;>first|rfl|(rw [hM2,List.length_append];rfl)|((try simp only [qV]at *);(try simp only [zQ,zA,zB,zC,zD,zE,zF,zG,zH,zI,zJ,zK,zL,zM,zN,zO,zP,zR,zS]at *);(try simp only [hM2,List.length_append,List.length_cons,List.length_nil]at *);omega)|(intro ix h0 h1;exact Fit.refl _)))|skip))|skip
  ·rw [hfa]at c64k
   rw [hfb]at c65k
   cbv
   repeat' (first|with_reducible refine ua4 ?_ ?_|with_reducible refine And.intro ?_ ?_|(with_reducible intro hcd;(try simp only [zA,zB,zC,zD,zE,zF,zG,zH,zI,zJ,zK,zL,zM,zN,zO,zP]at hcd);try cbv)
    | (refine⟨some [102],?_⟩
       cbv
       refine qQ ?_ (c64k) ?hfit ?hbo
       case hfit=>(cbv;(repeat' (first|exact qB|refine qD ?_ ?_|exact qE (by rfl)|exact qF (by rfl)|exact Fit.refl _|exact qA|refine qC ?_ rfl ?_));done)
       case hbo=>(cbv;(repeat' (first|exact qH|refine qI ?_ ?_|exact qK _|refine qJ ?_|exact qA|exact qE (by rfl)|exact qF (by rfl)|exact Fit.refl _|exact qG _|refine qC ?_ rfl ?_));done)
       try cbv)
    | (refine⟨some [102],?_⟩
       cbv
       refine qQ ?_ (c65k) ?hfit ?hbo
       case hfit=>(cbv;(repeat' (first|exact qB|refine qD ?_ ?_|exact qE (by rfl)|exact qF (by rfl)|exact Fit.refl _|exact qA|refine qC ?_ rfl ?_));done)
       case hbo=>(cbv;(repeat' (first|exact qH|refine qI ?_ ?_|exact qK _|refine qJ ?_|exact qA|exact qE (by rfl)|exact qF (by rfl)|exact Fit.refl _|exact qG _|refine qC ?_ rfl ?_));done)
       try cbv)
    | (obtain⟨L3,eL3⟩:∃y:List Int,y=M1++[zi k]:=⟨_,rfl⟩
       refine⟨ueD L3,?_⟩
       cbv
       refine ua4 (uaq (L:=M1) eL3 (by(first|rfl|((try simp only [qV]at *);(try simp only [zQ,zA,zB,zC,zD,zE,zF,zG,zH,zI,zJ,zK,zL,zM,zN,zO,zP,zR,zS]at *);done)|((try simp only [qV]at *);(try simp only [zQ,zA,zB,zC,zD,zE,zF,zG,zH,zI,zJ,zK,zL,zM,zN,zO,zP,zR,zS]at *);omega))) (by rfl) (fun ix=>Fit.refl _) (fun ix h=>qC (qE (by rfl)) rfl qA) (by(try simp only [qV]at *);(try simp only [zQ,zA,zB,zC,zD,zE,zF,zG,zH,zI,zJ,zK,zL,zM,zN,zO,zP,zR,zS]at *);omega)) (Or.inl ?_)
       try cbv)
    | (obtain⟨L4,eL4⟩:∃y:List Int,y=M2++[zi k]:=⟨_,rfl⟩
       refine⟨ueD L4,?_⟩
       cbv
       refine ua4 (uaq (L:=M2) eL4 (by(first|rfl|((try simp only [qV]at *);(try simp only [zQ,zA,zB,zC,zD,zE,zF,zG,zH,zI,zJ,zK,zL,zM,zN,zO,zP,zR,zS]at *);done)|((try simp only [qV]at *);(try simp only [zQ,zA,zB,zC,zD,zE,zF,zG,zH,zI,zJ,zK,zL,zM,zN,zO,zP,zR,zS]at *);omega))) (by rfl) (fun ix=>Fit.refl _) (fun ix h=>qC (qE (by rfl)) rfl qA) (by(try simp only [qV]at *);(try simp only [zQ,zA,zB,zC,zD,zE,zF,zG,zH,zI,zJ,zK,zL,zM,zN,zO,zP,zR,zS]at *);omega)) (Or.inl ?_)
       try cbv)
    |fail)
   all_goals first|trivial|((try simp only [qV]at *);(try simp only [zQ,zA,zB,zC,zD,zE,zF,zG,zH,zI,zJ,zK,zL,zM,zN,zO,zP,zR,zS]at *);first|(refine qN ?_;omega)|(simp only [uai];omega))|((have hke:k=d.pn.toNat:=(by((try simp only [qV]at *);(try simp only [zQ,zA,zB,zC,zD,zE,zF,zG,zH,zI,zJ,zK,zL,zM,zN,zO,zP,zR,zS]at *);omega)));subst hR;rw [←hke,←hM1,←hM2];exact qD (Fit.refl _) (qD (Fit.refl _) (qD (qE rfl) qB)))|((try simp only [zQ,zA,zB,zC,zD,zE,zF,zG,zH,zI,zJ,zK,zL,zM,zN,zO,zP,zR,zS]at *);(have hx1:uc0 fA (k+1)=M1:=hnA hfa);(have hx2:uc0 fB (k+1)=L4:=(hyB hfb).trans eL4.symm);refine⟨⟨k+1,by((try simp only [qV]at *);(try simp only [zQ,zA,zB,zC,zD,zE,zF,zG,zH,zI,zJ,zK,zL,zM,zN,zO,zP,zR,zS]at *);omega)⟩,by simp only [];omega,?_⟩;cbv;(repeat' (first|with_reducible refine ua4 ?_ ?_|with_reducible refine And.intro ?_ ?_));(all_goals first|trivial|exact qM (qE (by rfl))|exact qM (qF (by rfl))|exact qM (Fit.refl _)|exact qL (qK _)|(refine qM (qE ?_);(try simp only [qV]at *);simp only [zQ,zA,zB,zC,zD,zE,zF,zG,zH,zI,zJ,zK,zL,zM,zN,zO,zP,zR,zS]at *;omega)|(refine qL (qJ ?_);(repeat' (first|exact qA|exact qB|refine qC ?_ rfl ?_|refine qD ?_ ?_|exact qE (by rfl)|exact qF (by rfl)|exact Fit.refl _|exact qG _|(refine qE ?_;(try simp only [qV]at *);simp only [zQ,zA,zB,zC,zD,zE,zF,zG,zH,zI,zJ,zK,zL,zM,zN,zO,zP,zR,zS]at *;omega)));done)|(simp only [hx1];first|exact qL (qK _)|(refine qL (uae ?_ ?_)<;>first|rfl|(rw [hM1,List.length_append];rfl)|((try simp only [qV]at *);(try simp only [zQ,zA,zB,zC,zD,zE,zF,zG,zH,zI,zJ,zK,zL,zM,zN,zO,zP,zR,zS]at *);(try simp only [hM1,List.length_append,List.length_cons,List.length_nil]at *);omega)|(intro ix h0 h1;exact Fit.refl _)))|(simp only [hx2];first|exact qL (qK _)|(refine qL (uae ?_ ?_)<;>first|rfl|(rw [eL4,List.length_append];rfl)|((try simp only [qV]at *);(try simp only [zQ,zA,zB,zC,zD,zE,zF,zG,zH,zI,zJ,zK,zL,zM,zN,zO,zP,zR,zS]at *);(try simp only [eL4,List.length_append,List.length_cons,List.length_nil]at *);omega)|(intro ix h0 h1;exact Fit.refl _)))|skip))|skip
  ·rw [hfa]at c64k
   rw [hfb]at c65k
   cbv
   repeat' (first|with_reducible refine ua4 ?_ ?_|with_reducible refine And.intro ?_ ?_|(with_reducible intro hcd;(try simp only [zA,zB,zC,zD,zE,zF,zG,zH,zI,zJ,zK,zL,zM,zN,zO,zP]at hcd);try cbv)
    | (refine⟨some [102],?_⟩
       cbv
       refine qQ ?_ (c64k) ?hfit ?hbo
       case hfit=>(cbv;(repeat' (first|exact qB|refine qD ?_ ?_|exact qE (by rfl)|exact qF (by rfl)|exact Fit.refl _|exact qA|refine qC ?_ rfl ?_));done)
       case hbo=>(cbv;(repeat' (first|exact qH|refine qI ?_ ?_|exact qK _|refine qJ ?_|exact qA|exact qE (by rfl)|exact qF (by rfl)|exact Fit.refl _|exact qG _|refine qC ?_ rfl ?_));done)
       try cbv)
    | (refine⟨some [102],?_⟩
       cbv
       refine qQ ?_ (c65k) ?hfit ?hbo
       case hfit=>(cbv;(repeat' (first|exact qB|refine qD ?_ ?_|exact qE (by rfl)|exact qF (by rfl)|exact Fit.refl _|exact qA|refine qC ?_ rfl ?_));done)
       case hbo=>(cbv;(repeat' (first|exact qH|refine qI ?_ ?_|exact qK _|refine qJ ?_|exact qA|exact qE (by rfl)|exact qF (by rfl)|exact Fit.refl _|exact qG _|refine qC ?_ rfl ?_));done)
       try cbv)
    | (obtain⟨L3,eL3⟩:∃y:List Int,y=M1++[zi k]:=⟨_,rfl⟩
       refine⟨ueD L3,?_⟩
       cbv
       refine ua4 (uaq (L:=M1) eL3 (by(first|rfl|((try simp only [qV]at *);(try simp only [zQ,zA,zB,zC,zD,zE,zF,zG,zH,zI,zJ,zK,zL,zM,zN,zO,zP,zR,zS]at *);done)|((try simp only [qV]at *);(try simp only [zQ,zA,zB,zC,zD,zE,zF,zG,zH,zI,zJ,zK,zL,zM,zN,zO,zP,zR,zS]at *);omega))) (by rfl) (fun ix=>Fit.refl _) (fun ix h=>qC (qE (by rfl)) rfl qA) (by(try simp only [qV]at *);(try simp only [zQ,zA,zB,zC,zD,zE,zF,zG,zH,zI,zJ,zK,zL,zM,zN,zO,zP,zR,zS]at *);omega)) (Or.inl ?_)
       try cbv)
    | (obtain⟨L4,eL4⟩:∃y:List Int,y=M2++[zi k]:=⟨_,rfl⟩
       refine⟨ueD L4,?_⟩
       cbv
       refine ua4 (uaq (L:=M2) eL4 (by(first|rfl|((try simp only [qV]at *);(try simp only [zQ,zA,zB,zC,zD,zE,zF,zG,zH,zI,zJ,zK,zL,zM,zN,zO,zP,zR,zS]at *);done)|((try simp only [qV]at *);(try simp only [zQ,zA,zB,zC,zD,zE,zF,zG,zH,zI,zJ,zK,zL,zM,zN,zO,zP,zR,zS]at *);omega))) (by rfl) (fun ix=>Fit.refl _) (fun ix h=>qC (qE (by rfl)) rfl qA) (by(try simp only [qV]at *);(try simp only [zQ,zA,zB,zC,zD,zE,zF,zG,zH,zI,zJ,zK,zL,zM,zN,zO,zP,zR,zS]at *);omega)) (Or.inl ?_)
       try cbv)
    |fail)
   all_goals first|trivial|((try simp only [qV]at *);(try simp only [zQ,zA,zB,zC,zD,zE,zF,zG,zH,zI,zJ,zK,zL,zM,zN,zO,zP,zR,zS]at *);first|(refine qN ?_;omega)|(simp only [uai];omega))|((have hke:k=d.pn.toNat:=(by((try simp only [qV]at *);(try simp only [zQ,zA,zB,zC,zD,zE,zF,zG,zH,zI,zJ,zK,zL,zM,zN,zO,zP,zR,zS]at *);omega)));subst hR;rw [←hke,←hM1,←hM2];exact qD (Fit.refl _) (qD (Fit.refl _) (qD (qE rfl) qB)))|((try simp only [zQ,zA,zB,zC,zD,zE,zF,zG,zH,zI,zJ,zK,zL,zM,zN,zO,zP,zR,zS]at *);(have hx1:uc0 fA (k+1)=L3:=(hyA hfa).trans eL3.symm);(have hx2:uc0 fB (k+1)=M2:=hnB hfb);refine⟨⟨k+1,by((try simp only [qV]at *);(try simp only [zQ,zA,zB,zC,zD,zE,zF,zG,zH,zI,zJ,zK,zL,zM,zN,zO,zP,zR,zS]at *);omega)⟩,by simp only [];omega,?_⟩;cbv;(repeat' (first|with_reducible refine ua4 ?_ ?_|with_reducible refine And.intro ?_ ?_));(all_goals first|trivial|exact qM (qE (by rfl))|exact qM (qF (by rfl))|exact qM (Fit.refl _)|exact qL (qK _)|(refine qM (qE ?_);(try simp only [qV]at *);simp only [zQ,zA,zB,zC,zD,zE,zF,zG,zH,zI,zJ,zK,zL,zM,zN,zO,zP,zR,zS]at *;omega)|(refine qL (qJ ?_);(repeat' (first|exact qA|exact qB|refine qC ?_ rfl ?_|refine qD ?_ ?_|exact qE (by rfl)|exact qF (by rfl)|exact Fit.refl _|exact qG _|(refine qE ?_;(try simp only [qV]at *);simp only [zQ,zA,zB,zC,zD,zE,zF,zG,zH,zI,zJ,zK,zL,zM,zN,zO,zP,zR,zS]at *;omega)));done)|(simp only [hx1];first|exact qL (qK _)|(refine qL (uae ?_ ?_)<;>first|rfl|(rw [eL3,List.length_append];rfl)|((try simp only [qV]at *);(try simp only [zQ,zA,zB,zC,zD,zE,zF,zG,zH,zI,zJ,zK,zL,zM,zN,zO,zP,zR,zS]at *);(try simp only [eL3,List.length_append,List.length_cons,List.length_nil]at *);omega)|(intro ix h0 h1;exact Fit.refl _)))|(simp only [hx2];first|exact qL (qK _)|(refine qL (uae ?_ ?_)<;>first|rfl|(rw [hM2,List.length_append];rfl)|((try simp only [qV]at *);(try simp only [zQ,zA,zB,zC,zD,zE,zF,zG,zH,zI,zJ,zK,zL,zM,zN,zO,zP,zR,zS]at *);(try simp only [hM2,List.length_append,List.length_cons,List.length_nil]at *);omega)|(intro ix h0 h1;exact Fit.refl _)))|skip))|skip
  ·rw [hfa]at c64k
   rw [hfb]at c65k
   cbv
   repeat' (first|with_reducible refine ua4 ?_ ?_|with_reducible refine And.intro ?_ ?_|(with_reducible intro hcd;(try simp only [zA,zB,zC,zD,zE,zF,zG,zH,zI,zJ,zK,zL,zM,zN,zO,zP]at hcd);try cbv)
    | (refine⟨some [102],?_⟩
       cbv
       refine qQ ?_ (c64k) ?hfit ?hbo
       case hfit=>(cbv;(repeat' (first|exact qB|refine qD ?_ ?_|exact qE (by rfl)|exact qF (by rfl)|exact Fit.refl _|exact qA|refine qC ?_ rfl ?_));done)
       case hbo=>(cbv;(repeat' (first|exact qH|refine qI ?_ ?_|exact qK _|refine qJ ?_|exact qA|exact qE (by rfl)|exact qF (by rfl)|exact Fit.refl _|exact qG _|refine qC ?_ rfl ?_));done)
       try cbv)
    | (refine⟨some [102],?_⟩
       cbv
       refine qQ ?_ (c65k) ?hfit ?hbo
       case hfit=>(cbv;(repeat' (first|exact qB|refine qD ?_ ?_|exact qE (by rfl)|exact qF (by rfl)|exact Fit.refl _|exact qA|refine qC ?_ rfl ?_));done)
       case hbo=>(cbv;(repeat' (first|exact qH|refine qI ?_ ?_|exact qK _|refine qJ ?_|exact qA|exact qE (by rfl)|exact qF (by rfl)|exact Fit.refl _|exact qG _|refine qC ?_ rfl ?_));done)
       try cbv)
    | (obtain⟨L3,eL3⟩:∃y:List Int,y=M1++[zi k]:=⟨_,rfl⟩
       refine⟨ueD L3,?_⟩
       cbv
       refine ua4 (uaq (L:=M1) eL3 (by(first|rfl|((try simp only [qV]at *);(try simp only [zQ,zA,zB,zC,zD,zE,zF,zG,zH,zI,zJ,zK,zL,zM,zN,zO,zP,zR,zS]at *);done)|((try simp only [qV]at *);(try simp only [zQ,zA,zB,zC,zD,zE,zF,zG,zH,zI,zJ,zK,zL,zM,zN,zO,zP,zR,zS]at *);omega))) (by rfl) (fun ix=>Fit.refl _) (fun ix h=>qC (qE (by rfl)) rfl qA) (by(try simp only [qV]at *);(try simp only [zQ,zA,zB,zC,zD,zE,zF,zG,zH,zI,zJ,zK,zL,zM,zN,zO,zP,zR,zS]at *);omega)) (Or.inl ?_)
       try cbv)
    | (obtain⟨L4,eL4⟩:∃y:List Int,y=M2++[zi k]:=⟨_,rfl⟩
       refine⟨ueD L4,?_⟩
       cbv
       refine ua4 (uaq (L:=M2) eL4 (by(first|rfl|((try simp only [qV]at *);(try simp only [zQ,zA,zB,zC,zD,zE,zF,zG,zH,zI,zJ,zK,zL,zM,zN,zO,zP,zR,zS]at *);done)|((try simp only [qV]at *);(try simp only [zQ,zA,zB,zC,zD,zE,zF,zG,zH,zI,zJ,zK,zL,zM,zN,zO,zP,zR,zS]at *);omega))) (by rfl) (fun ix=>Fit.refl _) (fun ix h=>qC (qE (by rfl)) rfl qA) (by(try simp only [qV]at *);(try simp only [zQ,zA,zB,zC,zD,zE,zF,zG,zH,zI,zJ,zK,zL,zM,zN,zO,zP,zR,zS]at *);omega)) (Or.inl ?_)
       try cbv)
    |fail)
   all_goals first|trivial|((try simp only [qV]at *);(try simp only [zQ,zA,zB,zC,zD,zE,zF,zG,zH,zI,zJ,zK,zL,zM,zN,zO,zP,zR,zS]at *);first|(refine qN ?_;omega)|(simp only [uai];omega))|((have hke:k=d.pn.toNat:=(by((try simp only [qV]at *);(try simp only [zQ,zA,zB,zC,zD,zE,zF,zG,zH,zI,zJ,zK,zL,zM,zN,zO,zP,zR,zS]at *);omega)));subst hR;rw [←hke,←hM1,←hM2];exact qD (Fit.refl _) (qD (Fit.refl _) (qD (qE rfl) qB)))|((try simp only [zQ,zA,zB,zC,zD,zE,zF,zG,zH,zI,zJ,zK,zL,zM,zN,zO,zP,zR,zS]at *);(have hx1:uc0 fA (k+1)=L3:=(hyA hfa).trans eL3.symm);(have hx2:uc0 fB (k+1)=L4:=(hyB hfb).trans eL4.symm);refine⟨⟨k+1,by((try simp only [qV]at *);(try simp only [zQ,zA,zB,zC,zD,zE,zF,zG,zH,zI,zJ,zK,zL,zM,zN,zO,zP,zR,zS]at *);omega)⟩,by simp only [];omega,?_⟩;cbv;(repeat' (first|with_reducible refine ua4 ?_ ?_|with_reducible refine And.intro ?_ ?_));(all_goals first|trivial|exact qM (qE (by rfl))|exact qM (qF (by rfl))|exact qM (Fit.refl _)|exact qL (qK _)|(refine qM (qE ?_);(try simp only [qV]at *);simp only [zQ,zA,zB,zC,zD,zE,zF,zG,zH,zI,zJ,zK,zL,zM,zN,zO,zP,zR,zS]at *;omega)|(refine qL (qJ ?_);(repeat' (first|exact qA|exact qB|refine qC ?_ rfl ?_|refine qD ?_ ?_|exact qE (by rfl)|exact qF (by rfl)|exact Fit.refl _|exact qG _|(refine qE ?_;(try simp only [qV]at *);simp only [zQ,zA,zB,zC,zD,zE,zF,zG,zH,zI,zJ,zK,zL,zM,zN,zO,zP,zR,zS]at *;omega)));done)|(simp only [hx1];first|exact qL (qK _)|(refine qL (uae ?_ ?_)<;>first|rfl|(rw [eL3,List.length_append];rfl)|((try simp only [qV]at *);(try simp only [zQ,zA,zB,zC,zD,zE,zF,zG,zH,zI,zJ,zK,zL,zM,zN,zO,zP,zR,zS]at *);(try simp only [eL3,List.length_append,List.length_cons,List.length_nil]at *);omega)|(intro ix h0 h1;exact Fit.refl _)))|(simp only [hx2];first|exact qL (qK _)|(refine qL (uae ?_ ?_)<;>first|rfl|(rw [eL4,List.length_append];rfl)|((try simp only [qV]at *);(try simp only [zQ,zA,zB,zC,zD,zE,zF,zG,zH,zI,zJ,zK,zL,zM,zN,zO,zP,zR,zS]at *);(try simp only [eL4,List.length_append,List.length_cons,List.length_nil]at *);omega)|(intro ix h0 h1;exact Fit.refl _)))|skip))|skip
theorem urQ (d:Dsp)(h:¬uam d=0):ua0 Tryz.prog 19 [(ub0 d)] [] (fun r _=>r=(.tup [(iS ((uib d))),(iS ((us2 d))),(iv fun _=>uam d)])):=by
 have c59:=uj4 d h
 refine ua0.is fun R hR=>qW (sc:=uA8) uaj mix Tryz.func19 rfl Tryz.call19 (by kernel_rfl) (by kernel_rfl) ?_
 generalize Tryz.prog=P at c59⊢
 cbv
 repeat' (first|with_reducible refine And.intro ?_ ?_|(with_reducible intro hcd;(try simp only [zA,zB,zC,zD,zE,zF,zG,zH,zI,zJ,zK,zL,zM,zN,zO,zP]at hcd);try cbv)|(refine qP ?_ (c59) ?hfit;(case hfit=>((repeat' (first|exact qB|refine qD ?_ ?_|exact qE (by rfl)|exact qF (by rfl)|exact Fit.refl _|exact qA|refine qC ?_ rfl ?_));done));try cbv)|fail)
 all_goals first|trivial|(subst hR;(exact qD (qO (by(have e:uib d=[]:=if_neg h);rw [e];rfl)) (qD (qO (by(have e:us2 d=[]:=if_neg h);rw [e];rfl)) (qD (Fit.refl _) qB)));done)|skip
theorem ul1 (d:Dsp):ua0 Tryz.prog 19 [(ub0 d)] [] (fun r _=>r=(.tup [(iS ((uib d))),(iS ((us2 d))),(iv fun _=>uam d)])):=by
 by_cases h:uam d=0
 ·exact ut9 d h
 ·exact urQ d h
end Go.Proofs.YtkdggbfknlcdaaaGreat
namespace Go.Proofs.YtkdggbfknlcdaaaGreat
open Go.Eng.Dif Go.Eng.Few
theorem uvD {d:Dsp}(h:uam d=0):ud5 d d.fs (ug4 d)=true:=by
 have e:ug4 d=udL d.fs.length (udB d):=if_pos h
 rw [e]
 exact(ucV (ufw h)).2.1
theorem uvu (d:Dsp)(h:ua5 d=0):(ug4 d).length≤6:=by
 unfold ug4
 split
 ·rename_i q
  have:=ulD (ufw q)
  have:=(ua3.1 h).f6
  omega
 ·simp
theorem ujw {g x:Int}(h0:0≤g)(h1:g≤100000)(a0: -2000≤x)(a1:x≤2000): -200000000≤g*x∧g*x≤200000000:=by
 have e1:g*x≤g*2000:=Int.mul_le_mul_of_nonneg_left a1 h0
 have e2:g*(-2000)≤g*x:=Int.mul_le_mul_of_nonneg_left a0 h0
 omega
def usl (d:Dsp)(s g:Int):Prop:=(0≤s∧s≤d.sn-1)∧0≤g∧g≤100000
instance (d:Dsp) (s g:Int):Decidable (usl d s g):=by unfold usl;infer_instance
def chE (d:Dsp)(s g:Int):Int:=if ua5 d=0 then(if usl d s g then uam d else 2)else ua5 d
def chL (d:Dsp)(s g:Int):Int:=if chE d s g=0 then(g*loT d (ug4 d) s.toNat).tdiv 1000 else 0
def chH (d:Dsp)(s g:Int):Int:=if chE d s g=0 then(g*hiT d (ug4 d) s.toNat).tdiv 1000 else 0
theorem uuH {d:Dsp} {s g:Int}(h:¬ua5 d=0):chE d s g=ua5 d∧chL d s g=0∧chH d s g=0:=by
 have e:chE d s g=ua5 d:=by unfold chE;rw [if_neg h]
 exact⟨e,by unfold chL;rw [e,if_neg h],by unfold chH;rw [e,if_neg h]⟩
theorem uwX {d:Dsp} {s g:Int}(h:ua5 d=0)(h':¬usl d s g):chE d s g=2∧chL d s g=0∧chH d s g=0:=by
 have e:chE d s g=2:=by unfold chE;rw [if_pos h,if_neg h']
 exact⟨e,by unfold chL;rw [e];rfl,by unfold chH;rw [e];rfl⟩
theorem usm {d:Dsp} {s g:Int}(h:ua5 d=0)(h':usl d s g)(hf:¬uam d=0):chE d s g=uam d∧chL d s g=0∧chH d s g=0:=by
 have e:chE d s g=uam d:=by unfold chE;rw [if_pos h,if_pos h']
 exact⟨e,by unfold chL;rw [e,if_neg hf],by unfold chH;rw [e,if_neg hf]⟩
theorem uoV {d:Dsp} {s g:Int}(h:ua5 d=0)(h':usl d s g)(hf:uam d=0):chE d s g=0∧chL d s g=(g*loT d (ug4 d) s.toNat).tdiv 1000∧chH d s g=(g*hiT d (ug4 d) s.toNat).tdiv 1000:=by
 have e:chE d s g=0:=by unfold chE;rw [if_pos h,if_pos h',hf]
 exact⟨e,by unfold chL;rw [e];rfl,by unfold chH;rw [e];rfl⟩
def uoF (n:Int):Prop:=0≤n∧n≤1000000
instance (n:Int):Decidable (uoF n):=by unfold uoF;infer_instance
def coE (d:Dsp)(n:Int):Int:=if ua5 d=0 then(if uoF n then uam d else 2)else ua5 d
def coN (d:Dsp)(n:Int):Int:=if coE d n=0 then d.pn else 0
def ufs (d:Dsp):List Int:=ulx d.pn.toNat (uib d)
def ukL (d:Dsp)(n:Int)(p:Nat):Int:=uco n.toNat (ufs d) (ufs d).length (ufs d).length p
theorem uq2 {d:Dsp} {n:Int}(h:¬ua5 d=0):coE d n=ua5 d∧coN d n=0:=by
 have e:coE d n=ua5 d:=by unfold coE;rw [if_neg h]
 exact⟨e,by unfold coN;rw [e,if_neg h]⟩
theorem utX {d:Dsp} {n:Int}(h:ua5 d=0)(h':¬uoF n):coE d n=2∧coN d n=0:=by
 have e:coE d n=2:=by unfold coE;rw [if_pos h,if_neg h']
 exact⟨e,by unfold coN;rw [e];rfl⟩
theorem umP {d:Dsp} {n:Int}(h:ua5 d=0)(h':uoF n)(hf:¬uam d=0):coE d n=uam d∧coN d n=0:=by
 have e:coE d n=uam d:=by unfold coE;rw [if_pos h,if_pos h']
 exact⟨e,by unfold coN;rw [e,if_neg hf]⟩
theorem ugz {d:Dsp} {n:Int}(h:ua5 d=0)(h':uoF n)(hf:uam d=0):coE d n=0∧coN d n=d.pn:=by
 have e:coE d n=0:=by unfold coE;rw [if_pos h,if_pos h',hf]
 exact⟨e,by unfold coN;rw [e];rfl⟩
end Go.Proofs.YtkdggbfknlcdaaaGreat
namespace Go.Proofs.YtkdggbfknlcdaaaGreat
open Go Go.Eng Go.Proofs Go.Eng.Dif Go.Eng.Few
set_option maxRecDepth 10000
theorem uhU {a:Int}(h: -200000000≤a∧a≤200000000): -200000000≤a.tdiv 1000∧a.tdiv 1000≤200000000:=by
 rcases Int.le_total 0 a with q|q
 ·rw [Int.tdiv_eq_ediv_of_nonneg q];omega
 ·obtain⟨b,rfl⟩:∃b,a = -b:=⟨-a,by omega⟩
  rw [Int.neg_tdiv,Int.tdiv_eq_ediv_of_nonneg (by omega)];omega
set_option maxHeartbeats 2000000 in
theorem uss (d:Dsp)(s g:Int):ua0 Tryz.prog 25 [(ub0 d),(iv fun _=>s),(iv fun _=>g)] [] (fun r _=>r=(.tup [(.agg [(iv fun _=>chL d s g),(iv fun _=>chH d s g)]),(iv fun _=>chE d s g)])):=by
 have c16:=ubB d
 have c43:= @ud6
 have c22:=urm d
 have c44:=ucH d
 have c66:=fun h:ua5 d=0=>udI d s ⟨(ua3.1 h).s1,by have:=(ua3.1 h).s3;omega⟩
 have c54:=fun h:ua5 d=0=>ubC d (ug4 d) (ua3.1 h) (by have:=uvu d h;omega)
 have hbd:=fun (h:uam d=0) (i:Nat) (hi:i<16)=>ukB (ua3.1 (uaH h).1) (uvD h) hi
 have hsn:=fun h:uam d=0=>(ua3.1 (uaH h).1).s3
 have c55:=fun (s:Int) (h:uam d=0∧0≤s∧s≤d.sn-1)=>(show ua0 Tryz.prog 63 [.own 0 0,(iv fun _=>s)] [.cells [(.arr 16 (fun ix=>(iv fun _=>(clo (ufv d d.fs (ug4 d))) ix.den.toNat)))] 95] (fun r bs=>r=(.agg [(iv fun _=>loT d (ug4 d) s.toNat),(iv fun _=>hiT d (ug4 d) s.toNat)])∧bs=[.cells [(.arr 16 (fun ix=>(iv fun _=>(clo (ufv d d.fs (ug4 d))) ix.den.toNat)))] 95])from ueA (clo (ufv d d.fs (ug4 d))) s ⟨h.2.1,by have:=hsn h.1;omega⟩ (fun i hi=>⟨by have:=hbd h.1 i hi;omega,by have:=hbd h.1 i hi;omega⟩))
 have hmul:0≤g→g≤100000→0≤s∧s≤d.sn-1→uam d=0→(-200000000≤g*loT d (ug4 d) s.toNat∧g*loT d (ug4 d) s.toNat≤200000000)∧ -200000000≤g*hiT d (ug4 d) s.toNat∧g*hiT d (ug4 d) s.toNat≤200000000:=fun h0 h1 hs hf=>by
  have s3:=hsn hf
  have b1:=hbd hf (at4 (s.toNat+1) 0) (ufq (by omega) (by omega))
  have b2:=hbd hf (at4 0 (s.toNat+1)) (ufq (by omega) (by omega))
  exact⟨ujw h0 h1 (by unfold loT;omega) (by unfold loT;omega),ujw h0 h1 (by unfold hiT;omega) (by unfold hiT;omega)⟩
 refine ua0.is fun R hR=>qW (sc:=uBU) uaj mix Tryz.func25 rfl Tryz.call25 (by kernel_rfl) (by kernel_rfl) ?_
 generalize Tryz.prog=P at c16 c43 c22 c44 c66 c54 c55⊢
 cbv
 repeat' (first|with_reducible refine ua4 ?_ ?_|with_reducible refine And.intro ?_ ?_|(with_reducible refine qS ?_ ?_ ?_;try cbv)|(with_reducible intro hcd;(try simp only [zA,zB,zC,zD,zE,zF,zG,zH,zI,zJ,zK,zL,zM,zN,zO,zP]at hcd);try cbv)|(refine qP ?_ (c16) ?hfit;(case hfit=>((repeat' (first|exact qB|refine qD ?_ ?_|exact qE (by rfl)|exact qF (by rfl)|exact Fit.refl _|exact qA|refine qC ?_ rfl ?_));done));try cbv)|(refine qP ?_ (c43 _ _ _) (by(repeat' (first|exact qB|refine qD ?_ ?_|exact qE (by rfl)|exact qF (by rfl)|exact Fit.refl _|exact qA|refine qC ?_ rfl ?_)));try cbv)|(refine qP ?_ (c22) ?hfit;(case hfit=>((repeat' (first|exact qB|refine qD ?_ ?_|exact qE (by rfl)|exact qF (by rfl)|exact Fit.refl _|exact qA|refine qC ?_ rfl ?_));done));try cbv)|(refine qP ?_ (c44) ?hfit;(case hfit=>((repeat' (first|exact qB|refine qD ?_ ?_|exact qE (by rfl)|exact qF (by rfl)|exact Fit.refl _|exact qA|refine qC ?_ rfl ?_));done));try cbv)|(refine qP ?_ (c66 (by((try simp only [qV]at *);(try simp only [zQ,zA,zB,zC,zD,zE,zF,zG,zH,zI,zJ,zK,zL,zM,zN,zO,zP,zR,zS]at *);first|assumption|omega))) ?hfit;(case hfit=>((repeat' (first|exact qB|refine qD ?_ ?_|exact qE (by rfl)|exact qF (by rfl)|exact Fit.refl _|exact qA|refine qC ?_ rfl ?_));done));try cbv)|(refine qP ?_ (c54 (by((try simp only [qV]at *);(try simp only [zQ,zA,zB,zC,zD,zE,zF,zG,zH,zI,zJ,zK,zL,zM,zN,zO,zP,zR,zS]at *);first|assumption|omega))) ?hfit;(case hfit=>((repeat' (first|exact qB|refine qD ?_ ?_|exact qE (by rfl)|exact qF (by rfl)|exact Fit.refl _|exact qA|refine qC ?_ rfl ?_));done));try cbv)
  | ((have hf9:uam d=0:=(by((try simp only [qV]at *);(try simp only [zQ,zA,zB,zC,zD,zE,zF,zG,zH,zI,zJ,zK,zL,zM,zN,zO,zP,zR,zS]at *);omega)))
     refine⟨some [33],?_⟩
     cbv
     refine qQ ?_ (c55 s ⟨hf9,by((try simp only [qV]at *);(try simp only [zQ,zA,zB,zC,zD,zE,zF,zG,zH,zI,zJ,zK,zL,zM,zN,zO,zP,zR,zS]at *);(try simp only [uah,uak,uav,uaE,uaJ,uaN,ua9,uab,ua8,uaa]at *);omega)⟩) ?hfit ?hbo
     case hfit=>(cbv;(repeat' (first|exact qB|refine qD ?_ ?_|exact qE (by rfl)|exact qF (by rfl)|exact Fit.refl _|exact qA|refine qC ?_ rfl ?_));done)
     case hbo=>(cbv;(repeat' (first|exact qH|refine qI ?_ ?_|exact qK _|refine qJ ?_|exact qA|exact qE (by rfl)|exact qF (by rfl)|exact Fit.refl _|exact qG _|refine qC ?_ rfl ?_));done)
     try cbv)
  |fail)
 all_goals first|((try simp only [qV]at *);(try simp only [zQ,zA,zB,zC,zD,zE,zF,zG,zH,zI,zJ,zK,zL,zM,zN,zO,zP,zR,zS,uah,uak,uav,uaE,uaJ,uaN,ua9,uab,ua8,uaa]at *);first|(refine qN ?_;omega)|(simp only [uai];omega))|(subst hR;(refine qD (qC (qE ?_) rfl (qC (qE ?_) rfl qA)) (qD (qE ?_) qB)<;>((try simp only [qV]at *);(try simp only [zQ,zA,zB,zC,zD,zE,zF,zG,zH,zI,zJ,zK,zL,zM,zN,zO,zP,zR,zS]at *);(try simp only [uah,uak,uav,uaE,uaJ,uaN,ua9,uab,ua8,uaa]at *);(have h0:=uuH (d:=d) (s:=s) (g:=g) (by first|assumption|omega));first|exact h0.2.1.symm|exact h0.2.2.symm|exact h0.1.symm));done)|(subst hR;(refine qD (qC (qE ?_) rfl (qC (qE ?_) rfl qA)) (qD (qE ?_) qB)<;>((try simp only [qV]at *);(try simp only [zQ,zA,zB,zC,zD,zE,zF,zG,zH,zI,zJ,zK,zL,zM,zN,zO,zP,zR,zS]at *);(try simp only [uah,uak,uav,uaE,uaJ,uaN,ua9,uab,ua8,uaa]at *);(have h0:=uwX (d:=d) (s:=s) (g:=g) (by first|assumption|omega) (by unfold usl;omega));first|exact h0.2.1.symm|exact h0.2.2.symm|exact h0.1.symm));done)|(subst hR;(refine qD (qC (qE ?_) rfl (qC (qE ?_) rfl qA)) (qD (qE ?_) qB)<;>((try simp only [qV]at *);(try simp only [zQ,zA,zB,zC,zD,zE,zF,zG,zH,zI,zJ,zK,zL,zM,zN,zO,zP,zR,zS]at *);(try simp only [uah,uak,uav,uaE,uaJ,uaN,ua9,uab,ua8,uaa]at *);(have h0:=usm (d:=d) (s:=s) (g:=g) (by first|assumption|omega) (by unfold usl;omega) (by first|assumption|omega));first|exact h0.2.1.symm|exact h0.2.2.symm|exact h0.1.symm));done)|(subst hR;(refine qD (qC (qE ?_) rfl (qC (qE ?_) rfl qA)) (qD (qE ?_) qB)<;>((try simp only [qV]at *);(try simp only [zQ,zA,zB,zC,zD,zE,zF,zG,zH,zI,zJ,zK,zL,zM,zN,zO,zP,zR,zS]at *);(try simp only [uah,uak,uav,uaE,uaJ,uaN,ua9,uab,ua8,uaa]at *);(have h0:=uoV (d:=d) (s:=s) (g:=g) (by first|assumption|omega) (by unfold usl;omega) (by first|assumption|omega));first|exact h0.2.1.symm|exact h0.2.2.symm|exact h0.1.symm));done)|((have hf9:uam d=0:=(by((try simp only [qV]at *);(try simp only [zQ,zA,zB,zC,zD,zE,zF,zG,zH,zI,zJ,zK,zL,zM,zN,zO,zP,zR,zS]at *);omega)));(have hb9:=hmul (by((try simp only [qV]at *);(try simp only [zQ,zA,zB,zC,zD,zE,zF,zG,zH,zI,zJ,zK,zL,zM,zN,zO,zP,zR,zS]at *);(try simp only [uah,uak,uav,uaE,uaJ,uaN,ua9,uab,ua8,uaa]at *);omega)) (by((try simp only [qV]at *);(try simp only [zQ,zA,zB,zC,zD,zE,zF,zG,zH,zI,zJ,zK,zL,zM,zN,zO,zP,zR,zS]at *);(try simp only [uah,uak,uav,uaE,uaJ,uaN,ua9,uab,ua8,uaa]at *);omega)) (by((try simp only [qV]at *);(try simp only [zQ,zA,zB,zC,zD,zE,zF,zG,zH,zI,zJ,zK,zL,zM,zN,zO,zP,zR,zS]at *);(try simp only [uah,uak,uav,uaE,uaJ,uaN,ua9,uab,ua8,uaa]at *);omega)) hf9);(have t1:=uhU hb9.1);(have t2:=uhU hb9.2);(try simp only [qV]at *);(try simp only [zQ,zA,zB,zC,zD,zE,zF,zG,zH,zI,zJ,zK,zL,zM,zN,zO,zP,zR,zS]at *);(try simp only [uah,uak,uav,uaE,uaJ,uaN,ua9,uab,ua8,uaa]at *);first|(refine qN ?_;omega)|(simp only [uai];omega))|skip
theorem usI {f:Nat→Bool}:∀{n:Nat},uc0 f n=[]→∀{k:Nat},k<n→f k=false:=by
 intro n
 induction n with
 |zero=>intro _ k hk;omega
 | succ n ih=>
  intro h k hk
  cases hf:f n with
  |true=>rw [ur3 hf]at h;simp at h
  | false=>
   rw [upx hf]at h
   by_cases e:k=n
   ·rw [e];exact hf
   ·exact ih h (by omega)
set_option maxHeartbeats 2000000 in
theorem usX (d:Dsp)(h:uam d=0)(he:uib d=[]):ua0 Tryz.prog 19 [(ub0 d)] [] (fun r _=>r=(.tup [.val (Value.slice none 0 0),(iS ((us2 d))),(iv fun _=>uam d)])):=by
 have c59:=umu d h
 have c58:=ugM
 have hF:=(uaH h).1
 have hd:=ua3.1 hF
 have p1:=hd.p1
 have p4:=hd.p4
 have c61:=uh4 d hd
 have hsf:=ujG (n:=d.pn.toNat) (ok:=uc7 d) (by omega) (ufz h)
 have hm0:uc0 (um2 d) d.pn.toNat=[]:=(if_pos h:uib d=_).symm.trans he
 have hAf:∀k:Nat,k<d.pn.toNat→um2 d k=false:=fun k hk=>usI hm0 hk
 rw [show us2 d=uc0 (uru d) d.pn.toNat from if_pos h,h]
 have hA:∀k:Nat,uhy (fun i=>inL ((uaA d.pn.toNat (uc7 d)).getD i []) (zi k)) (uaA d.pn.toNat (uc7 d)).length=um2 d k:=fun k=>uu7 _ _
 have hB:∀k:Nat,decide (0≤ubL (fun i=> !(inL ((uaA d.pn.toNat (uc7 d)).getD i []) (zi k))) (uaA d.pn.toNat (uc7 d)).length 0)=uru d k:=fun k=>utM _ _
 obtain⟨L,hL⟩:∃L,L=uaA d.pn.toNat (uc7 d):=⟨_,rfl⟩
 rw [←hL]at c61 hsf
 simp only [←hL]at hA hB
 have c64:=fun k:Nat=>(show ua0 Tryz.prog 54 [(.sl 1 (.sym fun _=>zi (L).length) (fun ix=>[(.sl 1 (.sym fun _=>zi ((L).getD ix.den.toNat []).length) (fun jx=>[(iv fun _=>((L).getD ix.den.toNat []).getD jx.den.toNat 0)]))])),.clo 52 [] [.own 0 0]] [.cells [(iv fun _=>zi k)] 3] (fun r bs=>r=(bv fun _=>um2 d k)∧bs=[.cells [(iv fun _=>zi k)] 3])from hA k▸uhN L (zi k) hsf.2 hsf.1)
 have c65:=fun k:Nat=>(show ua0 Tryz.prog 55 [(.sl 1 (.sym fun _=>zi (L).length) (fun ix=>[(.sl 1 (.sym fun _=>zi ((L).getD ix.den.toNat []).length) (fun jx=>[(iv fun _=>((L).getD ix.den.toNat []).getD jx.den.toNat 0)]))])),.clo 52 [] [.own 0 0]] [.cells [(iv fun _=>zi k)] 3] (fun r bs=>r=(bv fun _=>uru d k)∧bs=[.cells [(iv fun _=>zi k)] 3])from hB k▸uhH L (zi k) hsf.2 hsf.1)
 obtain⟨fA,hfA⟩:∃f,f=um2 d:=⟨_,rfl⟩
 obtain⟨fB,hfB⟩:∃f,f=uru d:=⟨_,rfl⟩
 rw [←hfA]at c64 hAf
 rw [←hfB]at c65⊢
 clear hA hB hL hfA hfB hm0
 refine ua0.is fun R hR=>qW (sc:=uA8) uaj mix Tryz.func19 rfl Tryz.call19 (by kernel_rfl) (by kernel_rfl) ?_
 generalize Tryz.prog=P at c59 c58 c61 c64 c65⊢
 cbv
 repeat' (first|with_reducible refine And.intro ?_ ?_|(with_reducible intro hcd;(try simp only [zA,zB,zC,zD,zE,zF,zG,zH,zI,zJ,zK,zL,zM,zN,zO,zP]at hcd);try cbv)|(refine qP ?_ (c59) ?hfit;(case hfit=>((repeat' (first|exact qB|refine qD ?_ ?_|exact qE (by rfl)|exact qF (by rfl)|exact Fit.refl _|exact qA|refine qC ?_ rfl ?_));done));try cbv)|(refine qP ?_ (c58) ?hfit;(case hfit=>((repeat' (first|exact qB|refine qD ?_ ?_|exact qE (by rfl)|exact qF (by rfl)|exact Fit.refl _|exact qA|refine qC ?_ rfl ?_));done));try cbv)|(refine qP ?_ (c61) ?hfit;(case hfit=>((repeat' (first|exact qB|refine qD ?_ ?_|exact qE (by rfl)|exact qF (by rfl)|exact Fit.refl _|exact qA|refine qC ?_ rfl ?_));done));try cbv)|fail)
 all_goals first|trivial|skip
 refine⟨none,[⟨.tmp 3,3,1⟩],{k:Nat // k≤d.pn.toNat},fun x=>⟨[(1,.own 0 0),(6,(.sl 1 (.sym fun _=>zi (L).length) (fun ix=>[(.sl 1 (.sym fun _=>zi ((L).getD ix.den.toNat []).length) (fun jx=>[(iv fun _=>((L).getD ix.den.toNat []).getD jx.den.toNat 0)]))]))),(2,.val (Value.slice none 0 0)),(3,.row 20),(21,(iv fun _=>d.pn)),(22,(iv fun _=>zi x.1))],[(0,.cells [(iS d.tw),(iS d.tm),(.sl 1 (.sym fun _=>zi (d.tv).length) (fun ix=>[(.sl 1 (.sym fun _=>zi ((d.tv).getD ix.den.toNat []).length) (fun jx=>[(iv fun _=>((d.tv).getD ix.den.toNat []).getD jx.den.toNat 0)]))])),(iv fun _=>d.sn),(iv fun _=>d.pn),(.sl 4 (.sym fun _=>zi (d.ls).length) (fun ix=>[(iv fun _=>((d.ls).getD ix.den.toNat l0T).a),(iv fun _=>((d.ls).getD ix.den.toNat l0T).b),(iv fun _=>((d.ls).getD ix.den.toNat l0T).lo),(iv fun _=>((d.ls).getD ix.den.toNat l0T).hi)])),(.sl 6 (.sym fun _=>zi (d.fs).length) (fun ix=>[(iv fun _=>((d.fs).getD ix.den.toNat f0T).p),(iv fun _=>((d.fs).getD ix.den.toNat f0T).s),(iv fun _=>((d.fs).getD ix.den.toNat f0T).wl),(iv fun _=>((d.fs).getD ix.den.toNat f0T).wh),(iv fun _=>((d.fs).getD ix.den.toNat f0T).ml),(iv fun _=>((d.fs).getD ix.den.toNat f0T).mh)]))] 39),(20,.row 3 1 (.sym fun _=>zi ((uc0 fB x.1)).length) (fun ix=>[(iv fun _=>((uc0 fB x.1)).getD ix.den.toNat 0)]))],100⟩,fun x=>d.pn.toNat-x.1,?_,?_⟩
 ·refine⟨⟨0,by omega⟩,?_⟩
  cbv
  repeat' (first|with_reducible refine ua4 ?_ ?_|with_reducible refine And.intro ?_ ?_)
  all_goals first|trivial|exact qM (qE (by rfl))|exact qM (Fit.refl _)|exact qL (qK _)|(refine qL (uae ?_ ?_);(first|rfl|((try simp only [qV]at *);(try simp only [zQ,zA,zB,zC,zD,zE,zF,zG,zH,zI,zJ,zK,zL,zM,zN,zO,zP,zR,zS]at *);omega));intro ix h0 h1;exfalso;(try simp only [qV]at *);(try simp only [zQ,zA,zB,zC,zD,zE,zF,zG,zH,zI,zJ,zK,zL,zM,zN,zO,zP,zR,zS]at *);omega)|skip
 ·rintro ⟨k, hk⟩
  cbv
  have hl2:=uiB fB k
  have hyB:=ur3 (f:=fB) (k:=k)
  have hnB:=upx (f:=fB) (k:=k)
  obtain⟨M2,hM2⟩:∃M,M=uc0 fB k:=⟨_,rfl⟩
  rw [←hM2]at hl2 hyB hnB⊢
  have c64k:=c64 k
  have c65k:=c65 k
  rcases Nat.lt_or_ge k d.pn.toNat with hlt|hge
  ·have hfa :=hAf k hlt
   rw [hfa]at c64k
   rcases hfb:fB k with _|_
   ·rw [hfb]at c65k
    cbv
    repeat' (first|with_reducible refine ua4 ?_ ?_|with_reducible refine And.intro ?_ ?_|(with_reducible intro hcd;(try simp only [zA,zB,zC,zD,zE,zF,zG,zH,zI,zJ,zK,zL,zM,zN,zO,zP]at hcd);try cbv)
     | (refine⟨some [102],?_⟩
        cbv
        refine qQ ?_ (c64k) ?hfit ?hbo
        case hfit=>(cbv;(repeat' (first|exact qB|refine qD ?_ ?_|exact qE (by rfl)|exact qF (by rfl)|exact Fit.refl _|exact qA|refine qC ?_ rfl ?_));done)
        case hbo=>(cbv;(repeat' (first|exact qH|refine qI ?_ ?_|exact qK _|refine qJ ?_|exact qA|exact qE (by rfl)|exact qF (by rfl)|exact Fit.refl _|exact qG _|refine qC ?_ rfl ?_));done)
        try cbv)
     | (refine⟨some [102],?_⟩
        cbv
        refine qQ ?_ (c65k) ?hfit ?hbo
        case hfit=>(cbv;(repeat' (first|exact qB|refine qD ?_ ?_|exact qE (by rfl)|exact qF (by rfl)|exact Fit.refl _|exact qA|refine qC ?_ rfl ?_));done)
        case hbo=>(cbv;(repeat' (first|exact qH|refine qI ?_ ?_|exact qK _|refine qJ ?_|exact qA|exact qE (by rfl)|exact qF (by rfl)|exact Fit.refl _|exact qG _|refine qC ?_ rfl ?_));done)
        try cbv)
     | (obtain⟨L4,eL4⟩:∃y:List Int,y=M2++[zi k]:=⟨_,rfl⟩
        refine⟨ueD L4,?_⟩
        cbv
        refine ua4 (uaq (L:=M2) eL4 (by(first|rfl|((try simp only [qV]at *);(try simp only [zQ,zA,zB,zC,zD,zE,zF,zG,zH,zI,zJ,zK,zL,zM,zN,zO,zP,zR,zS]at *);done)|((try simp only [qV]at *);(try simp only [zQ,zA,zB,zC,zD,zE,zF,zG,zH,zI,zJ,zK,zL,zM,zN,zO,zP,zR,zS]at *);omega))) (by rfl) (fun ix=>Fit.refl _) (fun ix h=>qC (qE (by rfl)) rfl qA) (by(try simp only [qV]at *);(try simp only [zQ,zA,zB,zC,zD,zE,zF,zG,zH,zI,zJ,zK,zL,zM,zN,zO,zP,zR,zS]at *);omega)) (Or.inl ?_)
        try cbv)
     |fail)
    all_goals first|trivial|((try simp only [qV]at *);(try simp only [zQ,zA,zB,zC,zD,zE,zF,zG,zH,zI,zJ,zK,zL,zM,zN,zO,zP,zR,zS]at *);first|(refine qN ?_;omega)|(simp only [uai];omega))|((have hke:k=d.pn.toNat:=(by((try simp only [qV]at *);(try simp only [zQ,zA,zB,zC,zD,zE,zF,zG,zH,zI,zJ,zK,zL,zM,zN,zO,zP,zR,zS]at *);omega)));subst hR;rw [←hke,←hM2];exact qD (Fit.refl _) (qD (Fit.refl _) (qD (qE rfl) qB)))|((try simp only [zQ,zA,zB,zC,zD,zE,zF,zG,zH,zI,zJ,zK,zL,zM,zN,zO,zP,zR,zS]at *);(have hx2:uc0 fB (k+1)=M2:=hnB hfb);refine⟨⟨k+1,by((try simp only [qV]at *);(try simp only [zQ,zA,zB,zC,zD,zE,zF,zG,zH,zI,zJ,zK,zL,zM,zN,zO,zP,zR,zS]at *);omega)⟩,by simp only [];omega,?_⟩;cbv;(repeat' (first|with_reducible refine ua4 ?_ ?_|with_reducible refine And.intro ?_ ?_));(all_goals first|trivial|exact qM (qE (by rfl))|exact qM (qF (by rfl))|exact qM (Fit.refl _)|exact qL (qK _)|(refine qM (qE ?_);(try simp only [qV]at *);simp only [zQ,zA,zB,zC,zD,zE,zF,zG,zH,zI,zJ,zK,zL,zM,zN,zO,zP,zR,zS]at *;omega)|(refine qL (qJ ?_);(repeat' (first|exact qA|exact qB|refine qC ?_ rfl ?_|refine qD ?_ ?_|exact qE (by rfl)|exact qF (by rfl)|exact Fit.refl _|exact qG _|(refine qE ?_;(try simp only [qV]at *);simp only [zQ,zA,zB,zC,zD,zE,zF,zG,zH,zI,zJ,zK,zL,zM,zN,zO,zP,zR,zS]at *;omega)));done)|(simp only [hx2];first|exact qL (qK _)|(refine qL (uae ?_ ?_)<;>first|rfl|(rw [hM2,List.length_append];rfl)|((try simp only [qV]at *);(try simp only [zQ,zA,zB,zC,zD,zE,zF,zG,zH,zI,zJ,zK,zL,zM,zN,zO,zP,zR,zS]at *);(try simp only [hM2,List.length_append,List.length_cons,List.length_nil]at *);omega)|(intro ix h0 h1;exact Fit.refl _)))|skip))|skip
   ·rw [hfb]at c65k
    cbv
    repeat' (first|with_reducible refine ua4 ?_ ?_|with_reducible refine And.intro ?_ ?_|(with_reducible intro hcd;(try simp only [zA,zB,zC,zD,zE,zF,zG,zH,zI,zJ,zK,zL,zM,zN,zO,zP]at hcd);try cbv)
     | (refine⟨some [102],?_⟩
        cbv
        refine qQ ?_ (c64k) ?hfit ?hbo
        case hfit=>(cbv;(repeat' (first|exact qB|refine qD ?_ ?_|exact qE (by rfl)|exact qF (by rfl)|exact Fit.refl _|exact qA|refine qC ?_ rfl ?_));done)
        case hbo=>(cbv;(repeat' (first|exact qH|refine qI ?_ ?_|exact qK _|refine qJ ?_|exact qA|exact qE (by rfl)|exact qF (by rfl)|exact Fit.refl _|exact qG _|refine qC ?_ rfl ?_));done)
        try cbv)
     | (refine⟨some [102],?_⟩
        cbv
        refine qQ ?_ (c65k) ?hfit ?hbo
        case hfit=>(cbv;(repeat' (first|exact qB|refine qD ?_ ?_|exact qE (by rfl)|exact qF (by rfl)|exact Fit.refl _|exact qA|refine qC ?_ rfl ?_));done)
        case hbo=>(cbv;(repeat' (first|exact qH|refine qI ?_ ?_|exact qK _|refine qJ ?_|exact qA|exact qE (by rfl)|exact qF (by rfl)|exact Fit.refl _|exact qG _|refine qC ?_ rfl ?_));done)
        try cbv)
     | (obtain⟨L4,eL4⟩:∃y:List Int,y=M2++[zi k]:=⟨_,rfl⟩
        refine⟨ueD L4,?_⟩
        cbv
        refine ua4 (uaq (L:=M2) eL4 (by(first|rfl|((try simp only [qV]at *);(try simp only [zQ,zA,zB,zC,zD,zE,zF,zG,zH,zI,zJ,zK,zL,zM,zN,zO,zP,zR,zS]at *);done)|((try simp only [qV]at *);(try simp only [zQ,zA,zB,zC,zD,zE,zF,zG,zH,zI,zJ,zK,zL,zM,zN,zO,zP,zR,zS]at *);omega))) (by rfl) (fun ix=>Fit.refl _) (fun ix h=>qC (qE (by rfl)) rfl qA) (by(try simp only [qV]at *);(try simp only [zQ,zA,zB,zC,zD,zE,zF,zG,zH,zI,zJ,zK,zL,zM,zN,zO,zP,zR,zS]at *);omega)) (Or.inl ?_)
        try cbv)
     |fail)
    all_goals first|trivial|((try simp only [qV]at *);(try simp only [zQ,zA,zB,zC,zD,zE,zF,zG,zH,zI,zJ,zK,zL,zM,zN,zO,zP,zR,zS]at *);first|(refine qN ?_;omega)|(simp only [uai];omega))|((have hke:k=d.pn.toNat:=(by((try simp only [qV]at *);(try simp only [zQ,zA,zB,zC,zD,zE,zF,zG,zH,zI,zJ,zK,zL,zM,zN,zO,zP,zR,zS]at *);omega)));subst hR;rw [←hke,←hM2];exact qD (Fit.refl _) (qD (Fit.refl _) (qD (qE rfl) qB)))|((try simp only [zQ,zA,zB,zC,zD,zE,zF,zG,zH,zI,zJ,zK,zL,zM,zN,zO,zP,zR,zS]at *);(have hx2:uc0 fB (k+1)=L4:=(hyB hfb).trans eL4.symm);refine⟨⟨k+1,by((try simp only [qV]at *);(try simp only [zQ,zA,zB,zC,zD,zE,zF,zG,zH,zI,zJ,zK,zL,zM,zN,zO,zP,zR,zS]at *);omega)⟩,by simp only [];omega,?_⟩;cbv;(repeat' (first|with_reducible refine ua4 ?_ ?_|with_reducible refine And.intro ?_ ?_));(all_goals first|trivial|exact qM (qE (by rfl))|exact qM (qF (by rfl))|exact qM (Fit.refl _)|exact qL (qK _)|(refine qM (qE ?_);(try simp only [qV]at *);simp only [zQ,zA,zB,zC,zD,zE,zF,zG,zH,zI,zJ,zK,zL,zM,zN,zO,zP,zR,zS]at *;omega)|(refine qL (qJ ?_);(repeat' (first|exact qA|exact qB|refine qC ?_ rfl ?_|refine qD ?_ ?_|exact qE (by rfl)|exact qF (by rfl)|exact Fit.refl _|exact qG _|(refine qE ?_;(try simp only [qV]at *);simp only [zQ,zA,zB,zC,zD,zE,zF,zG,zH,zI,zJ,zK,zL,zM,zN,zO,zP,zR,zS]at *;omega)));done)|(simp only [hx2];first|exact qL (qK _)|(refine qL (uae ?_ ?_)<;>first|rfl|(rw [eL4,List.length_append];rfl)|((try simp only [qV]at *);(try simp only [zQ,zA,zB,zC,zD,zE,zF,zG,zH,zI,zJ,zK,zL,zM,zN,zO,zP,zR,zS]at *);(try simp only [eL4,List.length_append,List.length_cons,List.length_nil]at *);omega)|(intro ix h0 h1;exact Fit.refl _)))|skip))|skip
  ·cbv
   repeat' (first|with_reducible refine And.intro ?_ ?_|(with_reducible intro hcd;(try simp only [zA,zB,zC,zD,zE,zF,zG,zH,zI,zJ,zK,zL,zM,zN,zO,zP]at hcd);try cbv)|fail)
   all_goals first|((have hke:k=d.pn.toNat:=(by((try simp only [qV]at *);(try simp only [zQ,zA,zB,zC,zD,zE,zF,zG,zH,zI,zJ,zK,zL,zM,zN,zO,zP,zR,zS]at *);omega)));subst hR;rw [←hke,←hM2];exact qD (Fit.refl _) (qD (Fit.refl _) (qD (qE rfl) qB)))|(exfalso;(try simp only [qV]at *);(try simp only [zQ,zA,zB,zC,zD,zE,zF,zG,zH,zI,zJ,zK,zL,zM,zN,zO,zP,zR,zS]at *);omega)|skip
end Go.Proofs.YtkdggbfknlcdaaaGreat
namespace Go.Proofs.YtkdggbfknlcdaaaGreat
open Go Go.Eng Go.Eng.Dif Go.Eng.Few
theorem udQ {n ix:Int} {o2:Nat} {e e':IX→List SV} {x:List SV}(h0:ix<n)(h1:∀jx:IX,0≤jx.den→jx.den<n→jx.den≠ix→Fit (.agg (e jx)) (.agg (e' jx)))
 (h2:∀jx:IX,0≤jx.den→jx.den<n→jx.den=ix→∃l,ukK (e jx) o2 x=some l∧Fit (.agg l) (.agg (e' jx))):uai (ix<n∧uub n e ix o2 x e'):=
 ⟨h0,fun jx a b c=>(h1 jx a b c).le,fun jx a b c=>by obtain⟨l,p,q⟩:=h2 jx a b c;exact⟨l,p,q.le⟩⟩
def uj5 (f:Nat→Int)(p:Nat)(v:Int):Nat→Int:=fun i=>if i=p then v else f i
theorem ufA {f:Nat→Int} {p i:Nat} {v:Int}(h:i=p):v=uj5 f p v i:=by unfold uj5;rw [if_pos h]
theorem uiN {f:Nat→Int} {p i:Nat} {v:Int}(h:i≠p):f i=uj5 f p v i:=by unfold uj5;rw [if_neg h]
theorem uvb {n:Int} {m k:Nat}(hn:0≤n)(h:(k:Int)<n.tmod (m:Int)):(uyc n.toNat m k:Int)=n.tdiv (m:Int)+1:=by
 obtain⟨N,rfl⟩:∃N:Nat,n=(N:Int):=⟨n.toNat,by omega⟩
 have h1:(N:Int).tmod (m:Int)=((N%m:Nat):Int):=rfl
 have h2:(N:Int).tdiv (m:Int)=((N/m:Nat):Int):=rfl
 rw [h1]at h
 rw [h2]
 unfold uyc
 rw [Int.toNat_natCast,if_pos (by omega)]
 omega
theorem uvy {n:Int} {m k:Nat}(hn:0≤n)(h:¬(k:Int)<n.tmod (m:Int)):(uyc n.toNat m k:Int)=n.tdiv (m:Int):=by
 obtain⟨N,rfl⟩:∃N:Nat,n=(N:Int):=⟨n.toNat,by omega⟩
 have h1:(N:Int).tmod (m:Int)=((N%m:Nat):Int):=rfl
 have h2:(N:Int).tdiv (m:Int)=((N/m:Nat):Int):=rfl
 rw [h1]at h
 rw [h2]
 unfold uyc
 rw [Int.toNat_natCast,if_neg (by omega)]
 omega
theorem utv {n:Int} {m:Nat}(h0:0≤n)(h1:n≤1000000):0≤n.tdiv (m:Int)∧n.tdiv (m:Int)≤1000000:=by
 obtain⟨N,rfl⟩:∃N:Nat,n=(N:Int):=⟨n.toNat,by omega⟩
 have h2:(N:Int).tdiv (m:Int)=((N/m:Nat):Int):=rfl
 have:=Nat.div_le_self N m
 rw [h2]
 exact⟨Int.natCast_nonneg _,Int.le_trans (Int.ofNat_le.2 this) h1⟩
theorem uis {n:Int} {L:List Int} {m k i:Nat}(hn:0≤n)(h0:0≤L.getD k 0)(h:¬(k:Int)<n.tmod (m:Int)):uj5 (uco n.toNat L m k) (L.getD k 0).toNat (n.tdiv (m:Int)) i=uco n.toNat L m (k+1) i:=by
 unfold uj5 uco
 rw [uvy hn h]
 by_cases e:i=(L.getD k 0).toNat
 ·rw [if_pos e,if_pos (by omega)]
 ·rw [if_neg e,if_neg (by omega)]
  cases k<;>rfl
theorem uj1 {n:Int} {L:List Int} {m k i a:Nat}(hn:0≤n)(h0:0≤L.getD k 0)(h:(k:Int)<n.tmod (m:Int))(ha:a=(L.getD k 0).toNat):uj5 (uj5 (uco n.toNat L m k) (L.getD k 0).toNat (n.tdiv (m:Int))) (L.getD k 0).toNat (uj5 (uco n.toNat L m k) (L.getD k 0).toNat (n.tdiv (m:Int)) a+1) i=uco n.toNat L m (k+1) i:=by
 rw [←ufA ha]
 unfold uj5 uco
 rw [uvb hn h]
 by_cases e:i=(L.getD k 0).toNat
 ·rw [if_pos e,if_pos (by omega)]
 ·rw [if_neg e,if_neg e,if_neg (by omega)]
  cases k<;>rfl
theorem upE {d:Dsp}(h:uam d=0):Asc d.pn.toNat 0 (ufs d)∧0<(ufs d).length:=by
 have e:uib d=uc0 (um2 d) d.pn.toNat:=if_pos h
 have p1:=(ua3.1 (uaH h).1).p1
 unfold ufs
 rw [e]
 exact us4 (by omega) uqA
theorem utr {d:Dsp}(h:uam d=0) {k:Nat}(hk:k<(ufs d).length):0≤(ufs d).getD k 0∧(ufs d).getD k 0<d.pn:=by
 have:=uxf (upE h).1 k hk
 have p1:=(ua3.1 (uaH h).1).p1
 omega
theorem uoH {d:Dsp}(h:uam d=0):(ufs d).length≤4:=by
 have p4:=(ua3.1 (uaH h).1).p4
 have e:uib d=uc0 (um2 d) d.pn.toNat:=if_pos h
 unfold ufs ulx
 split
 ·rw [uj3];omega
 ·rw [e];have:=uiB (um2 d) d.pn.toNat;omega
theorem uvQ {d:Dsp}(h:uib d=[]):ufs d=uaZ d.pn.toNat:=by unfold ufs ulx;rw [h];rfl
theorem uxL {d:Dsp}(h:uib d≠[]):ufs d=uib d:=by
 unfold ufs ulx
 rw [if_neg (by rw [List.length_eq_zero_iff];exact h)]
theorem ux5 (k:Nat):uaZ (k+1)=uaZ k++[(k:Int)]:=rfl
theorem uhz {d:Dsp} {n:Int}(h:coE d n=0):uam d=0∧0≤n∧n≤1000000:=by
 by_cases hF:ua5 d=0
 ·by_cases hn:uoF n
  ·by_cases hf:uam d=0
   ·exact⟨hf,hn.1,hn.2⟩
   ·rw [(umP hF hn hf).1]at h;exact absurd h hf
  ·rw [(utX hF hn).1]at h;omega
 ·rw [(uq2 hF).1]at h;exact absurd h hF
theorem uoU {d:Dsp} {n:Int}(h:¬coE d n=0):coN d n=0:=by unfold coN;rw [if_neg h]
end Go.Proofs.YtkdggbfknlcdaaaGreat
namespace Go.Proofs.YtkdggbfknlcdaaaGreat
open Go Go.Eng Go.Proofs Go.Eng.Dif Go.Eng.Few
set_option maxRecDepth 10000
theorem urR (d:Dsp)(n:Int)(h:¬coE d n=0):ua0 Tryz.prog 20 [(ub0 d),(iv fun _=>n)] [] (fun r _=>r=(.tup [(.sl 1 (.sym fun _=>coN d n) (fun ix=>[(iv fun _=>ukL d n ix.den.toNat)])),(iv fun _=>coE d n)])):=by
 have c16:=ubB d
 have c43:= @ud6
 have c33:=ul1 d
 refine ua0.is fun R hR=>qW (sc:=uzo) uaj mix Tryz.func20 rfl Tryz.call20 (by kernel_rfl) (by kernel_rfl) ?_
 generalize Tryz.prog=P at c16 c43 c33⊢
 cbv
 repeat' (first|with_reducible refine ua4 ?_ ?_|with_reducible refine And.intro ?_ ?_|(with_reducible intro hcd;(try simp only [zA,zB,zC,zD,zE,zF,zG,zH,zI,zJ,zK,zL,zM,zN,zO,zP]at hcd);try cbv)|(refine qP ?_ (c16) ?hfit;(case hfit=>((repeat' (first|exact qB|refine qD ?_ ?_|exact qE (by rfl)|exact qF (by rfl)|exact Fit.refl _|exact qA|refine qC ?_ rfl ?_));done));try cbv)|(refine qP ?_ (c43 _ _ _) (by(repeat' (first|exact qB|refine qD ?_ ?_|exact qE (by rfl)|exact qF (by rfl)|exact Fit.refl _|exact qA|refine qC ?_ rfl ?_)));try cbv)|(refine qP ?_ (c33) ?hfit;(case hfit=>((repeat' (first|exact qB|refine qD ?_ ?_|exact qE (by rfl)|exact qF (by rfl)|exact Fit.refl _|exact qA|refine qC ?_ rfl ?_));done));try cbv)|fail)
 all_goals first|(subst hR;((try simp only [qV]at *);(try simp only [zQ,zA,zB,zC,zD,zE,zF,zG,zH,zI,zJ,zK,zL,zM,zN,zO,zP,zR,zS]at *);(try simp only [uah,uak,uav,uaE,uaJ,uaN,ua9,uab,ua8,uaa]at *);(exact qD (qO (uoU h)) (qD (qE (uq2 (d:=d) (n:=n) (by first|assumption|omega)).1.symm) qB)));done)|(subst hR;((try simp only [qV]at *);(try simp only [zQ,zA,zB,zC,zD,zE,zF,zG,zH,zI,zJ,zK,zL,zM,zN,zO,zP,zR,zS]at *);(try simp only [uah,uak,uav,uaE,uaJ,uaN,ua9,uab,ua8,uaa]at *);(exact qD (qO (uoU h)) (qD (qE (utX (d:=d) (n:=n) (by first|assumption|omega) (by unfold uoF;omega)).1.symm) qB)));done)|(subst hR;((try simp only [qV]at *);(try simp only [zQ,zA,zB,zC,zD,zE,zF,zG,zH,zI,zJ,zK,zL,zM,zN,zO,zP,zR,zS]at *);(try simp only [uah,uak,uav,uaE,uaJ,uaN,ua9,uab,ua8,uaa]at *);(exact qD (qO (uoU h)) (qD (qE (umP (d:=d) (n:=n) (by first|assumption|omega) (by unfold uoF;omega) (by first|assumption|omega)).1.symm) qB)));done)|(exfalso;(try simp only [qV]at *);(try simp only [zQ,zA,zB,zC,zD,zE,zF,zG,zH,zI,zJ,zK,zL,zM,zN,zO,zP,zR,zS]at *);(try simp only [uah,uak,uav,uaE,uaJ,uaN,ua9,uab,ua8,uaa]at *);exact h (ugz (by first|assumption|omega) (by unfold uoF;omega) (by first|assumption|omega)).1)|skip
theorem uts {f:Nat→Int} {p i a:Nat}(ha:a=p)(h:i=p):f a+1=uj5 f p (f p+1) i:=by
 subst ha
 exact ufA h
set_option maxHeartbeats 2000000 in
theorem urK (d:Dsp)(n:Int)(h:coE d n=0)(he:uib d=[]):ua0 Tryz.prog 20 [(ub0 d),(iv fun _=>n)] [] (fun r _=>r=(.tup [(.sl 1 (.sym fun _=>coN d n) (fun ix=>[(iv fun _=>ukL d n ix.den.toNat)])),(iv fun _=>coE d n)])):=by
 have c16:=ubB d
 have c43:= @ud6
 have hf:=(uhz h).1
 have hn0:=(uhz h).2.1
 have hn1:=(uhz h).2.2
 have hF:=(uaH hf).1
 have p1:=(ua3.1 hF).p1
 have p4:=(ua3.1 hF).p4
 have hco:=ugz (n:=n) hF (show uoF n from⟨hn0,hn1⟩) hf
 have hbl:=uoH hf
 have hb0:=(upE hf).2
 have hbe:=fun (k:Nat) (hk:k<(ufs d).length)=>utr hf hk
 have hend:∀{k:Nat},k=(ufs d).length→∀p,uco n.toNat (ufs d) (ufs d).length k p=ukL d n p:=fun hk p=>by subst hk;rfl
 have c33:=usX d hf he
 have hbn:=uvQ he
 obtain⟨Lb,hLb⟩:∃L,L=ufs d:=⟨_,rfl⟩
 rw [←hLb]at hbl hb0 hbe hend hbn
 clear hLb
 refine ua0.is fun R hR=>qW (sc:=uzo) uaj mix Tryz.func20 rfl Tryz.call20 (by kernel_rfl) (by kernel_rfl) ?_
 generalize Tryz.prog=P at c16 c43 c33⊢
 cbv
 repeat' (first|with_reducible refine And.intro ?_ ?_|(with_reducible intro hcd;(try simp only [zA,zB,zC,zD,zE,zF,zG,zH,zI,zJ,zK,zL,zM,zN,zO,zP]at hcd);try cbv)|(refine qP ?_ (c16) ?hfit;(case hfit=>((repeat' (first|exact qB|refine qD ?_ ?_|exact qE (by rfl)|exact qF (by rfl)|exact Fit.refl _|exact qA|refine qC ?_ rfl ?_));done));try cbv)|(refine qP ?_ (c43 _ _ _) (by(repeat' (first|exact qB|refine qD ?_ ?_|exact qE (by rfl)|exact qF (by rfl)|exact Fit.refl _|exact qA|refine qC ?_ rfl ?_)));try cbv)|(refine qP ?_ (c33) ?hfit;(case hfit=>((repeat' (first|exact qB|refine qD ?_ ?_|exact qE (by rfl)|exact qF (by rfl)|exact Fit.refl _|exact qA|refine qC ?_ rfl ?_));done));try cbv)|fail)
 all_goals first|trivial|(exfalso;(try simp only [qV]at *);(try simp only [zQ,zA,zB,zC,zD,zE,zF,zG,zH,zI,zJ,zK,zL,zM,zN,zO,zP,zR,zS]at *);(try simp only [uah,uak,uav,uaE,uaJ,uaN,ua9,uab,ua8,uaa]at *);omega)|skip
 refine⟨none,[⟨.tmp 7,3,1⟩],{k:Nat // k≤d.pn.toNat},fun x=>⟨[(1,(iv fun _=>n)),(2,.own 0 0),(7,.row 28),(35,(iv fun _=>d.pn)),(36,(iv fun _=>zi x.1))],[(0,.cells [(iS d.tw),(iS d.tm),(.sl 1 (.sym fun _=>zi (d.tv).length) (fun ix=>[(.sl 1 (.sym fun _=>zi ((d.tv).getD ix.den.toNat []).length) (fun jx=>[(iv fun _=>((d.tv).getD ix.den.toNat []).getD jx.den.toNat 0)]))])),(iv fun _=>d.sn),(iv fun _=>d.pn),(.sl 4 (.sym fun _=>zi (d.ls).length) (fun ix=>[(iv fun _=>((d.ls).getD ix.den.toNat l0T).a),(iv fun _=>((d.ls).getD ix.den.toNat l0T).b),(iv fun _=>((d.ls).getD ix.den.toNat l0T).lo),(iv fun _=>((d.ls).getD ix.den.toNat l0T).hi)])),(.sl 6 (.sym fun _=>zi (d.fs).length) (fun ix=>[(iv fun _=>((d.fs).getD ix.den.toNat f0T).p),(iv fun _=>((d.fs).getD ix.den.toNat f0T).s),(iv fun _=>((d.fs).getD ix.den.toNat f0T).wl),(iv fun _=>((d.fs).getD ix.den.toNat f0T).wh),(iv fun _=>((d.fs).getD ix.den.toNat f0T).ml),(iv fun _=>((d.fs).getD ix.den.toNat f0T).mh)]))] 39),(28,.row 3 1 (.sym fun _=>zi ((uaZ x.1)).length) (fun ix=>[(iv fun _=>((uaZ x.1)).getD ix.den.toNat 0)]))],100⟩,fun x=>d.pn.toNat-x.1,?_,?_⟩
 ·refine⟨⟨0,by omega⟩,?_⟩
  cbv
  repeat' (first|with_reducible refine ua4 ?_ ?_|with_reducible refine And.intro ?_ ?_)
  all_goals first|trivial|exact qM (qE (by rfl))|exact qM (Fit.refl _)|exact qL (qK _)|(refine qL (uae ?_ ?_);(first|rfl|((try simp only [qV]at *);(try simp only [zQ,zA,zB,zC,zD,zE,zF,zG,zH,zI,zJ,zK,zL,zM,zN,zO,zP,zR,zS]at *);omega));intro ix h0 h1;exfalso;(try simp only [qV]at *);(try simp only [zQ,zA,zB,zC,zD,zE,zF,zG,zH,zI,zJ,zK,zL,zM,zN,zO,zP,zR,zS]at *);omega)|skip
 ·rintro ⟨k,hk⟩
  cbv
  have hlen:=uj3 k
  obtain⟨M,hM⟩:∃M,M=uaZ k:=⟨_,rfl⟩
  have hx0:=ux5 k
  rw [←hM]at hlen hx0⊢
  cbv
  repeat' (first|with_reducible refine ua4 ?_ ?_|with_reducible refine And.intro ?_ ?_|(with_reducible intro hcd;(try simp only [zA,zB,zC,zD,zE,zF,zG,zH,zI,zJ,zK,zL,zM,zN,zO,zP]at hcd);try cbv)
   | (obtain⟨L2,eL2⟩:∃y:List Int,y=M++[zi k]:=⟨_,rfl⟩
      refine⟨ueD L2,?_⟩
      cbv
      refine ua4 (uaq (L:=M) eL2 (by(first|rfl|((try simp only [qV]at *);(try simp only [zQ,zA,zB,zC,zD,zE,zF,zG,zH,zI,zJ,zK,zL,zM,zN,zO,zP,zR,zS]at *);done)|((try simp only [qV]at *);(try simp only [zQ,zA,zB,zC,zD,zE,zF,zG,zH,zI,zJ,zK,zL,zM,zN,zO,zP,zR,zS]at *);omega))) (by rfl) (fun ix=>Fit.refl _) (fun ix h=>qC (qE (by rfl)) rfl qA) (by(try simp only [qV]at *);(try simp only [zQ,zA,zB,zC,zD,zE,zF,zG,zH,zI,zJ,zK,zL,zM,zN,zO,zP,zR,zS]at *);omega)) (Or.inl ?_)
      try cbv)
   |fail)
  all_goals first|((try simp only [qV]at *);(try simp only [zQ,zA,zB,zC,zD,zE,zF,zG,zH,zI,zJ,zK,zL,zM,zN,zO,zP,zR,zS]at *);first|(refine qN ?_;omega)|(simp only [uai];omega))|(unfold uai;exact⟨show(0:Int)≤d.pn by omega,rfl,show d.pn*((1:Nat):Int)≤16777216 by omega,show d.pn*((8:Nat):Int)≤16777216 by omega,show d.pn≤16777216 by omega⟩)|((try simp only [zQ,zA,zB,zC,zD,zE,zF,zG,zH,zI,zJ,zK,zL,zM,zN,zO,zP,zR,zS]at *);(have hx:uaZ (k+1)=L2:=hx0.trans eL2.symm);refine⟨⟨k+1,by((try simp only [qV]at *);(try simp only [zQ,zA,zB,zC,zD,zE,zF,zG,zH,zI,zJ,zK,zL,zM,zN,zO,zP,zR,zS]at *);omega)⟩,by simp only [];omega,?_⟩;cbv;(repeat' (first|with_reducible refine ua4 ?_ ?_|with_reducible refine And.intro ?_ ?_));(all_goals first|trivial|exact qM (qE (by rfl))|exact qM (qF (by rfl))|exact qM (Fit.refl _)|exact qL (qK _)|(refine qM (qE ?_);(try simp only [qV]at *);simp only [zQ,zA,zB,zC,zD,zE,zF,zG,zH,zI,zJ,zK,zL,zM,zN,zO,zP,zR,zS]at *;omega)|(refine qL (qJ ?_);(repeat' (first|exact qA|exact qB|refine qC ?_ rfl ?_|refine qD ?_ ?_|exact qE (by rfl)|exact qF (by rfl)|exact Fit.refl _|exact qG _|(refine qE ?_;(try simp only [qV]at *);simp only [zQ,zA,zB,zC,zD,zE,zF,zG,zH,zI,zJ,zK,zL,zM,zN,zO,zP,zR,zS]at *;omega)));done)|(simp only [hx];first|exact qL (qK _)|(refine qL (uae ?_ ?_)<;>first|rfl|(rw [eL2,List.length_append];rfl)|((try simp only [qV]at *);(try simp only [zQ,zA,zB,zC,zD,zE,zF,zG,zH,zI,zJ,zK,zL,zM,zN,zO,zP,zR,zS]at *);(try simp only [eL2,List.length_append,List.length_cons,List.length_nil]at *);omega)|(intro ix h0 h1;exact Fit.refl _)))|skip))|skip
  have hkP:k=d.pn.toNat:=(by((try simp only [qV]at *);(try simp only [zQ,zA,zB,zC,zD,zE,zF,zG,zH,zI,zJ,zK,zL,zM,zN,zO,zP,zR,zS]at *);omega))
  have hML:M=Lb:=by rw [hM,hkP,←hbn]
  rw [hML]
  refine⟨none,[],{k:Nat // k≤Lb.length},fun x=>⟨[(1,(iv fun _=>n)),(7,.row 28),(11,.row 103),(47,.row 28),(48,(iv fun _=>zi Lb.length)),(49,(iv fun _=>zi x.1))],[(0,.cells [(iS d.tw),(iS d.tm),(.sl 1 (.sym fun _=>zi (d.tv).length) (fun ix=>[(.sl 1 (.sym fun _=>zi ((d.tv).getD ix.den.toNat []).length) (fun jx=>[(iv fun _=>((d.tv).getD ix.den.toNat []).getD jx.den.toNat 0)]))])),(iv fun _=>d.sn),(iv fun _=>d.pn),(.sl 4 (.sym fun _=>zi (d.ls).length) (fun ix=>[(iv fun _=>((d.ls).getD ix.den.toNat l0T).a),(iv fun _=>((d.ls).getD ix.den.toNat l0T).b),(iv fun _=>((d.ls).getD ix.den.toNat l0T).lo),(iv fun _=>((d.ls).getD ix.den.toNat l0T).hi)])),(.sl 6 (.sym fun _=>zi (d.fs).length) (fun ix=>[(iv fun _=>((d.fs).getD ix.den.toNat f0T).p),(iv fun _=>((d.fs).getD ix.den.toNat f0T).s),(iv fun _=>((d.fs).getD ix.den.toNat f0T).wl),(iv fun _=>((d.fs).getD ix.den.toNat f0T).wh),(iv fun _=>((d.fs).getD ix.den.toNat f0T).ml),(iv fun _=>((d.fs).getD ix.den.toNat f0T).mh)]))] 39),(28,.row 3 1 (.sym fun _=>zi (Lb).length) (fun ix=>[(iv fun _=>(Lb).getD ix.den.toNat 0)])),(103,.row 3 1 (.sym fun _=>d.pn) (fun ix=>[(iv fun _=>(uco n.toNat Lb Lb.length x.1) ix.den.toNat)]))],300⟩,fun x=>Lb.length-x.1,?_,?_⟩
  ·refine⟨⟨0,by omega⟩,?_⟩
   cbv
   repeat' (first|with_reducible refine ua4 ?_ ?_|with_reducible refine And.intro ?_ ?_)
   all_goals first|trivial|exact qM (qE (by rfl))|exact qM (Fit.refl _)|exact qL (qK _)|(refine qL (uae ?_ ?_)<;>first|rfl|((try simp only [qV]at *);(try simp only [zQ,zA,zB,zC,zD,zE,zF,zG,zH,zI,zJ,zK,zL,zM,zN,zO,zP,zR,zS]at *);omega)|(intro ix h0 h1;first|exact Fit.refl _|exact qC (qE rfl) rfl qA))|skip
  ·rintro ⟨k,hk⟩
   cbv
   repeat' (first|with_reducible refine ua4 ?_ ?_|with_reducible refine And.intro ?_ ?_|(with_reducible refine qS ?_ ?_ ?_;try cbv)|(with_reducible refine qT ?_ ?_;try cbv)|(with_reducible intro hcd;(try simp only [zA,zB,zC,zD,zE,zF,zG,zH,zI,zJ,zK,zL,zM,zN,zO,zP]at hcd);try cbv)
    | ((have hk9:=hbe k (by((try simp only [qV]at *);(try simp only [zQ,zA,zB,zC,zD,zE,zF,zG,zH,zI,zJ,zK,zL,zM,zN,zO,zP,zR,zS]at *);omega)))
       refine⟨fun ix=>[(iv fun _=>(uj5 (uco n.toNat Lb Lb.length k) (Lb.getD k 0).toNat (n.tdiv (zi Lb.length))) ix.den.toNat)],?_⟩
       cbv
       refine ua4 (udQ (o2:=0) (x:=[_]) (by((try simp only [qV]at *);(try simp only [zQ,zA,zB,zC,zD,zE,zF,zG,zH,zI,zJ,zK,zL,zM,zN,zO,zP,zR,zS]at *);omega)) (by intro jx h0 h1 h2;refine qC (qE ?_) rfl qA;(try simp only [qV]at *);(try simp only [zQ,zA,zB,zC,zD,zE,zF,zG,zH,zI,zJ,zK,zL,zM,zN,zO,zP,zR,zS]at *);exact uiN (by omega)) (by intro jx h0 h1 h2;refine⟨_,rfl,qC (qE ?_) rfl qA⟩;(try simp only [qV]at *);(try simp only [zQ,zA,zB,zC,zD,zE,zF,zG,zH,zI,zJ,zK,zL,zM,zN,zO,zP,zR,zS]at *);exact ufA (by omega))) ?_
       try cbv)
    | ((have hk9:=hbe k (by((try simp only [qV]at *);(try simp only [zQ,zA,zB,zC,zD,zE,zF,zG,zH,zI,zJ,zK,zL,zM,zN,zO,zP,zR,zS]at *);omega)))
       refine⟨fun ix=>[(iv fun _=>(uj5 (uj5 (uco n.toNat Lb Lb.length k) (Lb.getD k 0).toNat (n.tdiv (zi Lb.length))) (Lb.getD k 0).toNat ((uj5 (uco n.toNat Lb Lb.length k) (Lb.getD k 0).toNat (n.tdiv (zi Lb.length))) (Lb.getD k 0).toNat+1)) ix.den.toNat)],?_⟩
       cbv
       refine ua4 (udQ (o2:=0) (x:=[_]) (by((try simp only [qV]at *);(try simp only [zQ,zA,zB,zC,zD,zE,zF,zG,zH,zI,zJ,zK,zL,zM,zN,zO,zP,zR,zS]at *);omega)) (by intro jx h0 h1 h2;refine qC (qE ?_) rfl qA;(try simp only [qV]at *);(try simp only [zQ,zA,zB,zC,zD,zE,zF,zG,zH,zI,zJ,zK,zL,zM,zN,zO,zP,zR,zS]at *);exact uiN (by omega)) (by intro jx h0 h1 h2;refine⟨_,rfl,qC (qE ?_) rfl qA⟩;(try simp only [qV]at *);(try simp only [zQ,zA,zB,zC,zD,zE,zF,zG,zH,zI,zJ,zK,zL,zM,zN,zO,zP,zR,zS]at *);exact uts (by omega) (by omega))) ?_
       try cbv)
    |fail)
   all_goals first|trivial|((try simp only [qV]at *);(try simp only [zQ,zA,zB,zC,zD,zE,zF,zG,zH,zI,zJ,zK,zL,zM,zN,zO,zP,zR,zS]at *);first|(refine qN ?_;omega)|(simp only [uai];omega))|((have hk9:=hbe k (by((try simp only [qV]at *);(try simp only [zQ,zA,zB,zC,zD,zE,zF,zG,zH,zI,zJ,zK,zL,zM,zN,zO,zP,zR,zS]at *);omega)));(try simp only [qV]at *);(try simp only [zQ,zA,zB,zC,zD,zE,zF,zG,zH,zI,zJ,zK,zL,zM,zN,zO,zP,zR,zS]at *);simp only [uai];first|omega|exact⟨by omega,by omega⟩)|((have hk9:=hbe k (by((try simp only [qV]at *);(try simp only [zQ,zA,zB,zC,zD,zE,zF,zG,zH,zI,zJ,zK,zL,zM,zN,zO,zP,zR,zS]at *);omega)));(have hq9:=utv (m:=Lb.length) hn0 hn1);(try simp only [qV]at *);(try simp only [zQ,zA,zB,zC,zD,zE,zF,zG,zH,zI,zJ,zK,zL,zM,zN,zO,zP,zR,zS]at *);first|(refine qN ?_;omega)|(rw [←ufA (by omega)];refine qN ?_;omega))|((have hke:k=Lb.length:=(by((try simp only [qV]at *);(try simp only [zQ,zA,zB,zC,zD,zE,zF,zG,zH,zI,zJ,zK,zL,zM,zN,zO,zP,zR,zS]at *);omega)));subst hR;exact qD (ua1 hco.2.symm (fun ix h0 h1=>qC (qE (hend hke _)) rfl qA)) (qD (qE hco.1.symm) qB))|((try simp only [zQ,zA,zB,zC,zD,zE,zF,zG,zH,zI,zJ,zK,zL,zM,zN,zO,zP,zR,zS]at *);(have hk9:=hbe k (by((try simp only [qV]at *);(try simp only [zQ,zA,zB,zC,zD,zE,zF,zG,zH,zI,zJ,zK,zL,zM,zN,zO,zP,zR,zS]at *);omega)));(have hlo:¬(k:Int)<n.tmod (Lb.length:Int):=hcd);refine⟨⟨k+1,by((try simp only [qV]at *);(try simp only [zQ,zA,zB,zC,zD,zE,zF,zG,zH,zI,zJ,zK,zL,zM,zN,zO,zP,zR,zS]at *);omega)⟩,by simp only [];omega,?_⟩;cbv;(repeat' (first|with_reducible refine ua4 ?_ ?_|with_reducible refine And.intro ?_ ?_));(all_goals first|trivial|exact qM (qE (by rfl))|exact qM (qF (by rfl))|exact qM (Fit.refl _)|exact qL (qK _)|(refine qM (qE ?_);(try simp only [qV]at *);simp only [zQ,zA,zB,zC,zD,zE,zF,zG,zH,zI,zJ,zK,zL,zM,zN,zO,zP,zR,zS]at *;omega)|(refine qL (qJ ?_);(repeat' (first|exact qA|exact qB|refine qC ?_ rfl ?_|refine qD ?_ ?_|exact qE (by rfl)|exact qF (by rfl)|exact Fit.refl _|exact qG _|(refine qE ?_;(try simp only [qV]at *);simp only [zQ,zA,zB,zC,zD,zE,zF,zG,zH,zI,zJ,zK,zL,zM,zN,zO,zP,zR,zS]at *;omega)));done)|(refine qL (uae ?_ ?_)<;>first|rfl|(intro ix h0 h1;first|exact Fit.refl _|exact qC (qE (uis hn0 hk9.1 hlo)) rfl qA|exact qC (qE (uj1 hn0 hk9.1 hhi rfl)) rfl qA))|skip))|((try simp only [zQ,zA,zB,zC,zD,zE,zF,zG,zH,zI,zJ,zK,zL,zM,zN,zO,zP,zR,zS]at *);(have hk9:=hbe k (by((try simp only [qV]at *);(try simp only [zQ,zA,zB,zC,zD,zE,zF,zG,zH,zI,zJ,zK,zL,zM,zN,zO,zP,zR,zS]at *);omega)));(have hhi:(k:Int)<n.tmod (Lb.length:Int):=hcd);refine⟨⟨k+1,by((try simp only [qV]at *);(try simp only [zQ,zA,zB,zC,zD,zE,zF,zG,zH,zI,zJ,zK,zL,zM,zN,zO,zP,zR,zS]at *);omega)⟩,by simp only [];omega,?_⟩;cbv;(repeat' (first|with_reducible refine ua4 ?_ ?_|with_reducible refine And.intro ?_ ?_));(all_goals first|trivial|exact qM (qE (by rfl))|exact qM (qF (by rfl))|exact qM (Fit.refl _)|exact qL (qK _)|(refine qM (qE ?_);(try simp only [qV]at *);simp only [zQ,zA,zB,zC,zD,zE,zF,zG,zH,zI,zJ,zK,zL,zM,zN,zO,zP,zR,zS]at *;omega)|(refine qL (qJ ?_);(repeat' (first|exact qA|exact qB|refine qC ?_ rfl ?_|refine qD ?_ ?_|exact qE (by rfl)|exact qF (by rfl)|exact Fit.refl _|exact qG _|(refine qE ?_;(try simp only [qV]at *);simp only [zQ,zA,zB,zC,zD,zE,zF,zG,zH,zI,zJ,zK,zL,zM,zN,zO,zP,zR,zS]at *;omega)));done)|(refine qL (uae ?_ ?_)<;>first|rfl|(intro ix h0 h1;first|exact Fit.refl _|exact qC (qE (uis hn0 hk9.1 hlo)) rfl qA|exact qC (qE (uj1 hn0 hk9.1 hhi rfl)) rfl qA))|skip))|skip
set_option maxHeartbeats 2000000 in
theorem us5 (d:Dsp)(n:Int)(h:coE d n=0)(he:uib d≠[]):ua0 Tryz.prog 20 [(ub0 d),(iv fun _=>n)] [] (fun r _=>r=(.tup [(.sl 1 (.sym fun _=>coN d n) (fun ix=>[(iv fun _=>ukL d n ix.den.toNat)])),(iv fun _=>coE d n)])):=by
 have c16:=ubB d
 have c43:= @ud6
 have hf:=(uhz h).1
 have hn0:=(uhz h).2.1
 have hn1:=(uhz h).2.2
 have hF:=(uaH hf).1
 have p1:=(ua3.1 hF).p1
 have p4:=(ua3.1 hF).p4
 have hco:=ugz (n:=n) hF (show uoF n from⟨hn0,hn1⟩) hf
 have hbl:=uoH hf
 have hb0:=(upE hf).2
 have hbe:=fun (k:Nat) (hk:k<(ufs d).length)=>utr hf hk
 have hend:∀{k:Nat},k=(ufs d).length→∀p,uco n.toNat (ufs d) (ufs d).length k p=ukL d n p:=fun hk p=>by subst hk;rfl
 have c33:=ul1 d
 have hbn:=uxL he
 rw [←hbn]at c33
 obtain⟨Lb,hLb⟩:∃L,L=ufs d:=⟨_,rfl⟩
 rw [←hLb]at hbl hb0 hbe hend c33
 clear hLb hbn
 refine ua0.is fun R hR=>qW (sc:=uzo) uaj mix Tryz.func20 rfl Tryz.call20 (by kernel_rfl) (by kernel_rfl) ?_
 generalize Tryz.prog=P at c16 c43 c33⊢
 cbv
 repeat' (first|with_reducible refine ua4 ?_ ?_|with_reducible refine And.intro ?_ ?_|(with_reducible intro hcd;(try simp only [zA,zB,zC,zD,zE,zF,zG,zH,zI,zJ,zK,zL,zM,zN,zO,zP]at hcd);try cbv)|(refine qP ?_ (c16) ?hfit;(case hfit=>((repeat' (first|exact qB|refine qD ?_ ?_|exact qE (by rfl)|exact qF (by rfl)|exact Fit.refl _|exact qA|refine qC ?_ rfl ?_));done));try cbv)|(refine qP ?_ (c43 _ _ _) (by(repeat' (first|exact qB|refine qD ?_ ?_|exact qE (by rfl)|exact qF (by rfl)|exact Fit.refl _|exact qA|refine qC ?_ rfl ?_)));try cbv)|(refine qP ?_ (c33) ?hfit;(case hfit=>((repeat' (first|exact qB|refine qD ?_ ?_|exact qE (by rfl)|exact qF (by rfl)|exact Fit.refl _|exact qA|refine qC ?_ rfl ?_));done));try cbv)|fail)
 all_goals first|trivial|(unfold uai;exact⟨show(0:Int)≤d.pn by omega,rfl,show d.pn*((1:Nat):Int)≤16777216 by omega,show d.pn*((8:Nat):Int)≤16777216 by omega,show d.pn≤16777216 by omega⟩)|(exfalso;(try simp only [qV]at *);(try simp only [zQ,zA,zB,zC,zD,zE,zF,zG,zH,zI,zJ,zK,zL,zM,zN,zO,zP,zR,zS]at *);omega)|(exfalso;(try simp only [qV]at *);(try simp only [zQ,zA,zB,zC,zD,zE,zF,zG,zH,zI,zJ,zK,zL,zM,zN,zO,zP,zR,zS]at *);(try simp only [uah,uak,uav,uaE,uaJ,uaN,ua9,uab,ua8,uaa]at *);omega)|skip
 refine⟨none,[],{k:Nat // k≤Lb.length},fun x=>⟨[(1,(iv fun _=>n)),(7,(iS Lb)),(11,.row 27),(47,(iS Lb)),(48,(iv fun _=>zi Lb.length)),(49,(iv fun _=>zi x.1))],[(0,.cells [(iS d.tw),(iS d.tm),(.sl 1 (.sym fun _=>zi (d.tv).length) (fun ix=>[(.sl 1 (.sym fun _=>zi ((d.tv).getD ix.den.toNat []).length) (fun jx=>[(iv fun _=>((d.tv).getD ix.den.toNat []).getD jx.den.toNat 0)]))])),(iv fun _=>d.sn),(iv fun _=>d.pn),(.sl 4 (.sym fun _=>zi (d.ls).length) (fun ix=>[(iv fun _=>((d.ls).getD ix.den.toNat l0T).a),(iv fun _=>((d.ls).getD ix.den.toNat l0T).b),(iv fun _=>((d.ls).getD ix.den.toNat l0T).lo),(iv fun _=>((d.ls).getD ix.den.toNat l0T).hi)])),(.sl 6 (.sym fun _=>zi (d.fs).length) (fun ix=>[(iv fun _=>((d.fs).getD ix.den.toNat f0T).p),(iv fun _=>((d.fs).getD ix.den.toNat f0T).s),(iv fun _=>((d.fs).getD ix.den.toNat f0T).wl),(iv fun _=>((d.fs).getD ix.den.toNat f0T).wh),(iv fun _=>((d.fs).getD ix.den.toNat f0T).ml),(iv fun _=>((d.fs).getD ix.den.toNat f0T).mh)]))] 39),(27,.row 3 1 (.sym fun _=>d.pn) (fun ix=>[(iv fun _=>(uco n.toNat Lb Lb.length x.1) ix.den.toNat)]))],300⟩,fun x=>Lb.length-x.1,?_,?_⟩
 ·refine⟨⟨0,by omega⟩,?_⟩
  cbv
  repeat' (first|with_reducible refine ua4 ?_ ?_|with_reducible refine And.intro ?_ ?_)
  all_goals first|trivial|exact qM (qE (by rfl))|exact qM (Fit.refl _)|exact qL (qK _)|(refine qL (uae ?_ ?_)<;>first|rfl|((try simp only [qV]at *);(try simp only [zQ,zA,zB,zC,zD,zE,zF,zG,zH,zI,zJ,zK,zL,zM,zN,zO,zP,zR,zS]at *);omega)|(intro ix h0 h1;first|exact Fit.refl _|exact qC (qE rfl) rfl qA))|skip
 ·rintro ⟨k,hk⟩
  cbv
  repeat' (first|with_reducible refine ua4 ?_ ?_|with_reducible refine And.intro ?_ ?_|(with_reducible refine qS ?_ ?_ ?_;try cbv)|(with_reducible refine qT ?_ ?_;try cbv)|(with_reducible intro hcd;(try simp only [zA,zB,zC,zD,zE,zF,zG,zH,zI,zJ,zK,zL,zM,zN,zO,zP]at hcd);try cbv)
   | ((have hk9:=hbe k (by((try simp only [qV]at *);(try simp only [zQ,zA,zB,zC,zD,zE,zF,zG,zH,zI,zJ,zK,zL,zM,zN,zO,zP,zR,zS]at *);omega)))
      refine⟨fun ix=>[(iv fun _=>(uj5 (uco n.toNat Lb Lb.length k) (Lb.getD k 0).toNat (n.tdiv (zi Lb.length))) ix.den.toNat)],?_⟩
      cbv
      refine ua4 (udQ (o2:=0) (x:=[_]) (by((try simp only [qV]at *);(try simp only [zQ,zA,zB,zC,zD,zE,zF,zG,zH,zI,zJ,zK,zL,zM,zN,zO,zP,zR,zS]at *);omega)) (by intro jx h0 h1 h2;refine qC (qE ?_) rfl qA;(try simp only [qV]at *);(try simp only [zQ,zA,zB,zC,zD,zE,zF,zG,zH,zI,zJ,zK,zL,zM,zN,zO,zP,zR,zS]at *);exact uiN (by omega)) (by intro jx h0 h1 h2;refine⟨_,rfl,qC (qE ?_) rfl qA⟩;(try simp only [qV]at *);(try simp only [zQ,zA,zB,zC,zD,zE,zF,zG,zH,zI,zJ,zK,zL,zM,zN,zO,zP,zR,zS]at *);exact ufA (by omega))) ?_
      try cbv)
   | ((have hk9:=hbe k (by((try simp only [qV]at *);(try simp only [zQ,zA,zB,zC,zD,zE,zF,zG,zH,zI,zJ,zK,zL,zM,zN,zO,zP,zR,zS]at *);omega)))
      refine⟨fun ix=>[(iv fun _=>(uj5 (uj5 (uco n.toNat Lb Lb.length k) (Lb.getD k 0).toNat (n.tdiv (zi Lb.length))) (Lb.getD k 0).toNat ((uj5 (uco n.toNat Lb Lb.length k) (Lb.getD k 0).toNat (n.tdiv (zi Lb.length))) (Lb.getD k 0).toNat+1)) ix.den.toNat)],?_⟩
      cbv
      refine ua4 (udQ (o2:=0) (x:=[_]) (by((try simp only [qV]at *);(try simp only [zQ,zA,zB,zC,zD,zE,zF,zG,zH,zI,zJ,zK,zL,zM,zN,zO,zP,zR,zS]at *);omega)) (by intro jx h0 h1 h2;refine qC (qE ?_) rfl qA;(try simp only [qV]at *);(try simp only [zQ,zA,zB,zC,zD,zE,zF,zG,zH,zI,zJ,zK,zL,zM,zN,zO,zP,zR,zS]at *);exact uiN (by omega)) (by intro jx h0 h1 h2;refine⟨_,rfl,qC (qE ?_) rfl qA⟩;(try simp only [qV]at *);(try simp only [zQ,zA,zB,zC,zD,zE,zF,zG,zH,zI,zJ,zK,zL,zM,zN,zO,zP,zR,zS]at *);exact uts (by omega) (by omega))) ?_
      try cbv)
   |fail)
  all_goals first|trivial|((try simp only [qV]at *);(try simp only [zQ,zA,zB,zC,zD,zE,zF,zG,zH,zI,zJ,zK,zL,zM,zN,zO,zP,zR,zS]at *);first|(refine qN ?_;omega)|(simp only [uai];omega))|((have hk9:=hbe k (by((try simp only [qV]at *);(try simp only [zQ,zA,zB,zC,zD,zE,zF,zG,zH,zI,zJ,zK,zL,zM,zN,zO,zP,zR,zS]at *);omega)));(try simp only [qV]at *);(try simp only [zQ,zA,zB,zC,zD,zE,zF,zG,zH,zI,zJ,zK,zL,zM,zN,zO,zP,zR,zS]at *);simp only [uai];first|omega|exact⟨by omega,by omega⟩)|((have hk9:=hbe k (by((try simp only [qV]at *);(try simp only [zQ,zA,zB,zC,zD,zE,zF,zG,zH,zI,zJ,zK,zL,zM,zN,zO,zP,zR,zS]at *);omega)));(have hq9:=utv (m:=Lb.length) hn0 hn1);(try simp only [qV]at *);(try simp only [zQ,zA,zB,zC,zD,zE,zF,zG,zH,zI,zJ,zK,zL,zM,zN,zO,zP,zR,zS]at *);first|(refine qN ?_;omega)|(rw [←ufA (by omega)];refine qN ?_;omega))|((have hke:k=Lb.length:=(by((try simp only [qV]at *);(try simp only [zQ,zA,zB,zC,zD,zE,zF,zG,zH,zI,zJ,zK,zL,zM,zN,zO,zP,zR,zS]at *);omega)));subst hR;exact qD (ua1 hco.2.symm (fun ix h0 h1=>qC (qE (hend hke _)) rfl qA)) (qD (qE hco.1.symm) qB))|((try simp only [zQ,zA,zB,zC,zD,zE,zF,zG,zH,zI,zJ,zK,zL,zM,zN,zO,zP,zR,zS]at *);(have hk9:=hbe k (by((try simp only [qV]at *);(try simp only [zQ,zA,zB,zC,zD,zE,zF,zG,zH,zI,zJ,zK,zL,zM,zN,zO,zP,zR,zS]at *);omega)));(have hlo:¬(k:Int)<n.tmod (Lb.length:Int):=hcd);refine⟨⟨k+1,by((try simp only [qV]at *);(try simp only [zQ,zA,zB,zC,zD,zE,zF,zG,zH,zI,zJ,zK,zL,zM,zN,zO,zP,zR,zS]at *);omega)⟩,by simp only [];omega,?_⟩;cbv;(repeat' (first|with_reducible refine ua4 ?_ ?_|with_reducible refine And.intro ?_ ?_));(all_goals first|trivial|exact qM (qE (by rfl))|exact qM (qF (by rfl))|exact qM (Fit.refl _)|exact qL (qK _)|(refine qM (qE ?_);(try simp only [qV]at *);simp only [zQ,zA,zB,zC,zD,zE,zF,zG,zH,zI,zJ,zK,zL,zM,zN,zO,zP,zR,zS]at *;omega)|(refine qL (qJ ?_);(repeat' (first|exact qA|exact qB|refine qC ?_ rfl ?_|refine qD ?_ ?_|exact qE (by rfl)|exact qF (by rfl)|exact Fit.refl _|exact qG _|(refine qE ?_;(try simp only [qV]at *);simp only [zQ,zA,zB,zC,zD,zE,zF,zG,zH,zI,zJ,zK,zL,zM,zN,zO,zP,zR,zS]at *;omega)));done)|(refine qL (uae ?_ ?_)<;>first|rfl|(intro ix h0 h1;first|exact Fit.refl _|exact qC (qE (uis hn0 hk9.1 hlo)) rfl qA|exact qC (qE (uj1 hn0 hk9.1 hhi rfl)) rfl qA))|skip))|((try simp only [zQ,zA,zB,zC,zD,zE,zF,zG,zH,zI,zJ,zK,zL,zM,zN,zO,zP,zR,zS]at *);(have hk9:=hbe k (by((try simp only [qV]at *);(try simp only [zQ,zA,zB,zC,zD,zE,zF,zG,zH,zI,zJ,zK,zL,zM,zN,zO,zP,zR,zS]at *);omega)));(have hhi:(k:Int)<n.tmod (Lb.length:Int):=hcd);refine⟨⟨k+1,by((try simp only [qV]at *);(try simp only [zQ,zA,zB,zC,zD,zE,zF,zG,zH,zI,zJ,zK,zL,zM,zN,zO,zP,zR,zS]at *);omega)⟩,by simp only [];omega,?_⟩;cbv;(repeat' (first|with_reducible refine ua4 ?_ ?_|with_reducible refine And.intro ?_ ?_));(all_goals first|trivial|exact qM (qE (by rfl))|exact qM (qF (by rfl))|exact qM (Fit.refl _)|exact qL (qK _)|(refine qM (qE ?_);(try simp only [qV]at *);simp only [zQ,zA,zB,zC,zD,zE,zF,zG,zH,zI,zJ,zK,zL,zM,zN,zO,zP,zR,zS]at *;omega)|(refine qL (qJ ?_);(repeat' (first|exact qA|exact qB|refine qC ?_ rfl ?_|refine qD ?_ ?_|exact qE (by rfl)|exact qF (by rfl)|exact Fit.refl _|exact qG _|(refine qE ?_;(try simp only [qV]at *);simp only [zQ,zA,zB,zC,zD,zE,zF,zG,zH,zI,zJ,zK,zL,zM,zN,zO,zP,zR,zS]at *;omega)));done)|(refine qL (uae ?_ ?_)<;>first|rfl|(intro ix h0 h1;first|exact Fit.refl _|exact qC (qE (uis hn0 hk9.1 hlo)) rfl qA|exact qC (qE (uj1 hn0 hk9.1 hhi rfl)) rfl qA))|skip))|skip
theorem upF (d:Dsp)(n:Int):ua0 Tryz.prog 20 [(ub0 d),(iv fun _=>n)] [] (fun r _=>r=(.tup [(.sl 1 (.sym fun _=>coN d n) (fun ix=>[(iv fun _=>ukL d n ix.den.toNat)])),(iv fun _=>coE d n)])):=by
 by_cases h:coE d n=0
 ·by_cases he:uib d=[]
  ·exact urK d n h he
  ·exact us5 d n h he
 ·exact urR d n h
end Go.Proofs.YtkdggbfknlcdaaaGreat
namespace Go.Proofs.YtkdggbfknlcdaaaGreat
open Go Go.Eng Go.Eng.Dif Go.Eng.Few
def d3 :Dsp:=⟨[10,14,20],[0,10,20],[[100,140,200],[90,131,192],[80,120,170]],2,3,[⟨0,1,-3,0⟩],[⟨0,0,12,12,5,6⟩,⟨1,0,14,14,2,3⟩,⟨2,1,10,10,4,4⟩]⟩
def d2 :Dsp:=⟨[10,14,20],[0,10,20],[[100,140,200],[90,131,192],[80,120,170]],2,3,[⟨0,1,-3,0⟩],[⟨0,0,12,12,5,6⟩,⟨2,1,10,10,4,4⟩]⟩
theorem ukz :ua5 d3=0:=by decide +kernel
theorem unk :ua5 d2=0:=by decide +kernel
theorem uhG :mLo d3 ⟨0,0,12,12,5,6⟩=115∧mHi d3 ⟨0,0,12,12,5,6⟩=119:=by decide +kernel
theorem utR :mLo d3 ⟨1,0,14,14,2,3⟩=98∧mHi d3 ⟨1,0,14,14,2,3⟩=102:=by decide +kernel
theorem umI :mLo d3 ⟨2,1,10,10,4,4⟩=116∧mHi d3 ⟨2,1,10,10,4,4⟩=116:=by decide +kernel
theorem FO3 :FO d3 d3.fs=xF3:=by
 have e:FO d3 d3.fs=[⟨0,mLo d3 ⟨0,0,12,12,5,6⟩,mHi d3 ⟨0,0,12,12,5,6⟩⟩,⟨0,mLo d3 ⟨1,0,14,14,2,3⟩,mHi d3 ⟨1,0,14,14,2,3⟩⟩,⟨1,mLo d3 ⟨2,1,10,10,4,4⟩,mHi d3 ⟨2,1,10,10,4,4⟩⟩]:=rfl
 rw [e,uhG.1,uhG.2,utR.1,utR.2,umI.1,umI.2]
 rfl
theorem FO2 :FO d2 d2.fs=xF2:=by
 have e:FO d2 d2.fs=[⟨0,mLo d3 ⟨0,0,12,12,5,6⟩,mHi d3 ⟨0,0,12,12,5,6⟩⟩,⟨1,mLo d3 ⟨2,1,10,10,4,4⟩,mHi d3 ⟨2,1,10,10,4,4⟩⟩]:=rfl
 rw [e,uhG.1,uhG.2,umI.1,umI.2]
 rfl
theorem uCl :DOk d3:=ua3.1 ukz
theorem uBo :DOk d2:=ua3.1 unk
theorem uwx :udX d3=true:=usY
theorem uwO :udX d2=true:=usY
theorem uhr :uam d3=0:=ugw ukz uwx
theorem uxy :uam d2=0:=ugw unk uwO
theorem upw :ufO d3 0=0∧uk3 d3 0=115∧ukH d3 0=119:=by
 have h:=ukI (d:=d3) (n:=0) ukz (by decide)
 exact⟨h.1,h.2.1.trans uhG.1,h.2.2.trans uhG.2⟩
theorem uAQ :uuB d3=some 1:=by
 unfold uuB
 rw [FO3]
 exact uz3
theorem uxs :urv d3=0∧urt d3=1:=uk1 uhr uAQ
theorem uAt :ug4 d3=[1]:=by
 unfold ug4
 rw [if_pos uhr,uqe,FO3]
 exact uzQ
theorem un5 {S:Nat} {ls:List Lk} {fs:List Fa}(h:Okk S ls fs) {p q:Nat→Int}(e:∀i,i<fs.length→p i=q i):okP S ls fs p=okP S ls fs q:=by
 funext o
 unfold okP
 exact ukA h fun i hi=>by unfold uyB;rw [e i hi]
theorem uum :uc7 d3=okP 2 xL3 xF3 xP3:=by
 rw [ulR uCl,FO3]
 refine un5 uyv fun i hi=> ?_
 have hi:i<3:=hi
 rcases(show i=0∨i=1∨i=2 by omega)with e|e|e<;>subst e<;>rfl
theorem uAf :uc7 d2=okP 2 xL3 xF2 xP2:=by
 rw [ulR uBo,FO2]
 refine un5 urx fun i hi=> ?_
 have hi:i<2:=hi
 rcases(show i=0∨i=1 by omega)with e|e<;>subst e<;>rfl
theorem uBy :utS d3=[1]:=by
 unfold utS
 rw [if_pos uhr,uum]
 exact uwe.1
theorem uAw :uib d3=[1]:=by
 unfold uib um2
 rw [if_pos uhr,uum]
 exact uwe.2.1
theorem uBu :us2 d3=[1]:=by
 unfold us2 uru
 rw [if_pos uhr,uum]
 exact uwe.2.2
theorem uAT :uib d2=[]:=by
 unfold uib um2
 rw [if_pos uxy,uAf]
 exact uzs.2.2.1
theorem uBs :ud5 d2 d2.fs []=true:=by
 rw [ugF,FO2]
 exact ut8.1
theorem uAG :uj2 d2=0∧uoD d2=2:=uep unk uBs
theorem ugf (d:Dsp)(s:Nat):loT d [] s=loD (SN d) (LO d) (FO d d.fs) s∧hiT d [] s=hiD (SN d) (LO d) (FO d d.fs) s:=by
 unfold loT hiT ufv
 rw [uiT]
 exact⟨rfl,rfl⟩
theorem bd2 :(loT d2 [] 0=116∧hiT d2 [] 0=119)∧loT d2 [] 1=116∧hiT d2 [] 1=116:=by
 rw [(ugf d2 0).1,(ugf d2 0).2,(ugf d2 1).1,(ugf d2 1).2,FO2]
 exact⟨⟨ut8.2.1,ut8.2.2.1⟩,ut8.2.2.2.1,ut8.2.2.2.2⟩
theorem uu4 (d:Dsp)(o:List Int)(s:Nat):loT d o s=loD (SN d) (LO d) (kpN (FO d d.fs) (ukJ o) d.fs.length) s∧hiT d o s=hiD (SN d) (LO d) (kpN (FO d d.fs) (ukJ o) d.fs.length) s:=by
 unfold loT hiT ufv ubV
 rw [uyb (Nat.le_refl _)]
 exact⟨rfl,rfl⟩
theorem bd3 :loT d3 [1] 0=116∧hiT d3 [1] 0=119:=by
 have e:kpN (FO d3 d3.fs) (ukJ [1]) d3.fs.length=xF2:=by rw [FO3];exact uAV
 rw [(uu4 d3 [1] 0).1,(uu4 d3 [1] 0).2,e]
 exact⟨ut8.2.1,ut8.2.2.1⟩
theorem ch3 :chE d3 0 1000=0∧chL d3 0 1000=116∧chH d3 0 1000=119:=by
 have h:=uoV (d:=d3) (s:=0) (g:=1000) ukz (by decide) uhr
 rw [uAt]at h
 refine⟨h.1,h.2.1.trans ?_,h.2.2.trans ?_⟩
 ·show(1000*loT d3 [1] 0).tdiv 1000=116
  rw [bd3.1];rfl
 ·show(1000*hiT d3 [1] 0).tdiv 1000=119
  rw [bd3.2];rfl
theorem co3 :coE d3 100=0∧coN d3 100=3:=ugz ukz (by decide) uhr
theorem co2 :coE d2 100=0∧coN d2 100=3:=ugz unk (by decide) uxy
theorem uAe :ukL d3 100 0=0∧ukL d3 100 1=100∧ukL d3 100 2=0:=by
 have e:ufs d3=[1]:=by unfold ufs;rw [uAw];rfl
 unfold ukL
 rw [e]
 exact uwQ
theorem uzh :ukL d2 100 0=34∧ukL d2 100 1=33∧ukL d2 100 2=33:=by
 have e:ufs d2=[0,1,2]:=by unfold ufs;rw [uAT];rfl
 unfold ukL
 rw [e]
 exact uya
end Go.Proofs.YtkdggbfknlcdaaaGreat
