/- Contracts of the functions that the laws come to. No condition. -/
import Derived.Test.YtkdggbfknlcdaaaGreatT4
set_option linter.unusedVariables false
set_option linter.unusedSimpArgs false
set_option linter.deprecated false

namespace Go.Proofs.YtkdggbfknlcdaaaGreat
open Go Go.Eng Go.Proofs Go.Eng.Dif Go.Eng.Few
set_option maxRecDepth 10000
theorem uvT :un9 Tryz.prog 95 16:=usE (e:=93) (g:=3) (n:=4) (m:=4) (by kernel_rfl)
theorem uzu {v:Nat} {Y:Nat→Int} {f t a b i:Nat}(ht:t<4)(ha:a=at4 f v)(hb:b=at4 v t):lst (phN v Y (f*4+t)) (at4 f t) (phN v Y (f*4+t) a+phN v Y (f*4+t) b) i=phN v Y (f*4+(t+1)) i:=by
 subst ha
 subst hb
 have e:phN v Y (f*4+(t+1))=stp v (phN v Y (f*4+t)) (f*4+t):=rfl
 rw [e]
 unfold stp
 rw [show(f*4+t)/4=f by omega,show(f*4+t)%4=t by omega]
 rfl
theorem ux2 {v:Nat} {Y:Nat→Int} {f t i:Nat}(h:t=4):phN v Y (f*4+t) i=phN v Y ((f+1)*4) i:=by
 subst h
 rw [show f*4+4=(f+1)*4 by omega]
theorem uy7 {v:Nat} {X:Nat→Int} {f i:Nat}(h:f=4):phN v (fwN X v) (f*4) i=fwN X (v+1) i:=by subst h;rfl
theorem ux7 {M:Nat→Int} {n v i:Nat}(h:v=4):fwN (fwP M n) v i=fwP M (n+1) i:=by subst h;rfl
theorem uvy {M:Nat→Int} {n i:Nat}(h:n=4):fwP M n i=clo M i:=by subst h;rfl
theorem uuH {M:Nat→Int} {n v:Nat}(hn:n<4)(hv:v=4)(h:ukL (fwN (fwP M n) v) (fwP M n)) {i:Nat}(hi:i<16):fwN (fwP M n) v i=clo M i:=by
 subst hv
 have h':ukL (fwP M (n+1)) (fwP M n):=h
 have:=usn h' (3-n) i hi
 rw [show n+1+(3-n)=4 by omega]at this
 exact this.symm
theorem uss {P:Nat→Int}(hP:∀i,i<16→ -5642219814912000≤P i∧P i≤2000) {a b:Nat}(ha:a<16)(hb:b<16):uaj (inR .i64 (uuS (IX.sym fun _=>P a).den (IX.sym fun _=>P b).den)):=by
 have h1:=hP a ha
 have h2:=hP b hb
 refine qN ?_
 simp only [zQ,zA,zB,zC,zD,zE,zF,zG,zH,zI,zJ,zK,zL,zM,zN,zO,zP,zR,zS]
 omega
theorem uw6 {A B:Nat→Int}(h:decide (uba [IX.sym fun _=>A 0,IX.sym fun _=>A 1,IX.sym fun _=>A 2,IX.sym fun _=>A 3,IX.sym fun _=>A 4,IX.sym fun _=>A 5,IX.sym fun _=>A 6,IX.sym fun _=>A 7,IX.sym fun _=>A 8,IX.sym fun _=>A 9,IX.sym fun _=>A 10,IX.sym fun _=>A 11,IX.sym fun _=>A 12,IX.sym fun _=>A 13,IX.sym fun _=>A 14,IX.sym fun _=>A 15]=uba [IX.sym fun _=>B 0,IX.sym fun _=>B 1,IX.sym fun _=>B 2,IX.sym fun _=>B 3,IX.sym fun _=>B 4,IX.sym fun _=>B 5,IX.sym fun _=>B 6,IX.sym fun _=>B 7,IX.sym fun _=>B 8,IX.sym fun _=>B 9,IX.sym fun _=>B 10,IX.sym fun _=>B 11,IX.sym fun _=>B 12,IX.sym fun _=>B 13,IX.sym fun _=>B 14,IX.sym fun _=>B 15])=true):ukL A B:=by
 have e:=of_decide_eq_true h
 simp only [uba,List.map_cons,List.map_nil,ub6,List.cons.injEq,and_true]at e
 intro i hi
 rcases(show i=0∨i=1∨i=2∨i=3∨i=4∨i=5∨i=6∨i=7∨i=8∨i=9∨i=10∨i=11∨i=12∨i=13∨i=14∨i=15 by omega)with q|q|q|q|q|q|q|q|q|q|q|q|q|q|q|q<;>subst q
 ·exact e.1
 ·exact e.2.1
 ·exact e.2.2.1
 ·exact e.2.2.2.1
 ·exact e.2.2.2.2.1
 ·exact e.2.2.2.2.2.1
 ·exact e.2.2.2.2.2.2.1
 ·exact e.2.2.2.2.2.2.2.1
 ·exact e.2.2.2.2.2.2.2.2.1
 ·exact e.2.2.2.2.2.2.2.2.2.1
 ·exact e.2.2.2.2.2.2.2.2.2.2.1
 ·exact e.2.2.2.2.2.2.2.2.2.2.2.1
 ·exact e.2.2.2.2.2.2.2.2.2.2.2.2.1
 ·exact e.2.2.2.2.2.2.2.2.2.2.2.2.2.1
 ·exact e.2.2.2.2.2.2.2.2.2.2.2.2.2.2.1
 ·exact e.2.2.2.2.2.2.2.2.2.2.2.2.2.2.2
theorem utS {M:Nat→Int} {a b:Nat}(q:¬M a<0)(h:a=b):0≤M b:=by subst h;omega
theorem uti {M:Nat→Int} {n a:Nat}(h:M a<0)(ha:a=at4 n n)(hn:n<4):false=okD M:=by
 subst ha
 symm
 rw [Bool.eq_false_iff]
 intro q
 have:=ufP.1 q n hn
 omega
theorem urp {M:Nat→Int} {n:Nat}(hn:n=4)(h:∀j,j<n→0≤M (at4 j j)):true=okD M:=by
 subst hn
 exact(ufP.2 h).symm
set_option maxHeartbeats 2000000 in
theorem umc (M:Nat→Int)(h1:∀i,i<16→ -2000≤M i)(h2:∀i,i<16→M i≤2000):ua0 Tryz.prog 78 [.own 0 0] [.cells [(.arr 16 (fun ix=>(iv fun _=>M ix.den.toNat)))] 95] (fun r bs=>r=(bv fun _=>okD (clo M))∧bs=[.cells [(.arr 16 (fun ix=>(iv fun _=>(clo M) ix.den.toNat)))] 95]):=by
 have he:=uvT
 have c98:= @uqF
 refine ua0.isB rfl fun R B hR hB=>qW (sc:=uBm) uai mix Tryz.func78 rfl Tryz.call78 (by kernel_rfl) (by kernel_rfl) ?_
 generalize Tryz.prog=P at he c98⊢
 cbv
 repeat' (first|fail)
 all_goals first|skip
 refine⟨none,[],{n:Nat // n≤4},fun x=>⟨[(0,.own 0 0),(8,(iv fun _=>zi x.1))],[(0,.cells [(.arr 16 (fun ix=>(iv fun _=>(fwP M x.1) ix.den.toNat)))] 95)],60⟩,fun x=>4-x.1,?_,?_⟩
 ·refine⟨⟨0,by omega⟩,?_⟩
  cbv
  repeat' (first|with_reducible refine ua4 ?_ ?_|with_reducible refine And.intro ?_ ?_)
  all_goals first|trivial|exact qM (qE (by rfl))|exact qM (Fit.refl _)|exact qL (qK _)|skip
 ·rintro ⟨n, hn⟩
  cbv
  repeat' (first|with_reducible refine And.intro ?_ ?_|(with_reducible intro hcd;(try simp only [zA,zB,zC,zD,zE,zF,zG,zH,zI,zJ,zK,zL,zM,zN,zO,zP]at hcd);try cbv)|fail)
  all_goals first|skip
  refine⟨none,[],{v:Nat // v≤4},fun x=>⟨[(0,.own 0 0),(8,(iv fun _=>zi n)),(3,.own 64 0),(13,(iv fun _=>zi x.1))],[(0,.cells [(.arr 16 (fun ix=>(iv fun _=>(fwN (fwP M n) x.1) ix.den.toNat)))] 95),(64,.cells [(.arr 16 (fun ix=>(iv fun _=>(fwP M n) ix.den.toNat)))] 95)],200⟩,fun x=>4-x.1,?_,?_⟩
  ·refine⟨⟨0,by omega⟩,?_⟩
   cbv
   repeat' (first|with_reducible refine ua4 ?_ ?_|with_reducible refine And.intro ?_ ?_)
   all_goals first|trivial|exact qM (qE (by rfl))|exact qM (Fit.refl _)|exact qL (qK _)|skip
  ·rintro ⟨v, hv⟩
   cbv
   repeat' (first|with_reducible refine ua4 ?_ ?_|with_reducible refine And.intro ?_ ?_|(with_reducible intro hcd;(try simp only [zA,zB,zC,zD,zE,zF,zG,zH,zI,zJ,zK,zL,zM,zN,zO,zP]at hcd);try cbv)|fail)
   all_goals first|trivial|((try simp only [qV]at *);(try simp only [zQ,zA,zB,zC,zD,zE,zF,zG,zH,zI,zJ,zK,zL,zM,zN,zO,zP,zR,zS]at *);first|(refine qN ?_;omega)|(simp only [uaj];omega))|((try simp only [zQ,zA,zB,zC,zD,zE,zF,zG,zH,zI,zJ,zK,zL,zM,zN,zO,zP,zR,zS]at *);refine⟨⟨n+1,by omega⟩,by simp only [];omega,?_⟩;cbv;(repeat' (first|with_reducible refine ua4 ?_ ?_|with_reducible refine And.intro ?_ ?_));(all_goals first|trivial|exact qM (qE (by rfl))|exact qM (qF (by rfl))|exact qM (Fit.refl _)|exact qL (qK _)|(refine qM (qE ?_);(try simp only [qV]at *);simp only [zQ,zA,zB,zC,zD,zE,zF,zG,zH,zI,zJ,zK,zL,zM,zN,zO,zP,zR,zS]at *;omega)|(refine qL (qJ (ub1 (fun ix h0 h1=>qE (ux7 (by((try simp only [qV]at *);(try simp only [zQ,zA,zB,zC,zD,zE,zF,zG,zH,zI,zJ,zK,zL,zM,zN,zO,zP,zR,zS]at *);omega)))) qA)))|skip))|skip
   refine⟨none,[],{f:Nat // f≤4},fun x=>⟨[(0,.own 0 0),(8,(iv fun _=>zi n)),(3,.own 64 0),(13,(iv fun _=>zi v)),(4,(iv fun _=>zi v)),(16,(iv fun _=>zi x.1))],[(0,.cells [(.arr 16 (fun ix=>(iv fun _=>(phN v (fwN (fwP M n) v) (x.1*4)) ix.den.toNat)))] 95),(64,.cells [(.arr 16 (fun ix=>(iv fun _=>(fwP M n) ix.den.toNat)))] 95)],300⟩,fun x=>4-x.1,?_,?_⟩
   ·refine⟨⟨0,by omega⟩,?_⟩
    cbv
    repeat' (first|with_reducible refine ua4 ?_ ?_|with_reducible refine And.intro ?_ ?_)
    all_goals first|trivial|exact qM (qE (by rfl))|exact qM (Fit.refl _)|exact qL (qK _)|skip
   ·rintro ⟨f,hf⟩
    cbv
    repeat' (first|with_reducible refine ua4 ?_ ?_|with_reducible refine And.intro ?_ ?_|(with_reducible intro hcd;(try simp only [zA,zB,zC,zD,zE,zF,zG,zH,zI,zJ,zK,zL,zM,zN,zO,zP]at hcd);try cbv)|fail)
    all_goals first|((try simp only [qV]at *);(try simp only [zQ,zA,zB,zC,zD,zE,zF,zG,zH,zI,zJ,zK,zL,zM,zN,zO,zP,zR,zS]at *);first|(refine qN ?_;omega)|(simp only [uaj];omega))|((try simp only [zQ,zA,zB,zC,zD,zE,zF,zG,zH,zI,zJ,zK,zL,zM,zN,zO,zP,zR,zS]at *);refine⟨⟨v+1,by omega⟩,by simp only [];omega,?_⟩;cbv;(repeat' (first|with_reducible refine ua4 ?_ ?_|with_reducible refine And.intro ?_ ?_));(all_goals first|trivial|exact qM (qE (by rfl))|exact qM (qF (by rfl))|exact qM (Fit.refl _)|exact qL (qK _)|(refine qM (qE ?_);(try simp only [qV]at *);simp only [zQ,zA,zB,zC,zD,zE,zF,zG,zH,zI,zJ,zK,zL,zM,zN,zO,zP,zR,zS]at *;omega)|(refine qL (qJ (ub1 (fun ix h0 h1=>qE (uy7 (by((try simp only [qV]at *);(try simp only [zQ,zA,zB,zC,zD,zE,zF,zG,zH,zI,zJ,zK,zL,zM,zN,zO,zP,zR,zS]at *);omega)))) qA)))|(refine qL (qJ (ub1 (fun ix h0 h1=>qE rfl) qA)))|skip))|skip
    refine⟨none,[],{t:Nat // t≤4},fun x=>⟨[(0,.own 0 0),(8,(iv fun _=>zi n)),(3,.own 64 0),(13,(iv fun _=>zi v)),(4,(iv fun _=>zi v)),(16,(iv fun _=>zi f)),(5,(iv fun _=>zi f)),(19,(iv fun _=>zi x.1))],[(0,.cells [(.arr 16 (fun ix=>(iv fun _=>(phN v (fwN (fwP M n) v) (f*4+x.1)) ix.den.toNat)))] 95),(64,.cells [(.arr 16 (fun ix=>(iv fun _=>(fwP M n) ix.den.toNat)))] 95)],400⟩,fun x=>4-x.1,?_,?_⟩
    ·refine⟨⟨0,by omega⟩,?_⟩
     cbv
     repeat' (first|with_reducible refine ua4 ?_ ?_|with_reducible refine And.intro ?_ ?_)
     all_goals first|trivial|exact qM (qE (by rfl))|exact qM (Fit.refl _)|exact qL (qK _)|skip
    ·rintro ⟨t,ht⟩
     cbv
     repeat' (first
      |with_reducible refine ua4 ?_ ?_
      |with_reducible refine And.intro ?_ ?_
      |(with_reducible intro hcd;(try simp only [zA,zB,zC,zD,zE,zF,zG,zH,zI,zJ,zK,zL,zM,zN,zO,zP]at hcd);try cbv)
      | (refine⟨some [0],?_⟩
         cbv
         refine qQ ?_ (c98 (phN v (fwN (fwP M n) v) (f*4+t)) (zi f) (zi t) (phN v (fwN (fwP M n) v) (f*4+t) ((zi f*4+zi v)*1+0).toNat+phN v (fwN (fwP M n) v) (f*4+t) ((zi v*4+zi t)*1+0).toNat) ⟨(by((try simp only [qV]at *);(try simp only [zQ,zA,zB,zC,zD,zE,zF,zG,zH,zI,zJ,zK,zL,zM,zN,zO,zP,zR,zS]at *);omega)),(by((try simp only [qV]at *);(try simp only [zQ,zA,zB,zC,zD,zE,zF,zG,zH,zI,zJ,zK,zL,zM,zN,zO,zP,zR,zS]at *);omega))⟩ ⟨(by((try simp only [qV]at *);(try simp only [zQ,zA,zB,zC,zD,zE,zF,zG,zH,zI,zJ,zK,zL,zM,zN,zO,zP,zR,zS]at *);omega)),(by((try simp only [qV]at *);(try simp only [zQ,zA,zB,zC,zD,zE,zF,zG,zH,zI,zJ,zK,zL,zM,zN,zO,zP,zR,zS]at *);omega))⟩) ?hfit ?hbo
         case hfit=>(cbv;(repeat' (first|exact qB|refine qD ?_ ?_|exact qE (by rfl)|exact qF (by rfl)|exact Fit.refl _|exact qA|refine qC ?_ rfl ?_));done)
         case hbo=>(cbv;(repeat' (first|exact qH|refine qI ?_ ?_|exact qK _|refine qJ ?_|exact qA|exact qE (by rfl)|exact qF (by rfl)|exact Fit.refl _|exact qG _|refine qC ?_ rfl ?_));done)
         try cbv)
      |fail)
     all_goals first|((try simp only [qV]at *);(try simp only [zQ,zA,zB,zC,zD,zE,zF,zG,zH,zI,zJ,zK,zL,zM,zN,zO,zP,zR,zS]at *);first|(refine qN ?_;omega)|(simp only [uaj];omega))|(refine uss (P:=phN v (fwN (fwP M n) v) (f*4+t)) (fun i hi=>uxx h1 h2 (by((try simp only [qV]at *);(try simp only [zQ,zA,zB,zC,zD,zE,zF,zG,zH,zI,zJ,zK,zL,zM,zN,zO,zP,zR,zS]at *);omega)) (by((try simp only [qV]at *);(try simp only [zQ,zA,zB,zC,zD,zE,zF,zG,zH,zI,zJ,zK,zL,zM,zN,zO,zP,zR,zS]at *);omega)) (by((try simp only [qV]at *);(try simp only [zQ,zA,zB,zC,zD,zE,zF,zG,zH,zI,zJ,zK,zL,zM,zN,zO,zP,zR,zS]at *);omega)) hi) ?_ ?_<;>((try simp only [qV]at *);(try simp only [zQ,zA,zB,zC,zD,zE,zF,zG,zH,zI,zJ,zK,zL,zM,zN,zO,zP,zR,zS]at *);omega))|((try simp only [zQ,zA,zB,zC,zD,zE,zF,zG,zH,zI,zJ,zK,zL,zM,zN,zO,zP,zR,zS]at *);refine⟨⟨t+1,by omega⟩,by simp only [];omega,?_⟩;cbv;(repeat' (first|with_reducible refine ua4 ?_ ?_|with_reducible refine And.intro ?_ ?_));(all_goals first|trivial|exact qM (qE (by rfl))|exact qM (qF (by rfl))|exact qM (Fit.refl _)|exact qL (qK _)|(refine qM (qE ?_);(try simp only [qV]at *);simp only [zQ,zA,zB,zC,zD,zE,zF,zG,zH,zI,zJ,zK,zL,zM,zN,zO,zP,zR,zS]at *;omega)|(refine qL (qJ (ub1 (fun ix h0 h1=>qE (uzu (by((try simp only [qV]at *);(try simp only [zQ,zA,zB,zC,zD,zE,zF,zG,zH,zI,zJ,zK,zL,zM,zN,zO,zP,zR,zS]at *);omega)) (by unfold at4;(try simp only [qV]at *);(try simp only [zQ,zA,zB,zC,zD,zE,zF,zG,zH,zI,zJ,zK,zL,zM,zN,zO,zP,zR,zS]at *);omega) (by unfold at4;(try simp only [qV]at *);(try simp only [zQ,zA,zB,zC,zD,zE,zF,zG,zH,zI,zJ,zK,zL,zM,zN,zO,zP,zR,zS]at *);omega))) qA)))|(refine qL (qJ (ub1 (fun ix h0 h1=>qE rfl) qA)))|skip))|((try simp only [zQ,zA,zB,zC,zD,zE,zF,zG,zH,zI,zJ,zK,zL,zM,zN,zO,zP,zR,zS]at *);refine⟨⟨f+1,by omega⟩,by simp only [];omega,?_⟩;cbv;(repeat' (first|with_reducible refine ua4 ?_ ?_|with_reducible refine And.intro ?_ ?_));(all_goals first|trivial|exact qM (qE (by rfl))|exact qM (qF (by rfl))|exact qM (Fit.refl _)|exact qL (qK _)|(refine qM (qE ?_);(try simp only [qV]at *);simp only [zQ,zA,zB,zC,zD,zE,zF,zG,zH,zI,zJ,zK,zL,zM,zN,zO,zP,zR,zS]at *;omega)|(refine qL (qJ (ub1 (fun ix h0 h1=>qE (ux2 (by((try simp only [qV]at *);(try simp only [zQ,zA,zB,zC,zD,zE,zF,zG,zH,zI,zJ,zK,zL,zM,zN,zO,zP,zR,zS]at *);omega)))) qA)))|skip))|skip
   refine⟨none,[],{m:Nat // m≤4∧∀j,j<m→0≤clo M (at4 j j)},fun x=>⟨[(0,.own 0 0),(50,(iv fun _=>zi x.1))],[(0,.cells [(.arr 16 (fun ix=>(iv fun _=>(clo M) ix.den.toNat)))] 95)],500⟩,fun x=>4-x.1,?_,?_⟩
   ·refine⟨⟨0,by omega,fun j hj=>by omega⟩,?_⟩
    cbv
    repeat' (first|with_reducible refine ua4 ?_ ?_|with_reducible refine And.intro ?_ ?_)
    all_goals first|trivial|exact qM (qE (by rfl))|exact qM (Fit.refl _)|(refine qL (qJ (ub1 (fun ix h0 h1=>qE (uuH (by((try simp only [qV]at *);(try simp only [zQ,zA,zB,zC,zD,zE,zF,zG,zH,zI,zJ,zK,zL,zM,zN,zO,zP,zR,zS]at *);omega)) (by((try simp only [qV]at *);(try simp only [zQ,zA,zB,zC,zD,zE,zF,zG,zH,zI,zJ,zK,zL,zM,zN,zO,zP,zR,zS]at *);omega)) (uw6 hcd) (by omega))) qA)))|skip
   ·rintro⟨m,hm,hq⟩
    cbv
    repeat' (first|with_reducible refine ua4 ?_ ?_|with_reducible refine And.intro ?_ ?_|(with_reducible intro hcd;(try simp only [zA,zB,zC,zD,zE,zF,zG,zH,zI,zJ,zK,zL,zM,zN,zO,zP]at hcd);try cbv)|fail)
    all_goals first|((try simp only [qV]at *);(try simp only [zQ,zA,zB,zC,zD,zE,zF,zG,zH,zI,zJ,zK,zL,zM,zN,zO,zP,zR,zS]at *);first|(refine qN ?_;omega)|(simp only [uaj];omega))|(subst hR;(refine qF ?_;(try simp only [qV]at *);(try simp only [zQ,zA,zB,zC,zD,zE,zF,zG,zH,zI,zJ,zK,zL,zM,zN,zO,zP,zR,zS]at *);exact uti (n:=m) (by assumption) (by unfold at4;omega) (by omega));done)|(subst hR;(refine qF ?_;(try simp only [qV]at *);(try simp only [zQ,zA,zB,zC,zD,zE,zF,zG,zH,zI,zJ,zK,zL,zM,zN,zO,zP,zR,zS]at *);exact urp (n:=m) (by omega) hq);done)|(subst hB;(repeat' (first|exact qH|refine qI ?_ ?_|exact qK _|refine qJ ?_|exact qA|exact qE (by rfl)|exact qF (by rfl)|exact Fit.refl _|exact qG _|refine qC ?_ rfl ?_));done)|((try simp only [zQ,zA,zB,zC,zD,zE,zF,zG,zH,zI,zJ,zK,zL,zM,zN,zO,zP,zR,zS]at *);(have g:0≤clo M (at4 m m):=utS (by assumption) (by((try simp only [qV]at *);(try simp only [zQ,zA,zB,zC,zD,zE,zF,zG,zH,zI,zJ,zK,zL,zM,zN,zO,zP,zR,zS]at *);unfold at4;omega)));refine⟨⟨m+1,by omega,fun j hj=>(Nat.lt_or_ge j m).elim (hq j) fun q=>by rw [show j=m by omega];exact g⟩,by simp only [];omega,?_⟩;cbv;(repeat' (first|with_reducible refine ua4 ?_ ?_|with_reducible refine And.intro ?_ ?_));(all_goals first|trivial|exact qM (qE (by rfl))|exact qM (qF (by rfl))|exact qM (Fit.refl _)|exact qL (qK _)|(refine qM (qE ?_);(try simp only [qV]at *);simp only [zQ,zA,zB,zC,zD,zE,zF,zG,zH,zI,zJ,zK,zL,zM,zN,zO,zP,zR,zS]at *;omega)|(refine qL (qJ (ub1 (fun ix h0 h1=>qE rfl) qA)))|skip))|skip
  refine⟨none,[],{m:Nat // m≤4∧∀j,j<m→0≤clo M (at4 j j)},fun x=>⟨[(0,.own 0 0),(50,(iv fun _=>zi x.1))],[(0,.cells [(.arr 16 (fun ix=>(iv fun _=>(clo M) ix.den.toNat)))] 95)],500⟩,fun x=>4-x.1,?_,?_⟩
  ·refine⟨⟨0,by omega,fun j hj=>by omega⟩,?_⟩
   cbv
   repeat' (first|with_reducible refine ua4 ?_ ?_|with_reducible refine And.intro ?_ ?_)
   all_goals first|trivial|exact qM (qE (by rfl))|exact qM (Fit.refl _)|(refine qL (qJ (ub1 (fun ix h0 h1=>qE (uvy (by((try simp only [qV]at *);(try simp only [zQ,zA,zB,zC,zD,zE,zF,zG,zH,zI,zJ,zK,zL,zM,zN,zO,zP,zR,zS]at *);omega)))) qA)))|skip
  ·rintro⟨m,hm,hq⟩
   cbv
   repeat' (first|with_reducible refine ua4 ?_ ?_|with_reducible refine And.intro ?_ ?_|(with_reducible intro hcd;(try simp only [zA,zB,zC,zD,zE,zF,zG,zH,zI,zJ,zK,zL,zM,zN,zO,zP]at hcd);try cbv)|fail)
   all_goals first|((try simp only [qV]at *);(try simp only [zQ,zA,zB,zC,zD,zE,zF,zG,zH,zI,zJ,zK,zL,zM,zN,zO,zP,zR,zS]at *);first|(refine qN ?_;omega)|(simp only [uaj];omega))|(subst hR;(refine qF ?_;(try simp only [qV]at *);(try simp only [zQ,zA,zB,zC,zD,zE,zF,zG,zH,zI,zJ,zK,zL,zM,zN,zO,zP,zR,zS]at *);exact uti (n:=m) (by assumption) (by unfold at4;omega) (by omega));done)|(subst hR;(refine qF ?_;(try simp only [qV]at *);(try simp only [zQ,zA,zB,zC,zD,zE,zF,zG,zH,zI,zJ,zK,zL,zM,zN,zO,zP,zR,zS]at *);exact urp (n:=m) (by omega) hq);done)|(subst hB;(repeat' (first|exact qH|refine qI ?_ ?_|exact qK _|refine qJ ?_|exact qA|exact qE (by rfl)|exact qF (by rfl)|exact Fit.refl _|exact qG _|refine qC ?_ rfl ?_));done)|((try simp only [zQ,zA,zB,zC,zD,zE,zF,zG,zH,zI,zJ,zK,zL,zM,zN,zO,zP,zR,zS]at *);(have g:0≤clo M (at4 m m):=utS (by assumption) (by((try simp only [qV]at *);(try simp only [zQ,zA,zB,zC,zD,zE,zF,zG,zH,zI,zJ,zK,zL,zM,zN,zO,zP,zR,zS]at *);unfold at4;omega)));refine⟨⟨m+1,by omega,fun j hj=>(Nat.lt_or_ge j m).elim (hq j) fun q=>by rw [show j=m by omega];exact g⟩,by simp only [];omega,?_⟩;cbv;(repeat' (first|with_reducible refine ua4 ?_ ?_|with_reducible refine And.intro ?_ ?_));(all_goals first|trivial|exact qM (qE (by rfl))|exact qM (qF (by rfl))|exact qM (Fit.refl _)|exact qL (qK _)|(refine qM (qE ?_);(try simp only [qV]at *);simp only [zQ,zA,zB,zC,zD,zE,zF,zG,zH,zI,zJ,zK,zL,zM,zN,zO,zP,zR,zS]at *;omega)|(refine qL (qJ (ub1 (fun ix h0 h1=>qE rfl) qA)))|skip))|skip
theorem uwK (d:Dsp)(o:List Int):ua0 Tryz.prog 82 [(wpS d),(iS o)] [] (fun r _=>r = .clo 107 [] [(.pp 0 [(wpS d)]),.pp 0 [(iS o)]]):=by
 refine ua0.is fun R hR=>qW (sc:=uC4) uai mix Tryz.func82 rfl Tryz.call82 (by kernel_rfl) (by kernel_rfl) ?_
 generalize Tryz.prog=P
 cbv
 repeat' (first|fail)
 all_goals first|(subst hR;(repeat' (first|exact qA|exact qB|refine qC ?_ rfl ?_|refine qD ?_ ?_|exact qE (by rfl)|exact qF (by rfl)|exact Fit.refl _|exact qG _|(refine qE ?_;(try simp only [qV]at *);simp only [zQ,zA,zB,zC,zD,zE,zF,zG,zH,zI,zJ,zK,zL,zM,zN,zO,zP,zR,zS]at *;omega)));done)|skip
theorem uw0 (d:Dsp)(o:List Int)(hf:d.fs.length≤1000)(ho:o.length≤1000):ulH Tryz.prog 107 [(.pp 0 [(wpS d)]),.pp 0 [(iS o)]] (ubR d.fs o).length (fun n:Nat=>[(.agg [(iv fun _=>((ubR d.fs o).getD n f0T).p),(iv fun _=>((ubR d.fs o).getD n f0T).s),(iv fun _=>((ubR d.fs o).getD n f0T).wl),(iv fun _=>((ubR d.fs o).getD n f0T).wh),(iv fun _=>((ubR d.fs o).getD n f0T).ml),(iv fun _=>((ubR d.fs o).getD n f0T).mh)])]):=by
 obtain⟨el,hel⟩:∃el:Nat→List SV,el=(fun n:Nat=>[(.agg [(iv fun _=>((ubR d.fs o).getD n f0T).p),(iv fun _=>((ubR d.fs o).getD n f0T).s),(iv fun _=>((ubR d.fs o).getD n f0T).wl),(iv fun _=>((ubR d.fs o).getD n f0T).wh),(iv fun _=>((ubR d.fs o).getD n f0T).ml),(iv fun _=>((ubR d.fs o).getD n f0T).mh)])]):=⟨_,rfl⟩
 have hpl:∀i,ubh (.tup (el i))=true:=fun i=>by rw [hel];rfl
 have help:∀n,el n=[(.agg [(iv fun _=>((ubR d.fs o).getD n f0T).p),(iv fun _=>((ubR d.fs o).getD n f0T).s),(iv fun _=>((ubR d.fs o).getD n f0T).wl),(iv fun _=>((ubR d.fs o).getD n f0T).wh),(iv fun _=>((ubR d.fs o).getD n f0T).ml),(iv fun _=>((ubR d.fs o).getD n f0T).mh)])]:=fun n=>by rw [hel]
 rw [←hel]
 clear hel
 have c63:=fun i:Nat=>(show ua0 Tryz.prog 53 [(iS o),(iv fun _=>zi i)] [] (fun r _=>r=(bv fun _=>inL o (zi i)))from ufY o (i:Int) ho)
 obtain⟨c,hc⟩:∃c,c=ukM o:=⟨_,rfl⟩
 have hcy:∀i:Nat,inL o (zi i)=false→c i=true:=fun i h=>by rw [hc,←upC];unfold uyr;rw [show inL o (i:Int)=false from h];rfl
 have hcn:∀i:Nat,inL o (zi i)=true→c i=false:=fun i h=>by rw [hc,←upC];unfold uyr;rw [show inL o (i:Int)=true from h];rfl
 obtain⟨L,hL⟩:∃L,L=(ubR d.fs o).length:=⟨_,rfl⟩
 rw [←hL]
 obtain⟨w,hw⟩:∃w:Nat→Nat,w=fun i=>(kpT d.fs c i).length:=⟨_,rfl⟩
 have w0:w 0=0:=by rw [hw];rfl
 have wL:w d.fs.length=L:=by rw [hw,hL,hc];rfl
 have wn:∀i:Nat,c i=false→w (i+1)=w i:=fun i h=>by rw [hw];simp only [uvu h]
 have wy:∀i:Nat,i<d.fs.length→c i=true→w i<L∧el (w i)=[(.agg [(iv fun _=>(d.fs.getD i f0T).p),(iv fun _=>(d.fs.getD i f0T).s),(iv fun _=>(d.fs.getD i f0T).wl),(iv fun _=>(d.fs.getD i f0T).wh),(iv fun _=>(d.fs.getD i f0T).ml),(iv fun _=>(d.fs.getD i f0T).mh)])]∧w (i+1)=w i+1:=fun i hi h=>by
  have q:=uwS (fs:=d.fs) hi h
  rw [hw]
  refine⟨by rw [hL];unfold ubR;rw [←hc];exact q.1,?_,by simp only [ur8 h,List.length_append,List.length_cons,List.length_nil]⟩
  rw [help]
  unfold ubR
  rw [←hc]
  simp only [q.2]
 clear hw hc hL help
 refine uhk (sc:=uzj) uai mix Tryz.func107 rfl Tryz.call107 (by kernel_rfl) (by kernel_rfl) fun y=> ?_
 generalize Tryz.prog=P at c63⊢
 refine⟨rfl,rfl,hpl,?_⟩
 cbv
 repeat' (first|fail)
 all_goals first|skip
 refine⟨none,[],{i:Nat // i≤d.fs.length},fun x=>.atg fun _=>w x.1,fun x=>⟨[(0,.val (Value.func (Fn.yield y) ⟨[]⟩ ⟨[]⟩)),(1,(.pp 0 [(wpS d)])),(2,.pp 0 [(iS o)]),(10,(.sl 6 (.sym fun _=>zi (d.fs).length) (fun ix=>[(iv fun _=>((d.fs).getD ix.den.toNat f0T).p),(iv fun _=>((d.fs).getD ix.den.toNat f0T).s),(iv fun _=>((d.fs).getD ix.den.toNat f0T).wl),(iv fun _=>((d.fs).getD ix.den.toNat f0T).wh),(iv fun _=>((d.fs).getD ix.den.toNat f0T).ml),(iv fun _=>((d.fs).getD ix.den.toNat f0T).mh)]))),(11,(iv fun _=>zi d.fs.length)),(12,(iv fun _=>zi x.1))],[],90⟩,fun x=>d.fs.length-x.1,?_,?_⟩
 ·refine⟨⟨0,by omega⟩,?_⟩
  cbv
  repeat' (first|with_reducible refine ua4 ?_ ?_|with_reducible refine And.intro ?_ ?_)
  all_goals first|trivial|exact qM (qE (by rfl))|exact qM (Fit.refl _)|(refine uem ?_;exact w0.symm)|skip
 ·rintro ⟨i,hi⟩
  cbv
  repeat' (first|with_reducible refine ua4 ?_ ?_|with_reducible refine And.intro ?_ ?_|(with_reducible intro hcd;(try simp only [zA,zB,zC,zD,zE,zF,zG,zH,zI,zJ,zK,zL,zM,zN,zO,zP]at hcd);try cbv)|(refine qP ?_ (c63 i) ?hfit;(case hfit=>((repeat' (first|exact qB|refine qD ?_ ?_|exact qE (by rfl)|exact qF (by rfl)|exact Fit.refl _|exact qA|refine qC ?_ rfl ?_));done));try cbv)|fail)
  all_goals first|trivial|((try simp only [qV]at *);(try simp only [zQ,zA,zB,zC,zD,zE,zF,zG,zH,zI,zJ,zK,zL,zM,zN,zO,zP,zR,zS]at *);first|(refine qN ?_;omega)|(simp only [uaj];omega))|((have h9:=wy i (by((try simp only [qV]at *);(try simp only [zQ,zA,zB,zC,zD,zE,zF,zG,zH,zI,zJ,zK,zL,zM,zN,zO,zP,zR,zS]at *);omega)) (hcy i (by assumption)));refine ui1 h9.1 ?_;rw [h9.2.1];exact Fit.refl _)|((try simp only [zQ,zA,zB,zC,zD,zE,zF,zG,zH,zI,zJ,zK,zL,zM,zN,zO,zP,zR,zS]at *);refine⟨⟨i+1,by omega⟩,by simp only [];omega,?_⟩;cbv;(repeat' (first|with_reducible refine ua4 ?_ ?_|with_reducible refine And.intro ?_ ?_));(all_goals first|trivial|exact qM (qE (by rfl))|exact qM (qF (by rfl))|exact qM (Fit.refl _)|exact qL (qK _)|(refine qM (qE ?_);(try simp only [qV]at *);simp only [zQ,zA,zB,zC,zD,zE,zF,zG,zH,zI,zJ,zK,zL,zM,zN,zO,zP,zR,zS]at *;omega)|(refine uem ?_;exact(wn i (hcn i (by assumption))).symm)|(refine uem ?_;exact(wy i (by((try simp only [qV]at *);(try simp only [zQ,zA,zB,zC,zD,zE,zF,zG,zH,zI,zJ,zK,zL,zM,zN,zO,zP,zR,zS]at *);omega)) (hcy i (by assumption))).2.2.symm)|skip))|(show w i=L;rw [←wL];congr 1;((try simp only [qV]at *);(try simp only [zQ,zA,zB,zC,zD,zE,zF,zG,zH,zI,zJ,zK,zL,zM,zN,zO,zP,zR,zS]at *);omega))|skip
theorem uwx {f i:Nat}(h:f=4)(hi:i<16):iN (f*4) i=mS 0 i:=by subst h;exact uy0 hi
theorem uxz {f t i:Nat}(h:t=4):iN (f*4+t) i=iN ((f+1)*4) i:=by
 subst h
 rw [show f*4+4=(f+1)*4 by omega]
theorem uy2 {f t i:Nat}(h:i=f*4+t)(ht:t<4)(hd:f≠t):2000=iN (f*4+(t+1)) i:=uxE (k:=f*4+t) h (by omega)
theorem uxW {f t i:Nat}(h:i≠f*4+t):iN (f*4+t) i=iN (f*4+(t+1)) i:=utq h
theorem uuT {f t i:Nat}(ht:t<4)(hd:f=t):iN (f*4+t) i=iN (f*4+(t+1)) i:=uwJ (k:=f*4+t) (by omega)
theorem uyD (s i:Nat):ugo (mS s) ⟨(0:Int).toNat,(zi s+1).toNat,0,2000⟩ i=mS (s+1) i:=by rw [uBX];rfl
theorem uxw {d:Dsp} {s i:Nat}(h:s=SN d):mS s i=mL d 0 i:=by subst h;rfl
theorem uzW {d:Dsp} {k:Nat}(hd:DOk d)(h:k<d.ls.length)(i:Nat):ugo (mL d k) ⟨((d.ls.getD k l0T).a+1).toNat,((d.ls.getD k l0T).b+1).toNat,(d.ls.getD k l0T).lo,(d.ls.getD k l0T).hi⟩ i=mL d (k+1) i:=by
 have:=hd.l k h
 unfold ucy at this
 rw [uBH h (by omega) (by omega)]
theorem uxV {d:Dsp} {K:List FaT} {k i:Nat}(h:k=d.ls.length):mL d k i=mF d K 0 i:=by subst h;rfl
theorem uAc {d:Dsp} {K:List FaT} {k:Nat}(hK:FOk d K)(h:k<K.length)(i:Nat):ugo (mF d K k) ⟨(0:Int).toNat,((K.getD k f0T).s+1).toNat,mLo d (K.getD k f0T),mHi d (K.getD k f0T)⟩ i=mF d K (k+1) i:=by
 have:=hK k h
 unfold ubS at this
 rw [uBq h (by omega)]
 rfl
set_option maxHeartbeats 4000000 in
theorem uby (d:Dsp)(o:List Int)(hd:DOk d)(ho:o.length≤1000):ua0 Tryz.prog 42 [(wpS d),(iS o)] [] (fun r _=>r=(.tup [(.agg [(.arr 16 (fun ix=>(iv fun _=>(clo (ufv d d.fs o)) ix.den.toNat)))]),(bv fun _=>ud3 d d.fs o)])):=by
 have c67:= @ugS
 have c87:=uwK d o
 have c68:= @umc
 obtain⟨K,hKd⟩:∃K,K=ubR d.fs o:=⟨_,rfl⟩
 have hK:FOk d K:=by rw [hKd];exact ul8 hd.f o
 obtain⟨L,hL⟩:∃L,L=K.length:=⟨_,rfl⟩
 obtain⟨el,hel⟩:∃el:Nat→List SV,el=(fun n:Nat=>[(.agg [(iv fun _=>(K.getD n f0T).p),(iv fun _=>(K.getD n f0T).s),(iv fun _=>(K.getD n f0T).wl),(iv fun _=>(K.getD n f0T).wh),(iv fun _=>(K.getD n f0T).ml),(iv fun _=>(K.getD n f0T).mh)])]):=⟨_,rfl⟩
 have cI:ulH Tryz.prog 107 [(.pp 0 [(wpS d)]),.pp 0 [(iS o)]] L el:=by rw [hel,hL,hKd];exact uw0 d o (by have:=hd.f6;omega) ho
 have elen:∀i,(el i).length=1∧SV.idsL (el i)=[]:=fun i=>by rw [hel];exact⟨rfl,rfl⟩
 have ei:∀i,el i=[(.agg [(iv fun _=>(K.getD i f0T).p),(iv fun _=>(K.getD i f0T).s),(iv fun _=>(K.getD i f0T).wl),(iv fun _=>(K.getD i f0T).wh),(iv fun _=>(K.getD i f0T).ml),(iv fun _=>(K.getD i f0T).mh)])]:=fun i=>by rw [hel]
 have hbd:∀i,-2000≤mF d K L i∧mF d K L i≤2000:=fun i=>by rw [hL,utl];exact uuh hd hK i
 have hend:mF d K L=ufv d d.fs o:=by rw [hL,utl,hKd];rfl
 have hKb:∀i,i<L→(0≤(K.getD i f0T).s∧(K.getD i f0T).s≤d.sn-1)∧0≤mLo d (K.getD i f0T)∧mLo d (K.getD i f0T)≤mHi d (K.getD i f0T)∧mHi d (K.getD i f0T)≤2000:=fun i hi=>by
  have q:=hK i (by rw [←hL];exact hi)
  have b:=ulU hd.t q
  unfold ubS at q
  exact⟨q.2.1,b⟩
 have c45:=fun (i:Nat) (hi:i<L)=>uri d (K.getD i f0T) hd.t (hK i (by rw [←hL];exact hi))
 have s1:=hd.s1
 have s3:=hd.s3
 have l4:=hd.l4
 rw [show ud3 d d.fs o=okD (clo (ufv d d.fs o))from rfl]
 clear hel hKd
 refine ua0.is fun R hR=>qW (sc:=uAK) uai mix Tryz.func42 rfl Tryz.call42 (by kernel_rfl) (by kernel_rfl) ?_
 generalize Tryz.prog=P at c67 c87 c68 c45 cI⊢
 cbv
 repeat' (first|fail)
 all_goals first|skip
 refine⟨none,[],{f:Nat // f≤4},fun x=>⟨[(1,(iS o)),(2,.own 0 0),(4,.own 1 0),(12,(iv fun _=>zi x.1))],[(0,.cells [(wpS d)] 87),(1,.cells [(.arr 16 (fun ix=>(iv fun _=>(iN (x.1*4)) ix.den.toNat)))] 95)],100⟩,fun x=>4-x.1,?_,?_⟩
 ·refine⟨⟨0,by omega⟩,?_⟩
  cbv
  repeat' (first|with_reducible refine ua4 ?_ ?_|with_reducible refine And.intro ?_ ?_)
  all_goals first|trivial|exact qM (qE (by rfl))|exact qM (Fit.refl _)|exact qL (qK _)|(refine qL (qJ (ub1 (fun ix h0 h1=>qE (uB0 _).symm) qA)))|skip
 ·rintro ⟨f, hf⟩
  cbv
  repeat' (first|with_reducible refine And.intro ?_ ?_|(with_reducible intro hcd;(try simp only [zA,zB,zC,zD,zE,zF,zG,zH,zI,zJ,zK,zL,zM,zN,zO,zP]at hcd);try cbv)|fail)
  all_goals first|skip
  refine⟨none,[],{t:Nat // t≤4},fun x=>⟨[(1,(iS o)),(2,.own 0 0),(4,.own 1 0),(12,(iv fun _=>zi f)),(6,(iv fun _=>zi f)),(15,(iv fun _=>zi x.1))],[(0,.cells [(wpS d)] 87),(1,.cells [(.arr 16 (fun ix=>(iv fun _=>(iN (f*4+x.1)) ix.den.toNat)))] 95)],200⟩,fun x=>4-x.1,?_,?_⟩
  ·refine⟨⟨0,by omega⟩,?_⟩
   cbv
   repeat' (first|with_reducible refine ua4 ?_ ?_|with_reducible refine And.intro ?_ ?_)
   all_goals first|trivial|exact qM (qE (by rfl))|exact qM (Fit.refl _)|exact qL (qK _)|skip
  ·rintro ⟨t,ht⟩
   cbv
   repeat' (first
    |with_reducible refine ua4 ?_ ?_
    |with_reducible refine And.intro ?_ ?_
    |(with_reducible intro hcd;(try simp only [zA,zB,zC,zD,zE,zF,zG,zH,zI,zJ,zK,zL,zM,zN,zO,zP]at hcd);try cbv)
    | (refine⟨fun ix=>(iv fun _=>iN (f*4+(t+1)) ix.den.toNat),?_⟩
       cbv
       refine ua4 (ugK (by intro jx h0 h1 h2;refine qE ?_;(try simp only [qV]at *);(try simp only [zQ,zA,zB,zC,zD,zE,zF,zG,zH,zI,zJ,zK,zL,zM,zN,zO,zP,zR,zS]at *);exact uy2 (by omega) (by omega) (by omega)) (by intro jx h0 h1 h2;refine qE ?_;(try simp only [qV]at *);(try simp only [zQ,zA,zB,zC,zD,zE,zF,zG,zH,zI,zJ,zK,zL,zM,zN,zO,zP,zR,zS]at *);exact uxW (by omega))) ?_
       try cbv)
    |fail)
   all_goals first|((try simp only [qV]at *);(try simp only [zQ,zA,zB,zC,zD,zE,zF,zG,zH,zI,zJ,zK,zL,zM,zN,zO,zP,zR,zS]at *);first|(refine qN ?_;omega)|(simp only [uaj];omega))|((try simp only [zQ,zA,zB,zC,zD,zE,zF,zG,zH,zI,zJ,zK,zL,zM,zN,zO,zP,zR,zS]at *);refine⟨⟨t+1,by omega⟩,by simp only [];omega,?_⟩;cbv;(repeat' (first|with_reducible refine ua4 ?_ ?_|with_reducible refine And.intro ?_ ?_));(all_goals first|trivial|exact qM (qE (by rfl))|exact qM (qF (by rfl))|exact qM (Fit.refl _)|exact qL (qK _)|(refine qM (qE ?_);(try simp only [qV]at *);simp only [zQ,zA,zB,zC,zD,zE,zF,zG,zH,zI,zJ,zK,zL,zM,zN,zO,zP,zR,zS]at *;omega)|(refine qL (qJ ?_);(repeat' (first|exact qA|exact qB|refine qC ?_ rfl ?_|refine qD ?_ ?_|exact qE (by rfl)|exact qF (by rfl)|exact Fit.refl _|exact qG _|(refine qE ?_;(try simp only [qV]at *);simp only [zQ,zA,zB,zC,zD,zE,zF,zG,zH,zI,zJ,zK,zL,zM,zN,zO,zP,zR,zS]at *;omega)));done)|(refine qL (qJ (ub1 (fun ix h0 h1=>qE rfl) qA)))|(refine qL (qJ (ub1 (fun ix h0 h1=>qE (uuT (by((try simp only [qV]at *);(try simp only [zQ,zA,zB,zC,zD,zE,zF,zG,zH,zI,zJ,zK,zL,zM,zN,zO,zP,zR,zS]at *);omega)) (by((try simp only [qV]at *);(try simp only [zQ,zA,zB,zC,zD,zE,zF,zG,zH,zI,zJ,zK,zL,zM,zN,zO,zP,zR,zS]at *);omega)))) qA)))|skip))|((try simp only [zQ,zA,zB,zC,zD,zE,zF,zG,zH,zI,zJ,zK,zL,zM,zN,zO,zP,zR,zS]at *);refine⟨⟨f+1,by omega⟩,by simp only [];omega,?_⟩;cbv;(repeat' (first|with_reducible refine ua4 ?_ ?_|with_reducible refine And.intro ?_ ?_));(all_goals first|trivial|exact qM (qE (by rfl))|exact qM (qF (by rfl))|exact qM (Fit.refl _)|exact qL (qK _)|(refine qM (qE ?_);(try simp only [qV]at *);simp only [zQ,zA,zB,zC,zD,zE,zF,zG,zH,zI,zJ,zK,zL,zM,zN,zO,zP,zR,zS]at *;omega)|(refine qL (qJ ?_);(repeat' (first|exact qA|exact qB|refine qC ?_ rfl ?_|refine qD ?_ ?_|exact qE (by rfl)|exact qF (by rfl)|exact Fit.refl _|exact qG _|(refine qE ?_;(try simp only [qV]at *);simp only [zQ,zA,zB,zC,zD,zE,zF,zG,zH,zI,zJ,zK,zL,zM,zN,zO,zP,zR,zS]at *;omega)));done)|(refine qL (qJ (ub1 (fun ix h0 h1=>qE (uxz (by((try simp only [qV]at *);(try simp only [zQ,zA,zB,zC,zD,zE,zF,zG,zH,zI,zJ,zK,zL,zM,zN,zO,zP,zR,zS]at *);omega)))) qA)))|skip))|skip
  refine⟨none,[],{s:Nat // s≤d.sn.toNat},fun x=>⟨[(1,(iS o)),(2,.own 0 0),(4,.own 1 0),(31,(iv fun _=>d.sn)),(32,(iv fun _=>zi x.1))],[(0,.cells [(wpS d)] 87),(1,.cells [(.arr 16 (fun ix=>(iv fun _=>(mS x.1) ix.den.toNat)))] 95)],300⟩,fun x=>d.sn.toNat-x.1,?_,?_⟩
  ·refine⟨⟨0,by omega⟩,?_⟩
   cbv
   repeat' (first|with_reducible refine ua4 ?_ ?_|with_reducible refine And.intro ?_ ?_)
   all_goals first|trivial|exact qM (qE (by rfl))|exact qM (Fit.refl _)|exact qL (qK _)|(refine qL (qJ (ub1 (fun ix h0 h1=>qE (uwx (by((try simp only [qV]at *);(try simp only [zQ,zA,zB,zC,zD,zE,zF,zG,zH,zI,zJ,zK,zL,zM,zN,zO,zP,zR,zS]at *);omega)) (by omega))) qA)))|skip
  ·rintro ⟨s, hs⟩
   cbv
   repeat' (first
    |with_reducible refine ua4 ?_ ?_
    |with_reducible refine And.intro ?_ ?_
    |(with_reducible intro hcd;(try simp only [zA,zB,zC,zD,zE,zF,zG,zH,zI,zJ,zK,zL,zM,zN,zO,zP]at hcd);try cbv)
    | (refine⟨some [1],?_⟩
       cbv
       refine qQ ?_ (c67 (mS s) 0 (zi s+1) 0 2000 (by omega) ⟨(by((try simp only [qV]at *);(try simp only [zQ,zA,zB,zC,zD,zE,zF,zG,zH,zI,zJ,zK,zL,zM,zN,zO,zP,zR,zS]at *);omega)),(by((try simp only [qV]at *);(try simp only [zQ,zA,zB,zC,zD,zE,zF,zG,zH,zI,zJ,zK,zL,zM,zN,zO,zP,zR,zS]at *);omega))⟩ (by omega)) ?hfit ?hbo
       case hfit=>(cbv;(repeat' (first|exact qB|refine qD ?_ ?_|exact qE (by rfl)|exact qF (by rfl)|exact Fit.refl _|exact qA|refine qC ?_ rfl ?_));done)
       case hbo=>(cbv;(repeat' (first|exact qH|refine qI ?_ ?_|exact qK _|refine qJ ?_|exact qA|exact qE (by rfl)|exact qF (by rfl)|exact Fit.refl _|exact qG _|refine qC ?_ rfl ?_));done)
       try cbv)
    |fail)
   all_goals first|((try simp only [qV]at *);(try simp only [zQ,zA,zB,zC,zD,zE,zF,zG,zH,zI,zJ,zK,zL,zM,zN,zO,zP,zR,zS]at *);first|(refine qN ?_;omega)|(simp only [uaj];omega))|((try simp only [zQ,zA,zB,zC,zD,zE,zF,zG,zH,zI,zJ,zK,zL,zM,zN,zO,zP,zR,zS]at *);refine⟨⟨s+1,by((try simp only [qV]at *);(try simp only [zQ,zA,zB,zC,zD,zE,zF,zG,zH,zI,zJ,zK,zL,zM,zN,zO,zP,zR,zS]at *);omega)⟩,by simp only [];omega,?_⟩;cbv;(repeat' (first|with_reducible refine ua4 ?_ ?_|with_reducible refine And.intro ?_ ?_));(all_goals first|trivial|exact qM (qE (by rfl))|exact qM (qF (by rfl))|exact qM (Fit.refl _)|exact qL (qK _)|(refine qM (qE ?_);(try simp only [qV]at *);simp only [zQ,zA,zB,zC,zD,zE,zF,zG,zH,zI,zJ,zK,zL,zM,zN,zO,zP,zR,zS]at *;omega)|(refine qL (qJ ?_);(repeat' (first|exact qA|exact qB|refine qC ?_ rfl ?_|refine qD ?_ ?_|exact qE (by rfl)|exact qF (by rfl)|exact Fit.refl _|exact qG _|(refine qE ?_;(try simp only [qV]at *);simp only [zQ,zA,zB,zC,zD,zE,zF,zG,zH,zI,zJ,zK,zL,zM,zN,zO,zP,zR,zS]at *;omega)));done)|(refine qL (qJ (ub1 (fun ix h0 h1=>qE (uyD s _)) qA)))|skip))|skip
   refine⟨none,[],{k:Nat // k≤d.ls.length},fun x=>⟨[(1,(iS o)),(2,.own 0 0),(4,.own 1 0),(44,(.sl 4 (.sym fun _=>zi (d.ls).length) (fun ix=>[(iv fun _=>((d.ls).getD ix.den.toNat l0T).a),(iv fun _=>((d.ls).getD ix.den.toNat l0T).b),(iv fun _=>((d.ls).getD ix.den.toNat l0T).lo),(iv fun _=>((d.ls).getD ix.den.toNat l0T).hi)]))),(45,(iv fun _=>zi d.ls.length)),(46,(iv fun _=>zi x.1))],[(0,.cells [(wpS d)] 87),(1,.cells [(.arr 16 (fun ix=>(iv fun _=>(mL d x.1) ix.den.toNat)))] 95)],400⟩,fun x=>d.ls.length-x.1,?_,?_⟩
   ·refine⟨⟨0,by omega⟩,?_⟩
    cbv
    repeat' (first|with_reducible refine ua4 ?_ ?_|with_reducible refine And.intro ?_ ?_)
    all_goals first|trivial|exact qM (qE (by rfl))|exact qM (Fit.refl _)|exact qL (qK _)|(refine qL (qJ (ub1 (fun ix h0 h1=>qE (uxw (by unfold SN;(try simp only [qV]at *);(try simp only [zQ,zA,zB,zC,zD,zE,zF,zG,zH,zI,zJ,zK,zL,zM,zN,zO,zP,zR,zS]at *);omega))) qA)))|skip
   ·rintro ⟨k,hk⟩
    cbv
    have hlk:k<d.ls.length→ucy d.sn (d.ls.getD k l0T):=hd.l k
    unfold ucy at hlk
    repeat' (first
     |with_reducible refine ua4 ?_ ?_
     |with_reducible refine And.intro ?_ ?_
     |(with_reducible intro hcd;(try simp only [zA,zB,zC,zD,zE,zF,zG,zH,zI,zJ,zK,zL,zM,zN,zO,zP]at hcd);try cbv)
     | ((have hk9:=hlk (by((try simp only [qV]at *);(try simp only [zQ,zA,zB,zC,zD,zE,zF,zG,zH,zI,zJ,zK,zL,zM,zN,zO,zP,zR,zS]at *);omega)))
        refine⟨some [1],?_⟩
        cbv
        refine qQ ?_ (c67 (mL d k) ((d.ls.getD k l0T).a+1) ((d.ls.getD k l0T).b+1) (d.ls.getD k l0T).lo (d.ls.getD k l0T).hi ⟨by omega,by omega⟩ ⟨by omega,by omega⟩ (by omega)) ?hfit ?hbo
        case hfit=>(cbv;(repeat' (first|exact qB|refine qD ?_ ?_|exact qE (by rfl)|exact qF (by rfl)|exact Fit.refl _|exact qA|refine qC ?_ rfl ?_));done)
        case hbo=>(cbv;(repeat' (first|exact qH|refine qI ?_ ?_|exact qK _|refine qJ ?_|exact qA|exact qE (by rfl)|exact qF (by rfl)|exact Fit.refl _|exact qG _|refine qC ?_ rfl ?_));done)
        try cbv)
     |(refine qP ?_ (c87) ?hfit;(case hfit=>((repeat' (first|exact qB|refine qD ?_ ?_|exact qE (by rfl)|exact qF (by rfl)|exact Fit.refl _|exact qA|refine qC ?_ rfl ?_));done));try cbv)
     |fail)
    all_goals first|((try simp only [qV]at *);(try simp only [zQ,zA,zB,zC,zD,zE,zF,zG,zH,zI,zJ,zK,zL,zM,zN,zO,zP,zR,zS]at *);first|(refine qN ?_;omega)|(simp only [uaj];omega))|((try simp only [zQ,zA,zB,zC,zD,zE,zF,zG,zH,zI,zJ,zK,zL,zM,zN,zO,zP,zR,zS]at *);refine⟨⟨k+1,by((try simp only [qV]at *);(try simp only [zQ,zA,zB,zC,zD,zE,zF,zG,zH,zI,zJ,zK,zL,zM,zN,zO,zP,zR,zS]at *);omega)⟩,by simp only [];omega,?_⟩;cbv;(repeat' (first|with_reducible refine ua4 ?_ ?_|with_reducible refine And.intro ?_ ?_));(all_goals first|trivial|exact qM (qE (by rfl))|exact qM (qF (by rfl))|exact qM (Fit.refl _)|exact qL (qK _)|(refine qM (qE ?_);(try simp only [qV]at *);simp only [zQ,zA,zB,zC,zD,zE,zF,zG,zH,zI,zJ,zK,zL,zM,zN,zO,zP,zR,zS]at *;omega)|(refine qL (qJ ?_);(repeat' (first|exact qA|exact qB|refine qC ?_ rfl ?_|refine qD ?_ ?_|exact qE (by rfl)|exact qF (by rfl)|exact Fit.refl _|exact qG _|(refine qE ?_;(try simp only [qV]at *);simp only [zQ,zA,zB,zC,zD,zE,zF,zG,zH,zI,zJ,zK,zL,zM,zN,zO,zP,zR,zS]at *;omega)));done)|(refine qL (qJ (ub1 (fun ix h0 h1=>qE (uzW hd (by((try simp only [qV]at *);(try simp only [zQ,zA,zB,zC,zD,zE,zF,zG,zH,zI,zJ,zK,zL,zM,zN,zO,zP,zR,zS]at *);omega)) _)) qA)))|skip))|skip
    refine⟨[],L,el,fun _=>Unit,fun i _=>([(0,.cells [(wpS d)] 87),(1,.cells [(.arr 16 (fun ix=>(iv fun _=>(mF d K i) ix.den.toNat)))] 95)],500),?_⟩
    cbv
    refine⟨fun _=>⟨cI,elen⟩,⟨(),?_⟩,?_,?_⟩
    ·cbv
     repeat' (first|with_reducible refine ua4 ?_ ?_|with_reducible refine And.intro ?_ ?_)
     all_goals first|trivial|exact qL (qK _)|(refine qL (qJ (ub1 (fun ix h0 h1=>qE (uxV (by((try simp only [qV]at *);(try simp only [zQ,zA,zB,zC,zD,zE,zF,zG,zH,zI,zJ,zK,zL,zM,zN,zO,zP,zR,zS]at *);omega)))) qA)))|skip
    ·intro i _ hil
     have hil':i<L:=hil
     simp only [ei]
     cbv
     repeat' (first
      |with_reducible refine ua4 ?_ ?_
      |(refine qP ?_ (c45 i hil) ?hfit;(case hfit=>((repeat' (first|exact qB|refine qD ?_ ?_|exact qE (by rfl)|exact qF (by rfl)|exact Fit.refl _|exact qA|refine qC ?_ rfl ?_));done));try cbv)
      | ((have hk9:=hKb i hil)
         refine⟨some [1],?_⟩
         cbv
         refine qQ ?_ (c67 (mF d K i) 0 ((K.getD i f0T).s+1) (mLo d (K.getD i f0T)) (mHi d (K.getD i f0T)) (by omega) ⟨by omega,by omega⟩ (by omega)) ?hfit ?hbo
         case hfit=>(cbv;(repeat' (first|exact qB|refine qD ?_ ?_|exact qE (by rfl)|exact qF (by rfl)|exact Fit.refl _|exact qA|refine qC ?_ rfl ?_));done)
         case hbo=>(cbv;(repeat' (first|exact qH|refine qI ?_ ?_|exact qK _|refine qJ ?_|exact qA|exact qE (by rfl)|exact qF (by rfl)|exact Fit.refl _|exact qG _|refine qC ?_ rfl ?_));done)
         try cbv)
      |fail)
     all_goals first|((have hk9:=hKb i hil);(try simp only [qV]at *);(try simp only [zQ,zA,zB,zC,zD,zE,zF,zG,zH,zI,zJ,zK,zL,zM,zN,zO,zP,zR,zS]at *);simp only [uaj];first|omega|exact⟨by omega,by omega⟩)|(refine⟨(),?_⟩;cbv;(repeat' (first|with_reducible refine ua4 ?_ ?_|with_reducible refine And.intro ?_ ?_));(all_goals first|trivial|exact qM (qE (by rfl))|exact qM (qF (by rfl))|exact qM (Fit.refl _)|exact qL (qK _)|(refine qM (qE ?_);(try simp only [qV]at *);simp only [zQ,zA,zB,zC,zD,zE,zF,zG,zH,zI,zJ,zK,zL,zM,zN,zO,zP,zR,zS]at *;omega)|(refine qL (qJ ?_);(repeat' (first|exact qA|exact qB|refine qC ?_ rfl ?_|refine qD ?_ ?_|exact qE (by rfl)|exact qF (by rfl)|exact Fit.refl _|exact qG _|(refine qE ?_;(try simp only [qV]at *);simp only [zQ,zA,zB,zC,zD,zE,zF,zG,zH,zI,zJ,zK,zL,zM,zN,zO,zP,zR,zS]at *;omega)));done)|(refine qL (qJ (ub1 (fun ix h0 h1=>qE (uAc hK (by rw [←hL];exact hil) _)) qA)))|skip))|skip
    ·intro _
     cbv
     repeat' (first
      | (refine⟨some [1],?_⟩
         cbv
         refine qQ ?_ (c68 (mF d K L) (fun i _=>(hbd i).1) (fun i _=>(hbd i).2)) ?hfit ?hbo
         case hfit=>(cbv;(repeat' (first|exact qB|refine qD ?_ ?_|exact qE (by rfl)|exact qF (by rfl)|exact Fit.refl _|exact qA|refine qC ?_ rfl ?_));done)
         case hbo=>(cbv;(repeat' (first|exact qH|refine qI ?_ ?_|exact qK _|refine qJ ?_|exact qA|exact qE (by rfl)|exact qF (by rfl)|exact Fit.refl _|exact qG _|refine qC ?_ rfl ?_));done)
         try cbv)
      |fail)
     all_goals first|(subst hR;(rw [hend];exact Fit.refl _);done)|skip
end Go.Proofs.YtkdggbfknlcdaaaGreat
namespace Go.Proofs.YtkdggbfknlcdaaaGreat
open Go.Eng.Dif
theorem uin (fs:List FaT):ubR fs []=fs:=by
 have h:∀n,n≤fs.length→kpT fs (ukM []) n=fs.take n:=by
  intro n
  induction n with
  |zero=>intro _;rfl
  | succ n ih=>
   intro hn
   rw [ur8 (show ukM [] n=true from rfl),ih (by omega),uiL (by omega),List.getD_eq_getElem?_getD,List.getElem?_eq_getElem (by omega)]
   rfl
 unfold ubR
 rw [h _ (Nat.le_refl _),List.take_of_length_le (Nat.le_refl _)]
theorem ukc {d:Dsp}(h:DOk d) {o:List Int}(hc:ud3 d d.fs o=true) {i:Nat}(hi:i<16): -2000≤clo (ufv d d.fs o) i∧clo (ufv d d.fs o) i≤2000:=by
 have hk:=ul8 h.f o
 exact⟨uoY (okk h hk) hc hi,Int.le_trans (uhV _ _) (uuh h hk i).2⟩
def ufO (d:Dsp)(n:Int):Int:=if ua5 d=0 then(if inB 0 n ((d.fs.length:Int)-1)=true then 0 else 2)else ua5 d
def ukk (d:Dsp)(n:Int):Int:=if ufO d n=0 then mLo d (d.fs.getD n.toNat f0T)else 0
def uku (d:Dsp)(n:Int):Int:=if ufO d n=0 then mHi d (d.fs.getD n.toNat f0T)else 0
theorem urh {d:Dsp} {n:Int}(h:¬ua5 d=0):ufO d n=ua5 d∧ukk d n=0∧uku d n=0:=by
 have e:ufO d n=ua5 d:=by unfold ufO;rw [if_neg h]
 exact⟨e,by unfold ukk;rw [e,if_neg h],by unfold uku;rw [e,if_neg h]⟩
theorem urT {d:Dsp} {n:Int}(h:ua5 d=0)(hn:¬(0≤n∧n≤(d.fs.length:Int)-1)):ufO d n=2∧ukk d n=0∧uku d n=0:=by
 have e:ufO d n=2:=by unfold ufO;rw [if_pos h,if_neg (by rw [uav];exact hn)]
 exact⟨e,by unfold ukk;rw [e];rfl,by unfold uku;rw [e];rfl⟩
theorem ujU {d:Dsp} {n:Int}(h:ua5 d=0)(hn:0≤n∧n≤(d.fs.length:Int)-1):ufO d n=0∧ukk d n=mLo d (d.fs.getD n.toNat f0T)∧uku d n=mHi d (d.fs.getD n.toNat f0T):=by
 have e:ufO d n=0:=by unfold ufO;rw [if_pos h,if_pos (by rw [uav];exact hn)]
 exact⟨e,by unfold ukk;rw [e];rfl,by unfold uku;rw [e];rfl⟩
def uii (d:Dsp):Int:=if ua5 d=0 then(if ud3 d d.fs []=true then 0 else 11)else ua5 d
def uoG (d:Dsp):Int:=if uii d=0 then d.sn else 0
def loT (d:Dsp)(o:List Int)(s:Nat):Int:= -clo (ufv d d.fs o) (at4 (s+1) 0)
def hiT (d:Dsp)(o:List Int)(s:Nat):Int:=clo (ufv d d.fs o) (at4 0 (s+1))
theorem uiS {d:Dsp}(h:¬ua5 d=0):uii d=ua5 d∧uoG d=0:=by
 have e:uii d=ua5 d:=by unfold uii;rw [if_neg h]
 exact⟨e,by unfold uoG;rw [e,if_neg h]⟩
theorem uiK {d:Dsp}(h:ua5 d=0)(hc:ud3 d d.fs []=false):uii d=11∧uoG d=0:=by
 have e:uii d=11:=by unfold uii;rw [if_pos h,if_neg (by rw [hc];simp)]
 exact⟨e,by unfold uoG;rw [e];rfl⟩
theorem uei {d:Dsp}(h:ua5 d=0)(hc:ud3 d d.fs []=true):uii d=0∧uoG d=d.sn:=by
 have e:uii d=0:=by unfold uii;rw [if_pos h,if_pos hc]
 exact⟨e,by unfold uoG;rw [e];rfl⟩
theorem uqu {d:Dsp}(h:uii d=0):ua5 d=0∧ud3 d d.fs []=true:=by
 by_cases hF:ua5 d=0
 ·refine⟨hF,?_⟩
  cases hC:ud3 d d.fs []with
  |true=>rfl
  |false=>rw [(uiK hF hC).1]at h;omega
 ·rw [(uiS hF).1]at h;exact absurd h hF
theorem uqz {d:Dsp}(h:¬uii d=0):uoG d=0:=by unfold uoG;rw [if_neg h]
end Go.Proofs.YtkdggbfknlcdaaaGreat
namespace Go.Proofs.YtkdggbfknlcdaaaGreat
open Go Go.Eng Go.Proofs Go.Eng.Dif Go.Eng.Few
set_option maxRecDepth 10000
theorem uxA (d:Dsp)(n:Int)(hl:d.fs.length≤1000):ua0 Tryz.prog 38 [(ub0 d),(iv fun _=>n)] [] (fun r _=>r=(.tup [(.agg [(iv fun _=>ukk d n),(iv fun _=>uku d n)]),(iv fun _=>ufO d n)])):=by
 have c16:=ubA d
 have c43:= @ud2
 have c44:=ucK d
 have c45:=fun (i:Nat) (h:ua5 d=0∧i<d.fs.length)=>uri d (d.fs.getD i f0T) (ua3.1 h.1).t ((ua3.1 h.1).f i h.2)
 refine ua0.is fun R hR=>qW (sc:=uBO) uai mix Tryz.func38 rfl Tryz.call38 (by kernel_rfl) (by kernel_rfl) ?_
 generalize Tryz.prog=P at c16 c43 c44 c45⊢
 cbv
 repeat' (first
  |with_reducible refine ua4 ?_ ?_
  |with_reducible refine And.intro ?_ ?_
  |(with_reducible intro hcd;(try simp only [zA,zB,zC,zD,zE,zF,zG,zH,zI,zJ,zK,zL,zM,zN,zO,zP]at hcd);try cbv)
  |(refine qP ?_ (c16) ?hfit;(case hfit=>((repeat' (first|exact qB|refine qD ?_ ?_|exact qE (by rfl)|exact qF (by rfl)|exact Fit.refl _|exact qA|refine qC ?_ rfl ?_));done));try cbv)
  |(refine qP ?_ (c43 _ _ _) (by(repeat' (first|exact qB|refine qD ?_ ?_|exact qE (by rfl)|exact qF (by rfl)|exact Fit.refl _|exact qA|refine qC ?_ rfl ?_)));try cbv)
  |(refine qP ?_ (c44) ?hfit;(case hfit=>((repeat' (first|exact qB|refine qD ?_ ?_|exact qE (by rfl)|exact qF (by rfl)|exact Fit.refl _|exact qA|refine qC ?_ rfl ?_));done));try cbv)
  | ((have hn9:0≤n∧n≤(d.fs.length:Int)-1:=(by((try simp only [qV]at *);(try simp only [zQ,zA,zB,zC,zD,zE,zF,zG,zH,zI,zJ,zK,zL,zM,zN,zO,zP,zR,zS]at *);(try simp only [uah,uak,uav,uaE,uaJ,uaM,ua8,uaa,ua9,uab]at *);omega)))
     refine qP ?_ (c45 n.toNat ⟨by first|assumption|omega,by omega⟩) ?hfit
     case hfit=>((repeat' (first|exact qB|refine qD ?_ ?_|exact qE (by rfl)|exact qF (by rfl)|exact Fit.refl _|exact qA|refine qC ?_ rfl ?_));done)
     try cbv)
  |fail)
 all_goals first|((try simp only [qV]at *);(try simp only [zQ,zA,zB,zC,zD,zE,zF,zG,zH,zI,zJ,zK,zL,zM,zN,zO,zP,zR,zS,uah,uak,uav,uaE,uaJ,uaM,ua8,uaa,ua9,uab]at *);first|(refine qN ?_;omega)|(simp only [uaj];omega))|(subst hR;(refine qD (qC (qE ?_) rfl (qC (qE ?_) rfl qA)) (qD (qE ?_) qB)<;>((try simp only [qV]at *);(try simp only [zQ,zA,zB,zC,zD,zE,zF,zG,zH,zI,zJ,zK,zL,zM,zN,zO,zP,zR,zS]at *);(try simp only [uah,uak,uav,uaE,uaJ,uaM,ua8,uaa,ua9,uab]at *);(have h0:=urh (d:=d) (n:=n) (by first|assumption|omega));first|exact h0.2.1.symm|exact h0.2.2.symm|exact h0.1.symm));done)|(subst hR;(refine qD (qC (qE ?_) rfl (qC (qE ?_) rfl qA)) (qD (qE ?_) qB)<;>((try simp only [qV]at *);(try simp only [zQ,zA,zB,zC,zD,zE,zF,zG,zH,zI,zJ,zK,zL,zM,zN,zO,zP,zR,zS]at *);(try simp only [uah,uak,uav,uaE,uaJ,uaM,ua8,uaa,ua9,uab]at *);(have h0:=urT (d:=d) (n:=n) (by first|assumption|omega) (by first|assumption|omega));first|exact h0.2.1.symm|exact h0.2.2.symm|exact h0.1.symm));done)|(subst hR;(refine qD (qC (qE ?_) rfl (qC (qE ?_) rfl qA)) (qD (qE ?_) qB)<;>((try simp only [qV]at *);(try simp only [zQ,zA,zB,zC,zD,zE,zF,zG,zH,zI,zJ,zK,zL,zM,zN,zO,zP,zR,zS]at *);(try simp only [uah,uak,uav,uaE,uaJ,uaM,ua8,uaa,ua9,uab]at *);(have h0:=ujU (d:=d) (n:=n) (by first|assumption|omega) (by omega));first|exact h0.2.1.symm|exact h0.2.2.symm|exact h0.1.symm));done)|skip
theorem upk (d:Dsp)(h:uii d=0):ua0 Tryz.prog 30 [(ub0 d)] [] (fun r _=>r=(.tup [(.sl 2 (.sym fun _=>uoG d) (fun ix=>[(iv fun _=>loT d [] ix.den.toNat),(iv fun _=>hiT d [] ix.den.toNat)])),(iv fun _=>uii d)])):=by
 have c16:=ubA d
 have c44:=ucK d
 have hF:=(uqu h).1
 have hC:=(uqu h).2
 have s1:=(ua3.1 hF).s1
 have s3:=(ua3.1 hF).s3
 have c54:=uby d [] (ua3.1 hF) (by simp)
 have hbd:=fun (i:Nat) (hi:i<16)=>ukc (ua3.1 hF) hC hi
 have c55:=fun (s:Int) (hs:0≤s∧s<3)=>uek (clo (ufv d d.fs [])) s hs (fun i hi=>⟨by have:=hbd i hi;omega,by have:=hbd i hi;omega⟩)
 refine ua0.is fun R hR=>qW (sc:=uAr) uai mix Tryz.func30 rfl Tryz.call30 (by kernel_rfl) (by kernel_rfl) ?_
 generalize Tryz.prog=P at c16 c44 c54 c55⊢
 cbv
 repeat' (first|with_reducible refine And.intro ?_ ?_|(with_reducible intro hcd;(try simp only [zA,zB,zC,zD,zE,zF,zG,zH,zI,zJ,zK,zL,zM,zN,zO,zP]at hcd);try cbv)|(refine qP ?_ (c16) ?hfit;(case hfit=>((repeat' (first|exact qB|refine qD ?_ ?_|exact qE (by rfl)|exact qF (by rfl)|exact Fit.refl _|exact qA|refine qC ?_ rfl ?_));done));try cbv)|(refine qP ?_ (c44) ?hfit;(case hfit=>((repeat' (first|exact qB|refine qD ?_ ?_|exact qE (by rfl)|exact qF (by rfl)|exact Fit.refl _|exact qA|refine qC ?_ rfl ?_));done));try cbv)|(refine qP ?_ (c54) ?hfit;(case hfit=>((refine qD (Fit.refl _) (qD (qO rfl) qB));done));try cbv)|fail)
 all_goals first|trivial|(exfalso;rw [hC]at hcd;cases hcd;done)|skip
 refine⟨none,[⟨.tmp 7,59,2⟩],{s:Nat // s≤d.sn.toNat},fun x=>⟨[(1,.own 0 0),(5,.own 14 0),(7,.row 23),(23,(iv fun _=>d.sn)),(24,(iv fun _=>zi x.1))],[(0,.cells [(iS d.tw),(iS d.tm),(.sl 1 (.sym fun _=>zi (d.tv).length) (fun ix=>[(.sl 1 (.sym fun _=>zi ((d.tv).getD ix.den.toNat []).length) (fun jx=>[(iv fun _=>((d.tv).getD ix.den.toNat []).getD jx.den.toNat 0)]))])),(iv fun _=>d.sn),(iv fun _=>d.pn),(.sl 4 (.sym fun _=>zi (d.ls).length) (fun ix=>[(iv fun _=>((d.ls).getD ix.den.toNat l0T).a),(iv fun _=>((d.ls).getD ix.den.toNat l0T).b),(iv fun _=>((d.ls).getD ix.den.toNat l0T).lo),(iv fun _=>((d.ls).getD ix.den.toNat l0T).hi)])),(.sl 6 (.sym fun _=>zi (d.fs).length) (fun ix=>[(iv fun _=>((d.fs).getD ix.den.toNat f0T).p),(iv fun _=>((d.fs).getD ix.den.toNat f0T).s),(iv fun _=>((d.fs).getD ix.den.toNat f0T).wl),(iv fun _=>((d.fs).getD ix.den.toNat f0T).wh),(iv fun _=>((d.fs).getD ix.den.toNat f0T).ml),(iv fun _=>((d.fs).getD ix.den.toNat f0T).mh)]))] 39),(14,.cells [(.arr 16 (fun ix=>(iv fun _=>(clo (ufv d d.fs [])) ix.den.toNat)))] 95),(23,.row 59 2 (.sym fun _=>zi x.1) (fun ix=>[(iv fun _=>loT d [] ix.den.toNat),(iv fun _=>hiT d [] ix.den.toNat)]))],100⟩,fun x=>d.sn.toNat-x.1,?_,?_⟩
 ·refine⟨⟨0,by omega⟩,?_⟩
  cbv
  repeat' (first|with_reducible refine ua4 ?_ ?_|with_reducible refine And.intro ?_ ?_)
  all_goals first|trivial|exact qM (qE (by rfl))|exact qM (Fit.refl _)|exact qL (qK _)|(refine qL (uae ?_ ?_);(first|rfl|((try simp only [qV]at *);(try simp only [zQ,zA,zB,zC,zD,zE,zF,zG,zH,zI,zJ,zK,zL,zM,zN,zO,zP,zR,zS]at *);omega));intro ix h0 h1;exfalso;(try simp only [qV]at *);(try simp only [zQ,zA,zB,zC,zD,zE,zF,zG,zH,zI,zJ,zK,zL,zM,zN,zO,zP,zR,zS]at *);omega)|skip
 ·rintro ⟨s,hs⟩
  cbv
  repeat' (first
   |with_reducible refine ua4 ?_ ?_
   |with_reducible refine And.intro ?_ ?_
   |(with_reducible intro hcd;(try simp only [zA,zB,zC,zD,zE,zF,zG,zH,zI,zJ,zK,zL,zM,zN,zO,zP]at hcd);try cbv)
   | (refine⟨some [14],?_⟩
      cbv
      refine qQ ?_ (c55 (zi s) ⟨(by((try simp only [qV]at *);(try simp only [zQ,zA,zB,zC,zD,zE,zF,zG,zH,zI,zJ,zK,zL,zM,zN,zO,zP,zR,zS]at *);omega)),(by((try simp only [qV]at *);(try simp only [zQ,zA,zB,zC,zD,zE,zF,zG,zH,zI,zJ,zK,zL,zM,zN,zO,zP,zR,zS]at *);omega))⟩) ?hfit ?hbo
      case hfit=>(cbv;(repeat' (first|exact qB|refine qD ?_ ?_|exact qE (by rfl)|exact qF (by rfl)|exact Fit.refl _|exact qA|refine qC ?_ rfl ?_));done)
      case hbo=>(cbv;(repeat' (first|exact qH|refine qI ?_ ?_|exact qK _|refine qJ ?_|exact qA|exact qE (by rfl)|exact qF (by rfl)|exact Fit.refl _|exact qG _|refine qC ?_ rfl ?_));done)
      try cbv)
   | (refine⟨fun ix=>[(iv fun _=>loT d [] ix.den.toNat),(iv fun _=>hiT d [] ix.den.toNat)],?_⟩
      cbv
      refine ua4 (ub9 (by intro ix jx h0 h1 h2;simp only [h2];exact Fit.refl _) (by intro ix jx h0 h1 h2;(have h3:jx.den.toNat=s:=by((try simp only [qV]at *);(try simp only [zQ,zA,zB,zC,zD,zE,zF,zG,zH,zI,zJ,zK,zL,zM,zN,zO,zP,zR,zS]at *);omega));simp only [h3];exact qC (qE rfl) rfl (qC (qE rfl) rfl qA)) (by(try simp only [qV]at *);(try simp only [zQ,zA,zB,zC,zD,zE,zF,zG,zH,zI,zJ,zK,zL,zM,zN,zO,zP,zR,zS]at *);omega)) (Or.inl ?_)
      try cbv)
   |fail)
  all_goals first|((try simp only [qV]at *);(try simp only [zQ,zA,zB,zC,zD,zE,zF,zG,zH,zI,zJ,zK,zL,zM,zN,zO,zP,zR,zS]at *);first|(refine qN ?_;omega)|(simp only [uaj];omega))|((have hse:(s:Int)=d.sn:=(by((try simp only [qV]at *);(try simp only [zQ,zA,zB,zC,zD,zE,zF,zG,zH,zI,zJ,zK,zL,zM,zN,zO,zP,zR,zS]at *);omega)));subst hR;exact qD (ua1 (hse.trans (uei hF hC).2.symm) (fun _ _ _=>Fit.refl _)) (qD (qE h.symm) qB))|((try simp only [zQ,zA,zB,zC,zD,zE,zF,zG,zH,zI,zJ,zK,zL,zM,zN,zO,zP,zR,zS]at *);refine⟨⟨s+1,by((try simp only [qV]at *);(try simp only [zQ,zA,zB,zC,zD,zE,zF,zG,zH,zI,zJ,zK,zL,zM,zN,zO,zP,zR,zS]at *);omega)⟩,by simp only [];omega,?_⟩;cbv;(repeat' (first|with_reducible refine ua4 ?_ ?_|with_reducible refine And.intro ?_ ?_));(all_goals first|trivial|exact qM (qE (by rfl))|exact qM (qF (by rfl))|exact qM (Fit.refl _)|exact qL (qK _)|(refine qM (qE ?_);(try simp only [qV]at *);simp only [zQ,zA,zB,zC,zD,zE,zF,zG,zH,zI,zJ,zK,zL,zM,zN,zO,zP,zR,zS]at *;omega)|(refine qL (qJ ?_);(repeat' (first|exact qA|exact qB|refine qC ?_ rfl ?_|refine qD ?_ ?_|exact qE (by rfl)|exact qF (by rfl)|exact Fit.refl _|exact qG _|(refine qE ?_;(try simp only [qV]at *);simp only [zQ,zA,zB,zC,zD,zE,zF,zG,zH,zI,zJ,zK,zL,zM,zN,zO,zP,zR,zS]at *;omega)));done)|(refine qL (uae ?_ ?_)<;>first|rfl|((try simp only [qV]at *);(try simp only [zQ,zA,zB,zC,zD,zE,zF,zG,zH,zI,zJ,zK,zL,zM,zN,zO,zP,zR,zS]at *);omega)|(intro ix h0 h1;exact Fit.refl _))|skip))|skip
theorem uqO (d:Dsp)(h:¬uii d=0):ua0 Tryz.prog 30 [(ub0 d)] [] (fun r _=>r=(.tup [(.sl 2 (.sym fun _=>uoG d) (fun ix=>[(iv fun _=>loT d [] ix.den.toNat),(iv fun _=>hiT d [] ix.den.toNat)])),(iv fun _=>uii d)])):=by
 have c16:=ubA d
 have c44:=ucK d
 have c54:=fun h:ua5 d=0=>uby d [] (ua3.1 h) (by simp)
 refine ua0.is fun R hR=>qW (sc:=uAr) uai mix Tryz.func30 rfl Tryz.call30 (by kernel_rfl) (by kernel_rfl) ?_
 generalize Tryz.prog=P at c16 c44 c54⊢
 cbv
 repeat' (first|with_reducible refine And.intro ?_ ?_|(with_reducible intro hcd;(try simp only [zA,zB,zC,zD,zE,zF,zG,zH,zI,zJ,zK,zL,zM,zN,zO,zP]at hcd);try cbv)|(refine qP ?_ (c16) ?hfit;(case hfit=>((repeat' (first|exact qB|refine qD ?_ ?_|exact qE (by rfl)|exact qF (by rfl)|exact Fit.refl _|exact qA|refine qC ?_ rfl ?_));done));try cbv)|(refine qP ?_ (c44) ?hfit;(case hfit=>((repeat' (first|exact qB|refine qD ?_ ?_|exact qE (by rfl)|exact qF (by rfl)|exact Fit.refl _|exact qA|refine qC ?_ rfl ?_));done));try cbv)|(refine qP ?_ (c54 (show uaj _ from ?_)) ?hfit;(case hfit=>((refine qD (Fit.refl _) (qD (qO rfl) qB));done));try cbv)|fail)
 all_goals first|trivial|(subst hR;((try simp only [qV]at *);(try simp only [zQ,zA,zB,zC,zD,zE,zF,zG,zH,zI,zJ,zK,zL,zM,zN,zO,zP,zR,zS]at *);(exact qD (qO (uqz h)) (qD (qE (uiS (d:=d) (by first|assumption|omega)).1.symm) qB)));done)|(subst hR;((try simp only [qV]at *);(try simp only [zQ,zA,zB,zC,zD,zE,zF,zG,zH,zI,zJ,zK,zL,zM,zN,zO,zP,zR,zS]at *);(exact qD (qO (uqz h)) (qD (qE (uiK (d:=d) (by first|assumption|omega) (by assumption)).1.symm) qB)));done)|(exfalso;exact h (uei (by((try simp only [qV]at *);(try simp only [zQ,zA,zB,zC,zD,zE,zF,zG,zH,zI,zJ,zK,zL,zM,zN,zO,zP,zR,zS]at *);first|assumption|omega)) (by assumption)).1)|skip
theorem udH (d:Dsp):ua0 Tryz.prog 30 [(ub0 d)] [] (fun r _=>r=(.tup [(.sl 2 (.sym fun _=>uoG d) (fun ix=>[(iv fun _=>loT d [] ix.den.toNat),(iv fun _=>hiT d [] ix.den.toNat)])),(iv fun _=>uii d)])):=by
 by_cases h:uii d=0
 ·exact upk d h
 ·exact uqO d h
theorem uqs (l:List Int)(hl:l.length≤1000):ubf Tryz.prog 89 [(iS l)] [] (fun r bs=>r = .row 0∧bs=[.row 3 1 (.sym fun _=>zi l.length) (fun ix=>[(iv fun _=>l.getD ix.den.toNat 0)])]):=by
 refine ubf.is rfl rfl fun R B hR hB=>uf8 (sc:=uBe) uai mix Tryz.func89 rfl Tryz.call89 (by kernel_rfl) (by kernel_rfl) ?_
 generalize Tryz.prog=P
 cbv
 repeat' (first|with_reducible refine ua4 ?_ ?_|with_reducible refine And.intro ?_ ?_|(with_reducible intro hcd;(try simp only [zA,zB,zC,zD,zE,zF,zG,zH,zI,zJ,zK,zL,zM,zN,zO,zP]at hcd);try cbv)|fail)
 all_goals first|((try simp only [qV]at *);(try simp only [zQ,zA,zB,zC,zD,zE,zF,zG,zH,zI,zJ,zK,zL,zM,zN,zO,zP,zR,zS]at *);first|(refine qN ?_;omega)|(simp only [uaj];omega))|(refine⟨[⟨.tmp 2,3,1⟩],(4:Nat),?_⟩;cbv;subst hR;subst hB;refine⟨?_,?_⟩;(first|exact Fit.refl _|((repeat' (first|exact qA|exact qB|refine qC ?_ rfl ?_|refine qD ?_ ?_|exact qE (by rfl)|exact qF (by rfl)|exact Fit.refl _|exact qG _|(refine qE ?_;(try simp only [qV]at *);simp only [zQ,zA,zB,zC,zD,zE,zF,zG,zH,zI,zJ,zK,zL,zM,zN,zO,zP,zR,zS]at *;omega)));done));(repeat' (first|exact qH|refine qI ?_ ?_));(all_goals first|exact qK _|(refine qJ ?_;(repeat' (first|exact qA|exact qB|refine qC ?_ rfl ?_|refine qD ?_ ?_|exact qE (by rfl)|exact qF (by rfl)|exact Fit.refl _|exact qG _|(refine qE ?_;(try simp only [qV]at *);simp only [zQ,zA,zB,zC,zD,zE,zF,zG,zH,zI,zJ,zK,zL,zM,zN,zO,zP,zR,zS]at *;omega)));done)|(refine uae ?_ ?_;(first|rfl|((try simp only [qV]at *);(try simp only [zQ,zA,zB,zC,zD,zE,zF,zG,zH,zI,zJ,zK,zL,zM,zN,zO,zP,zR,zS]at *);omega));intro ix h0 h1;first|exact Fit.refl _|(exfalso;(try simp only [qV]at *);(try simp only [zQ,zA,zB,zC,zD,zE,zF,zG,zH,zI,zJ,zK,zL,zM,zN,zO,zP,zR,zS]at *);omega))))|(refine⟨[],(5:Nat),?_⟩;cbv;subst hR;subst hB;refine⟨?_,?_⟩;(first|exact Fit.refl _|((repeat' (first|exact qA|exact qB|refine qC ?_ rfl ?_|refine qD ?_ ?_|exact qE (by rfl)|exact qF (by rfl)|exact Fit.refl _|exact qG _|(refine qE ?_;(try simp only [qV]at *);simp only [zQ,zA,zB,zC,zD,zE,zF,zG,zH,zI,zJ,zK,zL,zM,zN,zO,zP,zR,zS]at *;omega)));done));(repeat' (first|exact qH|refine qI ?_ ?_));(all_goals first|exact qK _|(refine qJ ?_;(repeat' (first|exact qA|exact qB|refine qC ?_ rfl ?_|refine qD ?_ ?_|exact qE (by rfl)|exact qF (by rfl)|exact Fit.refl _|exact qG _|(refine qE ?_;(try simp only [qV]at *);simp only [zQ,zA,zB,zC,zD,zE,zF,zG,zH,zI,zJ,zK,zL,zM,zN,zO,zP,zR,zS]at *;omega)));done)|(refine uae ?_ ?_;(first|rfl|((try simp only [qV]at *);(try simp only [zQ,zA,zB,zC,zD,zE,zF,zG,zH,zI,zJ,zK,zL,zM,zN,zO,zP,zR,zS]at *);omega));intro ix h0 h1;first|exact Fit.refl _|(exfalso;(try simp only [qV]at *);(try simp only [zQ,zA,zB,zC,zD,zE,zF,zG,zH,zI,zJ,zK,zL,zM,zN,zO,zP,zR,zS]at *);omega))))|skip
theorem ulM (l:List FaT)(hl:l.length≤1000):ua0 Tryz.prog 81 [(.sl 6 (.sym fun _=>zi (l).length) (fun ix=>[(iv fun _=>((l).getD ix.den.toNat f0T).p),(iv fun _=>((l).getD ix.den.toNat f0T).s),(iv fun _=>((l).getD ix.den.toNat f0T).wl),(iv fun _=>((l).getD ix.den.toNat f0T).wh),(iv fun _=>((l).getD ix.den.toNat f0T).ml),(iv fun _=>((l).getD ix.den.toNat f0T).mh)]))] [] (fun r _=>r=(.sl 6 (.sym fun _=>zi (l).length) (fun ix=>[(iv fun _=>((l).getD ix.den.toNat f0T).p),(iv fun _=>((l).getD ix.den.toNat f0T).s),(iv fun _=>((l).getD ix.den.toNat f0T).wl),(iv fun _=>((l).getD ix.den.toNat f0T).wh),(iv fun _=>((l).getD ix.den.toNat f0T).ml),(iv fun _=>((l).getD ix.den.toNat f0T).mh)]))):=by
 refine ua0.is fun R hR=>qW (sc:=uBS) uai mix Tryz.func81 rfl Tryz.call81 (by kernel_rfl) (by kernel_rfl) ?_
 generalize Tryz.prog=P
 cbv
 repeat' (first|with_reducible refine ua4 ?_ ?_|with_reducible refine And.intro ?_ ?_|(with_reducible intro hcd;(try simp only [zA,zB,zC,zD,zE,zF,zG,zH,zI,zJ,zK,zL,zM,zN,zO,zP]at hcd);try cbv)|fail)
 all_goals first|((try simp only [qV]at *);(try simp only [zQ,zA,zB,zC,zD,zE,zF,zG,zH,zI,zJ,zK,zL,zM,zN,zO,zP,zR,zS]at *);first|(refine qN ?_;omega)|(simp only [uaj];omega))|(subst hR;exact qO (by((try simp only [qV]at *);(try simp only [zQ,zA,zB,zC,zD,zE,zF,zG,zH,zI,zJ,zK,zL,zM,zN,zO,zP,zR,zS]at *);omega));done)|(subst hR;exact Fit.refl _;done)|skip
end Go.Proofs.YtkdggbfknlcdaaaGreat
namespace Go.Proofs.YtkdggbfknlcdaaaGreat
open Go.Eng.Dif
def noF (d:Dsp):Dsp:=⟨d.tw,d.tm,d.tv,d.sn,d.pn,d.ls,[]⟩
def ucn (d:Dsp)(fs:List FaT):Dsp:=⟨d.tw,d.tm,d.tv,d.sn,d.pn,d.ls,fs⟩
theorem un8 {d:Dsp}(h:DOk d) {fs:List FaT}(hl:fs.length≤6)(hf:∀f∈fs,ubS d f):DOk (ucn d fs):=
 ⟨h.t,h.s1,h.s3,h.p1,h.p4,h.l4,hl,h.l,FOk.of (d:=d) hf⟩
theorem uqS {d:Dsp}(h:DOk d):DOk (noF d):=un8 h (fs:=[]) (by simp) (fun f hf=>by cases hf)
def ue1 (d:Dsp):Bool:=ud3 (noF d) [] []
def uam (d:Dsp):Int:=if ua5 d=0 then(if ue1 d=true then 0 else 9)else ua5 d
theorem uk2 {d:Dsp}(h:¬ua5 d=0):uam d=ua5 d:=by unfold uam;rw [if_neg h]
theorem umG {d:Dsp}(h:ua5 d=0)(hc:ue1 d=false):uam d=9:=by unfold uam;rw [if_pos h,if_neg (by rw [hc];simp)]
theorem ugI {d:Dsp}(h:ua5 d=0)(hc:ue1 d=true):uam d=0:=by unfold uam;rw [if_pos h,if_pos hc]
theorem uaH {d:Dsp}(h:uam d=0):ua5 d=0∧ue1 d=true:=by
 by_cases hF:ua5 d=0
 ·refine⟨hF,?_⟩
  cases hC:ue1 d with
  |true=>rfl
  |false=>rw [umG hF hC]at h;omega
 ·rw [uk2 hF]at h;exact absurd h hF
theorem unh (d:Dsp):ue1 d=ueC (SN d) (LO d) []:=rfl
end Go.Proofs.YtkdggbfknlcdaaaGreat
namespace Go.Proofs.YtkdggbfknlcdaaaGreat
open Go Go.Eng Go.Proofs Go.Eng.Dif Go.Eng.Few
set_option maxRecDepth 10000
theorem uvV (d:Dsp):ubf Tryz.prog 62 [(ub0 d)] [] (fun r bs=>r = .own 0 0∧bs=[.cells [(iS d.tw),(iS d.tm),(.sl 1 (.sym fun _=>zi (d.tv).length) (fun ix=>[(.sl 1 (.sym fun _=>zi ((d.tv).getD ix.den.toNat []).length) (fun jx=>[(iv fun _=>((d.tv).getD ix.den.toNat []).getD jx.den.toNat 0)]))])),(iv fun _=>d.sn),(iv fun _=>d.pn),(.sl 4 (.sym fun _=>zi (d.ls).length) (fun ix=>[(iv fun _=>((d.ls).getD ix.den.toNat l0T).a),(iv fun _=>((d.ls).getD ix.den.toNat l0T).b),(iv fun _=>((d.ls).getD ix.den.toNat l0T).lo),(iv fun _=>((d.ls).getD ix.den.toNat l0T).hi)])),(.sl 6 (.sym fun _=>zi (d.fs).length) (fun ix=>[(iv fun _=>((d.fs).getD ix.den.toNat f0T).p),(iv fun _=>((d.fs).getD ix.den.toNat f0T).s),(iv fun _=>((d.fs).getD ix.den.toNat f0T).wl),(iv fun _=>((d.fs).getD ix.den.toNat f0T).wh),(iv fun _=>((d.fs).getD ix.den.toNat f0T).ml),(iv fun _=>((d.fs).getD ix.den.toNat f0T).mh)])),(.memo 106 59 false 6 (fun ks=>.agg [(iv fun _=>kLo d ks),(iv fun _=>kHi d ks)]))] 92]):=by
 have hmt:=uey
 refine ubf.is rfl rfl fun R B hR hB=>uf8 (sc:=uAB) uai mix Tryz.func62 rfl Tryz.call62 (by kernel_rfl) (by kernel_rfl) ?_
 generalize Tryz.prog=P at hmt⊢
 cbv
 repeat' (first
  | (refine⟨106,59,false,6,?_⟩
     cbv
     refine ua4 ⟨hmt,fun h=>by cases h⟩ ?_
     refine Or.inr ⟨(fun ks=>.agg [(iv fun _=>kLo d ks),(iv fun _=>kHi d ks)]),?_⟩
     cbv)
  |fail)
 all_goals first|(refine⟨[],(5:Nat),?_⟩;cbv;subst hR;subst hB;refine⟨?_,?_⟩;(first|exact Fit.refl _|((repeat' (first|exact qA|exact qB|refine qC ?_ rfl ?_|refine qD ?_ ?_|exact qE (by rfl)|exact qF (by rfl)|exact Fit.refl _|exact qG _|(refine qE ?_;(try simp only [qV]at *);simp only [zQ,zA,zB,zC,zD,zE,zF,zG,zH,zI,zJ,zK,zL,zM,zN,zO,zP,zR,zS]at *;omega)));done));(repeat' (first|exact qH|refine qI ?_ ?_));(all_goals first|exact qK _|(refine qJ ?_;(repeat' (first|exact qA|exact qB|refine qC ?_ rfl ?_|refine qD ?_ ?_|exact qE (by rfl)|exact qF (by rfl)|exact Fit.refl _|exact qG _|(refine qE ?_;(try simp only [qV]at *);simp only [zQ,zA,zB,zC,zD,zE,zF,zG,zH,zI,zJ,zK,zL,zM,zN,zO,zP,zR,zS]at *;omega)));done)|(refine uae ?_ ?_;(first|rfl|((try simp only [qV]at *);(try simp only [zQ,zA,zB,zC,zD,zE,zF,zG,zH,zI,zJ,zK,zL,zM,zN,zO,zP,zR,zS]at *);omega));intro ix h0 h1;first|exact Fit.refl _|(exfalso;(try simp only [qV]at *);(try simp only [zQ,zA,zB,zC,zD,zE,zF,zG,zH,zI,zJ,zK,zL,zM,zN,zO,zP,zR,zS]at *);omega))))|skip
theorem umv (d:Dsp)(h:uam d=0):ua0 Tryz.prog 41 [(ub0 d)] [] (fun r _=>r=(.tup [(wpS d),(iv fun _=>0)])):=by
 have c16:=ubA d
 have c44:=ucK d
 have c44n:=ucK (noF d)
 have c92:=ulM d.fs
 have hmt:=uey
 have hF:=(uaH h).1
 have hC:=(uaH h).2
 have f6:=(ua3.1 hF).f6
 have c54:=uby (noF d) [] (uqS (ua3.1 hF)) (by simp)
 have hLn:ud3 (noF d) (noF d).fs []=true:=hC
 rw [hLn]at c54
 refine ua0.is fun R hR=>qW (sc:=uA6) uai mix Tryz.func41 rfl Tryz.call41 (by kernel_rfl) (by kernel_rfl) ?_
 generalize Tryz.prog=P at c16 c44 c44n c92 hmt c54⊢
 cbv
 repeat' (first|with_reducible refine And.intro ?_ ?_|(with_reducible intro hcd;(try simp only [zA,zB,zC,zD,zE,zF,zG,zH,zI,zJ,zK,zL,zM,zN,zO,zP]at hcd);try cbv)|(refine qP ?_ (c16) ?hfit;(case hfit=>((repeat' (first|exact qB|refine qD ?_ ?_|exact qE (by rfl)|exact qF (by rfl)|exact Fit.refl _|exact qA|refine qC ?_ rfl ?_));done));try cbv)|(refine qP ?_ (c44) ?hfit;(case hfit=>((repeat' (first|exact qB|refine qD ?_ ?_|exact qE (by rfl)|exact qF (by rfl)|exact Fit.refl _|exact qA|refine qC ?_ rfl ?_));done));try cbv)|(refine qP ?_ (c92 (by((try simp only [qV]at *);(try simp only [zQ,zA,zB,zC,zD,zE,zF,zG,zH,zI,zJ,zK,zL,zM,zN,zO,zP,zR,zS]at *);omega))) ?hfit;(case hfit=>((repeat' (first|exact qB|refine qD ?_ ?_|exact qE (by rfl)|exact qF (by rfl)|exact Fit.refl _|exact qA|refine qC ?_ rfl ?_));done));try cbv)|(refine qP ?_ (c44n) ?hfit;(case hfit=>((refine qD ((qC (Fit.refl _) rfl (qC (Fit.refl _) rfl (qC (Fit.refl _) rfl (qC (Fit.refl _) rfl (qC (Fit.refl _) rfl (qC (Fit.refl _) rfl (qC (qO rfl) rfl qA)))))))) qB);done));try cbv)|(refine qP ?_ (c54) ?hfit;(case hfit=>((refine qD (Fit.refl _) (qD (qO rfl) qB));done));try cbv)|fail)
 all_goals first|trivial|(subst hR;(repeat' (first|exact qA|exact qB|refine qC ?_ rfl ?_|refine qD ?_ ?_|exact qE (by rfl)|exact qF (by rfl)|exact Fit.refl _|exact qG _|(refine qE ?_;(try simp only [qV]at *);simp only [zQ,zA,zB,zC,zD,zE,zF,zG,zH,zI,zJ,zK,zL,zM,zN,zO,zP,zR,zS]at *;omega)));done)|skip
theorem uvb (d:Dsp)(h:uam d=0):ubf Tryz.prog 41 [(ub0 d)] [] (fun r bs=>r=(.tup [.own 0 0,(iv fun _=>0)])∧bs=[.cells [(iS d.tw),(iS d.tm),(.sl 1 (.sym fun _=>zi (d.tv).length) (fun ix=>[(.sl 1 (.sym fun _=>zi ((d.tv).getD ix.den.toNat []).length) (fun jx=>[(iv fun _=>((d.tv).getD ix.den.toNat []).getD jx.den.toNat 0)]))])),(iv fun _=>d.sn),(iv fun _=>d.pn),(.sl 4 (.sym fun _=>zi (d.ls).length) (fun ix=>[(iv fun _=>((d.ls).getD ix.den.toNat l0T).a),(iv fun _=>((d.ls).getD ix.den.toNat l0T).b),(iv fun _=>((d.ls).getD ix.den.toNat l0T).lo),(iv fun _=>((d.ls).getD ix.den.toNat l0T).hi)])),(.sl 6 (.sym fun _=>zi (d.fs).length) (fun ix=>[(iv fun _=>((d.fs).getD ix.den.toNat f0T).p),(iv fun _=>((d.fs).getD ix.den.toNat f0T).s),(iv fun _=>((d.fs).getD ix.den.toNat f0T).wl),(iv fun _=>((d.fs).getD ix.den.toNat f0T).wh),(iv fun _=>((d.fs).getD ix.den.toNat f0T).ml),(iv fun _=>((d.fs).getD ix.den.toNat f0T).mh)])),(.memo 106 59 false 6 (fun ks=>.agg [(iv fun _=>kLo d ks),(iv fun _=>kHi d ks)]))] 92]):=by
 have c16:=ubA d
 have c44:=ucK d
 have c44n:=ucK (noF d)
 have c92:=ulM d.fs
 have hmt:=uey
 have hF:=(uaH h).1
 have hC:=(uaH h).2
 have f6:=(ua3.1 hF).f6
 have c54:=uby (noF d) [] (uqS (ua3.1 hF)) (by simp)
 have hLn:ud3 (noF d) (noF d).fs []=true:=hC
 rw [hLn]at c54
 have c44o:=uvV d
 refine ubf.is rfl rfl fun R B hR hB=>uf8 (sc:=uA6) uai mix Tryz.func41 rfl Tryz.call41 (by kernel_rfl) (by kernel_rfl) ?_
 generalize Tryz.prog=P at c16 c44 c44n c92 hmt c54 c44o⊢
 cbv
 repeat' (first
  |with_reducible refine And.intro ?_ ?_
  |(with_reducible intro hcd;(try simp only [zA,zB,zC,zD,zE,zF,zG,zH,zI,zJ,zK,zL,zM,zN,zO,zP]at hcd);try cbv)
  |(refine qP ?_ (c16) ?hfit;(case hfit=>((repeat' (first|exact qB|refine qD ?_ ?_|exact qE (by rfl)|exact qF (by rfl)|exact Fit.refl _|exact qA|refine qC ?_ rfl ?_));done));try cbv)
  |(refine qP ?_ (c92 (by((try simp only [qV]at *);(try simp only [zQ,zA,zB,zC,zD,zE,zF,zG,zH,zI,zJ,zK,zL,zM,zN,zO,zP,zR,zS]at *);omega))) ?hfit;(case hfit=>((repeat' (first|exact qB|refine qD ?_ ?_|exact qE (by rfl)|exact qF (by rfl)|exact Fit.refl _|exact qA|refine qC ?_ rfl ?_));done));try cbv)
  |(refine qP ?_ (c44n) ?hfit;(case hfit=>((refine qD ((qC (Fit.refl _) rfl (qC (Fit.refl _) rfl (qC (Fit.refl _) rfl (qC (Fit.refl _) rfl (qC (Fit.refl _) rfl (qC (Fit.refl _) rfl (qC (qO rfl) rfl qA)))))))) qB);done));try cbv)
  |(refine qP ?_ (c54) ?hfit;(case hfit=>((refine qD (Fit.refl _) (qD (qO rfl) qB));done));try cbv)
  | (refine Or.inr ⟨true,?_⟩
     cbv
     refine qU ?_ (c44o) (by cbv;(repeat' (first|exact qB|refine qD ?_ ?_|exact qE (by rfl)|exact qF (by rfl)|exact Fit.refl _|exact qA|refine qC ?_ rfl ?_))) (by cbv;(repeat' (first|exact qH|refine qI ?_ ?_|exact qK _|refine qJ ?_|exact qA|exact qE (by rfl)|exact qF (by rfl)|exact Fit.refl _|exact qG _|refine qC ?_ rfl ?_)))
     try cbv)
  |fail)
 all_goals first|trivial|(refine⟨[],(30:Nat),?_⟩;cbv;subst hR;subst hB;refine⟨qD (Fit.refl _) (qD (qE rfl) qB),?_⟩;(repeat' (first|exact qH|refine qI ?_ ?_));(all_goals first|exact qK _|(refine qJ ?_;(repeat' (first|exact qA|exact qB|refine qC ?_ rfl ?_|refine qD ?_ ?_|exact qE (by rfl)|exact qF (by rfl)|exact Fit.refl _|exact qG _|(refine qE ?_;(try simp only [qV]at *);simp only [zQ,zA,zB,zC,zD,zE,zF,zG,zH,zI,zJ,zK,zL,zM,zN,zO,zP,zR,zS]at *;omega)));done)))|skip
theorem uiR (d:Dsp)(h:¬uam d=0):ua0 Tryz.prog 41 [(ub0 d)] [] (fun r _=>r=(.tup [.val (Value.pointer none),(iv fun _=>uam d)])):=by
 have c16:=ubA d
 have c44:=ucK d
 have c44n:=ucK (noF d)
 have c92:=ulM d.fs
 have hmt:=uey
 have c54:=fun h:ua5 d=0=>(show ua0 Tryz.prog 42 [(wpS (noF d)),(iS (([]:List Int)))] [] (fun r _=>r=(.tup [(.agg [(.arr 16 (fun ix=>(iv fun _=>(clo (ufv (noF d) (noF d).fs [])) ix.den.toNat)))]),(bv fun _=>ue1 d)]))from uby (noF d) [] (uqS (ua3.1 h)) (by simp))
 have hf6:=fun h:ua5 d=0=>(ua3.1 h).f6
 refine ua0.is fun R hR=>qW (sc:=uA6) uai mix Tryz.func41 rfl Tryz.call41 (by kernel_rfl) (by kernel_rfl) ?_
 generalize Tryz.prog=P at c16 c44 c44n c92 hmt c54⊢
 cbv
 repeat' (first
  |with_reducible refine And.intro ?_ ?_
  |(with_reducible intro hcd;(try simp only [zA,zB,zC,zD,zE,zF,zG,zH,zI,zJ,zK,zL,zM,zN,zO,zP]at hcd);try cbv)
  |(refine qP ?_ (c16) ?hfit;(case hfit=>((repeat' (first|exact qB|refine qD ?_ ?_|exact qE (by rfl)|exact qF (by rfl)|exact Fit.refl _|exact qA|refine qC ?_ rfl ?_));done));try cbv)
  |(refine qP ?_ (c44) ?hfit;(case hfit=>((repeat' (first|exact qB|refine qD ?_ ?_|exact qE (by rfl)|exact qF (by rfl)|exact Fit.refl _|exact qA|refine qC ?_ rfl ?_));done));try cbv)
  | ((have hF9:ua5 d=0:=(by((try simp only [qV]at *);(try simp only [zQ,zA,zB,zC,zD,zE,zF,zG,zH,zI,zJ,zK,zL,zM,zN,zO,zP,zR,zS]at *);omega)))
     (have f6:=hf6 hF9)
     refine qP ?_ (c92 (by((try simp only [qV]at *);(try simp only [zQ,zA,zB,zC,zD,zE,zF,zG,zH,zI,zJ,zK,zL,zM,zN,zO,zP,zR,zS]at *);omega))) ?hfit
     case hfit=>((repeat' (first|exact qB|refine qD ?_ ?_|exact qE (by rfl)|exact qF (by rfl)|exact Fit.refl _|exact qA|refine qC ?_ rfl ?_));done)
     try cbv)
  |(refine qP ?_ (c44n) ?hfit;(case hfit=>((refine qD ((qC (Fit.refl _) rfl (qC (Fit.refl _) rfl (qC (Fit.refl _) rfl (qC (Fit.refl _) rfl (qC (Fit.refl _) rfl (qC (Fit.refl _) rfl (qC (qO rfl) rfl qA)))))))) qB);done));try cbv)
  |(refine qP ?_ (c54 (by((try simp only [qV]at *);(try simp only [zQ,zA,zB,zC,zD,zE,zF,zG,zH,zI,zJ,zK,zL,zM,zN,zO,zP,zR,zS]at *);omega))) ?hfit;(case hfit=>((refine qD (Fit.refl _) (qD (qO rfl) qB));done));try cbv)
  |fail)
 all_goals first|(subst hR;(refine qD (Fit.refl _) (qD (qE ?_) qB);(try simp only [qV]at *);(try simp only [zQ,zA,zB,zC,zD,zE,zF,zG,zH,zI,zJ,zK,zL,zM,zN,zO,zP,zR,zS]at *);first|exact(uk2 (by first|assumption|omega)).symm|exact(umG (by first|assumption|omega) (by assumption)).symm);done)|(exfalso;exact h (ugI (by((try simp only [qV]at *);(try simp only [zQ,zA,zB,zC,zD,zE,zF,zG,zH,zI,zJ,zK,zL,zM,zN,zO,zP,zR,zS]at *);first|assumption|omega)) (by assumption)))|skip
end Go.Proofs.YtkdggbfknlcdaaaGreat
namespace Go.Proofs.YtkdggbfknlcdaaaGreat
open Go.Eng.Dif
theorem ugy {d:Dsp}:ud3 d d.fs []=ueC (SN d) (LO d) (FO d d.fs):=by
 unfold ud3 ufv ueC
 rw [uin]
theorem uvd (d:Dsp)(n:Nat):FO d (d.fs.take n)=(FO d d.fs).take n:=List.map_take ..
theorem usm (d:Dsp)(n:Nat):ud3 (ucn d (d.fs.take n)) (ucn d (d.fs.take n)).fs []=ueC (SN d) (LO d) ((FO d d.fs).take n):=by
 rw [ugy,←uvd]
 rfl
theorem uwc {d:Dsp}(h:DOk d)(n:Nat):DOk (ucn d (d.fs.take n)):=
 un8 h (by have:=h.f6;rw [List.length_take];omega) fun f hf=>FOk.mem h.f (List.mem_of_mem_take hf)
def uvG (d:Dsp):Option Nat:=uuk (SN d) (LO d) (FO d d.fs) d.fs.length 0
def uru (d:Dsp):Int:=if uam d=0 then(match uvG d with|some _=>0|none=>7)else uam d
def urv (d:Dsp):Int:=if uam d=0 then(match uvG d with|some r=>(r:Int)|none=>0)else 0
theorem ut0 {d:Dsp}(h:¬uam d=0):uru d=uam d∧urv d=0:=by unfold uru urv;rw [if_neg h,if_neg h];exact⟨rfl,rfl⟩
theorem uoV {d:Dsp}(h:uam d=0)(h':uvG d=none):uru d=7∧urv d=0:=by unfold uru urv;rw [if_pos h,if_pos h,h'];exact⟨rfl,rfl⟩
theorem ujD {d:Dsp} {r:Nat}(h:uam d=0)(h':uvG d=some r):uru d=0∧urv d=(r:Int):=by unfold uru urv;rw [if_pos h,if_pos h,h'];exact⟨rfl,rfl⟩
def uwr (d:Dsp)(k i:Nat):Option Nat:=uuk (SN d) (LO d) (FO d d.fs) k i
def okI (d:Dsp)(i:Nat):Bool:=ueC (SN d) (LO d) ((FO d d.fs).take (i+1))
theorem upT {d:Dsp} {k i:Nat}(hk:0<k)(h:okI d i=false):uwr d k i=some i:=by
 cases k with
 |zero=>omega
 |succ k=>unfold uwr uuk;rw [show ueC (SN d) (LO d) ((FO d d.fs).take (i+1))=false from h];rfl
theorem uvC {d:Dsp} {k i:Nat}(hk:0<k)(h:okI d i=true):uwr d k i=uwr d (k-1) (i+1):=by
 cases k with
 |zero=>omega
 |succ k=>unfold uwr;rw [uuk,show ueC (SN d) (LO d) ((FO d d.fs).take (i+1))=true from h];rfl
end Go.Proofs.YtkdggbfknlcdaaaGreat
namespace Go.Proofs.YtkdggbfknlcdaaaGreat
open Go Go.Eng Go.Proofs Go.Eng.Dif Go.Eng.Few
set_option maxRecDepth 10000
theorem usB (fs:List FaT) {n i:Nat}(h:i<n):(fs.take n).getD i f0T=fs.getD i f0T:=by simp [List.getD_eq_getElem?_getD,List.getElem?_take,h]
theorem und (fs:List FaT) {i:Nat}(h:i<fs.length):(fs.take (i+1)).length=i+1:=by rw [List.length_take];omega
theorem ujP (fs:List FaT) {n i j:Nat}(hj:j=i)(h:i<n):Fit (.agg [(iv fun _=>(fs.getD j f0T).p),(iv fun _=>(fs.getD j f0T).s),(iv fun _=>(fs.getD j f0T).wl),(iv fun _=>(fs.getD j f0T).wh),(iv fun _=>(fs.getD j f0T).ml),(iv fun _=>(fs.getD j f0T).mh)]) (.agg [(iv fun _=>((fs.take n).getD i f0T).p),(iv fun _=>((fs.take n).getD i f0T).s),(iv fun _=>((fs.take n).getD i f0T).wl),(iv fun _=>((fs.take n).getD i f0T).wh),(iv fun _=>((fs.take n).getD i f0T).ml),(iv fun _=>((fs.take n).getD i f0T).mh)]):=by subst hj;rw [usB fs h];exact Fit.refl _
theorem urF (d:Dsp)(h:uam d=0):ua0 Tryz.prog 11 [(ub0 d)] [] (fun r _=>r=(.tup [(iv fun _=>urv d),(iv fun _=>uru d)])):=by
 have hf:=h
 have hF:=(uaH h).1
 have f6:=(ua3.1 hF).f6
 have c54:=fun i:Nat=>(show ua0 Tryz.prog 42 [(.pp 0 [(.sl 1 (.sym fun _=>zi ((ucn d (d.fs.take (i+1))).tw).length) (fun ix=>[(iv fun _=>((ucn d (d.fs.take (i+1))).tw).getD ix.den.toNat 0)])),(.sl 1 (.sym fun _=>zi ((ucn d (d.fs.take (i+1))).tm).length) (fun ix=>[(iv fun _=>((ucn d (d.fs.take (i+1))).tm).getD ix.den.toNat 0)])),(.sl 1 (.sym fun _=>zi ((ucn d (d.fs.take (i+1))).tv).length) (fun ix=>[(.sl 1 (.sym fun _=>zi (((ucn d (d.fs.take (i+1))).tv).getD ix.den.toNat []).length) (fun jx=>[(iv fun _=>(((ucn d (d.fs.take (i+1))).tv).getD ix.den.toNat []).getD jx.den.toNat 0)]))])),(iv fun _=>(ucn d (d.fs.take (i+1))).sn),(iv fun _=>(ucn d (d.fs.take (i+1))).pn),(.sl 4 (.sym fun _=>zi ((ucn d (d.fs.take (i+1))).ls).length) (fun ix=>[(iv fun _=>(((ucn d (d.fs.take (i+1))).ls).getD ix.den.toNat l0T).a),(iv fun _=>(((ucn d (d.fs.take (i+1))).ls).getD ix.den.toNat l0T).b),(iv fun _=>(((ucn d (d.fs.take (i+1))).ls).getD ix.den.toNat l0T).lo),(iv fun _=>(((ucn d (d.fs.take (i+1))).ls).getD ix.den.toNat l0T).hi)])),(.sl 6 (.sym fun _=>zi ((d.fs.take (i+1))).length) (fun ix=>[(iv fun _=>(((d.fs.take (i+1))).getD ix.den.toNat f0T).p),(iv fun _=>(((d.fs.take (i+1))).getD ix.den.toNat f0T).s),(iv fun _=>(((d.fs.take (i+1))).getD ix.den.toNat f0T).wl),(iv fun _=>(((d.fs.take (i+1))).getD ix.den.toNat f0T).wh),(iv fun _=>(((d.fs.take (i+1))).getD ix.den.toNat f0T).ml),(iv fun _=>(((d.fs.take (i+1))).getD ix.den.toNat f0T).mh)])),(.memo 106 59 false 6 (fun ks=>.agg [(iv fun _=>kLo (ucn d (d.fs.take (i+1))) ks),(iv fun _=>kHi (ucn d (d.fs.take (i+1))) ks)]))]),(iS (([]:List Int)))] [] (fun r _=>r=(.tup [(.agg [(.arr 16 (fun ix=>(iv fun _=>(clo (ufv (ucn d (d.fs.take (i+1))) (ucn d (d.fs.take (i+1))).fs [])) ix.den.toNat)))]),(bv fun _=>okI d i)]))from(show ud3 (ucn d (d.fs.take (i+1))) (ucn d (d.fs.take (i+1))).fs []=okI d i from usm d (i+1))▸uby (ucn d (d.fs.take (i+1))) [] (uwc (ua3.1 hF) (i+1)) (by simp))
 have c59:=uvb d h
 refine ua0.is fun R hR=>qW (sc:=uAv) uai mix Tryz.func11 rfl Tryz.call11 (by kernel_rfl) (by kernel_rfl) ?_
 generalize Tryz.prog=P at c54 c59⊢
 cbv
 repeat' (first
  |with_reducible refine And.intro ?_ ?_
  |(with_reducible intro hcd;(try simp only [zA,zB,zC,zD,zE,zF,zG,zH,zI,zJ,zK,zL,zM,zN,zO,zP]at hcd);try cbv)
  | (refine Or.inr ⟨true,?_⟩
     cbv
     refine qU ?_ (c59) (by cbv;(repeat' (first|exact qB|refine qD ?_ ?_|exact qE (by rfl)|exact qF (by rfl)|exact Fit.refl _|exact qA|refine qC ?_ rfl ?_))) (by cbv;(repeat' (first|exact qH|refine qI ?_ ?_|exact qK _|refine qJ ?_|exact qA|exact qE (by rfl)|exact qF (by rfl)|exact Fit.refl _|exact qG _|refine qC ?_ rfl ?_)))
     try cbv)
  |fail)
 all_goals first|trivial|skip
 refine⟨none,[],{i:Nat // i≤d.fs.length∧uvG d=uwr d (d.fs.length-i) i},fun x=>⟨[(1,.own 0 0),(4,.own 4 0),(19,(iv fun _=>zi d.fs.length)),(20,(iv fun _=>zi x.1))],[(0,.cells [(iS d.tw),(iS d.tm),(.sl 1 (.sym fun _=>zi (d.tv).length) (fun ix=>[(.sl 1 (.sym fun _=>zi ((d.tv).getD ix.den.toNat []).length) (fun jx=>[(iv fun _=>((d.tv).getD ix.den.toNat []).getD jx.den.toNat 0)]))])),(iv fun _=>d.sn),(iv fun _=>d.pn),(.sl 4 (.sym fun _=>zi (d.ls).length) (fun ix=>[(iv fun _=>((d.ls).getD ix.den.toNat l0T).a),(iv fun _=>((d.ls).getD ix.den.toNat l0T).b),(iv fun _=>((d.ls).getD ix.den.toNat l0T).lo),(iv fun _=>((d.ls).getD ix.den.toNat l0T).hi)])),(.sl 6 (.sym fun _=>zi (d.fs).length) (fun ix=>[(iv fun _=>((d.fs).getD ix.den.toNat f0T).p),(iv fun _=>((d.fs).getD ix.den.toNat f0T).s),(iv fun _=>((d.fs).getD ix.den.toNat f0T).wl),(iv fun _=>((d.fs).getD ix.den.toNat f0T).wh),(iv fun _=>((d.fs).getD ix.den.toNat f0T).ml),(iv fun _=>((d.fs).getD ix.den.toNat f0T).mh)]))] 39),(4,.cells [(iS d.tw),(iS d.tm),(.sl 1 (.sym fun _=>zi (d.tv).length) (fun ix=>[(.sl 1 (.sym fun _=>zi ((d.tv).getD ix.den.toNat []).length) (fun jx=>[(iv fun _=>((d.tv).getD ix.den.toNat []).getD jx.den.toNat 0)]))])),(iv fun _=>d.sn),(iv fun _=>d.pn),(.sl 4 (.sym fun _=>zi (d.ls).length) (fun ix=>[(iv fun _=>((d.ls).getD ix.den.toNat l0T).a),(iv fun _=>((d.ls).getD ix.den.toNat l0T).b),(iv fun _=>((d.ls).getD ix.den.toNat l0T).lo),(iv fun _=>((d.ls).getD ix.den.toNat l0T).hi)])),.any,(.memo 106 59 false 6 (fun ks=>.agg [(iv fun _=>kLo d ks),(iv fun _=>kHi d ks)]))] 92)],100⟩,fun x=>d.fs.length-x.1,?_,?_⟩
 ·refine⟨⟨0,by omega,rfl⟩,?_⟩
  cbv
  repeat' (first|with_reducible refine ua4 ?_ ?_|with_reducible refine And.intro ?_ ?_)
  all_goals first|trivial|exact qM (qE (by rfl))|exact qM (Fit.refl _)|exact qL (qK _)|(refine qL (qJ ?_);(repeat' (first|exact qA|exact qB|refine qC ?_ rfl ?_|refine qD ?_ ?_|exact qE (by rfl)|exact qF (by rfl)|exact Fit.refl _|exact qG _|(refine qE ?_;(try simp only [qV]at *);simp only [zQ,zA,zB,zC,zD,zE,zF,zG,zH,zI,zJ,zK,zL,zM,zN,zO,zP,zR,zS]at *;omega)));done)|skip
 ·rintro ⟨i,hi,h3⟩
  cbv
  repeat' (first
   |with_reducible refine ua4 ?_ ?_
   |with_reducible refine And.intro ?_ ?_
   |(with_reducible intro hcd;(try simp only [zA,zB,zC,zD,zE,zF,zG,zH,zI,zJ,zK,zL,zM,zN,zO,zP]at hcd);try cbv)
   | ((first|(refine upt ?_ (c54 i) ⟨⟨fun _=>rfl,trivial⟩,rfl,trivial⟩ ?hfit;case hfit=>(cbv;(refine qD (utZ (qC (Fit.refl _) rfl (qC (Fit.refl _) rfl (qC (Fit.refl _) rfl (qC (Fit.refl _) rfl (qC (Fit.refl _) rfl (qC (Fit.refl _) rfl (qC ?_ rfl (qC (Fit.refl _) rfl qA))))))))) (qD (qO rfl) qB);refine ua1 ?_ (fun ix h0 h1=>ujP _ ?_ ?_)<;>((try simp only [qV]at *);(try simp only [zQ,zA,zB,zC,zD,zE,zF,zG,zH,zI,zJ,zK,zL,zM,zN,zO,zP,zR,zS]at *);first|omega|(rw [und _ (by omega)];(try simp only [uac]);omega)));done))|(refine⟨none,?_⟩;refine upt ?_ (c54 i) ⟨⟨fun _=>rfl,trivial⟩,rfl,trivial⟩ ?hfit;case hfit=>(cbv;(refine qD (utZ (qC (Fit.refl _) rfl (qC (Fit.refl _) rfl (qC (Fit.refl _) rfl (qC (Fit.refl _) rfl (qC (Fit.refl _) rfl (qC (Fit.refl _) rfl (qC ?_ rfl (qC (Fit.refl _) rfl qA))))))))) (qD (qO rfl) qB);refine ua1 ?_ (fun ix h0 h1=>ujP _ ?_ ?_)<;>((try simp only [qV]at *);(try simp only [zQ,zA,zB,zC,zD,zE,zF,zG,zH,zI,zJ,zK,zL,zM,zN,zO,zP,zR,zS]at *);first|omega|(rw [und _ (by omega)];(try simp only [uac]);omega)));done)))
      try cbv)
   |fail)
  all_goals first|((try simp only [qV]at *);(try simp only [zQ,zA,zB,zC,zD,zE,zF,zG,zH,zI,zJ,zK,zL,zM,zN,zO,zP,zR,zS]at *);first|(refine qN ?_;omega)|(simp only [uaj];omega))|(subst hR;(have h9:=ujD hf (h3.trans (upT (by((try simp only [qV]at *);(try simp only [zQ,zA,zB,zC,zD,zE,zF,zG,zH,zI,zJ,zK,zL,zM,zN,zO,zP,zR,zS]at *);omega)) hcd)));exact qD (qE h9.2.symm) (qD (qE h9.1.symm) qB))|(subst hR;(have hz:d.fs.length-i=0:=by((try simp only [qV]at *);(try simp only [zQ,zA,zB,zC,zD,zE,zF,zG,zH,zI,zJ,zK,zL,zM,zN,zO,zP,zR,zS]at *);omega));rw [hz]at h3;(have h9:=uoV hf h3);exact qD (qE h9.2.symm) (qD (qE h9.1.symm) qB))|((try simp only [zQ,zA,zB,zC,zD,zE,zF,zG,zH,zI,zJ,zK,zL,zM,zN,zO,zP,zR,zS]at *);refine⟨⟨i+1,by((try simp only [qV]at *);(try simp only [zQ,zA,zB,zC,zD,zE,zF,zG,zH,zI,zJ,zK,zL,zM,zN,zO,zP,zR,zS]at *);omega),by rw [show d.fs.length-(i+1)=d.fs.length-i-1 by omega,←uvC (by((try simp only [qV]at *);(try simp only [zQ,zA,zB,zC,zD,zE,zF,zG,zH,zI,zJ,zK,zL,zM,zN,zO,zP,zR,zS]at *);omega)) hcd];exact h3⟩,by simp only [];omega,?_⟩;cbv;(repeat' (first|with_reducible refine ua4 ?_ ?_|with_reducible refine And.intro ?_ ?_));(all_goals first|trivial|exact qM (qE (by rfl))|exact qM (qF (by rfl))|exact qM (Fit.refl _)|exact qL (qK _)|(refine qM (qE ?_);(try simp only [qV]at *);simp only [zQ,zA,zB,zC,zD,zE,zF,zG,zH,zI,zJ,zK,zL,zM,zN,zO,zP,zR,zS]at *;omega)|(refine qL (qJ ?_);(repeat' (first|exact qA|exact qB|refine qC ?_ rfl ?_|refine qD ?_ ?_|exact qE (by rfl)|exact qF (by rfl)|exact Fit.refl _|exact qG _|(refine qE ?_;(try simp only [qV]at *);simp only [zQ,zA,zB,zC,zD,zE,zF,zG,zH,zI,zJ,zK,zL,zM,zN,zO,zP,zR,zS]at *;omega)));done)|skip))|skip
theorem us6 (d:Dsp)(h:¬uam d=0):ua0 Tryz.prog 11 [(ub0 d)] [] (fun r _=>r=(.tup [(iv fun _=>urv d),(iv fun _=>uru d)])):=by
 have c59:=uiR d h
 refine ua0.is fun R hR=>qW (sc:=uAv) uai mix Tryz.func11 rfl Tryz.call11 (by kernel_rfl) (by kernel_rfl) ?_
 generalize Tryz.prog=P at c59⊢
 cbv
 repeat' (first|with_reducible refine And.intro ?_ ?_|(with_reducible intro hcd;(try simp only [zA,zB,zC,zD,zE,zF,zG,zH,zI,zJ,zK,zL,zM,zN,zO,zP]at hcd);try cbv)|(refine qP ?_ (c59) ?hfit;(case hfit=>((repeat' (first|exact qB|refine qD ?_ ?_|exact qE (by rfl)|exact qF (by rfl)|exact Fit.refl _|exact qA|refine qC ?_ rfl ?_));done));try cbv)|fail)
 all_goals first|trivial|(subst hR;((have h9:=ut0 h);exact qD (qE h9.2.symm) (qD (qE h9.1.symm) qB));done)|skip
theorem uvK (d:Dsp):ua0 Tryz.prog 11 [(ub0 d)] [] (fun r _=>r=(.tup [(iv fun _=>urv d),(iv fun _=>uru d)])):=by
 by_cases h:uam d=0
 ·exact urF d h
 ·exact us6 d h
theorem uqj (d:Dsp):ua0 Tryz.prog 84 [(wpS d)] [] (fun r _=>r=(iv fun _=>zi d.fs.length)):=by
 refine ua0.is fun R hR=>qW (sc:=uBc) uai mix Tryz.func84 rfl Tryz.call84 (by kernel_rfl) (by kernel_rfl) ?_
 generalize Tryz.prog=P
 cbv
 repeat' (first|fail)
 all_goals first|(subst hR;(repeat' (first|exact qA|exact qB|refine qC ?_ rfl ?_|refine qD ?_ ?_|exact qE (by rfl)|exact qF (by rfl)|exact Fit.refl _|exact qG _|(refine qE ?_;(try simp only [qV]at *);simp only [zQ,zA,zB,zC,zD,zE,zF,zG,zH,zI,zJ,zK,zL,zM,zN,zO,zP,zR,zS]at *;omega)));done)|skip
theorem uqW (d:Dsp)(o:List Int):ua0 Tryz.prog 85 [(wpS d),(iS o)] [] (fun r _=>r=(iS o)):=by
 refine ua0.is fun R hR=>qW (sc:=uCc) uai mix Tryz.func85 rfl Tryz.call85 (by kernel_rfl) (by kernel_rfl) ?_
 generalize Tryz.prog=P
 cbv
 repeat' (first|fail)
 all_goals first|(subst hR;(repeat' (first|exact qA|exact qB|refine qC ?_ rfl ?_|refine qD ?_ ?_|exact qE (by rfl)|exact qF (by rfl)|exact Fit.refl _|exact qG _|(refine qE ?_;(try simp only [qV]at *);simp only [zQ,zA,zB,zC,zD,zE,zF,zG,zH,zI,zJ,zK,zL,zM,zN,zO,zP,zR,zS]at *;omega)));done)|skip
theorem ujA (d:Dsp):ua0 Tryz.prog 86 [(wpS d)] [] (fun r _=>r=(iv fun _=>d.pn)):=by
 refine ua0.is fun R hR=>qW (sc:=uAW) uai mix Tryz.func86 rfl Tryz.call86 (by kernel_rfl) (by kernel_rfl) ?_
 generalize Tryz.prog=P
 cbv
 repeat' (first|fail)
 all_goals first|(subst hR;(repeat' (first|exact qA|exact qB|refine qC ?_ rfl ?_|refine qD ?_ ?_|exact qE (by rfl)|exact qF (by rfl)|exact Fit.refl _|exact qG _|(refine qE ?_;(try simp only [qV]at *);simp only [zQ,zA,zB,zC,zD,zE,zF,zG,zH,zI,zJ,zK,zL,zM,zN,zO,zP,zR,zS]at *;omega)));done)|skip
theorem usW :ua0 Tryz.prog 44 [] [] (fun r _=>r=(.agg [.clo 84 [] [],.clo 85 [] []])):=by
 refine ua0.is fun R hR=>qW (sc:=uB9) uai mix Tryz.func44 rfl Tryz.call44 (by kernel_rfl) (by kernel_rfl) ?_
 generalize Tryz.prog=P
 cbv
 repeat' (first|fail)
 all_goals first|(subst hR;(repeat' (first|exact qA|exact qB|refine qC ?_ rfl ?_|refine qD ?_ ?_|exact qE (by rfl)|exact qF (by rfl)|exact Fit.refl _|exact qG _|(refine qE ?_;(try simp only [qV]at *);simp only [zQ,zA,zB,zC,zD,zE,zF,zG,zH,zI,zJ,zK,zL,zM,zN,zO,zP,zR,zS]at *;omega)));done)|skip
theorem ugA :ua0 Tryz.prog 50 [] [] (fun r _=>r=(.agg [.clo 86 [] [],.clo 87 [] []])):=by
 refine ua0.is fun R hR=>qW (sc:=uB3) uai mix Tryz.func50 rfl Tryz.call50 (by kernel_rfl) (by kernel_rfl) ?_
 generalize Tryz.prog=P
 cbv
 repeat' (first|fail)
 all_goals first|(subst hR;(repeat' (first|exact qA|exact qB|refine qC ?_ rfl ?_|refine qD ?_ ?_|exact qE (by rfl)|exact qF (by rfl)|exact Fit.refl _|exact qG _|(refine qE ?_;(try simp only [qV]at *);simp only [zQ,zA,zB,zC,zD,zE,zF,zG,zH,zI,zJ,zK,zL,zM,zN,zO,zP,zR,zS]at *;omega)));done)|skip
def thN (d:Dsp)(o:List Int)(n:Nat):List Int:=ubZ (fun i=>inL o (d.fs.getD i f0T).p) n
theorem uwV {d:Dsp} {o:List Int} {i:Nat}(h:inL o (d.fs.getD i f0T).p=true):thN d o (i+1)=thN d o i++[(i:Int)]:=by
 unfold thN
 simp only [ubZ,h,if_true]
theorem uxt {d:Dsp} {o:List Int} {i:Nat}(h:inL o (d.fs.getD i f0T).p=false):thN d o (i+1)=thN d o i:=by
 unfold thN
 simp only [ubZ,h,Bool.false_eq_true,if_false]
theorem ukX (d:Dsp)(o:List Int):∀n,(thN d o n).length≤n:=by
 intro n
 induction n with
 |zero=>exact Nat.le_refl _
 | succ n ih=>
  cases h:inL o (d.fs.getD n f0T).p with
  |true=>rw [uwV h,List.length_append];simp only [List.length_cons,List.length_nil];omega
  |false=>rw [uxt h];omega
theorem umO (d:Dsp)(o:List Int)(hf:d.fs.length≤1000)(ho:o.length≤1000):ua0 Tryz.prog 87 [(wpS d),(iS o)] [] (fun r _=>r=(iS ((thN d o d.fs.length)))):=by
 have c63:=fun (i:Nat)=>ufY o (d.fs.getD i f0T).p ho
 refine ua0.is fun R hR=>qW (sc:=uBb) uai mix Tryz.func87 rfl Tryz.call87 (by kernel_rfl) (by kernel_rfl) ?_
 generalize Tryz.prog=P at c63⊢
 cbv
 repeat' (first|fail)
 all_goals first|skip
 refine⟨none,[⟨.tmp 4,3,1⟩],{i:Nat // i≤d.fs.length},fun x=>⟨[(1,(iS o)),(4,.row 8),(11,(.sl 6 (.sym fun _=>zi (d.fs).length) (fun ix=>[(iv fun _=>((d.fs).getD ix.den.toNat f0T).p),(iv fun _=>((d.fs).getD ix.den.toNat f0T).s),(iv fun _=>((d.fs).getD ix.den.toNat f0T).wl),(iv fun _=>((d.fs).getD ix.den.toNat f0T).wh),(iv fun _=>((d.fs).getD ix.den.toNat f0T).ml),(iv fun _=>((d.fs).getD ix.den.toNat f0T).mh)]))),(12,(iv fun _=>zi d.fs.length)),(13,(iv fun _=>zi x.1))],[(8,.row 3 1 (.sym fun _=>zi ((thN d o (x.1))).length) (fun ix=>[(iv fun _=>((thN d o (x.1))).getD ix.den.toNat 0)]))],90⟩,fun x=>d.fs.length-x.1,?_,?_⟩
 ·refine⟨⟨0,by omega⟩,?_⟩
  cbv
  repeat' (first|with_reducible refine ua4 ?_ ?_|with_reducible refine And.intro ?_ ?_)
  all_goals first|trivial|exact qM (qE (by rfl))|exact qM (Fit.refl _)|(refine qL (uae ?_ ?_);(first|rfl|((try simp only [qV]at *);(try simp only [zQ,zA,zB,zC,zD,zE,zF,zG,zH,zI,zJ,zK,zL,zM,zN,zO,zP,zR,zS]at *);omega));intro ix h0 h1;exfalso;(try simp only [qV]at *);(try simp only [zQ,zA,zB,zC,zD,zE,zF,zG,zH,zI,zJ,zK,zL,zM,zN,zO,zP,zR,zS]at *);omega)|skip
 ·rintro ⟨i,hi⟩
  cbv
  have hlen:=ukX d o i
  have hY:inL o (d.fs.getD i f0T).p=true→thN d o (i+1)=thN d o i++[zi i]:=uwV
  have hZ:inL o (d.fs.getD i f0T).p=false→thN d o (i+1)=thN d o i:=uxt
  obtain⟨M,hM⟩:∃M,M=thN d o i:=⟨_,rfl⟩
  rw [←hM]at hlen hY hZ⊢
  cbv
  repeat' (first
   |with_reducible refine ua4 ?_ ?_
   |with_reducible refine And.intro ?_ ?_
   |(with_reducible intro hcd;(try simp only [zA,zB,zC,zD,zE,zF,zG,zH,zI,zJ,zK,zL,zM,zN,zO,zP]at hcd);try cbv)
   |(refine qP ?_ (c63 i) ?hfit;(case hfit=>((repeat' (first|exact qB|refine qD ?_ ?_|exact qE (by rfl)|exact qF (by rfl)|exact Fit.refl _|exact qA|refine qC ?_ rfl ?_));done));try cbv)
   | (obtain⟨L2,eL2⟩:∃y:List Int,y=M++[zi i]:=⟨_,rfl⟩
      refine⟨ueB L2,?_⟩
      cbv
      refine ua4 (uaq (L:=M) eL2 (by(first|rfl|((try simp only [qV]at *);(try simp only [zQ,zA,zB,zC,zD,zE,zF,zG,zH,zI,zJ,zK,zL,zM,zN,zO,zP,zR,zS]at *);done)|((try simp only [qV]at *);(try simp only [zQ,zA,zB,zC,zD,zE,zF,zG,zH,zI,zJ,zK,zL,zM,zN,zO,zP,zR,zS]at *);omega))) (by rfl) (fun ix=>Fit.refl _) (fun ix h=>qC (qE (by rfl)) rfl qA) (by(try simp only [qV]at *);(try simp only [zQ,zA,zB,zC,zD,zE,zF,zG,zH,zI,zJ,zK,zL,zM,zN,zO,zP,zR,zS]at *);omega)) (Or.inl ?_)
      try cbv)
   |fail)
  all_goals first|((try simp only [qV]at *);(try simp only [zQ,zA,zB,zC,zD,zE,zF,zG,zH,zI,zJ,zK,zL,zM,zN,zO,zP,zR,zS]at *);first|(refine qN ?_;omega)|(simp only [uaj];omega))|((have hie:i=d.fs.length:=(by((try simp only [qV]at *);(try simp only [zQ,zA,zB,zC,zD,zE,zF,zG,zH,zI,zJ,zK,zL,zM,zN,zO,zP,zR,zS]at *);omega)));subst hR;rw [←hie,←hM];exact Fit.refl _)|((try simp only [zQ,zA,zB,zC,zD,zE,zF,zG,zH,zI,zJ,zK,zL,zM,zN,zO,zP,zR,zS]at *);(have hx:thN d o (i+1)=L2:=(hY hcd).trans eL2.symm);refine⟨⟨i+1,by omega⟩,by simp only [];omega,?_⟩;cbv;(repeat' (first|with_reducible refine ua4 ?_ ?_|with_reducible refine And.intro ?_ ?_));(all_goals first|trivial|exact qM (qE (by rfl))|exact qM (qF (by rfl))|exact qM (Fit.refl _)|exact qL (qK _)|(refine qM (qE ?_);(try simp only [qV]at *);simp only [zQ,zA,zB,zC,zD,zE,zF,zG,zH,zI,zJ,zK,zL,zM,zN,zO,zP,zR,zS]at *;omega)|(simp only [hx];first|exact qL (qK _)|(refine qL (uae ?_ ?_)<;>first|rfl|(rw [eL2,List.length_append];rfl)|((try simp only [qV]at *);(try simp only [zQ,zA,zB,zC,zD,zE,zF,zG,zH,zI,zJ,zK,zL,zM,zN,zO,zP,zR,zS]at *);(try simp only [eL2,List.length_append,List.length_cons,List.length_nil]at *);omega)|(intro ix h0 h1;exact Fit.refl _)))|skip))|((try simp only [zQ,zA,zB,zC,zD,zE,zF,zG,zH,zI,zJ,zK,zL,zM,zN,zO,zP,zR,zS]at *);(have hx:thN d o (i+1)=M:=hZ hcd);refine⟨⟨i+1,by omega⟩,by simp only [];omega,?_⟩;cbv;(repeat' (first|with_reducible refine ua4 ?_ ?_|with_reducible refine And.intro ?_ ?_));(all_goals first|trivial|exact qM (qE (by rfl))|exact qM (qF (by rfl))|exact qM (Fit.refl _)|exact qL (qK _)|(refine qM (qE ?_);(try simp only [qV]at *);simp only [zQ,zA,zB,zC,zD,zE,zF,zG,zH,zI,zJ,zK,zL,zM,zN,zO,zP,zR,zS]at *;omega)|(simp only [hx];first|exact qL (qK _)|(refine qL (uae ?_ ?_)<;>first|rfl|(rw [eL2,List.length_append];rfl)|((try simp only [qV]at *);(try simp only [zQ,zA,zB,zC,zD,zE,zF,zG,zH,zI,zJ,zK,zL,zM,zN,zO,zP,zR,zS]at *);(try simp only [eL2,List.length_append,List.length_cons,List.length_nil]at *);omega)|(intro ix h0 h1;exact Fit.refl _)))|skip))|skip
end Go.Proofs.YtkdggbfknlcdaaaGreat
namespace Go.Proofs.YtkdggbfknlcdaaaGreat
open Go Go.Eng Go.Eng.Dif Go.Eng.Few
def uup (F:List (List Int)):IX→List SV:=fun ix=>[.sl 1 (.sym fun _=>zi (F.getD ix.den.toNat []).length) (fun jx=>[(iv fun _=>(F.getD ix.den.toNat []).getD jx.den.toNat 0)])]
def uAD (o:List Int):SV:=.sl 1 (.sym fun _=>zi o.length) (fun jx=>[(iv fun _=>o.getD jx.den.toNat 0)])
theorem ukZ {F:List (List Int)} {ix:IX} {o:List Int}(h:F.getD ix.den.toNat []=o):uup F ix=[uAD o]:=by
 subst h
 rfl
theorem ucC {n m b:Int} {F F2:List (List Int)} {o:List Int} {e new:IX→List SV}(h2:F2=F++[o])(hn:n=(F.length:Int))(hm:m=1)(he:∀ix,Fit (.agg (e ix)) (.agg (uup F ix)))(hx:∀ix:IX,Fit (.agg (new ix)) (.agg [uAD o]))(hb:(n+1)*b≤140737488355328):
 uaj (udT n e m new (uup F2)∧0≤n∧0≤m∧(n+m)*b≤140737488355328):=by
 subst hm
 subst h2
 refine ub9 (fun ix jx h0 h1 h2=>(he ix).trans ?_) (fun ix jx h0 h1 h2=>(hx ix).trans ?_) ⟨by omega,by omega,hb⟩
 ·rw [ukZ (F:=F) rfl,ukZ (F:=F++[o]) (o:=F.getD ix.den.toNat []) (by
   rw [h2]
   simp only [List.getD_eq_getElem?_getD]
   rw [List.getElem?_append_left (by omega)])]
  exact Fit.refl _
 ·rw [ukZ (F:=F++[o]) (o:=o) (by
   rw [show jx.den.toNat=F.length by omega]
   simp [List.getD_eq_getElem?_getD])]
  exact Fit.refl _
def ueS (n:Nat)(ok:List Int→Bool)(m:Nat)(o:List Int)(i:Nat):Nat→List (List Int)
 |0=>[]
 |k+1=>ueS n ok m o i k++ubT n ok m (o++[((i+k:Nat):Int)]) (i+k+1)
theorem uj3 {n:Nat} {ok:List Int→Bool} {m:Nat} {o:List Int} {i:Nat}:ubT n ok (m+1) o i=ueS n ok m o i (n-m-i):=by
 have h:∀k,((List.range k).flatMap fun j=>ubT n ok m (o++[((i+j:Nat):Int)]) (i+j+1))=ueS n ok m o i k:=by
  intro k
  induction k with
  |zero=>rfl
  |succ k ih=>rw [List.range_succ,List.flatMap_append,ih];simp [ueS]
 simp only [ubT]
 exact h _
theorem uud {n:Nat} {ok:List Int→Bool} {m:Nat} {o:List Int} {i:Nat}:∀{k k':Nat},k≤k'→(ueS n ok m o i k).length≤(ueS n ok m o i k').length:=by
 intro k k'
 induction k' with
 |zero=>intro h;rw [show k=0 by omega];exact Nat.le_refl _
 | succ k' ih=>
  intro h
  rcases Nat.lt_or_ge k' k with q|q
  ·rw [show k=k'+1 by omega];exact Nat.le_refl _
  ·have:=ih q
   simp only [ueS,List.length_append];omega
theorem unf {n:Nat} {ok:List Int→Bool}:∀{m:Nat} {o:List Int} {i:Nat},(ubT n ok m o i).length≤n^m:=by
 intro m
 induction m with
 | zero=>
  intro o i
  simp only [ubT]
  split<;>simp
 | succ m ih=>
  intro o i
  rw [uj3]
  have h:∀k,(ueS n ok m o i k).length≤k*n^m:=by
   intro k
   induction k with
   |zero=>simp [ueS]
   | succ k ik=>
    have:=ih (o:=o++[((i+k:Nat):Int)]) (i:=i+k+1)
    simp only [ueS,List.length_append,Nat.add_mul,Nat.one_mul];omega
  refine Nat.le_trans (h _) ?_
  rw [Nat.pow_succ,Nat.mul_comm]
  exact Nat.mul_le_mul_left _ (by omega)
theorem unn {F G:List (List Int)} {n:Nat} {ok:List Int→Bool} {m:Nat} {o L:List Int} {i k:Nat}(hL:L=o++[((i+k:Nat):Int)])(hG:G=F++ueS n ok m o i k):F++ueS n ok m o i (k+1)=G++ubT n ok m L (i+k+1):=by
 subst hL
 subst hG
 rw [ueS,List.append_assoc]
def udw (d:Dsp)(o:List Int):Bool:=ud3 d d.fs o
def uc8 (d:Dsp)(o:List Int):Bool:=ud3 d d.fs (thN d o d.fs.length)
end Go.Proofs.YtkdggbfknlcdaaaGreat
namespace Go.Proofs.YtkdggbfknlcdaaaGreat
open Go Go.Eng Go.Proofs Go.Eng.Dif Go.Eng.Few
set_option maxRecDepth 10000
theorem uwG (d:Dsp)(F:List (List Int))(o:List Int)(i:Int)(hd:DOk d)(ho:o.length≤100)(hF:F.length≤1000000)(hok:(udw d) o=true):ua0 Tryz.prog 88 [(iS o),(iv fun _=>i),(iv fun _=>0),.own 0 0,.own 1 0,.own 2 0,.own 3 0] [.cells [(wpS d)] 87,.cells [.clo 84 [] [],.clo 85 [] []] 110,.cells [.row 4] 23,.cells [.clo 88 [] [.own 0 0,.own 1 0,.own 2 0,.own 3 0]] 144,.row 22 1 (.sym fun _=>zi (F).length) (fun ix=>[.sl 1 (.sym fun _=>zi ((F).getD ix.den.toNat []).length) (fun jx=>[(iv fun _=>((F).getD ix.den.toNat []).getD jx.den.toNat 0)])])] (fun r bs=>r = .tup []∧bs=[.cells [(wpS d)] 87,.cells [.clo 84 [] [],.clo 85 [] []] 110,.cells [.row 4] 23,.cells [.clo 88 [] [.own 0 0,.own 1 0,.own 2 0,.own 3 0]] 144,.row 22 1 (.sym fun _=>zi ((F++[o])).length) (fun ix=>[.sl 1 (.sym fun _=>zi (((F++[o])).getD ix.den.toNat []).length) (fun jx=>[(iv fun _=>(((F++[o])).getD ix.den.toNat []).getD jx.den.toNat 0)])])]):=by
 have c89:=uqW d o
 have hl:o.length≤1000:=by omega
 have c54:=uby d o hd hl
 rw [show ud3 d d.fs o=true from hok]at c54
 refine ua0.isB rfl fun R B hR hB=>qW (sc:=uwn) uai mix Tryz.func88 rfl Tryz.call88 (by kernel_rfl) (by kernel_rfl) ?_
 generalize Tryz.prog=P at c89 c54⊢
 cbv
 repeat' (first
  |with_reducible refine And.intro ?_ ?_
  |(with_reducible intro hcd;(try simp only [zA,zB,zC,zD,zE,zF,zG,zH,zI,zJ,zK,zL,zM,zN,zO,zP]at hcd);try cbv)
  |(refine qP ?_ (c89) ?hfit;(case hfit=>((repeat' (first|exact qB|refine qD ?_ ?_|exact qE (by rfl)|exact qF (by rfl)|exact Fit.refl _|exact qA|refine qC ?_ rfl ?_));done));try cbv)
  |(refine qP ?_ (c54) ?hfit;(case hfit=>((repeat' (first|exact qB|refine qD ?_ ?_|exact qE (by rfl)|exact qF (by rfl)|exact Fit.refl _|exact qA|refine qC ?_ rfl ?_));done));try cbv)
  | (obtain⟨F2,eF2⟩:∃y:List (List Int),y=F++[o]:=⟨_,rfl⟩
     refine⟨uup F2,?_⟩
     cbv
     refine ua4 (ucC (F:=F) (o:=o) eF2 (by first|rfl|((try simp only [qV]at *);(try simp only [zQ,zA,zB,zC,zD,zE,zF,zG,zH,zI,zJ,zK,zL,zM,zN,zO,zP,zR,zS]at *);omega)) rfl (fun ix=>Fit.refl _) (fun ix=>Fit.refl _) (by(try simp only [qV]at *);(try simp only [zQ,zA,zB,zC,zD,zE,zF,zG,zH,zI,zJ,zK,zL,zM,zN,zO,zP,zR,zS]at *);omega)) (Or.inl ?_)
     try cbv)
  |fail)
 all_goals first|trivial|(subst hR;exact Fit.refl _;done)|(rw [←eF2]at hB;subst hB;refine qI (qK _) (qI (qK _) (qI (qK _) (qI (qK _) (qI (uae ?_ (fun ix h0 h1=>Fit.refl _)) qH))));(try simp only [qV]at *);(try simp only [zQ,zA,zB,zC,zD,zE,zF,zG,zH,zI,zJ,zK,zL,zM,zN,zO,zP,zR,zS]at *);simp only [eF2,List.length_append,List.length_cons,List.length_nil];omega)|skip
theorem uwz (d:Dsp)(F:List (List Int))(o:List Int)(i:Int)(hd:DOk d)(ho:o.length≤100)(hF:F.length≤1000000)(hok:(udw d) o=false):ua0 Tryz.prog 88 [(iS o),(iv fun _=>i),(iv fun _=>0),.own 0 0,.own 1 0,.own 2 0,.own 3 0] [.cells [(wpS d)] 87,.cells [.clo 84 [] [],.clo 85 [] []] 110,.cells [.row 4] 23,.cells [.clo 88 [] [.own 0 0,.own 1 0,.own 2 0,.own 3 0]] 144,.row 22 1 (.sym fun _=>zi (F).length) (fun ix=>[.sl 1 (.sym fun _=>zi ((F).getD ix.den.toNat []).length) (fun jx=>[(iv fun _=>((F).getD ix.den.toNat []).getD jx.den.toNat 0)])])] (fun r bs=>r = .tup []∧bs=[.cells [(wpS d)] 87,.cells [.clo 84 [] [],.clo 85 [] []] 110,.cells [.row 4] 23,.cells [.clo 88 [] [.own 0 0,.own 1 0,.own 2 0,.own 3 0]] 144,.row 22 1 (.sym fun _=>zi (F).length) (fun ix=>[.sl 1 (.sym fun _=>zi ((F).getD ix.den.toNat []).length) (fun jx=>[(iv fun _=>((F).getD ix.den.toNat []).getD jx.den.toNat 0)])])]):=by
 have c89:=uqW d o
 have hl:o.length≤1000:=by omega
 have c54:=uby d o hd hl
 rw [show ud3 d d.fs o=false from hok]at c54
 refine ua0.isB rfl fun R B hR hB=>qW (sc:=uwn) uai mix Tryz.func88 rfl Tryz.call88 (by kernel_rfl) (by kernel_rfl) ?_
 generalize Tryz.prog=P at c89 c54⊢
 cbv
 repeat' (first
  |with_reducible refine And.intro ?_ ?_
  |(with_reducible intro hcd;(try simp only [zA,zB,zC,zD,zE,zF,zG,zH,zI,zJ,zK,zL,zM,zN,zO,zP]at hcd);try cbv)
  |(refine qP ?_ (c89) ?hfit;(case hfit=>((repeat' (first|exact qB|refine qD ?_ ?_|exact qE (by rfl)|exact qF (by rfl)|exact Fit.refl _|exact qA|refine qC ?_ rfl ?_));done));try cbv)
  |(refine qP ?_ (c54) ?hfit;(case hfit=>((repeat' (first|exact qB|refine qD ?_ ?_|exact qE (by rfl)|exact qF (by rfl)|exact Fit.refl _|exact qA|refine qC ?_ rfl ?_));done));try cbv)
  | (obtain⟨F2,eF2⟩:∃y:List (List Int),y=F++[o]:=⟨_,rfl⟩
     refine⟨uup F2,?_⟩
     cbv
     refine ua4 (ucC (F:=F) (o:=o) eF2 (by first|rfl|((try simp only [qV]at *);(try simp only [zQ,zA,zB,zC,zD,zE,zF,zG,zH,zI,zJ,zK,zL,zM,zN,zO,zP,zR,zS]at *);omega)) rfl (fun ix=>Fit.refl _) (fun ix=>Fit.refl _) (by(try simp only [qV]at *);(try simp only [zQ,zA,zB,zC,zD,zE,zF,zG,zH,zI,zJ,zK,zL,zM,zN,zO,zP,zR,zS]at *);omega)) (Or.inl ?_)
     try cbv)
  |fail)
 all_goals first|trivial|(subst hR;exact Fit.refl _;done)|(subst hB;(repeat' (first|exact qH|refine qI ?_ ?_|exact qK _|refine qJ ?_|exact qA|exact qE (by rfl)|exact qF (by rfl)|exact Fit.refl _|exact qG _|refine qC ?_ rfl ?_));done)|skip
theorem uxK (d:Dsp)(F:List (List Int))(o:List Int)(i:Int)(hd:DOk d)(ho:o.length≤100)(hF:F.length≤1000000)(hok:(uc8 d) o=true):ua0 Tryz.prog 88 [(iS o),(iv fun _=>i),(iv fun _=>0),.own 0 0,.own 1 0,.own 2 0,.own 3 0] [.cells [(wpS d)] 87,.cells [.clo 86 [] [],.clo 87 [] []] 110,.cells [.row 4] 23,.cells [.clo 88 [] [.own 0 0,.own 1 0,.own 2 0,.own 3 0]] 144,.row 22 1 (.sym fun _=>zi (F).length) (fun ix=>[.sl 1 (.sym fun _=>zi ((F).getD ix.den.toNat []).length) (fun jx=>[(iv fun _=>((F).getD ix.den.toNat []).getD jx.den.toNat 0)])])] (fun r bs=>r = .tup []∧bs=[.cells [(wpS d)] 87,.cells [.clo 86 [] [],.clo 87 [] []] 110,.cells [.row 4] 23,.cells [.clo 88 [] [.own 0 0,.own 1 0,.own 2 0,.own 3 0]] 144,.row 22 1 (.sym fun _=>zi ((F++[o])).length) (fun ix=>[.sl 1 (.sym fun _=>zi (((F++[o])).getD ix.den.toNat []).length) (fun jx=>[(iv fun _=>(((F++[o])).getD ix.den.toNat []).getD jx.den.toNat 0)])])]):=by
 have c91:=umO d o (by have:=hd.f6;omega) (by omega)
 have hl:(thN d o d.fs.length).length≤1000:=by have h1:=ukX d o d.fs.length;have h2:=hd.f6;omega
 have c54:=uby d (thN d o d.fs.length) hd hl
 rw [show ud3 d d.fs (thN d o d.fs.length)=true from hok]at c54
 refine ua0.isB rfl fun R B hR hB=>qW (sc:=uwn) uai mix Tryz.func88 rfl Tryz.call88 (by kernel_rfl) (by kernel_rfl) ?_
 generalize Tryz.prog=P at c91 c54⊢
 cbv
 repeat' (first
  |with_reducible refine And.intro ?_ ?_
  |(with_reducible intro hcd;(try simp only [zA,zB,zC,zD,zE,zF,zG,zH,zI,zJ,zK,zL,zM,zN,zO,zP]at hcd);try cbv)
  |(refine qP ?_ (c91) ?hfit;(case hfit=>((repeat' (first|exact qB|refine qD ?_ ?_|exact qE (by rfl)|exact qF (by rfl)|exact Fit.refl _|exact qA|refine qC ?_ rfl ?_));done));try cbv)
  |(refine qP ?_ (c54) ?hfit;(case hfit=>((repeat' (first|exact qB|refine qD ?_ ?_|exact qE (by rfl)|exact qF (by rfl)|exact Fit.refl _|exact qA|refine qC ?_ rfl ?_));done));try cbv)
  | (obtain⟨F2,eF2⟩:∃y:List (List Int),y=F++[o]:=⟨_,rfl⟩
     refine⟨uup F2,?_⟩
     cbv
     refine ua4 (ucC (F:=F) (o:=o) eF2 (by first|rfl|((try simp only [qV]at *);(try simp only [zQ,zA,zB,zC,zD,zE,zF,zG,zH,zI,zJ,zK,zL,zM,zN,zO,zP,zR,zS]at *);omega)) rfl (fun ix=>Fit.refl _) (fun ix=>Fit.refl _) (by(try simp only [qV]at *);(try simp only [zQ,zA,zB,zC,zD,zE,zF,zG,zH,zI,zJ,zK,zL,zM,zN,zO,zP,zR,zS]at *);omega)) (Or.inl ?_)
     try cbv)
  |fail)
 all_goals first|trivial|(subst hR;exact Fit.refl _;done)|(rw [←eF2]at hB;subst hB;refine qI (qK _) (qI (qK _) (qI (qK _) (qI (qK _) (qI (uae ?_ (fun ix h0 h1=>Fit.refl _)) qH))));(try simp only [qV]at *);(try simp only [zQ,zA,zB,zC,zD,zE,zF,zG,zH,zI,zJ,zK,zL,zM,zN,zO,zP,zR,zS]at *);simp only [eF2,List.length_append,List.length_cons,List.length_nil];omega)|skip
theorem uxr (d:Dsp)(F:List (List Int))(o:List Int)(i:Int)(hd:DOk d)(ho:o.length≤100)(hF:F.length≤1000000)(hok:(uc8 d) o=false):ua0 Tryz.prog 88 [(iS o),(iv fun _=>i),(iv fun _=>0),.own 0 0,.own 1 0,.own 2 0,.own 3 0] [.cells [(wpS d)] 87,.cells [.clo 86 [] [],.clo 87 [] []] 110,.cells [.row 4] 23,.cells [.clo 88 [] [.own 0 0,.own 1 0,.own 2 0,.own 3 0]] 144,.row 22 1 (.sym fun _=>zi (F).length) (fun ix=>[.sl 1 (.sym fun _=>zi ((F).getD ix.den.toNat []).length) (fun jx=>[(iv fun _=>((F).getD ix.den.toNat []).getD jx.den.toNat 0)])])] (fun r bs=>r = .tup []∧bs=[.cells [(wpS d)] 87,.cells [.clo 86 [] [],.clo 87 [] []] 110,.cells [.row 4] 23,.cells [.clo 88 [] [.own 0 0,.own 1 0,.own 2 0,.own 3 0]] 144,.row 22 1 (.sym fun _=>zi (F).length) (fun ix=>[.sl 1 (.sym fun _=>zi ((F).getD ix.den.toNat []).length) (fun jx=>[(iv fun _=>((F).getD ix.den.toNat []).getD jx.den.toNat 0)])])]):=by
 have c91:=umO d o (by have:=hd.f6;omega) (by omega)
 have hl:(thN d o d.fs.length).length≤1000:=by have h1:=ukX d o d.fs.length;have h2:=hd.f6;omega
 have c54:=uby d (thN d o d.fs.length) hd hl
 rw [show ud3 d d.fs (thN d o d.fs.length)=false from hok]at c54
 refine ua0.isB rfl fun R B hR hB=>qW (sc:=uwn) uai mix Tryz.func88 rfl Tryz.call88 (by kernel_rfl) (by kernel_rfl) ?_
 generalize Tryz.prog=P at c91 c54⊢
 cbv
 repeat' (first
  |with_reducible refine And.intro ?_ ?_
  |(with_reducible intro hcd;(try simp only [zA,zB,zC,zD,zE,zF,zG,zH,zI,zJ,zK,zL,zM,zN,zO,zP]at hcd);try cbv)
  |(refine qP ?_ (c91) ?hfit;(case hfit=>((repeat' (first|exact qB|refine qD ?_ ?_|exact qE (by rfl)|exact qF (by rfl)|exact Fit.refl _|exact qA|refine qC ?_ rfl ?_));done));try cbv)
  |(refine qP ?_ (c54) ?hfit;(case hfit=>((repeat' (first|exact qB|refine qD ?_ ?_|exact qE (by rfl)|exact qF (by rfl)|exact Fit.refl _|exact qA|refine qC ?_ rfl ?_));done));try cbv)
  | (obtain⟨F2,eF2⟩:∃y:List (List Int),y=F++[o]:=⟨_,rfl⟩
     refine⟨uup F2,?_⟩
     cbv
     refine ua4 (ucC (F:=F) (o:=o) eF2 (by first|rfl|((try simp only [qV]at *);(try simp only [zQ,zA,zB,zC,zD,zE,zF,zG,zH,zI,zJ,zK,zL,zM,zN,zO,zP,zR,zS]at *);omega)) rfl (fun ix=>Fit.refl _) (fun ix=>Fit.refl _) (by(try simp only [qV]at *);(try simp only [zQ,zA,zB,zC,zD,zE,zF,zG,zH,zI,zJ,zK,zL,zM,zN,zO,zP,zR,zS]at *);omega)) (Or.inl ?_)
     try cbv)
  |fail)
 all_goals first|trivial|(subst hR;exact Fit.refl _;done)|(subst hB;(repeat' (first|exact qH|refine qI ?_ ?_|exact qK _|refine qJ ?_|exact qA|exact qE (by rfl)|exact qF (by rfl)|exact Fit.refl _|exact qG _|refine qC ?_ rfl ?_));done)|skip
set_option maxHeartbeats 2000000 in
theorem uzk (d:Dsp)(F:List (List Int))(o:List Int)(i m M:Nat)(hd:DOk d)(ho:o.length≤100)(hM:M=m+1)(hi:i+M≤d.fs.length)(ih:∀k:Nat,k<d.fs.length-m-i→∀(G:List (List Int)) (L:List Int),G=(F++ueS d.fs.length (udw d) m o i k)→L=o++[((i+k:Nat):Int)]→ua0 Tryz.prog 88 [(iS L),(iv fun _=>zi (i+k)+1),(iv fun _=>zi M-1),.own 0 0,.own 1 0,.own 2 0,.own 3 0] [.cells [(wpS d)] 87,.cells [.clo 84 [] [],.clo 85 [] []] 110,.cells [.row 4] 23,.cells [.clo 88 [] [.own 0 0,.own 1 0,.own 2 0,.own 3 0]] 144,.row 22 1 (.sym fun _=>zi (G).length) (fun ix=>[.sl 1 (.sym fun _=>zi ((G).getD ix.den.toNat []).length) (fun jx=>[(iv fun _=>((G).getD ix.den.toNat []).getD jx.den.toNat 0)])])] (fun r bs=>r = .tup []∧bs=[.cells [(wpS d)] 87,.cells [.clo 84 [] [],.clo 85 [] []] 110,.cells [.row 4] 23,.cells [.clo 88 [] [.own 0 0,.own 1 0,.own 2 0,.own 3 0]] 144,.row 22 1 (.sym fun _=>zi ((G++ubT d.fs.length (udw d) m L (i+k+1))).length) (fun ix=>[.sl 1 (.sym fun _=>zi (((G++ubT d.fs.length (udw d) m L (i+k+1))).getD ix.den.toNat []).length) (fun jx=>[(iv fun _=>(((G++ubT d.fs.length (udw d) m L (i+k+1))).getD ix.den.toNat []).getD jx.den.toNat 0)])])])):ua0 Tryz.prog 88 [(iS o),(iv fun _=>zi i),(iv fun _=>zi M),.own 0 0,.own 1 0,.own 2 0,.own 3 0] [.cells [(wpS d)] 87,.cells [.clo 84 [] [],.clo 85 [] []] 110,.cells [.row 4] 23,.cells [.clo 88 [] [.own 0 0,.own 1 0,.own 2 0,.own 3 0]] 144,.row 22 1 (.sym fun _=>zi (F).length) (fun ix=>[.sl 1 (.sym fun _=>zi ((F).getD ix.den.toNat []).length) (fun jx=>[(iv fun _=>((F).getD ix.den.toNat []).getD jx.den.toNat 0)])])] (fun r bs=>r = .tup []∧bs=[.cells [(wpS d)] 87,.cells [.clo 84 [] [],.clo 85 [] []] 110,.cells [.row 4] 23,.cells [.clo 88 [] [.own 0 0,.own 1 0,.own 2 0,.own 3 0]] 144,.row 22 1 (.sym fun _=>zi ((F++ueS d.fs.length (udw d) m o i (d.fs.length-m-i))).length) (fun ix=>[.sl 1 (.sym fun _=>zi (((F++ueS d.fs.length (udw d) m o i (d.fs.length-m-i))).getD ix.den.toNat []).length) (fun jx=>[(iv fun _=>(((F++ueS d.fs.length (udw d) m o i (d.fs.length-m-i))).getD ix.den.toNat []).getD jx.den.toNat 0)])])]):=by
 have c88:=uqj d
 have c94:=uqs o (by omega)
 refine ua0.isB rfl fun R B hR hB=>qW (sc:=uwn) uai mix Tryz.func88 rfl Tryz.call88 (by kernel_rfl) (by kernel_rfl) ?_
 generalize Tryz.prog=P at c88 c94 ih⊢
 cbv
 have s3:=hd.p4
 have f6:=hd.f6
 have p1:=hd.p1
 repeat' (first|with_reducible refine And.intro ?_ ?_|(with_reducible intro hcd;(try simp only [zA,zB,zC,zD,zE,zF,zG,zH,zI,zJ,zK,zL,zM,zN,zO,zP]at hcd);try cbv)|fail)
 all_goals first|(exfalso;(try simp only [qV]at *);(try simp only [zQ,zA,zB,zC,zD,zE,zF,zG,zH,zI,zJ,zK,zL,zM,zN,zO,zP,zR,zS]at *);omega)|skip
 refine⟨none,[],{k:Nat // k≤d.fs.length-m-i},fun x=>⟨[(0,(iS o)),(2,(iv fun _=>zi M)),(3,.own 0 0),(4,.own 1 0),(5,.own 2 0),(6,.own 3 0),(12,(iv fun _=>zi (i+x.1)))],[(0,.cells [(wpS d)] 87),(1,.cells [.clo 84 [] [],.clo 85 [] []] 110),(2,.cells [.row 4] 23),(3,.cells [.clo 88 [] [.own 0 0,.own 1 0,.own 2 0,.own 3 0]] 144),(4,.row 22 1 (.sym fun _=>zi ((F++ueS d.fs.length (udw d) m o i x.1)).length) (fun ix=>[.sl 1 (.sym fun _=>zi (((F++ueS d.fs.length (udw d) m o i x.1)).getD ix.den.toNat []).length) (fun jx=>[(iv fun _=>(((F++ueS d.fs.length (udw d) m o i x.1)).getD ix.den.toNat []).getD jx.den.toNat 0)])]))],60⟩,fun x=>d.fs.length-m-i-x.1,?_,?_⟩
 ·refine⟨⟨0,by omega⟩,?_⟩
  cbv
  repeat' (first|with_reducible refine ua4 ?_ ?_|with_reducible refine And.intro ?_ ?_)
  all_goals first|trivial|exact qM (qE (by rfl))|exact qM (Fit.refl _)|exact qL (qK _)|(simp only [ueS,List.append_nil];exact qL (qK _))|skip
 ·rintro ⟨k,hk⟩
  cbv
  obtain⟨G,hG⟩:∃G,G=(F++ueS d.fs.length (udw d) m o i k):=⟨_,rfl⟩
  rw [←hG]
  cbv
  repeat' (first
   |with_reducible refine ua4 ?_ ?_
   |with_reducible refine And.intro ?_ ?_
   |(with_reducible intro hcd;(try simp only [zA,zB,zC,zD,zE,zF,zG,zH,zI,zJ,zK,zL,zM,zN,zO,zP]at hcd);try cbv)
   |(refine qP ?_ (c88) ?hfit;(case hfit=>((repeat' (first|exact qB|refine qD ?_ ?_|exact qE (by rfl)|exact qF (by rfl)|exact Fit.refl _|exact qA|refine qC ?_ rfl ?_));done));try cbv)
   | (refine Or.inr ⟨true,?_⟩
      cbv
      refine qU ?_ (c94) (by cbv;(repeat' (first|exact qB|refine qD ?_ ?_|exact qE (by rfl)|exact qF (by rfl)|exact Fit.refl _|exact qA|refine qC ?_ rfl ?_))) (by cbv;(repeat' (first|exact qH|refine qI ?_ ?_|exact qK _|refine qJ ?_|exact qA|exact qE (by rfl)|exact qF (by rfl)|exact Fit.refl _|exact qG _|refine qC ?_ rfl ?_)))
      try cbv)
   | (obtain⟨L2,eL2⟩:∃y:List Int,y=o++[((i+k:Nat):Int)]:=⟨_,rfl⟩
      refine⟨ueB L2,?_⟩
      cbv
      refine ua4 (uaq (L:=o) eL2 (by(first|rfl|((try simp only [qV]at *);(try simp only [zQ,zA,zB,zC,zD,zE,zF,zG,zH,zI,zJ,zK,zL,zM,zN,zO,zP,zR,zS]at *);done)|((try simp only [qV]at *);(try simp only [zQ,zA,zB,zC,zD,zE,zF,zG,zH,zI,zJ,zK,zL,zM,zN,zO,zP,zR,zS]at *);omega))) (by rfl) (fun ix=>Fit.refl _) (fun ix h=>qC (qE (by rfl)) rfl qA) (by(try simp only [qV]at *);(try simp only [zQ,zA,zB,zC,zD,zE,zF,zG,zH,zI,zJ,zK,zL,zM,zN,zO,zP,zR,zS]at *);omega)) (Or.inr ⟨true,?_⟩)
      try cbv)
   | (refine⟨some [0,1,2,3,4],?_⟩
      cbv
      refine qQ ?_ (ih k (by((try simp only [qV]at *);(try simp only [zQ,zA,zB,zC,zD,zE,zF,zG,zH,zI,zJ,zK,zL,zM,zN,zO,zP,zR,zS]at *);omega)) G L2 hG eL2) ?hfit ?hbo
      case hfit=>(cbv;refine qD (ua1 (uu2 eL2) (fun _ _ _=>Fit.refl _)) ?_;(repeat' (first|exact qB|refine qD ?_ ?_|exact qE (by rfl)|exact qF (by rfl)|exact Fit.refl _|exact qA|refine qC ?_ rfl ?_));done)
      case hbo=>(cbv;(repeat' (first|exact qH|refine qI ?_ ?_|exact qK _|refine qJ ?_|exact qA|exact qE (by rfl)|exact qF (by rfl)|exact Fit.refl _|exact qG _|refine qC ?_ rfl ?_));done)
      try cbv)
   |fail)
  all_goals first|((try simp only [qV]at *);(try simp only [zQ,zA,zB,zC,zD,zE,zF,zG,zH,zI,zJ,zK,zL,zM,zN,zO,zP,zR,zS]at *);first|(refine qN ?_;omega)|(simp only [uaj];omega))|(subst hR;exact Fit.refl _;done)|((have hke:k=d.fs.length-m-i:=(by((try simp only [qV]at *);(try simp only [zQ,zA,zB,zC,zD,zE,zF,zG,zH,zI,zJ,zK,zL,zM,zN,zO,zP,zR,zS]at *);omega)));rw [hke]at hG;rw [←hG]at hB;subst hB;(repeat' (first|exact qH|refine qI ?_ ?_|exact qK _|refine qJ ?_|exact qA|exact qE (by rfl)|exact qF (by rfl)|exact Fit.refl _|exact qG _|refine qC ?_ rfl ?_));done)|((try simp only [zQ,zA,zB,zC,zD,zE,zF,zG,zH,zI,zJ,zK,zL,zM,zN,zO,zP,zR,zS]at *);(have hx:=unn eL2 hG);refine⟨⟨k+1,by((try simp only [qV]at *);(try simp only [zQ,zA,zB,zC,zD,zE,zF,zG,zH,zI,zJ,zK,zL,zM,zN,zO,zP,zR,zS]at *);omega)⟩,by simp only [];omega,?_⟩;cbv;(repeat' (first|with_reducible refine ua4 ?_ ?_|with_reducible refine And.intro ?_ ?_));(all_goals first|trivial|exact qM (qE (by rfl))|exact qM (qF (by rfl))|exact qM (Fit.refl _)|exact qL (qK _)|(refine qM (qE ?_);(try simp only [qV]at *);simp only [zQ,zA,zB,zC,zD,zE,zF,zG,zH,zI,zJ,zK,zL,zM,zN,zO,zP,zR,zS]at *;omega)|(refine qL (qJ ?_);(repeat' (first|exact qA|exact qB|refine qC ?_ rfl ?_|refine qD ?_ ?_|exact qE (by rfl)|exact qF (by rfl)|exact Fit.refl _|exact qG _|(refine qE ?_;(try simp only [qV]at *);simp only [zQ,zA,zB,zC,zD,zE,zF,zG,zH,zI,zJ,zK,zL,zM,zN,zO,zP,zR,zS]at *;omega)));done)|(simp only [hx];exact qL (qK _))|(refine qM (qE ?_);(try simp only [qV]at *);(try simp only [zQ,zA,zB,zC,zD,zE,zF,zG,zH,zI,zJ,zK,zL,zM,zN,zO,zP,zR,zS]at *);omega)|skip))|skip
set_option maxHeartbeats 2000000 in
theorem uyJ (d:Dsp)(F:List (List Int))(o:List Int)(i m M:Nat)(hd:DOk d)(ho:o.length≤100)(hM:M=m+1)(hi:i+M≤d.pn.toNat)(ih:∀k:Nat,k<d.pn.toNat-m-i→∀(G:List (List Int)) (L:List Int),G=(F++ueS d.pn.toNat (uc8 d) m o i k)→L=o++[((i+k:Nat):Int)]→ua0 Tryz.prog 88 [(iS L),(iv fun _=>zi (i+k)+1),(iv fun _=>zi M-1),.own 0 0,.own 1 0,.own 2 0,.own 3 0] [.cells [(wpS d)] 87,.cells [.clo 86 [] [],.clo 87 [] []] 110,.cells [.row 4] 23,.cells [.clo 88 [] [.own 0 0,.own 1 0,.own 2 0,.own 3 0]] 144,.row 22 1 (.sym fun _=>zi (G).length) (fun ix=>[.sl 1 (.sym fun _=>zi ((G).getD ix.den.toNat []).length) (fun jx=>[(iv fun _=>((G).getD ix.den.toNat []).getD jx.den.toNat 0)])])] (fun r bs=>r = .tup []∧bs=[.cells [(wpS d)] 87,.cells [.clo 86 [] [],.clo 87 [] []] 110,.cells [.row 4] 23,.cells [.clo 88 [] [.own 0 0,.own 1 0,.own 2 0,.own 3 0]] 144,.row 22 1 (.sym fun _=>zi ((G++ubT d.pn.toNat (uc8 d) m L (i+k+1))).length) (fun ix=>[.sl 1 (.sym fun _=>zi (((G++ubT d.pn.toNat (uc8 d) m L (i+k+1))).getD ix.den.toNat []).length) (fun jx=>[(iv fun _=>(((G++ubT d.pn.toNat (uc8 d) m L (i+k+1))).getD ix.den.toNat []).getD jx.den.toNat 0)])])])):ua0 Tryz.prog 88 [(iS o),(iv fun _=>zi i),(iv fun _=>zi M),.own 0 0,.own 1 0,.own 2 0,.own 3 0] [.cells [(wpS d)] 87,.cells [.clo 86 [] [],.clo 87 [] []] 110,.cells [.row 4] 23,.cells [.clo 88 [] [.own 0 0,.own 1 0,.own 2 0,.own 3 0]] 144,.row 22 1 (.sym fun _=>zi (F).length) (fun ix=>[.sl 1 (.sym fun _=>zi ((F).getD ix.den.toNat []).length) (fun jx=>[(iv fun _=>((F).getD ix.den.toNat []).getD jx.den.toNat 0)])])] (fun r bs=>r = .tup []∧bs=[.cells [(wpS d)] 87,.cells [.clo 86 [] [],.clo 87 [] []] 110,.cells [.row 4] 23,.cells [.clo 88 [] [.own 0 0,.own 1 0,.own 2 0,.own 3 0]] 144,.row 22 1 (.sym fun _=>zi ((F++ueS d.pn.toNat (uc8 d) m o i (d.pn.toNat-m-i))).length) (fun ix=>[.sl 1 (.sym fun _=>zi (((F++ueS d.pn.toNat (uc8 d) m o i (d.pn.toNat-m-i))).getD ix.den.toNat []).length) (fun jx=>[(iv fun _=>(((F++ueS d.pn.toNat (uc8 d) m o i (d.pn.toNat-m-i))).getD ix.den.toNat []).getD jx.den.toNat 0)])])]):=by
 have c90:=ujA d
 have c94:=uqs o (by omega)
 refine ua0.isB rfl fun R B hR hB=>qW (sc:=uwn) uai mix Tryz.func88 rfl Tryz.call88 (by kernel_rfl) (by kernel_rfl) ?_
 generalize Tryz.prog=P at c90 c94 ih⊢
 cbv
 have s3:=hd.p4
 have f6:=hd.f6
 have p1:=hd.p1
 repeat' (first|with_reducible refine And.intro ?_ ?_|(with_reducible intro hcd;(try simp only [zA,zB,zC,zD,zE,zF,zG,zH,zI,zJ,zK,zL,zM,zN,zO,zP]at hcd);try cbv)|fail)
 all_goals first|(exfalso;(try simp only [qV]at *);(try simp only [zQ,zA,zB,zC,zD,zE,zF,zG,zH,zI,zJ,zK,zL,zM,zN,zO,zP,zR,zS]at *);omega)|skip
 refine⟨none,[],{k:Nat // k≤d.pn.toNat-m-i},fun x=>⟨[(0,(iS o)),(2,(iv fun _=>zi M)),(3,.own 0 0),(4,.own 1 0),(5,.own 2 0),(6,.own 3 0),(12,(iv fun _=>zi (i+x.1)))],[(0,.cells [(wpS d)] 87),(1,.cells [.clo 86 [] [],.clo 87 [] []] 110),(2,.cells [.row 4] 23),(3,.cells [.clo 88 [] [.own 0 0,.own 1 0,.own 2 0,.own 3 0]] 144),(4,.row 22 1 (.sym fun _=>zi ((F++ueS d.pn.toNat (uc8 d) m o i x.1)).length) (fun ix=>[.sl 1 (.sym fun _=>zi (((F++ueS d.pn.toNat (uc8 d) m o i x.1)).getD ix.den.toNat []).length) (fun jx=>[(iv fun _=>(((F++ueS d.pn.toNat (uc8 d) m o i x.1)).getD ix.den.toNat []).getD jx.den.toNat 0)])]))],60⟩,fun x=>d.pn.toNat-m-i-x.1,?_,?_⟩
 ·refine⟨⟨0,by omega⟩,?_⟩
  cbv
  repeat' (first|with_reducible refine ua4 ?_ ?_|with_reducible refine And.intro ?_ ?_)
  all_goals first|trivial|exact qM (qE (by rfl))|exact qM (Fit.refl _)|exact qL (qK _)|(simp only [ueS,List.append_nil];exact qL (qK _))|skip
 ·rintro ⟨k,hk⟩
  cbv
  obtain⟨G,hG⟩:∃G,G=(F++ueS d.pn.toNat (uc8 d) m o i k):=⟨_,rfl⟩
  rw [←hG]
  cbv
  repeat' (first
   |with_reducible refine ua4 ?_ ?_
   |with_reducible refine And.intro ?_ ?_
   |(with_reducible intro hcd;(try simp only [zA,zB,zC,zD,zE,zF,zG,zH,zI,zJ,zK,zL,zM,zN,zO,zP]at hcd);try cbv)
   |(refine qP ?_ (c90) ?hfit;(case hfit=>((repeat' (first|exact qB|refine qD ?_ ?_|exact qE (by rfl)|exact qF (by rfl)|exact Fit.refl _|exact qA|refine qC ?_ rfl ?_));done));try cbv)
   | (refine Or.inr ⟨true,?_⟩
      cbv
      refine qU ?_ (c94) (by cbv;(repeat' (first|exact qB|refine qD ?_ ?_|exact qE (by rfl)|exact qF (by rfl)|exact Fit.refl _|exact qA|refine qC ?_ rfl ?_))) (by cbv;(repeat' (first|exact qH|refine qI ?_ ?_|exact qK _|refine qJ ?_|exact qA|exact qE (by rfl)|exact qF (by rfl)|exact Fit.refl _|exact qG _|refine qC ?_ rfl ?_)))
      try cbv)
   | (obtain⟨L2,eL2⟩:∃y:List Int,y=o++[((i+k:Nat):Int)]:=⟨_,rfl⟩
      refine⟨ueB L2,?_⟩
      cbv
      refine ua4 (uaq (L:=o) eL2 (by(first|rfl|((try simp only [qV]at *);(try simp only [zQ,zA,zB,zC,zD,zE,zF,zG,zH,zI,zJ,zK,zL,zM,zN,zO,zP,zR,zS]at *);done)|((try simp only [qV]at *);(try simp only [zQ,zA,zB,zC,zD,zE,zF,zG,zH,zI,zJ,zK,zL,zM,zN,zO,zP,zR,zS]at *);omega))) (by rfl) (fun ix=>Fit.refl _) (fun ix h=>qC (qE (by rfl)) rfl qA) (by(try simp only [qV]at *);(try simp only [zQ,zA,zB,zC,zD,zE,zF,zG,zH,zI,zJ,zK,zL,zM,zN,zO,zP,zR,zS]at *);omega)) (Or.inr ⟨true,?_⟩)
      try cbv)
   | (refine⟨some [0,1,2,3,4],?_⟩
      cbv
      refine qQ ?_ (ih k (by((try simp only [qV]at *);(try simp only [zQ,zA,zB,zC,zD,zE,zF,zG,zH,zI,zJ,zK,zL,zM,zN,zO,zP,zR,zS]at *);omega)) G L2 hG eL2) ?hfit ?hbo
      case hfit=>(cbv;refine qD (ua1 (uu2 eL2) (fun _ _ _=>Fit.refl _)) ?_;(repeat' (first|exact qB|refine qD ?_ ?_|exact qE (by rfl)|exact qF (by rfl)|exact Fit.refl _|exact qA|refine qC ?_ rfl ?_));done)
      case hbo=>(cbv;(repeat' (first|exact qH|refine qI ?_ ?_|exact qK _|refine qJ ?_|exact qA|exact qE (by rfl)|exact qF (by rfl)|exact Fit.refl _|exact qG _|refine qC ?_ rfl ?_));done)
      try cbv)
   |fail)
  all_goals first|((try simp only [qV]at *);(try simp only [zQ,zA,zB,zC,zD,zE,zF,zG,zH,zI,zJ,zK,zL,zM,zN,zO,zP,zR,zS]at *);first|(refine qN ?_;omega)|(simp only [uaj];omega))|(subst hR;exact Fit.refl _;done)|((have hke:k=d.pn.toNat-m-i:=(by((try simp only [qV]at *);(try simp only [zQ,zA,zB,zC,zD,zE,zF,zG,zH,zI,zJ,zK,zL,zM,zN,zO,zP,zR,zS]at *);omega)));rw [hke]at hG;rw [←hG]at hB;subst hB;(repeat' (first|exact qH|refine qI ?_ ?_|exact qK _|refine qJ ?_|exact qA|exact qE (by rfl)|exact qF (by rfl)|exact Fit.refl _|exact qG _|refine qC ?_ rfl ?_));done)|((try simp only [zQ,zA,zB,zC,zD,zE,zF,zG,zH,zI,zJ,zK,zL,zM,zN,zO,zP,zR,zS]at *);(have hx:=unn eL2 hG);refine⟨⟨k+1,by((try simp only [qV]at *);(try simp only [zQ,zA,zB,zC,zD,zE,zF,zG,zH,zI,zJ,zK,zL,zM,zN,zO,zP,zR,zS]at *);omega)⟩,by simp only [];omega,?_⟩;cbv;(repeat' (first|with_reducible refine ua4 ?_ ?_|with_reducible refine And.intro ?_ ?_));(all_goals first|trivial|exact qM (qE (by rfl))|exact qM (qF (by rfl))|exact qM (Fit.refl _)|exact qL (qK _)|(refine qM (qE ?_);(try simp only [qV]at *);simp only [zQ,zA,zB,zC,zD,zE,zF,zG,zH,zI,zJ,zK,zL,zM,zN,zO,zP,zR,zS]at *;omega)|(refine qL (qJ ?_);(repeat' (first|exact qA|exact qB|refine qC ?_ rfl ?_|refine qD ?_ ?_|exact qE (by rfl)|exact qF (by rfl)|exact Fit.refl _|exact qG _|(refine qE ?_;(try simp only [qV]at *);simp only [zQ,zA,zB,zC,zD,zE,zF,zG,zH,zI,zJ,zK,zL,zM,zN,zO,zP,zR,zS]at *;omega)));done)|(simp only [hx];exact qL (qK _))|(refine qM (qE ?_);(try simp only [qV]at *);(try simp only [zQ,zA,zB,zC,zD,zE,zF,zG,zH,zI,zJ,zK,zL,zM,zN,zO,zP,zR,zS]at *);omega)|skip))|skip
theorem uBx (d:Dsp)(hd:DOk d):∀(m:Nat) (F:List (List Int)) (o:List Int) (i:Nat) (ie me:Int),ie=(i:Int)→me=(m:Int)→o.length≤i→i+m≤d.fs.length→F.length+(ubT d.fs.length (udw d) m o i).length≤1000000→ua0 Tryz.prog 88 [(iS o),(iv fun _=>ie),(iv fun _=>me),.own 0 0,.own 1 0,.own 2 0,.own 3 0] [.cells [(wpS d)] 87,.cells [.clo 84 [] [],.clo 85 [] []] 110,.cells [.row 4] 23,.cells [.clo 88 [] [.own 0 0,.own 1 0,.own 2 0,.own 3 0]] 144,.row 22 1 (.sym fun _=>zi (F).length) (fun ix=>[.sl 1 (.sym fun _=>zi ((F).getD ix.den.toNat []).length) (fun jx=>[(iv fun _=>((F).getD ix.den.toNat []).getD jx.den.toNat 0)])])] (fun r bs=>r = .tup []∧bs=[.cells [(wpS d)] 87,.cells [.clo 84 [] [],.clo 85 [] []] 110,.cells [.row 4] 23,.cells [.clo 88 [] [.own 0 0,.own 1 0,.own 2 0,.own 3 0]] 144,.row 22 1 (.sym fun _=>zi ((F++ubT d.fs.length (udw d) m o i)).length) (fun ix=>[.sl 1 (.sym fun _=>zi (((F++ubT d.fs.length (udw d) m o i)).getD ix.den.toNat []).length) (fun jx=>[(iv fun _=>(((F++ubT d.fs.length (udw d) m o i)).getD ix.den.toNat []).getD jx.den.toNat 0)])])]):=by
 have hf6:=hd.f6
 have hp4:=hd.p4
 intro m
 induction m with
 | zero=>
  intro F o i ie me hie hme ho him hB
  have hm0:me=0:=by omega
  subst hm0
  cases hok:(udw d) o with
  | true=>
   rw [show ubT d.fs.length (udw d) 0 o i=[o] by simp only [ubT,hok,if_true]]
   exact uwG d F o ie hd (by omega) (by omega) hok
  | false=>
   rw [show ubT d.fs.length (udw d) 0 o i=[] by simp only [ubT,hok,Bool.false_eq_true,if_false],List.append_nil]
   exact uwz d F o ie hd (by omega) (by omega) hok
 | succ m ih=>
  intro F o i ie me hie hme ho him hB
  subst hie
  subst hme
  rw [uj3]at hB⊢
  refine uzk d F o i m (m+1) hd (by omega) rfl him fun k hk G L hG hL=> ?_
  refine ih G L (i+k+1) (zi (i+k)+1) (zi (m+1)-1) (by simp only [uac];omega) (by simp only [uac];omega) (by rw [hL,List.length_append];simp only [List.length_cons,List.length_nil];omega) (by omega) ?_
  have h1:=uud (n:=d.fs.length) (ok:=(udw d)) (m:=m) (o:=o) (i:=i) (show k+1≤d.fs.length-m-i by omega)
  have h2:=congrArg List.length (unn (F:=F) hL hG)
  rw [List.length_append,List.length_append]at h2
  omega
theorem uCh (d:Dsp)(hd:DOk d):∀(m:Nat) (F:List (List Int)) (o:List Int) (i:Nat) (ie me:Int),ie=(i:Int)→me=(m:Int)→o.length≤i→i+m≤d.pn.toNat→F.length+(ubT d.pn.toNat (uc8 d) m o i).length≤1000000→ua0 Tryz.prog 88 [(iS o),(iv fun _=>ie),(iv fun _=>me),.own 0 0,.own 1 0,.own 2 0,.own 3 0] [.cells [(wpS d)] 87,.cells [.clo 86 [] [],.clo 87 [] []] 110,.cells [.row 4] 23,.cells [.clo 88 [] [.own 0 0,.own 1 0,.own 2 0,.own 3 0]] 144,.row 22 1 (.sym fun _=>zi (F).length) (fun ix=>[.sl 1 (.sym fun _=>zi ((F).getD ix.den.toNat []).length) (fun jx=>[(iv fun _=>((F).getD ix.den.toNat []).getD jx.den.toNat 0)])])] (fun r bs=>r = .tup []∧bs=[.cells [(wpS d)] 87,.cells [.clo 86 [] [],.clo 87 [] []] 110,.cells [.row 4] 23,.cells [.clo 88 [] [.own 0 0,.own 1 0,.own 2 0,.own 3 0]] 144,.row 22 1 (.sym fun _=>zi ((F++ubT d.pn.toNat (uc8 d) m o i)).length) (fun ix=>[.sl 1 (.sym fun _=>zi (((F++ubT d.pn.toNat (uc8 d) m o i)).getD ix.den.toNat []).length) (fun jx=>[(iv fun _=>(((F++ubT d.pn.toNat (uc8 d) m o i)).getD ix.den.toNat []).getD jx.den.toNat 0)])])]):=by
 have hf6:=hd.f6
 have hp4:=hd.p4
 intro m
 induction m with
 | zero=>
  intro F o i ie me hie hme ho him hB
  have hm0:me=0:=by omega
  subst hm0
  cases hok:(uc8 d) o with
  | true=>
   rw [show ubT d.pn.toNat (uc8 d) 0 o i=[o] by simp only [ubT,hok,if_true]]
   exact uxK d F o ie hd (by omega) (by omega) hok
  | false=>
   rw [show ubT d.pn.toNat (uc8 d) 0 o i=[] by simp only [ubT,hok,Bool.false_eq_true,if_false],List.append_nil]
   exact uxr d F o ie hd (by omega) (by omega) hok
 | succ m ih=>
  intro F o i ie me hie hme ho him hB
  subst hie
  subst hme
  rw [uj3]at hB⊢
  refine uyJ d F o i m (m+1) hd (by omega) rfl him fun k hk G L hG hL=> ?_
  refine ih G L (i+k+1) (zi (i+k)+1) (zi (m+1)-1) (by simp only [uac];omega) (by simp only [uac];omega) (by rw [hL,List.length_append];simp only [List.length_cons,List.length_nil];omega) (by omega) ?_
  have h1:=uud (n:=d.pn.toNat) (ok:=(uc8 d)) (m:=m) (o:=o) (i:=i) (show k+1≤d.pn.toNat-m-i by omega)
  have h2:=congrArg List.length (unn (F:=F) hL hG)
  rw [List.length_append,List.length_append]at h2
  omega
theorem utK {n:Nat} {ok:List Int→Bool} {m k:Nat}(hk:0<k)(h:ubT n ok m [] 0=[]):ur4 n ok k m=ur4 n ok (k-1) (m+1):=by
 cases k with
 |zero=>omega
 |succ k=>simp only [ur4,h,List.isEmpty_nil,if_true,Nat.add_sub_cancel]
theorem unm {n:Nat} {ok:List Int→Bool} {m k:Nat}(hk:0<k)(h:ubT n ok m [] 0≠[]):ur4 n ok k m=ubT n ok m [] 0:=by
 cases k with
 |zero=>omega
 | succ k=>
  simp only [ur4]
  rw [if_neg (by simpa using h)]
theorem umK {d:Dsp} {n:Nat} {ok:List Int→Bool} {m:Nat}(hn:n≤6)(hm:m≤n):(ubT n ok m [] 0).length≤1000000:=by
 refine Nat.le_trans unf (Nat.le_trans (Nat.pow_le_pow_left hn m) (Nat.le_trans (Nat.pow_le_pow_right (by omega) (show m≤6 by omega)) (by decide)))
theorem upZ (d:Dsp)(hd:DOk d):ua0 Tryz.prog 51 [(.agg [.clo 84 [] [],.clo 85 [] []]),(wpS d)] [] (fun r _=>r=(.sl 1 (.sym fun _=>zi ((uaA d.fs.length (udw d))).length) (fun ix=>[(.sl 1 (.sym fun _=>zi (((uaA d.fs.length (udw d))).getD ix.den.toNat []).length) (fun jx=>[(iv fun _=>(((uaA d.fs.length (udw d))).getD ix.den.toNat []).getD jx.den.toNat 0)]))]))):=by
 have c88:=uqj d
 have f6:=hd.f6
 have p4:=hd.p4
 have p1:=hd.p1
 have cadd:=fun (x:Nat) (h:x≤d.fs.length)=>(show ua0 Tryz.prog 88 [(iS (([]:List Int))),(iv fun _=>0),(iv fun _=>zi x),.own 0 0,.own 1 0,.own 2 0,.own 3 0] [.cells [(wpS d)] 87,.cells [.clo 84 [] [],.clo 85 [] []] 110,.cells [.row 4] 23,.cells [.clo 88 [] [.own 0 0,.own 1 0,.own 2 0,.own 3 0]] 144,.row 22 1 (.sym fun _=>zi (([]:List (List Int))).length) (fun ix=>[.sl 1 (.sym fun _=>zi ((([]:List (List Int))).getD ix.den.toNat []).length) (fun jx=>[(iv fun _=>((([]:List (List Int))).getD ix.den.toNat []).getD jx.den.toNat 0)])])] (fun r bs=>r = .tup []∧bs=[.cells [(wpS d)] 87,.cells [.clo 84 [] [],.clo 85 [] []] 110,.cells [.row 4] 23,.cells [.clo 88 [] [.own 0 0,.own 1 0,.own 2 0,.own 3 0]] 144,.row 22 1 (.sym fun _=>zi ((ubT d.fs.length (udw d) x [] 0)).length) (fun ix=>[.sl 1 (.sym fun _=>zi (((ubT d.fs.length (udw d) x [] 0)).getD ix.den.toNat []).length) (fun jx=>[(iv fun _=>(((ubT d.fs.length (udw d) x [] 0)).getD ix.den.toNat []).getD jx.den.toNat 0)])])])from uBx d hd x [] [] 0 0 (zi x) rfl (by simp only [uac]) (Nat.le_refl _) (by omega) (by have:=umK (d:=d) (n:=d.fs.length) (ok:=(udw d)) (m:=x) (by omega) h;simp only [List.length_nil];omega))
 refine ua0.is fun R hR=>qW (sc:=uAt) uai mix Tryz.func51 rfl Tryz.call51 (by kernel_rfl) (by kernel_rfl) ?_
 generalize Tryz.prog=P at c88 cadd⊢
 cbv
 repeat' (first|with_reducible refine ua4 ?_ ?_|(refine qP ?_ (c88) ?hfit;(case hfit=>((repeat' (first|exact qB|refine qD ?_ ?_|exact qE (by rfl)|exact qF (by rfl)|exact Fit.refl _|exact qA|refine qC ?_ rfl ?_));done));try cbv)|fail)
 all_goals first|((try simp only [qV]at *);(try simp only [zQ,zA,zB,zC,zD,zE,zF,zG,zH,zI,zJ,zK,zL,zM,zN,zO,zP,zR,zS]at *);first|(refine qN ?_;omega)|(simp only [uaj];omega))|skip
 refine⟨none,[⟨.cell 2 0,22,1⟩],{x:Nat // x≤d.fs.length+1∧uaA d.fs.length (udw d)=ur4 d.fs.length (udw d) (d.fs.length+1-x) x},fun x=>⟨[(2,.own 0 0),(3,.own 1 0),(4,.own 2 0),(5,.own 3 0),(12,(iv fun _=>zi d.fs.length+1)),(13,(iv fun _=>zi x.1))],[(0,.cells [.clo 84 [] [],.clo 85 [] []] 110),(1,.cells [(wpS d)] 87),(2,.cells [.row 12] 23),(3,.cells [.clo 88 [] [.own 1 0,.own 0 0,.own 2 0,.own 3 0]] 144),(12,.row 22 1 (.sym fun _=>zi (([]:List (List Int))).length) (fun ix=>[.sl 1 (.sym fun _=>zi ((([]:List (List Int))).getD ix.den.toNat []).length) (fun jx=>[(iv fun _=>((([]:List (List Int))).getD ix.den.toNat []).getD jx.den.toNat 0)])]))],60⟩,fun x=>d.fs.length+1-x.1,?_,?_⟩
 ·refine⟨⟨0,by omega,rfl⟩,?_⟩
  cbv
  repeat' (first|with_reducible refine ua4 ?_ ?_|with_reducible refine And.intro ?_ ?_)
  all_goals first|trivial|exact qM (qE (by rfl))|exact qM (Fit.refl _)|exact qL (qK _)|(refine qL (uae ?_ ?_);(first|rfl|((try simp only [qV]at *);(try simp only [zQ,zA,zB,zC,zD,zE,zF,zG,zH,zI,zJ,zK,zL,zM,zN,zO,zP,zR,zS]at *);omega));intro ix h0 h1;exfalso;(try simp only [qV]at *);(try simp only [zQ,zA,zB,zC,zD,zE,zF,zG,zH,zI,zJ,zK,zL,zM,zN,zO,zP,zR,zS]at *);omega)|skip
 ·rintro ⟨x,hx,h3⟩
  cbv
  obtain⟨A,hA⟩:∃A,A=ubT d.fs.length (udw d) x [] 0:=⟨_,rfl⟩
  have caddx:=fun h=>cadd x h
  rw [←hA]at caddx
  cbv
  repeat' (first
   |with_reducible refine ua4 ?_ ?_
   |with_reducible refine And.intro ?_ ?_
   |(with_reducible intro hcd;(try simp only [zA,zB,zC,zD,zE,zF,zG,zH,zI,zJ,zK,zL,zM,zN,zO,zP]at hcd);try cbv)
   | (refine⟨some [1,0,2,3,12],?_⟩
      cbv
      refine qQ ?_ (caddx (by((try simp only [qV]at *);(try simp only [zQ,zA,zB,zC,zD,zE,zF,zG,zH,zI,zJ,zK,zL,zM,zN,zO,zP,zR,zS]at *);omega))) ?hfit ?hbo
      case hfit=>(cbv;refine qD (qO rfl) ?_;(repeat' (first|exact qB|refine qD ?_ ?_|exact qE (by rfl)|exact qF (by rfl)|exact Fit.refl _|exact qA|refine qC ?_ rfl ?_));done)
      case hbo=>(cbv;(repeat' (first|exact qH|refine qI ?_ ?_|exact qK _|refine qJ ?_|exact qA|exact qE (by rfl)|exact qF (by rfl)|exact Fit.refl _|exact qG _|refine qC ?_ rfl ?_));done)
      try cbv)
   |fail)
  all_goals first|((try simp only [qV]at *);(try simp only [zQ,zA,zB,zC,zD,zE,zF,zG,zH,zI,zJ,zK,zL,zM,zN,zO,zP,zR,zS]at *);first|(refine qN ?_;omega)|(simp only [uaj];omega))|(subst hR;((have hne:A≠[]:=fun q=>by(rw [q]at hcd;(try simp only [qV]at *);(try simp only [zQ,zA,zB,zC,zD,zE,zF,zG,zH,zI,zJ,zK,zL,zM,zN,zO,zP,zR,zS]at *);simp only [List.length_nil]at hcd;omega));(have e9:=h3.trans (unm (by((try simp only [qV]at *);(try simp only [zQ,zA,zB,zC,zD,zE,zF,zG,zH,zI,zJ,zK,zL,zM,zN,zO,zP,zR,zS]at *);omega)) (by rw [←hA];exact hne)));rw [←hA]at e9;rw [e9];exact Fit.refl _);done)|(subst hR;((have hz:d.fs.length+1-x=0:=by((try simp only [qV]at *);(try simp only [zQ,zA,zB,zC,zD,zE,zF,zG,zH,zI,zJ,zK,zL,zM,zN,zO,zP,zR,zS]at *);omega));rw [hz]at h3;rw [show uaA d.fs.length (udw d)=[]from h3];exact Fit.refl _);done)|((try simp only [zQ,zA,zB,zC,zD,zE,zF,zG,zH,zI,zJ,zK,zL,zM,zN,zO,zP,zR,zS]at *);(have hAe:A=[]:=List.length_eq_zero_iff.1 (by((try simp only [qV]at *);(try simp only [zQ,zA,zB,zC,zD,zE,zF,zG,zH,zI,zJ,zK,zL,zM,zN,zO,zP,zR,zS]at *);omega)));refine⟨⟨x+1,by((try simp only [qV]at *);(try simp only [zQ,zA,zB,zC,zD,zE,zF,zG,zH,zI,zJ,zK,zL,zM,zN,zO,zP,zR,zS]at *);omega),by rw [show d.fs.length+1-(x+1)=d.fs.length+1-x-1 by omega,←utK (by((try simp only [qV]at *);(try simp only [zQ,zA,zB,zC,zD,zE,zF,zG,zH,zI,zJ,zK,zL,zM,zN,zO,zP,zR,zS]at *);omega)) (hA.symm.trans hAe)];exact h3⟩,by simp only [];omega,?_⟩;cbv;(repeat' (first|with_reducible refine ua4 ?_ ?_|with_reducible refine And.intro ?_ ?_));(all_goals first|trivial|exact qM (qE (by rfl))|exact qM (qF (by rfl))|exact qM (Fit.refl _)|exact qL (qK _)|(refine qM (qE ?_);(try simp only [qV]at *);simp only [zQ,zA,zB,zC,zD,zE,zF,zG,zH,zI,zJ,zK,zL,zM,zN,zO,zP,zR,zS]at *;omega)|(refine qL (qJ ?_);(repeat' (first|exact qA|exact qB|refine qC ?_ rfl ?_|refine qD ?_ ?_|exact qE (by rfl)|exact qF (by rfl)|exact Fit.refl _|exact qG _|(refine qE ?_;(try simp only [qV]at *);simp only [zQ,zA,zB,zC,zD,zE,zF,zG,zH,zI,zJ,zK,zL,zM,zN,zO,zP,zR,zS]at *;omega)));done)|(simp only [hAe];exact qL (qK _))|(refine qL (uae ?_ ?_);(first|rfl|(simp only [hAe];rfl));intro ix h0 h1;exfalso;simp only [hAe]at h1;(try simp only [qV]at *);(try simp only [zQ,zA,zB,zC,zD,zE,zF,zG,zH,zI,zJ,zK,zL,zM,zN,zO,zP,zR,zS]at *);omega)|skip))|skip
theorem ugB (d:Dsp)(hd:DOk d):ua0 Tryz.prog 51 [(.agg [.clo 86 [] [],.clo 87 [] []]),(wpS d)] [] (fun r _=>r=(.sl 1 (.sym fun _=>zi ((uaA d.pn.toNat (uc8 d))).length) (fun ix=>[(.sl 1 (.sym fun _=>zi (((uaA d.pn.toNat (uc8 d))).getD ix.den.toNat []).length) (fun jx=>[(iv fun _=>(((uaA d.pn.toNat (uc8 d))).getD ix.den.toNat []).getD jx.den.toNat 0)]))]))):=by
 have c90:=ujA d
 have f6:=hd.f6
 have p4:=hd.p4
 have p1:=hd.p1
 have cadd:=fun (x:Nat) (h:x≤d.pn.toNat)=>(show ua0 Tryz.prog 88 [(iS (([]:List Int))),(iv fun _=>0),(iv fun _=>zi x),.own 0 0,.own 1 0,.own 2 0,.own 3 0] [.cells [(wpS d)] 87,.cells [.clo 86 [] [],.clo 87 [] []] 110,.cells [.row 4] 23,.cells [.clo 88 [] [.own 0 0,.own 1 0,.own 2 0,.own 3 0]] 144,.row 22 1 (.sym fun _=>zi (([]:List (List Int))).length) (fun ix=>[.sl 1 (.sym fun _=>zi ((([]:List (List Int))).getD ix.den.toNat []).length) (fun jx=>[(iv fun _=>((([]:List (List Int))).getD ix.den.toNat []).getD jx.den.toNat 0)])])] (fun r bs=>r = .tup []∧bs=[.cells [(wpS d)] 87,.cells [.clo 86 [] [],.clo 87 [] []] 110,.cells [.row 4] 23,.cells [.clo 88 [] [.own 0 0,.own 1 0,.own 2 0,.own 3 0]] 144,.row 22 1 (.sym fun _=>zi ((ubT d.pn.toNat (uc8 d) x [] 0)).length) (fun ix=>[.sl 1 (.sym fun _=>zi (((ubT d.pn.toNat (uc8 d) x [] 0)).getD ix.den.toNat []).length) (fun jx=>[(iv fun _=>(((ubT d.pn.toNat (uc8 d) x [] 0)).getD ix.den.toNat []).getD jx.den.toNat 0)])])])from uCh d hd x [] [] 0 0 (zi x) rfl (by simp only [uac]) (Nat.le_refl _) (by omega) (by have:=umK (d:=d) (n:=d.pn.toNat) (ok:=(uc8 d)) (m:=x) (by omega) h;simp only [List.length_nil];omega))
 refine ua0.is fun R hR=>qW (sc:=uAt) uai mix Tryz.func51 rfl Tryz.call51 (by kernel_rfl) (by kernel_rfl) ?_
 generalize Tryz.prog=P at c90 cadd⊢
 cbv
 repeat' (first|with_reducible refine ua4 ?_ ?_|(refine qP ?_ (c90) ?hfit;(case hfit=>((repeat' (first|exact qB|refine qD ?_ ?_|exact qE (by rfl)|exact qF (by rfl)|exact Fit.refl _|exact qA|refine qC ?_ rfl ?_));done));try cbv)|fail)
 all_goals first|((try simp only [qV]at *);(try simp only [zQ,zA,zB,zC,zD,zE,zF,zG,zH,zI,zJ,zK,zL,zM,zN,zO,zP,zR,zS]at *);first|(refine qN ?_;omega)|(simp only [uaj];omega))|skip
 refine⟨none,[⟨.cell 2 0,22,1⟩],{x:Nat // x≤d.pn.toNat+1∧uaA d.pn.toNat (uc8 d)=ur4 d.pn.toNat (uc8 d) (d.pn.toNat+1-x) x},fun x=>⟨[(2,.own 0 0),(3,.own 1 0),(4,.own 2 0),(5,.own 3 0),(12,(iv fun _=>d.pn+1)),(13,(iv fun _=>zi x.1))],[(0,.cells [.clo 86 [] [],.clo 87 [] []] 110),(1,.cells [(wpS d)] 87),(2,.cells [.row 12] 23),(3,.cells [.clo 88 [] [.own 1 0,.own 0 0,.own 2 0,.own 3 0]] 144),(12,.row 22 1 (.sym fun _=>zi (([]:List (List Int))).length) (fun ix=>[.sl 1 (.sym fun _=>zi ((([]:List (List Int))).getD ix.den.toNat []).length) (fun jx=>[(iv fun _=>((([]:List (List Int))).getD ix.den.toNat []).getD jx.den.toNat 0)])]))],60⟩,fun x=>d.pn.toNat+1-x.1,?_,?_⟩
 ·refine⟨⟨0,by omega,rfl⟩,?_⟩
  cbv
  repeat' (first|with_reducible refine ua4 ?_ ?_|with_reducible refine And.intro ?_ ?_)
  all_goals first|trivial|exact qM (qE (by rfl))|exact qM (Fit.refl _)|exact qL (qK _)|(refine qL (uae ?_ ?_);(first|rfl|((try simp only [qV]at *);(try simp only [zQ,zA,zB,zC,zD,zE,zF,zG,zH,zI,zJ,zK,zL,zM,zN,zO,zP,zR,zS]at *);omega));intro ix h0 h1;exfalso;(try simp only [qV]at *);(try simp only [zQ,zA,zB,zC,zD,zE,zF,zG,zH,zI,zJ,zK,zL,zM,zN,zO,zP,zR,zS]at *);omega)|skip
 ·rintro ⟨x,hx,h3⟩
  cbv
  obtain⟨A,hA⟩:∃A,A=ubT d.pn.toNat (uc8 d) x [] 0:=⟨_,rfl⟩
  have caddx:=fun h=>cadd x h
  rw [←hA]at caddx
  cbv
  repeat' (first
   |with_reducible refine ua4 ?_ ?_
   |with_reducible refine And.intro ?_ ?_
   |(with_reducible intro hcd;(try simp only [zA,zB,zC,zD,zE,zF,zG,zH,zI,zJ,zK,zL,zM,zN,zO,zP]at hcd);try cbv)
   | (refine⟨some [1,0,2,3,12],?_⟩
      cbv
      refine qQ ?_ (caddx (by((try simp only [qV]at *);(try simp only [zQ,zA,zB,zC,zD,zE,zF,zG,zH,zI,zJ,zK,zL,zM,zN,zO,zP,zR,zS]at *);omega))) ?hfit ?hbo
      case hfit=>(cbv;refine qD (qO rfl) ?_;(repeat' (first|exact qB|refine qD ?_ ?_|exact qE (by rfl)|exact qF (by rfl)|exact Fit.refl _|exact qA|refine qC ?_ rfl ?_));done)
      case hbo=>(cbv;(repeat' (first|exact qH|refine qI ?_ ?_|exact qK _|refine qJ ?_|exact qA|exact qE (by rfl)|exact qF (by rfl)|exact Fit.refl _|exact qG _|refine qC ?_ rfl ?_));done)
      try cbv)
   |fail)
  all_goals first|((try simp only [qV]at *);(try simp only [zQ,zA,zB,zC,zD,zE,zF,zG,zH,zI,zJ,zK,zL,zM,zN,zO,zP,zR,zS]at *);first|(refine qN ?_;omega)|(simp only [uaj];omega))|(subst hR;((have hne:A≠[]:=fun q=>by(rw [q]at hcd;(try simp only [qV]at *);(try simp only [zQ,zA,zB,zC,zD,zE,zF,zG,zH,zI,zJ,zK,zL,zM,zN,zO,zP,zR,zS]at *);simp only [List.length_nil]at hcd;omega));(have e9:=h3.trans (unm (by((try simp only [qV]at *);(try simp only [zQ,zA,zB,zC,zD,zE,zF,zG,zH,zI,zJ,zK,zL,zM,zN,zO,zP,zR,zS]at *);omega)) (by rw [←hA];exact hne)));rw [←hA]at e9;rw [e9];exact Fit.refl _);done)|(subst hR;((have hz:d.pn.toNat+1-x=0:=by((try simp only [qV]at *);(try simp only [zQ,zA,zB,zC,zD,zE,zF,zG,zH,zI,zJ,zK,zL,zM,zN,zO,zP,zR,zS]at *);omega));rw [hz]at h3;rw [show uaA d.pn.toNat (uc8 d)=[]from h3];exact Fit.refl _);done)|((try simp only [zQ,zA,zB,zC,zD,zE,zF,zG,zH,zI,zJ,zK,zL,zM,zN,zO,zP,zR,zS]at *);(have hAe:A=[]:=List.length_eq_zero_iff.1 (by((try simp only [qV]at *);(try simp only [zQ,zA,zB,zC,zD,zE,zF,zG,zH,zI,zJ,zK,zL,zM,zN,zO,zP,zR,zS]at *);omega)));refine⟨⟨x+1,by((try simp only [qV]at *);(try simp only [zQ,zA,zB,zC,zD,zE,zF,zG,zH,zI,zJ,zK,zL,zM,zN,zO,zP,zR,zS]at *);omega),by rw [show d.pn.toNat+1-(x+1)=d.pn.toNat+1-x-1 by omega,←utK (by((try simp only [qV]at *);(try simp only [zQ,zA,zB,zC,zD,zE,zF,zG,zH,zI,zJ,zK,zL,zM,zN,zO,zP,zR,zS]at *);omega)) (hA.symm.trans hAe)];exact h3⟩,by simp only [];omega,?_⟩;cbv;(repeat' (first|with_reducible refine ua4 ?_ ?_|with_reducible refine And.intro ?_ ?_));(all_goals first|trivial|exact qM (qE (by rfl))|exact qM (qF (by rfl))|exact qM (Fit.refl _)|exact qL (qK _)|(refine qM (qE ?_);(try simp only [qV]at *);simp only [zQ,zA,zB,zC,zD,zE,zF,zG,zH,zI,zJ,zK,zL,zM,zN,zO,zP,zR,zS]at *;omega)|(refine qL (qJ ?_);(repeat' (first|exact qA|exact qB|refine qC ?_ rfl ?_|refine qD ?_ ?_|exact qE (by rfl)|exact qF (by rfl)|exact Fit.refl _|exact qG _|(refine qE ?_;(try simp only [qV]at *);simp only [zQ,zA,zB,zC,zD,zE,zF,zG,zH,zI,zJ,zK,zL,zM,zN,zO,zP,zR,zS]at *;omega)));done)|(simp only [hAe];exact qL (qK _))|(refine qL (uae ?_ ?_);(first|rfl|(simp only [hAe];rfl));intro ix h0 h1;exfalso;simp only [hAe]at h1;(try simp only [qV]at *);(try simp only [zQ,zA,zB,zC,zD,zE,zF,zG,zH,zI,zJ,zK,zL,zM,zN,zO,zP,zR,zS]at *);omega)|skip))|skip
end Go.Proofs.YtkdggbfknlcdaaaGreat
namespace Go.Proofs.YtkdggbfknlcdaaaGreat
open Go.Eng.Dif Go.Eng.Few
def ptD (d:Dsp)(i:Nat):Int:=(d.fs.getD i f0T).p
theorem upK (d:Dsp):udw d=okF (SN d) (LO d) (FO d d.fs):=funext fun o=>upV
theorem ul7 {d:Dsp}(h:DOk d):uc8 d=okP (SN d) (LO d) (FO d d.fs) (ptD d):=by
 funext o
 unfold uc8 okP
 rw [upV]
 unfold okF
 refine ujv (okk h h.f) fun i hi=> ?_
 rw [udi]at hi
 unfold uyx ukM
 have e:(thN d o d.fs.length).contains (i:Int)=inL o (d.fs.getD i f0T).p:=uux hi
 rw [e,uhS]
 rfl
theorem uzf {d:Dsp}(h:DOk d):∀i,i<(FO d d.fs).length→0≤ptD d i∧ptD d i<(d.pn.toNat:Int):=by
 intro i hi
 rw [udi]at hi
 have q:=h.f i hi
 have:=h.p1
 unfold ubS at q
 unfold ptD
 omega
theorem uyH {d:Dsp}(h:DOk d)(hl:ue1 d=true):udw d (uaZ d.fs.length)=true:=by
 rw [upK]
 have:=ur2 (okk h h.f)
 rw [udi]at this
 rw [this,←unh];exact hl
theorem uAg {d:Dsp}(h:DOk d)(hl:ue1 d=true):uc8 d (uaZ d.pn.toNat)=true:=by
 rw [ul7 h,upj (okk h h.f) (uzf h),←unh];exact hl
theorem ug1 {d:Dsp}(h:uam d=0):udw d (uaZ d.fs.length)=true:=uyH (ua3.1 (uaH h).1) (uaH h).2
theorem ufE {d:Dsp}(h:uam d=0):uc8 d (uaZ d.pn.toNat)=true:=uAg (ua3.1 (uaH h).1) (uaH h).2
theorem uh6 {n:Nat} {ok:List Int→Bool}(h:ok (uaZ n)=true):0<(uaA n ok).length∧(uaA n ok).getD 0 []=udr n ok:=by
 have:=uom h
 cases hs:uaA n ok with
 |nil=>rw [hs]at this;cases this
 | cons a l=>
  rw [hs]at this
  refine⟨by simp,?_⟩
  have e:some a=some (udr n ok):=this
  show a=_
  exact Option.some.inj e
def ug7 (d:Dsp):List Int:=if uam d=0 then udr d.fs.length (udw d)else []
def uua (d:Dsp):List Int:=if uam d=0 then udr d.pn.toNat (uc8 d)else []
end Go.Proofs.YtkdggbfknlcdaaaGreat
namespace Go.Proofs.YtkdggbfknlcdaaaGreat
open Go Go.Eng Go.Proofs Go.Eng.Dif Go.Eng.Few
set_option maxRecDepth 10000
theorem uoy (d:Dsp)(h:uam d=0):ua0 Tryz.prog 45 [(.agg [.clo 84 [] [],.clo 85 [] []]),(ub0 d)] [] (fun r _=>r=(.tup [(iS ((ug7 d))),(iv fun _=>uam d)])):=by
 have c59:=umv d h
 have hd:=ua3.1 (uaH h).1
 have hs:=uh6 (ug1 h)
 have hsm:ug7 d=udr d.fs.length (udw d):=if_pos h
 rw [hsm,h,←hs.2]
 have hs1:=hs.1
 have c61:=upZ d hd
 obtain⟨Q,hQ⟩:∃Q,Q=uaA d.fs.length (udw d):=⟨_,rfl⟩
 rw [←hQ]at c61 hs1⊢
 refine ua0.is fun R hR=>qW (sc:=uyp) uai mix Tryz.func45 rfl Tryz.call45 (by kernel_rfl) (by kernel_rfl) ?_
 generalize Tryz.prog=P at c59 c61⊢
 cbv
 repeat' (first|with_reducible refine ua4 ?_ ?_|with_reducible refine And.intro ?_ ?_|(with_reducible intro hcd;(try simp only [zA,zB,zC,zD,zE,zF,zG,zH,zI,zJ,zK,zL,zM,zN,zO,zP]at hcd);try cbv)|(refine qP ?_ (c59) ?hfit;(case hfit=>((repeat' (first|exact qB|refine qD ?_ ?_|exact qE (by rfl)|exact qF (by rfl)|exact Fit.refl _|exact qA|refine qC ?_ rfl ?_));done));try cbv)|(refine qP ?_ (c61) ?hfit;(case hfit=>((repeat' (first|exact qB|refine qD ?_ ?_|exact qE (by rfl)|exact qF (by rfl)|exact Fit.refl _|exact qA|refine qC ?_ rfl ?_));done));try cbv)|fail)
 all_goals first|trivial|((try simp only [qV]at *);(try simp only [zQ,zA,zB,zC,zD,zE,zF,zG,zH,zI,zJ,zK,zL,zM,zN,zO,zP,zR,zS]at *);first|(refine qN ?_;omega)|(simp only [uaj];omega))|(subst hR;(repeat' (first|exact qA|exact qB|refine qC ?_ rfl ?_|refine qD ?_ ?_|exact qE (by rfl)|exact qF (by rfl)|exact Fit.refl _|exact qG _|(refine qE ?_;(try simp only [qV]at *);simp only [zQ,zA,zB,zC,zD,zE,zF,zG,zH,zI,zJ,zK,zL,zM,zN,zO,zP,zR,zS]at *;omega)));done)|skip
theorem unW (d:Dsp)(h:¬uam d=0):ua0 Tryz.prog 45 [(.agg [.clo 84 [] [],.clo 85 [] []]),(ub0 d)] [] (fun r _=>r=(.tup [(iS ((ug7 d))),(iv fun _=>uam d)])):=by
 have c59:=uiR d h
 refine ua0.is fun R hR=>qW (sc:=uyp) uai mix Tryz.func45 rfl Tryz.call45 (by kernel_rfl) (by kernel_rfl) ?_
 generalize Tryz.prog=P at c59⊢
 cbv
 repeat' (first|with_reducible refine And.intro ?_ ?_|(with_reducible intro hcd;(try simp only [zA,zB,zC,zD,zE,zF,zG,zH,zI,zJ,zK,zL,zM,zN,zO,zP]at hcd);try cbv)|(refine qP ?_ (c59) ?hfit;(case hfit=>((repeat' (first|exact qB|refine qD ?_ ?_|exact qE (by rfl)|exact qF (by rfl)|exact Fit.refl _|exact qA|refine qC ?_ rfl ?_));done));try cbv)|fail)
 all_goals first|trivial|(subst hR;(exact qD (qO (by(have e:ug7 d=[]:=if_neg h);rw [e];rfl)) (qD (Fit.refl _) qB));done)|skip
theorem uqe (d:Dsp):ua0 Tryz.prog 45 [(.agg [.clo 84 [] [],.clo 85 [] []]),(ub0 d)] [] (fun r _=>r=(.tup [(iS ((ug7 d))),(iv fun _=>uam d)])):=by
 by_cases h:uam d=0
 ·exact uoy d h
 ·exact unW d h
theorem uqT (d:Dsp):ua0 Tryz.prog 13 [(ub0 d)] [] (fun r _=>r=(.tup [(iS ((ug7 d))),(iv fun _=>uam d)])):=by
 have cb:=usW
 have c57:=uqe d
 refine ua0.is fun R hR=>qW (sc:=uBY) uai mix Tryz.func13 rfl Tryz.call13 (by kernel_rfl) (by kernel_rfl) ?_
 generalize Tryz.prog=P at cb c57⊢
 cbv
 repeat' (first|(refine qP ?_ (cb) ?hfit;(case hfit=>((repeat' (first|exact qB|refine qD ?_ ?_|exact qE (by rfl)|exact qF (by rfl)|exact Fit.refl _|exact qA|refine qC ?_ rfl ?_));done));try cbv)|(refine qP ?_ (c57) ?hfit;(case hfit=>((repeat' (first|exact qB|refine qD ?_ ?_|exact qE (by rfl)|exact qF (by rfl)|exact Fit.refl _|exact qA|refine qC ?_ rfl ?_));done));try cbv)|fail)
 all_goals first|(subst hR;(repeat' (first|exact qA|exact qB|refine qC ?_ rfl ?_|refine qD ?_ ?_|exact qE (by rfl)|exact qF (by rfl)|exact Fit.refl _|exact qG _|(refine qE ?_;(try simp only [qV]at *);simp only [zQ,zA,zB,zC,zD,zE,zF,zG,zH,zI,zJ,zK,zL,zM,zN,zO,zP,zR,zS]at *;omega)));done)|skip
theorem uok (d:Dsp)(h:uam d=0):ua0 Tryz.prog 45 [(.agg [.clo 86 [] [],.clo 87 [] []]),(ub0 d)] [] (fun r _=>r=(.tup [(iS ((uua d))),(iv fun _=>uam d)])):=by
 have c59:=umv d h
 have hd:=ua3.1 (uaH h).1
 have hs:=uh6 (ufE h)
 have hsm:uua d=udr d.pn.toNat (uc8 d):=if_pos h
 rw [hsm,h,←hs.2]
 have hs1:=hs.1
 have c61:=ugB d hd
 obtain⟨Q,hQ⟩:∃Q,Q=uaA d.pn.toNat (uc8 d):=⟨_,rfl⟩
 rw [←hQ]at c61 hs1⊢
 refine ua0.is fun R hR=>qW (sc:=uyp) uai mix Tryz.func45 rfl Tryz.call45 (by kernel_rfl) (by kernel_rfl) ?_
 generalize Tryz.prog=P at c59 c61⊢
 cbv
 repeat' (first|with_reducible refine ua4 ?_ ?_|with_reducible refine And.intro ?_ ?_|(with_reducible intro hcd;(try simp only [zA,zB,zC,zD,zE,zF,zG,zH,zI,zJ,zK,zL,zM,zN,zO,zP]at hcd);try cbv)|(refine qP ?_ (c59) ?hfit;(case hfit=>((repeat' (first|exact qB|refine qD ?_ ?_|exact qE (by rfl)|exact qF (by rfl)|exact Fit.refl _|exact qA|refine qC ?_ rfl ?_));done));try cbv)|(refine qP ?_ (c61) ?hfit;(case hfit=>((repeat' (first|exact qB|refine qD ?_ ?_|exact qE (by rfl)|exact qF (by rfl)|exact Fit.refl _|exact qA|refine qC ?_ rfl ?_));done));try cbv)|fail)
 all_goals first|trivial|((try simp only [qV]at *);(try simp only [zQ,zA,zB,zC,zD,zE,zF,zG,zH,zI,zJ,zK,zL,zM,zN,zO,zP,zR,zS]at *);first|(refine qN ?_;omega)|(simp only [uaj];omega))|(subst hR;(repeat' (first|exact qA|exact qB|refine qC ?_ rfl ?_|refine qD ?_ ?_|exact qE (by rfl)|exact qF (by rfl)|exact Fit.refl _|exact qG _|(refine qE ?_;(try simp only [qV]at *);simp only [zQ,zA,zB,zC,zD,zE,zF,zG,zH,zI,zJ,zK,zL,zM,zN,zO,zP,zR,zS]at *;omega)));done)|skip
theorem uoo (d:Dsp)(h:¬uam d=0):ua0 Tryz.prog 45 [(.agg [.clo 86 [] [],.clo 87 [] []]),(ub0 d)] [] (fun r _=>r=(.tup [(iS ((uua d))),(iv fun _=>uam d)])):=by
 have c59:=uiR d h
 refine ua0.is fun R hR=>qW (sc:=uyp) uai mix Tryz.func45 rfl Tryz.call45 (by kernel_rfl) (by kernel_rfl) ?_
 generalize Tryz.prog=P at c59⊢
 cbv
 repeat' (first|with_reducible refine And.intro ?_ ?_|(with_reducible intro hcd;(try simp only [zA,zB,zC,zD,zE,zF,zG,zH,zI,zJ,zK,zL,zM,zN,zO,zP]at hcd);try cbv)|(refine qP ?_ (c59) ?hfit;(case hfit=>((repeat' (first|exact qB|refine qD ?_ ?_|exact qE (by rfl)|exact qF (by rfl)|exact Fit.refl _|exact qA|refine qC ?_ rfl ?_));done));try cbv)|fail)
 all_goals first|trivial|(subst hR;(exact qD (qO (by(have e:uua d=[]:=if_neg h);rw [e];rfl)) (qD (Fit.refl _) qB));done)|skip
theorem upS (d:Dsp):ua0 Tryz.prog 45 [(.agg [.clo 86 [] [],.clo 87 [] []]),(ub0 d)] [] (fun r _=>r=(.tup [(iS ((uua d))),(iv fun _=>uam d)])):=by
 by_cases h:uam d=0
 ·exact uok d h
 ·exact uoo d h
theorem uqa (d:Dsp):ua0 Tryz.prog 18 [(ub0 d)] [] (fun r _=>r=(.tup [(iS ((uua d))),(iv fun _=>uam d)])):=by
 have cb:=ugA
 have c57:=upS d
 refine ua0.is fun R hR=>qW (sc:=uBr) uai mix Tryz.func18 rfl Tryz.call18 (by kernel_rfl) (by kernel_rfl) ?_
 generalize Tryz.prog=P at cb c57⊢
 cbv
 repeat' (first|(refine qP ?_ (cb) ?hfit;(case hfit=>((repeat' (first|exact qB|refine qD ?_ ?_|exact qE (by rfl)|exact qF (by rfl)|exact Fit.refl _|exact qA|refine qC ?_ rfl ?_));done));try cbv)|(refine qP ?_ (c57) ?hfit;(case hfit=>((repeat' (first|exact qB|refine qD ?_ ?_|exact qE (by rfl)|exact qF (by rfl)|exact Fit.refl _|exact qA|refine qC ?_ rfl ?_));done));try cbv)|fail)
 all_goals first|(subst hR;(repeat' (first|exact qA|exact qB|refine qC ?_ rfl ?_|refine qD ?_ ?_|exact qE (by rfl)|exact qF (by rfl)|exact Fit.refl _|exact qG _|(refine qE ?_;(try simp only [qV]at *);simp only [zQ,zA,zB,zC,zD,zE,zF,zG,zH,zI,zJ,zK,zL,zM,zN,zO,zP,zR,zS]at *;omega)));done)|skip
end Go.Proofs.YtkdggbfknlcdaaaGreat
namespace Go.Proofs.YtkdggbfknlcdaaaGreat
open Go.Eng.Dif Go.Eng.Few
theorem um7 {L:List (List Int)} {i:Nat}(h:i<L.length):L.getD i []∈L:=by
 rw [List.getD_eq_getElem?_getD,List.getElem?_eq_getElem h];exact List.getElem_mem h
theorem urc {L:List (List Int)} {x:List Int}(h:x∈L):∃i,i<L.length∧L.getD i []=x:=by
 obtain⟨i,h1,h2⟩:=List.getElem_of_mem h
 exact⟨i,h1,by rw [List.getD_eq_getElem?_getD,List.getElem?_eq_getElem h1];exact h2⟩
theorem uto (L:List (List Int))(p:Int):uhy (fun i=>inL (L.getD i []) p) L.length=L.all fun F=>F.contains p:=by
 apply Bool.eq_iff_iff.2
 rw [uah,List.all_eq_true]
 constructor
 ·intro h x hx
  obtain⟨i,h1,h2⟩:=urc hx
  rw [←h2,←uhS];exact h i h1
 ·intro h i hi
  rw [uhS];exact h _ (um7 hi)
theorem uu3 (L:List (List Int))(p:Int):decide (0≤ubK (fun i=> !(inL (L.getD i []) p)) L.length 0)=L.any fun F=>F.contains p:=by
 apply Bool.eq_iff_iff.2
 rw [decide_eq_true_eq,uiA,List.any_eq_true]
 constructor
 ·rintro⟨j,_,h2,h3⟩
  refine⟨L.getD j [],um7 (by omega),?_⟩
  rw [←uhS]
  simpa using h3
 ·rintro⟨x,hx,hp⟩
  obtain⟨i,h1,h2⟩:=urc hx
  refine⟨i,by omega,by omega,?_⟩
  rw [h2,uhS,hp];rfl
def um5 (d:Dsp):Nat→Bool:=umf d.pn.toNat (uc8 d)
def urw (d:Dsp):Nat→Bool:=ulR d.pn.toNat (uc8 d)
def uhL (d:Dsp):List Int:=if uam d=0 then ubZ (um5 d) d.pn.toNat else []
def usq (d:Dsp):List Int:=if uam d=0 then ubZ (urw d) d.pn.toNat else []
theorem uqt {f:Nat→Bool} {k:Nat}(h:f k=true):ubZ f (k+1)=ubZ f k++[(k:Int)]:=by simp only [ubZ,h,if_true]
theorem up1 {f:Nat→Bool} {k:Nat}(h:f k=false):ubZ f (k+1)=ubZ f k:=by simp only [ubZ,h,Bool.false_eq_true,if_false]
theorem uig (f:Nat→Bool):∀n,(ubZ f n).length≤n:=by
 intro n
 induction n with
 |zero=>exact Nat.le_refl _
 | succ n ih=>
  cases h:f n with
  |true=>rw [uqt h,List.length_append];simp only [List.length_cons,List.length_nil];omega
  |false=>rw [up1 h];omega
theorem ujM {n:Nat} {ok:List Int→Bool}(hn:n≤4)(h:ok (uaZ n)=true):(uaA n ok).length≤1000∧∀i,((uaA n ok).getD i []).length≤1000:=by
 have hl:∀F∈uaA n ok,F.length≤4:=fun F hF=>by
  have q:=(ueZ h).1 hF
  have:=ulq h
  omega
 constructor
 ·obtain⟨j,h1,h2,_,_⟩:=uih h
  rw [h2]
  exact Nat.le_trans unf (Nat.le_trans (Nat.pow_le_pow_left hn j) (Nat.le_trans (Nat.pow_le_pow_right (by omega) (show j≤4 by omega)) (by decide)))
 ·intro i
  rcases Nat.lt_or_ge i (uaA n ok).length with q|q
  ·have:=hl _ (um7 q);omega
  ·rw [List.getD_eq_getElem?_getD,List.getElem?_eq_none q];simp
end Go.Proofs.YtkdggbfknlcdaaaGreat
namespace Go.Proofs.YtkdggbfknlcdaaaGreat
open Go Go.Eng Go.Proofs Go.Eng.Dif Go.Eng.Few
set_option maxRecDepth 10000
theorem ur5 (x:List Int)(p:Int)(hx:x.length≤1000):ua0 Tryz.prog 52 [(iS x),.own 0 0] [.cells [(iv fun _=>p)] 3] (fun r bs=>r=(bv fun _=>inL x p)∧bs=[.cells [(iv fun _=>p)] 3]):=by
 have c63:=ufY x p hx
 refine ua0.isB rfl fun R B hR hB=>qW (sc:=uBp) uai mix Tryz.func52 rfl Tryz.call52 (by kernel_rfl) (by kernel_rfl) ?_
 generalize Tryz.prog=P at c63⊢
 cbv
 repeat' (first|with_reducible refine And.intro ?_ ?_|(refine qP ?_ (c63) ?hfit;(case hfit=>((repeat' (first|exact qB|refine qD ?_ ?_|exact qE (by rfl)|exact qF (by rfl)|exact Fit.refl _|exact qA|refine qC ?_ rfl ?_));done));try cbv)|fail)
 all_goals first|(subst hR;(repeat' (first|exact qA|exact qB|refine qC ?_ rfl ?_|refine qD ?_ ?_|exact qE (by rfl)|exact qF (by rfl)|exact Fit.refl _|exact qG _|(refine qE ?_;(try simp only [qV]at *);simp only [zQ,zA,zB,zC,zD,zE,zF,zG,zH,zI,zJ,zK,zL,zM,zN,zO,zP,zR,zS]at *;omega)));done)|(subst hB;(repeat' (first|exact qH|refine qI ?_ ?_|exact qK _|refine qJ ?_|exact qA|exact qE (by rfl)|exact qF (by rfl)|exact Fit.refl _|exact qG _|refine qC ?_ rfl ?_));done)|skip
theorem uoj (L:List (List Int))(p:Int)(hL:∀i,(L.getD i []).length≤1000)(hfew:L.length≤1000)(i:Nat)(hi:i<L.length∧∀j,j<i→(inL (L.getD (j) []) p)=true):ua0 Tryz.prog 91 [(.sl 1 (.sym fun _=>zi ((L.getD (i) [])).length) (fun ix=>[(iv fun _=>((L.getD (i) [])).getD ix.den.toNat 0)])),.own 0 0] [.cells [.clo 52 [] [.own 1 0]] 117,.cells [(iv fun _=>p)] 3] (fun r bs=>r=(bv fun _=> !(inL (L.getD (i) []) p))∧bs=[.cells [.clo 52 [] [.own 1 0]] 117,.cells [(iv fun _=>p)] 3]):=by
 have cf:=ur5 (L.getD i []) p (hL i)
 refine ua0.isB rfl fun R B hR hB=>qW (sc:=uBy) uai mix Tryz.func91 rfl Tryz.call91 (by kernel_rfl) (by kernel_rfl) ?_
 generalize Tryz.prog=P at cf⊢
 cbv
 repeat' (first
  |with_reducible refine And.intro ?_ ?_
  | (refine⟨some [1],?_⟩
     cbv
     refine qQ ?_ (cf) (by cbv;(repeat' (first|exact qB|refine qD ?_ ?_|exact qE (by rfl)|exact qF (by rfl)|exact Fit.refl _|exact qA|refine qC ?_ rfl ?_))) (by cbv;(repeat' (first|exact qH|refine qI ?_ ?_|exact qK _|refine qJ ?_|exact qA|exact qE (by rfl)|exact qF (by rfl)|exact Fit.refl _|exact qG _|refine qC ?_ rfl ?_)))
     try cbv)
  |fail)
 all_goals first|(subst hR;(repeat' (first|exact qA|exact qB|refine qC ?_ rfl ?_|refine qD ?_ ?_|exact qE (by rfl)|exact qF (by rfl)|exact Fit.refl _|exact qG _|(refine qE ?_;(try simp only [qV]at *);simp only [zQ,zA,zB,zC,zD,zE,zF,zG,zH,zI,zJ,zK,zL,zM,zN,zO,zP,zR,zS]at *;omega)));done)|(subst hB;(repeat' (first|exact qH|refine qI ?_ ?_|exact qK _|refine qJ ?_|exact qA|exact qE (by rfl)|exact qF (by rfl)|exact Fit.refl _|exact qG _|refine qC ?_ rfl ?_));done)|skip
theorem unK (L:List (List Int))(p:Int)(hL:∀i,(L.getD i []).length≤1000)(hfew:L.length≤1000):ua0 Tryz.prog 92 [(.sl 1 (.sym fun _=>zi (L).length) (fun ix=>[(.sl 1 (.sym fun _=>zi ((L).getD ix.den.toNat []).length) (fun jx=>[(iv fun _=>((L).getD ix.den.toNat []).getD jx.den.toNat 0)]))])),.clo 91 [] [.own 0 0]] [.cells [.clo 52 [] [.own 1 0]] 117,.cells [(iv fun _=>p)] 3] (fun r bs=>r=(iv fun _=>ubK (fun i=>inL (L.getD (i) []) p) (L.length) 0)∧bs=[.cells [.clo 52 [] [.own 1 0]] 117,.cells [(iv fun _=>p)] 3]):=by
 have cl:=uoj L p hL hfew
 refine ua0.isB rfl fun R B hR hB=>qW (sc:=uz5) uai mix Tryz.func92 rfl Tryz.call92 (by kernel_rfl) (by kernel_rfl) ?_
 generalize Tryz.prog=P at cl⊢
 cbv
 repeat' (first|fail)
 all_goals first|skip
 refine⟨none,[],{i:Nat // i≤L.length∧ubK (fun i=>inL (L.getD (i) []) p) (L.length) 0=ubK (fun i=>inL (L.getD (i) []) p) (L.length-i) i∧∀j,j<i→(inL (L.getD (j) []) p)=true},fun x=>⟨[(0,(.sl 1 (.sym fun _=>zi (L).length) (fun ix=>[(.sl 1 (.sym fun _=>zi ((L).getD ix.den.toNat []).length) (fun jx=>[(iv fun _=>((L).getD ix.den.toNat []).getD jx.den.toNat 0)]))]))),(1,.clo 91 [] [.own 0 0]),(7,(iv fun _=>zi (L.length))),(8,(iv fun _=>zi x.1))],[(0,.cells [.clo 52 [] [.own 1 0]] 117),(1,.cells [(iv fun _=>p)] 3)],20⟩,fun x=>L.length-x.1,?_,?_⟩
 ·refine⟨⟨0,by omega,rfl,fun j hj=>by omega⟩,?_⟩
  cbv
  repeat' (first|with_reducible refine ua4 ?_ ?_|with_reducible refine And.intro ?_ ?_)
  all_goals first|trivial|exact qM (qE (by rfl))|exact qM (Fit.refl _)|exact qL (qK _)|skip
 ·rintro ⟨i,hi,hr,hq⟩
  cbv
  repeat' (first
   |with_reducible refine ua4 ?_ ?_
   |with_reducible refine And.intro ?_ ?_
   |(with_reducible intro hcd;(try simp only [zA,zB,zC,zD,zE,zF,zG,zH,zI,zJ,zK,zL,zM,zN,zO,zP]at hcd);try cbv)
   | (refine⟨some [0,1],?_⟩
      cbv
      refine qQ ?_ (cl i ⟨by(try simp only [qV]at *);simp only [uac]at *;omega,hq⟩) (by cbv;(repeat' (first|exact qB|refine qD ?_ ?_|exact qE (by rfl)|exact qF (by rfl)|exact Fit.refl _|exact qA|refine qC ?_ rfl ?_))) (by cbv;(repeat' (first|exact qH|refine qI ?_ ?_|exact qK _|refine qJ ?_|exact qA|exact qE (by rfl)|exact qF (by rfl)|exact Fit.refl _|exact qG _|refine qC ?_ rfl ?_)))
      try cbv)
   |fail)
  all_goals first|((try simp only [qV]at *);(try simp only [zQ,zA,zB,zC,zD,zE,zF,zG,zH,zI,zJ,zK,zL,zM,zN,zO,zP,zR,zS]at *);first|(refine qN ?_;omega)|(simp only [uaj];omega))|(subst hR;(refine qE ?_;simp only [zQ,zA,zB,zC,zD,zE,zF,zG,zH,zI,zJ,zK,zL,zM,zN,zO,zP,zR,zS]at *;rw [hr,ubd (by omega) hcd]);done)|(subst hR;(refine qE ?_;simp only [zQ,zA,zB,zC,zD,zE,zF,zG,zH,zI,zJ,zK,zL,zM,zN,zO,zP,zR,zS]at *;rw [hr,show L.length-i=0 by omega];rfl);done)|(subst hB;(repeat' (first|exact qH|refine qI ?_ ?_|exact qK _|refine qJ ?_|exact qA|exact qE (by rfl)|exact qF (by rfl)|exact Fit.refl _|exact qG _|refine qC ?_ rfl ?_));done)|((try simp only [zQ,zA,zB,zC,zD,zE,zF,zG,zH,zI,zJ,zK,zL,zM,zN,zO,zP,zR,zS]at *);refine⟨⟨i+1,by omega,by rw [hr,ucr (by omega) hcd];(try congr 1)<;>omega,fun j hj=>(Nat.lt_or_ge j i).elim (hq j) (fun q=>by rw [show j=i by omega];exact hcd)⟩,by simp only [];omega,?_⟩;cbv;(repeat' (first|with_reducible refine ua4 ?_ ?_|with_reducible refine And.intro ?_ ?_));(all_goals first|trivial|exact qM (qE (by rfl))|exact qM (qF (by rfl))|exact qM (Fit.refl _)|exact qL (qK _)|(refine qM (qE ?_);(try simp only [qV]at *);simp only [zQ,zA,zB,zC,zD,zE,zF,zG,zH,zI,zJ,zK,zL,zM,zN,zO,zP,zR,zS]at *;omega)|(refine qL (qJ ?_);(repeat' (first|exact qA|exact qB|refine qC ?_ rfl ?_|refine qD ?_ ?_|exact qE (by rfl)|exact qF (by rfl)|exact Fit.refl _|exact qG _|(refine qE ?_;(try simp only [qV]at *);simp only [zQ,zA,zB,zC,zD,zE,zF,zG,zH,zI,zJ,zK,zL,zM,zN,zO,zP,zR,zS]at *;omega)));done)|skip))|skip
theorem ulG (L:List (List Int))(p:Int)(hL:∀i,(L.getD i []).length≤1000)(hfew:L.length≤1000):ua0 Tryz.prog 55 [(.sl 1 (.sym fun _=>zi (L).length) (fun ix=>[(.sl 1 (.sym fun _=>zi ((L).getD ix.den.toNat []).length) (fun jx=>[(iv fun _=>((L).getD ix.den.toNat []).getD jx.den.toNat 0)]))])),.clo 91 [] [.own 0 0]] [.cells [.clo 52 [] [.own 1 0]] 117,.cells [(iv fun _=>p)] 3] (fun r bs=>r=(bv fun _=>decide (0≤ubK (fun i=>inL (L.getD (i) []) p) (L.length) 0))∧bs=[.cells [.clo 52 [] [.own 1 0]] 117,.cells [(iv fun _=>p)] 3]):=by
 have ci:=unK L p hL hfew
 refine ua0.isB rfl fun R B hR hB=>qW (sc:=uzQ) uai mix Tryz.func55 rfl Tryz.call55 (by kernel_rfl) (by kernel_rfl) ?_
 generalize Tryz.prog=P at ci⊢
 cbv
 repeat' (first
  |with_reducible refine And.intro ?_ ?_
  | (refine⟨some [0,1],?_⟩
     cbv
     refine qQ ?_ (ci) (by cbv;(repeat' (first|exact qB|refine qD ?_ ?_|exact qE (by rfl)|exact qF (by rfl)|exact Fit.refl _|exact qA|refine qC ?_ rfl ?_))) (by cbv;(repeat' (first|exact qH|refine qI ?_ ?_|exact qK _|refine qJ ?_|exact qA|exact qE (by rfl)|exact qF (by rfl)|exact Fit.refl _|exact qG _|refine qC ?_ rfl ?_)))
     try cbv)
  |fail)
 all_goals first|(subst hR;(repeat' (first|exact qA|exact qB|refine qC ?_ rfl ?_|refine qD ?_ ?_|exact qE (by rfl)|exact qF (by rfl)|exact Fit.refl _|exact qG _|(refine qE ?_;(try simp only [qV]at *);simp only [zQ,zA,zB,zC,zD,zE,zF,zG,zH,zI,zJ,zK,zL,zM,zN,zO,zP,zR,zS]at *;omega)));done)|(subst hB;(repeat' (first|exact qH|refine qI ?_ ?_|exact qK _|refine qJ ?_|exact qA|exact qE (by rfl)|exact qF (by rfl)|exact Fit.refl _|exact qG _|refine qC ?_ rfl ?_));done)|skip
theorem uhU (L:List (List Int))(p:Int)(hL:∀i,(L.getD i []).length≤1000)(hfew:L.length≤1000):ua0 Tryz.prog 54 [(.sl 1 (.sym fun _=>zi (L).length) (fun ix=>[(.sl 1 (.sym fun _=>zi ((L).getD ix.den.toNat []).length) (fun jx=>[(iv fun _=>((L).getD ix.den.toNat []).getD jx.den.toNat 0)]))])),.clo 52 [] [.own 0 0]] [.cells [(iv fun _=>p)] 3] (fun r bs=>r=(bv fun _=>uhy (fun i=>inL (L.getD (i) []) p) (L.length))∧bs=[.cells [(iv fun _=>p)] 3]):=by
 have cc:=ulG L p hL hfew
 refine ua0.isB rfl fun R B hR hB=>qW (sc:=uB1) uai mix Tryz.func54 rfl Tryz.call54 (by kernel_rfl) (by kernel_rfl) ?_
 generalize Tryz.prog=P at cc⊢
 cbv
 repeat' (first
  |with_reducible refine And.intro ?_ ?_
  | (refine⟨some [1,0],?_⟩
     cbv
     refine qQ ?_ (cc) (by cbv;(repeat' (first|exact qB|refine qD ?_ ?_|exact qE (by rfl)|exact qF (by rfl)|exact Fit.refl _|exact qA|refine qC ?_ rfl ?_))) (by cbv;(repeat' (first|exact qH|refine qI ?_ ?_|exact qK _|refine qJ ?_|exact qA|exact qE (by rfl)|exact qF (by rfl)|exact Fit.refl _|exact qG _|refine qC ?_ rfl ?_)))
     try cbv)
  |fail)
 all_goals first|(subst hR;(repeat' (first|exact qA|exact qB|refine qC ?_ rfl ?_|refine qD ?_ ?_|exact qE (by rfl)|exact qF (by rfl)|exact Fit.refl _|exact qG _|(refine qE ?_;(try simp only [qV]at *);simp only [zQ,zA,zB,zC,zD,zE,zF,zG,zH,zI,zJ,zK,zL,zM,zN,zO,zP,zR,zS]at *;omega)));done)|(subst hB;(repeat' (first|exact qH|refine qI ?_ ?_|exact qK _|refine qJ ?_|exact qA|exact qE (by rfl)|exact qF (by rfl)|exact Fit.refl _|exact qG _|refine qC ?_ rfl ?_));done)|skip
theorem urg (L:List (List Int))(p:Int)(hL:∀i,(L.getD i []).length≤1000)(hfew:L.length≤1000):ua0 Tryz.prog 92 [(.sl 1 (.sym fun _=>zi (L).length) (fun ix=>[(.sl 1 (.sym fun _=>zi ((L).getD ix.den.toNat []).length) (fun jx=>[(iv fun _=>((L).getD ix.den.toNat []).getD jx.den.toNat 0)]))])),.clo 52 [] [.own 0 0]] [.cells [(iv fun _=>p)] 3] (fun r bs=>r=(iv fun _=>ubK (fun i=> !(inL (L.getD i []) p)) L.length 0)∧bs=[.cells [(iv fun _=>p)] 3]):=by
 have c62:=fun (i:Nat)=>ur5 (L.getD i []) p (hL i)
 refine ua0.isB rfl fun R B hR hB=>qW (sc:=uz5) uai mix Tryz.func92 rfl Tryz.call92 (by kernel_rfl) (by kernel_rfl) ?_
 generalize Tryz.prog=P at c62⊢
 cbv
 repeat' (first|fail)
 all_goals first|skip
 refine⟨none,[],{i:Nat // i≤L.length∧ubK (fun i=> !(inL (L.getD i []) p)) L.length 0=ubK (fun i=> !(inL (L.getD i []) p)) (L.length-i) i},fun x=>⟨[(0,(.sl 1 (.sym fun _=>zi (L).length) (fun ix=>[(.sl 1 (.sym fun _=>zi ((L).getD ix.den.toNat []).length) (fun jx=>[(iv fun _=>((L).getD ix.den.toNat []).getD jx.den.toNat 0)]))]))),(1,.clo 52 [] [.own 0 0]),(7,(iv fun _=>zi L.length)),(8,(iv fun _=>zi x.1))],[(0,.cells [(iv fun _=>p)] 3)],20⟩,fun x=>L.length-x.1,?_,?_⟩
 ·refine⟨⟨0,by omega,rfl⟩,?_⟩
  cbv
  repeat' (first|with_reducible refine ua4 ?_ ?_|with_reducible refine And.intro ?_ ?_)
  all_goals first|trivial|exact qM (qE (by rfl))|exact qM (Fit.refl _)|exact qL (qK _)|skip
 ·rintro ⟨i,hi,hr⟩
  cbv
  repeat' (first
   |with_reducible refine ua4 ?_ ?_
   |with_reducible refine And.intro ?_ ?_
   |(with_reducible intro hcd;(try simp only [zA,zB,zC,zD,zE,zF,zG,zH,zI,zJ,zK,zL,zM,zN,zO,zP]at hcd);try cbv)
   | (refine⟨some [0],?_⟩
      cbv
      refine qQ ?_ (c62 i) ?hfit ?hbo
      case hfit=>(cbv;(repeat' (first|exact qB|refine qD ?_ ?_|exact qE (by rfl)|exact qF (by rfl)|exact Fit.refl _|exact qA|refine qC ?_ rfl ?_));done)
      case hbo=>(cbv;(repeat' (first|exact qH|refine qI ?_ ?_|exact qK _|refine qJ ?_|exact qA|exact qE (by rfl)|exact qF (by rfl)|exact Fit.refl _|exact qG _|refine qC ?_ rfl ?_));done)
      try cbv)
   |fail)
  all_goals first|((try simp only [qV]at *);(try simp only [zQ,zA,zB,zC,zD,zE,zF,zG,zH,zI,zJ,zK,zL,zM,zN,zO,zP,zR,zS]at *);first|(refine qN ?_;omega)|(simp only [uaj];omega))|(subst hR;(refine qE ?_;(try simp only [qV]at *);(try simp only [zQ,zA,zB,zC,zD,zE,zF,zG,zH,zI,zJ,zK,zL,zM,zN,zO,zP,zR,zS]at *);rw [hr,ubd (by omega) (by rw [hcd];rfl)]);done)|(subst hR;(refine qE ?_;(try simp only [qV]at *);(try simp only [zQ,zA,zB,zC,zD,zE,zF,zG,zH,zI,zJ,zK,zL,zM,zN,zO,zP,zR,zS]at *);rw [hr,show L.length-i=0 by omega];rfl);done)|(subst hB;(repeat' (first|exact qH|refine qI ?_ ?_|exact qK _|refine qJ ?_|exact qA|exact qE (by rfl)|exact qF (by rfl)|exact Fit.refl _|exact qG _|refine qC ?_ rfl ?_));done)|((try simp only [zQ,zA,zB,zC,zD,zE,zF,zG,zH,zI,zJ,zK,zL,zM,zN,zO,zP,zR,zS]at *);refine⟨⟨i+1,by omega,by rw [hr,ucr (by omega) (by rw [hcd];rfl)];(try congr 1)<;>omega⟩,by simp only [];omega,?_⟩;cbv;(repeat' (first|with_reducible refine ua4 ?_ ?_|with_reducible refine And.intro ?_ ?_));(all_goals first|trivial|exact qM (qE (by rfl))|exact qM (qF (by rfl))|exact qM (Fit.refl _)|exact qL (qK _)|(refine qM (qE ?_);(try simp only [qV]at *);simp only [zQ,zA,zB,zC,zD,zE,zF,zG,zH,zI,zJ,zK,zL,zM,zN,zO,zP,zR,zS]at *;omega)|(refine qL (qJ ?_);(repeat' (first|exact qA|exact qB|refine qC ?_ rfl ?_|refine qD ?_ ?_|exact qE (by rfl)|exact qF (by rfl)|exact Fit.refl _|exact qG _|(refine qE ?_;(try simp only [qV]at *);simp only [zQ,zA,zB,zC,zD,zE,zF,zG,zH,zI,zJ,zK,zL,zM,zN,zO,zP,zR,zS]at *;omega)));done)|skip))|skip
theorem uid (L:List (List Int))(p:Int)(hL:∀i,(L.getD i []).length≤1000)(hfew:L.length≤1000):ua0 Tryz.prog 55 [(.sl 1 (.sym fun _=>zi (L).length) (fun ix=>[(.sl 1 (.sym fun _=>zi ((L).getD ix.den.toNat []).length) (fun jx=>[(iv fun _=>((L).getD ix.den.toNat []).getD jx.den.toNat 0)]))])),.clo 52 [] [.own 0 0]] [.cells [(iv fun _=>p)] 3] (fun r bs=>r=(bv fun _=>decide (0≤ubK (fun i=> !(inL (L.getD i []) p)) L.length 0))∧bs=[.cells [(iv fun _=>p)] 3]):=by
 have c97:=urg L p hL hfew
 refine ua0.isB rfl fun R B hR hB=>qW (sc:=uzQ) uai mix Tryz.func55 rfl Tryz.call55 (by kernel_rfl) (by kernel_rfl) ?_
 generalize Tryz.prog=P at c97⊢
 cbv
 repeat' (first
  |with_reducible refine And.intro ?_ ?_
  | (refine⟨some [0],?_⟩
     cbv
     refine qQ ?_ (c97) ?hfit ?hbo
     case hfit=>(cbv;(repeat' (first|exact qB|refine qD ?_ ?_|exact qE (by rfl)|exact qF (by rfl)|exact Fit.refl _|exact qA|refine qC ?_ rfl ?_));done)
     case hbo=>(cbv;(repeat' (first|exact qH|refine qI ?_ ?_|exact qK _|refine qJ ?_|exact qA|exact qE (by rfl)|exact qF (by rfl)|exact Fit.refl _|exact qG _|refine qC ?_ rfl ?_));done)
     try cbv)
  |fail)
 all_goals first|(subst hR;(repeat' (first|exact qA|exact qB|refine qC ?_ rfl ?_|refine qD ?_ ?_|exact qE (by rfl)|exact qF (by rfl)|exact Fit.refl _|exact qG _|(refine qE ?_;(try simp only [qV]at *);simp only [zQ,zA,zB,zC,zD,zE,zF,zG,zH,zI,zJ,zK,zL,zM,zN,zO,zP,zR,zS]at *;omega)));done)|(subst hB;(repeat' (first|exact qH|refine qI ?_ ?_|exact qK _|refine qJ ?_|exact qA|exact qE (by rfl)|exact qF (by rfl)|exact Fit.refl _|exact qG _|refine qC ?_ rfl ?_));done)|skip
set_option maxHeartbeats 2000000 in
theorem usg (d:Dsp)(h:uam d=0):ua0 Tryz.prog 19 [(ub0 d)] [] (fun r _=>r=(.tup [(iS ((uhL d))),(iS ((usq d))),(iv fun _=>uam d)])):=by
 have c59:=umv d h
 have c58:=ugA
 have hF:=(uaH h).1
 have hd:=ua3.1 hF
 have p1:=hd.p1
 have p4:=hd.p4
 have c61:=ugB d hd
 have hsf:=ujM (n:=d.pn.toNat) (ok:=uc8 d) (by omega) (ufE h)
 rw [show uhL d=ubZ (um5 d) d.pn.toNat from if_pos h,show usq d=ubZ (urw d) d.pn.toNat from if_pos h,h]
 have hA:∀k:Nat,uhy (fun i=>inL ((uaA d.pn.toNat (uc8 d)).getD i []) (zi k)) (uaA d.pn.toNat (uc8 d)).length=um5 d k:=fun k=>uto _ _
 have hB:∀k:Nat,decide (0≤ubK (fun i=> !(inL ((uaA d.pn.toNat (uc8 d)).getD i []) (zi k))) (uaA d.pn.toNat (uc8 d)).length 0)=urw d k:=fun k=>uu3 _ _
 obtain⟨L,hL⟩:∃L,L=uaA d.pn.toNat (uc8 d):=⟨_,rfl⟩
 rw [←hL]at c61 hsf
 simp only [←hL]at hA hB
 have c64:=fun k:Nat=>(show ua0 Tryz.prog 54 [(.sl 1 (.sym fun _=>zi (L).length) (fun ix=>[(.sl 1 (.sym fun _=>zi ((L).getD ix.den.toNat []).length) (fun jx=>[(iv fun _=>((L).getD ix.den.toNat []).getD jx.den.toNat 0)]))])),.clo 52 [] [.own 0 0]] [.cells [(iv fun _=>zi k)] 3] (fun r bs=>r=(bv fun _=>um5 d k)∧bs=[.cells [(iv fun _=>zi k)] 3])from hA k▸uhU L (zi k) hsf.2 hsf.1)
 have c65:=fun k:Nat=>(show ua0 Tryz.prog 55 [(.sl 1 (.sym fun _=>zi (L).length) (fun ix=>[(.sl 1 (.sym fun _=>zi ((L).getD ix.den.toNat []).length) (fun jx=>[(iv fun _=>((L).getD ix.den.toNat []).getD jx.den.toNat 0)]))])),.clo 52 [] [.own 0 0]] [.cells [(iv fun _=>zi k)] 3] (fun r bs=>r=(bv fun _=>urw d k)∧bs=[.cells [(iv fun _=>zi k)] 3])from hB k▸uid L (zi k) hsf.2 hsf.1)
 obtain⟨fA,hfA⟩:∃f,f=um5 d:=⟨_,rfl⟩
 obtain⟨fB,hfB⟩:∃f,f=urw d:=⟨_,rfl⟩
 rw [←hfA]at c64⊢
 rw [←hfB]at c65⊢
 clear hA hB hL hfA hfB
 refine ua0.is fun R hR=>qW (sc:=uzo) uai mix Tryz.func19 rfl Tryz.call19 (by kernel_rfl) (by kernel_rfl) ?_
 generalize Tryz.prog=P at c59 c58 c61 c64 c65⊢
 cbv
 repeat' (first|with_reducible refine And.intro ?_ ?_|(with_reducible intro hcd;(try simp only [zA,zB,zC,zD,zE,zF,zG,zH,zI,zJ,zK,zL,zM,zN,zO,zP]at hcd);try cbv)|(refine qP ?_ (c59) ?hfit;(case hfit=>((repeat' (first|exact qB|refine qD ?_ ?_|exact qE (by rfl)|exact qF (by rfl)|exact Fit.refl _|exact qA|refine qC ?_ rfl ?_));done));try cbv)|(refine qP ?_ (c58) ?hfit;(case hfit=>((repeat' (first|exact qB|refine qD ?_ ?_|exact qE (by rfl)|exact qF (by rfl)|exact Fit.refl _|exact qA|refine qC ?_ rfl ?_));done));try cbv)|(refine qP ?_ (c61) ?hfit;(case hfit=>((repeat' (first|exact qB|refine qD ?_ ?_|exact qE (by rfl)|exact qF (by rfl)|exact Fit.refl _|exact qA|refine qC ?_ rfl ?_));done));try cbv)|fail)
 all_goals first|trivial|skip
 refine⟨none,[⟨.tmp 2,3,1⟩,⟨.tmp 3,3,1⟩],{k:Nat // k≤d.pn.toNat},fun x=>⟨[(1,.own 0 0),(6,(.sl 1 (.sym fun _=>zi (L).length) (fun ix=>[(.sl 1 (.sym fun _=>zi ((L).getD ix.den.toNat []).length) (fun jx=>[(iv fun _=>((L).getD ix.den.toNat []).getD jx.den.toNat 0)]))]))),(2,.row 20),(3,.row 21),(21,(iv fun _=>d.pn)),(22,(iv fun _=>zi x.1))],[(0,.cells [(iS d.tw),(iS d.tm),(.sl 1 (.sym fun _=>zi (d.tv).length) (fun ix=>[(.sl 1 (.sym fun _=>zi ((d.tv).getD ix.den.toNat []).length) (fun jx=>[(iv fun _=>((d.tv).getD ix.den.toNat []).getD jx.den.toNat 0)]))])),(iv fun _=>d.sn),(iv fun _=>d.pn),(.sl 4 (.sym fun _=>zi (d.ls).length) (fun ix=>[(iv fun _=>((d.ls).getD ix.den.toNat l0T).a),(iv fun _=>((d.ls).getD ix.den.toNat l0T).b),(iv fun _=>((d.ls).getD ix.den.toNat l0T).lo),(iv fun _=>((d.ls).getD ix.den.toNat l0T).hi)])),(.sl 6 (.sym fun _=>zi (d.fs).length) (fun ix=>[(iv fun _=>((d.fs).getD ix.den.toNat f0T).p),(iv fun _=>((d.fs).getD ix.den.toNat f0T).s),(iv fun _=>((d.fs).getD ix.den.toNat f0T).wl),(iv fun _=>((d.fs).getD ix.den.toNat f0T).wh),(iv fun _=>((d.fs).getD ix.den.toNat f0T).ml),(iv fun _=>((d.fs).getD ix.den.toNat f0T).mh)]))] 39),(20,.row 3 1 (.sym fun _=>zi ((ubZ fA x.1)).length) (fun ix=>[(iv fun _=>((ubZ fA x.1)).getD ix.den.toNat 0)])),(21,.row 3 1 (.sym fun _=>zi ((ubZ fB x.1)).length) (fun ix=>[(iv fun _=>((ubZ fB x.1)).getD ix.den.toNat 0)]))],100⟩,fun x=>d.pn.toNat-x.1,?_,?_⟩
 ·refine⟨⟨0,by omega⟩,?_⟩
  cbv
  repeat' (first|with_reducible refine ua4 ?_ ?_|with_reducible refine And.intro ?_ ?_)
  all_goals first|trivial|exact qM (qE (by rfl))|exact qM (Fit.refl _)|exact qL (qK _)|(refine qL (uae ?_ ?_);(first|rfl|((try simp only [qV]at *);(try simp only [zQ,zA,zB,zC,zD,zE,zF,zG,zH,zI,zJ,zK,zL,zM,zN,zO,zP,zR,zS]at *);omega));intro ix h0 h1;exfalso;(try simp only [qV]at *);(try simp only [zQ,zA,zB,zC,zD,zE,zF,zG,zH,zI,zJ,zK,zL,zM,zN,zO,zP,zR,zS]at *);omega)|skip
 ·rintro ⟨k,hk⟩
  cbv
  have hl1:=uig fA k
  have hl2:=uig fB k
  have hyA:=uqt (f:=fA) (k:=k)
  have hnA:=up1 (f:=fA) (k:=k)
  have hyB:=uqt (f:=fB) (k:=k)
  have hnB:=up1 (f:=fB) (k:=k)
  obtain⟨M1,hM1⟩:∃M,M=ubZ fA k:=⟨_,rfl⟩
  obtain⟨M2,hM2⟩:∃M,M=ubZ fB k:=⟨_,rfl⟩
  rw [←hM1]at hl1 hyA hnA⊢
  rw [←hM2]at hl2 hyB hnB⊢
  have c64k:=c64 k
  have c65k:=c65 k
  rcases hfa:fA k with _|_<;>rcases hfb:fB k with _|_
  ·rw [hfa]at c64k
   rw [hfb]at c65k
   cbv
   repeat' (first
    |with_reducible refine ua4 ?_ ?_
    |with_reducible refine And.intro ?_ ?_
    |(with_reducible intro hcd;(try simp only [zA,zB,zC,zD,zE,zF,zG,zH,zI,zJ,zK,zL,zM,zN,zO,zP]at hcd);try cbv)
    | (refine⟨some [102],?_⟩
       cbv
       refine qQ ?_ (c64k) ?hfit ?hbo
       case hfit=>(cbv;(repeat' (first|exact qB|refine qD ?_ ?_|exact qE (by rfl)|exact qF (by rfl)|exact Fit.refl _|exact qA|refine qC ?_ rfl ?_));done)
       case hbo=>(cbv;(repeat' (first|exact qH|refine qI ?_ ?_|exact qK _|refine qJ ?_|exact qA|exact qE (by rfl)|exact qF (by rfl)|exact Fit.refl _|exact qG _|refine qC ?_ rfl ?_));done)
       try cbv)
    | (refine⟨some [102],?_⟩
       cbv
       refine qQ ?_ (c65k) ?hfit ?hbo
       case hfit=>(cbv;(repeat' (first|exact qB|refine qD ?_ ?_|exact qE (by rfl)|exact qF (by rfl)|exact Fit.refl _|exact qA|refine qC ?_ rfl ?_));done)
       case hbo=>(cbv;(repeat' (first|exact qH|refine qI ?_ ?_|exact qK _|refine qJ ?_|exact qA|exact qE (by rfl)|exact qF (by rfl)|exact Fit.refl _|exact qG _|refine qC ?_ rfl ?_));done)
       try cbv)
    | (obtain⟨L3,eL3⟩:∃y:List Int,y=M1++[zi k]:=⟨_,rfl⟩
       refine⟨ueB L3,?_⟩
       cbv
       refine ua4 (uaq (L:=M1) eL3 (by(first|rfl|((try simp only [qV]at *);(try simp only [zQ,zA,zB,zC,zD,zE,zF,zG,zH,zI,zJ,zK,zL,zM,zN,zO,zP,zR,zS]at *);done)|((try simp only [qV]at *);(try simp only [zQ,zA,zB,zC,zD,zE,zF,zG,zH,zI,zJ,zK,zL,zM,zN,zO,zP,zR,zS]at *);omega))) (by rfl) (fun ix=>Fit.refl _) (fun ix h=>qC (qE (by rfl)) rfl qA) (by(try simp only [qV]at *);(try simp only [zQ,zA,zB,zC,zD,zE,zF,zG,zH,zI,zJ,zK,zL,zM,zN,zO,zP,zR,zS]at *);omega)) (Or.inl ?_)
       try cbv)
    | (obtain⟨L4,eL4⟩:∃y:List Int,y=M2++[zi k]:=⟨_,rfl⟩
       refine⟨ueB L4,?_⟩
       cbv
       refine ua4 (uaq (L:=M2) eL4 (by(first|rfl|((try simp only [qV]at *);(try simp only [zQ,zA,zB,zC,zD,zE,zF,zG,zH,zI,zJ,zK,zL,zM,zN,zO,zP,zR,zS]at *);done)|((try simp only [qV]at *);(try simp only [zQ,zA,zB,zC,zD,zE,zF,zG,zH,zI,zJ,zK,zL,zM,zN,zO,zP,zR,zS]at *);omega))) (by rfl) (fun ix=>Fit.refl _) (fun ix h=>qC (qE (by rfl)) rfl qA) (by(try simp only [qV]at *);(try simp only [zQ,zA,zB,zC,zD,zE,zF,zG,zH,zI,zJ,zK,zL,zM,zN,zO,zP,zR,zS]at *);omega)) (Or.inl ?_)
       try cbv)
    |fail)
   all_goals first|trivial|((try simp only [qV]at *);(try simp only [zQ,zA,zB,zC,zD,zE,zF,zG,zH,zI,zJ,zK,zL,zM,zN,zO,zP,zR,zS]at *);first|(refine qN ?_;omega)|(simp only [uaj];omega))|((have hke:k=d.pn.toNat:=(by((try simp only [qV]at *);(try simp only [zQ,zA,zB,zC,zD,zE,zF,zG,zH,zI,zJ,zK,zL,zM,zN,zO,zP,zR,zS]at *);omega)));subst hR;rw [←hke,←hM1,←hM2];exact qD (Fit.refl _) (qD (Fit.refl _) (qD (qE rfl) qB)))|((try simp only [zQ,zA,zB,zC,zD,zE,zF,zG,zH,zI,zJ,zK,zL,zM,zN,zO,zP,zR,zS]at *);(have hx1:ubZ fA (k+1)=M1:=hnA hfa);(have hx2:ubZ fB (k+1)=M2:=hnB hfb);refine⟨⟨k+1,by((try simp only [qV]at *);(try simp only [zQ,zA,zB,zC,zD,zE,zF,zG,zH,zI,zJ,zK,zL,zM,zN,zO,zP,zR,zS]at *);omega)⟩,by simp only [];omega,?_⟩;cbv;(repeat' (first|with_reducible refine ua4 ?_ ?_|with_reducible refine And.intro ?_ ?_));(all_goals first|trivial|exact qM (qE (by rfl))|exact qM (qF (by rfl))|exact qM (Fit.refl _)|exact qL (qK _)|(refine qM (qE ?_);(try simp only [qV]at *);simp only [zQ,zA,zB,zC,zD,zE,zF,zG,zH,zI,zJ,zK,zL,zM,zN,zO,zP,zR,zS]at *;omega)|(refine qL (qJ ?_);(repeat' (first|exact qA|exact qB|refine qC ?_ rfl ?_|refine qD ?_ ?_|exact qE (by rfl)|exact qF (by rfl)|exact Fit.refl _|exact qG _|(refine qE ?_;(try simp only [qV]at *);simp only [zQ,zA,zB,zC,zD,zE,zF,zG,zH,zI,zJ,zK,zL,zM,zN,zO,zP,zR,zS]at *;omega)));done)|(simp only [hx1];first|exact qL (qK _)|(refine qL (uae ?_ ?_)<;>first|rfl|(rw [hM1,List.length_append];rfl)|((try simp only [qV]at *);(try simp only [zQ,zA,zB,zC,zD,zE,zF,zG,zH,zI,zJ,zK,zL,zM,zN,zO,zP,zR,zS]at *);(try simp only [hM1,List.length_append,List.length_cons,List.length_nil]at *);omega)|(intro ix h0 h1;exact Fit.refl _)))|(simp only [hx2];first|exact qL (qK _)|(refine qL (uae ?_ ?_)<;>first|rfl|(rw [hM2,List.length_append];rfl)|((try simp only [qV]at *);(try simp only [zQ,zA,zB,zC,zD,zE,zF,zG,zH,zI,zJ,zK,zL,zM,zN,zO,zP,zR,zS]at *);(try simp only [hM2,List.length_append,List.length_cons,List.length_nil]at *);omega)|(intro ix h0 h1;exact Fit.refl _)))|skip))|skip
  ·rw [hfa]at c64k
   rw [hfb]at c65k
   cbv
   repeat' (first
    |with_reducible refine ua4 ?_ ?_
    |with_reducible refine And.intro ?_ ?_
    |(with_reducible intro hcd;(try simp only [zA,zB,zC,zD,zE,zF,zG,zH,zI,zJ,zK,zL,zM,zN,zO,zP]at hcd);try cbv)
    | (refine⟨some [102],?_⟩
       cbv
       refine qQ ?_ (c64k) ?hfit ?hbo
       case hfit=>(cbv;(repeat' (first|exact qB|refine qD ?_ ?_|exact qE (by rfl)|exact qF (by rfl)|exact Fit.refl _|exact qA|refine qC ?_ rfl ?_));done)
       case hbo=>(cbv;(repeat' (first|exact qH|refine qI ?_ ?_|exact qK _|refine qJ ?_|exact qA|exact qE (by rfl)|exact qF (by rfl)|exact Fit.refl _|exact qG _|refine qC ?_ rfl ?_));done)
       try cbv)
    | (refine⟨some [102],?_⟩
       cbv
       refine qQ ?_ (c65k) ?hfit ?hbo
       case hfit=>(cbv;(repeat' (first|exact qB|refine qD ?_ ?_|exact qE (by rfl)|exact qF (by rfl)|exact Fit.refl _|exact qA|refine qC ?_ rfl ?_));done)
       case hbo=>(cbv;(repeat' (first|exact qH|refine qI ?_ ?_|exact qK _|refine qJ ?_|exact qA|exact qE (by rfl)|exact qF (by rfl)|exact Fit.refl _|exact qG _|refine qC ?_ rfl ?_));done)
       try cbv)
    | (obtain⟨L3,eL3⟩:∃y:List Int,y=M1++[zi k]:=⟨_,rfl⟩
       refine⟨ueB L3,?_⟩
       cbv
       refine ua4 (uaq (L:=M1) eL3 (by(first|rfl|((try simp only [qV]at *);(try simp only [zQ,zA,zB,zC,zD,zE,zF,zG,zH,zI,zJ,zK,zL,zM,zN,zO,zP,zR,zS]at *);done)|((try simp only [qV]at *);(try simp only [zQ,zA,zB,zC,zD,zE,zF,zG,zH,zI,zJ,zK,zL,zM,zN,zO,zP,zR,zS]at *);omega))) (by rfl) (fun ix=>Fit.refl _) (fun ix h=>qC (qE (by rfl)) rfl qA) (by(try simp only [qV]at *);(try simp only [zQ,zA,zB,zC,zD,zE,zF,zG,zH,zI,zJ,zK,zL,zM,zN,zO,zP,zR,zS]at *);omega)) (Or.inl ?_)
       try cbv)
    | (obtain⟨L4,eL4⟩:∃y:List Int,y=M2++[zi k]:=⟨_,rfl⟩
       refine⟨ueB L4,?_⟩
       cbv
       refine ua4 (uaq (L:=M2) eL4 (by(first|rfl|((try simp only [qV]at *);(try simp only [zQ,zA,zB,zC,zD,zE,zF,zG,zH,zI,zJ,zK,zL,zM,zN,zO,zP,zR,zS]at *);done)|((try simp only [qV]at *);(try simp only [zQ,zA,zB,zC,zD,zE,zF,zG,zH,zI,zJ,zK,zL,zM,zN,zO,zP,zR,zS]at *);omega))) (by rfl) (fun ix=>Fit.refl _) (fun ix h=>qC (qE (by rfl)) rfl qA) (by(try simp only [qV]at *);(try simp only [zQ,zA,zB,zC,zD,zE,zF,zG,zH,zI,zJ,zK,zL,zM,zN,zO,zP,zR,zS]at *);omega)) (Or.inl ?_)
       try cbv)
    |fail)
   all_goals first|trivial|((try simp only [qV]at *);(try simp only [zQ,zA,zB,zC,zD,zE,zF,zG,zH,zI,zJ,zK,zL,zM,zN,zO,zP,zR,zS]at *);first|(refine qN ?_;omega)|(simp only [uaj];omega))|((have hke:k=d.pn.toNat:=(by((try simp only [qV]at *);(try simp only [zQ,zA,zB,zC,zD,zE,zF,zG,zH,zI,zJ,zK,zL,zM,zN,zO,zP,zR,zS]at *);omega)));subst hR;rw [←hke,←hM1,←hM2];exact qD (Fit.refl _) (qD (Fit.refl _) (qD (qE rfl) qB)))|((try simp only [zQ,zA,zB,zC,zD,zE,zF,zG,zH,zI,zJ,zK,zL,zM,zN,zO,zP,zR,zS]at *);(have hx1:ubZ fA (k+1)=M1:=hnA hfa);(have hx2:ubZ fB (k+1)=L4:=(hyB hfb).trans eL4.symm);refine⟨⟨k+1,by((try simp only [qV]at *);(try simp only [zQ,zA,zB,zC,zD,zE,zF,zG,zH,zI,zJ,zK,zL,zM,zN,zO,zP,zR,zS]at *);omega)⟩,by simp only [];omega,?_⟩;cbv;(repeat' (first|with_reducible refine ua4 ?_ ?_|with_reducible refine And.intro ?_ ?_));(all_goals first|trivial|exact qM (qE (by rfl))|exact qM (qF (by rfl))|exact qM (Fit.refl _)|exact qL (qK _)|(refine qM (qE ?_);(try simp only [qV]at *);simp only [zQ,zA,zB,zC,zD,zE,zF,zG,zH,zI,zJ,zK,zL,zM,zN,zO,zP,zR,zS]at *;omega)|(refine qL (qJ ?_);(repeat' (first|exact qA|exact qB|refine qC ?_ rfl ?_|refine qD ?_ ?_|exact qE (by rfl)|exact qF (by rfl)|exact Fit.refl _|exact qG _|(refine qE ?_;(try simp only [qV]at *);simp only [zQ,zA,zB,zC,zD,zE,zF,zG,zH,zI,zJ,zK,zL,zM,zN,zO,zP,zR,zS]at *;omega)));done)|(simp only [hx1];first|exact qL (qK _)|(refine qL (uae ?_ ?_)<;>first|rfl|(rw [hM1,List.length_append];rfl)|((try simp only [qV]at *);(try simp only [zQ,zA,zB,zC,zD,zE,zF,zG,zH,zI,zJ,zK,zL,zM,zN,zO,zP,zR,zS]at *);(try simp only [hM1,List.length_append,List.length_cons,List.length_nil]at *);omega)|(intro ix h0 h1;exact Fit.refl _)))|(simp only [hx2];first|exact qL (qK _)|(refine qL (uae ?_ ?_)<;>first|rfl|(rw [eL4,List.length_append];rfl)|((try simp only [qV]at *);(try simp only [zQ,zA,zB,zC,zD,zE,zF,zG,zH,zI,zJ,zK,zL,zM,zN,zO,zP,zR,zS]at *);(try simp only [eL4,List.length_append,List.length_cons,List.length_nil]at *);omega)|(intro ix h0 h1;exact Fit.refl _)))|skip))|skip
  ·rw [hfa]at c64k
   rw [hfb]at c65k
   cbv
   repeat' (first
    |with_reducible refine ua4 ?_ ?_
    |with_reducible refine And.intro ?_ ?_
    |(with_reducible intro hcd;(try simp only [zA,zB,zC,zD,zE,zF,zG,zH,zI,zJ,zK,zL,zM,zN,zO,zP]at hcd);try cbv)
    | (refine⟨some [102],?_⟩
       cbv
       refine qQ ?_ (c64k) ?hfit ?hbo
       case hfit=>(cbv;(repeat' (first|exact qB|refine qD ?_ ?_|exact qE (by rfl)|exact qF (by rfl)|exact Fit.refl _|exact qA|refine qC ?_ rfl ?_));done)
       case hbo=>(cbv;(repeat' (first|exact qH|refine qI ?_ ?_|exact qK _|refine qJ ?_|exact qA|exact qE (by rfl)|exact qF (by rfl)|exact Fit.refl _|exact qG _|refine qC ?_ rfl ?_));done)
       try cbv)
    | (refine⟨some [102],?_⟩
       cbv
       refine qQ ?_ (c65k) ?hfit ?hbo
       case hfit=>(cbv;(repeat' (first|exact qB|refine qD ?_ ?_|exact qE (by rfl)|exact qF (by rfl)|exact Fit.refl _|exact qA|refine qC ?_ rfl ?_));done)
       case hbo=>(cbv;(repeat' (first|exact qH|refine qI ?_ ?_|exact qK _|refine qJ ?_|exact qA|exact qE (by rfl)|exact qF (by rfl)|exact Fit.refl _|exact qG _|refine qC ?_ rfl ?_));done)
       try cbv)
    | (obtain⟨L3,eL3⟩:∃y:List Int,y=M1++[zi k]:=⟨_,rfl⟩
       refine⟨ueB L3,?_⟩
       cbv
       refine ua4 (uaq (L:=M1) eL3 (by(first|rfl|((try simp only [qV]at *);(try simp only [zQ,zA,zB,zC,zD,zE,zF,zG,zH,zI,zJ,zK,zL,zM,zN,zO,zP,zR,zS]at *);done)|((try simp only [qV]at *);(try simp only [zQ,zA,zB,zC,zD,zE,zF,zG,zH,zI,zJ,zK,zL,zM,zN,zO,zP,zR,zS]at *);omega))) (by rfl) (fun ix=>Fit.refl _) (fun ix h=>qC (qE (by rfl)) rfl qA) (by(try simp only [qV]at *);(try simp only [zQ,zA,zB,zC,zD,zE,zF,zG,zH,zI,zJ,zK,zL,zM,zN,zO,zP,zR,zS]at *);omega)) (Or.inl ?_)
       try cbv)
    | (obtain⟨L4,eL4⟩:∃y:List Int,y=M2++[zi k]:=⟨_,rfl⟩
       refine⟨ueB L4,?_⟩
       cbv
       refine ua4 (uaq (L:=M2) eL4 (by(first|rfl|((try simp only [qV]at *);(try simp only [zQ,zA,zB,zC,zD,zE,zF,zG,zH,zI,zJ,zK,zL,zM,zN,zO,zP,zR,zS]at *);done)|((try simp only [qV]at *);(try simp only [zQ,zA,zB,zC,zD,zE,zF,zG,zH,zI,zJ,zK,zL,zM,zN,zO,zP,zR,zS]at *);omega))) (by rfl) (fun ix=>Fit.refl _) (fun ix h=>qC (qE (by rfl)) rfl qA) (by(try simp only [qV]at *);(try simp only [zQ,zA,zB,zC,zD,zE,zF,zG,zH,zI,zJ,zK,zL,zM,zN,zO,zP,zR,zS]at *);omega)) (Or.inl ?_)
       try cbv)
    |fail)
   all_goals first|trivial|((try simp only [qV]at *);(try simp only [zQ,zA,zB,zC,zD,zE,zF,zG,zH,zI,zJ,zK,zL,zM,zN,zO,zP,zR,zS]at *);first|(refine qN ?_;omega)|(simp only [uaj];omega))|((have hke:k=d.pn.toNat:=(by((try simp only [qV]at *);(try simp only [zQ,zA,zB,zC,zD,zE,zF,zG,zH,zI,zJ,zK,zL,zM,zN,zO,zP,zR,zS]at *);omega)));subst hR;rw [←hke,←hM1,←hM2];exact qD (Fit.refl _) (qD (Fit.refl _) (qD (qE rfl) qB)))|((try simp only [zQ,zA,zB,zC,zD,zE,zF,zG,zH,zI,zJ,zK,zL,zM,zN,zO,zP,zR,zS]at *);(have hx1:ubZ fA (k+1)=L3:=(hyA hfa).trans eL3.symm);(have hx2:ubZ fB (k+1)=M2:=hnB hfb);refine⟨⟨k+1,by((try simp only [qV]at *);(try simp only [zQ,zA,zB,zC,zD,zE,zF,zG,zH,zI,zJ,zK,zL,zM,zN,zO,zP,zR,zS]at *);omega)⟩,by simp only [];omega,?_⟩;cbv;(repeat' (first|with_reducible refine ua4 ?_ ?_|with_reducible refine And.intro ?_ ?_));(all_goals first|trivial|exact qM (qE (by rfl))|exact qM (qF (by rfl))|exact qM (Fit.refl _)|exact qL (qK _)|(refine qM (qE ?_);(try simp only [qV]at *);simp only [zQ,zA,zB,zC,zD,zE,zF,zG,zH,zI,zJ,zK,zL,zM,zN,zO,zP,zR,zS]at *;omega)|(refine qL (qJ ?_);(repeat' (first|exact qA|exact qB|refine qC ?_ rfl ?_|refine qD ?_ ?_|exact qE (by rfl)|exact qF (by rfl)|exact Fit.refl _|exact qG _|(refine qE ?_;(try simp only [qV]at *);simp only [zQ,zA,zB,zC,zD,zE,zF,zG,zH,zI,zJ,zK,zL,zM,zN,zO,zP,zR,zS]at *;omega)));done)|(simp only [hx1];first|exact qL (qK _)|(refine qL (uae ?_ ?_)<;>first|rfl|(rw [eL3,List.length_append];rfl)|((try simp only [qV]at *);(try simp only [zQ,zA,zB,zC,zD,zE,zF,zG,zH,zI,zJ,zK,zL,zM,zN,zO,zP,zR,zS]at *);(try simp only [eL3,List.length_append,List.length_cons,List.length_nil]at *);omega)|(intro ix h0 h1;exact Fit.refl _)))|(simp only [hx2];first|exact qL (qK _)|(refine qL (uae ?_ ?_)<;>first|rfl|(rw [hM2,List.length_append];rfl)|((try simp only [qV]at *);(try simp only [zQ,zA,zB,zC,zD,zE,zF,zG,zH,zI,zJ,zK,zL,zM,zN,zO,zP,zR,zS]at *);(try simp only [hM2,List.length_append,List.length_cons,List.length_nil]at *);omega)|(intro ix h0 h1;exact Fit.refl _)))|skip))|skip
  ·rw [hfa]at c64k
   rw [hfb]at c65k
   cbv
   repeat' (first
    |with_reducible refine ua4 ?_ ?_
    |with_reducible refine And.intro ?_ ?_
    |(with_reducible intro hcd;(try simp only [zA,zB,zC,zD,zE,zF,zG,zH,zI,zJ,zK,zL,zM,zN,zO,zP]at hcd);try cbv)
    | (refine⟨some [102],?_⟩
       cbv
       refine qQ ?_ (c64k) ?hfit ?hbo
       case hfit=>(cbv;(repeat' (first|exact qB|refine qD ?_ ?_|exact qE (by rfl)|exact qF (by rfl)|exact Fit.refl _|exact qA|refine qC ?_ rfl ?_));done)
       case hbo=>(cbv;(repeat' (first|exact qH|refine qI ?_ ?_|exact qK _|refine qJ ?_|exact qA|exact qE (by rfl)|exact qF (by rfl)|exact Fit.refl _|exact qG _|refine qC ?_ rfl ?_));done)
       try cbv)
    | (refine⟨some [102],?_⟩
       cbv
       refine qQ ?_ (c65k) ?hfit ?hbo
       case hfit=>(cbv;(repeat' (first|exact qB|refine qD ?_ ?_|exact qE (by rfl)|exact qF (by rfl)|exact Fit.refl _|exact qA|refine qC ?_ rfl ?_));done)
       case hbo=>(cbv;(repeat' (first|exact qH|refine qI ?_ ?_|exact qK _|refine qJ ?_|exact qA|exact qE (by rfl)|exact qF (by rfl)|exact Fit.refl _|exact qG _|refine qC ?_ rfl ?_));done)
       try cbv)
    | (obtain⟨L3,eL3⟩:∃y:List Int,y=M1++[zi k]:=⟨_,rfl⟩
       refine⟨ueB L3,?_⟩
       cbv
       refine ua4 (uaq (L:=M1) eL3 (by(first|rfl|((try simp only [qV]at *);(try simp only [zQ,zA,zB,zC,zD,zE,zF,zG,zH,zI,zJ,zK,zL,zM,zN,zO,zP,zR,zS]at *);done)|((try simp only [qV]at *);(try simp only [zQ,zA,zB,zC,zD,zE,zF,zG,zH,zI,zJ,zK,zL,zM,zN,zO,zP,zR,zS]at *);omega))) (by rfl) (fun ix=>Fit.refl _) (fun ix h=>qC (qE (by rfl)) rfl qA) (by(try simp only [qV]at *);(try simp only [zQ,zA,zB,zC,zD,zE,zF,zG,zH,zI,zJ,zK,zL,zM,zN,zO,zP,zR,zS]at *);omega)) (Or.inl ?_)
       try cbv)
    | (obtain⟨L4,eL4⟩:∃y:List Int,y=M2++[zi k]:=⟨_,rfl⟩
       refine⟨ueB L4,?_⟩
       cbv
       refine ua4 (uaq (L:=M2) eL4 (by(first|rfl|((try simp only [qV]at *);(try simp only [zQ,zA,zB,zC,zD,zE,zF,zG,zH,zI,zJ,zK,zL,zM,zN,zO,zP,zR,zS]at *);done)|((try simp only [qV]at *);(try simp only [zQ,zA,zB,zC,zD,zE,zF,zG,zH,zI,zJ,zK,zL,zM,zN,zO,zP,zR,zS]at *);omega))) (by rfl) (fun ix=>Fit.refl _) (fun ix h=>qC (qE (by rfl)) rfl qA) (by(try simp only [qV]at *);(try simp only [zQ,zA,zB,zC,zD,zE,zF,zG,zH,zI,zJ,zK,zL,zM,zN,zO,zP,zR,zS]at *);omega)) (Or.inl ?_)
       try cbv)
    |fail)
   all_goals first|trivial|((try simp only [qV]at *);(try simp only [zQ,zA,zB,zC,zD,zE,zF,zG,zH,zI,zJ,zK,zL,zM,zN,zO,zP,zR,zS]at *);first|(refine qN ?_;omega)|(simp only [uaj];omega))|((have hke:k=d.pn.toNat:=(by((try simp only [qV]at *);(try simp only [zQ,zA,zB,zC,zD,zE,zF,zG,zH,zI,zJ,zK,zL,zM,zN,zO,zP,zR,zS]at *);omega)));subst hR;rw [←hke,←hM1,←hM2];exact qD (Fit.refl _) (qD (Fit.refl _) (qD (qE rfl) qB)))|((try simp only [zQ,zA,zB,zC,zD,zE,zF,zG,zH,zI,zJ,zK,zL,zM,zN,zO,zP,zR,zS]at *);(have hx1:ubZ fA (k+1)=L3:=(hyA hfa).trans eL3.symm);(have hx2:ubZ fB (k+1)=L4:=(hyB hfb).trans eL4.symm);refine⟨⟨k+1,by((try simp only [qV]at *);(try simp only [zQ,zA,zB,zC,zD,zE,zF,zG,zH,zI,zJ,zK,zL,zM,zN,zO,zP,zR,zS]at *);omega)⟩,by simp only [];omega,?_⟩;cbv;(repeat' (first|with_reducible refine ua4 ?_ ?_|with_reducible refine And.intro ?_ ?_));(all_goals first|trivial|exact qM (qE (by rfl))|exact qM (qF (by rfl))|exact qM (Fit.refl _)|exact qL (qK _)|(refine qM (qE ?_);(try simp only [qV]at *);simp only [zQ,zA,zB,zC,zD,zE,zF,zG,zH,zI,zJ,zK,zL,zM,zN,zO,zP,zR,zS]at *;omega)|(refine qL (qJ ?_);(repeat' (first|exact qA|exact qB|refine qC ?_ rfl ?_|refine qD ?_ ?_|exact qE (by rfl)|exact qF (by rfl)|exact Fit.refl _|exact qG _|(refine qE ?_;(try simp only [qV]at *);simp only [zQ,zA,zB,zC,zD,zE,zF,zG,zH,zI,zJ,zK,zL,zM,zN,zO,zP,zR,zS]at *;omega)));done)|(simp only [hx1];first|exact qL (qK _)|(refine qL (uae ?_ ?_)<;>first|rfl|(rw [eL3,List.length_append];rfl)|((try simp only [qV]at *);(try simp only [zQ,zA,zB,zC,zD,zE,zF,zG,zH,zI,zJ,zK,zL,zM,zN,zO,zP,zR,zS]at *);(try simp only [eL3,List.length_append,List.length_cons,List.length_nil]at *);omega)|(intro ix h0 h1;exact Fit.refl _)))|(simp only [hx2];first|exact qL (qK _)|(refine qL (uae ?_ ?_)<;>first|rfl|(rw [eL4,List.length_append];rfl)|((try simp only [qV]at *);(try simp only [zQ,zA,zB,zC,zD,zE,zF,zG,zH,zI,zJ,zK,zL,zM,zN,zO,zP,zR,zS]at *);(try simp only [eL4,List.length_append,List.length_cons,List.length_nil]at *);omega)|(intro ix h0 h1;exact Fit.refl _)))|skip))|skip
theorem usY (d:Dsp)(h:¬uam d=0):ua0 Tryz.prog 19 [(ub0 d)] [] (fun r _=>r=(.tup [(iS ((uhL d))),(iS ((usq d))),(iv fun _=>uam d)])):=by
 have c59:=uiR d h
 refine ua0.is fun R hR=>qW (sc:=uzo) uai mix Tryz.func19 rfl Tryz.call19 (by kernel_rfl) (by kernel_rfl) ?_
 generalize Tryz.prog=P at c59⊢
 cbv
 repeat' (first|with_reducible refine And.intro ?_ ?_|(with_reducible intro hcd;(try simp only [zA,zB,zC,zD,zE,zF,zG,zH,zI,zJ,zK,zL,zM,zN,zO,zP]at hcd);try cbv)|(refine qP ?_ (c59) ?hfit;(case hfit=>((repeat' (first|exact qB|refine qD ?_ ?_|exact qE (by rfl)|exact qF (by rfl)|exact Fit.refl _|exact qA|refine qC ?_ rfl ?_));done));try cbv)|fail)
 all_goals first|trivial|(subst hR;(exact qD (qO (by(have e:uhL d=[]:=if_neg h);rw [e];rfl)) (qD (qO (by(have e:usq d=[]:=if_neg h);rw [e];rfl)) (qD (Fit.refl _) qB)));done)|skip
theorem ul6 (d:Dsp):ua0 Tryz.prog 19 [(ub0 d)] [] (fun r _=>r=(.tup [(iS ((uhL d))),(iS ((usq d))),(iv fun _=>uam d)])):=by
 by_cases h:uam d=0
 ·exact usg d h
 ·exact usY d h
end Go.Proofs.YtkdggbfknlcdaaaGreat
namespace Go.Proofs.YtkdggbfknlcdaaaGreat
open Go.Eng.Dif Go.Eng.Few
theorem uvs {d:Dsp}(h:uam d=0):ud3 d d.fs (ug7 d)=true:=by
 have e:ug7 d=udr d.fs.length (udw d):=if_pos h
 rw [e]
 exact(ucV (ug1 h)).2.1
theorem uul (d:Dsp)(h:ua5 d=0):(ug7 d).length≤6:=by
 unfold ug7
 split
 ·rename_i q
  have:=ulq (ug1 q)
  have:=(ua3.1 h).f6
  omega
 ·simp
theorem ujG {g x:Int}(h0:0≤g)(h1:g≤100000)(a0: -2000≤x)(a1:x≤2000): -200000000≤g*x∧g*x≤200000000:=by
 have e1:g*x≤g*2000:=Int.mul_le_mul_of_nonneg_left a1 h0
 have e2:g*(-2000)≤g*x:=Int.mul_le_mul_of_nonneg_left a0 h0
 omega
def usL (d:Dsp)(s g:Int):Prop:=(0≤s∧s≤d.sn-1)∧0≤g∧g≤100000
instance (d:Dsp) (s g:Int):Decidable (usL d s g):=by unfold usL;infer_instance
def chE (d:Dsp)(s g:Int):Int:=if ua5 d=0 then(if usL d s g then uam d else 2)else ua5 d
def chL (d:Dsp)(s g:Int):Int:=if chE d s g=0 then(g*loT d (ug7 d) s.toNat).tdiv 1000 else 0
def chH (d:Dsp)(s g:Int):Int:=if chE d s g=0 then(g*hiT d (ug7 d) s.toNat).tdiv 1000 else 0
theorem uw9 {d:Dsp} {s g:Int}(h:¬ua5 d=0):chE d s g=ua5 d∧chL d s g=0∧chH d s g=0:=by
 have e:chE d s g=ua5 d:=by unfold chE;rw [if_neg h]
 exact⟨e,by unfold chL;rw [e,if_neg h],by unfold chH;rw [e,if_neg h]⟩
theorem uwR {d:Dsp} {s g:Int}(h:ua5 d=0)(h':¬usL d s g):chE d s g=2∧chL d s g=0∧chH d s g=0:=by
 have e:chE d s g=2:=by unfold chE;rw [if_pos h,if_neg h']
 exact⟨e,by unfold chL;rw [e];rfl,by unfold chH;rw [e];rfl⟩
theorem urD {d:Dsp} {s g:Int}(h:ua5 d=0)(h':usL d s g)(hf:¬uam d=0):chE d s g=uam d∧chL d s g=0∧chH d s g=0:=by
 have e:chE d s g=uam d:=by unfold chE;rw [if_pos h,if_pos h']
 exact⟨e,by unfold chL;rw [e,if_neg hf],by unfold chH;rw [e,if_neg hf]⟩
theorem uqJ {d:Dsp} {s g:Int}(h:ua5 d=0)(h':usL d s g)(hf:uam d=0):chE d s g=0∧chL d s g=(g*loT d (ug7 d) s.toNat).tdiv 1000∧chH d s g=(g*hiT d (ug7 d) s.toNat).tdiv 1000:=by
 have e:chE d s g=0:=by unfold chE;rw [if_pos h,if_pos h',hf]
 exact⟨e,by unfold chL;rw [e];rfl,by unfold chH;rw [e];rfl⟩
def uoE (n:Int):Prop:=0≤n∧n≤1000000
instance (n:Int):Decidable (uoE n):=by unfold uoE;infer_instance
def coE (d:Dsp)(n:Int):Int:=if ua5 d=0 then(if uoE n then uam d else 2)else ua5 d
def coN (d:Dsp)(n:Int):Int:=if coE d n=0 then d.pn else 0
def ufj (d:Dsp):List Int:=ukS d.pn.toNat (uhL d)
def ukJ (d:Dsp)(n:Int)(p:Nat):Int:=ucp n.toNat (ufj d) (ufj d).length (ufj d).length p
theorem ur7 {d:Dsp} {n:Int}(h:¬ua5 d=0):coE d n=ua5 d∧coN d n=0:=by
 have e:coE d n=ua5 d:=by unfold coE;rw [if_neg h]
 exact⟨e,by unfold coN;rw [e,if_neg h]⟩
theorem uuc {d:Dsp} {n:Int}(h:ua5 d=0)(h':¬uoE n):coE d n=2∧coN d n=0:=by
 have e:coE d n=2:=by unfold coE;rw [if_pos h,if_neg h']
 exact⟨e,by unfold coN;rw [e];rfl⟩
theorem uml {d:Dsp} {n:Int}(h:ua5 d=0)(h':uoE n)(hf:¬uam d=0):coE d n=uam d∧coN d n=0:=by
 have e:coE d n=uam d:=by unfold coE;rw [if_pos h,if_pos h']
 exact⟨e,by unfold coN;rw [e,if_neg hf]⟩
theorem uh8 {d:Dsp} {n:Int}(h:ua5 d=0)(h':uoE n)(hf:uam d=0):coE d n=0∧coN d n=d.pn:=by
 have e:coE d n=0:=by unfold coE;rw [if_pos h,if_pos h',hf]
 exact⟨e,by unfold coN;rw [e];rfl⟩
end Go.Proofs.YtkdggbfknlcdaaaGreat
namespace Go.Proofs.YtkdggbfknlcdaaaGreat
open Go Go.Eng Go.Proofs Go.Eng.Dif Go.Eng.Few
set_option maxRecDepth 10000
theorem uhN {a:Int}(h: -200000000≤a∧a≤200000000): -200000000≤a.tdiv 1000∧a.tdiv 1000≤200000000:=by
 rcases Int.le_total 0 a with q|q
 ·rw [Int.tdiv_eq_ediv_of_nonneg q];omega
 ·obtain⟨b,rfl⟩:∃b,a = -b:=⟨-a,by omega⟩
  rw [Int.neg_tdiv,Int.tdiv_eq_ediv_of_nonneg (by omega)];omega
set_option maxHeartbeats 2000000 in
theorem usM (d:Dsp)(s g:Int):ua0 Tryz.prog 25 [(ub0 d),(iv fun _=>s),(iv fun _=>g)] [] (fun r _=>r=(.tup [(.agg [(iv fun _=>chL d s g),(iv fun _=>chH d s g)]),(iv fun _=>chE d s g)])):=by
 have c16:=ubA d
 have c43:= @ud2
 have c22:=uqT d
 have c44:=ucK d
 have c66:=fun h:ua5 d=0=>udM d s ⟨(ua3.1 h).s1,by have:=(ua3.1 h).s3;omega⟩
 have c54:=fun h:ua5 d=0=>uby d (ug7 d) (ua3.1 h) (by have:=uul d h;omega)
 have hbd:=fun (h:uam d=0) (i:Nat) (hi:i<16)=>ukc (ua3.1 (uaH h).1) (uvs h) hi
 have hsn:=fun h:uam d=0=>(ua3.1 (uaH h).1).s3
 have c55:=fun (s:Int) (h:uam d=0∧0≤s∧s≤d.sn-1)=>(show ua0 Tryz.prog 63 [.own 0 0,(iv fun _=>s)] [.cells [(.arr 16 (fun ix=>(iv fun _=>(clo (ufv d d.fs (ug7 d))) ix.den.toNat)))] 95] (fun r bs=>r=(.agg [(iv fun _=>loT d (ug7 d) s.toNat),(iv fun _=>hiT d (ug7 d) s.toNat)])∧bs=[.cells [(.arr 16 (fun ix=>(iv fun _=>(clo (ufv d d.fs (ug7 d))) ix.den.toNat)))] 95])from uek (clo (ufv d d.fs (ug7 d))) s ⟨h.2.1,by have:=hsn h.1;omega⟩ (fun i hi=>⟨by have:=hbd h.1 i hi;omega,by have:=hbd h.1 i hi;omega⟩))
 have hmul:0≤g→g≤100000→0≤s∧s≤d.sn-1→uam d=0→(-200000000≤g*loT d (ug7 d) s.toNat∧g*loT d (ug7 d) s.toNat≤200000000)∧ -200000000≤g*hiT d (ug7 d) s.toNat∧g*hiT d (ug7 d) s.toNat≤200000000:=fun h0 h1 hs hf=>by
  have s3:=hsn hf
  have b1:=hbd hf (at4 (s.toNat+1) 0) (ufo (by omega) (by omega))
  have b2:=hbd hf (at4 0 (s.toNat+1)) (ufo (by omega) (by omega))
  exact⟨ujG h0 h1 (by unfold loT;omega) (by unfold loT;omega),ujG h0 h1 (by unfold hiT;omega) (by unfold hiT;omega)⟩
 refine ua0.is fun R hR=>qW (sc:=uBZ) uai mix Tryz.func25 rfl Tryz.call25 (by kernel_rfl) (by kernel_rfl) ?_
 generalize Tryz.prog=P at c16 c43 c22 c44 c66 c54 c55⊢
 cbv
 repeat' (first
  |with_reducible refine ua4 ?_ ?_
  |with_reducible refine And.intro ?_ ?_
  |(with_reducible refine qS ?_ ?_ ?_;try cbv)
  |(with_reducible intro hcd;(try simp only [zA,zB,zC,zD,zE,zF,zG,zH,zI,zJ,zK,zL,zM,zN,zO,zP]at hcd);try cbv)
  |(refine qP ?_ (c16) ?hfit;(case hfit=>((repeat' (first|exact qB|refine qD ?_ ?_|exact qE (by rfl)|exact qF (by rfl)|exact Fit.refl _|exact qA|refine qC ?_ rfl ?_));done));try cbv)
  |(refine qP ?_ (c43 _ _ _) (by(repeat' (first|exact qB|refine qD ?_ ?_|exact qE (by rfl)|exact qF (by rfl)|exact Fit.refl _|exact qA|refine qC ?_ rfl ?_)));try cbv)
  |(refine qP ?_ (c22) ?hfit;(case hfit=>((repeat' (first|exact qB|refine qD ?_ ?_|exact qE (by rfl)|exact qF (by rfl)|exact Fit.refl _|exact qA|refine qC ?_ rfl ?_));done));try cbv)
  |(refine qP ?_ (c44) ?hfit;(case hfit=>((repeat' (first|exact qB|refine qD ?_ ?_|exact qE (by rfl)|exact qF (by rfl)|exact Fit.refl _|exact qA|refine qC ?_ rfl ?_));done));try cbv)
  |(refine qP ?_ (c66 (by((try simp only [qV]at *);(try simp only [zQ,zA,zB,zC,zD,zE,zF,zG,zH,zI,zJ,zK,zL,zM,zN,zO,zP,zR,zS]at *);first|assumption|omega))) ?hfit;(case hfit=>((repeat' (first|exact qB|refine qD ?_ ?_|exact qE (by rfl)|exact qF (by rfl)|exact Fit.refl _|exact qA|refine qC ?_ rfl ?_));done));try cbv)
  |(refine qP ?_ (c54 (by((try simp only [qV]at *);(try simp only [zQ,zA,zB,zC,zD,zE,zF,zG,zH,zI,zJ,zK,zL,zM,zN,zO,zP,zR,zS]at *);first|assumption|omega))) ?hfit;(case hfit=>((repeat' (first|exact qB|refine qD ?_ ?_|exact qE (by rfl)|exact qF (by rfl)|exact Fit.refl _|exact qA|refine qC ?_ rfl ?_));done));try cbv)
  | ((have hf9:uam d=0:=(by((try simp only [qV]at *);(try simp only [zQ,zA,zB,zC,zD,zE,zF,zG,zH,zI,zJ,zK,zL,zM,zN,zO,zP,zR,zS]at *);omega)))
     refine⟨some [33],?_⟩
     cbv
     refine qQ ?_ (c55 s ⟨hf9,by((try simp only [qV]at *);(try simp only [zQ,zA,zB,zC,zD,zE,zF,zG,zH,zI,zJ,zK,zL,zM,zN,zO,zP,zR,zS]at *);(try simp only [uah,uak,uav,uaE,uaJ,uaM,ua8,uaa,ua9,uab]at *);omega)⟩) ?hfit ?hbo
     case hfit=>(cbv;(repeat' (first|exact qB|refine qD ?_ ?_|exact qE (by rfl)|exact qF (by rfl)|exact Fit.refl _|exact qA|refine qC ?_ rfl ?_));done)
     case hbo=>(cbv;(repeat' (first|exact qH|refine qI ?_ ?_|exact qK _|refine qJ ?_|exact qA|exact qE (by rfl)|exact qF (by rfl)|exact Fit.refl _|exact qG _|refine qC ?_ rfl ?_));done)
     try cbv)
  |fail)
 all_goals first|((try simp only [qV]at *);(try simp only [zQ,zA,zB,zC,zD,zE,zF,zG,zH,zI,zJ,zK,zL,zM,zN,zO,zP,zR,zS,uah,uak,uav,uaE,uaJ,uaM,ua8,uaa,ua9,uab]at *);first|(refine qN ?_;omega)|(simp only [uaj];omega))|(subst hR;(refine qD (qC (qE ?_) rfl (qC (qE ?_) rfl qA)) (qD (qE ?_) qB)<;>((try simp only [qV]at *);(try simp only [zQ,zA,zB,zC,zD,zE,zF,zG,zH,zI,zJ,zK,zL,zM,zN,zO,zP,zR,zS]at *);(try simp only [uah,uak,uav,uaE,uaJ,uaM,ua8,uaa,ua9,uab]at *);(have h0:=uw9 (d:=d) (s:=s) (g:=g) (by first|assumption|omega));first|exact h0.2.1.symm|exact h0.2.2.symm|exact h0.1.symm));done)|(subst hR;(refine qD (qC (qE ?_) rfl (qC (qE ?_) rfl qA)) (qD (qE ?_) qB)<;>((try simp only [qV]at *);(try simp only [zQ,zA,zB,zC,zD,zE,zF,zG,zH,zI,zJ,zK,zL,zM,zN,zO,zP,zR,zS]at *);(try simp only [uah,uak,uav,uaE,uaJ,uaM,ua8,uaa,ua9,uab]at *);(have h0:=uwR (d:=d) (s:=s) (g:=g) (by first|assumption|omega) (by unfold usL;omega));first|exact h0.2.1.symm|exact h0.2.2.symm|exact h0.1.symm));done)|(subst hR;(refine qD (qC (qE ?_) rfl (qC (qE ?_) rfl qA)) (qD (qE ?_) qB)<;>((try simp only [qV]at *);(try simp only [zQ,zA,zB,zC,zD,zE,zF,zG,zH,zI,zJ,zK,zL,zM,zN,zO,zP,zR,zS]at *);(try simp only [uah,uak,uav,uaE,uaJ,uaM,ua8,uaa,ua9,uab]at *);(have h0:=urD (d:=d) (s:=s) (g:=g) (by first|assumption|omega) (by unfold usL;omega) (by first|assumption|omega));first|exact h0.2.1.symm|exact h0.2.2.symm|exact h0.1.symm));done)|(subst hR;(refine qD (qC (qE ?_) rfl (qC (qE ?_) rfl qA)) (qD (qE ?_) qB)<;>((try simp only [qV]at *);(try simp only [zQ,zA,zB,zC,zD,zE,zF,zG,zH,zI,zJ,zK,zL,zM,zN,zO,zP,zR,zS]at *);(try simp only [uah,uak,uav,uaE,uaJ,uaM,ua8,uaa,ua9,uab]at *);(have h0:=uqJ (d:=d) (s:=s) (g:=g) (by first|assumption|omega) (by unfold usL;omega) (by first|assumption|omega));first|exact h0.2.1.symm|exact h0.2.2.symm|exact h0.1.symm));done)|((have hf9:uam d=0:=(by((try simp only [qV]at *);(try simp only [zQ,zA,zB,zC,zD,zE,zF,zG,zH,zI,zJ,zK,zL,zM,zN,zO,zP,zR,zS]at *);omega)));(have hb9:=hmul (by((try simp only [qV]at *);(try simp only [zQ,zA,zB,zC,zD,zE,zF,zG,zH,zI,zJ,zK,zL,zM,zN,zO,zP,zR,zS]at *);(try simp only [uah,uak,uav,uaE,uaJ,uaM,ua8,uaa,ua9,uab]at *);omega)) (by((try simp only [qV]at *);(try simp only [zQ,zA,zB,zC,zD,zE,zF,zG,zH,zI,zJ,zK,zL,zM,zN,zO,zP,zR,zS]at *);(try simp only [uah,uak,uav,uaE,uaJ,uaM,ua8,uaa,ua9,uab]at *);omega)) (by((try simp only [qV]at *);(try simp only [zQ,zA,zB,zC,zD,zE,zF,zG,zH,zI,zJ,zK,zL,zM,zN,zO,zP,zR,zS]at *);(try simp only [uah,uak,uav,uaE,uaJ,uaM,ua8,uaa,ua9,uab]at *);omega)) hf9);(have t1:=uhN hb9.1);(have t2:=uhN hb9.2);(try simp only [qV]at *);(try simp only [zQ,zA,zB,zC,zD,zE,zF,zG,zH,zI,zJ,zK,zL,zM,zN,zO,zP,zR,zS]at *);(try simp only [uah,uak,uav,uaE,uaJ,uaM,ua8,uaa,ua9,uab]at *);first|(refine qN ?_;omega)|(simp only [uaj];omega))|skip
theorem usu {f:Nat→Bool}:∀{n:Nat},ubZ f n=[]→∀{k:Nat},k<n→f k=false:=by
 intro n
 induction n with
 |zero=>intro _ k hk;omega
 | succ n ih=>
  intro h k hk
  cases hf:f n with
  |true=>rw [uqt hf]at h;simp at h
  | false=>
   rw [up1 hf]at h
   by_cases e:k=n
   ·rw [e];exact hf
   ·exact ih h (by omega)
set_option maxHeartbeats 2000000 in
theorem usD (d:Dsp)(h:uam d=0)(he:uhL d=[]):ua0 Tryz.prog 19 [(ub0 d)] [] (fun r _=>r=(.tup [.val (Value.slice none 0 0),(iS ((usq d))),(iv fun _=>uam d)])):=by
 have c59:=umv d h
 have c58:=ugA
 have hF:=(uaH h).1
 have hd:=ua3.1 hF
 have p1:=hd.p1
 have p4:=hd.p4
 have c61:=ugB d hd
 have hsf:=ujM (n:=d.pn.toNat) (ok:=uc8 d) (by omega) (ufE h)
 have hm0:ubZ (um5 d) d.pn.toNat=[]:=(if_pos h:uhL d=_).symm.trans he
 have hAf:∀k:Nat,k<d.pn.toNat→um5 d k=false:=fun k hk=>usu hm0 hk
 rw [show usq d=ubZ (urw d) d.pn.toNat from if_pos h,h]
 have hA:∀k:Nat,uhy (fun i=>inL ((uaA d.pn.toNat (uc8 d)).getD i []) (zi k)) (uaA d.pn.toNat (uc8 d)).length=um5 d k:=fun k=>uto _ _
 have hB:∀k:Nat,decide (0≤ubK (fun i=> !(inL ((uaA d.pn.toNat (uc8 d)).getD i []) (zi k))) (uaA d.pn.toNat (uc8 d)).length 0)=urw d k:=fun k=>uu3 _ _
 obtain⟨L,hL⟩:∃L,L=uaA d.pn.toNat (uc8 d):=⟨_,rfl⟩
 rw [←hL]at c61 hsf
 simp only [←hL]at hA hB
 have c64:=fun k:Nat=>(show ua0 Tryz.prog 54 [(.sl 1 (.sym fun _=>zi (L).length) (fun ix=>[(.sl 1 (.sym fun _=>zi ((L).getD ix.den.toNat []).length) (fun jx=>[(iv fun _=>((L).getD ix.den.toNat []).getD jx.den.toNat 0)]))])),.clo 52 [] [.own 0 0]] [.cells [(iv fun _=>zi k)] 3] (fun r bs=>r=(bv fun _=>um5 d k)∧bs=[.cells [(iv fun _=>zi k)] 3])from hA k▸uhU L (zi k) hsf.2 hsf.1)
 have c65:=fun k:Nat=>(show ua0 Tryz.prog 55 [(.sl 1 (.sym fun _=>zi (L).length) (fun ix=>[(.sl 1 (.sym fun _=>zi ((L).getD ix.den.toNat []).length) (fun jx=>[(iv fun _=>((L).getD ix.den.toNat []).getD jx.den.toNat 0)]))])),.clo 52 [] [.own 0 0]] [.cells [(iv fun _=>zi k)] 3] (fun r bs=>r=(bv fun _=>urw d k)∧bs=[.cells [(iv fun _=>zi k)] 3])from hB k▸uid L (zi k) hsf.2 hsf.1)
 obtain⟨fA,hfA⟩:∃f,f=um5 d:=⟨_,rfl⟩
 obtain⟨fB,hfB⟩:∃f,f=urw d:=⟨_,rfl⟩
 rw [←hfA]at c64 hAf
 rw [←hfB]at c65⊢
 clear hA hB hL hfA hfB hm0
 refine ua0.is fun R hR=>qW (sc:=uzo) uai mix Tryz.func19 rfl Tryz.call19 (by kernel_rfl) (by kernel_rfl) ?_
 generalize Tryz.prog=P at c59 c58 c61 c64 c65⊢
 cbv
 repeat' (first|with_reducible refine And.intro ?_ ?_|(with_reducible intro hcd;(try simp only [zA,zB,zC,zD,zE,zF,zG,zH,zI,zJ,zK,zL,zM,zN,zO,zP]at hcd);try cbv)|(refine qP ?_ (c59) ?hfit;(case hfit=>((repeat' (first|exact qB|refine qD ?_ ?_|exact qE (by rfl)|exact qF (by rfl)|exact Fit.refl _|exact qA|refine qC ?_ rfl ?_));done));try cbv)|(refine qP ?_ (c58) ?hfit;(case hfit=>((repeat' (first|exact qB|refine qD ?_ ?_|exact qE (by rfl)|exact qF (by rfl)|exact Fit.refl _|exact qA|refine qC ?_ rfl ?_));done));try cbv)|(refine qP ?_ (c61) ?hfit;(case hfit=>((repeat' (first|exact qB|refine qD ?_ ?_|exact qE (by rfl)|exact qF (by rfl)|exact Fit.refl _|exact qA|refine qC ?_ rfl ?_));done));try cbv)|fail)
 all_goals first|trivial|skip
 refine⟨none,[⟨.tmp 3,3,1⟩],{k:Nat // k≤d.pn.toNat},fun x=>⟨[(1,.own 0 0),(6,(.sl 1 (.sym fun _=>zi (L).length) (fun ix=>[(.sl 1 (.sym fun _=>zi ((L).getD ix.den.toNat []).length) (fun jx=>[(iv fun _=>((L).getD ix.den.toNat []).getD jx.den.toNat 0)]))]))),(2,.val (Value.slice none 0 0)),(3,.row 20),(21,(iv fun _=>d.pn)),(22,(iv fun _=>zi x.1))],[(0,.cells [(iS d.tw),(iS d.tm),(.sl 1 (.sym fun _=>zi (d.tv).length) (fun ix=>[(.sl 1 (.sym fun _=>zi ((d.tv).getD ix.den.toNat []).length) (fun jx=>[(iv fun _=>((d.tv).getD ix.den.toNat []).getD jx.den.toNat 0)]))])),(iv fun _=>d.sn),(iv fun _=>d.pn),(.sl 4 (.sym fun _=>zi (d.ls).length) (fun ix=>[(iv fun _=>((d.ls).getD ix.den.toNat l0T).a),(iv fun _=>((d.ls).getD ix.den.toNat l0T).b),(iv fun _=>((d.ls).getD ix.den.toNat l0T).lo),(iv fun _=>((d.ls).getD ix.den.toNat l0T).hi)])),(.sl 6 (.sym fun _=>zi (d.fs).length) (fun ix=>[(iv fun _=>((d.fs).getD ix.den.toNat f0T).p),(iv fun _=>((d.fs).getD ix.den.toNat f0T).s),(iv fun _=>((d.fs).getD ix.den.toNat f0T).wl),(iv fun _=>((d.fs).getD ix.den.toNat f0T).wh),(iv fun _=>((d.fs).getD ix.den.toNat f0T).ml),(iv fun _=>((d.fs).getD ix.den.toNat f0T).mh)]))] 39),(20,.row 3 1 (.sym fun _=>zi ((ubZ fB x.1)).length) (fun ix=>[(iv fun _=>((ubZ fB x.1)).getD ix.den.toNat 0)]))],100⟩,fun x=>d.pn.toNat-x.1,?_,?_⟩
 ·refine⟨⟨0,by omega⟩,?_⟩
  cbv
  repeat' (first|with_reducible refine ua4 ?_ ?_|with_reducible refine And.intro ?_ ?_)
  all_goals first|trivial|exact qM (qE (by rfl))|exact qM (Fit.refl _)|exact qL (qK _)|(refine qL (uae ?_ ?_);(first|rfl|((try simp only [qV]at *);(try simp only [zQ,zA,zB,zC,zD,zE,zF,zG,zH,zI,zJ,zK,zL,zM,zN,zO,zP,zR,zS]at *);omega));intro ix h0 h1;exfalso;(try simp only [qV]at *);(try simp only [zQ,zA,zB,zC,zD,zE,zF,zG,zH,zI,zJ,zK,zL,zM,zN,zO,zP,zR,zS]at *);omega)|skip
 ·rintro ⟨k, hk⟩
  cbv
  have hl2:=uig fB k
  have hyB:=uqt (f:=fB) (k:=k)
  have hnB:=up1 (f:=fB) (k:=k)
  obtain⟨M2,hM2⟩:∃M,M=ubZ fB k:=⟨_,rfl⟩
  rw [←hM2]at hl2 hyB hnB⊢
  have c64k:=c64 k
  have c65k:=c65 k
  rcases Nat.lt_or_ge k d.pn.toNat with hlt|hge
  ·have hfa :=hAf k hlt
   rw [hfa]at c64k
   rcases hfb:fB k with _|_
   ·rw [hfb]at c65k
    cbv
    repeat' (first
     |with_reducible refine ua4 ?_ ?_
     |with_reducible refine And.intro ?_ ?_
     |(with_reducible intro hcd;(try simp only [zA,zB,zC,zD,zE,zF,zG,zH,zI,zJ,zK,zL,zM,zN,zO,zP]at hcd);try cbv)
     | (refine⟨some [102],?_⟩
        cbv
        refine qQ ?_ (c64k) ?hfit ?hbo
        case hfit=>(cbv;(repeat' (first|exact qB|refine qD ?_ ?_|exact qE (by rfl)|exact qF (by rfl)|exact Fit.refl _|exact qA|refine qC ?_ rfl ?_));done)
        case hbo=>(cbv;(repeat' (first|exact qH|refine qI ?_ ?_|exact qK _|refine qJ ?_|exact qA|exact qE (by rfl)|exact qF (by rfl)|exact Fit.refl _|exact qG _|refine qC ?_ rfl ?_));done)
        try cbv)
     | (refine⟨some [102],?_⟩
        cbv
        refine qQ ?_ (c65k) ?hfit ?hbo
        case hfit=>(cbv;(repeat' (first|exact qB|refine qD ?_ ?_|exact qE (by rfl)|exact qF (by rfl)|exact Fit.refl _|exact qA|refine qC ?_ rfl ?_));done)
        case hbo=>(cbv;(repeat' (first|exact qH|refine qI ?_ ?_|exact qK _|refine qJ ?_|exact qA|exact qE (by rfl)|exact qF (by rfl)|exact Fit.refl _|exact qG _|refine qC ?_ rfl ?_));done)
        try cbv)
     | (obtain⟨L4,eL4⟩:∃y:List Int,y=M2++[zi k]:=⟨_,rfl⟩
        refine⟨ueB L4,?_⟩
        cbv
        refine ua4 (uaq (L:=M2) eL4 (by(first|rfl|((try simp only [qV]at *);(try simp only [zQ,zA,zB,zC,zD,zE,zF,zG,zH,zI,zJ,zK,zL,zM,zN,zO,zP,zR,zS]at *);done)|((try simp only [qV]at *);(try simp only [zQ,zA,zB,zC,zD,zE,zF,zG,zH,zI,zJ,zK,zL,zM,zN,zO,zP,zR,zS]at *);omega))) (by rfl) (fun ix=>Fit.refl _) (fun ix h=>qC (qE (by rfl)) rfl qA) (by(try simp only [qV]at *);(try simp only [zQ,zA,zB,zC,zD,zE,zF,zG,zH,zI,zJ,zK,zL,zM,zN,zO,zP,zR,zS]at *);omega)) (Or.inl ?_)
        try cbv)
     |fail)
    all_goals first|trivial|((try simp only [qV]at *);(try simp only [zQ,zA,zB,zC,zD,zE,zF,zG,zH,zI,zJ,zK,zL,zM,zN,zO,zP,zR,zS]at *);first|(refine qN ?_;omega)|(simp only [uaj];omega))|((have hke:k=d.pn.toNat:=(by((try simp only [qV]at *);(try simp only [zQ,zA,zB,zC,zD,zE,zF,zG,zH,zI,zJ,zK,zL,zM,zN,zO,zP,zR,zS]at *);omega)));subst hR;rw [←hke,←hM2];exact qD (Fit.refl _) (qD (Fit.refl _) (qD (qE rfl) qB)))|((try simp only [zQ,zA,zB,zC,zD,zE,zF,zG,zH,zI,zJ,zK,zL,zM,zN,zO,zP,zR,zS]at *);(have hx2:ubZ fB (k+1)=M2:=hnB hfb);refine⟨⟨k+1,by((try simp only [qV]at *);(try simp only [zQ,zA,zB,zC,zD,zE,zF,zG,zH,zI,zJ,zK,zL,zM,zN,zO,zP,zR,zS]at *);omega)⟩,by simp only [];omega,?_⟩;cbv;(repeat' (first|with_reducible refine ua4 ?_ ?_|with_reducible refine And.intro ?_ ?_));(all_goals first|trivial|exact qM (qE (by rfl))|exact qM (qF (by rfl))|exact qM (Fit.refl _)|exact qL (qK _)|(refine qM (qE ?_);(try simp only [qV]at *);simp only [zQ,zA,zB,zC,zD,zE,zF,zG,zH,zI,zJ,zK,zL,zM,zN,zO,zP,zR,zS]at *;omega)|(refine qL (qJ ?_);(repeat' (first|exact qA|exact qB|refine qC ?_ rfl ?_|refine qD ?_ ?_|exact qE (by rfl)|exact qF (by rfl)|exact Fit.refl _|exact qG _|(refine qE ?_;(try simp only [qV]at *);simp only [zQ,zA,zB,zC,zD,zE,zF,zG,zH,zI,zJ,zK,zL,zM,zN,zO,zP,zR,zS]at *;omega)));done)|(simp only [hx2];first|exact qL (qK _)|(refine qL (uae ?_ ?_)<;>first|rfl|(rw [hM2,List.length_append];rfl)|((try simp only [qV]at *);(try simp only [zQ,zA,zB,zC,zD,zE,zF,zG,zH,zI,zJ,zK,zL,zM,zN,zO,zP,zR,zS]at *);(try simp only [hM2,List.length_append,List.length_cons,List.length_nil]at *);omega)|(intro ix h0 h1;exact Fit.refl _)))|skip))|skip
   ·rw [hfb]at c65k
    cbv
    repeat' (first
     |with_reducible refine ua4 ?_ ?_
     |with_reducible refine And.intro ?_ ?_
     |(with_reducible intro hcd;(try simp only [zA,zB,zC,zD,zE,zF,zG,zH,zI,zJ,zK,zL,zM,zN,zO,zP]at hcd);try cbv)
     | (refine⟨some [102],?_⟩
        cbv
        refine qQ ?_ (c64k) ?hfit ?hbo
        case hfit=>(cbv;(repeat' (first|exact qB|refine qD ?_ ?_|exact qE (by rfl)|exact qF (by rfl)|exact Fit.refl _|exact qA|refine qC ?_ rfl ?_));done)
        case hbo=>(cbv;(repeat' (first|exact qH|refine qI ?_ ?_|exact qK _|refine qJ ?_|exact qA|exact qE (by rfl)|exact qF (by rfl)|exact Fit.refl _|exact qG _|refine qC ?_ rfl ?_));done)
        try cbv)
     | (refine⟨some [102],?_⟩
        cbv
        refine qQ ?_ (c65k) ?hfit ?hbo
        case hfit=>(cbv;(repeat' (first|exact qB|refine qD ?_ ?_|exact qE (by rfl)|exact qF (by rfl)|exact Fit.refl _|exact qA|refine qC ?_ rfl ?_));done)
        case hbo=>(cbv;(repeat' (first|exact qH|refine qI ?_ ?_|exact qK _|refine qJ ?_|exact qA|exact qE (by rfl)|exact qF (by rfl)|exact Fit.refl _|exact qG _|refine qC ?_ rfl ?_));done)
        try cbv)
     | (obtain⟨L4,eL4⟩:∃y:List Int,y=M2++[zi k]:=⟨_,rfl⟩
        refine⟨ueB L4,?_⟩
        cbv
        refine ua4 (uaq (L:=M2) eL4 (by(first|rfl|((try simp only [qV]at *);(try simp only [zQ,zA,zB,zC,zD,zE,zF,zG,zH,zI,zJ,zK,zL,zM,zN,zO,zP,zR,zS]at *);done)|((try simp only [qV]at *);(try simp only [zQ,zA,zB,zC,zD,zE,zF,zG,zH,zI,zJ,zK,zL,zM,zN,zO,zP,zR,zS]at *);omega))) (by rfl) (fun ix=>Fit.refl _) (fun ix h=>qC (qE (by rfl)) rfl qA) (by(try simp only [qV]at *);(try simp only [zQ,zA,zB,zC,zD,zE,zF,zG,zH,zI,zJ,zK,zL,zM,zN,zO,zP,zR,zS]at *);omega)) (Or.inl ?_)
        try cbv)
     |fail)
    all_goals first|trivial|((try simp only [qV]at *);(try simp only [zQ,zA,zB,zC,zD,zE,zF,zG,zH,zI,zJ,zK,zL,zM,zN,zO,zP,zR,zS]at *);first|(refine qN ?_;omega)|(simp only [uaj];omega))|((have hke:k=d.pn.toNat:=(by((try simp only [qV]at *);(try simp only [zQ,zA,zB,zC,zD,zE,zF,zG,zH,zI,zJ,zK,zL,zM,zN,zO,zP,zR,zS]at *);omega)));subst hR;rw [←hke,←hM2];exact qD (Fit.refl _) (qD (Fit.refl _) (qD (qE rfl) qB)))|((try simp only [zQ,zA,zB,zC,zD,zE,zF,zG,zH,zI,zJ,zK,zL,zM,zN,zO,zP,zR,zS]at *);(have hx2:ubZ fB (k+1)=L4:=(hyB hfb).trans eL4.symm);refine⟨⟨k+1,by((try simp only [qV]at *);(try simp only [zQ,zA,zB,zC,zD,zE,zF,zG,zH,zI,zJ,zK,zL,zM,zN,zO,zP,zR,zS]at *);omega)⟩,by simp only [];omega,?_⟩;cbv;(repeat' (first|with_reducible refine ua4 ?_ ?_|with_reducible refine And.intro ?_ ?_));(all_goals first|trivial|exact qM (qE (by rfl))|exact qM (qF (by rfl))|exact qM (Fit.refl _)|exact qL (qK _)|(refine qM (qE ?_);(try simp only [qV]at *);simp only [zQ,zA,zB,zC,zD,zE,zF,zG,zH,zI,zJ,zK,zL,zM,zN,zO,zP,zR,zS]at *;omega)|(refine qL (qJ ?_);(repeat' (first|exact qA|exact qB|refine qC ?_ rfl ?_|refine qD ?_ ?_|exact qE (by rfl)|exact qF (by rfl)|exact Fit.refl _|exact qG _|(refine qE ?_;(try simp only [qV]at *);simp only [zQ,zA,zB,zC,zD,zE,zF,zG,zH,zI,zJ,zK,zL,zM,zN,zO,zP,zR,zS]at *;omega)));done)|(simp only [hx2];first|exact qL (qK _)|(refine qL (uae ?_ ?_)<;>first|rfl|(rw [eL4,List.length_append];rfl)|((try simp only [qV]at *);(try simp only [zQ,zA,zB,zC,zD,zE,zF,zG,zH,zI,zJ,zK,zL,zM,zN,zO,zP,zR,zS]at *);(try simp only [eL4,List.length_append,List.length_cons,List.length_nil]at *);omega)|(intro ix h0 h1;exact Fit.refl _)))|skip))|skip
  ·cbv
   repeat' (first|with_reducible refine And.intro ?_ ?_|(with_reducible intro hcd;(try simp only [zA,zB,zC,zD,zE,zF,zG,zH,zI,zJ,zK,zL,zM,zN,zO,zP]at hcd);try cbv)|fail)
   all_goals first|((have hke:k=d.pn.toNat:=(by((try simp only [qV]at *);(try simp only [zQ,zA,zB,zC,zD,zE,zF,zG,zH,zI,zJ,zK,zL,zM,zN,zO,zP,zR,zS]at *);omega)));subst hR;rw [←hke,←hM2];exact qD (Fit.refl _) (qD (Fit.refl _) (qD (qE rfl) qB)))|(exfalso;(try simp only [qV]at *);(try simp only [zQ,zA,zB,zC,zD,zE,zF,zG,zH,zI,zJ,zK,zL,zM,zN,zO,zP,zR,zS]at *);omega)|skip
end Go.Proofs.YtkdggbfknlcdaaaGreat
namespace Go.Proofs.YtkdggbfknlcdaaaGreat
open Go Go.Eng Go.Eng.Dif Go.Eng.Few
theorem udN {n ix:Int} {o2:Nat} {e e':IX→List SV} {x:List SV}(h0:ix<n)(h1:∀jx:IX,0≤jx.den→jx.den<n→jx.den≠ix→Fit (.agg (e jx)) (.agg (e' jx)))
 (h2:∀jx:IX,0≤jx.den→jx.den<n→jx.den=ix→∃l,ukN (e jx) o2 x=some l∧Fit (.agg l) (.agg (e' jx))):uaj (ix<n∧utW n e ix o2 x e'):=
 ⟨h0,fun jx a b c=>(h1 jx a b c).le,fun jx a b c=>by obtain⟨l,p,q⟩:=h2 jx a b c;exact⟨l,p,q.le⟩⟩
def uif (f:Nat→Int)(p:Nat)(v:Int):Nat→Int:=fun i=>if i=p then v else f i
theorem ufR {f:Nat→Int} {p i:Nat} {v:Int}(h:i=p):v=uif f p v i:=by unfold uif;rw [if_pos h]
theorem uio {f:Nat→Int} {p i:Nat} {v:Int}(h:i≠p):f i=uif f p v i:=by unfold uif;rw [if_neg h]
theorem uus {n:Int} {m k:Nat}(hn:0≤n)(h:(k:Int)<n.tmod (m:Int)):(uxH n.toNat m k:Int)=n.tdiv (m:Int)+1:=by
 obtain⟨N,rfl⟩:∃N:Nat,n=(N:Int):=⟨n.toNat,by omega⟩
 have h1:(N:Int).tmod (m:Int)=((N%m:Nat):Int):=rfl
 have h2:(N:Int).tdiv (m:Int)=((N/m:Nat):Int):=rfl
 rw [h1]at h
 rw [h2]
 unfold uxH
 rw [Int.toNat_natCast,if_pos (by omega)]
 omega
theorem uui {n:Int} {m k:Nat}(hn:0≤n)(h:¬(k:Int)<n.tmod (m:Int)):(uxH n.toNat m k:Int)=n.tdiv (m:Int):=by
 obtain⟨N,rfl⟩:∃N:Nat,n=(N:Int):=⟨n.toNat,by omega⟩
 have h1:(N:Int).tmod (m:Int)=((N%m:Nat):Int):=rfl
 have h2:(N:Int).tdiv (m:Int)=((N/m:Nat):Int):=rfl
 rw [h1]at h
 rw [h2]
 unfold uxH
 rw [Int.toNat_natCast,if_neg (by omega)]
 omega
theorem utx {n:Int} {m:Nat}(h0:0≤n)(h1:n≤1000000):0≤n.tdiv (m:Int)∧n.tdiv (m:Int)≤1000000:=by
 obtain⟨N,rfl⟩:∃N:Nat,n=(N:Int):=⟨n.toNat,by omega⟩
 have h2:(N:Int).tdiv (m:Int)=((N/m:Nat):Int):=rfl
 have:=Nat.div_le_self N m
 rw [h2]
 exact⟨Int.natCast_nonneg _,Int.le_trans (Int.ofNat_le.2 this) h1⟩
theorem uiY {n:Int} {L:List Int} {m k i:Nat}(hn:0≤n)(h0:0≤L.getD k 0)(h:¬(k:Int)<n.tmod (m:Int)):uif (ucp n.toNat L m k) (L.getD k 0).toNat (n.tdiv (m:Int)) i=ucp n.toNat L m (k+1) i:=by
 unfold uif ucp
 rw [uui hn h]
 by_cases e:i=(L.getD k 0).toNat
 ·rw [if_pos e,if_pos (by omega)]
 ·rw [if_neg e,if_neg (by omega)]
  cases k<;>rfl
theorem uiB {n:Int} {L:List Int} {m k i a:Nat}(hn:0≤n)(h0:0≤L.getD k 0)(h:(k:Int)<n.tmod (m:Int))(ha:a=(L.getD k 0).toNat):uif (uif (ucp n.toNat L m k) (L.getD k 0).toNat (n.tdiv (m:Int))) (L.getD k 0).toNat (uif (ucp n.toNat L m k) (L.getD k 0).toNat (n.tdiv (m:Int)) a+1) i=ucp n.toNat L m (k+1) i:=by
 rw [←ufR ha]
 unfold uif ucp
 rw [uus hn h]
 by_cases e:i=(L.getD k 0).toNat
 ·rw [if_pos e,if_pos (by omega)]
 ·rw [if_neg e,if_neg e,if_neg (by omega)]
  cases k<;>rfl
theorem uoH {d:Dsp}(h:uam d=0):Asc d.pn.toNat 0 (ufj d)∧0<(ufj d).length:=by
 have e:uhL d=ubZ (um5 d) d.pn.toNat:=if_pos h
 have p1:=(ua3.1 (uaH h).1).p1
 unfold ufj
 rw [e]
 exact urY (by omega) up6
theorem uty {d:Dsp}(h:uam d=0) {k:Nat}(hk:k<(ufj d).length):0≤(ufj d).getD k 0∧(ufj d).getD k 0<d.pn:=by
 have:=uwT (uoH h).1 k hk
 have p1:=(ua3.1 (uaH h).1).p1
 omega
theorem uqR {d:Dsp}(h:uam d=0):(ufj d).length≤4:=by
 have p4:=(ua3.1 (uaH h).1).p4
 have e:uhL d=ubZ (um5 d) d.pn.toNat:=if_pos h
 unfold ufj ukS
 split
 ·rw [uiq];omega
 ·rw [e];have:=uig (um5 d) d.pn.toNat;omega
theorem uvi {d:Dsp}(h:uhL d=[]):ufj d=uaZ d.pn.toNat:=by unfold ufj ukS;rw [h];rfl
theorem uwE {d:Dsp}(h:uhL d≠[]):ufj d=uhL d:=by
 unfold ufj ukS
 rw [if_neg (by rw [List.length_eq_zero_iff];exact h)]
theorem uxp (k:Nat):uaZ (k+1)=uaZ k++[(k:Int)]:=rfl
theorem ui5 {d:Dsp} {n:Int}(h:coE d n=0):uam d=0∧0≤n∧n≤1000000:=by
 by_cases hF:ua5 d=0
 ·by_cases hn:uoE n
  ·by_cases hf:uam d=0
   ·exact⟨hf,hn.1,hn.2⟩
   ·rw [(uml hF hn hf).1]at h;exact absurd h hf
  ·rw [(uuc hF hn).1]at h;omega
 ·rw [(ur7 hF).1]at h;exact absurd h hF
theorem urq {d:Dsp} {n:Int}(h:¬coE d n=0):coN d n=0:=by unfold coN;rw [if_neg h]
end Go.Proofs.YtkdggbfknlcdaaaGreat
namespace Go.Proofs.YtkdggbfknlcdaaaGreat
open Go Go.Eng Go.Proofs Go.Eng.Dif Go.Eng.Few
set_option maxRecDepth 10000
theorem usU (d:Dsp)(n:Int)(h:¬coE d n=0):ua0 Tryz.prog 20 [(ub0 d),(iv fun _=>n)] [] (fun r _=>r=(.tup [(.sl 1 (.sym fun _=>coN d n) (fun ix=>[(iv fun _=>ukJ d n ix.den.toNat)])),(iv fun _=>coE d n)])):=by
 have c16:=ubA d
 have c43:= @ud2
 have c33:=ul6 d
 refine ua0.is fun R hR=>qW (sc:=uz6) uai mix Tryz.func20 rfl Tryz.call20 (by kernel_rfl) (by kernel_rfl) ?_
 generalize Tryz.prog=P at c16 c43 c33⊢
 cbv
 repeat' (first|with_reducible refine ua4 ?_ ?_|with_reducible refine And.intro ?_ ?_|(with_reducible intro hcd;(try simp only [zA,zB,zC,zD,zE,zF,zG,zH,zI,zJ,zK,zL,zM,zN,zO,zP]at hcd);try cbv)|(refine qP ?_ (c16) ?hfit;(case hfit=>((repeat' (first|exact qB|refine qD ?_ ?_|exact qE (by rfl)|exact qF (by rfl)|exact Fit.refl _|exact qA|refine qC ?_ rfl ?_));done));try cbv)|(refine qP ?_ (c43 _ _ _) (by(repeat' (first|exact qB|refine qD ?_ ?_|exact qE (by rfl)|exact qF (by rfl)|exact Fit.refl _|exact qA|refine qC ?_ rfl ?_)));try cbv)|(refine qP ?_ (c33) ?hfit;(case hfit=>((repeat' (first|exact qB|refine qD ?_ ?_|exact qE (by rfl)|exact qF (by rfl)|exact Fit.refl _|exact qA|refine qC ?_ rfl ?_));done));try cbv)|fail)
 all_goals first|(subst hR;((try simp only [qV]at *);(try simp only [zQ,zA,zB,zC,zD,zE,zF,zG,zH,zI,zJ,zK,zL,zM,zN,zO,zP,zR,zS]at *);(try simp only [uah,uak,uav,uaE,uaJ,uaM,ua8,uaa,ua9,uab]at *);(exact qD (qO (urq h)) (qD (qE (ur7 (d:=d) (n:=n) (by first|assumption|omega)).1.symm) qB)));done)|(subst hR;((try simp only [qV]at *);(try simp only [zQ,zA,zB,zC,zD,zE,zF,zG,zH,zI,zJ,zK,zL,zM,zN,zO,zP,zR,zS]at *);(try simp only [uah,uak,uav,uaE,uaJ,uaM,ua8,uaa,ua9,uab]at *);(exact qD (qO (urq h)) (qD (qE (uuc (d:=d) (n:=n) (by first|assumption|omega) (by unfold uoE;omega)).1.symm) qB)));done)|(subst hR;((try simp only [qV]at *);(try simp only [zQ,zA,zB,zC,zD,zE,zF,zG,zH,zI,zJ,zK,zL,zM,zN,zO,zP,zR,zS]at *);(try simp only [uah,uak,uav,uaE,uaJ,uaM,ua8,uaa,ua9,uab]at *);(exact qD (qO (urq h)) (qD (qE (uml (d:=d) (n:=n) (by first|assumption|omega) (by unfold uoE;omega) (by first|assumption|omega)).1.symm) qB)));done)|(exfalso;(try simp only [qV]at *);(try simp only [zQ,zA,zB,zC,zD,zE,zF,zG,zH,zI,zJ,zK,zL,zM,zN,zO,zP,zR,zS]at *);(try simp only [uah,uak,uav,uaE,uaJ,uaM,ua8,uaa,ua9,uab]at *);exact h (uh8 (by first|assumption|omega) (by unfold uoE;omega) (by first|assumption|omega)).1)|skip
theorem utw {f:Nat→Int} {p i a:Nat}(ha:a=p)(h:i=p):f a+1=uif f p (f p+1) i:=by
 subst ha
 exact ufR h
set_option maxHeartbeats 2000000 in
theorem us8 (d:Dsp)(n:Int)(h:coE d n=0)(he:uhL d=[]):ua0 Tryz.prog 20 [(ub0 d),(iv fun _=>n)] [] (fun r _=>r=(.tup [(.sl 1 (.sym fun _=>coN d n) (fun ix=>[(iv fun _=>ukJ d n ix.den.toNat)])),(iv fun _=>coE d n)])):=by
 have c16:=ubA d
 have c43:= @ud2
 have hf:=(ui5 h).1
 have hn0:=(ui5 h).2.1
 have hn1:=(ui5 h).2.2
 have hF:=(uaH hf).1
 have p1:=(ua3.1 hF).p1
 have p4:=(ua3.1 hF).p4
 have hco:=uh8 (n:=n) hF (show uoE n from⟨hn0,hn1⟩) hf
 have hbl:=uqR hf
 have hb0:=(uoH hf).2
 have hbe:=fun (k:Nat) (hk:k<(ufj d).length)=>uty hf hk
 have hend:∀{k:Nat},k=(ufj d).length→∀p,ucp n.toNat (ufj d) (ufj d).length k p=ukJ d n p:=fun hk p=>by subst hk;rfl
 have c33:=usD d hf he
 have hbn:=uvi he
 obtain⟨Lb,hLb⟩:∃L,L=ufj d:=⟨_,rfl⟩
 rw [←hLb]at hbl hb0 hbe hend hbn
 clear hLb
 refine ua0.is fun R hR=>qW (sc:=uz6) uai mix Tryz.func20 rfl Tryz.call20 (by kernel_rfl) (by kernel_rfl) ?_
 generalize Tryz.prog=P at c16 c43 c33⊢
 cbv
 repeat' (first|with_reducible refine And.intro ?_ ?_|(with_reducible intro hcd;(try simp only [zA,zB,zC,zD,zE,zF,zG,zH,zI,zJ,zK,zL,zM,zN,zO,zP]at hcd);try cbv)|(refine qP ?_ (c16) ?hfit;(case hfit=>((repeat' (first|exact qB|refine qD ?_ ?_|exact qE (by rfl)|exact qF (by rfl)|exact Fit.refl _|exact qA|refine qC ?_ rfl ?_));done));try cbv)|(refine qP ?_ (c43 _ _ _) (by(repeat' (first|exact qB|refine qD ?_ ?_|exact qE (by rfl)|exact qF (by rfl)|exact Fit.refl _|exact qA|refine qC ?_ rfl ?_)));try cbv)|(refine qP ?_ (c33) ?hfit;(case hfit=>((repeat' (first|exact qB|refine qD ?_ ?_|exact qE (by rfl)|exact qF (by rfl)|exact Fit.refl _|exact qA|refine qC ?_ rfl ?_));done));try cbv)|fail)
 all_goals first|trivial|(exfalso;(try simp only [qV]at *);(try simp only [zQ,zA,zB,zC,zD,zE,zF,zG,zH,zI,zJ,zK,zL,zM,zN,zO,zP,zR,zS]at *);(try simp only [uah,uak,uav,uaE,uaJ,uaM,ua8,uaa,ua9,uab]at *);omega)|skip
 refine⟨none,[⟨.tmp 7,3,1⟩],{k:Nat // k≤d.pn.toNat},fun x=>⟨[(1,(iv fun _=>n)),(2,.own 0 0),(7,.row 28),(35,(iv fun _=>d.pn)),(36,(iv fun _=>zi x.1))],[(0,.cells [(iS d.tw),(iS d.tm),(.sl 1 (.sym fun _=>zi (d.tv).length) (fun ix=>[(.sl 1 (.sym fun _=>zi ((d.tv).getD ix.den.toNat []).length) (fun jx=>[(iv fun _=>((d.tv).getD ix.den.toNat []).getD jx.den.toNat 0)]))])),(iv fun _=>d.sn),(iv fun _=>d.pn),(.sl 4 (.sym fun _=>zi (d.ls).length) (fun ix=>[(iv fun _=>((d.ls).getD ix.den.toNat l0T).a),(iv fun _=>((d.ls).getD ix.den.toNat l0T).b),(iv fun _=>((d.ls).getD ix.den.toNat l0T).lo),(iv fun _=>((d.ls).getD ix.den.toNat l0T).hi)])),(.sl 6 (.sym fun _=>zi (d.fs).length) (fun ix=>[(iv fun _=>((d.fs).getD ix.den.toNat f0T).p),(iv fun _=>((d.fs).getD ix.den.toNat f0T).s),(iv fun _=>((d.fs).getD ix.den.toNat f0T).wl),(iv fun _=>((d.fs).getD ix.den.toNat f0T).wh),(iv fun _=>((d.fs).getD ix.den.toNat f0T).ml),(iv fun _=>((d.fs).getD ix.den.toNat f0T).mh)]))] 39),(28,.row 3 1 (.sym fun _=>zi ((uaZ x.1)).length) (fun ix=>[(iv fun _=>((uaZ x.1)).getD ix.den.toNat 0)]))],100⟩,fun x=>d.pn.toNat-x.1,?_,?_⟩
 ·refine⟨⟨0,by omega⟩,?_⟩
  cbv
  repeat' (first|with_reducible refine ua4 ?_ ?_|with_reducible refine And.intro ?_ ?_)
  all_goals first|trivial|exact qM (qE (by rfl))|exact qM (Fit.refl _)|exact qL (qK _)|(refine qL (uae ?_ ?_);(first|rfl|((try simp only [qV]at *);(try simp only [zQ,zA,zB,zC,zD,zE,zF,zG,zH,zI,zJ,zK,zL,zM,zN,zO,zP,zR,zS]at *);omega));intro ix h0 h1;exfalso;(try simp only [qV]at *);(try simp only [zQ,zA,zB,zC,zD,zE,zF,zG,zH,zI,zJ,zK,zL,zM,zN,zO,zP,zR,zS]at *);omega)|skip
 ·rintro ⟨k,hk⟩
  cbv
  have hlen:=uiq k
  obtain⟨M,hM⟩:∃M,M=uaZ k:=⟨_,rfl⟩
  have hx0:=uxp k
  rw [←hM]at hlen hx0⊢
  cbv
  repeat' (first
   |with_reducible refine ua4 ?_ ?_
   |with_reducible refine And.intro ?_ ?_
   |(with_reducible intro hcd;(try simp only [zA,zB,zC,zD,zE,zF,zG,zH,zI,zJ,zK,zL,zM,zN,zO,zP]at hcd);try cbv)
   | (obtain⟨L2,eL2⟩:∃y:List Int,y=M++[zi k]:=⟨_,rfl⟩
      refine⟨ueB L2,?_⟩
      cbv
      refine ua4 (uaq (L:=M) eL2 (by(first|rfl|((try simp only [qV]at *);(try simp only [zQ,zA,zB,zC,zD,zE,zF,zG,zH,zI,zJ,zK,zL,zM,zN,zO,zP,zR,zS]at *);done)|((try simp only [qV]at *);(try simp only [zQ,zA,zB,zC,zD,zE,zF,zG,zH,zI,zJ,zK,zL,zM,zN,zO,zP,zR,zS]at *);omega))) (by rfl) (fun ix=>Fit.refl _) (fun ix h=>qC (qE (by rfl)) rfl qA) (by(try simp only [qV]at *);(try simp only [zQ,zA,zB,zC,zD,zE,zF,zG,zH,zI,zJ,zK,zL,zM,zN,zO,zP,zR,zS]at *);omega)) (Or.inl ?_)
      try cbv)
   |fail)
  all_goals first|((try simp only [qV]at *);(try simp only [zQ,zA,zB,zC,zD,zE,zF,zG,zH,zI,zJ,zK,zL,zM,zN,zO,zP,zR,zS]at *);first|(refine qN ?_;omega)|(simp only [uaj];omega))|(unfold uaj;exact⟨show(0:Int)≤d.pn by omega,rfl,show d.pn*((1:Nat):Int)≤16777216 by omega,show d.pn*((8:Nat):Int)≤16777216 by omega,show d.pn≤16777216 by omega⟩)|((try simp only [zQ,zA,zB,zC,zD,zE,zF,zG,zH,zI,zJ,zK,zL,zM,zN,zO,zP,zR,zS]at *);(have hx:uaZ (k+1)=L2:=hx0.trans eL2.symm);refine⟨⟨k+1,by((try simp only [qV]at *);(try simp only [zQ,zA,zB,zC,zD,zE,zF,zG,zH,zI,zJ,zK,zL,zM,zN,zO,zP,zR,zS]at *);omega)⟩,by simp only [];omega,?_⟩;cbv;(repeat' (first|with_reducible refine ua4 ?_ ?_|with_reducible refine And.intro ?_ ?_));(all_goals first|trivial|exact qM (qE (by rfl))|exact qM (qF (by rfl))|exact qM (Fit.refl _)|exact qL (qK _)|(refine qM (qE ?_);(try simp only [qV]at *);simp only [zQ,zA,zB,zC,zD,zE,zF,zG,zH,zI,zJ,zK,zL,zM,zN,zO,zP,zR,zS]at *;omega)|(refine qL (qJ ?_);(repeat' (first|exact qA|exact qB|refine qC ?_ rfl ?_|refine qD ?_ ?_|exact qE (by rfl)|exact qF (by rfl)|exact Fit.refl _|exact qG _|(refine qE ?_;(try simp only [qV]at *);simp only [zQ,zA,zB,zC,zD,zE,zF,zG,zH,zI,zJ,zK,zL,zM,zN,zO,zP,zR,zS]at *;omega)));done)|(simp only [hx];first|exact qL (qK _)|(refine qL (uae ?_ ?_)<;>first|rfl|(rw [eL2,List.length_append];rfl)|((try simp only [qV]at *);(try simp only [zQ,zA,zB,zC,zD,zE,zF,zG,zH,zI,zJ,zK,zL,zM,zN,zO,zP,zR,zS]at *);(try simp only [eL2,List.length_append,List.length_cons,List.length_nil]at *);omega)|(intro ix h0 h1;exact Fit.refl _)))|skip))|skip
  have hkP:k=d.pn.toNat:=(by((try simp only [qV]at *);(try simp only [zQ,zA,zB,zC,zD,zE,zF,zG,zH,zI,zJ,zK,zL,zM,zN,zO,zP,zR,zS]at *);omega))
  have hML:M=Lb:=by rw [hM,hkP,←hbn]
  rw [hML]
  refine⟨none,[],{k:Nat // k≤Lb.length},fun x=>⟨[(1,(iv fun _=>n)),(7,.row 28),(11,.row 103),(47,.row 28),(48,(iv fun _=>zi Lb.length)),(49,(iv fun _=>zi x.1))],[(0,.cells [(iS d.tw),(iS d.tm),(.sl 1 (.sym fun _=>zi (d.tv).length) (fun ix=>[(.sl 1 (.sym fun _=>zi ((d.tv).getD ix.den.toNat []).length) (fun jx=>[(iv fun _=>((d.tv).getD ix.den.toNat []).getD jx.den.toNat 0)]))])),(iv fun _=>d.sn),(iv fun _=>d.pn),(.sl 4 (.sym fun _=>zi (d.ls).length) (fun ix=>[(iv fun _=>((d.ls).getD ix.den.toNat l0T).a),(iv fun _=>((d.ls).getD ix.den.toNat l0T).b),(iv fun _=>((d.ls).getD ix.den.toNat l0T).lo),(iv fun _=>((d.ls).getD ix.den.toNat l0T).hi)])),(.sl 6 (.sym fun _=>zi (d.fs).length) (fun ix=>[(iv fun _=>((d.fs).getD ix.den.toNat f0T).p),(iv fun _=>((d.fs).getD ix.den.toNat f0T).s),(iv fun _=>((d.fs).getD ix.den.toNat f0T).wl),(iv fun _=>((d.fs).getD ix.den.toNat f0T).wh),(iv fun _=>((d.fs).getD ix.den.toNat f0T).ml),(iv fun _=>((d.fs).getD ix.den.toNat f0T).mh)]))] 39),(28,.row 3 1 (.sym fun _=>zi (Lb).length) (fun ix=>[(iv fun _=>(Lb).getD ix.den.toNat 0)])),(103,.row 3 1 (.sym fun _=>d.pn) (fun ix=>[(iv fun _=>(ucp n.toNat Lb Lb.length x.1) ix.den.toNat)]))],300⟩,fun x=>Lb.length-x.1,?_,?_⟩
  ·refine⟨⟨0,by omega⟩,?_⟩
   cbv
   repeat' (first|with_reducible refine ua4 ?_ ?_|with_reducible refine And.intro ?_ ?_)
   all_goals first|trivial|exact qM (qE (by rfl))|exact qM (Fit.refl _)|exact qL (qK _)|(refine qL (uae ?_ ?_)<;>first|rfl|((try simp only [qV]at *);(try simp only [zQ,zA,zB,zC,zD,zE,zF,zG,zH,zI,zJ,zK,zL,zM,zN,zO,zP,zR,zS]at *);omega)|(intro ix h0 h1;first|exact Fit.refl _|exact qC (qE rfl) rfl qA))|skip
  ·rintro ⟨k,hk⟩
   cbv
   repeat' (first
    |with_reducible refine ua4 ?_ ?_
    |with_reducible refine And.intro ?_ ?_
    |(with_reducible refine qS ?_ ?_ ?_;try cbv)
    |(with_reducible refine qT ?_ ?_;try cbv)
    |(with_reducible intro hcd;(try simp only [zA,zB,zC,zD,zE,zF,zG,zH,zI,zJ,zK,zL,zM,zN,zO,zP]at hcd);try cbv)
    | ((have hk9:=hbe k (by((try simp only [qV]at *);(try simp only [zQ,zA,zB,zC,zD,zE,zF,zG,zH,zI,zJ,zK,zL,zM,zN,zO,zP,zR,zS]at *);omega)))
       refine⟨fun ix=>[(iv fun _=>(uif (ucp n.toNat Lb Lb.length k) (Lb.getD k 0).toNat (n.tdiv (zi Lb.length))) ix.den.toNat)],?_⟩
       cbv
       refine ua4 (udN (o2:=0) (x:=[_]) (by((try simp only [qV]at *);(try simp only [zQ,zA,zB,zC,zD,zE,zF,zG,zH,zI,zJ,zK,zL,zM,zN,zO,zP,zR,zS]at *);omega)) (by intro jx h0 h1 h2;refine qC (qE ?_) rfl qA;(try simp only [qV]at *);(try simp only [zQ,zA,zB,zC,zD,zE,zF,zG,zH,zI,zJ,zK,zL,zM,zN,zO,zP,zR,zS]at *);exact uio (by omega)) (by intro jx h0 h1 h2;refine⟨_,rfl,qC (qE ?_) rfl qA⟩;(try simp only [qV]at *);(try simp only [zQ,zA,zB,zC,zD,zE,zF,zG,zH,zI,zJ,zK,zL,zM,zN,zO,zP,zR,zS]at *);exact ufR (by omega))) ?_
       try cbv)
    | ((have hk9:=hbe k (by((try simp only [qV]at *);(try simp only [zQ,zA,zB,zC,zD,zE,zF,zG,zH,zI,zJ,zK,zL,zM,zN,zO,zP,zR,zS]at *);omega)))
       refine⟨fun ix=>[(iv fun _=>(uif (uif (ucp n.toNat Lb Lb.length k) (Lb.getD k 0).toNat (n.tdiv (zi Lb.length))) (Lb.getD k 0).toNat ((uif (ucp n.toNat Lb Lb.length k) (Lb.getD k 0).toNat (n.tdiv (zi Lb.length))) (Lb.getD k 0).toNat+1)) ix.den.toNat)],?_⟩
       cbv
       refine ua4 (udN (o2:=0) (x:=[_]) (by((try simp only [qV]at *);(try simp only [zQ,zA,zB,zC,zD,zE,zF,zG,zH,zI,zJ,zK,zL,zM,zN,zO,zP,zR,zS]at *);omega)) (by intro jx h0 h1 h2;refine qC (qE ?_) rfl qA;(try simp only [qV]at *);(try simp only [zQ,zA,zB,zC,zD,zE,zF,zG,zH,zI,zJ,zK,zL,zM,zN,zO,zP,zR,zS]at *);exact uio (by omega)) (by intro jx h0 h1 h2;refine⟨_,rfl,qC (qE ?_) rfl qA⟩;(try simp only [qV]at *);(try simp only [zQ,zA,zB,zC,zD,zE,zF,zG,zH,zI,zJ,zK,zL,zM,zN,zO,zP,zR,zS]at *);exact utw (by omega) (by omega))) ?_
       try cbv)
    |fail)
   all_goals first|trivial|((try simp only [qV]at *);(try simp only [zQ,zA,zB,zC,zD,zE,zF,zG,zH,zI,zJ,zK,zL,zM,zN,zO,zP,zR,zS]at *);first|(refine qN ?_;omega)|(simp only [uaj];omega))|((have hk9:=hbe k (by((try simp only [qV]at *);(try simp only [zQ,zA,zB,zC,zD,zE,zF,zG,zH,zI,zJ,zK,zL,zM,zN,zO,zP,zR,zS]at *);omega)));(try simp only [qV]at *);(try simp only [zQ,zA,zB,zC,zD,zE,zF,zG,zH,zI,zJ,zK,zL,zM,zN,zO,zP,zR,zS]at *);simp only [uaj];first|omega|exact⟨by omega,by omega⟩)|((have hk9:=hbe k (by((try simp only [qV]at *);(try simp only [zQ,zA,zB,zC,zD,zE,zF,zG,zH,zI,zJ,zK,zL,zM,zN,zO,zP,zR,zS]at *);omega)));(have hq9:=utx (m:=Lb.length) hn0 hn1);(try simp only [qV]at *);(try simp only [zQ,zA,zB,zC,zD,zE,zF,zG,zH,zI,zJ,zK,zL,zM,zN,zO,zP,zR,zS]at *);first|(refine qN ?_;omega)|(rw [←ufR (by omega)];refine qN ?_;omega))|((have hke:k=Lb.length:=(by((try simp only [qV]at *);(try simp only [zQ,zA,zB,zC,zD,zE,zF,zG,zH,zI,zJ,zK,zL,zM,zN,zO,zP,zR,zS]at *);omega)));subst hR;exact qD (ua1 hco.2.symm (fun ix h0 h1=>qC (qE (hend hke _)) rfl qA)) (qD (qE hco.1.symm) qB))|((try simp only [zQ,zA,zB,zC,zD,zE,zF,zG,zH,zI,zJ,zK,zL,zM,zN,zO,zP,zR,zS]at *);(have hk9:=hbe k (by((try simp only [qV]at *);(try simp only [zQ,zA,zB,zC,zD,zE,zF,zG,zH,zI,zJ,zK,zL,zM,zN,zO,zP,zR,zS]at *);omega)));(have hlo:¬(k:Int)<n.tmod (Lb.length:Int):=hcd);refine⟨⟨k+1,by((try simp only [qV]at *);(try simp only [zQ,zA,zB,zC,zD,zE,zF,zG,zH,zI,zJ,zK,zL,zM,zN,zO,zP,zR,zS]at *);omega)⟩,by simp only [];omega,?_⟩;cbv;(repeat' (first|with_reducible refine ua4 ?_ ?_|with_reducible refine And.intro ?_ ?_));(all_goals first|trivial|exact qM (qE (by rfl))|exact qM (qF (by rfl))|exact qM (Fit.refl _)|exact qL (qK _)|(refine qM (qE ?_);(try simp only [qV]at *);simp only [zQ,zA,zB,zC,zD,zE,zF,zG,zH,zI,zJ,zK,zL,zM,zN,zO,zP,zR,zS]at *;omega)|(refine qL (qJ ?_);(repeat' (first|exact qA|exact qB|refine qC ?_ rfl ?_|refine qD ?_ ?_|exact qE (by rfl)|exact qF (by rfl)|exact Fit.refl _|exact qG _|(refine qE ?_;(try simp only [qV]at *);simp only [zQ,zA,zB,zC,zD,zE,zF,zG,zH,zI,zJ,zK,zL,zM,zN,zO,zP,zR,zS]at *;omega)));done)|(refine qL (uae ?_ ?_)<;>first|rfl|(intro ix h0 h1;first|exact Fit.refl _|exact qC (qE (uiY hn0 hk9.1 hlo)) rfl qA|exact qC (qE (uiB hn0 hk9.1 hhi rfl)) rfl qA))|skip))|((try simp only [zQ,zA,zB,zC,zD,zE,zF,zG,zH,zI,zJ,zK,zL,zM,zN,zO,zP,zR,zS]at *);(have hk9:=hbe k (by((try simp only [qV]at *);(try simp only [zQ,zA,zB,zC,zD,zE,zF,zG,zH,zI,zJ,zK,zL,zM,zN,zO,zP,zR,zS]at *);omega)));(have hhi:(k:Int)<n.tmod (Lb.length:Int):=hcd);refine⟨⟨k+1,by((try simp only [qV]at *);(try simp only [zQ,zA,zB,zC,zD,zE,zF,zG,zH,zI,zJ,zK,zL,zM,zN,zO,zP,zR,zS]at *);omega)⟩,by simp only [];omega,?_⟩;cbv;(repeat' (first|with_reducible refine ua4 ?_ ?_|with_reducible refine And.intro ?_ ?_));(all_goals first|trivial|exact qM (qE (by rfl))|exact qM (qF (by rfl))|exact qM (Fit.refl _)|exact qL (qK _)|(refine qM (qE ?_);(try simp only [qV]at *);simp only [zQ,zA,zB,zC,zD,zE,zF,zG,zH,zI,zJ,zK,zL,zM,zN,zO,zP,zR,zS]at *;omega)|(refine qL (qJ ?_);(repeat' (first|exact qA|exact qB|refine qC ?_ rfl ?_|refine qD ?_ ?_|exact qE (by rfl)|exact qF (by rfl)|exact Fit.refl _|exact qG _|(refine qE ?_;(try simp only [qV]at *);simp only [zQ,zA,zB,zC,zD,zE,zF,zG,zH,zI,zJ,zK,zL,zM,zN,zO,zP,zR,zS]at *;omega)));done)|(refine qL (uae ?_ ?_)<;>first|rfl|(intro ix h0 h1;first|exact Fit.refl _|exact qC (qE (uiY hn0 hk9.1 hlo)) rfl qA|exact qC (qE (uiB hn0 hk9.1 hhi rfl)) rfl qA))|skip))|skip
set_option maxHeartbeats 2000000 in
theorem urG (d:Dsp)(n:Int)(h:coE d n=0)(he:uhL d≠[]):ua0 Tryz.prog 20 [(ub0 d),(iv fun _=>n)] [] (fun r _=>r=(.tup [(.sl 1 (.sym fun _=>coN d n) (fun ix=>[(iv fun _=>ukJ d n ix.den.toNat)])),(iv fun _=>coE d n)])):=by
 have c16:=ubA d
 have c43:= @ud2
 have hf:=(ui5 h).1
 have hn0:=(ui5 h).2.1
 have hn1:=(ui5 h).2.2
 have hF:=(uaH hf).1
 have p1:=(ua3.1 hF).p1
 have p4:=(ua3.1 hF).p4
 have hco:=uh8 (n:=n) hF (show uoE n from⟨hn0,hn1⟩) hf
 have hbl:=uqR hf
 have hb0:=(uoH hf).2
 have hbe:=fun (k:Nat) (hk:k<(ufj d).length)=>uty hf hk
 have hend:∀{k:Nat},k=(ufj d).length→∀p,ucp n.toNat (ufj d) (ufj d).length k p=ukJ d n p:=fun hk p=>by subst hk;rfl
 have c33:=ul6 d
 have hbn:=uwE he
 rw [←hbn]at c33
 obtain⟨Lb,hLb⟩:∃L,L=ufj d:=⟨_,rfl⟩
 rw [←hLb]at hbl hb0 hbe hend c33
 clear hLb hbn
 refine ua0.is fun R hR=>qW (sc:=uz6) uai mix Tryz.func20 rfl Tryz.call20 (by kernel_rfl) (by kernel_rfl) ?_
 generalize Tryz.prog=P at c16 c43 c33⊢
 cbv
 repeat' (first|with_reducible refine ua4 ?_ ?_|with_reducible refine And.intro ?_ ?_|(with_reducible intro hcd;(try simp only [zA,zB,zC,zD,zE,zF,zG,zH,zI,zJ,zK,zL,zM,zN,zO,zP]at hcd);try cbv)|(refine qP ?_ (c16) ?hfit;(case hfit=>((repeat' (first|exact qB|refine qD ?_ ?_|exact qE (by rfl)|exact qF (by rfl)|exact Fit.refl _|exact qA|refine qC ?_ rfl ?_));done));try cbv)|(refine qP ?_ (c43 _ _ _) (by(repeat' (first|exact qB|refine qD ?_ ?_|exact qE (by rfl)|exact qF (by rfl)|exact Fit.refl _|exact qA|refine qC ?_ rfl ?_)));try cbv)|(refine qP ?_ (c33) ?hfit;(case hfit=>((repeat' (first|exact qB|refine qD ?_ ?_|exact qE (by rfl)|exact qF (by rfl)|exact Fit.refl _|exact qA|refine qC ?_ rfl ?_));done));try cbv)|fail)
 all_goals first|trivial|(unfold uaj;exact⟨show(0:Int)≤d.pn by omega,rfl,show d.pn*((1:Nat):Int)≤16777216 by omega,show d.pn*((8:Nat):Int)≤16777216 by omega,show d.pn≤16777216 by omega⟩)|(exfalso;(try simp only [qV]at *);(try simp only [zQ,zA,zB,zC,zD,zE,zF,zG,zH,zI,zJ,zK,zL,zM,zN,zO,zP,zR,zS]at *);omega)|(exfalso;(try simp only [qV]at *);(try simp only [zQ,zA,zB,zC,zD,zE,zF,zG,zH,zI,zJ,zK,zL,zM,zN,zO,zP,zR,zS]at *);(try simp only [uah,uak,uav,uaE,uaJ,uaM,ua8,uaa,ua9,uab]at *);omega)|skip
 refine⟨none,[],{k:Nat // k≤Lb.length},fun x=>⟨[(1,(iv fun _=>n)),(7,(iS Lb)),(11,.row 27),(47,(iS Lb)),(48,(iv fun _=>zi Lb.length)),(49,(iv fun _=>zi x.1))],[(0,.cells [(iS d.tw),(iS d.tm),(.sl 1 (.sym fun _=>zi (d.tv).length) (fun ix=>[(.sl 1 (.sym fun _=>zi ((d.tv).getD ix.den.toNat []).length) (fun jx=>[(iv fun _=>((d.tv).getD ix.den.toNat []).getD jx.den.toNat 0)]))])),(iv fun _=>d.sn),(iv fun _=>d.pn),(.sl 4 (.sym fun _=>zi (d.ls).length) (fun ix=>[(iv fun _=>((d.ls).getD ix.den.toNat l0T).a),(iv fun _=>((d.ls).getD ix.den.toNat l0T).b),(iv fun _=>((d.ls).getD ix.den.toNat l0T).lo),(iv fun _=>((d.ls).getD ix.den.toNat l0T).hi)])),(.sl 6 (.sym fun _=>zi (d.fs).length) (fun ix=>[(iv fun _=>((d.fs).getD ix.den.toNat f0T).p),(iv fun _=>((d.fs).getD ix.den.toNat f0T).s),(iv fun _=>((d.fs).getD ix.den.toNat f0T).wl),(iv fun _=>((d.fs).getD ix.den.toNat f0T).wh),(iv fun _=>((d.fs).getD ix.den.toNat f0T).ml),(iv fun _=>((d.fs).getD ix.den.toNat f0T).mh)]))] 39),(27,.row 3 1 (.sym fun _=>d.pn) (fun ix=>[(iv fun _=>(ucp n.toNat Lb Lb.length x.1) ix.den.toNat)]))],300⟩,fun x=>Lb.length-x.1,?_,?_⟩
 ·refine⟨⟨0,by omega⟩,?_⟩
  cbv
  repeat' (first|with_reducible refine ua4 ?_ ?_|with_reducible refine And.intro ?_ ?_)
  all_goals first|trivial|exact qM (qE (by rfl))|exact qM (Fit.refl _)|exact qL (qK _)|(refine qL (uae ?_ ?_)<;>first|rfl|((try simp only [qV]at *);(try simp only [zQ,zA,zB,zC,zD,zE,zF,zG,zH,zI,zJ,zK,zL,zM,zN,zO,zP,zR,zS]at *);omega)|(intro ix h0 h1;first|exact Fit.refl _|exact qC (qE rfl) rfl qA))|skip
 ·rintro ⟨k,hk⟩
  cbv
  repeat' (first
   |with_reducible refine ua4 ?_ ?_
   |with_reducible refine And.intro ?_ ?_
   |(with_reducible refine qS ?_ ?_ ?_;try cbv)
   |(with_reducible refine qT ?_ ?_;try cbv)
   |(with_reducible intro hcd;(try simp only [zA,zB,zC,zD,zE,zF,zG,zH,zI,zJ,zK,zL,zM,zN,zO,zP]at hcd);try cbv)
   | ((have hk9:=hbe k (by((try simp only [qV]at *);(try simp only [zQ,zA,zB,zC,zD,zE,zF,zG,zH,zI,zJ,zK,zL,zM,zN,zO,zP,zR,zS]at *);omega)))
      refine⟨fun ix=>[(iv fun _=>(uif (ucp n.toNat Lb Lb.length k) (Lb.getD k 0).toNat (n.tdiv (zi Lb.length))) ix.den.toNat)],?_⟩
      cbv
      refine ua4 (udN (o2:=0) (x:=[_]) (by((try simp only [qV]at *);(try simp only [zQ,zA,zB,zC,zD,zE,zF,zG,zH,zI,zJ,zK,zL,zM,zN,zO,zP,zR,zS]at *);omega)) (by intro jx h0 h1 h2;refine qC (qE ?_) rfl qA;(try simp only [qV]at *);(try simp only [zQ,zA,zB,zC,zD,zE,zF,zG,zH,zI,zJ,zK,zL,zM,zN,zO,zP,zR,zS]at *);exact uio (by omega)) (by intro jx h0 h1 h2;refine⟨_,rfl,qC (qE ?_) rfl qA⟩;(try simp only [qV]at *);(try simp only [zQ,zA,zB,zC,zD,zE,zF,zG,zH,zI,zJ,zK,zL,zM,zN,zO,zP,zR,zS]at *);exact ufR (by omega))) ?_
      try cbv)
   | ((have hk9:=hbe k (by((try simp only [qV]at *);(try simp only [zQ,zA,zB,zC,zD,zE,zF,zG,zH,zI,zJ,zK,zL,zM,zN,zO,zP,zR,zS]at *);omega)))
      refine⟨fun ix=>[(iv fun _=>(uif (uif (ucp n.toNat Lb Lb.length k) (Lb.getD k 0).toNat (n.tdiv (zi Lb.length))) (Lb.getD k 0).toNat ((uif (ucp n.toNat Lb Lb.length k) (Lb.getD k 0).toNat (n.tdiv (zi Lb.length))) (Lb.getD k 0).toNat+1)) ix.den.toNat)],?_⟩
      cbv
      refine ua4 (udN (o2:=0) (x:=[_]) (by((try simp only [qV]at *);(try simp only [zQ,zA,zB,zC,zD,zE,zF,zG,zH,zI,zJ,zK,zL,zM,zN,zO,zP,zR,zS]at *);omega)) (by intro jx h0 h1 h2;refine qC (qE ?_) rfl qA;(try simp only [qV]at *);(try simp only [zQ,zA,zB,zC,zD,zE,zF,zG,zH,zI,zJ,zK,zL,zM,zN,zO,zP,zR,zS]at *);exact uio (by omega)) (by intro jx h0 h1 h2;refine⟨_,rfl,qC (qE ?_) rfl qA⟩;(try simp only [qV]at *);(try simp only [zQ,zA,zB,zC,zD,zE,zF,zG,zH,zI,zJ,zK,zL,zM,zN,zO,zP,zR,zS]at *);exact utw (by omega) (by omega))) ?_
      try cbv)
   |fail)
  all_goals first|trivial|((try simp only [qV]at *);(try simp only [zQ,zA,zB,zC,zD,zE,zF,zG,zH,zI,zJ,zK,zL,zM,zN,zO,zP,zR,zS]at *);first|(refine qN ?_;omega)|(simp only [uaj];omega))|((have hk9:=hbe k (by((try simp only [qV]at *);(try simp only [zQ,zA,zB,zC,zD,zE,zF,zG,zH,zI,zJ,zK,zL,zM,zN,zO,zP,zR,zS]at *);omega)));(try simp only [qV]at *);(try simp only [zQ,zA,zB,zC,zD,zE,zF,zG,zH,zI,zJ,zK,zL,zM,zN,zO,zP,zR,zS]at *);simp only [uaj];first|omega|exact⟨by omega,by omega⟩)|((have hk9:=hbe k (by((try simp only [qV]at *);(try simp only [zQ,zA,zB,zC,zD,zE,zF,zG,zH,zI,zJ,zK,zL,zM,zN,zO,zP,zR,zS]at *);omega)));(have hq9:=utx (m:=Lb.length) hn0 hn1);(try simp only [qV]at *);(try simp only [zQ,zA,zB,zC,zD,zE,zF,zG,zH,zI,zJ,zK,zL,zM,zN,zO,zP,zR,zS]at *);first|(refine qN ?_;omega)|(rw [←ufR (by omega)];refine qN ?_;omega))|((have hke:k=Lb.length:=(by((try simp only [qV]at *);(try simp only [zQ,zA,zB,zC,zD,zE,zF,zG,zH,zI,zJ,zK,zL,zM,zN,zO,zP,zR,zS]at *);omega)));subst hR;exact qD (ua1 hco.2.symm (fun ix h0 h1=>qC (qE (hend hke _)) rfl qA)) (qD (qE hco.1.symm) qB))|((try simp only [zQ,zA,zB,zC,zD,zE,zF,zG,zH,zI,zJ,zK,zL,zM,zN,zO,zP,zR,zS]at *);(have hk9:=hbe k (by((try simp only [qV]at *);(try simp only [zQ,zA,zB,zC,zD,zE,zF,zG,zH,zI,zJ,zK,zL,zM,zN,zO,zP,zR,zS]at *);omega)));(have hlo:¬(k:Int)<n.tmod (Lb.length:Int):=hcd);refine⟨⟨k+1,by((try simp only [qV]at *);(try simp only [zQ,zA,zB,zC,zD,zE,zF,zG,zH,zI,zJ,zK,zL,zM,zN,zO,zP,zR,zS]at *);omega)⟩,by simp only [];omega,?_⟩;cbv;(repeat' (first|with_reducible refine ua4 ?_ ?_|with_reducible refine And.intro ?_ ?_));(all_goals first|trivial|exact qM (qE (by rfl))|exact qM (qF (by rfl))|exact qM (Fit.refl _)|exact qL (qK _)|(refine qM (qE ?_);(try simp only [qV]at *);simp only [zQ,zA,zB,zC,zD,zE,zF,zG,zH,zI,zJ,zK,zL,zM,zN,zO,zP,zR,zS]at *;omega)|(refine qL (qJ ?_);(repeat' (first|exact qA|exact qB|refine qC ?_ rfl ?_|refine qD ?_ ?_|exact qE (by rfl)|exact qF (by rfl)|exact Fit.refl _|exact qG _|(refine qE ?_;(try simp only [qV]at *);simp only [zQ,zA,zB,zC,zD,zE,zF,zG,zH,zI,zJ,zK,zL,zM,zN,zO,zP,zR,zS]at *;omega)));done)|(refine qL (uae ?_ ?_)<;>first|rfl|(intro ix h0 h1;first|exact Fit.refl _|exact qC (qE (uiY hn0 hk9.1 hlo)) rfl qA|exact qC (qE (uiB hn0 hk9.1 hhi rfl)) rfl qA))|skip))|((try simp only [zQ,zA,zB,zC,zD,zE,zF,zG,zH,zI,zJ,zK,zL,zM,zN,zO,zP,zR,zS]at *);(have hk9:=hbe k (by((try simp only [qV]at *);(try simp only [zQ,zA,zB,zC,zD,zE,zF,zG,zH,zI,zJ,zK,zL,zM,zN,zO,zP,zR,zS]at *);omega)));(have hhi:(k:Int)<n.tmod (Lb.length:Int):=hcd);refine⟨⟨k+1,by((try simp only [qV]at *);(try simp only [zQ,zA,zB,zC,zD,zE,zF,zG,zH,zI,zJ,zK,zL,zM,zN,zO,zP,zR,zS]at *);omega)⟩,by simp only [];omega,?_⟩;cbv;(repeat' (first|with_reducible refine ua4 ?_ ?_|with_reducible refine And.intro ?_ ?_));(all_goals first|trivial|exact qM (qE (by rfl))|exact qM (qF (by rfl))|exact qM (Fit.refl _)|exact qL (qK _)|(refine qM (qE ?_);(try simp only [qV]at *);simp only [zQ,zA,zB,zC,zD,zE,zF,zG,zH,zI,zJ,zK,zL,zM,zN,zO,zP,zR,zS]at *;omega)|(refine qL (qJ ?_);(repeat' (first|exact qA|exact qB|refine qC ?_ rfl ?_|refine qD ?_ ?_|exact qE (by rfl)|exact qF (by rfl)|exact Fit.refl _|exact qG _|(refine qE ?_;(try simp only [qV]at *);simp only [zQ,zA,zB,zC,zD,zE,zF,zG,zH,zI,zJ,zK,zL,zM,zN,zO,zP,zR,zS]at *;omega)));done)|(refine qL (uae ?_ ?_)<;>first|rfl|(intro ix h0 h1;first|exact Fit.refl _|exact qC (qE (uiY hn0 hk9.1 hlo)) rfl qA|exact qC (qE (uiB hn0 hk9.1 hhi rfl)) rfl qA))|skip))|skip
theorem uq5 (d:Dsp)(n:Int):ua0 Tryz.prog 20 [(ub0 d),(iv fun _=>n)] [] (fun r _=>r=(.tup [(.sl 1 (.sym fun _=>coN d n) (fun ix=>[(iv fun _=>ukJ d n ix.den.toNat)])),(iv fun _=>coE d n)])):=by
 by_cases h:coE d n=0
 ·by_cases he:uhL d=[]
  ·exact us8 d n h he
  ·exact urG d n h he
 ·exact usU d n h
end Go.Proofs.YtkdggbfknlcdaaaGreat
namespace Go.Proofs.YtkdggbfknlcdaaaGreat
open Go Go.Eng Go.Eng.Dif Go.Eng.Few
def d3 :Dsp:=⟨[10,14,20],[0,10,20],[[100,140,200],[90,131,192],[80,120,170]],2,3,[⟨0,1,-3,0⟩],[⟨0,0,12,12,5,6⟩,⟨1,0,14,14,2,3⟩,⟨2,1,10,10,4,4⟩]⟩
def d2 :Dsp:=⟨[10,14,20],[0,10,20],[[100,140,200],[90,131,192],[80,120,170]],2,3,[⟨0,1,-3,0⟩],[⟨0,0,12,12,5,6⟩,⟨2,1,10,10,4,4⟩]⟩
theorem uk8 :ua5 d3=0:=by decide +kernel
theorem unb :ua5 d2=0:=by decide +kernel
theorem uhO :mLo d3 ⟨0,0,12,12,5,6⟩=115∧mHi d3 ⟨0,0,12,12,5,6⟩=119:=by decide +kernel
theorem utO :mLo d3 ⟨1,0,14,14,2,3⟩=98∧mHi d3 ⟨1,0,14,14,2,3⟩=102:=by decide +kernel
theorem umI :mLo d3 ⟨2,1,10,10,4,4⟩=116∧mHi d3 ⟨2,1,10,10,4,4⟩=116:=by decide +kernel
theorem FO3 :FO d3 d3.fs=xF3:=by
 have e:FO d3 d3.fs=[⟨0,mLo d3 ⟨0,0,12,12,5,6⟩,mHi d3 ⟨0,0,12,12,5,6⟩⟩,⟨0,mLo d3 ⟨1,0,14,14,2,3⟩,mHi d3 ⟨1,0,14,14,2,3⟩⟩,⟨1,mLo d3 ⟨2,1,10,10,4,4⟩,mHi d3 ⟨2,1,10,10,4,4⟩⟩]:=rfl
 rw [e,uhO.1,uhO.2,utO.1,utO.2,umI.1,umI.2]
 rfl
theorem FO2 :FO d2 d2.fs=xF2:=by
 have e:FO d2 d2.fs=[⟨0,mLo d3 ⟨0,0,12,12,5,6⟩,mHi d3 ⟨0,0,12,12,5,6⟩⟩,⟨1,mLo d3 ⟨2,1,10,10,4,4⟩,mHi d3 ⟨2,1,10,10,4,4⟩⟩]:=rfl
 rw [e,uhO.1,uhO.2,umI.1,umI.2]
 rfl
theorem uBW :DOk d3:=ua3.1 uk8
theorem uBg :DOk d2:=ua3.1 unb
theorem uxT :ue1 d3=true:=usR
theorem ux1 :ue1 d2=true:=usR
theorem uhs :uam d3=0:=ugI uk8 uxT
theorem uxh :uam d2=0:=ugI unb ux1
theorem urb :ufO d3 0=0∧ukk d3 0=115∧uku d3 0=119:=by
 have h:=ujU (d:=d3) (n:=0) uk8 (by decide)
 exact⟨h.1,h.2.1.trans uhO.1,h.2.2.trans uhO.2⟩
theorem uBL :uvG d3=some 1:=by
 unfold uvG
 rw [FO3]
 exact uyW
theorem uy9 :uru d3=0∧urv d3=1:=ujD uhs uBL
theorem uAw :ug7 d3=[1]:=by
 unfold ug7
 rw [if_pos uhs,upK,FO3]
 exact uyP
theorem unk {S:Nat} {ls:List Lk} {fs:List Fa}(h:Okk S ls fs) {p q:Nat→Int}(e:∀i,i<fs.length→p i=q i):okP S ls fs p=okP S ls fs q:=by
 funext o
 unfold okP
 exact ujv h fun i hi=>by unfold uyx;rw [e i hi]
theorem uut :uc8 d3=okP 2 xL3 xF3 xP3:=by
 rw [ul7 uBW,FO3]
 refine unk uyt fun i hi=> ?_
 have hi:i<3:=hi
 rcases(show i=0∨i=1∨i=2 by omega)with e|e|e<;>subst e<;>rfl
theorem uAj :uc8 d2=okP 2 xL3 xF2 xP2:=by
 rw [ul7 uBg,FO2]
 refine unk urt fun i hi=> ?_
 have hi:i<2:=hi
 rcases(show i=0∨i=1 by omega)with e|e<;>subst e<;>rfl
theorem uBJ :uua d3=[1]:=by
 unfold uua
 rw [if_pos uhs,uut]
 exact uuF.1
theorem uAE :uhL d3=[1]:=by
 unfold uhL um5
 rw [if_pos uhs,uut]
 exact uuF.2.1
theorem uAQ :usq d3=[1]:=by
 unfold usq urw
 rw [if_pos uhs,uut]
 exact uuF.2.2
theorem uAV :uhL d2=[]:=by
 unfold uhL um5
 rw [if_pos uxh,uAj]
 exact uAf.2.2.1
theorem uBF :ud3 d2 d2.fs []=true:=by
 rw [ugy,FO2]
 exact usP.1
theorem uAG :uii d2=0∧uoG d2=2:=uei unb uBF
theorem ug4 (d:Dsp)(s:Nat):loT d [] s=loD (SN d) (LO d) (FO d d.fs) s∧hiT d [] s=hiD (SN d) (LO d) (FO d d.fs) s:=by
 unfold loT hiT ufv
 rw [uin]
 exact⟨rfl,rfl⟩
theorem bd2 :(loT d2 [] 0=116∧hiT d2 [] 0=119)∧loT d2 [] 1=116∧hiT d2 [] 1=116:=by
 rw [(ug4 d2 0).1,(ug4 d2 0).2,(ug4 d2 1).1,(ug4 d2 1).2,FO2]
 exact⟨⟨usP.2.1,usP.2.2.1⟩,usP.2.2.2.1,usP.2.2.2.2⟩
theorem utp (d:Dsp)(o:List Int)(s:Nat):loT d o s=loD (SN d) (LO d) (kpN (FO d d.fs) (ukM o) d.fs.length) s∧hiT d o s=hiD (SN d) (LO d) (kpN (FO d d.fs) (ukM o) d.fs.length) s:=by
 unfold loT hiT ufv ubR
 rw [uy3 (Nat.le_refl _)]
 exact⟨rfl,rfl⟩
theorem bd3 :loT d3 [1] 0=116∧hiT d3 [1] 0=119:=by
 have e:kpN (FO d3 d3.fs) (ukM [1]) d3.fs.length=xF2:=by rw [FO3];exact uBs
 rw [(utp d3 [1] 0).1,(utp d3 [1] 0).2,e]
 exact⟨usP.2.1,usP.2.2.1⟩
theorem ch3 :chE d3 0 1000=0∧chL d3 0 1000=116∧chH d3 0 1000=119:=by
 have h:=uqJ (d:=d3) (s:=0) (g:=1000) uk8 (by decide) uhs
 rw [uAw]at h
 refine⟨h.1,h.2.1.trans ?_,h.2.2.trans ?_⟩
 ·show(1000*loT d3 [1] 0).tdiv 1000=116
  rw [bd3.1];rfl
 ·show(1000*hiT d3 [1] 0).tdiv 1000=119
  rw [bd3.2];rfl
theorem co3 :coE d3 100=0∧coN d3 100=3:=uh8 uk8 (by decide) uhs
theorem co2 :coE d2 100=0∧coN d2 100=3:=uh8 unb (by decide) uxh
theorem uzr :ukJ d3 100 0=0∧ukJ d3 100 1=100∧ukJ d3 100 2=0:=by
 have e:ufj d3=[1]:=by unfold ufj;rw [uAE];rfl
 unfold ukJ
 rw [e]
 exact uxX
theorem uyL :ukJ d2 100 0=34∧ukJ d2 100 1=33∧ukJ d2 100 2=33:=by
 have e:ufj d2=[0,1,2]:=by unfold ufj;rw [uAV];rfl
 unfold ukJ
 rw [e]
 exact uy8
end Go.Proofs.YtkdggbfknlcdaaaGreat
