/- Contracts of the functions that the laws come to. No condition. -/
import Derived.Test.YtkdggbfknlcdaaaGreatT4
set_option linter.unusedVariables false
set_option linter.unusedSimpArgs false
set_option linter.deprecated false

namespace Go.Proofs.YtkdggbfknlcdaaaGreat
open Go Go.Eng Go.Proofs Go.Eng.Dif Go.Eng.Few
set_option maxRecDepth 10000
theorem uud :uo5 Tryz.prog 95 16:=urk (e:=93) (g:=3) (n:=4) (m:=4) (by kernel_rfl)
theorem uzt {v:Nat} {Y:Nat→Int} {f t a b i:Nat}(ht:t<4)(ha:a=at4 f v)(hb:b=at4 v t):lst (phN v Y (f*4+t)) (at4 f t) (phN v Y (f*4+t) a+phN v Y (f*4+t) b) i=phN v Y (f*4+(t+1)) i:=by
 subst ha
 subst hb
 have e:phN v Y (f*4+(t+1))=stp v (phN v Y (f*4+t)) (f*4+t):=rfl
 rw [e]
 unfold stp
 rw [show(f*4+t)/4=f by omega,show(f*4+t)%4=t by omega]
 rfl
theorem uwT {v:Nat} {Y:Nat→Int} {f t i:Nat}(h:t=4):phN v Y (f*4+t) i=phN v Y ((f+1)*4) i:=by
 subst h
 rw [show f*4+4=(f+1)*4 by omega]
theorem uwL {v:Nat} {X:Nat→Int} {f i:Nat}(h:f=4):phN v (fwN X v) (f*4) i=fwN X (v+1) i:=by subst h;rfl
theorem uwX {M:Nat→Int} {n v i:Nat}(h:v=4):fwN (fwP M n) v i=fwP M (n+1) i:=by subst h;rfl
theorem utW {M:Nat→Int} {n i:Nat}(h:n=4):fwP M n i=clo M i:=by subst h;rfl
theorem uuK {M:Nat→Int} {n v:Nat}(hn:n<4)(hv:v=4)(h:uka (fwN (fwP M n) v) (fwP M n)) {i:Nat}(hi:i<16):fwN (fwP M n) v i=clo M i:=by
 subst hv
 have h':uka (fwP M (n+1)) (fwP M n):=h
 have:=urG h' (3-n) i hi
 rw [show n+1+(3-n)=4 by omega]at this
 exact this.symm
theorem usB {P:Nat→Int}(hP:∀i,i<16→ -5642219814912000≤P i∧P i≤2000) {a b:Nat}(ha:a<16)(hb:b<16):uaq (inR .i64 (uuJ (IX.sym fun _=>P a).den (IX.sym fun _=>P b).den)):=by
 have h1:=hP a ha
 have h2:=hP b hb
 refine qN ?_
 simp only [zQ,zA,zB,zC,zD,zE,zF,zG,zH,zI,zJ,zK,zL,zM,zN,zO,zP,zR,zS]
 omega
theorem uut {A B:Nat→Int}(h:decide (uba [IX.sym fun _=>A 0,IX.sym fun _=>A 1,IX.sym fun _=>A 2,IX.sym fun _=>A 3,IX.sym fun _=>A 4,IX.sym fun _=>A 5,IX.sym fun _=>A 6,IX.sym fun _=>A 7,IX.sym fun _=>A 8,IX.sym fun _=>A 9,IX.sym fun _=>A 10,IX.sym fun _=>A 11,IX.sym fun _=>A 12,IX.sym fun _=>A 13,IX.sym fun _=>A 14,IX.sym fun _=>A 15]=uba [IX.sym fun _=>B 0,IX.sym fun _=>B 1,IX.sym fun _=>B 2,IX.sym fun _=>B 3,IX.sym fun _=>B 4,IX.sym fun _=>B 5,IX.sym fun _=>B 6,IX.sym fun _=>B 7,IX.sym fun _=>B 8,IX.sym fun _=>B 9,IX.sym fun _=>B 10,IX.sym fun _=>B 11,IX.sym fun _=>B 12,IX.sym fun _=>B 13,IX.sym fun _=>B 14,IX.sym fun _=>B 15])=true):uka A B:=by
 have e:=of_decide_eq_true h
 simp only [uba,List.map_cons,List.map_nil,ub7,List.cons.injEq,and_true]at e
 intro i hi
 rcases(show i=0∨i=1∨i=2∨i=3∨i=4∨i=5∨i=6∨i=7∨i=8∨i=9∨i=10∨i=11∨i=12∨i=13∨i=14∨i=15 by omega)with q|q|q|q|q|q|q|q|q|q|q|q|q|q|q|q<;>subst q
 ·exact e.1
 ·exact e.2.1
 ·exact e.2.2.1
 ·exact e.2.2.2.1
 ·exact e.2.2.2.2.1
 ·exact e.2.2.2.2.2.1
 ·exact e.2.2.2.2.2.2.1
 ·exact e.2.2.2.2.2.2.2.1
 ·exact e.2.2.2.2.2.2.2.2.1
 ·exact e.2.2.2.2.2.2.2.2.2.1
 ·exact e.2.2.2.2.2.2.2.2.2.2.1
 ·exact e.2.2.2.2.2.2.2.2.2.2.2.1
 ·exact e.2.2.2.2.2.2.2.2.2.2.2.2.1
 ·exact e.2.2.2.2.2.2.2.2.2.2.2.2.2.1
 ·exact e.2.2.2.2.2.2.2.2.2.2.2.2.2.2.1
 ·exact e.2.2.2.2.2.2.2.2.2.2.2.2.2.2.2
theorem utM {M:Nat→Int} {a b:Nat}(q:¬M a<0)(h:a=b):0≤M b:=by subst h;omega
theorem utn {M:Nat→Int} {n a:Nat}(h:M a<0)(ha:a=at4 n n)(hn:n<4):false=okD M:=by
 subst ha
 symm
 rw [Bool.eq_false_iff]
 intro q
 have:=ugD.1 q n hn
 omega
theorem up2 {M:Nat→Int} {n:Nat}(hn:n=4)(h:∀j,j<n→0≤M (at4 j j)):true=okD M:=by
 subst hn
 exact(ugD.2 h).symm
set_option maxHeartbeats 2000000 in
theorem utQ (M:Nat→Int)(h1:∀i,i<16→ -2000≤M i)(h2:∀i,i<16→M i≤2000):ua0 Tryz.prog 78 [.own 0 0] [.cells [(.arr 16 (fun ix=>(iv fun _=>M ix.den.toNat)))] 95] (fun r bs=>r=(bv fun _=>okD (clo M))∧bs=[.cells [(.arr 16 (fun ix=>(iv fun _=>(clo M) ix.den.toNat)))] 95]):=by
 have he:=uud
 have c98:= @uqa
 refine ua0.isB rfl fun R B hR hB=>qW (sc:=uBg) uan mix Tryz.func78 rfl Tryz.call78 (by kernel_rfl) (by kernel_rfl) ?_
 generalize Tryz.prog=P at he c98⊢
 cbv
 repeat' (first|fail)
 all_goals first|skip
 refine⟨none,[],{n:Nat // n≤4},fun x=>⟨[(0,.own 0 0),(8,(iv fun _=>zi x.1))],[(0,.cells [(.arr 16 (fun ix=>(iv fun _=>(fwP M x.1) ix.den.toNat)))] 95)],60⟩,fun x=>4-x.1,?_,?_⟩
 ·refine⟨⟨0,by omega⟩,?_⟩
  cbv
  repeat' (first|with_reducible refine ua4 ?_ ?_|with_reducible refine And.intro ?_ ?_)
  all_goals first|trivial|exact qM (qE (by rfl))|exact qM (Fit.refl _)|exact qL (qK _)|skip
 ·rintro ⟨n, hn⟩
  cbv
  repeat' (first|with_reducible refine And.intro ?_ ?_|(with_reducible intro hcd;(try simp only [zA,zB,zC,zD,zE,zF,zG,zH,zI,zJ,zK,zL,zM,zN,zO,zP]at hcd);try cbv)|fail)
  all_goals first|skip
  refine⟨none,[],{v:Nat // v≤4},fun x=>⟨[(0,.own 0 0),(8,(iv fun _=>zi n)),(3,.own 64 0),(13,(iv fun _=>zi x.1))],[(0,.cells [(.arr 16 (fun ix=>(iv fun _=>(fwN (fwP M n) x.1) ix.den.toNat)))] 95),(64,.cells [(.arr 16 (fun ix=>(iv fun _=>(fwP M n) ix.den.toNat)))] 95)],200⟩,fun x=>4-x.1,?_,?_⟩
  ·refine⟨⟨0,by omega⟩,?_⟩
   cbv
   repeat' (first|with_reducible refine ua4 ?_ ?_|with_reducible refine And.intro ?_ ?_)
   all_goals first|trivial|exact qM (qE (by rfl))|exact qM (Fit.refl _)|exact qL (qK _)|skip
  ·rintro ⟨v, hv⟩
   cbv
   repeat' (first|with_reducible refine ua4 ?_ ?_|with_reducible refine And.intro ?_ ?_|(with_reducible intro hcd;(try simp only [zA,zB,zC,zD,zE,zF,zG,zH,zI,zJ,zK,zL,zM,zN,zO,zP]at hcd);try cbv)|fail)
   all_goals first|trivial|((try simp only [qV]at *);(try simp only [zQ,zA,zB,zC,zD,zE,zF,zG,zH,zI,zJ,zK,zL,zM,zN,zO,zP,zR,zS]at *);first|(refine qN ?_;omega)|(simp only [uaq];omega))|((try simp only [zQ,zA,zB,zC,zD,zE,zF,zG,zH,zI,zJ,zK,zL,zM,zN,zO,zP,zR,zS]at *);refine⟨⟨n+1,by omega⟩,by simp only [];omega,?_⟩;cbv;(repeat' (first|with_reducible refine ua4 ?_ ?_|with_reducible refine And.intro ?_ ?_));(all_goals first|trivial|exact qM (qE (by rfl))|exact qM (qF (by rfl))|exact qM (Fit.refl _)|exact qL (qK _)|(refine qM (qE ?_);(try simp only [qV]at *);simp only [zQ,zA,zB,zC,zD,zE,zF,zG,zH,zI,zJ,zK,zL,zM,zN,zO,zP,zR,zS]at *;omega)|(refine qL (qJ (uaZ (fun ix h0 h1=>qE (uwX (by((try simp only [qV]at *);(try simp only [zQ,zA,zB,zC,zD,zE,zF,zG,zH,zI,zJ,zK,zL,zM,zN,zO,zP,zR,zS]at *);omega)))) qA)))|skip))|skip
   refine⟨none,[],{f:Nat // f≤4},fun x=>⟨[(0,.own 0 0),(8,(iv fun _=>zi n)),(3,.own 64 0),(13,(iv fun _=>zi v)),(4,(iv fun _=>zi v)),(16,(iv fun _=>zi x.1))],[(0,.cells [(.arr 16 (fun ix=>(iv fun _=>(phN v (fwN (fwP M n) v) (x.1*4)) ix.den.toNat)))] 95),(64,.cells [(.arr 16 (fun ix=>(iv fun _=>(fwP M n) ix.den.toNat)))] 95)],300⟩,fun x=>4-x.1,?_,?_⟩
   ·refine⟨⟨0,by omega⟩,?_⟩
    cbv
    repeat' (first|with_reducible refine ua4 ?_ ?_|with_reducible refine And.intro ?_ ?_)
    all_goals first|trivial|exact qM (qE (by rfl))|exact qM (Fit.refl _)|exact qL (qK _)|skip
   ·rintro ⟨f,hf⟩
    cbv
    repeat' (first|with_reducible refine ua4 ?_ ?_|with_reducible refine And.intro ?_ ?_|(with_reducible intro hcd;(try simp only [zA,zB,zC,zD,zE,zF,zG,zH,zI,zJ,zK,zL,zM,zN,zO,zP]at hcd);try cbv)|fail)
    all_goals first|((try simp only [qV]at *);(try simp only [zQ,zA,zB,zC,zD,zE,zF,zG,zH,zI,zJ,zK,zL,zM,zN,zO,zP,zR,zS]at *);first|(refine qN ?_;omega)|(simp only [uaq];omega))|((try simp only [zQ,zA,zB,zC,zD,zE,zF,zG,zH,zI,zJ,zK,zL,zM,zN,zO,zP,zR,zS]at *);refine⟨⟨v+1,by omega⟩,by simp only [];omega,?_⟩;cbv;(repeat' (first|with_reducible refine ua4 ?_ ?_|with_reducible refine And.intro ?_ ?_));(all_goals first|trivial|exact qM (qE (by rfl))|exact qM (qF (by rfl))|exact qM (Fit.refl _)|exact qL (qK _)|(refine qM (qE ?_);(try simp only [qV]at *);simp only [zQ,zA,zB,zC,zD,zE,zF,zG,zH,zI,zJ,zK,zL,zM,zN,zO,zP,zR,zS]at *;omega)|(refine qL (qJ (uaZ (fun ix h0 h1=>qE (uwL (by((try simp only [qV]at *);(try simp only [zQ,zA,zB,zC,zD,zE,zF,zG,zH,zI,zJ,zK,zL,zM,zN,zO,zP,zR,zS]at *);omega)))) qA)))|(refine qL (qJ (uaZ (fun ix h0 h1=>qE rfl) qA)))|skip))|skip
    refine⟨none,[],{t:Nat // t≤4},fun x=>⟨[(0,.own 0 0),(8,(iv fun _=>zi n)),(3,.own 64 0),(13,(iv fun _=>zi v)),(4,(iv fun _=>zi v)),(16,(iv fun _=>zi f)),(5,(iv fun _=>zi f)),(19,(iv fun _=>zi x.1))],[(0,.cells [(.arr 16 (fun ix=>(iv fun _=>(phN v (fwN (fwP M n) v) (f*4+x.1)) ix.den.toNat)))] 95),(64,.cells [(.arr 16 (fun ix=>(iv fun _=>(fwP M n) ix.den.toNat)))] 95)],400⟩,fun x=>4-x.1,?_,?_⟩
    ·refine⟨⟨0,by omega⟩,?_⟩
     cbv
     repeat' (first|with_reducible refine ua4 ?_ ?_|with_reducible refine And.intro ?_ ?_)
     all_goals first|trivial|exact qM (qE (by rfl))|exact qM (Fit.refl _)|exact qL (qK _)|skip
    ·rintro ⟨t,ht⟩
     cbv
     repeat' (first
      |with_reducible refine ua4 ?_ ?_
      |with_reducible refine And.intro ?_ ?_
      |(with_reducible intro hcd;(try simp only [zA,zB,zC,zD,zE,zF,zG,zH,zI,zJ,zK,zL,zM,zN,zO,zP]at hcd);try cbv)
      | (refine⟨some [0],?_⟩
         cbv
         refine qQ ?_ (c98 (phN v (fwN (fwP M n) v) (f*4+t)) (zi f) (zi t) (phN v (fwN (fwP M n) v) (f*4+t) ((zi f*4+zi v)*1+0).toNat+phN v (fwN (fwP M n) v) (f*4+t) ((zi v*4+zi t)*1+0).toNat) ⟨(by((try simp only [qV]at *);(try simp only [zQ,zA,zB,zC,zD,zE,zF,zG,zH,zI,zJ,zK,zL,zM,zN,zO,zP,zR,zS]at *);omega)),(by((try simp only [qV]at *);(try simp only [zQ,zA,zB,zC,zD,zE,zF,zG,zH,zI,zJ,zK,zL,zM,zN,zO,zP,zR,zS]at *);omega))⟩ ⟨(by((try simp only [qV]at *);(try simp only [zQ,zA,zB,zC,zD,zE,zF,zG,zH,zI,zJ,zK,zL,zM,zN,zO,zP,zR,zS]at *);omega)),(by((try simp only [qV]at *);(try simp only [zQ,zA,zB,zC,zD,zE,zF,zG,zH,zI,zJ,zK,zL,zM,zN,zO,zP,zR,zS]at *);omega))⟩) ?hfit ?hbo
         case hfit=>(cbv;(repeat' (first|exact qB|refine qD ?_ ?_|exact qE (by rfl)|exact qF (by rfl)|exact Fit.refl _|exact qA|refine qC ?_ rfl ?_));done)
         case hbo=>(cbv;(repeat' (first|exact qH|refine qI ?_ ?_|exact qK _|refine qJ ?_|exact qA|exact qE (by rfl)|exact qF (by rfl)|exact Fit.refl _|exact qG _|refine qC ?_ rfl ?_));done)
         try cbv)
      |fail)
     all_goals first|((try simp only [qV]at *);(try simp only [zQ,zA,zB,zC,zD,zE,zF,zG,zH,zI,zJ,zK,zL,zM,zN,zO,zP,zR,zS]at *);first|(refine qN ?_;omega)|(simp only [uaq];omega))|(refine usB (P:=phN v (fwN (fwP M n) v) (f*4+t)) (fun i hi=>uww h1 h2 (by((try simp only [qV]at *);(try simp only [zQ,zA,zB,zC,zD,zE,zF,zG,zH,zI,zJ,zK,zL,zM,zN,zO,zP,zR,zS]at *);omega)) (by((try simp only [qV]at *);(try simp only [zQ,zA,zB,zC,zD,zE,zF,zG,zH,zI,zJ,zK,zL,zM,zN,zO,zP,zR,zS]at *);omega)) (by((try simp only [qV]at *);(try simp only [zQ,zA,zB,zC,zD,zE,zF,zG,zH,zI,zJ,zK,zL,zM,zN,zO,zP,zR,zS]at *);omega)) hi) ?_ ?_<;>((try simp only [qV]at *);(try simp only [zQ,zA,zB,zC,zD,zE,zF,zG,zH,zI,zJ,zK,zL,zM,zN,zO,zP,zR,zS]at *);omega))|((try simp only [zQ,zA,zB,zC,zD,zE,zF,zG,zH,zI,zJ,zK,zL,zM,zN,zO,zP,zR,zS]at *);refine⟨⟨t+1,by omega⟩,by simp only [];omega,?_⟩;cbv;(repeat' (first|with_reducible refine ua4 ?_ ?_|with_reducible refine And.intro ?_ ?_));(all_goals first|trivial|exact qM (qE (by rfl))|exact qM (qF (by rfl))|exact qM (Fit.refl _)|exact qL (qK _)|(refine qM (qE ?_);(try simp only [qV]at *);simp only [zQ,zA,zB,zC,zD,zE,zF,zG,zH,zI,zJ,zK,zL,zM,zN,zO,zP,zR,zS]at *;omega)|(refine qL (qJ (uaZ (fun ix h0 h1=>qE (uzt (by((try simp only [qV]at *);(try simp only [zQ,zA,zB,zC,zD,zE,zF,zG,zH,zI,zJ,zK,zL,zM,zN,zO,zP,zR,zS]at *);omega)) (by unfold at4;(try simp only [qV]at *);(try simp only [zQ,zA,zB,zC,zD,zE,zF,zG,zH,zI,zJ,zK,zL,zM,zN,zO,zP,zR,zS]at *);omega) (by unfold at4;(try simp only [qV]at *);(try simp only [zQ,zA,zB,zC,zD,zE,zF,zG,zH,zI,zJ,zK,zL,zM,zN,zO,zP,zR,zS]at *);omega))) qA)))|(refine qL (qJ (uaZ (fun ix h0 h1=>qE rfl) qA)))|skip))|((try simp only [zQ,zA,zB,zC,zD,zE,zF,zG,zH,zI,zJ,zK,zL,zM,zN,zO,zP,zR,zS]at *);refine⟨⟨f+1,by omega⟩,by simp only [];omega,?_⟩;cbv;(repeat' (first|with_reducible refine ua4 ?_ ?_|with_reducible refine And.intro ?_ ?_));(all_goals first|trivial|exact qM (qE (by rfl))|exact qM (qF (by rfl))|exact qM (Fit.refl _)|exact qL (qK _)|(refine qM (qE ?_);(try simp only [qV]at *);simp only [zQ,zA,zB,zC,zD,zE,zF,zG,zH,zI,zJ,zK,zL,zM,zN,zO,zP,zR,zS]at *;omega)|(refine qL (qJ (uaZ (fun ix h0 h1=>qE (uwT (by((try simp only [qV]at *);(try simp only [zQ,zA,zB,zC,zD,zE,zF,zG,zH,zI,zJ,zK,zL,zM,zN,zO,zP,zR,zS]at *);omega)))) qA)))|skip))|skip
   refine⟨none,[],{m:Nat // m≤4∧∀j,j<m→0≤clo M (at4 j j)},fun x=>⟨[(0,.own 0 0),(50,(iv fun _=>zi x.1))],[(0,.cells [(.arr 16 (fun ix=>(iv fun _=>(clo M) ix.den.toNat)))] 95)],500⟩,fun x=>4-x.1,?_,?_⟩
   ·refine⟨⟨0,by omega,fun j hj=>by omega⟩,?_⟩
    cbv
    repeat' (first|with_reducible refine ua4 ?_ ?_|with_reducible refine And.intro ?_ ?_)
    all_goals first|trivial|exact qM (qE (by rfl))|exact qM (Fit.refl _)|(refine qL (qJ (uaZ (fun ix h0 h1=>qE (uuK (by((try simp only [qV]at *);(try simp only [zQ,zA,zB,zC,zD,zE,zF,zG,zH,zI,zJ,zK,zL,zM,zN,zO,zP,zR,zS]at *);omega)) (by((try simp only [qV]at *);(try simp only [zQ,zA,zB,zC,zD,zE,zF,zG,zH,zI,zJ,zK,zL,zM,zN,zO,zP,zR,zS]at *);omega)) (uut hcd) (by omega))) qA)))|skip
   ·rintro⟨m,hm,hq⟩
    cbv
    repeat' (first|with_reducible refine ua4 ?_ ?_|with_reducible refine And.intro ?_ ?_|(with_reducible intro hcd;(try simp only [zA,zB,zC,zD,zE,zF,zG,zH,zI,zJ,zK,zL,zM,zN,zO,zP]at hcd);try cbv)|fail)
    all_goals first|((try simp only [qV]at *);(try simp only [zQ,zA,zB,zC,zD,zE,zF,zG,zH,zI,zJ,zK,zL,zM,zN,zO,zP,zR,zS]at *);first|(refine qN ?_;omega)|(simp only [uaq];omega))|(subst hR;(refine qF ?_;(try simp only [qV]at *);(try simp only [zQ,zA,zB,zC,zD,zE,zF,zG,zH,zI,zJ,zK,zL,zM,zN,zO,zP,zR,zS]at *);exact utn (n:=m) (by assumption) (by unfold at4;omega) (by omega));done)|(subst hR;(refine qF ?_;(try simp only [qV]at *);(try simp only [zQ,zA,zB,zC,zD,zE,zF,zG,zH,zI,zJ,zK,zL,zM,zN,zO,zP,zR,zS]at *);exact up2 (n:=m) (by omega) hq);done)|(subst hB;(repeat' (first|exact qH|refine qI ?_ ?_|exact qK _|refine qJ ?_|exact qA|exact qE (by rfl)|exact qF (by rfl)|exact Fit.refl _|exact qG _|refine qC ?_ rfl ?_));done)|((try simp only [zQ,zA,zB,zC,zD,zE,zF,zG,zH,zI,zJ,zK,zL,zM,zN,zO,zP,zR,zS]at *);(have g:0≤clo M (at4 m m):=utM (by assumption) (by((try simp only [qV]at *);(try simp only [zQ,zA,zB,zC,zD,zE,zF,zG,zH,zI,zJ,zK,zL,zM,zN,zO,zP,zR,zS]at *);unfold at4;omega)));refine⟨⟨m+1,by omega,fun j hj=>(Nat.lt_or_ge j m).elim (hq j) fun q=>by rw [show j=m by omega];exact g⟩,by simp only [];omega,?_⟩;cbv;(repeat' (first|with_reducible refine ua4 ?_ ?_|with_reducible refine And.intro ?_ ?_));(all_goals first|trivial|exact qM (qE (by rfl))|exact qM (qF (by rfl))|exact qM (Fit.refl _)|exact qL (qK _)|(refine qM (qE ?_);(try simp only [qV]at *);simp only [zQ,zA,zB,zC,zD,zE,zF,zG,zH,zI,zJ,zK,zL,zM,zN,zO,zP,zR,zS]at *;omega)|(refine qL (qJ (uaZ (fun ix h0 h1=>qE rfl) qA)))|skip))|skip
  refine⟨none,[],{m:Nat // m≤4∧∀j,j<m→0≤clo M (at4 j j)},fun x=>⟨[(0,.own 0 0),(50,(iv fun _=>zi x.1))],[(0,.cells [(.arr 16 (fun ix=>(iv fun _=>(clo M) ix.den.toNat)))] 95)],500⟩,fun x=>4-x.1,?_,?_⟩
  ·refine⟨⟨0,by omega,fun j hj=>by omega⟩,?_⟩
   cbv
   repeat' (first|with_reducible refine ua4 ?_ ?_|with_reducible refine And.intro ?_ ?_)
   all_goals first|trivial|exact qM (qE (by rfl))|exact qM (Fit.refl _)|(refine qL (qJ (uaZ (fun ix h0 h1=>qE (utW (by((try simp only [qV]at *);(try simp only [zQ,zA,zB,zC,zD,zE,zF,zG,zH,zI,zJ,zK,zL,zM,zN,zO,zP,zR,zS]at *);omega)))) qA)))|skip
  ·rintro⟨m,hm,hq⟩
   cbv
   repeat' (first|with_reducible refine ua4 ?_ ?_|with_reducible refine And.intro ?_ ?_|(with_reducible intro hcd;(try simp only [zA,zB,zC,zD,zE,zF,zG,zH,zI,zJ,zK,zL,zM,zN,zO,zP]at hcd);try cbv)|fail)
   all_goals first|((try simp only [qV]at *);(try simp only [zQ,zA,zB,zC,zD,zE,zF,zG,zH,zI,zJ,zK,zL,zM,zN,zO,zP,zR,zS]at *);first|(refine qN ?_;omega)|(simp only [uaq];omega))|(subst hR;(refine qF ?_;(try simp only [qV]at *);(try simp only [zQ,zA,zB,zC,zD,zE,zF,zG,zH,zI,zJ,zK,zL,zM,zN,zO,zP,zR,zS]at *);exact utn (n:=m) (by assumption) (by unfold at4;omega) (by omega));done)|(subst hR;(refine qF ?_;(try simp only [qV]at *);(try simp only [zQ,zA,zB,zC,zD,zE,zF,zG,zH,zI,zJ,zK,zL,zM,zN,zO,zP,zR,zS]at *);exact up2 (n:=m) (by omega) hq);done)|(subst hB;(repeat' (first|exact qH|refine qI ?_ ?_|exact qK _|refine qJ ?_|exact qA|exact qE (by rfl)|exact qF (by rfl)|exact Fit.refl _|exact qG _|refine qC ?_ rfl ?_));done)|((try simp only [zQ,zA,zB,zC,zD,zE,zF,zG,zH,zI,zJ,zK,zL,zM,zN,zO,zP,zR,zS]at *);(have g:0≤clo M (at4 m m):=utM (by assumption) (by((try simp only [qV]at *);(try simp only [zQ,zA,zB,zC,zD,zE,zF,zG,zH,zI,zJ,zK,zL,zM,zN,zO,zP,zR,zS]at *);unfold at4;omega)));refine⟨⟨m+1,by omega,fun j hj=>(Nat.lt_or_ge j m).elim (hq j) fun q=>by rw [show j=m by omega];exact g⟩,by simp only [];omega,?_⟩;cbv;(repeat' (first|with_reducible refine ua4 ?_ ?_|with_reducible refine And.intro ?_ ?_));(all_goals first|trivial|exact qM (qE (by rfl))|exact qM (qF (by rfl))|exact qM (Fit.refl _)|exact qL (qK _)|(refine qM (qE ?_);(try simp only [qV]at *);simp only [zQ,zA,zB,zC,zD,zE,zF,zG,zH,zI,zJ,zK,zL,zM,zN,zO,zP,zR,zS]at *;omega)|(refine qL (qJ (uaZ (fun ix h0 h1=>qE rfl) qA)))|skip))|skip
theorem uxc (d:Dsp)(o:List Int):ua0 Tryz.prog 82 [(wpS d),(iS o)] [] (fun r _=>r = .clo 107 [] [(.pp 0 [(wpS d)]),.pp 0 [(iS o)]]):=by
 refine ua0.is fun R hR=>qW (sc:=uAu) uan mix Tryz.func82 rfl Tryz.call82 (by kernel_rfl) (by kernel_rfl) ?_
 generalize Tryz.prog=P
 cbv
 repeat' (first|fail)
 all_goals first|(subst hR;(repeat' (first|exact qA|exact qB|refine qC ?_ rfl ?_|refine qD ?_ ?_|exact qE (by rfl)|exact qF (by rfl)|exact Fit.refl _|exact qG _|(refine qE ?_;(try simp only [qV]at *);simp only [zQ,zA,zB,zC,zD,zE,zF,zG,zH,zI,zJ,zK,zL,zM,zN,zO,zP,zR,zS]at *;omega)));done)|skip
theorem uuz (d:Dsp)(o:List Int)(hf:d.fs.length≤1000)(ho:o.length≤1000):ulv Tryz.prog 107 [(.pp 0 [(wpS d)]),.pp 0 [(iS o)]] (ubK d.fs o).length (fun n:Nat=>[(.agg [(iv fun _=>((ubK d.fs o).getD n f0T).p),(iv fun _=>((ubK d.fs o).getD n f0T).s),(iv fun _=>((ubK d.fs o).getD n f0T).wl),(iv fun _=>((ubK d.fs o).getD n f0T).wh),(iv fun _=>((ubK d.fs o).getD n f0T).ml),(iv fun _=>((ubK d.fs o).getD n f0T).mh)])]):=by
 obtain⟨el,hel⟩:∃el:Nat→List SV,el=(fun n:Nat=>[(.agg [(iv fun _=>((ubK d.fs o).getD n f0T).p),(iv fun _=>((ubK d.fs o).getD n f0T).s),(iv fun _=>((ubK d.fs o).getD n f0T).wl),(iv fun _=>((ubK d.fs o).getD n f0T).wh),(iv fun _=>((ubK d.fs o).getD n f0T).ml),(iv fun _=>((ubK d.fs o).getD n f0T).mh)])]):=⟨_,rfl⟩
 have hpl:∀i,ubf (.tup (el i))=true:=fun i=>by rw [hel];rfl
 have help:∀n,el n=[(.agg [(iv fun _=>((ubK d.fs o).getD n f0T).p),(iv fun _=>((ubK d.fs o).getD n f0T).s),(iv fun _=>((ubK d.fs o).getD n f0T).wl),(iv fun _=>((ubK d.fs o).getD n f0T).wh),(iv fun _=>((ubK d.fs o).getD n f0T).ml),(iv fun _=>((ubK d.fs o).getD n f0T).mh)])]:=fun n=>by rw [hel]
 rw [←hel]
 clear hel
 have c63:=fun i:Nat=>(show ua0 Tryz.prog 53 [(iS o),(iv fun _=>zi i)] [] (fun r _=>r=(bv fun _=>inL o (zi i)))from ufh o (i:Int) ho)
 obtain⟨c,hc⟩:∃c,c=uk5 o:=⟨_,rfl⟩
 have hcy:∀i:Nat,inL o (zi i)=false→c i=true:=fun i h=>by rw [hc,←upj];unfold uxW;rw [show inL o (i:Int)=false from h];rfl
 have hcn:∀i:Nat,inL o (zi i)=true→c i=false:=fun i h=>by rw [hc,←upj];unfold uxW;rw [show inL o (i:Int)=true from h];rfl
 obtain⟨L,hL⟩:∃L,L=(ubK d.fs o).length:=⟨_,rfl⟩
 rw [←hL]
 obtain⟨w,hw⟩:∃w:Nat→Nat,w=fun i=>(kpT d.fs c i).length:=⟨_,rfl⟩
 have w0:w 0=0:=by rw [hw];rfl
 have wL:w d.fs.length=L:=by rw [hw,hL,hc];rfl
 have wn:∀i:Nat,c i=false→w (i+1)=w i:=fun i h=>by rw [hw];simp only [uuZ h]
 have wy:∀i:Nat,i<d.fs.length→c i=true→w i<L∧el (w i)=[(.agg [(iv fun _=>(d.fs.getD i f0T).p),(iv fun _=>(d.fs.getD i f0T).s),(iv fun _=>(d.fs.getD i f0T).wl),(iv fun _=>(d.fs.getD i f0T).wh),(iv fun _=>(d.fs.getD i f0T).ml),(iv fun _=>(d.fs.getD i f0T).mh)])]∧w (i+1)=w i+1:=fun i hi h=>by
  have q:=uw3 (fs:=d.fs) hi h
  rw [hw]
  refine⟨by rw [hL];unfold ubK;rw [←hc];exact q.1,?_,by simp only [upa h,List.length_append,List.length_cons,List.length_nil]⟩
  rw [help]
  unfold ubK
  rw [←hc]
  simp only [q.2]
 clear hw hc hL help
 refine ug9 (sc:=uyN) uan mix Tryz.func107 rfl Tryz.call107 (by kernel_rfl) (by kernel_rfl) fun y=> ?_
 generalize Tryz.prog=P at c63⊢
 refine⟨rfl,rfl,hpl,?_⟩
 cbv
 repeat' (first|fail)
 all_goals first|skip
 refine⟨none,[],{i:Nat // i≤d.fs.length},fun x=>.atg fun _=>w x.1,fun x=>⟨[(0,.val (Value.func (Fn.yield y) ⟨[]⟩ ⟨[]⟩)),(1,(.pp 0 [(wpS d)])),(2,.pp 0 [(iS o)]),(10,(.sl 6 (.sym fun _=>zi (d.fs).length) (fun ix=>[(iv fun _=>((d.fs).getD ix.den.toNat f0T).p),(iv fun _=>((d.fs).getD ix.den.toNat f0T).s),(iv fun _=>((d.fs).getD ix.den.toNat f0T).wl),(iv fun _=>((d.fs).getD ix.den.toNat f0T).wh),(iv fun _=>((d.fs).getD ix.den.toNat f0T).ml),(iv fun _=>((d.fs).getD ix.den.toNat f0T).mh)]))),(11,(iv fun _=>zi d.fs.length)),(12,(iv fun _=>zi x.1))],[],90⟩,fun x=>d.fs.length-x.1,?_,?_⟩
 ·refine⟨⟨0,by omega⟩,?_⟩
  cbv
  repeat' (first|with_reducible refine ua4 ?_ ?_|with_reducible refine And.intro ?_ ?_)
  all_goals first|trivial|exact qM (qE (by rfl))|exact qM (Fit.refl _)|(refine uef ?_;exact w0.symm)|skip
 ·rintro ⟨i,hi⟩
  cbv
  repeat' (first|with_reducible refine ua4 ?_ ?_|with_reducible refine And.intro ?_ ?_|(with_reducible intro hcd;(try simp only [zA,zB,zC,zD,zE,zF,zG,zH,zI,zJ,zK,zL,zM,zN,zO,zP]at hcd);try cbv)|(refine qP ?_ (c63 i) ?hfit;(case hfit=>((repeat' (first|exact qB|refine qD ?_ ?_|exact qE (by rfl)|exact qF (by rfl)|exact Fit.refl _|exact qA|refine qC ?_ rfl ?_));done));try cbv)|fail)
  all_goals first|trivial|((try simp only [qV]at *);(try simp only [zQ,zA,zB,zC,zD,zE,zF,zG,zH,zI,zJ,zK,zL,zM,zN,zO,zP,zR,zS]at *);first|(refine qN ?_;omega)|(simp only [uaq];omega))|((have h9:=wy i (by((try simp only [qV]at *);(try simp only [zQ,zA,zB,zC,zD,zE,zF,zG,zH,zI,zJ,zK,zL,zM,zN,zO,zP,zR,zS]at *);omega)) (hcy i (by assumption)));refine uhl h9.1 ?_;rw [h9.2.1];exact Fit.refl _)|((try simp only [zQ,zA,zB,zC,zD,zE,zF,zG,zH,zI,zJ,zK,zL,zM,zN,zO,zP,zR,zS]at *);refine⟨⟨i+1,by omega⟩,by simp only [];omega,?_⟩;cbv;(repeat' (first|with_reducible refine ua4 ?_ ?_|with_reducible refine And.intro ?_ ?_));(all_goals first|trivial|exact qM (qE (by rfl))|exact qM (qF (by rfl))|exact qM (Fit.refl _)|exact qL (qK _)|(refine qM (qE ?_);(try simp only [qV]at *);simp only [zQ,zA,zB,zC,zD,zE,zF,zG,zH,zI,zJ,zK,zL,zM,zN,zO,zP,zR,zS]at *;omega)|(refine uef ?_;exact(wn i (hcn i (by assumption))).symm)|(refine uef ?_;exact(wy i (by((try simp only [qV]at *);(try simp only [zQ,zA,zB,zC,zD,zE,zF,zG,zH,zI,zJ,zK,zL,zM,zN,zO,zP,zR,zS]at *);omega)) (hcy i (by assumption))).2.2.symm)|skip))|(show w i=L;rw [←wL];congr 1;((try simp only [qV]at *);(try simp only [zQ,zA,zB,zC,zD,zE,zF,zG,zH,zI,zJ,zK,zL,zM,zN,zO,zP,zR,zS]at *);omega))|skip
theorem uwf {f i:Nat}(h:f=4)(hi:i<16):iN (f*4) i=mS 0 i:=by subst h;exact uwM hi
theorem uxL {f t i:Nat}(h:t=4):iN (f*4+t) i=iN ((f+1)*4) i:=by
 subst h
 rw [show f*4+4=(f+1)*4 by omega]
theorem ux6 {f t i:Nat}(h:i=f*4+t)(ht:t<4)(hd:f≠t):2000=iN (f*4+(t+1)) i:=uxv (k:=f*4+t) h (by omega)
theorem uwx {f t i:Nat}(h:i≠f*4+t):iN (f*4+t) i=iN (f*4+(t+1)) i:=utk h
theorem uvb {f t i:Nat}(ht:t<4)(hd:f=t):iN (f*4+t) i=iN (f*4+(t+1)) i:=uwe (k:=f*4+t) (by omega)
theorem uyt (s i:Nat):un8 (mS s) ⟨(0:Int).toNat,(zi s+1).toNat,0,2000⟩ i=mS (s+1) i:=by rw [uB1];rfl
theorem uwO {d:Dsp} {s i:Nat}(h:s=SN d):mS s i=mL d 0 i:=by subst h;rfl
theorem uzp {d:Dsp} {k:Nat}(hd:DOk d)(h:k<d.ls.length)(i:Nat):un8 (mL d k) ⟨((d.ls.getD k l0T).a+1).toNat,((d.ls.getD k l0T).b+1).toNat,(d.ls.getD k l0T).lo,(d.ls.getD k l0T).hi⟩ i=mL d (k+1) i:=by
 have:=hd.l k h
 unfold ucI at this
 rw [uBm h (by omega) (by omega)]
theorem uwb {d:Dsp} {K:List FaT} {k i:Nat}(h:k=d.ls.length):mL d k i=mF d K 0 i:=by subst h;rfl
theorem uz5 {d:Dsp} {K:List FaT} {k:Nat}(hK:FOk d K)(h:k<K.length)(i:Nat):un8 (mF d K k) ⟨(0:Int).toNat,((K.getD k f0T).s+1).toNat,mLo d (K.getD k f0T),mHi d (K.getD k f0T)⟩ i=mF d K (k+1) i:=by
 have:=hK k h
 unfold uc8 at this
 rw [uB7 h (by omega)]
 rfl
set_option maxHeartbeats 4000000 in
theorem ucF (d:Dsp)(o:List Int)(hd:DOk d)(ho:o.length≤1000):ua0 Tryz.prog 42 [(wpS d),(iS o)] [] (fun r _=>r=(.tup [(.agg [(.arr 16 (fun ix=>(iv fun _=>(clo (ui5 d d.fs o)) ix.den.toNat)))]),(bv fun _=>ufd d d.fs o)])):=by
 have c67:= @uqg
 have c87:=uxc d o
 have c68:= @utQ
 obtain⟨K,hKd⟩:∃K,K=ubK d.fs o:=⟨_,rfl⟩
 have hK:FOk d K:=by rw [hKd];exact upX hd.f o
 obtain⟨L,hL⟩:∃L,L=K.length:=⟨_,rfl⟩
 obtain⟨el,hel⟩:∃el:Nat→List SV,el=(fun n:Nat=>[(.agg [(iv fun _=>(K.getD n f0T).p),(iv fun _=>(K.getD n f0T).s),(iv fun _=>(K.getD n f0T).wl),(iv fun _=>(K.getD n f0T).wh),(iv fun _=>(K.getD n f0T).ml),(iv fun _=>(K.getD n f0T).mh)])]):=⟨_,rfl⟩
 have cI:ulv Tryz.prog 107 [(.pp 0 [(wpS d)]),.pp 0 [(iS o)]] L el:=by rw [hel,hL,hKd];exact uuz d o (by have:=hd.f6;omega) ho
 have elen:∀i,(el i).length=1∧SV.idsL (el i)=[]:=fun i=>by rw [hel];exact⟨rfl,rfl⟩
 have ei:∀i,el i=[(.agg [(iv fun _=>(K.getD i f0T).p),(iv fun _=>(K.getD i f0T).s),(iv fun _=>(K.getD i f0T).wl),(iv fun _=>(K.getD i f0T).wh),(iv fun _=>(K.getD i f0T).ml),(iv fun _=>(K.getD i f0T).mh)])]:=fun i=>by rw [hel]
 have hbd:∀i,-2000≤mF d K L i∧mF d K L i≤2000:=fun i=>by rw [hL,usZ];exact ut7 hd hK i
 have hend:mF d K L=ui5 d d.fs o:=by rw [hL,usZ,hKd];rfl
 have hKb:∀i,i<L→(0≤(K.getD i f0T).s∧(K.getD i f0T).s≤d.sn-1)∧0≤mLo d (K.getD i f0T)∧mLo d (K.getD i f0T)≤mHi d (K.getD i f0T)∧mHi d (K.getD i f0T)≤2000:=fun i hi=>by
  have q:=hK i (by rw [←hL];exact hi)
  have b:=uq7 hd.t q
  unfold uc8 at q
  exact⟨q.2.1,b⟩
 have c45:=fun (i:Nat) (hi:i<L)=>up4 d (K.getD i f0T) hd.t (hK i (by rw [←hL];exact hi))
 have s1:=hd.s1
 have s3:=hd.s3
 have l4:=hd.l4
 rw [show ufd d d.fs o=okD (clo (ui5 d d.fs o))from rfl]
 clear hel hKd
 refine ua0.is fun R hR=>qW (sc:=uBA) uan mix Tryz.func42 rfl Tryz.call42 (by kernel_rfl) (by kernel_rfl) ?_
 generalize Tryz.prog=P at c67 c87 c68 c45 cI⊢
 cbv
 repeat' (first|fail)
 all_goals first|skip
 refine⟨none,[],{f:Nat // f≤4},fun x=>⟨[(1,(iS o)),(2,.own 0 0),(4,.own 1 0),(12,(iv fun _=>zi x.1))],[(0,.cells [(wpS d)] 87),(1,.cells [(.arr 16 (fun ix=>(iv fun _=>(iN (x.1*4)) ix.den.toNat)))] 95)],100⟩,fun x=>4-x.1,?_,?_⟩
 ·refine⟨⟨0,by omega⟩,?_⟩
  cbv
  repeat' (first|with_reducible refine ua4 ?_ ?_|with_reducible refine And.intro ?_ ?_)
  all_goals first|trivial|exact qM (qE (by rfl))|exact qM (Fit.refl _)|exact qL (qK _)|(refine qL (qJ (uaZ (fun ix h0 h1=>qE (uAF _).symm) qA)))|skip
 ·rintro ⟨f, hf⟩
  cbv
  repeat' (first|with_reducible refine And.intro ?_ ?_|(with_reducible intro hcd;(try simp only [zA,zB,zC,zD,zE,zF,zG,zH,zI,zJ,zK,zL,zM,zN,zO,zP]at hcd);try cbv)|fail)
  all_goals first|skip
  refine⟨none,[],{t:Nat // t≤4},fun x=>⟨[(1,(iS o)),(2,.own 0 0),(4,.own 1 0),(12,(iv fun _=>zi f)),(6,(iv fun _=>zi f)),(15,(iv fun _=>zi x.1))],[(0,.cells [(wpS d)] 87),(1,.cells [(.arr 16 (fun ix=>(iv fun _=>(iN (f*4+x.1)) ix.den.toNat)))] 95)],200⟩,fun x=>4-x.1,?_,?_⟩
  ·refine⟨⟨0,by omega⟩,?_⟩
   cbv
   repeat' (first|with_reducible refine ua4 ?_ ?_|with_reducible refine And.intro ?_ ?_)
   all_goals first|trivial|exact qM (qE (by rfl))|exact qM (Fit.refl _)|exact qL (qK _)|skip
  ·rintro ⟨t,ht⟩
   cbv
   repeat' (first
    |with_reducible refine ua4 ?_ ?_
    |with_reducible refine And.intro ?_ ?_
    |(with_reducible intro hcd;(try simp only [zA,zB,zC,zD,zE,zF,zG,zH,zI,zJ,zK,zL,zM,zN,zO,zP]at hcd);try cbv)
    | (refine⟨fun ix=>(iv fun _=>iN (f*4+(t+1)) ix.den.toNat),?_⟩
       cbv
       refine ua4 (ugP (by intro jx h0 h1 h2;refine qE ?_;(try simp only [qV]at *);(try simp only [zQ,zA,zB,zC,zD,zE,zF,zG,zH,zI,zJ,zK,zL,zM,zN,zO,zP,zR,zS]at *);exact ux6 (by omega) (by omega) (by omega)) (by intro jx h0 h1 h2;refine qE ?_;(try simp only [qV]at *);(try simp only [zQ,zA,zB,zC,zD,zE,zF,zG,zH,zI,zJ,zK,zL,zM,zN,zO,zP,zR,zS]at *);exact uwx (by omega))) ?_
       try cbv)
    |fail)
   all_goals first|((try simp only [qV]at *);(try simp only [zQ,zA,zB,zC,zD,zE,zF,zG,zH,zI,zJ,zK,zL,zM,zN,zO,zP,zR,zS]at *);first|(refine qN ?_;omega)|(simp only [uaq];omega))|((try simp only [zQ,zA,zB,zC,zD,zE,zF,zG,zH,zI,zJ,zK,zL,zM,zN,zO,zP,zR,zS]at *);refine⟨⟨t+1,by omega⟩,by simp only [];omega,?_⟩;cbv;(repeat' (first|with_reducible refine ua4 ?_ ?_|with_reducible refine And.intro ?_ ?_));(all_goals first|trivial|exact qM (qE (by rfl))|exact qM (qF (by rfl))|exact qM (Fit.refl _)|exact qL (qK _)|(refine qM (qE ?_);(try simp only [qV]at *);simp only [zQ,zA,zB,zC,zD,zE,zF,zG,zH,zI,zJ,zK,zL,zM,zN,zO,zP,zR,zS]at *;omega)|(refine qL (qJ ?_);(repeat' (first|exact qA|exact qB|refine qC ?_ rfl ?_|refine qD ?_ ?_|exact qE (by rfl)|exact qF (by rfl)|exact Fit.refl _|exact qG _|(refine qE ?_;(try simp only [qV]at *);simp only [zQ,zA,zB,zC,zD,zE,zF,zG,zH,zI,zJ,zK,zL,zM,zN,zO,zP,zR,zS]at *;omega)));done)|(refine qL (qJ (uaZ (fun ix h0 h1=>qE rfl) qA)))|(refine qL (qJ (uaZ (fun ix h0 h1=>qE (uvb (by((try simp only [qV]at *);(try simp only [zQ,zA,zB,zC,zD,zE,zF,zG,zH,zI,zJ,zK,zL,zM,zN,zO,zP,zR,zS]at *);omega)) (by((try simp only [qV]at *);(try simp only [zQ,zA,zB,zC,zD,zE,zF,zG,zH,zI,zJ,zK,zL,zM,zN,zO,zP,zR,zS]at *);omega)))) qA)))|skip))|((try simp only [zQ,zA,zB,zC,zD,zE,zF,zG,zH,zI,zJ,zK,zL,zM,zN,zO,zP,zR,zS]at *);refine⟨⟨f+1,by omega⟩,by simp only [];omega,?_⟩;cbv;(repeat' (first|with_reducible refine ua4 ?_ ?_|with_reducible refine And.intro ?_ ?_));(all_goals first|trivial|exact qM (qE (by rfl))|exact qM (qF (by rfl))|exact qM (Fit.refl _)|exact qL (qK _)|(refine qM (qE ?_);(try simp only [qV]at *);simp only [zQ,zA,zB,zC,zD,zE,zF,zG,zH,zI,zJ,zK,zL,zM,zN,zO,zP,zR,zS]at *;omega)|(refine qL (qJ ?_);(repeat' (first|exact qA|exact qB|refine qC ?_ rfl ?_|refine qD ?_ ?_|exact qE (by rfl)|exact qF (by rfl)|exact Fit.refl _|exact qG _|(refine qE ?_;(try simp only [qV]at *);simp only [zQ,zA,zB,zC,zD,zE,zF,zG,zH,zI,zJ,zK,zL,zM,zN,zO,zP,zR,zS]at *;omega)));done)|(refine qL (qJ (uaZ (fun ix h0 h1=>qE (uxL (by((try simp only [qV]at *);(try simp only [zQ,zA,zB,zC,zD,zE,zF,zG,zH,zI,zJ,zK,zL,zM,zN,zO,zP,zR,zS]at *);omega)))) qA)))|skip))|skip
  refine⟨none,[],{s:Nat // s≤d.sn.toNat},fun x=>⟨[(1,(iS o)),(2,.own 0 0),(4,.own 1 0),(31,(iv fun _=>d.sn)),(32,(iv fun _=>zi x.1))],[(0,.cells [(wpS d)] 87),(1,.cells [(.arr 16 (fun ix=>(iv fun _=>(mS x.1) ix.den.toNat)))] 95)],300⟩,fun x=>d.sn.toNat-x.1,?_,?_⟩
  ·refine⟨⟨0,by omega⟩,?_⟩
   cbv
   repeat' (first|with_reducible refine ua4 ?_ ?_|with_reducible refine And.intro ?_ ?_)
   all_goals first|trivial|exact qM (qE (by rfl))|exact qM (Fit.refl _)|exact qL (qK _)|(refine qL (qJ (uaZ (fun ix h0 h1=>qE (uwf (by((try simp only [qV]at *);(try simp only [zQ,zA,zB,zC,zD,zE,zF,zG,zH,zI,zJ,zK,zL,zM,zN,zO,zP,zR,zS]at *);omega)) (by omega))) qA)))|skip
  ·rintro ⟨s, hs⟩
   cbv
   repeat' (first
    |with_reducible refine ua4 ?_ ?_
    |with_reducible refine And.intro ?_ ?_
    |(with_reducible intro hcd;(try simp only [zA,zB,zC,zD,zE,zF,zG,zH,zI,zJ,zK,zL,zM,zN,zO,zP]at hcd);try cbv)
    | (refine⟨some [1],?_⟩
       cbv
       refine qQ ?_ (c67 (mS s) 0 (zi s+1) 0 2000 (by omega) ⟨(by((try simp only [qV]at *);(try simp only [zQ,zA,zB,zC,zD,zE,zF,zG,zH,zI,zJ,zK,zL,zM,zN,zO,zP,zR,zS]at *);omega)),(by((try simp only [qV]at *);(try simp only [zQ,zA,zB,zC,zD,zE,zF,zG,zH,zI,zJ,zK,zL,zM,zN,zO,zP,zR,zS]at *);omega))⟩ (by omega)) ?hfit ?hbo
       case hfit=>(cbv;(repeat' (first|exact qB|refine qD ?_ ?_|exact qE (by rfl)|exact qF (by rfl)|exact Fit.refl _|exact qA|refine qC ?_ rfl ?_));done)
       case hbo=>(cbv;(repeat' (first|exact qH|refine qI ?_ ?_|exact qK _|refine qJ ?_|exact qA|exact qE (by rfl)|exact qF (by rfl)|exact Fit.refl _|exact qG _|refine qC ?_ rfl ?_));done)
       try cbv)
    |fail)
   all_goals first|((try simp only [qV]at *);(try simp only [zQ,zA,zB,zC,zD,zE,zF,zG,zH,zI,zJ,zK,zL,zM,zN,zO,zP,zR,zS]at *);first|(refine qN ?_;omega)|(simp only [uaq];omega))|((try simp only [zQ,zA,zB,zC,zD,zE,zF,zG,zH,zI,zJ,zK,zL,zM,zN,zO,zP,zR,zS]at *);refine⟨⟨s+1,by((try simp only [qV]at *);(try simp only [zQ,zA,zB,zC,zD,zE,zF,zG,zH,zI,zJ,zK,zL,zM,zN,zO,zP,zR,zS]at *);omega)⟩,by simp only [];omega,?_⟩;cbv;(repeat' (first|with_reducible refine ua4 ?_ ?_|with_reducible refine And.intro ?_ ?_));(all_goals first|trivial|exact qM (qE (by rfl))|exact qM (qF (by rfl))|exact qM (Fit.refl _)|exact qL (qK _)|(refine qM (qE ?_);(try simp only [qV]at *);simp only [zQ,zA,zB,zC,zD,zE,zF,zG,zH,zI,zJ,zK,zL,zM,zN,zO,zP,zR,zS]at *;omega)|(refine qL (qJ ?_);(repeat' (first|exact qA|exact qB|refine qC ?_ rfl ?_|refine qD ?_ ?_|exact qE (by rfl)|exact qF (by rfl)|exact Fit.refl _|exact qG _|(refine qE ?_;(try simp only [qV]at *);simp only [zQ,zA,zB,zC,zD,zE,zF,zG,zH,zI,zJ,zK,zL,zM,zN,zO,zP,zR,zS]at *;omega)));done)|(refine qL (qJ (uaZ (fun ix h0 h1=>qE (uyt s _)) qA)))|skip))|skip
   refine⟨none,[],{k:Nat // k≤d.ls.length},fun x=>⟨[(1,(iS o)),(2,.own 0 0),(4,.own 1 0),(44,(.sl 4 (.sym fun _=>zi (d.ls).length) (fun ix=>[(iv fun _=>((d.ls).getD ix.den.toNat l0T).a),(iv fun _=>((d.ls).getD ix.den.toNat l0T).b),(iv fun _=>((d.ls).getD ix.den.toNat l0T).lo),(iv fun _=>((d.ls).getD ix.den.toNat l0T).hi)]))),(45,(iv fun _=>zi d.ls.length)),(46,(iv fun _=>zi x.1))],[(0,.cells [(wpS d)] 87),(1,.cells [(.arr 16 (fun ix=>(iv fun _=>(mL d x.1) ix.den.toNat)))] 95)],400⟩,fun x=>d.ls.length-x.1,?_,?_⟩
   ·refine⟨⟨0,by omega⟩,?_⟩
    cbv
    repeat' (first|with_reducible refine ua4 ?_ ?_|with_reducible refine And.intro ?_ ?_)
    all_goals first|trivial|exact qM (qE (by rfl))|exact qM (Fit.refl _)|exact qL (qK _)|(refine qL (qJ (uaZ (fun ix h0 h1=>qE (uwO (by unfold SN;(try simp only [qV]at *);(try simp only [zQ,zA,zB,zC,zD,zE,zF,zG,zH,zI,zJ,zK,zL,zM,zN,zO,zP,zR,zS]at *);omega))) qA)))|skip
   ·rintro ⟨k,hk⟩
    cbv
    have hlk:k<d.ls.length→ucI d.sn (d.ls.getD k l0T):=hd.l k
    unfold ucI at hlk
    repeat' (first
     |with_reducible refine ua4 ?_ ?_
     |with_reducible refine And.intro ?_ ?_
     |(with_reducible intro hcd;(try simp only [zA,zB,zC,zD,zE,zF,zG,zH,zI,zJ,zK,zL,zM,zN,zO,zP]at hcd);try cbv)
     | ((have hk9:=hlk (by((try simp only [qV]at *);(try simp only [zQ,zA,zB,zC,zD,zE,zF,zG,zH,zI,zJ,zK,zL,zM,zN,zO,zP,zR,zS]at *);omega)))
        refine⟨some [1],?_⟩
        cbv
        refine qQ ?_ (c67 (mL d k) ((d.ls.getD k l0T).a+1) ((d.ls.getD k l0T).b+1) (d.ls.getD k l0T).lo (d.ls.getD k l0T).hi ⟨by omega,by omega⟩ ⟨by omega,by omega⟩ (by omega)) ?hfit ?hbo
        case hfit=>(cbv;(repeat' (first|exact qB|refine qD ?_ ?_|exact qE (by rfl)|exact qF (by rfl)|exact Fit.refl _|exact qA|refine qC ?_ rfl ?_));done)
        case hbo=>(cbv;(repeat' (first|exact qH|refine qI ?_ ?_|exact qK _|refine qJ ?_|exact qA|exact qE (by rfl)|exact qF (by rfl)|exact Fit.refl _|exact qG _|refine qC ?_ rfl ?_));done)
        try cbv)
     |(refine qP ?_ (c87) ?hfit;(case hfit=>((repeat' (first|exact qB|refine qD ?_ ?_|exact qE (by rfl)|exact qF (by rfl)|exact Fit.refl _|exact qA|refine qC ?_ rfl ?_));done));try cbv)
     |fail)
    all_goals first|((try simp only [qV]at *);(try simp only [zQ,zA,zB,zC,zD,zE,zF,zG,zH,zI,zJ,zK,zL,zM,zN,zO,zP,zR,zS]at *);first|(refine qN ?_;omega)|(simp only [uaq];omega))|((try simp only [zQ,zA,zB,zC,zD,zE,zF,zG,zH,zI,zJ,zK,zL,zM,zN,zO,zP,zR,zS]at *);refine⟨⟨k+1,by((try simp only [qV]at *);(try simp only [zQ,zA,zB,zC,zD,zE,zF,zG,zH,zI,zJ,zK,zL,zM,zN,zO,zP,zR,zS]at *);omega)⟩,by simp only [];omega,?_⟩;cbv;(repeat' (first|with_reducible refine ua4 ?_ ?_|with_reducible refine And.intro ?_ ?_));(all_goals first|trivial|exact qM (qE (by rfl))|exact qM (qF (by rfl))|exact qM (Fit.refl _)|exact qL (qK _)|(refine qM (qE ?_);(try simp only [qV]at *);simp only [zQ,zA,zB,zC,zD,zE,zF,zG,zH,zI,zJ,zK,zL,zM,zN,zO,zP,zR,zS]at *;omega)|(refine qL (qJ ?_);(repeat' (first|exact qA|exact qB|refine qC ?_ rfl ?_|refine qD ?_ ?_|exact qE (by rfl)|exact qF (by rfl)|exact Fit.refl _|exact qG _|(refine qE ?_;(try simp only [qV]at *);simp only [zQ,zA,zB,zC,zD,zE,zF,zG,zH,zI,zJ,zK,zL,zM,zN,zO,zP,zR,zS]at *;omega)));done)|(refine qL (qJ (uaZ (fun ix h0 h1=>qE (uzp hd (by((try simp only [qV]at *);(try simp only [zQ,zA,zB,zC,zD,zE,zF,zG,zH,zI,zJ,zK,zL,zM,zN,zO,zP,zR,zS]at *);omega)) _)) qA)))|skip))|skip
    refine⟨[],L,el,fun _=>Unit,fun i _=>([(0,.cells [(wpS d)] 87),(1,.cells [(.arr 16 (fun ix=>(iv fun _=>(mF d K i) ix.den.toNat)))] 95)],500),?_⟩
    cbv
    refine⟨fun _=>⟨cI,elen⟩,⟨(),?_⟩,?_,?_⟩
    ·cbv
     repeat' (first|with_reducible refine ua4 ?_ ?_|with_reducible refine And.intro ?_ ?_)
     all_goals first|trivial|exact qL (qK _)|(refine qL (qJ (uaZ (fun ix h0 h1=>qE (uwb (by((try simp only [qV]at *);(try simp only [zQ,zA,zB,zC,zD,zE,zF,zG,zH,zI,zJ,zK,zL,zM,zN,zO,zP,zR,zS]at *);omega)))) qA)))|skip
    ·intro i _ hil
     have hil':i<L:=hil
     simp only [ei]
     cbv
     repeat' (first
      |with_reducible refine ua4 ?_ ?_
      |(refine qP ?_ (c45 i hil) ?hfit;(case hfit=>((repeat' (first|exact qB|refine qD ?_ ?_|exact qE (by rfl)|exact qF (by rfl)|exact Fit.refl _|exact qA|refine qC ?_ rfl ?_));done));try cbv)
      | ((have hk9:=hKb i hil)
         refine⟨some [1],?_⟩
         cbv
         refine qQ ?_ (c67 (mF d K i) 0 ((K.getD i f0T).s+1) (mLo d (K.getD i f0T)) (mHi d (K.getD i f0T)) (by omega) ⟨by omega,by omega⟩ (by omega)) ?hfit ?hbo
         case hfit=>(cbv;(repeat' (first|exact qB|refine qD ?_ ?_|exact qE (by rfl)|exact qF (by rfl)|exact Fit.refl _|exact qA|refine qC ?_ rfl ?_));done)
         case hbo=>(cbv;(repeat' (first|exact qH|refine qI ?_ ?_|exact qK _|refine qJ ?_|exact qA|exact qE (by rfl)|exact qF (by rfl)|exact Fit.refl _|exact qG _|refine qC ?_ rfl ?_));done)
         try cbv)
      |fail)
     all_goals first|((have hk9:=hKb i hil);(try simp only [qV]at *);(try simp only [zQ,zA,zB,zC,zD,zE,zF,zG,zH,zI,zJ,zK,zL,zM,zN,zO,zP,zR,zS]at *);simp only [uaq];first|omega|exact⟨by omega,by omega⟩)|(refine⟨(),?_⟩;cbv;(repeat' (first|with_reducible refine ua4 ?_ ?_|with_reducible refine And.intro ?_ ?_));(all_goals first|trivial|exact qM (qE (by rfl))|exact qM (qF (by rfl))|exact qM (Fit.refl _)|exact qL (qK _)|(refine qM (qE ?_);(try simp only [qV]at *);simp only [zQ,zA,zB,zC,zD,zE,zF,zG,zH,zI,zJ,zK,zL,zM,zN,zO,zP,zR,zS]at *;omega)|(refine qL (qJ ?_);(repeat' (first|exact qA|exact qB|refine qC ?_ rfl ?_|refine qD ?_ ?_|exact qE (by rfl)|exact qF (by rfl)|exact Fit.refl _|exact qG _|(refine qE ?_;(try simp only [qV]at *);simp only [zQ,zA,zB,zC,zD,zE,zF,zG,zH,zI,zJ,zK,zL,zM,zN,zO,zP,zR,zS]at *;omega)));done)|(refine qL (qJ (uaZ (fun ix h0 h1=>qE (uz5 hK (by rw [←hL];exact hil) _)) qA)))|skip))|skip
    ·intro _
     cbv
     repeat' (first
      | (refine⟨some [1],?_⟩
         cbv
         refine qQ ?_ (c68 (mF d K L) (fun i _=>(hbd i).1) (fun i _=>(hbd i).2)) ?hfit ?hbo
         case hfit=>(cbv;(repeat' (first|exact qB|refine qD ?_ ?_|exact qE (by rfl)|exact qF (by rfl)|exact Fit.refl _|exact qA|refine qC ?_ rfl ?_));done)
         case hbo=>(cbv;(repeat' (first|exact qH|refine qI ?_ ?_|exact qK _|refine qJ ?_|exact qA|exact qE (by rfl)|exact qF (by rfl)|exact Fit.refl _|exact qG _|refine qC ?_ rfl ?_));done)
         try cbv)
      |fail)
     all_goals first|(subst hR;(rw [hend];exact Fit.refl _);done)|skip
end Go.Proofs.YtkdggbfknlcdaaaGreat
namespace Go.Proofs.YtkdggbfknlcdaaaGreat
open Go.Eng.Dif
theorem um1 (fs:List FaT):ubK fs []=fs:=by
 have h:∀n,n≤fs.length→kpT fs (uk5 []) n=fs.take n:=by
  intro n
  induction n with
  |zero=>intro _;rfl
  | succ n ih=>
   intro hn
   rw [upa (show uk5 [] n=true from rfl),ih (by omega),uhU (by omega),List.getD_eq_getElem?_getD,List.getElem?_eq_getElem (by omega)]
   rfl
 unfold ubK
 rw [h _ (Nat.le_refl _),List.take_of_length_le (Nat.le_refl _)]
theorem uts {d:Dsp}(h:DOk d) {o:List Int}(hc:ufd d d.fs o=true) {i:Nat}(hi:i<16): -2000≤clo (ui5 d d.fs o) i∧clo (ui5 d d.fs o) i≤2000:=by
 have hk:=upX h.f o
 exact⟨upv (okk h hk) hc hi,Int.le_trans (ulE _ _) (ut7 h hk i).2⟩
def ufy (d:Dsp)(n:Int):Int:=if ua7 d=0 then(if inB 0 n ((d.fs.length:Int)-1)=true then 0 else 2)else ua7 d
def uiV (d:Dsp)(n:Int):Int:=if ufy d n=0 then mLo d (d.fs.getD n.toNat f0T)else 0
def ujO (d:Dsp)(n:Int):Int:=if ufy d n=0 then mHi d (d.fs.getD n.toNat f0T)else 0
theorem uoz {d:Dsp} {n:Int}(h:¬ua7 d=0):ufy d n=ua7 d∧uiV d n=0∧ujO d n=0:=by
 have e:ufy d n=ua7 d:=by unfold ufy;rw [if_neg h]
 exact⟨e,by unfold uiV;rw [e,if_neg h],by unfold ujO;rw [e,if_neg h]⟩
theorem urY {d:Dsp} {n:Int}(h:ua7 d=0)(hn:¬(0≤n∧n≤(d.fs.length:Int)-1)):ufy d n=2∧uiV d n=0∧ujO d n=0:=by
 have e:ufy d n=2:=by unfold ufy;rw [if_pos h,if_neg (by rw [uaP];exact hn)]
 exact⟨e,by unfold uiV;rw [e];rfl,by unfold ujO;rw [e];rfl⟩
theorem uj6 {d:Dsp} {n:Int}(h:ua7 d=0)(hn:0≤n∧n≤(d.fs.length:Int)-1):ufy d n=0∧uiV d n=mLo d (d.fs.getD n.toNat f0T)∧ujO d n=mHi d (d.fs.getD n.toNat f0T):=by
 have e:ufy d n=0:=by unfold ufy;rw [if_pos h,if_pos (by rw [uaP];exact hn)]
 exact⟨e,by unfold uiV;rw [e];rfl,by unfold ujO;rw [e];rfl⟩
def uin (d:Dsp):Int:=if ua7 d=0 then(if ufd d d.fs []=true then 0 else 11)else ua7 d
def uo1 (d:Dsp):Int:=if uin d=0 then d.sn else 0
def loT (d:Dsp)(o:List Int)(s:Nat):Int:= -clo (ui5 d d.fs o) (at4 (s+1) 0)
def hiT (d:Dsp)(o:List Int)(s:Nat):Int:=clo (ui5 d d.fs o) (at4 0 (s+1))
theorem umr {d:Dsp}(h:¬ua7 d=0):uin d=ua7 d∧uo1 d=0:=by
 have e:uin d=ua7 d:=by unfold uin;rw [if_neg h]
 exact⟨e,by unfold uo1;rw [e,if_neg h]⟩
theorem upT {d:Dsp}(h:ua7 d=0)(hc:ufd d d.fs []=false):uin d=11∧uo1 d=0:=by
 have e:uin d=11:=by unfold uin;rw [if_pos h,if_neg (by rw [hc];simp)]
 exact⟨e,by unfold uo1;rw [e];rfl⟩
theorem ug3 {d:Dsp}(h:ua7 d=0)(hc:ufd d d.fs []=true):uin d=0∧uo1 d=d.sn:=by
 have e:uin d=0:=by unfold uin;rw [if_pos h,if_pos hc]
 exact⟨e,by unfold uo1;rw [e];rfl⟩
theorem upB {d:Dsp}(h:uin d=0):ua7 d=0∧ufd d d.fs []=true:=by
 by_cases hF:ua7 d=0
 ·refine⟨hF,?_⟩
  cases hC:ufd d d.fs []with
  |true=>rfl
  |false=>rw [(upT hF hC).1]at h;omega
 ·rw [(umr hF).1]at h;exact absurd h hF
theorem upr {d:Dsp}(h:¬uin d=0):uo1 d=0:=by unfold uo1;rw [if_neg h]
end Go.Proofs.YtkdggbfknlcdaaaGreat
namespace Go.Proofs.YtkdggbfknlcdaaaGreat
open Go Go.Eng Go.Proofs Go.Eng.Dif Go.Eng.Few
set_option maxRecDepth 10000
theorem uxp (d:Dsp)(n:Int)(hl:d.fs.length≤1000):ua0 Tryz.prog 38 [(ubh d),(iv fun _=>n)] [] (fun r _=>r=(.tup [(.agg [(iv fun _=>uiV d n),(iv fun _=>ujO d n)]),(iv fun _=>ufy d n)])):=by
 have c16:=ucM d
 have c43:= @ucY
 have c44:=udU d
 have c45:=fun (i:Nat) (h:ua7 d=0∧i<d.fs.length)=>up4 d (d.fs.getD i f0T) (ua3.1 h.1).t ((ua3.1 h.1).f i h.2)
 refine ua0.is fun R hR=>qW (sc:=uAP) uan mix Tryz.func38 rfl Tryz.call38 (by kernel_rfl) (by kernel_rfl) ?_
 generalize Tryz.prog=P at c16 c43 c44 c45⊢
 cbv
 repeat' (first
  |with_reducible refine ua4 ?_ ?_
  |with_reducible refine And.intro ?_ ?_
  |(with_reducible intro hcd;(try simp only [zA,zB,zC,zD,zE,zF,zG,zH,zI,zJ,zK,zL,zM,zN,zO,zP]at hcd);try cbv)
  |(refine qP ?_ (c16) ?hfit;(case hfit=>((repeat' (first|exact qB|refine qD ?_ ?_|exact qE (by rfl)|exact qF (by rfl)|exact Fit.refl _|exact qA|refine qC ?_ rfl ?_));done));try cbv)
  |(refine qP ?_ (c43 _ _ _) (by(repeat' (first|exact qB|refine qD ?_ ?_|exact qE (by rfl)|exact qF (by rfl)|exact Fit.refl _|exact qA|refine qC ?_ rfl ?_)));try cbv)
  |(refine qP ?_ (c44) ?hfit;(case hfit=>((repeat' (first|exact qB|refine qD ?_ ?_|exact qE (by rfl)|exact qF (by rfl)|exact Fit.refl _|exact qA|refine qC ?_ rfl ?_));done));try cbv)
  | ((have hn9:0≤n∧n≤(d.fs.length:Int)-1:=(by((try simp only [qV]at *);(try simp only [zQ,zA,zB,zC,zD,zE,zF,zG,zH,zI,zJ,zK,zL,zM,zN,zO,zP,zR,zS]at *);(try simp only [uaj,uau,uaP,ub4,ub2,ub5,uae,uaf,uad,uag]at *);omega)))
     refine qP ?_ (c45 n.toNat ⟨by first|assumption|omega,by omega⟩) ?hfit
     case hfit=>((repeat' (first|exact qB|refine qD ?_ ?_|exact qE (by rfl)|exact qF (by rfl)|exact Fit.refl _|exact qA|refine qC ?_ rfl ?_));done)
     try cbv)
  |fail)
 all_goals first|((try simp only [qV]at *);(try simp only [zQ,zA,zB,zC,zD,zE,zF,zG,zH,zI,zJ,zK,zL,zM,zN,zO,zP,zR,zS,uaj,uau,uaP,ub4,ub2,ub5,uae,uaf,uad,uag]at *);first|(refine qN ?_;omega)|(simp only [uaq];omega))|(subst hR;(refine qD (qC (qE ?_) rfl (qC (qE ?_) rfl qA)) (qD (qE ?_) qB)<;>((try simp only [qV]at *);(try simp only [zQ,zA,zB,zC,zD,zE,zF,zG,zH,zI,zJ,zK,zL,zM,zN,zO,zP,zR,zS]at *);(try simp only [uaj,uau,uaP,ub4,ub2,ub5,uae,uaf,uad,uag]at *);(have h0:=uoz (d:=d) (n:=n) (by first|assumption|omega));first|exact h0.2.1.symm|exact h0.2.2.symm|exact h0.1.symm));done)|(subst hR;(refine qD (qC (qE ?_) rfl (qC (qE ?_) rfl qA)) (qD (qE ?_) qB)<;>((try simp only [qV]at *);(try simp only [zQ,zA,zB,zC,zD,zE,zF,zG,zH,zI,zJ,zK,zL,zM,zN,zO,zP,zR,zS]at *);(try simp only [uaj,uau,uaP,ub4,ub2,ub5,uae,uaf,uad,uag]at *);(have h0:=urY (d:=d) (n:=n) (by first|assumption|omega) (by first|assumption|omega));first|exact h0.2.1.symm|exact h0.2.2.symm|exact h0.1.symm));done)|(subst hR;(refine qD (qC (qE ?_) rfl (qC (qE ?_) rfl qA)) (qD (qE ?_) qB)<;>((try simp only [qV]at *);(try simp only [zQ,zA,zB,zC,zD,zE,zF,zG,zH,zI,zJ,zK,zL,zM,zN,zO,zP,zR,zS]at *);(try simp only [uaj,uau,uaP,ub4,ub2,ub5,uae,uaf,uad,uag]at *);(have h0:=uj6 (d:=d) (n:=n) (by first|assumption|omega) (by omega));first|exact h0.2.1.symm|exact h0.2.2.symm|exact h0.1.symm));done)|skip
theorem uqK (d:Dsp)(h:uin d=0):ua0 Tryz.prog 30 [(ubh d)] [] (fun r _=>r=(.tup [(.sl 2 (.sym fun _=>uo1 d) (fun ix=>[(iv fun _=>loT d [] ix.den.toNat),(iv fun _=>hiT d [] ix.den.toNat)])),(iv fun _=>uin d)])):=by
 have c16:=ucM d
 have c44:=udU d
 have hF:=(upB h).1
 have hC:=(upB h).2
 have s1:=(ua3.1 hF).s1
 have s3:=(ua3.1 hF).s3
 have c54:=ucF d [] (ua3.1 hF) (by simp)
 have hbd:=fun (i:Nat) (hi:i<16)=>uts (ua3.1 hF) hC hi
 have c55:=fun (s:Int) (hs:0≤s∧s<3)=>ulC (clo (ui5 d d.fs [])) s hs (fun i hi=>⟨by have:=hbd i hi;omega,by have:=hbd i hi;omega⟩)
 refine ua0.is fun R hR=>qW (sc:=uzN) uan mix Tryz.func30 rfl Tryz.call30 (by kernel_rfl) (by kernel_rfl) ?_
 generalize Tryz.prog=P at c16 c44 c54 c55⊢
 cbv
 repeat' (first|with_reducible refine And.intro ?_ ?_|(with_reducible intro hcd;(try simp only [zA,zB,zC,zD,zE,zF,zG,zH,zI,zJ,zK,zL,zM,zN,zO,zP]at hcd);try cbv)|(refine qP ?_ (c16) ?hfit;(case hfit=>((repeat' (first|exact qB|refine qD ?_ ?_|exact qE (by rfl)|exact qF (by rfl)|exact Fit.refl _|exact qA|refine qC ?_ rfl ?_));done));try cbv)|(refine qP ?_ (c44) ?hfit;(case hfit=>((repeat' (first|exact qB|refine qD ?_ ?_|exact qE (by rfl)|exact qF (by rfl)|exact Fit.refl _|exact qA|refine qC ?_ rfl ?_));done));try cbv)|(refine qP ?_ (c54) ?hfit;(case hfit=>((refine qD (Fit.refl _) (qD (qO rfl) qB));done));try cbv)|fail)
 all_goals first|trivial|(exfalso;rw [hC]at hcd;cases hcd;done)|skip
 refine⟨none,[⟨.tmp 7,59,2⟩],{s:Nat // s≤d.sn.toNat},fun x=>⟨[(1,.own 0 0),(5,.own 14 0),(7,.row 23),(23,(iv fun _=>d.sn)),(24,(iv fun _=>zi x.1))],[(0,.cells [(iS d.tw),(iS d.tm),(.sl 1 (.sym fun _=>zi (d.tv).length) (fun ix=>[(.sl 1 (.sym fun _=>zi ((d.tv).getD ix.den.toNat []).length) (fun jx=>[(iv fun _=>((d.tv).getD ix.den.toNat []).getD jx.den.toNat 0)]))])),(iv fun _=>d.sn),(iv fun _=>d.pn),(.sl 4 (.sym fun _=>zi (d.ls).length) (fun ix=>[(iv fun _=>((d.ls).getD ix.den.toNat l0T).a),(iv fun _=>((d.ls).getD ix.den.toNat l0T).b),(iv fun _=>((d.ls).getD ix.den.toNat l0T).lo),(iv fun _=>((d.ls).getD ix.den.toNat l0T).hi)])),(.sl 6 (.sym fun _=>zi (d.fs).length) (fun ix=>[(iv fun _=>((d.fs).getD ix.den.toNat f0T).p),(iv fun _=>((d.fs).getD ix.den.toNat f0T).s),(iv fun _=>((d.fs).getD ix.den.toNat f0T).wl),(iv fun _=>((d.fs).getD ix.den.toNat f0T).wh),(iv fun _=>((d.fs).getD ix.den.toNat f0T).ml),(iv fun _=>((d.fs).getD ix.den.toNat f0T).mh)]))] 39),(14,.cells [(.arr 16 (fun ix=>(iv fun _=>(clo (ui5 d d.fs [])) ix.den.toNat)))] 95),(23,.row 59 2 (.sym fun _=>zi x.1) (fun ix=>[(iv fun _=>loT d [] ix.den.toNat),(iv fun _=>hiT d [] ix.den.toNat)]))],100⟩,fun x=>d.sn.toNat-x.1,?_,?_⟩
 ·refine⟨⟨0,by omega⟩,?_⟩
  cbv
  repeat' (first|with_reducible refine ua4 ?_ ?_|with_reducible refine And.intro ?_ ?_)
  all_goals first|trivial|exact qM (qE (by rfl))|exact qM (Fit.refl _)|exact qL (qK _)|(refine qL (ua9 ?_ ?_);(first|rfl|((try simp only [qV]at *);(try simp only [zQ,zA,zB,zC,zD,zE,zF,zG,zH,zI,zJ,zK,zL,zM,zN,zO,zP,zR,zS]at *);omega));intro ix h0 h1;exfalso;(try simp only [qV]at *);(try simp only [zQ,zA,zB,zC,zD,zE,zF,zG,zH,zI,zJ,zK,zL,zM,zN,zO,zP,zR,zS]at *);omega)|skip
 ·rintro ⟨s,hs⟩
  cbv
  repeat' (first
   |with_reducible refine ua4 ?_ ?_
   |with_reducible refine And.intro ?_ ?_
   |(with_reducible intro hcd;(try simp only [zA,zB,zC,zD,zE,zF,zG,zH,zI,zJ,zK,zL,zM,zN,zO,zP]at hcd);try cbv)
   | (refine⟨some [14],?_⟩
      cbv
      refine qQ ?_ (c55 (zi s) ⟨(by((try simp only [qV]at *);(try simp only [zQ,zA,zB,zC,zD,zE,zF,zG,zH,zI,zJ,zK,zL,zM,zN,zO,zP,zR,zS]at *);omega)),(by((try simp only [qV]at *);(try simp only [zQ,zA,zB,zC,zD,zE,zF,zG,zH,zI,zJ,zK,zL,zM,zN,zO,zP,zR,zS]at *);omega))⟩) ?hfit ?hbo
      case hfit=>(cbv;(repeat' (first|exact qB|refine qD ?_ ?_|exact qE (by rfl)|exact qF (by rfl)|exact Fit.refl _|exact qA|refine qC ?_ rfl ?_));done)
      case hbo=>(cbv;(repeat' (first|exact qH|refine qI ?_ ?_|exact qK _|refine qJ ?_|exact qA|exact qE (by rfl)|exact qF (by rfl)|exact Fit.refl _|exact qG _|refine qC ?_ rfl ?_));done)
      try cbv)
   | (refine⟨fun ix=>[(iv fun _=>loT d [] ix.den.toNat),(iv fun _=>hiT d [] ix.den.toNat)],?_⟩
      cbv
      refine ua4 (ubj (by intro ix jx h0 h1 h2;simp only [h2];exact Fit.refl _) (by intro ix jx h0 h1 h2;(have h3:jx.den.toNat=s:=by((try simp only [qV]at *);(try simp only [zQ,zA,zB,zC,zD,zE,zF,zG,zH,zI,zJ,zK,zL,zM,zN,zO,zP,zR,zS]at *);omega));simp only [h3];exact qC (qE rfl) rfl (qC (qE rfl) rfl qA)) (by(try simp only [qV]at *);(try simp only [zQ,zA,zB,zC,zD,zE,zF,zG,zH,zI,zJ,zK,zL,zM,zN,zO,zP,zR,zS]at *);omega)) (Or.inl ?_)
      try cbv)
   |fail)
  all_goals first|((try simp only [qV]at *);(try simp only [zQ,zA,zB,zC,zD,zE,zF,zG,zH,zI,zJ,zK,zL,zM,zN,zO,zP,zR,zS]at *);first|(refine qN ?_;omega)|(simp only [uaq];omega))|((have hse:(s:Int)=d.sn:=(by((try simp only [qV]at *);(try simp only [zQ,zA,zB,zC,zD,zE,zF,zG,zH,zI,zJ,zK,zL,zM,zN,zO,zP,zR,zS]at *);omega)));subst hR;exact qD (ua2 (hse.trans (ug3 hF hC).2.symm) (fun _ _ _=>Fit.refl _)) (qD (qE h.symm) qB))|((try simp only [zQ,zA,zB,zC,zD,zE,zF,zG,zH,zI,zJ,zK,zL,zM,zN,zO,zP,zR,zS]at *);refine⟨⟨s+1,by((try simp only [qV]at *);(try simp only [zQ,zA,zB,zC,zD,zE,zF,zG,zH,zI,zJ,zK,zL,zM,zN,zO,zP,zR,zS]at *);omega)⟩,by simp only [];omega,?_⟩;cbv;(repeat' (first|with_reducible refine ua4 ?_ ?_|with_reducible refine And.intro ?_ ?_));(all_goals first|trivial|exact qM (qE (by rfl))|exact qM (qF (by rfl))|exact qM (Fit.refl _)|exact qL (qK _)|(refine qM (qE ?_);(try simp only [qV]at *);simp only [zQ,zA,zB,zC,zD,zE,zF,zG,zH,zI,zJ,zK,zL,zM,zN,zO,zP,zR,zS]at *;omega)|(refine qL (qJ ?_);(repeat' (first|exact qA|exact qB|refine qC ?_ rfl ?_|refine qD ?_ ?_|exact qE (by rfl)|exact qF (by rfl)|exact Fit.refl _|exact qG _|(refine qE ?_;(try simp only [qV]at *);simp only [zQ,zA,zB,zC,zD,zE,zF,zG,zH,zI,zJ,zK,zL,zM,zN,zO,zP,zR,zS]at *;omega)));done)|(refine qL (ua9 ?_ ?_)<;>first|rfl|((try simp only [qV]at *);(try simp only [zQ,zA,zB,zC,zD,zE,zF,zG,zH,zI,zJ,zK,zL,zM,zN,zO,zP,zR,zS]at *);omega)|(intro ix h0 h1;exact Fit.refl _))|skip))|skip
theorem up9 (d:Dsp)(h:¬uin d=0):ua0 Tryz.prog 30 [(ubh d)] [] (fun r _=>r=(.tup [(.sl 2 (.sym fun _=>uo1 d) (fun ix=>[(iv fun _=>loT d [] ix.den.toNat),(iv fun _=>hiT d [] ix.den.toNat)])),(iv fun _=>uin d)])):=by
 have c16:=ucM d
 have c44:=udU d
 have c54:=fun h:ua7 d=0=>ucF d [] (ua3.1 h) (by simp)
 refine ua0.is fun R hR=>qW (sc:=uzN) uan mix Tryz.func30 rfl Tryz.call30 (by kernel_rfl) (by kernel_rfl) ?_
 generalize Tryz.prog=P at c16 c44 c54⊢
 cbv
 repeat' (first|with_reducible refine And.intro ?_ ?_|(with_reducible intro hcd;(try simp only [zA,zB,zC,zD,zE,zF,zG,zH,zI,zJ,zK,zL,zM,zN,zO,zP]at hcd);try cbv)|(refine qP ?_ (c16) ?hfit;(case hfit=>((repeat' (first|exact qB|refine qD ?_ ?_|exact qE (by rfl)|exact qF (by rfl)|exact Fit.refl _|exact qA|refine qC ?_ rfl ?_));done));try cbv)|(refine qP ?_ (c44) ?hfit;(case hfit=>((repeat' (first|exact qB|refine qD ?_ ?_|exact qE (by rfl)|exact qF (by rfl)|exact Fit.refl _|exact qA|refine qC ?_ rfl ?_));done));try cbv)|(refine qP ?_ (c54 (show uaq _ from ?_)) ?hfit;(case hfit=>((refine qD (Fit.refl _) (qD (qO rfl) qB));done));try cbv)|fail)
 all_goals first|trivial|(subst hR;((try simp only [qV]at *);(try simp only [zQ,zA,zB,zC,zD,zE,zF,zG,zH,zI,zJ,zK,zL,zM,zN,zO,zP,zR,zS]at *);(exact qD (qO (upr h)) (qD (qE (umr (d:=d) (by first|assumption|omega)).1.symm) qB)));done)|(subst hR;((try simp only [qV]at *);(try simp only [zQ,zA,zB,zC,zD,zE,zF,zG,zH,zI,zJ,zK,zL,zM,zN,zO,zP,zR,zS]at *);(exact qD (qO (upr h)) (qD (qE (upT (d:=d) (by first|assumption|omega) (by assumption)).1.symm) qB)));done)|(exfalso;exact h (ug3 (by((try simp only [qV]at *);(try simp only [zQ,zA,zB,zC,zD,zE,zF,zG,zH,zI,zJ,zK,zL,zM,zN,zO,zP,zR,zS]at *);first|assumption|omega)) (by assumption)).1)|skip
theorem umc (d:Dsp):ua0 Tryz.prog 30 [(ubh d)] [] (fun r _=>r=(.tup [(.sl 2 (.sym fun _=>uo1 d) (fun ix=>[(iv fun _=>loT d [] ix.den.toNat),(iv fun _=>hiT d [] ix.den.toNat)])),(iv fun _=>uin d)])):=by
 by_cases h:uin d=0
 ·exact uqK d h
 ·exact up9 d h
theorem uoV (l:List Int)(hl:l.length≤1000):ubc Tryz.prog 89 [(iS l)] [] (fun r bs=>r = .row 0∧bs=[.row 3 1 (.sym fun _=>zi l.length) (fun ix=>[(iv fun _=>l.getD ix.den.toNat 0)])]):=by
 refine ubc.is rfl rfl fun R B hR hB=>uf2 (sc:=uAK) uan mix Tryz.func89 rfl Tryz.call89 (by kernel_rfl) (by kernel_rfl) ?_
 generalize Tryz.prog=P
 cbv
 repeat' (first|with_reducible refine ua4 ?_ ?_|with_reducible refine And.intro ?_ ?_|(with_reducible intro hcd;(try simp only [zA,zB,zC,zD,zE,zF,zG,zH,zI,zJ,zK,zL,zM,zN,zO,zP]at hcd);try cbv)|fail)
 all_goals first|((try simp only [qV]at *);(try simp only [zQ,zA,zB,zC,zD,zE,zF,zG,zH,zI,zJ,zK,zL,zM,zN,zO,zP,zR,zS]at *);first|(refine qN ?_;omega)|(simp only [uaq];omega))|(refine⟨[⟨.tmp 2,3,1⟩],(4:Nat),?_⟩;cbv;subst hR;subst hB;refine⟨?_,?_⟩;(first|exact Fit.refl _|((repeat' (first|exact qA|exact qB|refine qC ?_ rfl ?_|refine qD ?_ ?_|exact qE (by rfl)|exact qF (by rfl)|exact Fit.refl _|exact qG _|(refine qE ?_;(try simp only [qV]at *);simp only [zQ,zA,zB,zC,zD,zE,zF,zG,zH,zI,zJ,zK,zL,zM,zN,zO,zP,zR,zS]at *;omega)));done));(repeat' (first|exact qH|refine qI ?_ ?_));(all_goals first|exact qK _|(refine qJ ?_;(repeat' (first|exact qA|exact qB|refine qC ?_ rfl ?_|refine qD ?_ ?_|exact qE (by rfl)|exact qF (by rfl)|exact Fit.refl _|exact qG _|(refine qE ?_;(try simp only [qV]at *);simp only [zQ,zA,zB,zC,zD,zE,zF,zG,zH,zI,zJ,zK,zL,zM,zN,zO,zP,zR,zS]at *;omega)));done)|(refine ua9 ?_ ?_;(first|rfl|((try simp only [qV]at *);(try simp only [zQ,zA,zB,zC,zD,zE,zF,zG,zH,zI,zJ,zK,zL,zM,zN,zO,zP,zR,zS]at *);omega));intro ix h0 h1;first|exact Fit.refl _|(exfalso;(try simp only [qV]at *);(try simp only [zQ,zA,zB,zC,zD,zE,zF,zG,zH,zI,zJ,zK,zL,zM,zN,zO,zP,zR,zS]at *);omega))))|(refine⟨[],(5:Nat),?_⟩;cbv;subst hR;subst hB;refine⟨?_,?_⟩;(first|exact Fit.refl _|((repeat' (first|exact qA|exact qB|refine qC ?_ rfl ?_|refine qD ?_ ?_|exact qE (by rfl)|exact qF (by rfl)|exact Fit.refl _|exact qG _|(refine qE ?_;(try simp only [qV]at *);simp only [zQ,zA,zB,zC,zD,zE,zF,zG,zH,zI,zJ,zK,zL,zM,zN,zO,zP,zR,zS]at *;omega)));done));(repeat' (first|exact qH|refine qI ?_ ?_));(all_goals first|exact qK _|(refine qJ ?_;(repeat' (first|exact qA|exact qB|refine qC ?_ rfl ?_|refine qD ?_ ?_|exact qE (by rfl)|exact qF (by rfl)|exact Fit.refl _|exact qG _|(refine qE ?_;(try simp only [qV]at *);simp only [zQ,zA,zB,zC,zD,zE,zF,zG,zH,zI,zJ,zK,zL,zM,zN,zO,zP,zR,zS]at *;omega)));done)|(refine ua9 ?_ ?_;(first|rfl|((try simp only [qV]at *);(try simp only [zQ,zA,zB,zC,zD,zE,zF,zG,zH,zI,zJ,zK,zL,zM,zN,zO,zP,zR,zS]at *);omega));intro ix h0 h1;first|exact Fit.refl _|(exfalso;(try simp only [qV]at *);(try simp only [zQ,zA,zB,zC,zD,zE,zF,zG,zH,zI,zJ,zK,zL,zM,zN,zO,zP,zR,zS]at *);omega))))|skip
theorem ukX (l:List FaT)(hl:l.length≤1000):ua0 Tryz.prog 81 [(.sl 6 (.sym fun _=>zi (l).length) (fun ix=>[(iv fun _=>((l).getD ix.den.toNat f0T).p),(iv fun _=>((l).getD ix.den.toNat f0T).s),(iv fun _=>((l).getD ix.den.toNat f0T).wl),(iv fun _=>((l).getD ix.den.toNat f0T).wh),(iv fun _=>((l).getD ix.den.toNat f0T).ml),(iv fun _=>((l).getD ix.den.toNat f0T).mh)]))] [] (fun r _=>r=(.sl 6 (.sym fun _=>zi (l).length) (fun ix=>[(iv fun _=>((l).getD ix.den.toNat f0T).p),(iv fun _=>((l).getD ix.den.toNat f0T).s),(iv fun _=>((l).getD ix.den.toNat f0T).wl),(iv fun _=>((l).getD ix.den.toNat f0T).wh),(iv fun _=>((l).getD ix.den.toNat f0T).ml),(iv fun _=>((l).getD ix.den.toNat f0T).mh)]))):=by
 refine ua0.is fun R hR=>qW (sc:=uAv) uan mix Tryz.func81 rfl Tryz.call81 (by kernel_rfl) (by kernel_rfl) ?_
 generalize Tryz.prog=P
 cbv
 repeat' (first|with_reducible refine ua4 ?_ ?_|with_reducible refine And.intro ?_ ?_|(with_reducible intro hcd;(try simp only [zA,zB,zC,zD,zE,zF,zG,zH,zI,zJ,zK,zL,zM,zN,zO,zP]at hcd);try cbv)|fail)
 all_goals first|((try simp only [qV]at *);(try simp only [zQ,zA,zB,zC,zD,zE,zF,zG,zH,zI,zJ,zK,zL,zM,zN,zO,zP,zR,zS]at *);first|(refine qN ?_;omega)|(simp only [uaq];omega))|(subst hR;exact qO (by((try simp only [qV]at *);(try simp only [zQ,zA,zB,zC,zD,zE,zF,zG,zH,zI,zJ,zK,zL,zM,zN,zO,zP,zR,zS]at *);omega));done)|(subst hR;exact Fit.refl _;done)|skip
end Go.Proofs.YtkdggbfknlcdaaaGreat
namespace Go.Proofs.YtkdggbfknlcdaaaGreat
open Go.Eng.Dif
def noF (d:Dsp):Dsp:=⟨d.tw,d.tm,d.tv,d.sn,d.pn,d.ls,[]⟩
def uco (d:Dsp)(fs:List FaT):Dsp:=⟨d.tw,d.tm,d.tv,d.sn,d.pn,d.ls,fs⟩
theorem umn {d:Dsp}(h:DOk d) {fs:List FaT}(hl:fs.length≤6)(hf:∀f∈fs,uc8 d f):DOk (uco d fs):=
 ⟨h.t,h.s1,h.s3,h.p1,h.p4,h.l4,hl,h.l,FOk.of (d:=d) hf⟩
theorem uqm {d:Dsp}(h:DOk d):DOk (noF d):=umn h (fs:=[]) (by simp) (fun f hf=>by cases hf)
def udG (d:Dsp):Bool:=ufd (noF d) [] []
def uah (d:Dsp):Int:=if ua7 d=0 then(if udG d=true then 0 else 9)else ua7 d
theorem uja {d:Dsp}(h:¬ua7 d=0):uah d=ua7 d:=by unfold uah;rw [if_neg h]
theorem um6 {d:Dsp}(h:ua7 d=0)(hc:udG d=false):uah d=9:=by unfold uah;rw [if_pos h,if_neg (by rw [hc];simp)]
theorem uf8 {d:Dsp}(h:ua7 d=0)(hc:udG d=true):uah d=0:=by unfold uah;rw [if_pos h,if_pos hc]
theorem uas {d:Dsp}(h:uah d=0):ua7 d=0∧udG d=true:=by
 by_cases hF:ua7 d=0
 ·refine⟨hF,?_⟩
  cases hC:udG d with
  |true=>rfl
  |false=>rw [um6 hF hC]at h;omega
 ·rw [uja hF]at h;exact absurd h hF
theorem ug2 (d:Dsp):udG d=udg (SN d) (LO d) []:=rfl
end Go.Proofs.YtkdggbfknlcdaaaGreat
namespace Go.Proofs.YtkdggbfknlcdaaaGreat
open Go Go.Eng Go.Proofs Go.Eng.Dif Go.Eng.Few
set_option maxRecDepth 10000
theorem uuP (d:Dsp):ubc Tryz.prog 62 [(ubh d)] [] (fun r bs=>r = .own 0 0∧bs=[.cells [(iS d.tw),(iS d.tm),(.sl 1 (.sym fun _=>zi (d.tv).length) (fun ix=>[(.sl 1 (.sym fun _=>zi ((d.tv).getD ix.den.toNat []).length) (fun jx=>[(iv fun _=>((d.tv).getD ix.den.toNat []).getD jx.den.toNat 0)]))])),(iv fun _=>d.sn),(iv fun _=>d.pn),(.sl 4 (.sym fun _=>zi (d.ls).length) (fun ix=>[(iv fun _=>((d.ls).getD ix.den.toNat l0T).a),(iv fun _=>((d.ls).getD ix.den.toNat l0T).b),(iv fun _=>((d.ls).getD ix.den.toNat l0T).lo),(iv fun _=>((d.ls).getD ix.den.toNat l0T).hi)])),(.sl 6 (.sym fun _=>zi (d.fs).length) (fun ix=>[(iv fun _=>((d.fs).getD ix.den.toNat f0T).p),(iv fun _=>((d.fs).getD ix.den.toNat f0T).s),(iv fun _=>((d.fs).getD ix.den.toNat f0T).wl),(iv fun _=>((d.fs).getD ix.den.toNat f0T).wh),(iv fun _=>((d.fs).getD ix.den.toNat f0T).ml),(iv fun _=>((d.fs).getD ix.den.toNat f0T).mh)])),(.memo 106 59 false 6 (fun ks=>.agg [(iv fun _=>kLo d ks),(iv fun _=>kHi d ks)]))] 92]):=by
 have hmt:=uea
 refine ubc.is rfl rfl fun R B hR hB=>uf2 (sc:=uzY) uan mix Tryz.func62 rfl Tryz.call62 (by kernel_rfl) (by kernel_rfl) ?_
 generalize Tryz.prog=P at hmt⊢
 cbv
 repeat' (first
  | (refine⟨106,59,false,6,?_⟩
     cbv
     refine ua4 ⟨hmt,fun h=>by cases h⟩ ?_
     refine Or.inr ⟨(fun ks=>.agg [(iv fun _=>kLo d ks),(iv fun _=>kHi d ks)]),?_⟩
     cbv)
  |fail)
 all_goals first|(refine⟨[],(5:Nat),?_⟩;cbv;subst hR;subst hB;refine⟨?_,?_⟩;(first|exact Fit.refl _|((repeat' (first|exact qA|exact qB|refine qC ?_ rfl ?_|refine qD ?_ ?_|exact qE (by rfl)|exact qF (by rfl)|exact Fit.refl _|exact qG _|(refine qE ?_;(try simp only [qV]at *);simp only [zQ,zA,zB,zC,zD,zE,zF,zG,zH,zI,zJ,zK,zL,zM,zN,zO,zP,zR,zS]at *;omega)));done));(repeat' (first|exact qH|refine qI ?_ ?_));(all_goals first|exact qK _|(refine qJ ?_;(repeat' (first|exact qA|exact qB|refine qC ?_ rfl ?_|refine qD ?_ ?_|exact qE (by rfl)|exact qF (by rfl)|exact Fit.refl _|exact qG _|(refine qE ?_;(try simp only [qV]at *);simp only [zQ,zA,zB,zC,zD,zE,zF,zG,zH,zI,zJ,zK,zL,zM,zN,zO,zP,zR,zS]at *;omega)));done)|(refine ua9 ?_ ?_;(first|rfl|((try simp only [qV]at *);(try simp only [zQ,zA,zB,zC,zD,zE,zF,zG,zH,zI,zJ,zK,zL,zM,zN,zO,zP,zR,zS]at *);omega));intro ix h0 h1;first|exact Fit.refl _|(exfalso;(try simp only [qV]at *);(try simp only [zQ,zA,zB,zC,zD,zE,zF,zG,zH,zI,zJ,zK,zL,zM,zN,zO,zP,zR,zS]at *);omega))))|skip
theorem ulI (d:Dsp)(h:uah d=0):ua0 Tryz.prog 41 [(ubh d)] [] (fun r _=>r=(.tup [(wpS d),(iv fun _=>0)])):=by
 have c16:=ucM d
 have c44:=udU d
 have c44n:=udU (noF d)
 have c92:=ukX d.fs
 have hmt:=uea
 have hF:=(uas h).1
 have hC:=(uas h).2
 have f6:=(ua3.1 hF).f6
 have c54:=ucF (noF d) [] (uqm (ua3.1 hF)) (by simp)
 have hLn:ufd (noF d) (noF d).fs []=true:=hC
 rw [hLn]at c54
 refine ua0.is fun R hR=>qW (sc:=uyO) uan mix Tryz.func41 rfl Tryz.call41 (by kernel_rfl) (by kernel_rfl) ?_
 generalize Tryz.prog=P at c16 c44 c44n c92 hmt c54⊢
 cbv
 repeat' (first|with_reducible refine And.intro ?_ ?_|(with_reducible intro hcd;(try simp only [zA,zB,zC,zD,zE,zF,zG,zH,zI,zJ,zK,zL,zM,zN,zO,zP]at hcd);try cbv)|(refine qP ?_ (c16) ?hfit;(case hfit=>((repeat' (first|exact qB|refine qD ?_ ?_|exact qE (by rfl)|exact qF (by rfl)|exact Fit.refl _|exact qA|refine qC ?_ rfl ?_));done));try cbv)|(refine qP ?_ (c44) ?hfit;(case hfit=>((repeat' (first|exact qB|refine qD ?_ ?_|exact qE (by rfl)|exact qF (by rfl)|exact Fit.refl _|exact qA|refine qC ?_ rfl ?_));done));try cbv)|(refine qP ?_ (c92 (by((try simp only [qV]at *);(try simp only [zQ,zA,zB,zC,zD,zE,zF,zG,zH,zI,zJ,zK,zL,zM,zN,zO,zP,zR,zS]at *);omega))) ?hfit;(case hfit=>((repeat' (first|exact qB|refine qD ?_ ?_|exact qE (by rfl)|exact qF (by rfl)|exact Fit.refl _|exact qA|refine qC ?_ rfl ?_));done));try cbv)|(refine qP ?_ (c44n) ?hfit;(case hfit=>((refine qD ((qC (Fit.refl _) rfl (qC (Fit.refl _) rfl (qC (Fit.refl _) rfl (qC (Fit.refl _) rfl (qC (Fit.refl _) rfl (qC (Fit.refl _) rfl (qC (qO rfl) rfl qA)))))))) qB);done));try cbv)|(refine qP ?_ (c54) ?hfit;(case hfit=>((refine qD (Fit.refl _) (qD (qO rfl) qB));done));try cbv)|fail)
 all_goals first|trivial|(subst hR;(repeat' (first|exact qA|exact qB|refine qC ?_ rfl ?_|refine qD ?_ ?_|exact qE (by rfl)|exact qF (by rfl)|exact Fit.refl _|exact qG _|(refine qE ?_;(try simp only [qV]at *);simp only [zQ,zA,zB,zC,zD,zE,zF,zG,zH,zI,zJ,zK,zL,zM,zN,zO,zP,zR,zS]at *;omega)));done)|skip
theorem uuX (d:Dsp)(h:uah d=0):ubc Tryz.prog 41 [(ubh d)] [] (fun r bs=>r=(.tup [.own 0 0,(iv fun _=>0)])∧bs=[.cells [(iS d.tw),(iS d.tm),(.sl 1 (.sym fun _=>zi (d.tv).length) (fun ix=>[(.sl 1 (.sym fun _=>zi ((d.tv).getD ix.den.toNat []).length) (fun jx=>[(iv fun _=>((d.tv).getD ix.den.toNat []).getD jx.den.toNat 0)]))])),(iv fun _=>d.sn),(iv fun _=>d.pn),(.sl 4 (.sym fun _=>zi (d.ls).length) (fun ix=>[(iv fun _=>((d.ls).getD ix.den.toNat l0T).a),(iv fun _=>((d.ls).getD ix.den.toNat l0T).b),(iv fun _=>((d.ls).getD ix.den.toNat l0T).lo),(iv fun _=>((d.ls).getD ix.den.toNat l0T).hi)])),(.sl 6 (.sym fun _=>zi (d.fs).length) (fun ix=>[(iv fun _=>((d.fs).getD ix.den.toNat f0T).p),(iv fun _=>((d.fs).getD ix.den.toNat f0T).s),(iv fun _=>((d.fs).getD ix.den.toNat f0T).wl),(iv fun _=>((d.fs).getD ix.den.toNat f0T).wh),(iv fun _=>((d.fs).getD ix.den.toNat f0T).ml),(iv fun _=>((d.fs).getD ix.den.toNat f0T).mh)])),(.memo 106 59 false 6 (fun ks=>.agg [(iv fun _=>kLo d ks),(iv fun _=>kHi d ks)]))] 92]):=by
 have c16:=ucM d
 have c44:=udU d
 have c44n:=udU (noF d)
 have c92:=ukX d.fs
 have hmt:=uea
 have hF:=(uas h).1
 have hC:=(uas h).2
 have f6:=(ua3.1 hF).f6
 have c54:=ucF (noF d) [] (uqm (ua3.1 hF)) (by simp)
 have hLn:ufd (noF d) (noF d).fs []=true:=hC
 rw [hLn]at c54
 have c44o:=uuP d
 refine ubc.is rfl rfl fun R B hR hB=>uf2 (sc:=uyO) uan mix Tryz.func41 rfl Tryz.call41 (by kernel_rfl) (by kernel_rfl) ?_
 generalize Tryz.prog=P at c16 c44 c44n c92 hmt c54 c44o⊢
 cbv
 repeat' (first
  |with_reducible refine And.intro ?_ ?_
  |(with_reducible intro hcd;(try simp only [zA,zB,zC,zD,zE,zF,zG,zH,zI,zJ,zK,zL,zM,zN,zO,zP]at hcd);try cbv)
  |(refine qP ?_ (c16) ?hfit;(case hfit=>((repeat' (first|exact qB|refine qD ?_ ?_|exact qE (by rfl)|exact qF (by rfl)|exact Fit.refl _|exact qA|refine qC ?_ rfl ?_));done));try cbv)
  |(refine qP ?_ (c92 (by((try simp only [qV]at *);(try simp only [zQ,zA,zB,zC,zD,zE,zF,zG,zH,zI,zJ,zK,zL,zM,zN,zO,zP,zR,zS]at *);omega))) ?hfit;(case hfit=>((repeat' (first|exact qB|refine qD ?_ ?_|exact qE (by rfl)|exact qF (by rfl)|exact Fit.refl _|exact qA|refine qC ?_ rfl ?_));done));try cbv)
  |(refine qP ?_ (c44n) ?hfit;(case hfit=>((refine qD ((qC (Fit.refl _) rfl (qC (Fit.refl _) rfl (qC (Fit.refl _) rfl (qC (Fit.refl _) rfl (qC (Fit.refl _) rfl (qC (Fit.refl _) rfl (qC (qO rfl) rfl qA)))))))) qB);done));try cbv)
  |(refine qP ?_ (c54) ?hfit;(case hfit=>((refine qD (Fit.refl _) (qD (qO rfl) qB));done));try cbv)
  | (refine Or.inr ⟨true,?_⟩
     cbv
     refine qU ?_ (c44o) (by cbv;(repeat' (first|exact qB|refine qD ?_ ?_|exact qE (by rfl)|exact qF (by rfl)|exact Fit.refl _|exact qA|refine qC ?_ rfl ?_))) (by cbv;(repeat' (first|exact qH|refine qI ?_ ?_|exact qK _|refine qJ ?_|exact qA|exact qE (by rfl)|exact qF (by rfl)|exact Fit.refl _|exact qG _|refine qC ?_ rfl ?_)))
     try cbv)
  |fail)
 all_goals first|trivial|(refine⟨[],(30:Nat),?_⟩;cbv;subst hR;subst hB;refine⟨qD (Fit.refl _) (qD (qE rfl) qB),?_⟩;(repeat' (first|exact qH|refine qI ?_ ?_));(all_goals first|exact qK _|(refine qJ ?_;(repeat' (first|exact qA|exact qB|refine qC ?_ rfl ?_|refine qD ?_ ?_|exact qE (by rfl)|exact qF (by rfl)|exact Fit.refl _|exact qG _|(refine qE ?_;(try simp only [qV]at *);simp only [zQ,zA,zB,zC,zD,zE,zF,zG,zH,zI,zJ,zK,zL,zM,zN,zO,zP,zR,zS]at *;omega)));done)))|skip
theorem uhQ (d:Dsp)(h:¬uah d=0):ua0 Tryz.prog 41 [(ubh d)] [] (fun r _=>r=(.tup [.val (Value.pointer none),(iv fun _=>uah d)])):=by
 have c16:=ucM d
 have c44:=udU d
 have c44n:=udU (noF d)
 have c92:=ukX d.fs
 have hmt:=uea
 have c54:=fun h:ua7 d=0=>(show ua0 Tryz.prog 42 [(wpS (noF d)),(iS (([]:List Int)))] [] (fun r _=>r=(.tup [(.agg [(.arr 16 (fun ix=>(iv fun _=>(clo (ui5 (noF d) (noF d).fs [])) ix.den.toNat)))]),(bv fun _=>udG d)]))from ucF (noF d) [] (uqm (ua3.1 h)) (by simp))
 have hf6:=fun h:ua7 d=0=>(ua3.1 h).f6
 refine ua0.is fun R hR=>qW (sc:=uyO) uan mix Tryz.func41 rfl Tryz.call41 (by kernel_rfl) (by kernel_rfl) ?_
 generalize Tryz.prog=P at c16 c44 c44n c92 hmt c54⊢
 cbv
 repeat' (first
  |with_reducible refine And.intro ?_ ?_
  |(with_reducible intro hcd;(try simp only [zA,zB,zC,zD,zE,zF,zG,zH,zI,zJ,zK,zL,zM,zN,zO,zP]at hcd);try cbv)
  |(refine qP ?_ (c16) ?hfit;(case hfit=>((repeat' (first|exact qB|refine qD ?_ ?_|exact qE (by rfl)|exact qF (by rfl)|exact Fit.refl _|exact qA|refine qC ?_ rfl ?_));done));try cbv)
  |(refine qP ?_ (c44) ?hfit;(case hfit=>((repeat' (first|exact qB|refine qD ?_ ?_|exact qE (by rfl)|exact qF (by rfl)|exact Fit.refl _|exact qA|refine qC ?_ rfl ?_));done));try cbv)
  | ((have hF9:ua7 d=0:=(by((try simp only [qV]at *);(try simp only [zQ,zA,zB,zC,zD,zE,zF,zG,zH,zI,zJ,zK,zL,zM,zN,zO,zP,zR,zS]at *);omega)))
     (have f6:=hf6 hF9)
     refine qP ?_ (c92 (by((try simp only [qV]at *);(try simp only [zQ,zA,zB,zC,zD,zE,zF,zG,zH,zI,zJ,zK,zL,zM,zN,zO,zP,zR,zS]at *);omega))) ?hfit
     case hfit=>((repeat' (first|exact qB|refine qD ?_ ?_|exact qE (by rfl)|exact qF (by rfl)|exact Fit.refl _|exact qA|refine qC ?_ rfl ?_));done)
     try cbv)
  |(refine qP ?_ (c44n) ?hfit;(case hfit=>((refine qD ((qC (Fit.refl _) rfl (qC (Fit.refl _) rfl (qC (Fit.refl _) rfl (qC (Fit.refl _) rfl (qC (Fit.refl _) rfl (qC (Fit.refl _) rfl (qC (qO rfl) rfl qA)))))))) qB);done));try cbv)
  |(refine qP ?_ (c54 (by((try simp only [qV]at *);(try simp only [zQ,zA,zB,zC,zD,zE,zF,zG,zH,zI,zJ,zK,zL,zM,zN,zO,zP,zR,zS]at *);omega))) ?hfit;(case hfit=>((refine qD (Fit.refl _) (qD (qO rfl) qB));done));try cbv)
  |fail)
 all_goals first|(subst hR;(refine qD (Fit.refl _) (qD (qE ?_) qB);(try simp only [qV]at *);(try simp only [zQ,zA,zB,zC,zD,zE,zF,zG,zH,zI,zJ,zK,zL,zM,zN,zO,zP,zR,zS]at *);first|exact(uja (by first|assumption|omega)).symm|exact(um6 (by first|assumption|omega) (by assumption)).symm);done)|(exfalso;exact h (uf8 (by((try simp only [qV]at *);(try simp only [zQ,zA,zB,zC,zD,zE,zF,zG,zH,zI,zJ,zK,zL,zM,zN,zO,zP,zR,zS]at *);first|assumption|omega)) (by assumption)))|skip
end Go.Proofs.YtkdggbfknlcdaaaGreat
namespace Go.Proofs.YtkdggbfknlcdaaaGreat
open Go.Eng.Dif
theorem ui3 {d:Dsp}:ufd d d.fs []=udg (SN d) (LO d) (FO d d.fs):=by
 unfold ufd ui5 udg
 rw [um1]
theorem uvg (d:Dsp)(n:Nat):FO d (d.fs.take n)=(FO d d.fs).take n:=List.map_take ..
theorem urb (d:Dsp)(n:Nat):ufd (uco d (d.fs.take n)) (uco d (d.fs.take n)).fs []=udg (SN d) (LO d) ((FO d d.fs).take n):=by
 rw [ui3,←uvg]
 rfl
theorem uuW {d:Dsp}(h:DOk d)(n:Nat):DOk (uco d (d.fs.take n)):=
 umn h (by have:=h.f6;rw [List.length_take];omega) fun f hf=>FOk.mem h.f (List.mem_of_mem_take hf)
def upZ (d:Dsp):Option Nat:=unN (SN d) (LO d) (FO d d.fs) d.fs.length 0
def ur1 (d:Dsp):Int:=if uah d=0 then(match upZ d with|some _=>0|none=>7)else uah d
def uqX (d:Dsp):Int:=if uah d=0 then(match upZ d with|some r=>(r:Int)|none=>0)else 0
theorem urQ {d:Dsp}(h:¬uah d=0):ur1 d=uah d∧uqX d=0:=by unfold ur1 uqX;rw [if_neg h,if_neg h];exact⟨rfl,rfl⟩
theorem uj2 {d:Dsp}(h:uah d=0)(h':upZ d=none):ur1 d=7∧uqX d=0:=by unfold ur1 uqX;rw [if_pos h,if_pos h,h'];exact⟨rfl,rfl⟩
theorem ujI {d:Dsp} {r:Nat}(h:uah d=0)(h':upZ d=some r):ur1 d=0∧uqX d=(r:Int):=by unfold ur1 uqX;rw [if_pos h,if_pos h,h'];exact⟨rfl,rfl⟩
def uvW (d:Dsp)(k i:Nat):Option Nat:=unN (SN d) (LO d) (FO d d.fs) k i
def okI (d:Dsp)(i:Nat):Bool:=udg (SN d) (LO d) ((FO d d.fs).take (i+1))
theorem uoC {d:Dsp} {k i:Nat}(hk:0<k)(h:okI d i=false):uvW d k i=some i:=by
 cases k with
 |zero=>omega
 |succ k=>unfold uvW unN;rw [show udg (SN d) (LO d) ((FO d d.fs).take (i+1))=false from h];rfl
theorem uvh {d:Dsp} {k i:Nat}(hk:0<k)(h:okI d i=true):uvW d k i=uvW d (k-1) (i+1):=by
 cases k with
 |zero=>omega
 |succ k=>unfold uvW;rw [unN,show udg (SN d) (LO d) ((FO d d.fs).take (i+1))=true from h];rfl
end Go.Proofs.YtkdggbfknlcdaaaGreat
namespace Go.Proofs.YtkdggbfknlcdaaaGreat
open Go Go.Eng Go.Proofs Go.Eng.Dif Go.Eng.Few
set_option maxRecDepth 10000
theorem ur9 (fs:List FaT) {n i:Nat}(h:i<n):(fs.take n).getD i f0T=fs.getD i f0T:=by simp [List.getD_eq_getElem?_getD,List.getElem?_take,h]
theorem ulS (fs:List FaT) {i:Nat}(h:i<fs.length):(fs.take (i+1)).length=i+1:=by rw [List.length_take];omega
theorem ujV (fs:List FaT) {n i j:Nat}(hj:j=i)(h:i<n):Fit (.agg [(iv fun _=>(fs.getD j f0T).p),(iv fun _=>(fs.getD j f0T).s),(iv fun _=>(fs.getD j f0T).wl),(iv fun _=>(fs.getD j f0T).wh),(iv fun _=>(fs.getD j f0T).ml),(iv fun _=>(fs.getD j f0T).mh)]) (.agg [(iv fun _=>((fs.take n).getD i f0T).p),(iv fun _=>((fs.take n).getD i f0T).s),(iv fun _=>((fs.take n).getD i f0T).wl),(iv fun _=>((fs.take n).getD i f0T).wh),(iv fun _=>((fs.take n).getD i f0T).ml),(iv fun _=>((fs.take n).getD i f0T).mh)]):=by subst hj;rw [ur9 fs h];exact Fit.refl _
theorem ur3 (d:Dsp)(h:uah d=0):ua0 Tryz.prog 11 [(ubh d)] [] (fun r _=>r=(.tup [(iv fun _=>uqX d),(iv fun _=>ur1 d)])):=by
 have hf:=h
 have hF:=(uas h).1
 have f6:=(ua3.1 hF).f6
 have c54:=fun i:Nat=>(show ua0 Tryz.prog 42 [(.pp 0 [(.sl 1 (.sym fun _=>zi ((uco d (d.fs.take (i+1))).tw).length) (fun ix=>[(iv fun _=>((uco d (d.fs.take (i+1))).tw).getD ix.den.toNat 0)])),(.sl 1 (.sym fun _=>zi ((uco d (d.fs.take (i+1))).tm).length) (fun ix=>[(iv fun _=>((uco d (d.fs.take (i+1))).tm).getD ix.den.toNat 0)])),(.sl 1 (.sym fun _=>zi ((uco d (d.fs.take (i+1))).tv).length) (fun ix=>[(.sl 1 (.sym fun _=>zi (((uco d (d.fs.take (i+1))).tv).getD ix.den.toNat []).length) (fun jx=>[(iv fun _=>(((uco d (d.fs.take (i+1))).tv).getD ix.den.toNat []).getD jx.den.toNat 0)]))])),(iv fun _=>(uco d (d.fs.take (i+1))).sn),(iv fun _=>(uco d (d.fs.take (i+1))).pn),(.sl 4 (.sym fun _=>zi ((uco d (d.fs.take (i+1))).ls).length) (fun ix=>[(iv fun _=>(((uco d (d.fs.take (i+1))).ls).getD ix.den.toNat l0T).a),(iv fun _=>(((uco d (d.fs.take (i+1))).ls).getD ix.den.toNat l0T).b),(iv fun _=>(((uco d (d.fs.take (i+1))).ls).getD ix.den.toNat l0T).lo),(iv fun _=>(((uco d (d.fs.take (i+1))).ls).getD ix.den.toNat l0T).hi)])),(.sl 6 (.sym fun _=>zi ((d.fs.take (i+1))).length) (fun ix=>[(iv fun _=>(((d.fs.take (i+1))).getD ix.den.toNat f0T).p),(iv fun _=>(((d.fs.take (i+1))).getD ix.den.toNat f0T).s),(iv fun _=>(((d.fs.take (i+1))).getD ix.den.toNat f0T).wl),(iv fun _=>(((d.fs.take (i+1))).getD ix.den.toNat f0T).wh),(iv fun _=>(((d.fs.take (i+1))).getD ix.den.toNat f0T).ml),(iv fun _=>(((d.fs.take (i+1))).getD ix.den.toNat f0T).mh)])),(.memo 106 59 false 6 (fun ks=>.agg [(iv fun _=>kLo (uco d (d.fs.take (i+1))) ks),(iv fun _=>kHi (uco d (d.fs.take (i+1))) ks)]))]),(iS (([]:List Int)))] [] (fun r _=>r=(.tup [(.agg [(.arr 16 (fun ix=>(iv fun _=>(clo (ui5 (uco d (d.fs.take (i+1))) (uco d (d.fs.take (i+1))).fs [])) ix.den.toNat)))]),(bv fun _=>okI d i)]))from(show ufd (uco d (d.fs.take (i+1))) (uco d (d.fs.take (i+1))).fs []=okI d i from urb d (i+1))▸ucF (uco d (d.fs.take (i+1))) [] (uuW (ua3.1 hF) (i+1)) (by simp))
 have c59:=uuX d h
 refine ua0.is fun R hR=>qW (sc:=uzX) uan mix Tryz.func11 rfl Tryz.call11 (by kernel_rfl) (by kernel_rfl) ?_
 generalize Tryz.prog=P at c54 c59⊢
 cbv
 repeat' (first
  |with_reducible refine And.intro ?_ ?_
  |(with_reducible intro hcd;(try simp only [zA,zB,zC,zD,zE,zF,zG,zH,zI,zJ,zK,zL,zM,zN,zO,zP]at hcd);try cbv)
  | (refine Or.inr ⟨true,?_⟩
     cbv
     refine qU ?_ (c59) (by cbv;(repeat' (first|exact qB|refine qD ?_ ?_|exact qE (by rfl)|exact qF (by rfl)|exact Fit.refl _|exact qA|refine qC ?_ rfl ?_))) (by cbv;(repeat' (first|exact qH|refine qI ?_ ?_|exact qK _|refine qJ ?_|exact qA|exact qE (by rfl)|exact qF (by rfl)|exact Fit.refl _|exact qG _|refine qC ?_ rfl ?_)))
     try cbv)
  |fail)
 all_goals first|trivial|skip
 refine⟨none,[],{i:Nat // i≤d.fs.length∧upZ d=uvW d (d.fs.length-i) i},fun x=>⟨[(1,.own 0 0),(4,.own 4 0),(19,(iv fun _=>zi d.fs.length)),(20,(iv fun _=>zi x.1))],[(0,.cells [(iS d.tw),(iS d.tm),(.sl 1 (.sym fun _=>zi (d.tv).length) (fun ix=>[(.sl 1 (.sym fun _=>zi ((d.tv).getD ix.den.toNat []).length) (fun jx=>[(iv fun _=>((d.tv).getD ix.den.toNat []).getD jx.den.toNat 0)]))])),(iv fun _=>d.sn),(iv fun _=>d.pn),(.sl 4 (.sym fun _=>zi (d.ls).length) (fun ix=>[(iv fun _=>((d.ls).getD ix.den.toNat l0T).a),(iv fun _=>((d.ls).getD ix.den.toNat l0T).b),(iv fun _=>((d.ls).getD ix.den.toNat l0T).lo),(iv fun _=>((d.ls).getD ix.den.toNat l0T).hi)])),(.sl 6 (.sym fun _=>zi (d.fs).length) (fun ix=>[(iv fun _=>((d.fs).getD ix.den.toNat f0T).p),(iv fun _=>((d.fs).getD ix.den.toNat f0T).s),(iv fun _=>((d.fs).getD ix.den.toNat f0T).wl),(iv fun _=>((d.fs).getD ix.den.toNat f0T).wh),(iv fun _=>((d.fs).getD ix.den.toNat f0T).ml),(iv fun _=>((d.fs).getD ix.den.toNat f0T).mh)]))] 39),(4,.cells [(iS d.tw),(iS d.tm),(.sl 1 (.sym fun _=>zi (d.tv).length) (fun ix=>[(.sl 1 (.sym fun _=>zi ((d.tv).getD ix.den.toNat []).length) (fun jx=>[(iv fun _=>((d.tv).getD ix.den.toNat []).getD jx.den.toNat 0)]))])),(iv fun _=>d.sn),(iv fun _=>d.pn),(.sl 4 (.sym fun _=>zi (d.ls).length) (fun ix=>[(iv fun _=>((d.ls).getD ix.den.toNat l0T).a),(iv fun _=>((d.ls).getD ix.den.toNat l0T).b),(iv fun _=>((d.ls).getD ix.den.toNat l0T).lo),(iv fun _=>((d.ls).getD ix.den.toNat l0T).hi)])),.any,(.memo 106 59 false 6 (fun ks=>.agg [(iv fun _=>kLo d ks),(iv fun _=>kHi d ks)]))] 92)],100⟩,fun x=>d.fs.length-x.1,?_,?_⟩
 ·refine⟨⟨0,by omega,rfl⟩,?_⟩
  cbv
  repeat' (first|with_reducible refine ua4 ?_ ?_|with_reducible refine And.intro ?_ ?_)
  all_goals first|trivial|exact qM (qE (by rfl))|exact qM (Fit.refl _)|exact qL (qK _)|(refine qL (qJ ?_);(repeat' (first|exact qA|exact qB|refine qC ?_ rfl ?_|refine qD ?_ ?_|exact qE (by rfl)|exact qF (by rfl)|exact Fit.refl _|exact qG _|(refine qE ?_;(try simp only [qV]at *);simp only [zQ,zA,zB,zC,zD,zE,zF,zG,zH,zI,zJ,zK,zL,zM,zN,zO,zP,zR,zS]at *;omega)));done)|skip
 ·rintro ⟨i,hi,h3⟩
  cbv
  repeat' (first
   |with_reducible refine ua4 ?_ ?_
   |with_reducible refine And.intro ?_ ?_
   |(with_reducible intro hcd;(try simp only [zA,zB,zC,zD,zE,zF,zG,zH,zI,zJ,zK,zL,zM,zN,zO,zP]at hcd);try cbv)
   | ((first|(refine upS ?_ (c54 i) ⟨⟨fun _=>rfl,trivial⟩,rfl,trivial⟩ ?hfit;case hfit=>(cbv;(refine qD (usW (qC (Fit.refl _) rfl (qC (Fit.refl _) rfl (qC (Fit.refl _) rfl (qC (Fit.refl _) rfl (qC (Fit.refl _) rfl (qC (Fit.refl _) rfl (qC ?_ rfl (qC (Fit.refl _) rfl qA))))))))) (qD (qO rfl) qB);refine ua2 ?_ (fun ix h0 h1=>ujV _ ?_ ?_)<;>((try simp only [qV]at *);(try simp only [zQ,zA,zB,zC,zD,zE,zF,zG,zH,zI,zJ,zK,zL,zM,zN,zO,zP,zR,zS]at *);first|omega|(rw [ulS _ (by omega)];(try simp only [uaa]);omega)));done))|(refine⟨none,?_⟩;refine upS ?_ (c54 i) ⟨⟨fun _=>rfl,trivial⟩,rfl,trivial⟩ ?hfit;case hfit=>(cbv;(refine qD (usW (qC (Fit.refl _) rfl (qC (Fit.refl _) rfl (qC (Fit.refl _) rfl (qC (Fit.refl _) rfl (qC (Fit.refl _) rfl (qC (Fit.refl _) rfl (qC ?_ rfl (qC (Fit.refl _) rfl qA))))))))) (qD (qO rfl) qB);refine ua2 ?_ (fun ix h0 h1=>ujV _ ?_ ?_)<;>((try simp only [qV]at *);(try simp only [zQ,zA,zB,zC,zD,zE,zF,zG,zH,zI,zJ,zK,zL,zM,zN,zO,zP,zR,zS]at *);first|omega|(rw [ulS _ (by omega)];(try simp only [uaa]);omega)));done)))
      try cbv)
   |fail)
  all_goals first|((try simp only [qV]at *);(try simp only [zQ,zA,zB,zC,zD,zE,zF,zG,zH,zI,zJ,zK,zL,zM,zN,zO,zP,zR,zS]at *);first|(refine qN ?_;omega)|(simp only [uaq];omega))|(subst hR;(have h9:=ujI hf (h3.trans (uoC (by((try simp only [qV]at *);(try simp only [zQ,zA,zB,zC,zD,zE,zF,zG,zH,zI,zJ,zK,zL,zM,zN,zO,zP,zR,zS]at *);omega)) hcd)));exact qD (qE h9.2.symm) (qD (qE h9.1.symm) qB))|(subst hR;(have hz:d.fs.length-i=0:=by((try simp only [qV]at *);(try simp only [zQ,zA,zB,zC,zD,zE,zF,zG,zH,zI,zJ,zK,zL,zM,zN,zO,zP,zR,zS]at *);omega));rw [hz]at h3;(have h9:=uj2 hf h3);exact qD (qE h9.2.symm) (qD (qE h9.1.symm) qB))|((try simp only [zQ,zA,zB,zC,zD,zE,zF,zG,zH,zI,zJ,zK,zL,zM,zN,zO,zP,zR,zS]at *);refine⟨⟨i+1,by((try simp only [qV]at *);(try simp only [zQ,zA,zB,zC,zD,zE,zF,zG,zH,zI,zJ,zK,zL,zM,zN,zO,zP,zR,zS]at *);omega),by rw [show d.fs.length-(i+1)=d.fs.length-i-1 by omega,←uvh (by((try simp only [qV]at *);(try simp only [zQ,zA,zB,zC,zD,zE,zF,zG,zH,zI,zJ,zK,zL,zM,zN,zO,zP,zR,zS]at *);omega)) hcd];exact h3⟩,by simp only [];omega,?_⟩;cbv;(repeat' (first|with_reducible refine ua4 ?_ ?_|with_reducible refine And.intro ?_ ?_));(all_goals first|trivial|exact qM (qE (by rfl))|exact qM (qF (by rfl))|exact qM (Fit.refl _)|exact qL (qK _)|(refine qM (qE ?_);(try simp only [qV]at *);simp only [zQ,zA,zB,zC,zD,zE,zF,zG,zH,zI,zJ,zK,zL,zM,zN,zO,zP,zR,zS]at *;omega)|(refine qL (qJ ?_);(repeat' (first|exact qA|exact qB|refine qC ?_ rfl ?_|refine qD ?_ ?_|exact qE (by rfl)|exact qF (by rfl)|exact Fit.refl _|exact qG _|(refine qE ?_;(try simp only [qV]at *);simp only [zQ,zA,zB,zC,zD,zE,zF,zG,zH,zI,zJ,zK,zL,zM,zN,zO,zP,zR,zS]at *;omega)));done)|skip))|skip
theorem urL (d:Dsp)(h:¬uah d=0):ua0 Tryz.prog 11 [(ubh d)] [] (fun r _=>r=(.tup [(iv fun _=>uqX d),(iv fun _=>ur1 d)])):=by
 have c59:=uhQ d h
 refine ua0.is fun R hR=>qW (sc:=uzX) uan mix Tryz.func11 rfl Tryz.call11 (by kernel_rfl) (by kernel_rfl) ?_
 generalize Tryz.prog=P at c59⊢
 cbv
 repeat' (first|with_reducible refine And.intro ?_ ?_|(with_reducible intro hcd;(try simp only [zA,zB,zC,zD,zE,zF,zG,zH,zI,zJ,zK,zL,zM,zN,zO,zP]at hcd);try cbv)|(refine qP ?_ (c59) ?hfit;(case hfit=>((repeat' (first|exact qB|refine qD ?_ ?_|exact qE (by rfl)|exact qF (by rfl)|exact Fit.refl _|exact qA|refine qC ?_ rfl ?_));done));try cbv)|fail)
 all_goals first|trivial|(subst hR;((have h9:=urQ h);exact qD (qE h9.2.symm) (qD (qE h9.1.symm) qB));done)|skip
theorem upp (d:Dsp):ua0 Tryz.prog 11 [(ubh d)] [] (fun r _=>r=(.tup [(iv fun _=>uqX d),(iv fun _=>ur1 d)])):=by
 by_cases h:uah d=0
 ·exact ur3 d h
 ·exact urL d h
theorem uqG (d:Dsp):ua0 Tryz.prog 84 [(wpS d)] [] (fun r _=>r=(iv fun _=>zi d.fs.length)):=by
 refine ua0.is fun R hR=>qW (sc:=uBG) uan mix Tryz.func84 rfl Tryz.call84 (by kernel_rfl) (by kernel_rfl) ?_
 generalize Tryz.prog=P
 cbv
 repeat' (first|fail)
 all_goals first|(subst hR;(repeat' (first|exact qA|exact qB|refine qC ?_ rfl ?_|refine qD ?_ ?_|exact qE (by rfl)|exact qF (by rfl)|exact Fit.refl _|exact qG _|(refine qE ?_;(try simp only [qV]at *);simp only [zQ,zA,zB,zC,zD,zE,zF,zG,zH,zI,zJ,zK,zL,zM,zN,zO,zP,zR,zS]at *;omega)));done)|skip
theorem uqf (d:Dsp)(o:List Int):ua0 Tryz.prog 85 [(wpS d),(iS o)] [] (fun r _=>r=(iS o)):=by
 refine ua0.is fun R hR=>qW (sc:=uB9) uan mix Tryz.func85 rfl Tryz.call85 (by kernel_rfl) (by kernel_rfl) ?_
 generalize Tryz.prog=P
 cbv
 repeat' (first|fail)
 all_goals first|(subst hR;(repeat' (first|exact qA|exact qB|refine qC ?_ rfl ?_|refine qD ?_ ?_|exact qE (by rfl)|exact qF (by rfl)|exact Fit.refl _|exact qG _|(refine qE ?_;(try simp only [qV]at *);simp only [zQ,zA,zB,zC,zD,zE,zF,zG,zH,zI,zJ,zK,zL,zM,zN,zO,zP,zR,zS]at *;omega)));done)|skip
theorem uiX (d:Dsp):ua0 Tryz.prog 86 [(wpS d)] [] (fun r _=>r=(iv fun _=>d.pn)):=by
 refine ua0.is fun R hR=>qW (sc:=uBw) uan mix Tryz.func86 rfl Tryz.call86 (by kernel_rfl) (by kernel_rfl) ?_
 generalize Tryz.prog=P
 cbv
 repeat' (first|fail)
 all_goals first|(subst hR;(repeat' (first|exact qA|exact qB|refine qC ?_ rfl ?_|refine qD ?_ ?_|exact qE (by rfl)|exact qF (by rfl)|exact Fit.refl _|exact qG _|(refine qE ?_;(try simp only [qV]at *);simp only [zQ,zA,zB,zC,zD,zE,zF,zG,zH,zI,zJ,zK,zL,zM,zN,zO,zP,zR,zS]at *;omega)));done)|skip
theorem urj :ua0 Tryz.prog 44 [] [] (fun r _=>r=(.agg [.clo 84 [] [],.clo 85 [] []])):=by
 refine ua0.is fun R hR=>qW (sc:=uBr) uan mix Tryz.func44 rfl Tryz.call44 (by kernel_rfl) (by kernel_rfl) ?_
 generalize Tryz.prog=P
 cbv
 repeat' (first|fail)
 all_goals first|(subst hR;(repeat' (first|exact qA|exact qB|refine qC ?_ rfl ?_|refine qD ?_ ?_|exact qE (by rfl)|exact qF (by rfl)|exact Fit.refl _|exact qG _|(refine qE ?_;(try simp only [qV]at *);simp only [zQ,zA,zB,zC,zD,zE,zF,zG,zH,zI,zJ,zK,zL,zM,zN,zO,zP,zR,zS]at *;omega)));done)|skip
theorem ugO :ua0 Tryz.prog 50 [] [] (fun r _=>r=(.agg [.clo 86 [] [],.clo 87 [] []])):=by
 refine ua0.is fun R hR=>qW (sc:=uB0) uan mix Tryz.func50 rfl Tryz.call50 (by kernel_rfl) (by kernel_rfl) ?_
 generalize Tryz.prog=P
 cbv
 repeat' (first|fail)
 all_goals first|(subst hR;(repeat' (first|exact qA|exact qB|refine qC ?_ rfl ?_|refine qD ?_ ?_|exact qE (by rfl)|exact qF (by rfl)|exact Fit.refl _|exact qG _|(refine qE ?_;(try simp only [qV]at *);simp only [zQ,zA,zB,zC,zD,zE,zF,zG,zH,zI,zJ,zK,zL,zM,zN,zO,zP,zR,zS]at *;omega)));done)|skip
def thN (d:Dsp)(o:List Int)(n:Nat):List Int:=ubT (fun i=>inL o (d.fs.getD i f0T).p) n
theorem uw8 {d:Dsp} {o:List Int} {i:Nat}(h:inL o (d.fs.getD i f0T).p=true):thN d o (i+1)=thN d o i++[(i:Int)]:=by
 unfold thN
 simp only [ubT,h,if_true]
theorem uwm {d:Dsp} {o:List Int} {i:Nat}(h:inL o (d.fs.getD i f0T).p=false):thN d o (i+1)=thN d o i:=by
 unfold thN
 simp only [ubT,h,Bool.false_eq_true,if_false]
theorem ula (d:Dsp)(o:List Int):∀n,(thN d o n).length≤n:=by
 intro n
 induction n with
 |zero=>exact Nat.le_refl _
 | succ n ih=>
  cases h:inL o (d.fs.getD n f0T).p with
  |true=>rw [uw8 h,List.length_append];simp only [List.length_cons,List.length_nil];omega
  |false=>rw [uwm h];omega
theorem umo (d:Dsp)(o:List Int)(hf:d.fs.length≤1000)(ho:o.length≤1000):ua0 Tryz.prog 87 [(wpS d),(iS o)] [] (fun r _=>r=(iS ((thN d o d.fs.length)))):=by
 have c63:=fun (i:Nat)=>ufh o (d.fs.getD i f0T).p ho
 refine ua0.is fun R hR=>qW (sc:=uAI) uan mix Tryz.func87 rfl Tryz.call87 (by kernel_rfl) (by kernel_rfl) ?_
 generalize Tryz.prog=P at c63⊢
 cbv
 repeat' (first|fail)
 all_goals first|skip
 refine⟨none,[⟨.tmp 4,3,1⟩],{i:Nat // i≤d.fs.length},fun x=>⟨[(1,(iS o)),(4,.row 8),(11,(.sl 6 (.sym fun _=>zi (d.fs).length) (fun ix=>[(iv fun _=>((d.fs).getD ix.den.toNat f0T).p),(iv fun _=>((d.fs).getD ix.den.toNat f0T).s),(iv fun _=>((d.fs).getD ix.den.toNat f0T).wl),(iv fun _=>((d.fs).getD ix.den.toNat f0T).wh),(iv fun _=>((d.fs).getD ix.den.toNat f0T).ml),(iv fun _=>((d.fs).getD ix.den.toNat f0T).mh)]))),(12,(iv fun _=>zi d.fs.length)),(13,(iv fun _=>zi x.1))],[(8,.row 3 1 (.sym fun _=>zi ((thN d o (x.1))).length) (fun ix=>[(iv fun _=>((thN d o (x.1))).getD ix.den.toNat 0)]))],90⟩,fun x=>d.fs.length-x.1,?_,?_⟩
 ·refine⟨⟨0,by omega⟩,?_⟩
  cbv
  repeat' (first|with_reducible refine ua4 ?_ ?_|with_reducible refine And.intro ?_ ?_)
  all_goals first|trivial|exact qM (qE (by rfl))|exact qM (Fit.refl _)|(refine qL (ua9 ?_ ?_);(first|rfl|((try simp only [qV]at *);(try simp only [zQ,zA,zB,zC,zD,zE,zF,zG,zH,zI,zJ,zK,zL,zM,zN,zO,zP,zR,zS]at *);omega));intro ix h0 h1;exfalso;(try simp only [qV]at *);(try simp only [zQ,zA,zB,zC,zD,zE,zF,zG,zH,zI,zJ,zK,zL,zM,zN,zO,zP,zR,zS]at *);omega)|skip
 ·rintro ⟨i,hi⟩
  cbv
  have hlen:=ula d o i
  have hY:inL o (d.fs.getD i f0T).p=true→thN d o (i+1)=thN d o i++[zi i]:=uw8
  have hZ:inL o (d.fs.getD i f0T).p=false→thN d o (i+1)=thN d o i:=uwm
  obtain⟨M,hM⟩:∃M,M=thN d o i:=⟨_,rfl⟩
  rw [←hM]at hlen hY hZ⊢
  cbv
  repeat' (first
   |with_reducible refine ua4 ?_ ?_
   |with_reducible refine And.intro ?_ ?_
   |(with_reducible intro hcd;(try simp only [zA,zB,zC,zD,zE,zF,zG,zH,zI,zJ,zK,zL,zM,zN,zO,zP]at hcd);try cbv)
   |(refine qP ?_ (c63 i) ?hfit;(case hfit=>((repeat' (first|exact qB|refine qD ?_ ?_|exact qE (by rfl)|exact qF (by rfl)|exact Fit.refl _|exact qA|refine qC ?_ rfl ?_));done));try cbv)
   | (obtain⟨L2,eL2⟩:∃y:List Int,y=M++[zi i]:=⟨_,rfl⟩
      refine⟨udJ L2,?_⟩
      cbv
      refine ua4 (ual (L:=M) eL2 (by(first|rfl|((try simp only [qV]at *);(try simp only [zQ,zA,zB,zC,zD,zE,zF,zG,zH,zI,zJ,zK,zL,zM,zN,zO,zP,zR,zS]at *);done)|((try simp only [qV]at *);(try simp only [zQ,zA,zB,zC,zD,zE,zF,zG,zH,zI,zJ,zK,zL,zM,zN,zO,zP,zR,zS]at *);omega))) (by rfl) (fun ix=>Fit.refl _) (fun ix h=>qC (qE (by rfl)) rfl qA) (by(try simp only [qV]at *);(try simp only [zQ,zA,zB,zC,zD,zE,zF,zG,zH,zI,zJ,zK,zL,zM,zN,zO,zP,zR,zS]at *);omega)) (Or.inl ?_)
      try cbv)
   |fail)
  all_goals first|((try simp only [qV]at *);(try simp only [zQ,zA,zB,zC,zD,zE,zF,zG,zH,zI,zJ,zK,zL,zM,zN,zO,zP,zR,zS]at *);first|(refine qN ?_;omega)|(simp only [uaq];omega))|((have hie:i=d.fs.length:=(by((try simp only [qV]at *);(try simp only [zQ,zA,zB,zC,zD,zE,zF,zG,zH,zI,zJ,zK,zL,zM,zN,zO,zP,zR,zS]at *);omega)));subst hR;rw [←hie,←hM];exact Fit.refl _)|((try simp only [zQ,zA,zB,zC,zD,zE,zF,zG,zH,zI,zJ,zK,zL,zM,zN,zO,zP,zR,zS]at *);(have hx:thN d o (i+1)=L2:=(hY hcd).trans eL2.symm);refine⟨⟨i+1,by omega⟩,by simp only [];omega,?_⟩;cbv;(repeat' (first|with_reducible refine ua4 ?_ ?_|with_reducible refine And.intro ?_ ?_));(all_goals first|trivial|exact qM (qE (by rfl))|exact qM (qF (by rfl))|exact qM (Fit.refl _)|exact qL (qK _)|(refine qM (qE ?_);(try simp only [qV]at *);simp only [zQ,zA,zB,zC,zD,zE,zF,zG,zH,zI,zJ,zK,zL,zM,zN,zO,zP,zR,zS]at *;omega)|(simp only [hx];first|exact qL (qK _)|(refine qL (ua9 ?_ ?_)<;>first|rfl|(rw [eL2,List.length_append];rfl)|((try simp only [qV]at *);(try simp only [zQ,zA,zB,zC,zD,zE,zF,zG,zH,zI,zJ,zK,zL,zM,zN,zO,zP,zR,zS]at *);(try simp only [eL2,List.length_append,List.length_cons,List.length_nil]at *);omega)|(intro ix h0 h1;exact Fit.refl _)))|skip))|((try simp only [zQ,zA,zB,zC,zD,zE,zF,zG,zH,zI,zJ,zK,zL,zM,zN,zO,zP,zR,zS]at *);(have hx:thN d o (i+1)=M:=hZ hcd);refine⟨⟨i+1,by omega⟩,by simp only [];omega,?_⟩;cbv;(repeat' (first|with_reducible refine ua4 ?_ ?_|with_reducible refine And.intro ?_ ?_));(all_goals first|trivial|exact qM (qE (by rfl))|exact qM (qF (by rfl))|exact qM (Fit.refl _)|exact qL (qK _)|(refine qM (qE ?_);(try simp only [qV]at *);simp only [zQ,zA,zB,zC,zD,zE,zF,zG,zH,zI,zJ,zK,zL,zM,zN,zO,zP,zR,zS]at *;omega)|(simp only [hx];first|exact qL (qK _)|(refine qL (ua9 ?_ ?_)<;>first|rfl|(rw [eL2,List.length_append];rfl)|((try simp only [qV]at *);(try simp only [zQ,zA,zB,zC,zD,zE,zF,zG,zH,zI,zJ,zK,zL,zM,zN,zO,zP,zR,zS]at *);(try simp only [eL2,List.length_append,List.length_cons,List.length_nil]at *);omega)|(intro ix h0 h1;exact Fit.refl _)))|skip))|skip
end Go.Proofs.YtkdggbfknlcdaaaGreat
namespace Go.Proofs.YtkdggbfknlcdaaaGreat
open Go Go.Eng Go.Eng.Dif Go.Eng.Few
def uvO (F:List (List Int)):IX→List SV:=fun ix=>[.sl 1 (.sym fun _=>zi (F.getD ix.den.toNat []).length) (fun jx=>[(iv fun _=>(F.getD ix.den.toNat []).getD jx.den.toNat 0)])]
def uA0 (o:List Int):SV:=.sl 1 (.sym fun _=>zi o.length) (fun jx=>[(iv fun _=>o.getD jx.den.toNat 0)])
theorem ukR {F:List (List Int)} {ix:IX} {o:List Int}(h:F.getD ix.den.toNat []=o):uvO F ix=[uA0 o]:=by
 subst h
 rfl
theorem ucs {n m b:Int} {F F2:List (List Int)} {o:List Int} {e new:IX→List SV}(h2:F2=F++[o])(hn:n=(F.length:Int))(hm:m=1)(he:∀ix,Fit (.agg (e ix)) (.agg (uvO F ix)))(hx:∀ix:IX,Fit (.agg (new ix)) (.agg [uA0 o]))(hb:(n+1)*b≤140737488355328):
 uaq (udI n e m new (uvO F2)∧0≤n∧0≤m∧(n+m)*b≤140737488355328):=by
 subst hm
 subst h2
 refine ubj (fun ix jx h0 h1 h2=>(he ix).trans ?_) (fun ix jx h0 h1 h2=>(hx ix).trans ?_) ⟨by omega,by omega,hb⟩
 ·rw [ukR (F:=F) rfl,ukR (F:=F++[o]) (o:=F.getD ix.den.toNat []) (by
   rw [h2]
   simp only [List.getD_eq_getElem?_getD]
   rw [List.getElem?_append_left (by omega)])]
  exact Fit.refl _
 ·rw [ukR (F:=F++[o]) (o:=o) (by
   rw [show jx.den.toNat=F.length by omega]
   simp [List.getD_eq_getElem?_getD])]
  exact Fit.refl _
def ueA (n:Nat)(ok:List Int→Bool)(m:Nat)(o:List Int)(i:Nat):Nat→List (List Int)
 |0=>[]
 |k+1=>ueA n ok m o i k++ubS n ok m (o++[((i+k:Nat):Int)]) (i+k+1)
theorem uif {n:Nat} {ok:List Int→Bool} {m:Nat} {o:List Int} {i:Nat}:ubS n ok (m+1) o i=ueA n ok m o i (n-m-i):=by
 have h:∀k,((List.range k).flatMap fun j=>ubS n ok m (o++[((i+j:Nat):Int)]) (i+j+1))=ueA n ok m o i k:=by
  intro k
  induction k with
  |zero=>rfl
  |succ k ih=>rw [List.range_succ,List.flatMap_append,ih];simp [ueA]
 simp only [ubS]
 exact h _
theorem utw {n:Nat} {ok:List Int→Bool} {m:Nat} {o:List Int} {i:Nat}:∀{k k':Nat},k≤k'→(ueA n ok m o i k).length≤(ueA n ok m o i k').length:=by
 intro k k'
 induction k' with
 |zero=>intro h;rw [show k=0 by omega];exact Nat.le_refl _
 | succ k' ih=>
  intro h
  rcases Nat.lt_or_ge k' k with q|q
  ·rw [show k=k'+1 by omega];exact Nat.le_refl _
  ·have:=ih q
   simp only [ueA,List.length_append];omega
theorem umd {n:Nat} {ok:List Int→Bool}:∀{m:Nat} {o:List Int} {i:Nat},(ubS n ok m o i).length≤n^m:=by
 intro m
 induction m with
 | zero=>
  intro o i
  simp only [ubS]
  split<;>simp
 | succ m ih=>
  intro o i
  rw [uif]
  have h:∀k,(ueA n ok m o i k).length≤k*n^m:=by
   intro k
   induction k with
   |zero=>simp [ueA]
   | succ k ik=>
    have:=ih (o:=o++[((i+k:Nat):Int)]) (i:=i+k+1)
    simp only [ueA,List.length_append,Nat.add_mul,Nat.one_mul];omega
  refine Nat.le_trans (h _) ?_
  rw [Nat.pow_succ,Nat.mul_comm]
  exact Nat.mul_le_mul_left _ (by omega)
theorem umv {F G:List (List Int)} {n:Nat} {ok:List Int→Bool} {m:Nat} {o L:List Int} {i k:Nat}(hL:L=o++[((i+k:Nat):Int)])(hG:G=F++ueA n ok m o i k):F++ueA n ok m o i (k+1)=G++ubS n ok m L (i+k+1):=by
 subst hL
 subst hG
 rw [ueA,List.append_assoc]
def udh (d:Dsp)(o:List Int):Bool:=ufd d d.fs o
def ubG (d:Dsp)(o:List Int):Bool:=ufd d d.fs (thN d o d.fs.length)
end Go.Proofs.YtkdggbfknlcdaaaGreat
namespace Go.Proofs.YtkdggbfknlcdaaaGreat
open Go Go.Eng Go.Proofs Go.Eng.Dif Go.Eng.Few
set_option maxRecDepth 10000
theorem ux9 (d:Dsp)(F:List (List Int))(o:List Int)(i:Int)(hd:DOk d)(ho:o.length≤100)(hF:F.length≤1000000)(hok:(udh d) o=true):ua0 Tryz.prog 88 [(iS o),(iv fun _=>i),(iv fun _=>0),.own 0 0,.own 1 0,.own 2 0,.own 3 0] [.cells [(wpS d)] 87,.cells [.clo 84 [] [],.clo 85 [] []] 110,.cells [.row 4] 23,.cells [.clo 88 [] [.own 0 0,.own 1 0,.own 2 0,.own 3 0]] 144,.row 22 1 (.sym fun _=>zi (F).length) (fun ix=>[.sl 1 (.sym fun _=>zi ((F).getD ix.den.toNat []).length) (fun jx=>[(iv fun _=>((F).getD ix.den.toNat []).getD jx.den.toNat 0)])])] (fun r bs=>r = .tup []∧bs=[.cells [(wpS d)] 87,.cells [.clo 84 [] [],.clo 85 [] []] 110,.cells [.row 4] 23,.cells [.clo 88 [] [.own 0 0,.own 1 0,.own 2 0,.own 3 0]] 144,.row 22 1 (.sym fun _=>zi ((F++[o])).length) (fun ix=>[.sl 1 (.sym fun _=>zi (((F++[o])).getD ix.den.toNat []).length) (fun jx=>[(iv fun _=>(((F++[o])).getD ix.den.toNat []).getD jx.den.toNat 0)])])]):=by
 have c89:=uqf d o
 have hl:o.length≤1000:=by omega
 have c54:=ucF d o hd hl
 rw [show ufd d d.fs o=true from hok]at c54
 refine ua0.isB rfl fun R B hR hB=>qW (sc:=uw0) uan mix Tryz.func88 rfl Tryz.call88 (by kernel_rfl) (by kernel_rfl) ?_
 generalize Tryz.prog=P at c89 c54⊢
 cbv
 repeat' (first
  |with_reducible refine And.intro ?_ ?_
  |(with_reducible intro hcd;(try simp only [zA,zB,zC,zD,zE,zF,zG,zH,zI,zJ,zK,zL,zM,zN,zO,zP]at hcd);try cbv)
  |(refine qP ?_ (c89) ?hfit;(case hfit=>((repeat' (first|exact qB|refine qD ?_ ?_|exact qE (by rfl)|exact qF (by rfl)|exact Fit.refl _|exact qA|refine qC ?_ rfl ?_));done));try cbv)
  |(refine qP ?_ (c54) ?hfit;(case hfit=>((repeat' (first|exact qB|refine qD ?_ ?_|exact qE (by rfl)|exact qF (by rfl)|exact Fit.refl _|exact qA|refine qC ?_ rfl ?_));done));try cbv)
  | (obtain⟨F2,eF2⟩:∃y:List (List Int),y=F++[o]:=⟨_,rfl⟩
     refine⟨uvO F2,?_⟩
     cbv
     refine ua4 (ucs (F:=F) (o:=o) eF2 (by first|rfl|((try simp only [qV]at *);(try simp only [zQ,zA,zB,zC,zD,zE,zF,zG,zH,zI,zJ,zK,zL,zM,zN,zO,zP,zR,zS]at *);omega)) rfl (fun ix=>Fit.refl _) (fun ix=>Fit.refl _) (by(try simp only [qV]at *);(try simp only [zQ,zA,zB,zC,zD,zE,zF,zG,zH,zI,zJ,zK,zL,zM,zN,zO,zP,zR,zS]at *);omega)) (Or.inl ?_)
     try cbv)
  |fail)
 all_goals first|trivial|(subst hR;exact Fit.refl _;done)|(rw [←eF2]at hB;subst hB;refine qI (qK _) (qI (qK _) (qI (qK _) (qI (qK _) (qI (ua9 ?_ (fun ix h0 h1=>Fit.refl _)) qH))));(try simp only [qV]at *);(try simp only [zQ,zA,zB,zC,zD,zE,zF,zG,zH,zI,zJ,zK,zL,zM,zN,zO,zP,zR,zS]at *);simp only [eF2,List.length_append,List.length_cons,List.length_nil];omega)|skip
theorem uwC (d:Dsp)(F:List (List Int))(o:List Int)(i:Int)(hd:DOk d)(ho:o.length≤100)(hF:F.length≤1000000)(hok:(udh d) o=false):ua0 Tryz.prog 88 [(iS o),(iv fun _=>i),(iv fun _=>0),.own 0 0,.own 1 0,.own 2 0,.own 3 0] [.cells [(wpS d)] 87,.cells [.clo 84 [] [],.clo 85 [] []] 110,.cells [.row 4] 23,.cells [.clo 88 [] [.own 0 0,.own 1 0,.own 2 0,.own 3 0]] 144,.row 22 1 (.sym fun _=>zi (F).length) (fun ix=>[.sl 1 (.sym fun _=>zi ((F).getD ix.den.toNat []).length) (fun jx=>[(iv fun _=>((F).getD ix.den.toNat []).getD jx.den.toNat 0)])])] (fun r bs=>r = .tup []∧bs=[.cells [(wpS d)] 87,.cells [.clo 84 [] [],.clo 85 [] []] 110,.cells [.row 4] 23,.cells [.clo 88 [] [.own 0 0,.own 1 0,.own 2 0,.own 3 0]] 144,.row 22 1 (.sym fun _=>zi (F).length) (fun ix=>[.sl 1 (.sym fun _=>zi ((F).getD ix.den.toNat []).length) (fun jx=>[(iv fun _=>((F).getD ix.den.toNat []).getD jx.den.toNat 0)])])]):=by
 have c89:=uqf d o
 have hl:o.length≤1000:=by omega
 have c54:=ucF d o hd hl
 rw [show ufd d d.fs o=false from hok]at c54
 refine ua0.isB rfl fun R B hR hB=>qW (sc:=uw0) uan mix Tryz.func88 rfl Tryz.call88 (by kernel_rfl) (by kernel_rfl) ?_
 generalize Tryz.prog=P at c89 c54⊢
 cbv
 repeat' (first
  |with_reducible refine And.intro ?_ ?_
  |(with_reducible intro hcd;(try simp only [zA,zB,zC,zD,zE,zF,zG,zH,zI,zJ,zK,zL,zM,zN,zO,zP]at hcd);try cbv)
  |(refine qP ?_ (c89) ?hfit;(case hfit=>((repeat' (first|exact qB|refine qD ?_ ?_|exact qE (by rfl)|exact qF (by rfl)|exact Fit.refl _|exact qA|refine qC ?_ rfl ?_));done));try cbv)
  |(refine qP ?_ (c54) ?hfit;(case hfit=>((repeat' (first|exact qB|refine qD ?_ ?_|exact qE (by rfl)|exact qF (by rfl)|exact Fit.refl _|exact qA|refine qC ?_ rfl ?_));done));try cbv)
  | (obtain⟨F2,eF2⟩:∃y:List (List Int),y=F++[o]:=⟨_,rfl⟩
     refine⟨uvO F2,?_⟩
     cbv
     refine ua4 (ucs (F:=F) (o:=o) eF2 (by first|rfl|((try simp only [qV]at *);(try simp only [zQ,zA,zB,zC,zD,zE,zF,zG,zH,zI,zJ,zK,zL,zM,zN,zO,zP,zR,zS]at *);omega)) rfl (fun ix=>Fit.refl _) (fun ix=>Fit.refl _) (by(try simp only [qV]at *);(try simp only [zQ,zA,zB,zC,zD,zE,zF,zG,zH,zI,zJ,zK,zL,zM,zN,zO,zP,zR,zS]at *);omega)) (Or.inl ?_)
     try cbv)
  |fail)
 all_goals first|trivial|(subst hR;exact Fit.refl _;done)|(subst hB;(repeat' (first|exact qH|refine qI ?_ ?_|exact qK _|refine qJ ?_|exact qA|exact qE (by rfl)|exact qF (by rfl)|exact Fit.refl _|exact qG _|refine qC ?_ rfl ?_));done)|skip
theorem uw1 (d:Dsp)(F:List (List Int))(o:List Int)(i:Int)(hd:DOk d)(ho:o.length≤100)(hF:F.length≤1000000)(hok:(ubG d) o=true):ua0 Tryz.prog 88 [(iS o),(iv fun _=>i),(iv fun _=>0),.own 0 0,.own 1 0,.own 2 0,.own 3 0] [.cells [(wpS d)] 87,.cells [.clo 86 [] [],.clo 87 [] []] 110,.cells [.row 4] 23,.cells [.clo 88 [] [.own 0 0,.own 1 0,.own 2 0,.own 3 0]] 144,.row 22 1 (.sym fun _=>zi (F).length) (fun ix=>[.sl 1 (.sym fun _=>zi ((F).getD ix.den.toNat []).length) (fun jx=>[(iv fun _=>((F).getD ix.den.toNat []).getD jx.den.toNat 0)])])] (fun r bs=>r = .tup []∧bs=[.cells [(wpS d)] 87,.cells [.clo 86 [] [],.clo 87 [] []] 110,.cells [.row 4] 23,.cells [.clo 88 [] [.own 0 0,.own 1 0,.own 2 0,.own 3 0]] 144,.row 22 1 (.sym fun _=>zi ((F++[o])).length) (fun ix=>[.sl 1 (.sym fun _=>zi (((F++[o])).getD ix.den.toNat []).length) (fun jx=>[(iv fun _=>(((F++[o])).getD ix.den.toNat []).getD jx.den.toNat 0)])])]):=by
 have c91:=umo d o (by have:=hd.f6;omega) (by omega)
 have hl:(thN d o d.fs.length).length≤1000:=by have h1:=ula d o d.fs.length;have h2:=hd.f6;omega
 have c54:=ucF d (thN d o d.fs.length) hd hl
 rw [show ufd d d.fs (thN d o d.fs.length)=true from hok]at c54
 refine ua0.isB rfl fun R B hR hB=>qW (sc:=uw0) uan mix Tryz.func88 rfl Tryz.call88 (by kernel_rfl) (by kernel_rfl) ?_
 generalize Tryz.prog=P at c91 c54⊢
 cbv
 repeat' (first
  |with_reducible refine And.intro ?_ ?_
  |(with_reducible intro hcd;(try simp only [zA,zB,zC,zD,zE,zF,zG,zH,zI,zJ,zK,zL,zM,zN,zO,zP]at hcd);try cbv)
  |(refine qP ?_ (c91) ?hfit;(case hfit=>((repeat' (first|exact qB|refine qD ?_ ?_|exact qE (by rfl)|exact qF (by rfl)|exact Fit.refl _|exact qA|refine qC ?_ rfl ?_));done));try cbv)
  |(refine qP ?_ (c54) ?hfit;(case hfit=>((repeat' (first|exact qB|refine qD ?_ ?_|exact qE (by rfl)|exact qF (by rfl)|exact Fit.refl _|exact qA|refine qC ?_ rfl ?_));done));try cbv)
  | (obtain⟨F2,eF2⟩:∃y:List (List Int),y=F++[o]:=⟨_,rfl⟩
     refine⟨uvO F2,?_⟩
     cbv
     refine ua4 (ucs (F:=F) (o:=o) eF2 (by first|rfl|((try simp only [qV]at *);(try simp only [zQ,zA,zB,zC,zD,zE,zF,zG,zH,zI,zJ,zK,zL,zM,zN,zO,zP,zR,zS]at *);omega)) rfl (fun ix=>Fit.refl _) (fun ix=>Fit.refl _) (by(try simp only [qV]at *);(try simp only [zQ,zA,zB,zC,zD,zE,zF,zG,zH,zI,zJ,zK,zL,zM,zN,zO,zP,zR,zS]at *);omega)) (Or.inl ?_)
     try cbv)
  |fail)
 all_goals first|trivial|(subst hR;exact Fit.refl _;done)|(rw [←eF2]at hB;subst hB;refine qI (qK _) (qI (qK _) (qI (qK _) (qI (qK _) (qI (ua9 ?_ (fun ix h0 h1=>Fit.refl _)) qH))));(try simp only [qV]at *);(try simp only [zQ,zA,zB,zC,zD,zE,zF,zG,zH,zI,zJ,zK,zL,zM,zN,zO,zP,zR,zS]at *);simp only [eF2,List.length_append,List.length_cons,List.length_nil];omega)|skip
theorem uwV (d:Dsp)(F:List (List Int))(o:List Int)(i:Int)(hd:DOk d)(ho:o.length≤100)(hF:F.length≤1000000)(hok:(ubG d) o=false):ua0 Tryz.prog 88 [(iS o),(iv fun _=>i),(iv fun _=>0),.own 0 0,.own 1 0,.own 2 0,.own 3 0] [.cells [(wpS d)] 87,.cells [.clo 86 [] [],.clo 87 [] []] 110,.cells [.row 4] 23,.cells [.clo 88 [] [.own 0 0,.own 1 0,.own 2 0,.own 3 0]] 144,.row 22 1 (.sym fun _=>zi (F).length) (fun ix=>[.sl 1 (.sym fun _=>zi ((F).getD ix.den.toNat []).length) (fun jx=>[(iv fun _=>((F).getD ix.den.toNat []).getD jx.den.toNat 0)])])] (fun r bs=>r = .tup []∧bs=[.cells [(wpS d)] 87,.cells [.clo 86 [] [],.clo 87 [] []] 110,.cells [.row 4] 23,.cells [.clo 88 [] [.own 0 0,.own 1 0,.own 2 0,.own 3 0]] 144,.row 22 1 (.sym fun _=>zi (F).length) (fun ix=>[.sl 1 (.sym fun _=>zi ((F).getD ix.den.toNat []).length) (fun jx=>[(iv fun _=>((F).getD ix.den.toNat []).getD jx.den.toNat 0)])])]):=by
 have c91:=umo d o (by have:=hd.f6;omega) (by omega)
 have hl:(thN d o d.fs.length).length≤1000:=by have h1:=ula d o d.fs.length;have h2:=hd.f6;omega
 have c54:=ucF d (thN d o d.fs.length) hd hl
 rw [show ufd d d.fs (thN d o d.fs.length)=false from hok]at c54
 refine ua0.isB rfl fun R B hR hB=>qW (sc:=uw0) uan mix Tryz.func88 rfl Tryz.call88 (by kernel_rfl) (by kernel_rfl) ?_
 generalize Tryz.prog=P at c91 c54⊢
 cbv
 repeat' (first
  |with_reducible refine And.intro ?_ ?_
  |(with_reducible intro hcd;(try simp only [zA,zB,zC,zD,zE,zF,zG,zH,zI,zJ,zK,zL,zM,zN,zO,zP]at hcd);try cbv)
  |(refine qP ?_ (c91) ?hfit;(case hfit=>((repeat' (first|exact qB|refine qD ?_ ?_|exact qE (by rfl)|exact qF (by rfl)|exact Fit.refl _|exact qA|refine qC ?_ rfl ?_));done));try cbv)
  |(refine qP ?_ (c54) ?hfit;(case hfit=>((repeat' (first|exact qB|refine qD ?_ ?_|exact qE (by rfl)|exact qF (by rfl)|exact Fit.refl _|exact qA|refine qC ?_ rfl ?_));done));try cbv)
  | (obtain⟨F2,eF2⟩:∃y:List (List Int),y=F++[o]:=⟨_,rfl⟩
     refine⟨uvO F2,?_⟩
     cbv
     refine ua4 (ucs (F:=F) (o:=o) eF2 (by first|rfl|((try simp only [qV]at *);(try simp only [zQ,zA,zB,zC,zD,zE,zF,zG,zH,zI,zJ,zK,zL,zM,zN,zO,zP,zR,zS]at *);omega)) rfl (fun ix=>Fit.refl _) (fun ix=>Fit.refl _) (by(try simp only [qV]at *);(try simp only [zQ,zA,zB,zC,zD,zE,zF,zG,zH,zI,zJ,zK,zL,zM,zN,zO,zP,zR,zS]at *);omega)) (Or.inl ?_)
     try cbv)
  |fail)
 all_goals first|trivial|(subst hR;exact Fit.refl _;done)|(subst hB;(repeat' (first|exact qH|refine qI ?_ ?_|exact qK _|refine qJ ?_|exact qA|exact qE (by rfl)|exact qF (by rfl)|exact Fit.refl _|exact qG _|refine qC ?_ rfl ?_));done)|skip
set_option maxHeartbeats 2000000 in
theorem uza (d:Dsp)(F:List (List Int))(o:List Int)(i m M:Nat)(hd:DOk d)(ho:o.length≤100)(hM:M=m+1)(hi:i+M≤d.fs.length)(ih:∀k:Nat,k<d.fs.length-m-i→∀(G:List (List Int)) (L:List Int),G=(F++ueA d.fs.length (udh d) m o i k)→L=o++[((i+k:Nat):Int)]→ua0 Tryz.prog 88 [(iS L),(iv fun _=>zi (i+k)+1),(iv fun _=>zi M-1),.own 0 0,.own 1 0,.own 2 0,.own 3 0] [.cells [(wpS d)] 87,.cells [.clo 84 [] [],.clo 85 [] []] 110,.cells [.row 4] 23,.cells [.clo 88 [] [.own 0 0,.own 1 0,.own 2 0,.own 3 0]] 144,.row 22 1 (.sym fun _=>zi (G).length) (fun ix=>[.sl 1 (.sym fun _=>zi ((G).getD ix.den.toNat []).length) (fun jx=>[(iv fun _=>((G).getD ix.den.toNat []).getD jx.den.toNat 0)])])] (fun r bs=>r = .tup []∧bs=[.cells [(wpS d)] 87,.cells [.clo 84 [] [],.clo 85 [] []] 110,.cells [.row 4] 23,.cells [.clo 88 [] [.own 0 0,.own 1 0,.own 2 0,.own 3 0]] 144,.row 22 1 (.sym fun _=>zi ((G++ubS d.fs.length (udh d) m L (i+k+1))).length) (fun ix=>[.sl 1 (.sym fun _=>zi (((G++ubS d.fs.length (udh d) m L (i+k+1))).getD ix.den.toNat []).length) (fun jx=>[(iv fun _=>(((G++ubS d.fs.length (udh d) m L (i+k+1))).getD ix.den.toNat []).getD jx.den.toNat 0)])])])):ua0 Tryz.prog 88 [(iS o),(iv fun _=>zi i),(iv fun _=>zi M),.own 0 0,.own 1 0,.own 2 0,.own 3 0] [.cells [(wpS d)] 87,.cells [.clo 84 [] [],.clo 85 [] []] 110,.cells [.row 4] 23,.cells [.clo 88 [] [.own 0 0,.own 1 0,.own 2 0,.own 3 0]] 144,.row 22 1 (.sym fun _=>zi (F).length) (fun ix=>[.sl 1 (.sym fun _=>zi ((F).getD ix.den.toNat []).length) (fun jx=>[(iv fun _=>((F).getD ix.den.toNat []).getD jx.den.toNat 0)])])] (fun r bs=>r = .tup []∧bs=[.cells [(wpS d)] 87,.cells [.clo 84 [] [],.clo 85 [] []] 110,.cells [.row 4] 23,.cells [.clo 88 [] [.own 0 0,.own 1 0,.own 2 0,.own 3 0]] 144,.row 22 1 (.sym fun _=>zi ((F++ueA d.fs.length (udh d) m o i (d.fs.length-m-i))).length) (fun ix=>[.sl 1 (.sym fun _=>zi (((F++ueA d.fs.length (udh d) m o i (d.fs.length-m-i))).getD ix.den.toNat []).length) (fun jx=>[(iv fun _=>(((F++ueA d.fs.length (udh d) m o i (d.fs.length-m-i))).getD ix.den.toNat []).getD jx.den.toNat 0)])])]):=by
 have c88:=uqG d
 have c94:=uoV o (by omega)
 refine ua0.isB rfl fun R B hR hB=>qW (sc:=uw0) uan mix Tryz.func88 rfl Tryz.call88 (by kernel_rfl) (by kernel_rfl) ?_
 generalize Tryz.prog=P at c88 c94 ih⊢
 cbv
 have s3:=hd.p4
 have f6:=hd.f6
 have p1:=hd.p1
 repeat' (first|with_reducible refine And.intro ?_ ?_|(with_reducible intro hcd;(try simp only [zA,zB,zC,zD,zE,zF,zG,zH,zI,zJ,zK,zL,zM,zN,zO,zP]at hcd);try cbv)|fail)
 all_goals first|(exfalso;(try simp only [qV]at *);(try simp only [zQ,zA,zB,zC,zD,zE,zF,zG,zH,zI,zJ,zK,zL,zM,zN,zO,zP,zR,zS]at *);omega)|skip
 refine⟨none,[],{k:Nat // k≤d.fs.length-m-i},fun x=>⟨[(0,(iS o)),(2,(iv fun _=>zi M)),(3,.own 0 0),(4,.own 1 0),(5,.own 2 0),(6,.own 3 0),(12,(iv fun _=>zi (i+x.1)))],[(0,.cells [(wpS d)] 87),(1,.cells [.clo 84 [] [],.clo 85 [] []] 110),(2,.cells [.row 4] 23),(3,.cells [.clo 88 [] [.own 0 0,.own 1 0,.own 2 0,.own 3 0]] 144),(4,.row 22 1 (.sym fun _=>zi ((F++ueA d.fs.length (udh d) m o i x.1)).length) (fun ix=>[.sl 1 (.sym fun _=>zi (((F++ueA d.fs.length (udh d) m o i x.1)).getD ix.den.toNat []).length) (fun jx=>[(iv fun _=>(((F++ueA d.fs.length (udh d) m o i x.1)).getD ix.den.toNat []).getD jx.den.toNat 0)])]))],60⟩,fun x=>d.fs.length-m-i-x.1,?_,?_⟩
 ·refine⟨⟨0,by omega⟩,?_⟩
  cbv
  repeat' (first|with_reducible refine ua4 ?_ ?_|with_reducible refine And.intro ?_ ?_)
  all_goals first|trivial|exact qM (qE (by rfl))|exact qM (Fit.refl _)|exact qL (qK _)|(simp only [ueA,List.append_nil];exact qL (qK _))|skip
 ·rintro ⟨k,hk⟩
  cbv
  obtain⟨G,hG⟩:∃G,G=(F++ueA d.fs.length (udh d) m o i k):=⟨_,rfl⟩
  rw [←hG]
  cbv
  repeat' (first
   |with_reducible refine ua4 ?_ ?_
   |with_reducible refine And.intro ?_ ?_
   |(with_reducible intro hcd;(try simp only [zA,zB,zC,zD,zE,zF,zG,zH,zI,zJ,zK,zL,zM,zN,zO,zP]at hcd);try cbv)
   |(refine qP ?_ (c88) ?hfit;(case hfit=>((repeat' (first|exact qB|refine qD ?_ ?_|exact qE (by rfl)|exact qF (by rfl)|exact Fit.refl _|exact qA|refine qC ?_ rfl ?_));done));try cbv)
   | (refine Or.inr ⟨true,?_⟩
      cbv
      refine qU ?_ (c94) (by cbv;(repeat' (first|exact qB|refine qD ?_ ?_|exact qE (by rfl)|exact qF (by rfl)|exact Fit.refl _|exact qA|refine qC ?_ rfl ?_))) (by cbv;(repeat' (first|exact qH|refine qI ?_ ?_|exact qK _|refine qJ ?_|exact qA|exact qE (by rfl)|exact qF (by rfl)|exact Fit.refl _|exact qG _|refine qC ?_ rfl ?_)))
      try cbv)
   | (obtain⟨L2,eL2⟩:∃y:List Int,y=o++[((i+k:Nat):Int)]:=⟨_,rfl⟩
      refine⟨udJ L2,?_⟩
      cbv
      refine ua4 (ual (L:=o) eL2 (by(first|rfl|((try simp only [qV]at *);(try simp only [zQ,zA,zB,zC,zD,zE,zF,zG,zH,zI,zJ,zK,zL,zM,zN,zO,zP,zR,zS]at *);done)|((try simp only [qV]at *);(try simp only [zQ,zA,zB,zC,zD,zE,zF,zG,zH,zI,zJ,zK,zL,zM,zN,zO,zP,zR,zS]at *);omega))) (by rfl) (fun ix=>Fit.refl _) (fun ix h=>qC (qE (by rfl)) rfl qA) (by(try simp only [qV]at *);(try simp only [zQ,zA,zB,zC,zD,zE,zF,zG,zH,zI,zJ,zK,zL,zM,zN,zO,zP,zR,zS]at *);omega)) (Or.inr ⟨true,?_⟩)
      try cbv)
   | (refine⟨some [0,1,2,3,4],?_⟩
      cbv
      refine qQ ?_ (ih k (by((try simp only [qV]at *);(try simp only [zQ,zA,zB,zC,zD,zE,zF,zG,zH,zI,zJ,zK,zL,zM,zN,zO,zP,zR,zS]at *);omega)) G L2 hG eL2) ?hfit ?hbo
      case hfit=>(cbv;refine qD (ua2 (utt eL2) (fun _ _ _=>Fit.refl _)) ?_;(repeat' (first|exact qB|refine qD ?_ ?_|exact qE (by rfl)|exact qF (by rfl)|exact Fit.refl _|exact qA|refine qC ?_ rfl ?_));done)
      case hbo=>(cbv;(repeat' (first|exact qH|refine qI ?_ ?_|exact qK _|refine qJ ?_|exact qA|exact qE (by rfl)|exact qF (by rfl)|exact Fit.refl _|exact qG _|refine qC ?_ rfl ?_));done)
      try cbv)
   |fail)
  all_goals first|((try simp only [qV]at *);(try simp only [zQ,zA,zB,zC,zD,zE,zF,zG,zH,zI,zJ,zK,zL,zM,zN,zO,zP,zR,zS]at *);first|(refine qN ?_;omega)|(simp only [uaq];omega))|(subst hR;exact Fit.refl _;done)|((have hke:k=d.fs.length-m-i:=(by((try simp only [qV]at *);(try simp only [zQ,zA,zB,zC,zD,zE,zF,zG,zH,zI,zJ,zK,zL,zM,zN,zO,zP,zR,zS]at *);omega)));rw [hke]at hG;rw [←hG]at hB;subst hB;(repeat' (first|exact qH|refine qI ?_ ?_|exact qK _|refine qJ ?_|exact qA|exact qE (by rfl)|exact qF (by rfl)|exact Fit.refl _|exact qG _|refine qC ?_ rfl ?_));done)|((try simp only [zQ,zA,zB,zC,zD,zE,zF,zG,zH,zI,zJ,zK,zL,zM,zN,zO,zP,zR,zS]at *);(have hx:=umv eL2 hG);refine⟨⟨k+1,by((try simp only [qV]at *);(try simp only [zQ,zA,zB,zC,zD,zE,zF,zG,zH,zI,zJ,zK,zL,zM,zN,zO,zP,zR,zS]at *);omega)⟩,by simp only [];omega,?_⟩;cbv;(repeat' (first|with_reducible refine ua4 ?_ ?_|with_reducible refine And.intro ?_ ?_));(all_goals first|trivial|exact qM (qE (by rfl))|exact qM (qF (by rfl))|exact qM (Fit.refl _)|exact qL (qK _)|(refine qM (qE ?_);(try simp only [qV]at *);simp only [zQ,zA,zB,zC,zD,zE,zF,zG,zH,zI,zJ,zK,zL,zM,zN,zO,zP,zR,zS]at *;omega)|(refine qL (qJ ?_);(repeat' (first|exact qA|exact qB|refine qC ?_ rfl ?_|refine qD ?_ ?_|exact qE (by rfl)|exact qF (by rfl)|exact Fit.refl _|exact qG _|(refine qE ?_;(try simp only [qV]at *);simp only [zQ,zA,zB,zC,zD,zE,zF,zG,zH,zI,zJ,zK,zL,zM,zN,zO,zP,zR,zS]at *;omega)));done)|(simp only [hx];exact qL (qK _))|(refine qM (qE ?_);(try simp only [qV]at *);(try simp only [zQ,zA,zB,zC,zD,zE,zF,zG,zH,zI,zJ,zK,zL,zM,zN,zO,zP,zR,zS]at *);omega)|skip))|skip
set_option maxHeartbeats 2000000 in
theorem uyz (d:Dsp)(F:List (List Int))(o:List Int)(i m M:Nat)(hd:DOk d)(ho:o.length≤100)(hM:M=m+1)(hi:i+M≤d.pn.toNat)(ih:∀k:Nat,k<d.pn.toNat-m-i→∀(G:List (List Int)) (L:List Int),G=(F++ueA d.pn.toNat (ubG d) m o i k)→L=o++[((i+k:Nat):Int)]→ua0 Tryz.prog 88 [(iS L),(iv fun _=>zi (i+k)+1),(iv fun _=>zi M-1),.own 0 0,.own 1 0,.own 2 0,.own 3 0] [.cells [(wpS d)] 87,.cells [.clo 86 [] [],.clo 87 [] []] 110,.cells [.row 4] 23,.cells [.clo 88 [] [.own 0 0,.own 1 0,.own 2 0,.own 3 0]] 144,.row 22 1 (.sym fun _=>zi (G).length) (fun ix=>[.sl 1 (.sym fun _=>zi ((G).getD ix.den.toNat []).length) (fun jx=>[(iv fun _=>((G).getD ix.den.toNat []).getD jx.den.toNat 0)])])] (fun r bs=>r = .tup []∧bs=[.cells [(wpS d)] 87,.cells [.clo 86 [] [],.clo 87 [] []] 110,.cells [.row 4] 23,.cells [.clo 88 [] [.own 0 0,.own 1 0,.own 2 0,.own 3 0]] 144,.row 22 1 (.sym fun _=>zi ((G++ubS d.pn.toNat (ubG d) m L (i+k+1))).length) (fun ix=>[.sl 1 (.sym fun _=>zi (((G++ubS d.pn.toNat (ubG d) m L (i+k+1))).getD ix.den.toNat []).length) (fun jx=>[(iv fun _=>(((G++ubS d.pn.toNat (ubG d) m L (i+k+1))).getD ix.den.toNat []).getD jx.den.toNat 0)])])])):ua0 Tryz.prog 88 [(iS o),(iv fun _=>zi i),(iv fun _=>zi M),.own 0 0,.own 1 0,.own 2 0,.own 3 0] [.cells [(wpS d)] 87,.cells [.clo 86 [] [],.clo 87 [] []] 110,.cells [.row 4] 23,.cells [.clo 88 [] [.own 0 0,.own 1 0,.own 2 0,.own 3 0]] 144,.row 22 1 (.sym fun _=>zi (F).length) (fun ix=>[.sl 1 (.sym fun _=>zi ((F).getD ix.den.toNat []).length) (fun jx=>[(iv fun _=>((F).getD ix.den.toNat []).getD jx.den.toNat 0)])])] (fun r bs=>r = .tup []∧bs=[.cells [(wpS d)] 87,.cells [.clo 86 [] [],.clo 87 [] []] 110,.cells [.row 4] 23,.cells [.clo 88 [] [.own 0 0,.own 1 0,.own 2 0,.own 3 0]] 144,.row 22 1 (.sym fun _=>zi ((F++ueA d.pn.toNat (ubG d) m o i (d.pn.toNat-m-i))).length) (fun ix=>[.sl 1 (.sym fun _=>zi (((F++ueA d.pn.toNat (ubG d) m o i (d.pn.toNat-m-i))).getD ix.den.toNat []).length) (fun jx=>[(iv fun _=>(((F++ueA d.pn.toNat (ubG d) m o i (d.pn.toNat-m-i))).getD ix.den.toNat []).getD jx.den.toNat 0)])])]):=by
 have c90:=uiX d
 have c94:=uoV o (by omega)
 refine ua0.isB rfl fun R B hR hB=>qW (sc:=uw0) uan mix Tryz.func88 rfl Tryz.call88 (by kernel_rfl) (by kernel_rfl) ?_
 generalize Tryz.prog=P at c90 c94 ih⊢
 cbv
 have s3:=hd.p4
 have f6:=hd.f6
 have p1:=hd.p1
 repeat' (first|with_reducible refine And.intro ?_ ?_|(with_reducible intro hcd;(try simp only [zA,zB,zC,zD,zE,zF,zG,zH,zI,zJ,zK,zL,zM,zN,zO,zP]at hcd);try cbv)|fail)
 all_goals first|(exfalso;(try simp only [qV]at *);(try simp only [zQ,zA,zB,zC,zD,zE,zF,zG,zH,zI,zJ,zK,zL,zM,zN,zO,zP,zR,zS]at *);omega)|skip
 refine⟨none,[],{k:Nat // k≤d.pn.toNat-m-i},fun x=>⟨[(0,(iS o)),(2,(iv fun _=>zi M)),(3,.own 0 0),(4,.own 1 0),(5,.own 2 0),(6,.own 3 0),(12,(iv fun _=>zi (i+x.1)))],[(0,.cells [(wpS d)] 87),(1,.cells [.clo 86 [] [],.clo 87 [] []] 110),(2,.cells [.row 4] 23),(3,.cells [.clo 88 [] [.own 0 0,.own 1 0,.own 2 0,.own 3 0]] 144),(4,.row 22 1 (.sym fun _=>zi ((F++ueA d.pn.toNat (ubG d) m o i x.1)).length) (fun ix=>[.sl 1 (.sym fun _=>zi (((F++ueA d.pn.toNat (ubG d) m o i x.1)).getD ix.den.toNat []).length) (fun jx=>[(iv fun _=>(((F++ueA d.pn.toNat (ubG d) m o i x.1)).getD ix.den.toNat []).getD jx.den.toNat 0)])]))],60⟩,fun x=>d.pn.toNat-m-i-x.1,?_,?_⟩
 ·refine⟨⟨0,by omega⟩,?_⟩
  cbv
  repeat' (first|with_reducible refine ua4 ?_ ?_|with_reducible refine And.intro ?_ ?_)
  all_goals first|trivial|exact qM (qE (by rfl))|exact qM (Fit.refl _)|exact qL (qK _)|(simp only [ueA,List.append_nil];exact qL (qK _))|skip
 ·rintro ⟨k,hk⟩
  cbv
  obtain⟨G,hG⟩:∃G,G=(F++ueA d.pn.toNat (ubG d) m o i k):=⟨_,rfl⟩
  rw [←hG]
  cbv
  repeat' (first
   |with_reducible refine ua4 ?_ ?_
   |with_reducible refine And.intro ?_ ?_
   |(with_reducible intro hcd;(try simp only [zA,zB,zC,zD,zE,zF,zG,zH,zI,zJ,zK,zL,zM,zN,zO,zP]at hcd);try cbv)
   |(refine qP ?_ (c90) ?hfit;(case hfit=>((repeat' (first|exact qB|refine qD ?_ ?_|exact qE (by rfl)|exact qF (by rfl)|exact Fit.refl _|exact qA|refine qC ?_ rfl ?_));done));try cbv)
   | (refine Or.inr ⟨true,?_⟩
      cbv
      refine qU ?_ (c94) (by cbv;(repeat' (first|exact qB|refine qD ?_ ?_|exact qE (by rfl)|exact qF (by rfl)|exact Fit.refl _|exact qA|refine qC ?_ rfl ?_))) (by cbv;(repeat' (first|exact qH|refine qI ?_ ?_|exact qK _|refine qJ ?_|exact qA|exact qE (by rfl)|exact qF (by rfl)|exact Fit.refl _|exact qG _|refine qC ?_ rfl ?_)))
      try cbv)
   | (obtain⟨L2,eL2⟩:∃y:List Int,y=o++[((i+k:Nat):Int)]:=⟨_,rfl⟩
      refine⟨udJ L2,?_⟩
      cbv
      refine ua4 (ual (L:=o) eL2 (by(first|rfl|((try simp only [qV]at *);(try simp only [zQ,zA,zB,zC,zD,zE,zF,zG,zH,zI,zJ,zK,zL,zM,zN,zO,zP,zR,zS]at *);done)|((try simp only [qV]at *);(try simp only [zQ,zA,zB,zC,zD,zE,zF,zG,zH,zI,zJ,zK,zL,zM,zN,zO,zP,zR,zS]at *);omega))) (by rfl) (fun ix=>Fit.refl _) (fun ix h=>qC (qE (by rfl)) rfl qA) (by(try simp only [qV]at *);(try simp only [zQ,zA,zB,zC,zD,zE,zF,zG,zH,zI,zJ,zK,zL,zM,zN,zO,zP,zR,zS]at *);omega)) (Or.inr ⟨true,?_⟩)
      try cbv)
   | (refine⟨some [0,1,2,3,4],?_⟩
      cbv
      refine qQ ?_ (ih k (by((try simp only [qV]at *);(try simp only [zQ,zA,zB,zC,zD,zE,zF,zG,zH,zI,zJ,zK,zL,zM,zN,zO,zP,zR,zS]at *);omega)) G L2 hG eL2) ?hfit ?hbo
      case hfit=>(cbv;refine qD (ua2 (utt eL2) (fun _ _ _=>Fit.refl _)) ?_;(repeat' (first|exact qB|refine qD ?_ ?_|exact qE (by rfl)|exact qF (by rfl)|exact Fit.refl _|exact qA|refine qC ?_ rfl ?_));done)
      case hbo=>(cbv;(repeat' (first|exact qH|refine qI ?_ ?_|exact qK _|refine qJ ?_|exact qA|exact qE (by rfl)|exact qF (by rfl)|exact Fit.refl _|exact qG _|refine qC ?_ rfl ?_));done)
      try cbv)
   |fail)
  all_goals first|((try simp only [qV]at *);(try simp only [zQ,zA,zB,zC,zD,zE,zF,zG,zH,zI,zJ,zK,zL,zM,zN,zO,zP,zR,zS]at *);first|(refine qN ?_;omega)|(simp only [uaq];omega))|(subst hR;exact Fit.refl _;done)|((have hke:k=d.pn.toNat-m-i:=(by((try simp only [qV]at *);(try simp only [zQ,zA,zB,zC,zD,zE,zF,zG,zH,zI,zJ,zK,zL,zM,zN,zO,zP,zR,zS]at *);omega)));rw [hke]at hG;rw [←hG]at hB;subst hB;(repeat' (first|exact qH|refine qI ?_ ?_|exact qK _|refine qJ ?_|exact qA|exact qE (by rfl)|exact qF (by rfl)|exact Fit.refl _|exact qG _|refine qC ?_ rfl ?_));done)|((try simp only [zQ,zA,zB,zC,zD,zE,zF,zG,zH,zI,zJ,zK,zL,zM,zN,zO,zP,zR,zS]at *);(have hx:=umv eL2 hG);refine⟨⟨k+1,by((try simp only [qV]at *);(try simp only [zQ,zA,zB,zC,zD,zE,zF,zG,zH,zI,zJ,zK,zL,zM,zN,zO,zP,zR,zS]at *);omega)⟩,by simp only [];omega,?_⟩;cbv;(repeat' (first|with_reducible refine ua4 ?_ ?_|with_reducible refine And.intro ?_ ?_));(all_goals first|trivial|exact qM (qE (by rfl))|exact qM (qF (by rfl))|exact qM (Fit.refl _)|exact qL (qK _)|(refine qM (qE ?_);(try simp only [qV]at *);simp only [zQ,zA,zB,zC,zD,zE,zF,zG,zH,zI,zJ,zK,zL,zM,zN,zO,zP,zR,zS]at *;omega)|(refine qL (qJ ?_);(repeat' (first|exact qA|exact qB|refine qC ?_ rfl ?_|refine qD ?_ ?_|exact qE (by rfl)|exact qF (by rfl)|exact Fit.refl _|exact qG _|(refine qE ?_;(try simp only [qV]at *);simp only [zQ,zA,zB,zC,zD,zE,zF,zG,zH,zI,zJ,zK,zL,zM,zN,zO,zP,zR,zS]at *;omega)));done)|(simp only [hx];exact qL (qK _))|(refine qM (qE ?_);(try simp only [qV]at *);(try simp only [zQ,zA,zB,zC,zD,zE,zF,zG,zH,zI,zJ,zK,zL,zM,zN,zO,zP,zR,zS]at *);omega)|skip))|skip
theorem uBx (d:Dsp)(hd:DOk d):∀(m:Nat) (F:List (List Int)) (o:List Int) (i:Nat) (ie me:Int),ie=(i:Int)→me=(m:Int)→o.length≤i→i+m≤d.fs.length→F.length+(ubS d.fs.length (udh d) m o i).length≤1000000→ua0 Tryz.prog 88 [(iS o),(iv fun _=>ie),(iv fun _=>me),.own 0 0,.own 1 0,.own 2 0,.own 3 0] [.cells [(wpS d)] 87,.cells [.clo 84 [] [],.clo 85 [] []] 110,.cells [.row 4] 23,.cells [.clo 88 [] [.own 0 0,.own 1 0,.own 2 0,.own 3 0]] 144,.row 22 1 (.sym fun _=>zi (F).length) (fun ix=>[.sl 1 (.sym fun _=>zi ((F).getD ix.den.toNat []).length) (fun jx=>[(iv fun _=>((F).getD ix.den.toNat []).getD jx.den.toNat 0)])])] (fun r bs=>r = .tup []∧bs=[.cells [(wpS d)] 87,.cells [.clo 84 [] [],.clo 85 [] []] 110,.cells [.row 4] 23,.cells [.clo 88 [] [.own 0 0,.own 1 0,.own 2 0,.own 3 0]] 144,.row 22 1 (.sym fun _=>zi ((F++ubS d.fs.length (udh d) m o i)).length) (fun ix=>[.sl 1 (.sym fun _=>zi (((F++ubS d.fs.length (udh d) m o i)).getD ix.den.toNat []).length) (fun jx=>[(iv fun _=>(((F++ubS d.fs.length (udh d) m o i)).getD ix.den.toNat []).getD jx.den.toNat 0)])])]):=by
 have hf6:=hd.f6
 have hp4:=hd.p4
 intro m
 induction m with
 | zero=>
  intro F o i ie me hie hme ho him hB
  have hm0:me=0:=by omega
  subst hm0
  cases hok:(udh d) o with
  | true=>
   rw [show ubS d.fs.length (udh d) 0 o i=[o] by simp only [ubS,hok,if_true]]
   exact ux9 d F o ie hd (by omega) (by omega) hok
  | false=>
   rw [show ubS d.fs.length (udh d) 0 o i=[] by simp only [ubS,hok,Bool.false_eq_true,if_false],List.append_nil]
   exact uwC d F o ie hd (by omega) (by omega) hok
 | succ m ih=>
  intro F o i ie me hie hme ho him hB
  subst hie
  subst hme
  rw [uif]at hB⊢
  refine uza d F o i m (m+1) hd (by omega) rfl him fun k hk G L hG hL=> ?_
  refine ih G L (i+k+1) (zi (i+k)+1) (zi (m+1)-1) (by simp only [uaa];omega) (by simp only [uaa];omega) (by rw [hL,List.length_append];simp only [List.length_cons,List.length_nil];omega) (by omega) ?_
  have h1:=utw (n:=d.fs.length) (ok:=(udh d)) (m:=m) (o:=o) (i:=i) (show k+1≤d.fs.length-m-i by omega)
  have h2:=congrArg List.length (umv (F:=F) hL hG)
  rw [List.length_append,List.length_append]at h2
  omega
theorem uAf (d:Dsp)(hd:DOk d):∀(m:Nat) (F:List (List Int)) (o:List Int) (i:Nat) (ie me:Int),ie=(i:Int)→me=(m:Int)→o.length≤i→i+m≤d.pn.toNat→F.length+(ubS d.pn.toNat (ubG d) m o i).length≤1000000→ua0 Tryz.prog 88 [(iS o),(iv fun _=>ie),(iv fun _=>me),.own 0 0,.own 1 0,.own 2 0,.own 3 0] [.cells [(wpS d)] 87,.cells [.clo 86 [] [],.clo 87 [] []] 110,.cells [.row 4] 23,.cells [.clo 88 [] [.own 0 0,.own 1 0,.own 2 0,.own 3 0]] 144,.row 22 1 (.sym fun _=>zi (F).length) (fun ix=>[.sl 1 (.sym fun _=>zi ((F).getD ix.den.toNat []).length) (fun jx=>[(iv fun _=>((F).getD ix.den.toNat []).getD jx.den.toNat 0)])])] (fun r bs=>r = .tup []∧bs=[.cells [(wpS d)] 87,.cells [.clo 86 [] [],.clo 87 [] []] 110,.cells [.row 4] 23,.cells [.clo 88 [] [.own 0 0,.own 1 0,.own 2 0,.own 3 0]] 144,.row 22 1 (.sym fun _=>zi ((F++ubS d.pn.toNat (ubG d) m o i)).length) (fun ix=>[.sl 1 (.sym fun _=>zi (((F++ubS d.pn.toNat (ubG d) m o i)).getD ix.den.toNat []).length) (fun jx=>[(iv fun _=>(((F++ubS d.pn.toNat (ubG d) m o i)).getD ix.den.toNat []).getD jx.den.toNat 0)])])]):=by
 have hf6:=hd.f6
 have hp4:=hd.p4
 intro m
 induction m with
 | zero=>
  intro F o i ie me hie hme ho him hB
  have hm0:me=0:=by omega
  subst hm0
  cases hok:(ubG d) o with
  | true=>
   rw [show ubS d.pn.toNat (ubG d) 0 o i=[o] by simp only [ubS,hok,if_true]]
   exact uw1 d F o ie hd (by omega) (by omega) hok
  | false=>
   rw [show ubS d.pn.toNat (ubG d) 0 o i=[] by simp only [ubS,hok,Bool.false_eq_true,if_false],List.append_nil]
   exact uwV d F o ie hd (by omega) (by omega) hok
 | succ m ih=>
  intro F o i ie me hie hme ho him hB
  subst hie
  subst hme
  rw [uif]at hB⊢
  refine uyz d F o i m (m+1) hd (by omega) rfl him fun k hk G L hG hL=> ?_
  refine ih G L (i+k+1) (zi (i+k)+1) (zi (m+1)-1) (by simp only [uaa];omega) (by simp only [uaa];omega) (by rw [hL,List.length_append];simp only [List.length_cons,List.length_nil];omega) (by omega) ?_
  have h1:=utw (n:=d.pn.toNat) (ok:=(ubG d)) (m:=m) (o:=o) (i:=i) (show k+1≤d.pn.toNat-m-i by omega)
  have h2:=congrArg List.length (umv (F:=F) hL hG)
  rw [List.length_append,List.length_append]at h2
  omega
theorem uto {n:Nat} {ok:List Int→Bool} {m k:Nat}(hk:0<k)(h:ubS n ok m [] 0=[]):uq0 n ok k m=uq0 n ok (k-1) (m+1):=by
 cases k with
 |zero=>omega
 |succ k=>simp only [uq0,h,List.isEmpty_nil,if_true,Nat.add_sub_cancel]
theorem um3 {n:Nat} {ok:List Int→Bool} {m k:Nat}(hk:0<k)(h:ubS n ok m [] 0≠[]):uq0 n ok k m=ubS n ok m [] 0:=by
 cases k with
 |zero=>omega
 | succ k=>
  simp only [uq0]
  rw [if_neg (by simpa using h)]
theorem umg {d:Dsp} {n:Nat} {ok:List Int→Bool} {m:Nat}(hn:n≤6)(hm:m≤n):(ubS n ok m [] 0).length≤1000000:=by
 refine Nat.le_trans umd (Nat.le_trans (Nat.pow_le_pow_left hn m) (Nat.le_trans (Nat.pow_le_pow_right (by omega) (show m≤6 by omega)) (by decide)))
theorem uoZ (d:Dsp)(hd:DOk d):ua0 Tryz.prog 51 [(.agg [.clo 84 [] [],.clo 85 [] []]),(wpS d)] [] (fun r _=>r=(.sl 1 (.sym fun _=>zi ((uaw d.fs.length (udh d))).length) (fun ix=>[(.sl 1 (.sym fun _=>zi (((uaw d.fs.length (udh d))).getD ix.den.toNat []).length) (fun jx=>[(iv fun _=>(((uaw d.fs.length (udh d))).getD ix.den.toNat []).getD jx.den.toNat 0)]))]))):=by
 have c88:=uqG d
 have f6:=hd.f6
 have p4:=hd.p4
 have p1:=hd.p1
 have cadd:=fun (x:Nat) (h:x≤d.fs.length)=>(show ua0 Tryz.prog 88 [(iS (([]:List Int))),(iv fun _=>0),(iv fun _=>zi x),.own 0 0,.own 1 0,.own 2 0,.own 3 0] [.cells [(wpS d)] 87,.cells [.clo 84 [] [],.clo 85 [] []] 110,.cells [.row 4] 23,.cells [.clo 88 [] [.own 0 0,.own 1 0,.own 2 0,.own 3 0]] 144,.row 22 1 (.sym fun _=>zi (([]:List (List Int))).length) (fun ix=>[.sl 1 (.sym fun _=>zi ((([]:List (List Int))).getD ix.den.toNat []).length) (fun jx=>[(iv fun _=>((([]:List (List Int))).getD ix.den.toNat []).getD jx.den.toNat 0)])])] (fun r bs=>r = .tup []∧bs=[.cells [(wpS d)] 87,.cells [.clo 84 [] [],.clo 85 [] []] 110,.cells [.row 4] 23,.cells [.clo 88 [] [.own 0 0,.own 1 0,.own 2 0,.own 3 0]] 144,.row 22 1 (.sym fun _=>zi ((ubS d.fs.length (udh d) x [] 0)).length) (fun ix=>[.sl 1 (.sym fun _=>zi (((ubS d.fs.length (udh d) x [] 0)).getD ix.den.toNat []).length) (fun jx=>[(iv fun _=>(((ubS d.fs.length (udh d) x [] 0)).getD ix.den.toNat []).getD jx.den.toNat 0)])])])from uBx d hd x [] [] 0 0 (zi x) rfl (by simp only [uaa]) (Nat.le_refl _) (by omega) (by have:=umg (d:=d) (n:=d.fs.length) (ok:=(udh d)) (m:=x) (by omega) h;simp only [List.length_nil];omega))
 refine ua0.is fun R hR=>qW (sc:=uzU) uan mix Tryz.func51 rfl Tryz.call51 (by kernel_rfl) (by kernel_rfl) ?_
 generalize Tryz.prog=P at c88 cadd⊢
 cbv
 repeat' (first|with_reducible refine ua4 ?_ ?_|(refine qP ?_ (c88) ?hfit;(case hfit=>((repeat' (first|exact qB|refine qD ?_ ?_|exact qE (by rfl)|exact qF (by rfl)|exact Fit.refl _|exact qA|refine qC ?_ rfl ?_));done));try cbv)|fail)
 all_goals first|((try simp only [qV]at *);(try simp only [zQ,zA,zB,zC,zD,zE,zF,zG,zH,zI,zJ,zK,zL,zM,zN,zO,zP,zR,zS]at *);first|(refine qN ?_;omega)|(simp only [uaq];omega))|skip
 refine⟨none,[⟨.cell 2 0,22,1⟩],{x:Nat // x≤d.fs.length+1∧uaw d.fs.length (udh d)=uq0 d.fs.length (udh d) (d.fs.length+1-x) x},fun x=>⟨[(2,.own 0 0),(3,.own 1 0),(4,.own 2 0),(5,.own 3 0),(12,(iv fun _=>zi d.fs.length+1)),(13,(iv fun _=>zi x.1))],[(0,.cells [.clo 84 [] [],.clo 85 [] []] 110),(1,.cells [(wpS d)] 87),(2,.cells [.row 12] 23),(3,.cells [.clo 88 [] [.own 1 0,.own 0 0,.own 2 0,.own 3 0]] 144),(12,.row 22 1 (.sym fun _=>zi (([]:List (List Int))).length) (fun ix=>[.sl 1 (.sym fun _=>zi ((([]:List (List Int))).getD ix.den.toNat []).length) (fun jx=>[(iv fun _=>((([]:List (List Int))).getD ix.den.toNat []).getD jx.den.toNat 0)])]))],60⟩,fun x=>d.fs.length+1-x.1,?_,?_⟩
 ·refine⟨⟨0,by omega,rfl⟩,?_⟩
  cbv
  repeat' (first|with_reducible refine ua4 ?_ ?_|with_reducible refine And.intro ?_ ?_)
  all_goals first|trivial|exact qM (qE (by rfl))|exact qM (Fit.refl _)|exact qL (qK _)|(refine qL (ua9 ?_ ?_);(first|rfl|((try simp only [qV]at *);(try simp only [zQ,zA,zB,zC,zD,zE,zF,zG,zH,zI,zJ,zK,zL,zM,zN,zO,zP,zR,zS]at *);omega));intro ix h0 h1;exfalso;(try simp only [qV]at *);(try simp only [zQ,zA,zB,zC,zD,zE,zF,zG,zH,zI,zJ,zK,zL,zM,zN,zO,zP,zR,zS]at *);omega)|skip
 ·rintro ⟨x,hx,h3⟩
  cbv
  obtain⟨A,hA⟩:∃A,A=ubS d.fs.length (udh d) x [] 0:=⟨_,rfl⟩
  have caddx:=fun h=>cadd x h
  rw [←hA]at caddx
  cbv
  repeat' (first
   |with_reducible refine ua4 ?_ ?_
   |with_reducible refine And.intro ?_ ?_
   |(with_reducible intro hcd;(try simp only [zA,zB,zC,zD,zE,zF,zG,zH,zI,zJ,zK,zL,zM,zN,zO,zP]at hcd);try cbv)
   | (refine⟨some [1,0,2,3,12],?_⟩
      cbv
      refine qQ ?_ (caddx (by((try simp only [qV]at *);(try simp only [zQ,zA,zB,zC,zD,zE,zF,zG,zH,zI,zJ,zK,zL,zM,zN,zO,zP,zR,zS]at *);omega))) ?hfit ?hbo
      case hfit=>(cbv;refine qD (qO rfl) ?_;(repeat' (first|exact qB|refine qD ?_ ?_|exact qE (by rfl)|exact qF (by rfl)|exact Fit.refl _|exact qA|refine qC ?_ rfl ?_));done)
      case hbo=>(cbv;(repeat' (first|exact qH|refine qI ?_ ?_|exact qK _|refine qJ ?_|exact qA|exact qE (by rfl)|exact qF (by rfl)|exact Fit.refl _|exact qG _|refine qC ?_ rfl ?_));done)
      try cbv)
   |fail)
  all_goals first|((try simp only [qV]at *);(try simp only [zQ,zA,zB,zC,zD,zE,zF,zG,zH,zI,zJ,zK,zL,zM,zN,zO,zP,zR,zS]at *);first|(refine qN ?_;omega)|(simp only [uaq];omega))|(subst hR;((have hne:A≠[]:=fun q=>by(rw [q]at hcd;(try simp only [qV]at *);(try simp only [zQ,zA,zB,zC,zD,zE,zF,zG,zH,zI,zJ,zK,zL,zM,zN,zO,zP,zR,zS]at *);simp only [List.length_nil]at hcd;omega));(have e9:=h3.trans (um3 (by((try simp only [qV]at *);(try simp only [zQ,zA,zB,zC,zD,zE,zF,zG,zH,zI,zJ,zK,zL,zM,zN,zO,zP,zR,zS]at *);omega)) (by rw [←hA];exact hne)));rw [←hA]at e9;rw [e9];exact Fit.refl _);done)|(subst hR;((have hz:d.fs.length+1-x=0:=by((try simp only [qV]at *);(try simp only [zQ,zA,zB,zC,zD,zE,zF,zG,zH,zI,zJ,zK,zL,zM,zN,zO,zP,zR,zS]at *);omega));rw [hz]at h3;rw [show uaw d.fs.length (udh d)=[]from h3];exact Fit.refl _);done)|((try simp only [zQ,zA,zB,zC,zD,zE,zF,zG,zH,zI,zJ,zK,zL,zM,zN,zO,zP,zR,zS]at *);(have hAe:A=[]:=List.length_eq_zero_iff.1 (by((try simp only [qV]at *);(try simp only [zQ,zA,zB,zC,zD,zE,zF,zG,zH,zI,zJ,zK,zL,zM,zN,zO,zP,zR,zS]at *);omega)));refine⟨⟨x+1,by((try simp only [qV]at *);(try simp only [zQ,zA,zB,zC,zD,zE,zF,zG,zH,zI,zJ,zK,zL,zM,zN,zO,zP,zR,zS]at *);omega),by rw [show d.fs.length+1-(x+1)=d.fs.length+1-x-1 by omega,←uto (by((try simp only [qV]at *);(try simp only [zQ,zA,zB,zC,zD,zE,zF,zG,zH,zI,zJ,zK,zL,zM,zN,zO,zP,zR,zS]at *);omega)) (hA.symm.trans hAe)];exact h3⟩,by simp only [];omega,?_⟩;cbv;(repeat' (first|with_reducible refine ua4 ?_ ?_|with_reducible refine And.intro ?_ ?_));(all_goals first|trivial|exact qM (qE (by rfl))|exact qM (qF (by rfl))|exact qM (Fit.refl _)|exact qL (qK _)|(refine qM (qE ?_);(try simp only [qV]at *);simp only [zQ,zA,zB,zC,zD,zE,zF,zG,zH,zI,zJ,zK,zL,zM,zN,zO,zP,zR,zS]at *;omega)|(refine qL (qJ ?_);(repeat' (first|exact qA|exact qB|refine qC ?_ rfl ?_|refine qD ?_ ?_|exact qE (by rfl)|exact qF (by rfl)|exact Fit.refl _|exact qG _|(refine qE ?_;(try simp only [qV]at *);simp only [zQ,zA,zB,zC,zD,zE,zF,zG,zH,zI,zJ,zK,zL,zM,zN,zO,zP,zR,zS]at *;omega)));done)|(simp only [hAe];exact qL (qK _))|(refine qL (ua9 ?_ ?_);(first|rfl|(simp only [hAe];rfl));intro ix h0 h1;exfalso;simp only [hAe]at h1;(try simp only [qV]at *);(try simp only [zQ,zA,zB,zC,zD,zE,zF,zG,zH,zI,zJ,zK,zL,zM,zN,zO,zP,zR,zS]at *);omega)|skip))|skip
theorem ugR (d:Dsp)(hd:DOk d):ua0 Tryz.prog 51 [(.agg [.clo 86 [] [],.clo 87 [] []]),(wpS d)] [] (fun r _=>r=(.sl 1 (.sym fun _=>zi ((uaw d.pn.toNat (ubG d))).length) (fun ix=>[(.sl 1 (.sym fun _=>zi (((uaw d.pn.toNat (ubG d))).getD ix.den.toNat []).length) (fun jx=>[(iv fun _=>(((uaw d.pn.toNat (ubG d))).getD ix.den.toNat []).getD jx.den.toNat 0)]))]))):=by
 have c90:=uiX d
 have f6:=hd.f6
 have p4:=hd.p4
 have p1:=hd.p1
 have cadd:=fun (x:Nat) (h:x≤d.pn.toNat)=>(show ua0 Tryz.prog 88 [(iS (([]:List Int))),(iv fun _=>0),(iv fun _=>zi x),.own 0 0,.own 1 0,.own 2 0,.own 3 0] [.cells [(wpS d)] 87,.cells [.clo 86 [] [],.clo 87 [] []] 110,.cells [.row 4] 23,.cells [.clo 88 [] [.own 0 0,.own 1 0,.own 2 0,.own 3 0]] 144,.row 22 1 (.sym fun _=>zi (([]:List (List Int))).length) (fun ix=>[.sl 1 (.sym fun _=>zi ((([]:List (List Int))).getD ix.den.toNat []).length) (fun jx=>[(iv fun _=>((([]:List (List Int))).getD ix.den.toNat []).getD jx.den.toNat 0)])])] (fun r bs=>r = .tup []∧bs=[.cells [(wpS d)] 87,.cells [.clo 86 [] [],.clo 87 [] []] 110,.cells [.row 4] 23,.cells [.clo 88 [] [.own 0 0,.own 1 0,.own 2 0,.own 3 0]] 144,.row 22 1 (.sym fun _=>zi ((ubS d.pn.toNat (ubG d) x [] 0)).length) (fun ix=>[.sl 1 (.sym fun _=>zi (((ubS d.pn.toNat (ubG d) x [] 0)).getD ix.den.toNat []).length) (fun jx=>[(iv fun _=>(((ubS d.pn.toNat (ubG d) x [] 0)).getD ix.den.toNat []).getD jx.den.toNat 0)])])])from uAf d hd x [] [] 0 0 (zi x) rfl (by simp only [uaa]) (Nat.le_refl _) (by omega) (by have:=umg (d:=d) (n:=d.pn.toNat) (ok:=(ubG d)) (m:=x) (by omega) h;simp only [List.length_nil];omega))
 refine ua0.is fun R hR=>qW (sc:=uzU) uan mix Tryz.func51 rfl Tryz.call51 (by kernel_rfl) (by kernel_rfl) ?_
 generalize Tryz.prog=P at c90 cadd⊢
 cbv
 repeat' (first|with_reducible refine ua4 ?_ ?_|(refine qP ?_ (c90) ?hfit;(case hfit=>((repeat' (first|exact qB|refine qD ?_ ?_|exact qE (by rfl)|exact qF (by rfl)|exact Fit.refl _|exact qA|refine qC ?_ rfl ?_));done));try cbv)|fail)
 all_goals first|((try simp only [qV]at *);(try simp only [zQ,zA,zB,zC,zD,zE,zF,zG,zH,zI,zJ,zK,zL,zM,zN,zO,zP,zR,zS]at *);first|(refine qN ?_;omega)|(simp only [uaq];omega))|skip
 refine⟨none,[⟨.cell 2 0,22,1⟩],{x:Nat // x≤d.pn.toNat+1∧uaw d.pn.toNat (ubG d)=uq0 d.pn.toNat (ubG d) (d.pn.toNat+1-x) x},fun x=>⟨[(2,.own 0 0),(3,.own 1 0),(4,.own 2 0),(5,.own 3 0),(12,(iv fun _=>d.pn+1)),(13,(iv fun _=>zi x.1))],[(0,.cells [.clo 86 [] [],.clo 87 [] []] 110),(1,.cells [(wpS d)] 87),(2,.cells [.row 12] 23),(3,.cells [.clo 88 [] [.own 1 0,.own 0 0,.own 2 0,.own 3 0]] 144),(12,.row 22 1 (.sym fun _=>zi (([]:List (List Int))).length) (fun ix=>[.sl 1 (.sym fun _=>zi ((([]:List (List Int))).getD ix.den.toNat []).length) (fun jx=>[(iv fun _=>((([]:List (List Int))).getD ix.den.toNat []).getD jx.den.toNat 0)])]))],60⟩,fun x=>d.pn.toNat+1-x.1,?_,?_⟩
 ·refine⟨⟨0,by omega,rfl⟩,?_⟩
  cbv
  repeat' (first|with_reducible refine ua4 ?_ ?_|with_reducible refine And.intro ?_ ?_)
  all_goals first|trivial|exact qM (qE (by rfl))|exact qM (Fit.refl _)|exact qL (qK _)|(refine qL (ua9 ?_ ?_);(first|rfl|((try simp only [qV]at *);(try simp only [zQ,zA,zB,zC,zD,zE,zF,zG,zH,zI,zJ,zK,zL,zM,zN,zO,zP,zR,zS]at *);omega));intro ix h0 h1;exfalso;(try simp only [qV]at *);(try simp only [zQ,zA,zB,zC,zD,zE,zF,zG,zH,zI,zJ,zK,zL,zM,zN,zO,zP,zR,zS]at *);omega)|skip
 ·rintro ⟨x,hx,h3⟩
  cbv
  obtain⟨A,hA⟩:∃A,A=ubS d.pn.toNat (ubG d) x [] 0:=⟨_,rfl⟩
  have caddx:=fun h=>cadd x h
  rw [←hA]at caddx
  cbv
  repeat' (first
   |with_reducible refine ua4 ?_ ?_
   |with_reducible refine And.intro ?_ ?_
   |(with_reducible intro hcd;(try simp only [zA,zB,zC,zD,zE,zF,zG,zH,zI,zJ,zK,zL,zM,zN,zO,zP]at hcd);try cbv)
   | (refine⟨some [1,0,2,3,12],?_⟩
      cbv
      refine qQ ?_ (caddx (by((try simp only [qV]at *);(try simp only [zQ,zA,zB,zC,zD,zE,zF,zG,zH,zI,zJ,zK,zL,zM,zN,zO,zP,zR,zS]at *);omega))) ?hfit ?hbo
      case hfit=>(cbv;refine qD (qO rfl) ?_;(repeat' (first|exact qB|refine qD ?_ ?_|exact qE (by rfl)|exact qF (by rfl)|exact Fit.refl _|exact qA|refine qC ?_ rfl ?_));done)
      case hbo=>(cbv;(repeat' (first|exact qH|refine qI ?_ ?_|exact qK _|refine qJ ?_|exact qA|exact qE (by rfl)|exact qF (by rfl)|exact Fit.refl _|exact qG _|refine qC ?_ rfl ?_));done)
      try cbv)
   |fail)
  all_goals first|((try simp only [qV]at *);(try simp only [zQ,zA,zB,zC,zD,zE,zF,zG,zH,zI,zJ,zK,zL,zM,zN,zO,zP,zR,zS]at *);first|(refine qN ?_;omega)|(simp only [uaq];omega))|(subst hR;((have hne:A≠[]:=fun q=>by(rw [q]at hcd;(try simp only [qV]at *);(try simp only [zQ,zA,zB,zC,zD,zE,zF,zG,zH,zI,zJ,zK,zL,zM,zN,zO,zP,zR,zS]at *);simp only [List.length_nil]at hcd;omega));(have e9:=h3.trans (um3 (by((try simp only [qV]at *);(try simp only [zQ,zA,zB,zC,zD,zE,zF,zG,zH,zI,zJ,zK,zL,zM,zN,zO,zP,zR,zS]at *);omega)) (by rw [←hA];exact hne)));rw [←hA]at e9;rw [e9];exact Fit.refl _);done)|(subst hR;((have hz:d.pn.toNat+1-x=0:=by((try simp only [qV]at *);(try simp only [zQ,zA,zB,zC,zD,zE,zF,zG,zH,zI,zJ,zK,zL,zM,zN,zO,zP,zR,zS]at *);omega));rw [hz]at h3;rw [show uaw d.pn.toNat (ubG d)=[]from h3];exact Fit.refl _);done)|((try simp only [zQ,zA,zB,zC,zD,zE,zF,zG,zH,zI,zJ,zK,zL,zM,zN,zO,zP,zR,zS]at *);(have hAe:A=[]:=List.length_eq_zero_iff.1 (by((try simp only [qV]at *);(try simp only [zQ,zA,zB,zC,zD,zE,zF,zG,zH,zI,zJ,zK,zL,zM,zN,zO,zP,zR,zS]at *);omega)));refine⟨⟨x+1,by((try simp only [qV]at *);(try simp only [zQ,zA,zB,zC,zD,zE,zF,zG,zH,zI,zJ,zK,zL,zM,zN,zO,zP,zR,zS]at *);omega),by rw [show d.pn.toNat+1-(x+1)=d.pn.toNat+1-x-1 by omega,←uto (by((try simp only [qV]at *);(try simp only [zQ,zA,zB,zC,zD,zE,zF,zG,zH,zI,zJ,zK,zL,zM,zN,zO,zP,zR,zS]at *);omega)) (hA.symm.trans hAe)];exact h3⟩,by simp only [];omega,?_⟩;cbv;(repeat' (first|with_reducible refine ua4 ?_ ?_|with_reducible refine And.intro ?_ ?_));(all_goals first|trivial|exact qM (qE (by rfl))|exact qM (qF (by rfl))|exact qM (Fit.refl _)|exact qL (qK _)|(refine qM (qE ?_);(try simp only [qV]at *);simp only [zQ,zA,zB,zC,zD,zE,zF,zG,zH,zI,zJ,zK,zL,zM,zN,zO,zP,zR,zS]at *;omega)|(refine qL (qJ ?_);(repeat' (first|exact qA|exact qB|refine qC ?_ rfl ?_|refine qD ?_ ?_|exact qE (by rfl)|exact qF (by rfl)|exact Fit.refl _|exact qG _|(refine qE ?_;(try simp only [qV]at *);simp only [zQ,zA,zB,zC,zD,zE,zF,zG,zH,zI,zJ,zK,zL,zM,zN,zO,zP,zR,zS]at *;omega)));done)|(simp only [hAe];exact qL (qK _))|(refine qL (ua9 ?_ ?_);(first|rfl|(simp only [hAe];rfl));intro ix h0 h1;exfalso;simp only [hAe]at h1;(try simp only [qV]at *);(try simp only [zQ,zA,zB,zC,zD,zE,zF,zG,zH,zI,zJ,zK,zL,zM,zN,zO,zP,zR,zS]at *);omega)|skip))|skip
end Go.Proofs.YtkdggbfknlcdaaaGreat
namespace Go.Proofs.YtkdggbfknlcdaaaGreat
open Go.Eng.Dif Go.Eng.Few
def ptD (d:Dsp)(i:Nat):Int:=(d.fs.getD i f0T).p
theorem ukU (d:Dsp):udh d=okF (SN d) (LO d) (FO d d.fs):=funext fun o=>upF
theorem ug7 {d:Dsp}(h:DOk d):ubG d=okP (SN d) (LO d) (FO d d.fs) (ptD d):=by
 funext o
 unfold ubG okP
 rw [upF]
 unfold okF
 refine ugi (okk h h.f) fun i hi=> ?_
 rw [udV]at hi
 unfold uwu uk5
 have e:(thN d o d.fs.length).contains (i:Int)=inL o (d.fs.getD i f0T).p:=uv6 hi
 rw [e,uhx]
 rfl
theorem uya {d:Dsp}(h:DOk d):∀i,i<(FO d d.fs).length→0≤ptD d i∧ptD d i<(d.pn.toNat:Int):=by
 intro i hi
 rw [udV]at hi
 have q:=h.f i hi
 have:=h.p1
 unfold uc8 at q
 unfold ptD
 omega
theorem uzK {d:Dsp}(h:DOk d)(hl:udG d=true):udh d (uaQ d.fs.length)=true:=by
 rw [ukU]
 have:=ul3 (okk h h.f)
 rw [udV]at this
 rw [this,←ug2];exact hl
theorem uyW {d:Dsp}(h:DOk d)(hl:udG d=true):ubG d (uaQ d.pn.toNat)=true:=by
 rw [ug7 h,ukz (okk h h.f) (uya h),←ug2];exact hl
theorem ufo {d:Dsp}(h:uah d=0):udh d (uaQ d.fs.length)=true:=uzK (ua3.1 (uas h).1) (uas h).2
theorem ufz {d:Dsp}(h:uah d=0):ubG d (uaQ d.pn.toNat)=true:=uyW (ua3.1 (uas h).1) (uas h).2
theorem ugL {n:Nat} {ok:List Int→Bool}(h:ok (uaQ n)=true):0<(uaw n ok).length∧(uaw n ok).getD 0 []=ud1 n ok:=by
 have:=umO h
 cases hs:uaw n ok with
 |nil=>rw [hs]at this;cases this
 | cons a l=>
  rw [hs]at this
  refine⟨by simp,?_⟩
  have e:some a=some (ud1 n ok):=this
  show a=_
  exact Option.some.inj e
def ueT (d:Dsp):List Int:=if uah d=0 then ud1 d.fs.length (udh d)else []
def uqZ (d:Dsp):List Int:=if uah d=0 then ud1 d.pn.toNat (ubG d)else []
end Go.Proofs.YtkdggbfknlcdaaaGreat
namespace Go.Proofs.YtkdggbfknlcdaaaGreat
open Go Go.Eng Go.Proofs Go.Eng.Dif Go.Eng.Few
set_option maxRecDepth 10000
theorem un4 (d:Dsp)(h:uah d=0):ua0 Tryz.prog 45 [(.agg [.clo 84 [] [],.clo 85 [] []]),(ubh d)] [] (fun r _=>r=(.tup [(iS ((ueT d))),(iv fun _=>uah d)])):=by
 have c59:=ulI d h
 have hd:=ua3.1 (uas h).1
 have hs:=ugL (ufo h)
 have hsm:ueT d=ud1 d.fs.length (udh d):=if_pos h
 rw [hsm,h,←hs.2]
 have hs1:=hs.1
 have c61:=uoZ d hd
 obtain⟨Q,hQ⟩:∃Q,Q=uaw d.fs.length (udh d):=⟨_,rfl⟩
 rw [←hQ]at c61 hs1⊢
 refine ua0.is fun R hR=>qW (sc:=uxV) uan mix Tryz.func45 rfl Tryz.call45 (by kernel_rfl) (by kernel_rfl) ?_
 generalize Tryz.prog=P at c59 c61⊢
 cbv
 repeat' (first|with_reducible refine ua4 ?_ ?_|with_reducible refine And.intro ?_ ?_|(with_reducible intro hcd;(try simp only [zA,zB,zC,zD,zE,zF,zG,zH,zI,zJ,zK,zL,zM,zN,zO,zP]at hcd);try cbv)|(refine qP ?_ (c59) ?hfit;(case hfit=>((repeat' (first|exact qB|refine qD ?_ ?_|exact qE (by rfl)|exact qF (by rfl)|exact Fit.refl _|exact qA|refine qC ?_ rfl ?_));done));try cbv)|(refine qP ?_ (c61) ?hfit;(case hfit=>((repeat' (first|exact qB|refine qD ?_ ?_|exact qE (by rfl)|exact qF (by rfl)|exact Fit.refl _|exact qA|refine qC ?_ rfl ?_));done));try cbv)|fail)
 all_goals first|trivial|((try simp only [qV]at *);(try simp only [zQ,zA,zB,zC,zD,zE,zF,zG,zH,zI,zJ,zK,zL,zM,zN,zO,zP,zR,zS]at *);first|(refine qN ?_;omega)|(simp only [uaq];omega))|(subst hR;(repeat' (first|exact qA|exact qB|refine qC ?_ rfl ?_|refine qD ?_ ?_|exact qE (by rfl)|exact qF (by rfl)|exact Fit.refl _|exact qG _|(refine qE ?_;(try simp only [qV]at *);simp only [zQ,zA,zB,zC,zD,zE,zF,zG,zH,zI,zJ,zK,zL,zM,zN,zO,zP,zR,zS]at *;omega)));done)|skip
theorem unj (d:Dsp)(h:¬uah d=0):ua0 Tryz.prog 45 [(.agg [.clo 84 [] [],.clo 85 [] []]),(ubh d)] [] (fun r _=>r=(.tup [(iS ((ueT d))),(iv fun _=>uah d)])):=by
 have c59:=uhQ d h
 refine ua0.is fun R hR=>qW (sc:=uxV) uan mix Tryz.func45 rfl Tryz.call45 (by kernel_rfl) (by kernel_rfl) ?_
 generalize Tryz.prog=P at c59⊢
 cbv
 repeat' (first|with_reducible refine And.intro ?_ ?_|(with_reducible intro hcd;(try simp only [zA,zB,zC,zD,zE,zF,zG,zH,zI,zJ,zK,zL,zM,zN,zO,zP]at hcd);try cbv)|(refine qP ?_ (c59) ?hfit;(case hfit=>((repeat' (first|exact qB|refine qD ?_ ?_|exact qE (by rfl)|exact qF (by rfl)|exact Fit.refl _|exact qA|refine qC ?_ rfl ?_));done));try cbv)|fail)
 all_goals first|trivial|(subst hR;(exact qD (qO (by(have e:ueT d=[]:=if_neg h);rw [e];rfl)) (qD (Fit.refl _) qB));done)|skip
theorem up3 (d:Dsp):ua0 Tryz.prog 45 [(.agg [.clo 84 [] [],.clo 85 [] []]),(ubh d)] [] (fun r _=>r=(.tup [(iS ((ueT d))),(iv fun _=>uah d)])):=by
 by_cases h:uah d=0
 ·exact un4 d h
 ·exact unj d h
theorem ul9 (d:Dsp):ua0 Tryz.prog 13 [(ubh d)] [] (fun r _=>r=(.tup [(iS ((ueT d))),(iv fun _=>uah d)])):=by
 have cb:=urj
 have c57:=up3 d
 refine ua0.is fun R hR=>qW (sc:=uAV) uan mix Tryz.func13 rfl Tryz.call13 (by kernel_rfl) (by kernel_rfl) ?_
 generalize Tryz.prog=P at cb c57⊢
 cbv
 repeat' (first|(refine qP ?_ (cb) ?hfit;(case hfit=>((repeat' (first|exact qB|refine qD ?_ ?_|exact qE (by rfl)|exact qF (by rfl)|exact Fit.refl _|exact qA|refine qC ?_ rfl ?_));done));try cbv)|(refine qP ?_ (c57) ?hfit;(case hfit=>((repeat' (first|exact qB|refine qD ?_ ?_|exact qE (by rfl)|exact qF (by rfl)|exact Fit.refl _|exact qA|refine qC ?_ rfl ?_));done));try cbv)|fail)
 all_goals first|(subst hR;(repeat' (first|exact qA|exact qB|refine qC ?_ rfl ?_|refine qD ?_ ?_|exact qE (by rfl)|exact qF (by rfl)|exact Fit.refl _|exact qG _|(refine qE ?_;(try simp only [qV]at *);simp only [zQ,zA,zB,zC,zD,zE,zF,zG,zH,zI,zJ,zK,zL,zM,zN,zO,zP,zR,zS]at *;omega)));done)|skip
theorem umI (d:Dsp)(h:uah d=0):ua0 Tryz.prog 45 [(.agg [.clo 86 [] [],.clo 87 [] []]),(ubh d)] [] (fun r _=>r=(.tup [(iS ((uqZ d))),(iv fun _=>uah d)])):=by
 have c59:=ulI d h
 have hd:=ua3.1 (uas h).1
 have hs:=ugL (ufz h)
 have hsm:uqZ d=ud1 d.pn.toNat (ubG d):=if_pos h
 rw [hsm,h,←hs.2]
 have hs1:=hs.1
 have c61:=ugR d hd
 obtain⟨Q,hQ⟩:∃Q,Q=uaw d.pn.toNat (ubG d):=⟨_,rfl⟩
 rw [←hQ]at c61 hs1⊢
 refine ua0.is fun R hR=>qW (sc:=uxV) uan mix Tryz.func45 rfl Tryz.call45 (by kernel_rfl) (by kernel_rfl) ?_
 generalize Tryz.prog=P at c59 c61⊢
 cbv
 repeat' (first|with_reducible refine ua4 ?_ ?_|with_reducible refine And.intro ?_ ?_|(with_reducible intro hcd;(try simp only [zA,zB,zC,zD,zE,zF,zG,zH,zI,zJ,zK,zL,zM,zN,zO,zP]at hcd);try cbv)|(refine qP ?_ (c59) ?hfit;(case hfit=>((repeat' (first|exact qB|refine qD ?_ ?_|exact qE (by rfl)|exact qF (by rfl)|exact Fit.refl _|exact qA|refine qC ?_ rfl ?_));done));try cbv)|(refine qP ?_ (c61) ?hfit;(case hfit=>((repeat' (first|exact qB|refine qD ?_ ?_|exact qE (by rfl)|exact qF (by rfl)|exact Fit.refl _|exact qA|refine qC ?_ rfl ?_));done));try cbv)|fail)
 all_goals first|trivial|((try simp only [qV]at *);(try simp only [zQ,zA,zB,zC,zD,zE,zF,zG,zH,zI,zJ,zK,zL,zM,zN,zO,zP,zR,zS]at *);first|(refine qN ?_;omega)|(simp only [uaq];omega))|(subst hR;(repeat' (first|exact qA|exact qB|refine qC ?_ rfl ?_|refine qD ?_ ?_|exact qE (by rfl)|exact qF (by rfl)|exact Fit.refl _|exact qG _|(refine qE ?_;(try simp only [qV]at *);simp only [zQ,zA,zB,zC,zD,zE,zF,zG,zH,zI,zJ,zK,zL,zM,zN,zO,zP,zR,zS]at *;omega)));done)|skip
theorem unQ (d:Dsp)(h:¬uah d=0):ua0 Tryz.prog 45 [(.agg [.clo 86 [] [],.clo 87 [] []]),(ubh d)] [] (fun r _=>r=(.tup [(iS ((uqZ d))),(iv fun _=>uah d)])):=by
 have c59:=uhQ d h
 refine ua0.is fun R hR=>qW (sc:=uxV) uan mix Tryz.func45 rfl Tryz.call45 (by kernel_rfl) (by kernel_rfl) ?_
 generalize Tryz.prog=P at c59⊢
 cbv
 repeat' (first|with_reducible refine And.intro ?_ ?_|(with_reducible intro hcd;(try simp only [zA,zB,zC,zD,zE,zF,zG,zH,zI,zJ,zK,zL,zM,zN,zO,zP]at hcd);try cbv)|(refine qP ?_ (c59) ?hfit;(case hfit=>((repeat' (first|exact qB|refine qD ?_ ?_|exact qE (by rfl)|exact qF (by rfl)|exact Fit.refl _|exact qA|refine qC ?_ rfl ?_));done));try cbv)|fail)
 all_goals first|trivial|(subst hR;(exact qD (qO (by(have e:uqZ d=[]:=if_neg h);rw [e];rfl)) (qD (Fit.refl _) qB));done)|skip
theorem uqU (d:Dsp):ua0 Tryz.prog 45 [(.agg [.clo 86 [] [],.clo 87 [] []]),(ubh d)] [] (fun r _=>r=(.tup [(iS ((uqZ d))),(iv fun _=>uah d)])):=by
 by_cases h:uah d=0
 ·exact umI d h
 ·exact unQ d h
theorem uk3 (d:Dsp):ua0 Tryz.prog 18 [(ubh d)] [] (fun r _=>r=(.tup [(iS ((uqZ d))),(iv fun _=>uah d)])):=by
 have cb:=ugO
 have c57:=uqU d
 refine ua0.is fun R hR=>qW (sc:=uBH) uan mix Tryz.func18 rfl Tryz.call18 (by kernel_rfl) (by kernel_rfl) ?_
 generalize Tryz.prog=P at cb c57⊢
 cbv
 repeat' (first|(refine qP ?_ (cb) ?hfit;(case hfit=>((repeat' (first|exact qB|refine qD ?_ ?_|exact qE (by rfl)|exact qF (by rfl)|exact Fit.refl _|exact qA|refine qC ?_ rfl ?_));done));try cbv)|(refine qP ?_ (c57) ?hfit;(case hfit=>((repeat' (first|exact qB|refine qD ?_ ?_|exact qE (by rfl)|exact qF (by rfl)|exact Fit.refl _|exact qA|refine qC ?_ rfl ?_));done));try cbv)|fail)
 all_goals first|(subst hR;(repeat' (first|exact qA|exact qB|refine qC ?_ rfl ?_|refine qD ?_ ?_|exact qE (by rfl)|exact qF (by rfl)|exact Fit.refl _|exact qG _|(refine qE ?_;(try simp only [qV]at *);simp only [zQ,zA,zB,zC,zD,zE,zF,zG,zH,zI,zJ,zK,zL,zM,zN,zO,zP,zR,zS]at *;omega)));done)|skip
end Go.Proofs.YtkdggbfknlcdaaaGreat
namespace Go.Proofs.YtkdggbfknlcdaaaGreat
open Go.Eng.Dif Go.Eng.Few
theorem ukp {L:List (List Int)} {i:Nat}(h:i<L.length):L.getD i []∈L:=by
 rw [List.getD_eq_getElem?_getD,List.getElem?_eq_getElem h];exact List.getElem_mem h
theorem upG {L:List (List Int)} {x:List Int}(h:x∈L):∃i,i<L.length∧L.getD i []=x:=by
 obtain⟨i,h1,h2⟩:=List.getElem_of_mem h
 exact⟨i,h1,by rw [List.getD_eq_getElem?_getD,List.getElem?_eq_getElem h1];exact h2⟩
theorem utr (L:List (List Int))(p:Int):uh2 (fun i=>inL (L.getD i []) p) L.length=L.all fun F=>F.contains p:=by
 apply Bool.eq_iff_iff.2
 rw [uaj,List.all_eq_true]
 constructor
 ·intro h x hx
  obtain⟨i,h1,h2⟩:=upG hx
  rw [←h2,←uhx];exact h i h1
 ·intro h i hi
  rw [uhx];exact h _ (ukp hi)
theorem usU (L:List (List Int))(p:Int):decide (0≤ubJ (fun i=> !(inL (L.getD i []) p)) L.length 0)=L.any fun F=>F.contains p:=by
 apply Bool.eq_iff_iff.2
 rw [decide_eq_true_eq,uiq,List.any_eq_true]
 constructor
 ·rintro⟨j,_,h2,h3⟩
  refine⟨L.getD j [],ukp (by omega),?_⟩
  rw [←uhx]
  simpa using h3
 ·rintro⟨x,hx,hp⟩
  obtain⟨i,h1,h2⟩:=upG hx
  refine⟨i,by omega,by omega,?_⟩
  rw [h2,uhx,hp];rfl
def uk9 (d:Dsp):Nat→Bool:=ukQ d.pn.toNat (ubG d)
def uo6 (d:Dsp):Nat→Bool:=ukf d.pn.toNat (ubG d)
def ugm (d:Dsp):List Int:=if uah d=0 then ubT (uk9 d) d.pn.toNat else []
def uoc (d:Dsp):List Int:=if uah d=0 then ubT (uo6 d) d.pn.toNat else []
theorem uou {f:Nat→Bool} {k:Nat}(h:f k=true):ubT f (k+1)=ubT f k++[(k:Int)]:=by simp only [ubT,h,if_true]
theorem uqi {f:Nat→Bool} {k:Nat}(h:f k=false):ubT f (k+1)=ubT f k:=by simp only [ubT,h,Bool.false_eq_true,if_false]
theorem ui0 (f:Nat→Bool):∀n,(ubT f n).length≤n:=by
 intro n
 induction n with
 |zero=>exact Nat.le_refl _
 | succ n ih=>
  cases h:f n with
  |true=>rw [uou h,List.length_append];simp only [List.length_cons,List.length_nil];omega
  |false=>rw [uqi h];omega
theorem ujE {n:Nat} {ok:List Int→Bool}(hn:n≤4)(h:ok (uaQ n)=true):(uaw n ok).length≤1000∧∀i,((uaw n ok).getD i []).length≤1000:=by
 have hl:∀F∈uaw n ok,F.length≤4:=fun F hF=>by
  have q:=(uda h).1 hF
  have:=ukw h
  omega
 constructor
 ·obtain⟨j,h1,h2,_,_⟩:=uik h
  rw [h2]
  exact Nat.le_trans umd (Nat.le_trans (Nat.pow_le_pow_left hn j) (Nat.le_trans (Nat.pow_le_pow_right (by omega) (show j≤4 by omega)) (by decide)))
 ·intro i
  rcases Nat.lt_or_ge i (uaw n ok).length with q|q
  ·have:=hl _ (ukp q);omega
  ·rw [List.getD_eq_getElem?_getD,List.getElem?_eq_none q];simp
end Go.Proofs.YtkdggbfknlcdaaaGreat
namespace Go.Proofs.YtkdggbfknlcdaaaGreat
open Go Go.Eng Go.Proofs Go.Eng.Dif Go.Eng.Few
set_option maxRecDepth 10000
theorem upL (x:List Int)(p:Int)(hx:x.length≤1000):ua0 Tryz.prog 52 [(iS x),.own 0 0] [.cells [(iv fun _=>p)] 3] (fun r bs=>r=(bv fun _=>inL x p)∧bs=[.cells [(iv fun _=>p)] 3]):=by
 have c63:=ufh x p hx
 refine ua0.isB rfl fun R B hR hB=>qW (sc:=uBl) uan mix Tryz.func52 rfl Tryz.call52 (by kernel_rfl) (by kernel_rfl) ?_
 generalize Tryz.prog=P at c63⊢
 cbv
 repeat' (first|with_reducible refine And.intro ?_ ?_|(refine qP ?_ (c63) ?hfit;(case hfit=>((repeat' (first|exact qB|refine qD ?_ ?_|exact qE (by rfl)|exact qF (by rfl)|exact Fit.refl _|exact qA|refine qC ?_ rfl ?_));done));try cbv)|fail)
 all_goals first|(subst hR;(repeat' (first|exact qA|exact qB|refine qC ?_ rfl ?_|refine qD ?_ ?_|exact qE (by rfl)|exact qF (by rfl)|exact Fit.refl _|exact qG _|(refine qE ?_;(try simp only [qV]at *);simp only [zQ,zA,zB,zC,zD,zE,zF,zG,zH,zI,zJ,zK,zL,zM,zN,zO,zP,zR,zS]at *;omega)));done)|(subst hB;(repeat' (first|exact qH|refine qI ?_ ?_|exact qK _|refine qJ ?_|exact qA|exact qE (by rfl)|exact qF (by rfl)|exact Fit.refl _|exact qG _|refine qC ?_ rfl ?_));done)|skip
theorem und (L:List (List Int))(p:Int)(hL:∀i,(L.getD i []).length≤1000)(hfew:L.length≤1000)(i:Nat)(hi:i<L.length∧∀j,j<i→(inL (L.getD (j) []) p)=true):ua0 Tryz.prog 91 [(.sl 1 (.sym fun _=>zi ((L.getD (i) [])).length) (fun ix=>[(iv fun _=>((L.getD (i) [])).getD ix.den.toNat 0)])),.own 0 0] [.cells [.clo 52 [] [.own 1 0]] 117,.cells [(iv fun _=>p)] 3] (fun r bs=>r=(bv fun _=> !(inL (L.getD (i) []) p))∧bs=[.cells [.clo 52 [] [.own 1 0]] 117,.cells [(iv fun _=>p)] 3]):=by
 have cf:=upL (L.getD i []) p (hL i)
 refine ua0.isB rfl fun R B hR hB=>qW (sc:=uAe) uan mix Tryz.func91 rfl Tryz.call91 (by kernel_rfl) (by kernel_rfl) ?_
 generalize Tryz.prog=P at cf⊢
 cbv
 repeat' (first
  |with_reducible refine And.intro ?_ ?_
  | (refine⟨some [1],?_⟩
     cbv
     refine qQ ?_ (cf) (by cbv;(repeat' (first|exact qB|refine qD ?_ ?_|exact qE (by rfl)|exact qF (by rfl)|exact Fit.refl _|exact qA|refine qC ?_ rfl ?_))) (by cbv;(repeat' (first|exact qH|refine qI ?_ ?_|exact qK _|refine qJ ?_|exact qA|exact qE (by rfl)|exact qF (by rfl)|exact Fit.refl _|exact qG _|refine qC ?_ rfl ?_)))
     try cbv)
  |fail)
 all_goals first|(subst hR;(repeat' (first|exact qA|exact qB|refine qC ?_ rfl ?_|refine qD ?_ ?_|exact qE (by rfl)|exact qF (by rfl)|exact Fit.refl _|exact qG _|(refine qE ?_;(try simp only [qV]at *);simp only [zQ,zA,zB,zC,zD,zE,zF,zG,zH,zI,zJ,zK,zL,zM,zN,zO,zP,zR,zS]at *;omega)));done)|(subst hB;(repeat' (first|exact qH|refine qI ?_ ?_|exact qK _|refine qJ ?_|exact qA|exact qE (by rfl)|exact qF (by rfl)|exact Fit.refl _|exact qG _|refine qC ?_ rfl ?_));done)|skip
theorem umX (L:List (List Int))(p:Int)(hL:∀i,(L.getD i []).length≤1000)(hfew:L.length≤1000):ua0 Tryz.prog 92 [(.sl 1 (.sym fun _=>zi (L).length) (fun ix=>[(.sl 1 (.sym fun _=>zi ((L).getD ix.den.toNat []).length) (fun jx=>[(iv fun _=>((L).getD ix.den.toNat []).getD jx.den.toNat 0)]))])),.clo 91 [] [.own 0 0]] [.cells [.clo 52 [] [.own 1 0]] 117,.cells [(iv fun _=>p)] 3] (fun r bs=>r=(iv fun _=>ubJ (fun i=>inL (L.getD (i) []) p) (L.length) 0)∧bs=[.cells [.clo 52 [] [.own 1 0]] 117,.cells [(iv fun _=>p)] 3]):=by
 have cl:=und L p hL hfew
 refine ua0.isB rfl fun R B hR hB=>qW (sc:=uzE) uan mix Tryz.func92 rfl Tryz.call92 (by kernel_rfl) (by kernel_rfl) ?_
 generalize Tryz.prog=P at cl⊢
 cbv
 repeat' (first|fail)
 all_goals first|skip
 refine⟨none,[],{i:Nat // i≤L.length∧ubJ (fun i=>inL (L.getD (i) []) p) (L.length) 0=ubJ (fun i=>inL (L.getD (i) []) p) (L.length-i) i∧∀j,j<i→(inL (L.getD (j) []) p)=true},fun x=>⟨[(0,(.sl 1 (.sym fun _=>zi (L).length) (fun ix=>[(.sl 1 (.sym fun _=>zi ((L).getD ix.den.toNat []).length) (fun jx=>[(iv fun _=>((L).getD ix.den.toNat []).getD jx.den.toNat 0)]))]))),(1,.clo 91 [] [.own 0 0]),(7,(iv fun _=>zi (L.length))),(8,(iv fun _=>zi x.1))],[(0,.cells [.clo 52 [] [.own 1 0]] 117),(1,.cells [(iv fun _=>p)] 3)],20⟩,fun x=>L.length-x.1,?_,?_⟩
 ·refine⟨⟨0,by omega,rfl,fun j hj=>by omega⟩,?_⟩
  cbv
  repeat' (first|with_reducible refine ua4 ?_ ?_|with_reducible refine And.intro ?_ ?_)
  all_goals first|trivial|exact qM (qE (by rfl))|exact qM (Fit.refl _)|exact qL (qK _)|skip
 ·rintro ⟨i,hi,hr,hq⟩
  cbv
  repeat' (first
   |with_reducible refine ua4 ?_ ?_
   |with_reducible refine And.intro ?_ ?_
   |(with_reducible intro hcd;(try simp only [zA,zB,zC,zD,zE,zF,zG,zH,zI,zJ,zK,zL,zM,zN,zO,zP]at hcd);try cbv)
   | (refine⟨some [0,1],?_⟩
      cbv
      refine qQ ?_ (cl i ⟨by(try simp only [qV]at *);simp only [uaa]at *;omega,hq⟩) (by cbv;(repeat' (first|exact qB|refine qD ?_ ?_|exact qE (by rfl)|exact qF (by rfl)|exact Fit.refl _|exact qA|refine qC ?_ rfl ?_))) (by cbv;(repeat' (first|exact qH|refine qI ?_ ?_|exact qK _|refine qJ ?_|exact qA|exact qE (by rfl)|exact qF (by rfl)|exact Fit.refl _|exact qG _|refine qC ?_ rfl ?_)))
      try cbv)
   |fail)
  all_goals first|((try simp only [qV]at *);(try simp only [zQ,zA,zB,zC,zD,zE,zF,zG,zH,zI,zJ,zK,zL,zM,zN,zO,zP,zR,zS]at *);first|(refine qN ?_;omega)|(simp only [uaq];omega))|(subst hR;(refine qE ?_;simp only [zQ,zA,zB,zC,zD,zE,zF,zG,zH,zI,zJ,zK,zL,zM,zN,zO,zP,zR,zS]at *;rw [hr,ub9 (by omega) hcd]);done)|(subst hR;(refine qE ?_;simp only [zQ,zA,zB,zC,zD,zE,zF,zG,zH,zI,zJ,zK,zL,zM,zN,zO,zP,zR,zS]at *;rw [hr,show L.length-i=0 by omega];rfl);done)|(subst hB;(repeat' (first|exact qH|refine qI ?_ ?_|exact qK _|refine qJ ?_|exact qA|exact qE (by rfl)|exact qF (by rfl)|exact Fit.refl _|exact qG _|refine qC ?_ rfl ?_));done)|((try simp only [zQ,zA,zB,zC,zD,zE,zF,zG,zH,zI,zJ,zK,zL,zM,zN,zO,zP,zR,zS]at *);refine⟨⟨i+1,by omega,by rw [hr,ucl (by omega) hcd];(try congr 1)<;>omega,fun j hj=>(Nat.lt_or_ge j i).elim (hq j) (fun q=>by rw [show j=i by omega];exact hcd)⟩,by simp only [];omega,?_⟩;cbv;(repeat' (first|with_reducible refine ua4 ?_ ?_|with_reducible refine And.intro ?_ ?_));(all_goals first|trivial|exact qM (qE (by rfl))|exact qM (qF (by rfl))|exact qM (Fit.refl _)|exact qL (qK _)|(refine qM (qE ?_);(try simp only [qV]at *);simp only [zQ,zA,zB,zC,zD,zE,zF,zG,zH,zI,zJ,zK,zL,zM,zN,zO,zP,zR,zS]at *;omega)|(refine qL (qJ ?_);(repeat' (first|exact qA|exact qB|refine qC ?_ rfl ?_|refine qD ?_ ?_|exact qE (by rfl)|exact qF (by rfl)|exact Fit.refl _|exact qG _|(refine qE ?_;(try simp only [qV]at *);simp only [zQ,zA,zB,zC,zD,zE,zF,zG,zH,zI,zJ,zK,zL,zM,zN,zO,zP,zR,zS]at *;omega)));done)|skip))|skip
theorem ukg (L:List (List Int))(p:Int)(hL:∀i,(L.getD i []).length≤1000)(hfew:L.length≤1000):ua0 Tryz.prog 55 [(.sl 1 (.sym fun _=>zi (L).length) (fun ix=>[(.sl 1 (.sym fun _=>zi ((L).getD ix.den.toNat []).length) (fun jx=>[(iv fun _=>((L).getD ix.den.toNat []).getD jx.den.toNat 0)]))])),.clo 91 [] [.own 0 0]] [.cells [.clo 52 [] [.own 1 0]] 117,.cells [(iv fun _=>p)] 3] (fun r bs=>r=(bv fun _=>decide (0≤ubJ (fun i=>inL (L.getD (i) []) p) (L.length) 0))∧bs=[.cells [.clo 52 [] [.own 1 0]] 117,.cells [(iv fun _=>p)] 3]):=by
 have ci:=umX L p hL hfew
 refine ua0.isB rfl fun R B hR hB=>qW (sc:=uzi) uan mix Tryz.func55 rfl Tryz.call55 (by kernel_rfl) (by kernel_rfl) ?_
 generalize Tryz.prog=P at ci⊢
 cbv
 repeat' (first
  |with_reducible refine And.intro ?_ ?_
  | (refine⟨some [0,1],?_⟩
     cbv
     refine qQ ?_ (ci) (by cbv;(repeat' (first|exact qB|refine qD ?_ ?_|exact qE (by rfl)|exact qF (by rfl)|exact Fit.refl _|exact qA|refine qC ?_ rfl ?_))) (by cbv;(repeat' (first|exact qH|refine qI ?_ ?_|exact qK _|refine qJ ?_|exact qA|exact qE (by rfl)|exact qF (by rfl)|exact Fit.refl _|exact qG _|refine qC ?_ rfl ?_)))
     try cbv)
  |fail)
 all_goals first|(subst hR;(repeat' (first|exact qA|exact qB|refine qC ?_ rfl ?_|refine qD ?_ ?_|exact qE (by rfl)|exact qF (by rfl)|exact Fit.refl _|exact qG _|(refine qE ?_;(try simp only [qV]at *);simp only [zQ,zA,zB,zC,zD,zE,zF,zG,zH,zI,zJ,zK,zL,zM,zN,zO,zP,zR,zS]at *;omega)));done)|(subst hB;(repeat' (first|exact qH|refine qI ?_ ?_|exact qK _|refine qJ ?_|exact qA|exact qE (by rfl)|exact qF (by rfl)|exact Fit.refl _|exact qG _|refine qC ?_ rfl ?_));done)|skip
theorem uhy (L:List (List Int))(p:Int)(hL:∀i,(L.getD i []).length≤1000)(hfew:L.length≤1000):ua0 Tryz.prog 54 [(.sl 1 (.sym fun _=>zi (L).length) (fun ix=>[(.sl 1 (.sym fun _=>zi ((L).getD ix.den.toNat []).length) (fun jx=>[(iv fun _=>((L).getD ix.den.toNat []).getD jx.den.toNat 0)]))])),.clo 52 [] [.own 0 0]] [.cells [(iv fun _=>p)] 3] (fun r bs=>r=(bv fun _=>uh2 (fun i=>inL (L.getD (i) []) p) (L.length))∧bs=[.cells [(iv fun _=>p)] 3]):=by
 have cc:=ukg L p hL hfew
 refine ua0.isB rfl fun R B hR hB=>qW (sc:=uBo) uan mix Tryz.func54 rfl Tryz.call54 (by kernel_rfl) (by kernel_rfl) ?_
 generalize Tryz.prog=P at cc⊢
 cbv
 repeat' (first
  |with_reducible refine And.intro ?_ ?_
  | (refine⟨some [1,0],?_⟩
     cbv
     refine qQ ?_ (cc) (by cbv;(repeat' (first|exact qB|refine qD ?_ ?_|exact qE (by rfl)|exact qF (by rfl)|exact Fit.refl _|exact qA|refine qC ?_ rfl ?_))) (by cbv;(repeat' (first|exact qH|refine qI ?_ ?_|exact qK _|refine qJ ?_|exact qA|exact qE (by rfl)|exact qF (by rfl)|exact Fit.refl _|exact qG _|refine qC ?_ rfl ?_)))
     try cbv)
  |fail)
 all_goals first|(subst hR;(repeat' (first|exact qA|exact qB|refine qC ?_ rfl ?_|refine qD ?_ ?_|exact qE (by rfl)|exact qF (by rfl)|exact Fit.refl _|exact qG _|(refine qE ?_;(try simp only [qV]at *);simp only [zQ,zA,zB,zC,zD,zE,zF,zG,zH,zI,zJ,zK,zL,zM,zN,zO,zP,zR,zS]at *;omega)));done)|(subst hB;(repeat' (first|exact qH|refine qI ?_ ?_|exact qK _|refine qJ ?_|exact qA|exact qE (by rfl)|exact qF (by rfl)|exact Fit.refl _|exact qG _|refine qC ?_ rfl ?_));done)|skip
theorem uqq (L:List (List Int))(p:Int)(hL:∀i,(L.getD i []).length≤1000)(hfew:L.length≤1000):ua0 Tryz.prog 92 [(.sl 1 (.sym fun _=>zi (L).length) (fun ix=>[(.sl 1 (.sym fun _=>zi ((L).getD ix.den.toNat []).length) (fun jx=>[(iv fun _=>((L).getD ix.den.toNat []).getD jx.den.toNat 0)]))])),.clo 52 [] [.own 0 0]] [.cells [(iv fun _=>p)] 3] (fun r bs=>r=(iv fun _=>ubJ (fun i=> !(inL (L.getD i []) p)) L.length 0)∧bs=[.cells [(iv fun _=>p)] 3]):=by
 have c62:=fun (i:Nat)=>upL (L.getD i []) p (hL i)
 refine ua0.isB rfl fun R B hR hB=>qW (sc:=uzE) uan mix Tryz.func92 rfl Tryz.call92 (by kernel_rfl) (by kernel_rfl) ?_
 generalize Tryz.prog=P at c62⊢
 cbv
 repeat' (first|fail)
 all_goals first|skip
 refine⟨none,[],{i:Nat // i≤L.length∧ubJ (fun i=> !(inL (L.getD i []) p)) L.length 0=ubJ (fun i=> !(inL (L.getD i []) p)) (L.length-i) i},fun x=>⟨[(0,(.sl 1 (.sym fun _=>zi (L).length) (fun ix=>[(.sl 1 (.sym fun _=>zi ((L).getD ix.den.toNat []).length) (fun jx=>[(iv fun _=>((L).getD ix.den.toNat []).getD jx.den.toNat 0)]))]))),(1,.clo 52 [] [.own 0 0]),(7,(iv fun _=>zi L.length)),(8,(iv fun _=>zi x.1))],[(0,.cells [(iv fun _=>p)] 3)],20⟩,fun x=>L.length-x.1,?_,?_⟩
 ·refine⟨⟨0,by omega,rfl⟩,?_⟩
  cbv
  repeat' (first|with_reducible refine ua4 ?_ ?_|with_reducible refine And.intro ?_ ?_)
  all_goals first|trivial|exact qM (qE (by rfl))|exact qM (Fit.refl _)|exact qL (qK _)|skip
 ·rintro ⟨i,hi,hr⟩
  cbv
  repeat' (first
   |with_reducible refine ua4 ?_ ?_
   |with_reducible refine And.intro ?_ ?_
   |(with_reducible intro hcd;(try simp only [zA,zB,zC,zD,zE,zF,zG,zH,zI,zJ,zK,zL,zM,zN,zO,zP]at hcd);try cbv)
   | (refine⟨some [0],?_⟩
      cbv
      refine qQ ?_ (c62 i) ?hfit ?hbo
      case hfit=>(cbv;(repeat' (first|exact qB|refine qD ?_ ?_|exact qE (by rfl)|exact qF (by rfl)|exact Fit.refl _|exact qA|refine qC ?_ rfl ?_));done)
      case hbo=>(cbv;(repeat' (first|exact qH|refine qI ?_ ?_|exact qK _|refine qJ ?_|exact qA|exact qE (by rfl)|exact qF (by rfl)|exact Fit.refl _|exact qG _|refine qC ?_ rfl ?_));done)
      try cbv)
   |fail)
  all_goals first|((try simp only [qV]at *);(try simp only [zQ,zA,zB,zC,zD,zE,zF,zG,zH,zI,zJ,zK,zL,zM,zN,zO,zP,zR,zS]at *);first|(refine qN ?_;omega)|(simp only [uaq];omega))|(subst hR;(refine qE ?_;(try simp only [qV]at *);(try simp only [zQ,zA,zB,zC,zD,zE,zF,zG,zH,zI,zJ,zK,zL,zM,zN,zO,zP,zR,zS]at *);rw [hr,ub9 (by omega) (by rw [hcd];rfl)]);done)|(subst hR;(refine qE ?_;(try simp only [qV]at *);(try simp only [zQ,zA,zB,zC,zD,zE,zF,zG,zH,zI,zJ,zK,zL,zM,zN,zO,zP,zR,zS]at *);rw [hr,show L.length-i=0 by omega];rfl);done)|(subst hB;(repeat' (first|exact qH|refine qI ?_ ?_|exact qK _|refine qJ ?_|exact qA|exact qE (by rfl)|exact qF (by rfl)|exact Fit.refl _|exact qG _|refine qC ?_ rfl ?_));done)|((try simp only [zQ,zA,zB,zC,zD,zE,zF,zG,zH,zI,zJ,zK,zL,zM,zN,zO,zP,zR,zS]at *);refine⟨⟨i+1,by omega,by rw [hr,ucl (by omega) (by rw [hcd];rfl)];(try congr 1)<;>omega⟩,by simp only [];omega,?_⟩;cbv;(repeat' (first|with_reducible refine ua4 ?_ ?_|with_reducible refine And.intro ?_ ?_));(all_goals first|trivial|exact qM (qE (by rfl))|exact qM (qF (by rfl))|exact qM (Fit.refl _)|exact qL (qK _)|(refine qM (qE ?_);(try simp only [qV]at *);simp only [zQ,zA,zB,zC,zD,zE,zF,zG,zH,zI,zJ,zK,zL,zM,zN,zO,zP,zR,zS]at *;omega)|(refine qL (qJ ?_);(repeat' (first|exact qA|exact qB|refine qC ?_ rfl ?_|refine qD ?_ ?_|exact qE (by rfl)|exact qF (by rfl)|exact Fit.refl _|exact qG _|(refine qE ?_;(try simp only [qV]at *);simp only [zQ,zA,zB,zC,zD,zE,zF,zG,zH,zI,zJ,zK,zL,zM,zN,zO,zP,zR,zS]at *;omega)));done)|skip))|skip
theorem uhs (L:List (List Int))(p:Int)(hL:∀i,(L.getD i []).length≤1000)(hfew:L.length≤1000):ua0 Tryz.prog 55 [(.sl 1 (.sym fun _=>zi (L).length) (fun ix=>[(.sl 1 (.sym fun _=>zi ((L).getD ix.den.toNat []).length) (fun jx=>[(iv fun _=>((L).getD ix.den.toNat []).getD jx.den.toNat 0)]))])),.clo 52 [] [.own 0 0]] [.cells [(iv fun _=>p)] 3] (fun r bs=>r=(bv fun _=>decide (0≤ubJ (fun i=> !(inL (L.getD i []) p)) L.length 0))∧bs=[.cells [(iv fun _=>p)] 3]):=by
 have c97:=uqq L p hL hfew
 refine ua0.isB rfl fun R B hR hB=>qW (sc:=uzi) uan mix Tryz.func55 rfl Tryz.call55 (by kernel_rfl) (by kernel_rfl) ?_
 generalize Tryz.prog=P at c97⊢
 cbv
 repeat' (first
  |with_reducible refine And.intro ?_ ?_
  | (refine⟨some [0],?_⟩
     cbv
     refine qQ ?_ (c97) ?hfit ?hbo
     case hfit=>(cbv;(repeat' (first|exact qB|refine qD ?_ ?_|exact qE (by rfl)|exact qF (by rfl)|exact Fit.refl _|exact qA|refine qC ?_ rfl ?_));done)
     case hbo=>(cbv;(repeat' (first|exact qH|refine qI ?_ ?_|exact qK _|refine qJ ?_|exact qA|exact qE (by rfl)|exact qF (by rfl)|exact Fit.refl _|exact qG _|refine qC ?_ rfl ?_));done)
     try cbv)
  |fail)
 all_goals first|(subst hR;(repeat' (first|exact qA|exact qB|refine qC ?_ rfl ?_|refine qD ?_ ?_|exact qE (by rfl)|exact qF (by rfl)|exact Fit.refl _|exact qG _|(refine qE ?_;(try simp only [qV]at *);simp only [zQ,zA,zB,zC,zD,zE,zF,zG,zH,zI,zJ,zK,zL,zM,zN,zO,zP,zR,zS]at *;omega)));done)|(subst hB;(repeat' (first|exact qH|refine qI ?_ ?_|exact qK _|refine qJ ?_|exact qA|exact qE (by rfl)|exact qF (by rfl)|exact Fit.refl _|exact qG _|refine qC ?_ rfl ?_));done)|skip
set_option maxHeartbeats 2000000 in
theorem ury (d:Dsp)(h:uah d=0):ua0 Tryz.prog 19 [(ubh d)] [] (fun r _=>r=(.tup [(iS ((ugm d))),(iS ((uoc d))),(iv fun _=>uah d)])):=by
 have c59:=ulI d h
 have c58:=ugO
 have hF:=(uas h).1
 have hd:=ua3.1 hF
 have p1:=hd.p1
 have p4:=hd.p4
 have c61:=ugR d hd
 have hsf:=ujE (n:=d.pn.toNat) (ok:=ubG d) (by omega) (ufz h)
 rw [show ugm d=ubT (uk9 d) d.pn.toNat from if_pos h,show uoc d=ubT (uo6 d) d.pn.toNat from if_pos h,h]
 have hA:∀k:Nat,uh2 (fun i=>inL ((uaw d.pn.toNat (ubG d)).getD i []) (zi k)) (uaw d.pn.toNat (ubG d)).length=uk9 d k:=fun k=>utr _ _
 have hB:∀k:Nat,decide (0≤ubJ (fun i=> !(inL ((uaw d.pn.toNat (ubG d)).getD i []) (zi k))) (uaw d.pn.toNat (ubG d)).length 0)=uo6 d k:=fun k=>usU _ _
 obtain⟨L,hL⟩:∃L,L=uaw d.pn.toNat (ubG d):=⟨_,rfl⟩
 rw [←hL]at c61 hsf
 simp only [←hL]at hA hB
 have c64:=fun k:Nat=>(show ua0 Tryz.prog 54 [(.sl 1 (.sym fun _=>zi (L).length) (fun ix=>[(.sl 1 (.sym fun _=>zi ((L).getD ix.den.toNat []).length) (fun jx=>[(iv fun _=>((L).getD ix.den.toNat []).getD jx.den.toNat 0)]))])),.clo 52 [] [.own 0 0]] [.cells [(iv fun _=>zi k)] 3] (fun r bs=>r=(bv fun _=>uk9 d k)∧bs=[.cells [(iv fun _=>zi k)] 3])from hA k▸uhy L (zi k) hsf.2 hsf.1)
 have c65:=fun k:Nat=>(show ua0 Tryz.prog 55 [(.sl 1 (.sym fun _=>zi (L).length) (fun ix=>[(.sl 1 (.sym fun _=>zi ((L).getD ix.den.toNat []).length) (fun jx=>[(iv fun _=>((L).getD ix.den.toNat []).getD jx.den.toNat 0)]))])),.clo 52 [] [.own 0 0]] [.cells [(iv fun _=>zi k)] 3] (fun r bs=>r=(bv fun _=>uo6 d k)∧bs=[.cells [(iv fun _=>zi k)] 3])from hB k▸uhs L (zi k) hsf.2 hsf.1)
 obtain⟨fA,hfA⟩:∃f,f=uk9 d:=⟨_,rfl⟩
 obtain⟨fB,hfB⟩:∃f,f=uo6 d:=⟨_,rfl⟩
 rw [←hfA]at c64⊢
 rw [←hfB]at c65⊢
 clear hA hB hL hfA hfB
 refine ua0.is fun R hR=>qW (sc:=uyq) uan mix Tryz.func19 rfl Tryz.call19 (by kernel_rfl) (by kernel_rfl) ?_
 generalize Tryz.prog=P at c59 c58 c61 c64 c65⊢
 cbv
 repeat' (first|with_reducible refine And.intro ?_ ?_|(with_reducible intro hcd;(try simp only [zA,zB,zC,zD,zE,zF,zG,zH,zI,zJ,zK,zL,zM,zN,zO,zP]at hcd);try cbv)|(refine qP ?_ (c59) ?hfit;(case hfit=>((repeat' (first|exact qB|refine qD ?_ ?_|exact qE (by rfl)|exact qF (by rfl)|exact Fit.refl _|exact qA|refine qC ?_ rfl ?_));done));try cbv)|(refine qP ?_ (c58) ?hfit;(case hfit=>((repeat' (first|exact qB|refine qD ?_ ?_|exact qE (by rfl)|exact qF (by rfl)|exact Fit.refl _|exact qA|refine qC ?_ rfl ?_));done));try cbv)|(refine qP ?_ (c61) ?hfit;(case hfit=>((repeat' (first|exact qB|refine qD ?_ ?_|exact qE (by rfl)|exact qF (by rfl)|exact Fit.refl _|exact qA|refine qC ?_ rfl ?_));done));try cbv)|fail)
 all_goals first|trivial|skip
 refine⟨none,[⟨.tmp 2,3,1⟩,⟨.tmp 3,3,1⟩],{k:Nat // k≤d.pn.toNat},fun x=>⟨[(1,.own 0 0),(6,(.sl 1 (.sym fun _=>zi (L).length) (fun ix=>[(.sl 1 (.sym fun _=>zi ((L).getD ix.den.toNat []).length) (fun jx=>[(iv fun _=>((L).getD ix.den.toNat []).getD jx.den.toNat 0)]))]))),(2,.row 20),(3,.row 21),(21,(iv fun _=>d.pn)),(22,(iv fun _=>zi x.1))],[(0,.cells [(iS d.tw),(iS d.tm),(.sl 1 (.sym fun _=>zi (d.tv).length) (fun ix=>[(.sl 1 (.sym fun _=>zi ((d.tv).getD ix.den.toNat []).length) (fun jx=>[(iv fun _=>((d.tv).getD ix.den.toNat []).getD jx.den.toNat 0)]))])),(iv fun _=>d.sn),(iv fun _=>d.pn),(.sl 4 (.sym fun _=>zi (d.ls).length) (fun ix=>[(iv fun _=>((d.ls).getD ix.den.toNat l0T).a),(iv fun _=>((d.ls).getD ix.den.toNat l0T).b),(iv fun _=>((d.ls).getD ix.den.toNat l0T).lo),(iv fun _=>((d.ls).getD ix.den.toNat l0T).hi)])),(.sl 6 (.sym fun _=>zi (d.fs).length) (fun ix=>[(iv fun _=>((d.fs).getD ix.den.toNat f0T).p),(iv fun _=>((d.fs).getD ix.den.toNat f0T).s),(iv fun _=>((d.fs).getD ix.den.toNat f0T).wl),(iv fun _=>((d.fs).getD ix.den.toNat f0T).wh),(iv fun _=>((d.fs).getD ix.den.toNat f0T).ml),(iv fun _=>((d.fs).getD ix.den.toNat f0T).mh)]))] 39),(20,.row 3 1 (.sym fun _=>zi ((ubT fA x.1)).length) (fun ix=>[(iv fun _=>((ubT fA x.1)).getD ix.den.toNat 0)])),(21,.row 3 1 (.sym fun _=>zi ((ubT fB x.1)).length) (fun ix=>[(iv fun _=>((ubT fB x.1)).getD ix.den.toNat 0)]))],100⟩,fun x=>d.pn.toNat-x.1,?_,?_⟩
 ·refine⟨⟨0,by omega⟩,?_⟩
  cbv
  repeat' (first|with_reducible refine ua4 ?_ ?_|with_reducible refine And.intro ?_ ?_)
  all_goals first|trivial|exact qM (qE (by rfl))|exact qM (Fit.refl _)|exact qL (qK _)|(refine qL (ua9 ?_ ?_);(first|rfl|((try simp only [qV]at *);(try simp only [zQ,zA,zB,zC,zD,zE,zF,zG,zH,zI,zJ,zK,zL,zM,zN,zO,zP,zR,zS]at *);omega));intro ix h0 h1;exfalso;(try simp only [qV]at *);(try simp only [zQ,zA,zB,zC,zD,zE,zF,zG,zH,zI,zJ,zK,zL,zM,zN,zO,zP,zR,zS]at *);omega)|skip
 ·rintro ⟨k,hk⟩
  cbv
  have hl1:=ui0 fA k
  have hl2:=ui0 fB k
  have hyA:=uou (f:=fA) (k:=k)
  have hnA:=uqi (f:=fA) (k:=k)
  have hyB:=uou (f:=fB) (k:=k)
  have hnB:=uqi (f:=fB) (k:=k)
  obtain⟨M1,hM1⟩:∃M,M=ubT fA k:=⟨_,rfl⟩
  obtain⟨M2,hM2⟩:∃M,M=ubT fB k:=⟨_,rfl⟩
  rw [←hM1]at hl1 hyA hnA⊢
  rw [←hM2]at hl2 hyB hnB⊢
  have c64k:=c64 k
  have c65k:=c65 k
  rcases hfa:fA k with _|_<;>rcases hfb:fB k with _|_
  ·rw [hfa]at c64k
   rw [hfb]at c65k
   cbv
   repeat' (first
    |with_reducible refine ua4 ?_ ?_
    |with_reducible refine And.intro ?_ ?_
    |(with_reducible intro hcd;(try simp only [zA,zB,zC,zD,zE,zF,zG,zH,zI,zJ,zK,zL,zM,zN,zO,zP]at hcd);try cbv)
    | (refine⟨some [102],?_⟩
       cbv
       refine qQ ?_ (c64k) ?hfit ?hbo
       case hfit=>(cbv;(repeat' (first|exact qB|refine qD ?_ ?_|exact qE (by rfl)|exact qF (by rfl)|exact Fit.refl _|exact qA|refine qC ?_ rfl ?_));done)
       case hbo=>(cbv;(repeat' (first|exact qH|refine qI ?_ ?_|exact qK _|refine qJ ?_|exact qA|exact qE (by rfl)|exact qF (by rfl)|exact Fit.refl _|exact qG _|refine qC ?_ rfl ?_));done)
       try cbv)
    | (refine⟨some [102],?_⟩
       cbv
       refine qQ ?_ (c65k) ?hfit ?hbo
       case hfit=>(cbv;(repeat' (first|exact qB|refine qD ?_ ?_|exact qE (by rfl)|exact qF (by rfl)|exact Fit.refl _|exact qA|refine qC ?_ rfl ?_));done)
       case hbo=>(cbv;(repeat' (first|exact qH|refine qI ?_ ?_|exact qK _|refine qJ ?_|exact qA|exact qE (by rfl)|exact qF (by rfl)|exact Fit.refl _|exact qG _|refine qC ?_ rfl ?_));done)
       try cbv)
    | (obtain⟨L3,eL3⟩:∃y:List Int,y=M1++[zi k]:=⟨_,rfl⟩
       refine⟨udJ L3,?_⟩
       cbv
       refine ua4 (ual (L:=M1) eL3 (by(first|rfl|((try simp only [qV]at *);(try simp only [zQ,zA,zB,zC,zD,zE,zF,zG,zH,zI,zJ,zK,zL,zM,zN,zO,zP,zR,zS]at *);done)|((try simp only [qV]at *);(try simp only [zQ,zA,zB,zC,zD,zE,zF,zG,zH,zI,zJ,zK,zL,zM,zN,zO,zP,zR,zS]at *);omega))) (by rfl) (fun ix=>Fit.refl _) (fun ix h=>qC (qE (by rfl)) rfl qA) (by(try simp only [qV]at *);(try simp only [zQ,zA,zB,zC,zD,zE,zF,zG,zH,zI,zJ,zK,zL,zM,zN,zO,zP,zR,zS]at *);omega)) (Or.inl ?_)
       try cbv)
    | (obtain⟨L4,eL4⟩:∃y:List Int,y=M2++[zi k]:=⟨_,rfl⟩
       refine⟨udJ L4,?_⟩
       cbv
       refine ua4 (ual (L:=M2) eL4 (by(first|rfl|((try simp only [qV]at *);(try simp only [zQ,zA,zB,zC,zD,zE,zF,zG,zH,zI,zJ,zK,zL,zM,zN,zO,zP,zR,zS]at *);done)|((try simp only [qV]at *);(try simp only [zQ,zA,zB,zC,zD,zE,zF,zG,zH,zI,zJ,zK,zL,zM,zN,zO,zP,zR,zS]at *);omega))) (by rfl) (fun ix=>Fit.refl _) (fun ix h=>qC (qE (by rfl)) rfl qA) (by(try simp only [qV]at *);(try simp only [zQ,zA,zB,zC,zD,zE,zF,zG,zH,zI,zJ,zK,zL,zM,zN,zO,zP,zR,zS]at *);omega)) (Or.inl ?_)
       try cbv)
    |fail)
   all_goals first|trivial|((try simp only [qV]at *);(try simp only [zQ,zA,zB,zC,zD,zE,zF,zG,zH,zI,zJ,zK,zL,zM,zN,zO,zP,zR,zS]at *);first|(refine qN ?_;omega)|(simp only [uaq];omega))|((have hke:k=d.pn.toNat:=(by((try simp only [qV]at *);(try simp only [zQ,zA,zB,zC,zD,zE,zF,zG,zH,zI,zJ,zK,zL,zM,zN,zO,zP,zR,zS]at *);omega)));subst hR;rw [←hke,←hM1,←hM2];exact qD (Fit.refl _) (qD (Fit.refl _) (qD (qE rfl) qB)))|((try simp only [zQ,zA,zB,zC,zD,zE,zF,zG,zH,zI,zJ,zK,zL,zM,zN,zO,zP,zR,zS]at *);(have hx1:ubT fA (k+1)=M1:=hnA hfa);(have hx2:ubT fB (k+1)=M2:=hnB hfb);refine⟨⟨k+1,by((try simp only [qV]at *);(try simp only [zQ,zA,zB,zC,zD,zE,zF,zG,zH,zI,zJ,zK,zL,zM,zN,zO,zP,zR,zS]at *);omega)⟩,by simp only [];omega,?_⟩;cbv;(repeat' (first|with_reducible refine ua4 ?_ ?_|with_reducible refine And.intro ?_ ?_));(all_goals first|trivial|exact qM (qE (by rfl))|exact qM (qF (by rfl))|exact qM (Fit.refl _)|exact qL (qK _)|(refine qM (qE ?_);(try simp only [qV]at *);simp only [zQ,zA,zB,zC,zD,zE,zF,zG,zH,zI,zJ,zK,zL,zM,zN,zO,zP,zR,zS]at *;omega)|(refine qL (qJ ?_);(repeat' (first|exact qA|exact qB|refine qC ?_ rfl ?_|refine qD ?_ ?_|exact qE (by rfl)|exact qF (by rfl)|exact Fit.refl _|exact qG _|(refine qE ?_;(try simp only [qV]at *);simp only [zQ,zA,zB,zC,zD,zE,zF,zG,zH,zI,zJ,zK,zL,zM,zN,zO,zP,zR,zS]at *;omega)));done)|(simp only [hx1];first|exact qL (qK _)|(refine qL (ua9 ?_ ?_)<;>first|rfl|(rw [hM1,List.length_append];rfl)|((try simp only [qV]at *);(try simp only [zQ,zA,zB,zC,zD,zE,zF,zG,zH,zI,zJ,zK,zL,zM,zN,zO,zP,zR,zS]at *);(try simp only [hM1,List.length_append,List.length_cons,List.length_nil]at *);omega)|(intro ix h0 h1;exact Fit.refl _)))|(simp only [hx2];first|exact qL (qK _)|(refine qL (ua9 ?_ ?_)<;>first|rfl|(rw [hM2,List.length_append];rfl)|((try simp only [qV]at *);(try simp only [zQ,zA,zB,zC,zD,zE,zF,zG,zH,zI,zJ,zK,zL,zM,zN,zO,zP,zR,zS]at *);(try simp only [hM2,List.length_append,List.length_cons,List.length_nil]at *);omega)|(intro ix h0 h1;exact Fit.refl _)))|skip))|skip
  ·rw [hfa]at c64k
   rw [hfb]at c65k
   cbv
   repeat' (first
    |with_reducible refine ua4 ?_ ?_
    |with_reducible refine And.intro ?_ ?_
    |(with_reducible intro hcd;(try simp only [zA,zB,zC,zD,zE,zF,zG,zH,zI,zJ,zK,zL,zM,zN,zO,zP]at hcd);try cbv)
    | (refine⟨some [102],?_⟩
       cbv
       refine qQ ?_ (c64k) ?hfit ?hbo
       case hfit=>(cbv;(repeat' (first|exact qB|refine qD ?_ ?_|exact qE (by rfl)|exact qF (by rfl)|exact Fit.refl _|exact qA|refine qC ?_ rfl ?_));done)
       case hbo=>(cbv;(repeat' (first|exact qH|refine qI ?_ ?_|exact qK _|refine qJ ?_|exact qA|exact qE (by rfl)|exact qF (by rfl)|exact Fit.refl _|exact qG _|refine qC ?_ rfl ?_));done)
       try cbv)
    | (refine⟨some [102],?_⟩
       cbv
       refine qQ ?_ (c65k) ?hfit ?hbo
       case hfit=>(cbv;(repeat' (first|exact qB|refine qD ?_ ?_|exact qE (by rfl)|exact qF (by rfl)|exact Fit.refl _|exact qA|refine qC ?_ rfl ?_));done)
       case hbo=>(cbv;(repeat' (first|exact qH|refine qI ?_ ?_|exact qK _|refine qJ ?_|exact qA|exact qE (by rfl)|exact qF (by rfl)|exact Fit.refl _|exact qG _|refine qC ?_ rfl ?_));done)
       try cbv)
    | (obtain⟨L3,eL3⟩:∃y:List Int,y=M1++[zi k]:=⟨_,rfl⟩
       refine⟨udJ L3,?_⟩
       cbv
       refine ua4 (ual (L:=M1) eL3 (by(first|rfl|((try simp only [qV]at *);(try simp only [zQ,zA,zB,zC,zD,zE,zF,zG,zH,zI,zJ,zK,zL,zM,zN,zO,zP,zR,zS]at *);done)|((try simp only [qV]at *);(try simp only [zQ,zA,zB,zC,zD,zE,zF,zG,zH,zI,zJ,zK,zL,zM,zN,zO,zP,zR,zS]at *);omega))) (by rfl) (fun ix=>Fit.refl _) (fun ix h=>qC (qE (by rfl)) rfl qA) (by(try simp only [qV]at *);(try simp only [zQ,zA,zB,zC,zD,zE,zF,zG,zH,zI,zJ,zK,zL,zM,zN,zO,zP,zR,zS]at *);omega)) (Or.inl ?_)
       try cbv)
    | (obtain⟨L4,eL4⟩:∃y:List Int,y=M2++[zi k]:=⟨_,rfl⟩
       refine⟨udJ L4,?_⟩
       cbv
       refine ua4 (ual (L:=M2) eL4 (by(first|rfl|((try simp only [qV]at *);(try simp only [zQ,zA,zB,zC,zD,zE,zF,zG,zH,zI,zJ,zK,zL,zM,zN,zO,zP,zR,zS]at *);done)|((try simp only [qV]at *);(try simp only [zQ,zA,zB,zC,zD,zE,zF,zG,zH,zI,zJ,zK,zL,zM,zN,zO,zP,zR,zS]at *);omega))) (by rfl) (fun ix=>Fit.refl _) (fun ix h=>qC (qE (by rfl)) rfl qA) (by(try simp only [qV]at *);(try simp only [zQ,zA,zB,zC,zD,zE,zF,zG,zH,zI,zJ,zK,zL,zM,zN,zO,zP,zR,zS]at *);omega)) (Or.inl ?_)
       try cbv)
    |fail)
   all_goals first|trivial|((try simp only [qV]at *);(try simp only [zQ,zA,zB,zC,zD,zE,zF,zG,zH,zI,zJ,zK,zL,zM,zN,zO,zP,zR,zS]at *);first|(refine qN ?_;omega)|(simp only [uaq];omega))|((have hke:k=d.pn.toNat:=(by((try simp only [qV]at *);(try simp only [zQ,zA,zB,zC,zD,zE,zF,zG,zH,zI,zJ,zK,zL,zM,zN,zO,zP,zR,zS]at *);omega)));subst hR;rw [←hke,←hM1,←hM2];exact qD (Fit.refl _) (qD (Fit.refl _) (qD (qE rfl) qB)))|((try simp only [zQ,zA,zB,zC,zD,zE,zF,zG,zH,zI,zJ,zK,zL,zM,zN,zO,zP,zR,zS]at *);(have hx1:ubT fA (k+1)=M1:=hnA hfa);(have hx2:ubT fB (k+1)=L4:=(hyB hfb).trans eL4.symm);refine⟨⟨k+1,by((try simp only [qV]at *);(try simp only [zQ,zA,zB,zC,zD,zE,zF,zG,zH,zI,zJ,zK,zL,zM,zN,zO,zP,zR,zS]at *);omega)⟩,by simp only [];omega,?_⟩;cbv;(repeat' (first|with_reducible refine ua4 ?_ ?_|with_reducible refine And.intro ?_ ?_));(all_goals first|trivial|exact qM (qE (by rfl))|exact qM (qF (by rfl))|exact qM (Fit.refl _)|exact qL (qK _)|(refine qM (qE ?_);(try simp only [qV]at *);simp only [zQ,zA,zB,zC,zD,zE,zF,zG,zH,zI,zJ,zK,zL,zM,zN,zO,zP,zR,zS]at *;omega)|(refine qL (qJ ?_);(repeat' (first|exact qA|exact qB|refine qC ?_ rfl ?_|refine qD ?_ ?_|exact qE (by rfl)|exact qF (by rfl)|exact Fit.refl _|exact qG _|(refine qE ?_;(try simp only [qV]at *);simp only [zQ,zA,zB,zC,zD,zE,zF,zG,zH,zI,zJ,zK,zL,zM,zN,zO,zP,zR,zS]at *;omega)));done)|(simp only [hx1];first|exact qL (qK _)|(refine qL (ua9 ?_ ?_)<;>first|rfl|(rw [hM1,List.length_append];rfl)|((try simp only [qV]at *);(try simp only [zQ,zA,zB,zC,zD,zE,zF,zG,zH,zI,zJ,zK,zL,zM,zN,zO,zP,zR,zS]at *);(try simp only [hM1,List.length_append,List.length_cons,List.length_nil]at *);omega)|(intro ix h0 h1;exact Fit.refl _)))|(simp only [hx2];first|exact qL (qK _)|(refine qL (ua9 ?_ ?_)<;>first|rfl|(rw [eL4,List.length_append];rfl)|((try simp only [qV]at *);(try simp only [zQ,zA,zB,zC,zD,zE,zF,zG,zH,zI,zJ,zK,zL,zM,zN,zO,zP,zR,zS]at *);(try simp only [eL4,List.length_append,List.length_cons,List.length_nil]at *);omega)|(intro ix h0 h1;exact Fit.refl _)))|skip))|skip
  ·rw [hfa]at c64k
   rw [hfb]at c65k
   cbv
   repeat' (first
    |with_reducible refine ua4 ?_ ?_
    |with_reducible refine And.intro ?_ ?_
    |(with_reducible intro hcd;(try simp only [zA,zB,zC,zD,zE,zF,zG,zH,zI,zJ,zK,zL,zM,zN,zO,zP]at hcd);try cbv)
    | (refine⟨some [102],?_⟩
       cbv
       refine qQ ?_ (c64k) ?hfit ?hbo
       case hfit=>(cbv;(repeat' (first|exact qB|refine qD ?_ ?_|exact qE (by rfl)|exact qF (by rfl)|exact Fit.refl _|exact qA|refine qC ?_ rfl ?_));done)
       case hbo=>(cbv;(repeat' (first|exact qH|refine qI ?_ ?_|exact qK _|refine qJ ?_|exact qA|exact qE (by rfl)|exact qF (by rfl)|exact Fit.refl _|exact qG _|refine qC ?_ rfl ?_));done)
       try cbv)
    | (refine⟨some [102],?_⟩
       cbv
       refine qQ ?_ (c65k) ?hfit ?hbo
       case hfit=>(cbv;(repeat' (first|exact qB|refine qD ?_ ?_|exact qE (by rfl)|exact qF (by rfl)|exact Fit.refl _|exact qA|refine qC ?_ rfl ?_));done)
       case hbo=>(cbv;(repeat' (first|exact qH|refine qI ?_ ?_|exact qK _|refine qJ ?_|exact qA|exact qE (by rfl)|exact qF (by rfl)|exact Fit.refl _|exact qG _|refine qC ?_ rfl ?_));done)
       try cbv)
    | (obtain⟨L3,eL3⟩:∃y:List Int,y=M1++[zi k]:=⟨_,rfl⟩
       refine⟨udJ L3,?_⟩
       cbv
       refine ua4 (ual (L:=M1) eL3 (by(first|rfl|((try simp only [qV]at *);(try simp only [zQ,zA,zB,zC,zD,zE,zF,zG,zH,zI,zJ,zK,zL,zM,zN,zO,zP,zR,zS]at *);done)|((try simp only [qV]at *);(try simp only [zQ,zA,zB,zC,zD,zE,zF,zG,zH,zI,zJ,zK,zL,zM,zN,zO,zP,zR,zS]at *);omega))) (by rfl) (fun ix=>Fit.refl _) (fun ix h=>qC (qE (by rfl)) rfl qA) (by(try simp only [qV]at *);(try simp only [zQ,zA,zB,zC,zD,zE,zF,zG,zH,zI,zJ,zK,zL,zM,zN,zO,zP,zR,zS]at *);omega)) (Or.inl ?_)
       try cbv)
    | (obtain⟨L4,eL4⟩:∃y:List Int,y=M2++[zi k]:=⟨_,rfl⟩
       refine⟨udJ L4,?_⟩
       cbv
       refine ua4 (ual (L:=M2) eL4 (by(first|rfl|((try simp only [qV]at *);(try simp only [zQ,zA,zB,zC,zD,zE,zF,zG,zH,zI,zJ,zK,zL,zM,zN,zO,zP,zR,zS]at *);done)|((try simp only [qV]at *);(try simp only [zQ,zA,zB,zC,zD,zE,zF,zG,zH,zI,zJ,zK,zL,zM,zN,zO,zP,zR,zS]at *);omega))) (by rfl) (fun ix=>Fit.refl _) (fun ix h=>qC (qE (by rfl)) rfl qA) (by(try simp only [qV]at *);(try simp only [zQ,zA,zB,zC,zD,zE,zF,zG,zH,zI,zJ,zK,zL,zM,zN,zO,zP,zR,zS]at *);omega)) (Or.inl ?_)
       try cbv)
    |fail)
   all_goals first|trivial|((try simp only [qV]at *);(try simp only [zQ,zA,zB,zC,zD,zE,zF,zG,zH,zI,zJ,zK,zL,zM,zN,zO,zP,zR,zS]at *);first|(refine qN ?_;omega)|(simp only [uaq];omega))|((have hke:k=d.pn.toNat:=(by((try simp only [qV]at *);(try simp only [zQ,zA,zB,zC,zD,zE,zF,zG,zH,zI,zJ,zK,zL,zM,zN,zO,zP,zR,zS]at *);omega)));subst hR;rw [←hke,←hM1,←hM2];exact qD (Fit.refl _) (qD (Fit.refl _) (qD (qE rfl) qB)))|((try simp only [zQ,zA,zB,zC,zD,zE,zF,zG,zH,zI,zJ,zK,zL,zM,zN,zO,zP,zR,zS]at *);(have hx1:ubT fA (k+1)=L3:=(hyA hfa).trans eL3.symm);(have hx2:ubT fB (k+1)=M2:=hnB hfb);refine⟨⟨k+1,by((try simp only [qV]at *);(try simp only [zQ,zA,zB,zC,zD,zE,zF,zG,zH,zI,zJ,zK,zL,zM,zN,zO,zP,zR,zS]at *);omega)⟩,by simp only [];omega,?_⟩;cbv;(repeat' (first|with_reducible refine ua4 ?_ ?_|with_reducible refine And.intro ?_ ?_));(all_goals first|trivial|exact qM (qE (by rfl))|exact qM (qF (by rfl))|exact qM (Fit.refl _)|exact qL (qK _)|(refine qM (qE ?_);(try simp only [qV]at *);simp only [zQ,zA,zB,zC,zD,zE,zF,zG,zH,zI,zJ,zK,zL,zM,zN,zO,zP,zR,zS]at *;omega)|(refine qL (qJ ?_);(repeat' (first|exact qA|exact qB|refine qC ?_ rfl ?_|refine qD ?_ ?_|exact qE (by rfl)|exact qF (by rfl)|exact Fit.refl _|exact qG _|(refine qE ?_;(try simp only [qV]at *);simp only [zQ,zA,zB,zC,zD,zE,zF,zG,zH,zI,zJ,zK,zL,zM,zN,zO,zP,zR,zS]at *;omega)));done)|(simp only [hx1];first|exact qL (qK _)|(refine qL (ua9 ?_ ?_)<;>first|rfl|(rw [eL3,List.length_append];rfl)|((try simp only [qV]at *);(try simp only [zQ,zA,zB,zC,zD,zE,zF,zG,zH,zI,zJ,zK,zL,zM,zN,zO,zP,zR,zS]at *);(try simp only [eL3,List.length_append,List.length_cons,List.length_nil]at *);omega)|(intro ix h0 h1;exact Fit.refl _)))|(simp only [hx2];first|exact qL (qK _)|(refine qL (ua9 ?_ ?_)<;>first|rfl|(rw [hM2,List.length_append];rfl)|((try simp only [qV]at *);(try simp only [zQ,zA,zB,zC,zD,zE,zF,zG,zH,zI,zJ,zK,zL,zM,zN,zO,zP,zR,zS]at *);(try simp only [hM2,List.length_append,List.length_cons,List.length_nil]at *);omega)|(intro ix h0 h1;exact Fit.refl _)))|skip))|skip
  ·rw [hfa]at c64k
   rw [hfb]at c65k
   cbv
   repeat' (first
    |with_reducible refine ua4 ?_ ?_
    |with_reducible refine And.intro ?_ ?_
    |(with_reducible intro hcd;(try simp only [zA,zB,zC,zD,zE,zF,zG,zH,zI,zJ,zK,zL,zM,zN,zO,zP]at hcd);try cbv)
    | (refine⟨some [102],?_⟩
       cbv
       refine qQ ?_ (c64k) ?hfit ?hbo
       case hfit=>(cbv;(repeat' (first|exact qB|refine qD ?_ ?_|exact qE (by rfl)|exact qF (by rfl)|exact Fit.refl _|exact qA|refine qC ?_ rfl ?_));done)
       case hbo=>(cbv;(repeat' (first|exact qH|refine qI ?_ ?_|exact qK _|refine qJ ?_|exact qA|exact qE (by rfl)|exact qF (by rfl)|exact Fit.refl _|exact qG _|refine qC ?_ rfl ?_));done)
       try cbv)
    | (refine⟨some [102],?_⟩
       cbv
       refine qQ ?_ (c65k) ?hfit ?hbo
       case hfit=>(cbv;(repeat' (first|exact qB|refine qD ?_ ?_|exact qE (by rfl)|exact qF (by rfl)|exact Fit.refl _|exact qA|refine qC ?_ rfl ?_));done)
       case hbo=>(cbv;(repeat' (first|exact qH|refine qI ?_ ?_|exact qK _|refine qJ ?_|exact qA|exact qE (by rfl)|exact qF (by rfl)|exact Fit.refl _|exact qG _|refine qC ?_ rfl ?_));done)
       try cbv)
    | (obtain⟨L3,eL3⟩:∃y:List Int,y=M1++[zi k]:=⟨_,rfl⟩
       refine⟨udJ L3,?_⟩
       cbv
       refine ua4 (ual (L:=M1) eL3 (by(first|rfl|((try simp only [qV]at *);(try simp only [zQ,zA,zB,zC,zD,zE,zF,zG,zH,zI,zJ,zK,zL,zM,zN,zO,zP,zR,zS]at *);done)|((try simp only [qV]at *);(try simp only [zQ,zA,zB,zC,zD,zE,zF,zG,zH,zI,zJ,zK,zL,zM,zN,zO,zP,zR,zS]at *);omega))) (by rfl) (fun ix=>Fit.refl _) (fun ix h=>qC (qE (by rfl)) rfl qA) (by(try simp only [qV]at *);(try simp only [zQ,zA,zB,zC,zD,zE,zF,zG,zH,zI,zJ,zK,zL,zM,zN,zO,zP,zR,zS]at *);omega)) (Or.inl ?_)
       try cbv)
    | (obtain⟨L4,eL4⟩:∃y:List Int,y=M2++[zi k]:=⟨_,rfl⟩
       refine⟨udJ L4,?_⟩
       cbv
       refine ua4 (ual (L:=M2) eL4 (by(first|rfl|((try simp only [qV]at *);(try simp only [zQ,zA,zB,zC,zD,zE,zF,zG,zH,zI,zJ,zK,zL,zM,zN,zO,zP,zR,zS]at *);done)|((try simp only [qV]at *);(try simp only [zQ,zA,zB,zC,zD,zE,zF,zG,zH,zI,zJ,zK,zL,zM,zN,zO,zP,zR,zS]at *);omega))) (by rfl) (fun ix=>Fit.refl _) (fun ix h=>qC (qE (by rfl)) rfl qA) (by(try simp only [qV]at *);(try simp only [zQ,zA,zB,zC,zD,zE,zF,zG,zH,zI,zJ,zK,zL,zM,zN,zO,zP,zR,zS]at *);omega)) (Or.inl ?_)
       try cbv)
    |fail)
   all_goals first|trivial|((try simp only [qV]at *);(try simp only [zQ,zA,zB,zC,zD,zE,zF,zG,zH,zI,zJ,zK,zL,zM,zN,zO,zP,zR,zS]at *);first|(refine qN ?_;omega)|(simp only [uaq];omega))|((have hke:k=d.pn.toNat:=(by((try simp only [qV]at *);(try simp only [zQ,zA,zB,zC,zD,zE,zF,zG,zH,zI,zJ,zK,zL,zM,zN,zO,zP,zR,zS]at *);omega)));subst hR;rw [←hke,←hM1,←hM2];exact qD (Fit.refl _) (qD (Fit.refl _) (qD (qE rfl) qB)))|((try simp only [zQ,zA,zB,zC,zD,zE,zF,zG,zH,zI,zJ,zK,zL,zM,zN,zO,zP,zR,zS]at *);(have hx1:ubT fA (k+1)=L3:=(hyA hfa).trans eL3.symm);(have hx2:ubT fB (k+1)=L4:=(hyB hfb).trans eL4.symm);refine⟨⟨k+1,by((try simp only [qV]at *);(try simp only [zQ,zA,zB,zC,zD,zE,zF,zG,zH,zI,zJ,zK,zL,zM,zN,zO,zP,zR,zS]at *);omega)⟩,by simp only [];omega,?_⟩;cbv;(repeat' (first|with_reducible refine ua4 ?_ ?_|with_reducible refine And.intro ?_ ?_));(all_goals first|trivial|exact qM (qE (by rfl))|exact qM (qF (by rfl))|exact qM (Fit.refl _)|exact qL (qK _)|(refine qM (qE ?_);(try simp only [qV]at *);simp only [zQ,zA,zB,zC,zD,zE,zF,zG,zH,zI,zJ,zK,zL,zM,zN,zO,zP,zR,zS]at *;omega)|(refine qL (qJ ?_);(repeat' (first|exact qA|exact qB|refine qC ?_ rfl ?_|refine qD ?_ ?_|exact qE (by rfl)|exact qF (by rfl)|exact Fit.refl _|exact qG _|(refine qE ?_;(try simp only [qV]at *);simp only [zQ,zA,zB,zC,zD,zE,zF,zG,zH,zI,zJ,zK,zL,zM,zN,zO,zP,zR,zS]at *;omega)));done)|(simp only [hx1];first|exact qL (qK _)|(refine qL (ua9 ?_ ?_)<;>first|rfl|(rw [eL3,List.length_append];rfl)|((try simp only [qV]at *);(try simp only [zQ,zA,zB,zC,zD,zE,zF,zG,zH,zI,zJ,zK,zL,zM,zN,zO,zP,zR,zS]at *);(try simp only [eL3,List.length_append,List.length_cons,List.length_nil]at *);omega)|(intro ix h0 h1;exact Fit.refl _)))|(simp only [hx2];first|exact qL (qK _)|(refine qL (ua9 ?_ ?_)<;>first|rfl|(rw [eL4,List.length_append];rfl)|((try simp only [qV]at *);(try simp only [zQ,zA,zB,zC,zD,zE,zF,zG,zH,zI,zJ,zK,zL,zM,zN,zO,zP,zR,zS]at *);(try simp only [eL4,List.length_append,List.length_cons,List.length_nil]at *);omega)|(intro ix h0 h1;exact Fit.refl _)))|skip))|skip
theorem urN (d:Dsp)(h:¬uah d=0):ua0 Tryz.prog 19 [(ubh d)] [] (fun r _=>r=(.tup [(iS ((ugm d))),(iS ((uoc d))),(iv fun _=>uah d)])):=by
 have c59:=uhQ d h
 refine ua0.is fun R hR=>qW (sc:=uyq) uan mix Tryz.func19 rfl Tryz.call19 (by kernel_rfl) (by kernel_rfl) ?_
 generalize Tryz.prog=P at c59⊢
 cbv
 repeat' (first|with_reducible refine And.intro ?_ ?_|(with_reducible intro hcd;(try simp only [zA,zB,zC,zD,zE,zF,zG,zH,zI,zJ,zK,zL,zM,zN,zO,zP]at hcd);try cbv)|(refine qP ?_ (c59) ?hfit;(case hfit=>((repeat' (first|exact qB|refine qD ?_ ?_|exact qE (by rfl)|exact qF (by rfl)|exact Fit.refl _|exact qA|refine qC ?_ rfl ?_));done));try cbv)|fail)
 all_goals first|trivial|(subst hR;(exact qD (qO (by(have e:ugm d=[]:=if_neg h);rw [e];rfl)) (qD (qO (by(have e:uoc d=[]:=if_neg h);rw [e];rfl)) (qD (Fit.refl _) qB)));done)|skip
theorem uib (d:Dsp):ua0 Tryz.prog 19 [(ubh d)] [] (fun r _=>r=(.tup [(iS ((ugm d))),(iS ((uoc d))),(iv fun _=>uah d)])):=by
 by_cases h:uah d=0
 ·exact ury d h
 ·exact urN d h
end Go.Proofs.YtkdggbfknlcdaaaGreat
namespace Go.Proofs.YtkdggbfknlcdaaaGreat
open Go.Eng.Dif Go.Eng.Few
theorem uvy {d:Dsp}(h:uah d=0):ufd d d.fs (ueT d)=true:=by
 have e:ueT d=ud1 d.fs.length (udh d):=if_pos h
 rw [e]
 exact(ucc (ufo h)).2.1
theorem uvG (d:Dsp)(h:ua7 d=0):(ueT d).length≤6:=by
 unfold ueT
 split
 ·rename_i q
  have:=ukw (ufo q)
  have:=(ua3.1 h).f6
  omega
 ·simp
theorem uiT {g x:Int}(h0:0≤g)(h1:g≤100000)(a0: -2000≤x)(a1:x≤2000): -200000000≤g*x∧g*x≤200000000:=by
 have e1:g*x≤g*2000:=Int.mul_le_mul_of_nonneg_left a1 h0
 have e2:g*(-2000)≤g*x:=Int.mul_le_mul_of_nonneg_left a0 h0
 omega
def us7 (d:Dsp)(s g:Int):Prop:=(0≤s∧s≤d.sn-1)∧0≤g∧g≤100000
instance (d:Dsp) (s g:Int):Decidable (us7 d s g):=by unfold us7;infer_instance
def chE (d:Dsp)(s g:Int):Int:=if ua7 d=0 then(if us7 d s g then uah d else 2)else ua7 d
def chL (d:Dsp)(s g:Int):Int:=if chE d s g=0 then(g*loT d (ueT d) s.toNat).tdiv 1000 else 0
def chH (d:Dsp)(s g:Int):Int:=if chE d s g=0 then(g*hiT d (ueT d) s.toNat).tdiv 1000 else 0
theorem uu2 {d:Dsp} {s g:Int}(h:¬ua7 d=0):chE d s g=ua7 d∧chL d s g=0∧chH d s g=0:=by
 have e:chE d s g=ua7 d:=by unfold chE;rw [if_neg h]
 exact⟨e,by unfold chL;rw [e,if_neg h],by unfold chH;rw [e,if_neg h]⟩
theorem uwl {d:Dsp} {s g:Int}(h:ua7 d=0)(h':¬us7 d s g):chE d s g=2∧chL d s g=0∧chH d s g=0:=by
 have e:chE d s g=2:=by unfold chE;rw [if_pos h,if_neg h']
 exact⟨e,by unfold chL;rw [e];rfl,by unfold chH;rw [e];rfl⟩
theorem usl {d:Dsp} {s g:Int}(h:ua7 d=0)(h':us7 d s g)(hf:¬uah d=0):chE d s g=uah d∧chL d s g=0∧chH d s g=0:=by
 have e:chE d s g=uah d:=by unfold chE;rw [if_pos h,if_pos h']
 exact⟨e,by unfold chL;rw [e,if_neg hf],by unfold chH;rw [e,if_neg hf]⟩
theorem uoQ {d:Dsp} {s g:Int}(h:ua7 d=0)(h':us7 d s g)(hf:uah d=0):chE d s g=0∧chL d s g=(g*loT d (ueT d) s.toNat).tdiv 1000∧chH d s g=(g*hiT d (ueT d) s.toNat).tdiv 1000:=by
 have e:chE d s g=0:=by unfold chE;rw [if_pos h,if_pos h',hf]
 exact⟨e,by unfold chL;rw [e];rfl,by unfold chH;rw [e];rfl⟩
def una (n:Int):Prop:=0≤n∧n≤1000000
instance (n:Int):Decidable (una n):=by unfold una;infer_instance
def coE (d:Dsp)(n:Int):Int:=if ua7 d=0 then(if una n then uah d else 2)else ua7 d
def coN (d:Dsp)(n:Int):Int:=if coE d n=0 then d.pn else 0
def udK (d:Dsp):List Int:=ukH d.pn.toNat (ugm d)
def ufG (d:Dsp)(n:Int)(p:Nat):Int:=ubd n.toNat (udK d) (udK d).length (udK d).length p
theorem uob {d:Dsp} {n:Int}(h:¬ua7 d=0):coE d n=ua7 d∧coN d n=0:=by
 have e:coE d n=ua7 d:=by unfold coE;rw [if_neg h]
 exact⟨e,by unfold coN;rw [e,if_neg h]⟩
theorem utv {d:Dsp} {n:Int}(h:ua7 d=0)(h':¬una n):coE d n=2∧coN d n=0:=by
 have e:coE d n=2:=by unfold coE;rw [if_pos h,if_neg h']
 exact⟨e,by unfold coN;rw [e];rfl⟩
theorem umy {d:Dsp} {n:Int}(h:ua7 d=0)(h':una n)(hf:¬uah d=0):coE d n=uah d∧coN d n=0:=by
 have e:coE d n=uah d:=by unfold coE;rw [if_pos h,if_pos h']
 exact⟨e,by unfold coN;rw [e,if_neg hf]⟩
theorem ufq {d:Dsp} {n:Int}(h:ua7 d=0)(h':una n)(hf:uah d=0):coE d n=0∧coN d n=d.pn:=by
 have e:coE d n=0:=by unfold coE;rw [if_pos h,if_pos h',hf]
 exact⟨e,by unfold coN;rw [e];rfl⟩
end Go.Proofs.YtkdggbfknlcdaaaGreat
namespace Go.Proofs.YtkdggbfknlcdaaaGreat
open Go Go.Eng Go.Proofs Go.Eng.Dif Go.Eng.Few
set_option maxRecDepth 10000
theorem uhm {a:Int}(h: -200000000≤a∧a≤200000000): -200000000≤a.tdiv 1000∧a.tdiv 1000≤200000000:=by
 rcases Int.le_total 0 a with q|q
 ·rw [Int.tdiv_eq_ediv_of_nonneg q];omega
 ·obtain⟨b,rfl⟩:∃b,a = -b:=⟨-a,by omega⟩
  rw [Int.neg_tdiv,Int.tdiv_eq_ediv_of_nonneg (by omega)];omega
set_option maxHeartbeats 2000000 in
theorem usp (d:Dsp)(s g:Int):ua0 Tryz.prog 25 [(ubh d),(iv fun _=>s),(iv fun _=>g)] [] (fun r _=>r=(.tup [(.agg [(iv fun _=>chL d s g),(iv fun _=>chH d s g)]),(iv fun _=>chE d s g)])):=by
 have c16:=ucM d
 have c43:= @ucY
 have c22:=ul9 d
 have c44:=udU d
 have c66:=fun h:ua7 d=0=>uit d s ⟨(ua3.1 h).s1,by have:=(ua3.1 h).s3;omega⟩
 have c54:=fun h:ua7 d=0=>ucF d (ueT d) (ua3.1 h) (by have:=uvG d h;omega)
 have hbd:=fun (h:uah d=0) (i:Nat) (hi:i<16)=>uts (ua3.1 (uas h).1) (uvy h) hi
 have hsn:=fun h:uah d=0=>(ua3.1 (uas h).1).s3
 have c55:=fun (s:Int) (h:uah d=0∧0≤s∧s≤d.sn-1)=>(show ua0 Tryz.prog 63 [.own 0 0,(iv fun _=>s)] [.cells [(.arr 16 (fun ix=>(iv fun _=>(clo (ui5 d d.fs (ueT d))) ix.den.toNat)))] 95] (fun r bs=>r=(.agg [(iv fun _=>loT d (ueT d) s.toNat),(iv fun _=>hiT d (ueT d) s.toNat)])∧bs=[.cells [(.arr 16 (fun ix=>(iv fun _=>(clo (ui5 d d.fs (ueT d))) ix.den.toNat)))] 95])from ulC (clo (ui5 d d.fs (ueT d))) s ⟨h.2.1,by have:=hsn h.1;omega⟩ (fun i hi=>⟨by have:=hbd h.1 i hi;omega,by have:=hbd h.1 i hi;omega⟩))
 have hmul:0≤g→g≤100000→0≤s∧s≤d.sn-1→uah d=0→(-200000000≤g*loT d (ueT d) s.toNat∧g*loT d (ueT d) s.toNat≤200000000)∧ -200000000≤g*hiT d (ueT d) s.toNat∧g*hiT d (ueT d) s.toNat≤200000000:=fun h0 h1 hs hf=>by
  have s3:=hsn hf
  have b1:=hbd hf (at4 (s.toNat+1) 0) (ueP (by omega) (by omega))
  have b2:=hbd hf (at4 0 (s.toNat+1)) (ueP (by omega) (by omega))
  exact⟨uiT h0 h1 (by unfold loT;omega) (by unfold loT;omega),uiT h0 h1 (by unfold hiT;omega) (by unfold hiT;omega)⟩
 refine ua0.is fun R hR=>qW (sc:=uBy) uan mix Tryz.func25 rfl Tryz.call25 (by kernel_rfl) (by kernel_rfl) ?_
 generalize Tryz.prog=P at c16 c43 c22 c44 c66 c54 c55⊢
 cbv
 repeat' (first
  |with_reducible refine ua4 ?_ ?_
  |with_reducible refine And.intro ?_ ?_
  |(with_reducible refine qS ?_ ?_ ?_;try cbv)
  |(with_reducible intro hcd;(try simp only [zA,zB,zC,zD,zE,zF,zG,zH,zI,zJ,zK,zL,zM,zN,zO,zP]at hcd);try cbv)
  |(refine qP ?_ (c16) ?hfit;(case hfit=>((repeat' (first|exact qB|refine qD ?_ ?_|exact qE (by rfl)|exact qF (by rfl)|exact Fit.refl _|exact qA|refine qC ?_ rfl ?_));done));try cbv)
  |(refine qP ?_ (c43 _ _ _) (by(repeat' (first|exact qB|refine qD ?_ ?_|exact qE (by rfl)|exact qF (by rfl)|exact Fit.refl _|exact qA|refine qC ?_ rfl ?_)));try cbv)
  |(refine qP ?_ (c22) ?hfit;(case hfit=>((repeat' (first|exact qB|refine qD ?_ ?_|exact qE (by rfl)|exact qF (by rfl)|exact Fit.refl _|exact qA|refine qC ?_ rfl ?_));done));try cbv)
  |(refine qP ?_ (c44) ?hfit;(case hfit=>((repeat' (first|exact qB|refine qD ?_ ?_|exact qE (by rfl)|exact qF (by rfl)|exact Fit.refl _|exact qA|refine qC ?_ rfl ?_));done));try cbv)
  |(refine qP ?_ (c66 (by((try simp only [qV]at *);(try simp only [zQ,zA,zB,zC,zD,zE,zF,zG,zH,zI,zJ,zK,zL,zM,zN,zO,zP,zR,zS]at *);first|assumption|omega))) ?hfit;(case hfit=>((repeat' (first|exact qB|refine qD ?_ ?_|exact qE (by rfl)|exact qF (by rfl)|exact Fit.refl _|exact qA|refine qC ?_ rfl ?_));done));try cbv)
  |(refine qP ?_ (c54 (by((try simp only [qV]at *);(try simp only [zQ,zA,zB,zC,zD,zE,zF,zG,zH,zI,zJ,zK,zL,zM,zN,zO,zP,zR,zS]at *);first|assumption|omega))) ?hfit;(case hfit=>((repeat' (first|exact qB|refine qD ?_ ?_|exact qE (by rfl)|exact qF (by rfl)|exact Fit.refl _|exact qA|refine qC ?_ rfl ?_));done));try cbv)
  | ((have hf9:uah d=0:=(by((try simp only [qV]at *);(try simp only [zQ,zA,zB,zC,zD,zE,zF,zG,zH,zI,zJ,zK,zL,zM,zN,zO,zP,zR,zS]at *);omega)))
     refine⟨some [33],?_⟩
     cbv
     refine qQ ?_ (c55 s ⟨hf9,by((try simp only [qV]at *);(try simp only [zQ,zA,zB,zC,zD,zE,zF,zG,zH,zI,zJ,zK,zL,zM,zN,zO,zP,zR,zS]at *);(try simp only [uaj,uau,uaP,ub4,ub2,ub5,uae,uaf,uad,uag]at *);omega)⟩) ?hfit ?hbo
     case hfit=>(cbv;(repeat' (first|exact qB|refine qD ?_ ?_|exact qE (by rfl)|exact qF (by rfl)|exact Fit.refl _|exact qA|refine qC ?_ rfl ?_));done)
     case hbo=>(cbv;(repeat' (first|exact qH|refine qI ?_ ?_|exact qK _|refine qJ ?_|exact qA|exact qE (by rfl)|exact qF (by rfl)|exact Fit.refl _|exact qG _|refine qC ?_ rfl ?_));done)
     try cbv)
  |fail)
 all_goals first|((try simp only [qV]at *);(try simp only [zQ,zA,zB,zC,zD,zE,zF,zG,zH,zI,zJ,zK,zL,zM,zN,zO,zP,zR,zS,uaj,uau,uaP,ub4,ub2,ub5,uae,uaf,uad,uag]at *);first|(refine qN ?_;omega)|(simp only [uaq];omega))|(subst hR;(refine qD (qC (qE ?_) rfl (qC (qE ?_) rfl qA)) (qD (qE ?_) qB)<;>((try simp only [qV]at *);(try simp only [zQ,zA,zB,zC,zD,zE,zF,zG,zH,zI,zJ,zK,zL,zM,zN,zO,zP,zR,zS]at *);(try simp only [uaj,uau,uaP,ub4,ub2,ub5,uae,uaf,uad,uag]at *);(have h0:=uu2 (d:=d) (s:=s) (g:=g) (by first|assumption|omega));first|exact h0.2.1.symm|exact h0.2.2.symm|exact h0.1.symm));done)|(subst hR;(refine qD (qC (qE ?_) rfl (qC (qE ?_) rfl qA)) (qD (qE ?_) qB)<;>((try simp only [qV]at *);(try simp only [zQ,zA,zB,zC,zD,zE,zF,zG,zH,zI,zJ,zK,zL,zM,zN,zO,zP,zR,zS]at *);(try simp only [uaj,uau,uaP,ub4,ub2,ub5,uae,uaf,uad,uag]at *);(have h0:=uwl (d:=d) (s:=s) (g:=g) (by first|assumption|omega) (by unfold us7;omega));first|exact h0.2.1.symm|exact h0.2.2.symm|exact h0.1.symm));done)|(subst hR;(refine qD (qC (qE ?_) rfl (qC (qE ?_) rfl qA)) (qD (qE ?_) qB)<;>((try simp only [qV]at *);(try simp only [zQ,zA,zB,zC,zD,zE,zF,zG,zH,zI,zJ,zK,zL,zM,zN,zO,zP,zR,zS]at *);(try simp only [uaj,uau,uaP,ub4,ub2,ub5,uae,uaf,uad,uag]at *);(have h0:=usl (d:=d) (s:=s) (g:=g) (by first|assumption|omega) (by unfold us7;omega) (by first|assumption|omega));first|exact h0.2.1.symm|exact h0.2.2.symm|exact h0.1.symm));done)|(subst hR;(refine qD (qC (qE ?_) rfl (qC (qE ?_) rfl qA)) (qD (qE ?_) qB)<;>((try simp only [qV]at *);(try simp only [zQ,zA,zB,zC,zD,zE,zF,zG,zH,zI,zJ,zK,zL,zM,zN,zO,zP,zR,zS]at *);(try simp only [uaj,uau,uaP,ub4,ub2,ub5,uae,uaf,uad,uag]at *);(have h0:=uoQ (d:=d) (s:=s) (g:=g) (by first|assumption|omega) (by unfold us7;omega) (by first|assumption|omega));first|exact h0.2.1.symm|exact h0.2.2.symm|exact h0.1.symm));done)|((have hf9:uah d=0:=(by((try simp only [qV]at *);(try simp only [zQ,zA,zB,zC,zD,zE,zF,zG,zH,zI,zJ,zK,zL,zM,zN,zO,zP,zR,zS]at *);omega)));(have hb9:=hmul (by((try simp only [qV]at *);(try simp only [zQ,zA,zB,zC,zD,zE,zF,zG,zH,zI,zJ,zK,zL,zM,zN,zO,zP,zR,zS]at *);(try simp only [uaj,uau,uaP,ub4,ub2,ub5,uae,uaf,uad,uag]at *);omega)) (by((try simp only [qV]at *);(try simp only [zQ,zA,zB,zC,zD,zE,zF,zG,zH,zI,zJ,zK,zL,zM,zN,zO,zP,zR,zS]at *);(try simp only [uaj,uau,uaP,ub4,ub2,ub5,uae,uaf,uad,uag]at *);omega)) (by((try simp only [qV]at *);(try simp only [zQ,zA,zB,zC,zD,zE,zF,zG,zH,zI,zJ,zK,zL,zM,zN,zO,zP,zR,zS]at *);(try simp only [uaj,uau,uaP,ub4,ub2,ub5,uae,uaf,uad,uag]at *);omega)) hf9);(have t1:=uhm hb9.1);(have t2:=uhm hb9.2);(try simp only [qV]at *);(try simp only [zQ,zA,zB,zC,zD,zE,zF,zG,zH,zI,zJ,zK,zL,zM,zN,zO,zP,zR,zS]at *);(try simp only [uaj,uau,uaP,ub4,ub2,ub5,uae,uaf,uad,uag]at *);first|(refine qN ?_;omega)|(simp only [uaq];omega))|skip
theorem urH {f:Nat→Bool}:∀{n:Nat},ubT f n=[]→∀{k:Nat},k<n→f k=false:=by
 intro n
 induction n with
 |zero=>intro _ k hk;omega
 | succ n ih=>
  intro h k hk
  cases hf:f n with
  |true=>rw [uou hf]at h;simp at h
  | false=>
   rw [uqi hf]at h
   by_cases e:k=n
   ·rw [e];exact hf
   ·exact ih h (by omega)
set_option maxHeartbeats 2000000 in
theorem ur4 (d:Dsp)(h:uah d=0)(he:ugm d=[]):ua0 Tryz.prog 19 [(ubh d)] [] (fun r _=>r=(.tup [.val (Value.slice none 0 0),(iS ((uoc d))),(iv fun _=>uah d)])):=by
 have c59:=ulI d h
 have c58:=ugO
 have hF:=(uas h).1
 have hd:=ua3.1 hF
 have p1:=hd.p1
 have p4:=hd.p4
 have c61:=ugR d hd
 have hsf:=ujE (n:=d.pn.toNat) (ok:=ubG d) (by omega) (ufz h)
 have hm0:ubT (uk9 d) d.pn.toNat=[]:=(if_pos h:ugm d=_).symm.trans he
 have hAf:∀k:Nat,k<d.pn.toNat→uk9 d k=false:=fun k hk=>urH hm0 hk
 rw [show uoc d=ubT (uo6 d) d.pn.toNat from if_pos h,h]
 have hA:∀k:Nat,uh2 (fun i=>inL ((uaw d.pn.toNat (ubG d)).getD i []) (zi k)) (uaw d.pn.toNat (ubG d)).length=uk9 d k:=fun k=>utr _ _
 have hB:∀k:Nat,decide (0≤ubJ (fun i=> !(inL ((uaw d.pn.toNat (ubG d)).getD i []) (zi k))) (uaw d.pn.toNat (ubG d)).length 0)=uo6 d k:=fun k=>usU _ _
 obtain⟨L,hL⟩:∃L,L=uaw d.pn.toNat (ubG d):=⟨_,rfl⟩
 rw [←hL]at c61 hsf
 simp only [←hL]at hA hB
 have c64:=fun k:Nat=>(show ua0 Tryz.prog 54 [(.sl 1 (.sym fun _=>zi (L).length) (fun ix=>[(.sl 1 (.sym fun _=>zi ((L).getD ix.den.toNat []).length) (fun jx=>[(iv fun _=>((L).getD ix.den.toNat []).getD jx.den.toNat 0)]))])),.clo 52 [] [.own 0 0]] [.cells [(iv fun _=>zi k)] 3] (fun r bs=>r=(bv fun _=>uk9 d k)∧bs=[.cells [(iv fun _=>zi k)] 3])from hA k▸uhy L (zi k) hsf.2 hsf.1)
 have c65:=fun k:Nat=>(show ua0 Tryz.prog 55 [(.sl 1 (.sym fun _=>zi (L).length) (fun ix=>[(.sl 1 (.sym fun _=>zi ((L).getD ix.den.toNat []).length) (fun jx=>[(iv fun _=>((L).getD ix.den.toNat []).getD jx.den.toNat 0)]))])),.clo 52 [] [.own 0 0]] [.cells [(iv fun _=>zi k)] 3] (fun r bs=>r=(bv fun _=>uo6 d k)∧bs=[.cells [(iv fun _=>zi k)] 3])from hB k▸uhs L (zi k) hsf.2 hsf.1)
 obtain⟨fA,hfA⟩:∃f,f=uk9 d:=⟨_,rfl⟩
 obtain⟨fB,hfB⟩:∃f,f=uo6 d:=⟨_,rfl⟩
 rw [←hfA]at c64 hAf
 rw [←hfB]at c65⊢
 clear hA hB hL hfA hfB hm0
 refine ua0.is fun R hR=>qW (sc:=uyq) uan mix Tryz.func19 rfl Tryz.call19 (by kernel_rfl) (by kernel_rfl) ?_
 generalize Tryz.prog=P at c59 c58 c61 c64 c65⊢
 cbv
 repeat' (first|with_reducible refine And.intro ?_ ?_|(with_reducible intro hcd;(try simp only [zA,zB,zC,zD,zE,zF,zG,zH,zI,zJ,zK,zL,zM,zN,zO,zP]at hcd);try cbv)|(refine qP ?_ (c59) ?hfit;(case hfit=>((repeat' (first|exact qB|refine qD ?_ ?_|exact qE (by rfl)|exact qF (by rfl)|exact Fit.refl _|exact qA|refine qC ?_ rfl ?_));done));try cbv)|(refine qP ?_ (c58) ?hfit;(case hfit=>((repeat' (first|exact qB|refine qD ?_ ?_|exact qE (by rfl)|exact qF (by rfl)|exact Fit.refl _|exact qA|refine qC ?_ rfl ?_));done));try cbv)|(refine qP ?_ (c61) ?hfit;(case hfit=>((repeat' (first|exact qB|refine qD ?_ ?_|exact qE (by rfl)|exact qF (by rfl)|exact Fit.refl _|exact qA|refine qC ?_ rfl ?_));done));try cbv)|fail)
 all_goals first|trivial|skip
 refine⟨none,[⟨.tmp 3,3,1⟩],{k:Nat // k≤d.pn.toNat},fun x=>⟨[(1,.own 0 0),(6,(.sl 1 (.sym fun _=>zi (L).length) (fun ix=>[(.sl 1 (.sym fun _=>zi ((L).getD ix.den.toNat []).length) (fun jx=>[(iv fun _=>((L).getD ix.den.toNat []).getD jx.den.toNat 0)]))]))),(2,.val (Value.slice none 0 0)),(3,.row 20),(21,(iv fun _=>d.pn)),(22,(iv fun _=>zi x.1))],[(0,.cells [(iS d.tw),(iS d.tm),(.sl 1 (.sym fun _=>zi (d.tv).length) (fun ix=>[(.sl 1 (.sym fun _=>zi ((d.tv).getD ix.den.toNat []).length) (fun jx=>[(iv fun _=>((d.tv).getD ix.den.toNat []).getD jx.den.toNat 0)]))])),(iv fun _=>d.sn),(iv fun _=>d.pn),(.sl 4 (.sym fun _=>zi (d.ls).length) (fun ix=>[(iv fun _=>((d.ls).getD ix.den.toNat l0T).a),(iv fun _=>((d.ls).getD ix.den.toNat l0T).b),(iv fun _=>((d.ls).getD ix.den.toNat l0T).lo),(iv fun _=>((d.ls).getD ix.den.toNat l0T).hi)])),(.sl 6 (.sym fun _=>zi (d.fs).length) (fun ix=>[(iv fun _=>((d.fs).getD ix.den.toNat f0T).p),(iv fun _=>((d.fs).getD ix.den.toNat f0T).s),(iv fun _=>((d.fs).getD ix.den.toNat f0T).wl),(iv fun _=>((d.fs).getD ix.den.toNat f0T).wh),(iv fun _=>((d.fs).getD ix.den.toNat f0T).ml),(iv fun _=>((d.fs).getD ix.den.toNat f0T).mh)]))] 39),(20,.row 3 1 (.sym fun _=>zi ((ubT fB x.1)).length) (fun ix=>[(iv fun _=>((ubT fB x.1)).getD ix.den.toNat 0)]))],100⟩,fun x=>d.pn.toNat-x.1,?_,?_⟩
 ·refine⟨⟨0,by omega⟩,?_⟩
  cbv
  repeat' (first|with_reducible refine ua4 ?_ ?_|with_reducible refine And.intro ?_ ?_)
  all_goals first|trivial|exact qM (qE (by rfl))|exact qM (Fit.refl _)|exact qL (qK _)|(refine qL (ua9 ?_ ?_);(first|rfl|((try simp only [qV]at *);(try simp only [zQ,zA,zB,zC,zD,zE,zF,zG,zH,zI,zJ,zK,zL,zM,zN,zO,zP,zR,zS]at *);omega));intro ix h0 h1;exfalso;(try simp only [qV]at *);(try simp only [zQ,zA,zB,zC,zD,zE,zF,zG,zH,zI,zJ,zK,zL,zM,zN,zO,zP,zR,zS]at *);omega)|skip
 ·rintro ⟨k, hk⟩
  cbv
  have hl2:=ui0 fB k
  have hyB:=uou (f:=fB) (k:=k)
  have hnB:=uqi (f:=fB) (k:=k)
  obtain⟨M2,hM2⟩:∃M,M=ubT fB k:=⟨_,rfl⟩
  rw [←hM2]at hl2 hyB hnB⊢
  have c64k:=c64 k
  have c65k:=c65 k
  rcases Nat.lt_or_ge k d.pn.toNat with hlt|hge
  ·have hfa :=hAf k hlt
   rw [hfa]at c64k
   rcases hfb:fB k with _|_
   ·rw [hfb]at c65k
    cbv
    repeat' (first
     |with_reducible refine ua4 ?_ ?_
     |with_reducible refine And.intro ?_ ?_
     |(with_reducible intro hcd;(try simp only [zA,zB,zC,zD,zE,zF,zG,zH,zI,zJ,zK,zL,zM,zN,zO,zP]at hcd);try cbv)
     | (refine⟨some [102],?_⟩
        cbv
        refine qQ ?_ (c64k) ?hfit ?hbo
        case hfit=>(cbv;(repeat' (first|exact qB|refine qD ?_ ?_|exact qE (by rfl)|exact qF (by rfl)|exact Fit.refl _|exact qA|refine qC ?_ rfl ?_));done)
        case hbo=>(cbv;(repeat' (first|exact qH|refine qI ?_ ?_|exact qK _|refine qJ ?_|exact qA|exact qE (by rfl)|exact qF (by rfl)|exact Fit.refl _|exact qG _|refine qC ?_ rfl ?_));done)
        try cbv)
     | (refine⟨some [102],?_⟩
        cbv
        refine qQ ?_ (c65k) ?hfit ?hbo
        case hfit=>(cbv;(repeat' (first|exact qB|refine qD ?_ ?_|exact qE (by rfl)|exact qF (by rfl)|exact Fit.refl _|exact qA|refine qC ?_ rfl ?_));done)
        case hbo=>(cbv;(repeat' (first|exact qH|refine qI ?_ ?_|exact qK _|refine qJ ?_|exact qA|exact qE (by rfl)|exact qF (by rfl)|exact Fit.refl _|exact qG _|refine qC ?_ rfl ?_));done)
        try cbv)
     | (obtain⟨L4,eL4⟩:∃y:List Int,y=M2++[zi k]:=⟨_,rfl⟩
        refine⟨udJ L4,?_⟩
        cbv
        refine ua4 (ual (L:=M2) eL4 (by(first|rfl|((try simp only [qV]at *);(try simp only [zQ,zA,zB,zC,zD,zE,zF,zG,zH,zI,zJ,zK,zL,zM,zN,zO,zP,zR,zS]at *);done)|((try simp only [qV]at *);(try simp only [zQ,zA,zB,zC,zD,zE,zF,zG,zH,zI,zJ,zK,zL,zM,zN,zO,zP,zR,zS]at *);omega))) (by rfl) (fun ix=>Fit.refl _) (fun ix h=>qC (qE (by rfl)) rfl qA) (by(try simp only [qV]at *);(try simp only [zQ,zA,zB,zC,zD,zE,zF,zG,zH,zI,zJ,zK,zL,zM,zN,zO,zP,zR,zS]at *);omega)) (Or.inl ?_)
        try cbv)
     |fail)
    all_goals first|trivial|((try simp only [qV]at *);(try simp only [zQ,zA,zB,zC,zD,zE,zF,zG,zH,zI,zJ,zK,zL,zM,zN,zO,zP,zR,zS]at *);first|(refine qN ?_;omega)|(simp only [uaq];omega))|((have hke:k=d.pn.toNat:=(by((try simp only [qV]at *);(try simp only [zQ,zA,zB,zC,zD,zE,zF,zG,zH,zI,zJ,zK,zL,zM,zN,zO,zP,zR,zS]at *);omega)));subst hR;rw [←hke,←hM2];exact qD (Fit.refl _) (qD (Fit.refl _) (qD (qE rfl) qB)))|((try simp only [zQ,zA,zB,zC,zD,zE,zF,zG,zH,zI,zJ,zK,zL,zM,zN,zO,zP,zR,zS]at *);(have hx2:ubT fB (k+1)=M2:=hnB hfb);refine⟨⟨k+1,by((try simp only [qV]at *);(try simp only [zQ,zA,zB,zC,zD,zE,zF,zG,zH,zI,zJ,zK,zL,zM,zN,zO,zP,zR,zS]at *);omega)⟩,by simp only [];omega,?_⟩;cbv;(repeat' (first|with_reducible refine ua4 ?_ ?_|with_reducible refine And.intro ?_ ?_));(all_goals first|trivial|exact qM (qE (by rfl))|exact qM (qF (by rfl))|exact qM (Fit.refl _)|exact qL (qK _)|(refine qM (qE ?_);(try simp only [qV]at *);simp only [zQ,zA,zB,zC,zD,zE,zF,zG,zH,zI,zJ,zK,zL,zM,zN,zO,zP,zR,zS]at *;omega)|(refine qL (qJ ?_);(repeat' (first|exact qA|exact qB|refine qC ?_ rfl ?_|refine qD ?_ ?_|exact qE (by rfl)|exact qF (by rfl)|exact Fit.refl _|exact qG _|(refine qE ?_;(try simp only [qV]at *);simp only [zQ,zA,zB,zC,zD,zE,zF,zG,zH,zI,zJ,zK,zL,zM,zN,zO,zP,zR,zS]at *;omega)));done)|(simp only [hx2];first|exact qL (qK _)|(refine qL (ua9 ?_ ?_)<;>first|rfl|(rw [hM2,List.length_append];rfl)|((try simp only [qV]at *);(try simp only [zQ,zA,zB,zC,zD,zE,zF,zG,zH,zI,zJ,zK,zL,zM,zN,zO,zP,zR,zS]at *);(try simp only [hM2,List.length_append,List.length_cons,List.length_nil]at *);omega)|(intro ix h0 h1;exact Fit.refl _)))|skip))|skip
   ·rw [hfb]at c65k
    cbv
    repeat' (first
     |with_reducible refine ua4 ?_ ?_
     |with_reducible refine And.intro ?_ ?_
     |(with_reducible intro hcd;(try simp only [zA,zB,zC,zD,zE,zF,zG,zH,zI,zJ,zK,zL,zM,zN,zO,zP]at hcd);try cbv)
     | (refine⟨some [102],?_⟩
        cbv
        refine qQ ?_ (c64k) ?hfit ?hbo
        case hfit=>(cbv;(repeat' (first|exact qB|refine qD ?_ ?_|exact qE (by rfl)|exact qF (by rfl)|exact Fit.refl _|exact qA|refine qC ?_ rfl ?_));done)
        case hbo=>(cbv;(repeat' (first|exact qH|refine qI ?_ ?_|exact qK _|refine qJ ?_|exact qA|exact qE (by rfl)|exact qF (by rfl)|exact Fit.refl _|exact qG _|refine qC ?_ rfl ?_));done)
        try cbv)
     | (refine⟨some [102],?_⟩
        cbv
        refine qQ ?_ (c65k) ?hfit ?hbo
        case hfit=>(cbv;(repeat' (first|exact qB|refine qD ?_ ?_|exact qE (by rfl)|exact qF (by rfl)|exact Fit.refl _|exact qA|refine qC ?_ rfl ?_));done)
        case hbo=>(cbv;(repeat' (first|exact qH|refine qI ?_ ?_|exact qK _|refine qJ ?_|exact qA|exact qE (by rfl)|exact qF (by rfl)|exact Fit.refl _|exact qG _|refine qC ?_ rfl ?_));done)
        try cbv)
     | (obtain⟨L4,eL4⟩:∃y:List Int,y=M2++[zi k]:=⟨_,rfl⟩
        refine⟨udJ L4,?_⟩
        cbv
        refine ua4 (ual (L:=M2) eL4 (by(first|rfl|((try simp only [qV]at *);(try simp only [zQ,zA,zB,zC,zD,zE,zF,zG,zH,zI,zJ,zK,zL,zM,zN,zO,zP,zR,zS]at *);done)|((try simp only [qV]at *);(try simp only [zQ,zA,zB,zC,zD,zE,zF,zG,zH,zI,zJ,zK,zL,zM,zN,zO,zP,zR,zS]at *);omega))) (by rfl) (fun ix=>Fit.refl _) (fun ix h=>qC (qE (by rfl)) rfl qA) (by(try simp only [qV]at *);(try simp only [zQ,zA,zB,zC,zD,zE,zF,zG,zH,zI,zJ,zK,zL,zM,zN,zO,zP,zR,zS]at *);omega)) (Or.inl ?_)
        try cbv)
     |fail)
    all_goals first|trivial|((try simp only [qV]at *);(try simp only [zQ,zA,zB,zC,zD,zE,zF,zG,zH,zI,zJ,zK,zL,zM,zN,zO,zP,zR,zS]at *);first|(refine qN ?_;omega)|(simp only [uaq];omega))|((have hke:k=d.pn.toNat:=(by((try simp only [qV]at *);(try simp only [zQ,zA,zB,zC,zD,zE,zF,zG,zH,zI,zJ,zK,zL,zM,zN,zO,zP,zR,zS]at *);omega)));subst hR;rw [←hke,←hM2];exact qD (Fit.refl _) (qD (Fit.refl _) (qD (qE rfl) qB)))|((try simp only [zQ,zA,zB,zC,zD,zE,zF,zG,zH,zI,zJ,zK,zL,zM,zN,zO,zP,zR,zS]at *);(have hx2:ubT fB (k+1)=L4:=(hyB hfb).trans eL4.symm);refine⟨⟨k+1,by((try simp only [qV]at *);(try simp only [zQ,zA,zB,zC,zD,zE,zF,zG,zH,zI,zJ,zK,zL,zM,zN,zO,zP,zR,zS]at *);omega)⟩,by simp only [];omega,?_⟩;cbv;(repeat' (first|with_reducible refine ua4 ?_ ?_|with_reducible refine And.intro ?_ ?_));(all_goals first|trivial|exact qM (qE (by rfl))|exact qM (qF (by rfl))|exact qM (Fit.refl _)|exact qL (qK _)|(refine qM (qE ?_);(try simp only [qV]at *);simp only [zQ,zA,zB,zC,zD,zE,zF,zG,zH,zI,zJ,zK,zL,zM,zN,zO,zP,zR,zS]at *;omega)|(refine qL (qJ ?_);(repeat' (first|exact qA|exact qB|refine qC ?_ rfl ?_|refine qD ?_ ?_|exact qE (by rfl)|exact qF (by rfl)|exact Fit.refl _|exact qG _|(refine qE ?_;(try simp only [qV]at *);simp only [zQ,zA,zB,zC,zD,zE,zF,zG,zH,zI,zJ,zK,zL,zM,zN,zO,zP,zR,zS]at *;omega)));done)|(simp only [hx2];first|exact qL (qK _)|(refine qL (ua9 ?_ ?_)<;>first|rfl|(rw [eL4,List.length_append];rfl)|((try simp only [qV]at *);(try simp only [zQ,zA,zB,zC,zD,zE,zF,zG,zH,zI,zJ,zK,zL,zM,zN,zO,zP,zR,zS]at *);(try simp only [eL4,List.length_append,List.length_cons,List.length_nil]at *);omega)|(intro ix h0 h1;exact Fit.refl _)))|skip))|skip
  ·cbv
   repeat' (first|with_reducible refine And.intro ?_ ?_|(with_reducible intro hcd;(try simp only [zA,zB,zC,zD,zE,zF,zG,zH,zI,zJ,zK,zL,zM,zN,zO,zP]at hcd);try cbv)|fail)
   all_goals first|((have hke:k=d.pn.toNat:=(by((try simp only [qV]at *);(try simp only [zQ,zA,zB,zC,zD,zE,zF,zG,zH,zI,zJ,zK,zL,zM,zN,zO,zP,zR,zS]at *);omega)));subst hR;rw [←hke,←hM2];exact qD (Fit.refl _) (qD (Fit.refl _) (qD (qE rfl) qB)))|(exfalso;(try simp only [qV]at *);(try simp only [zQ,zA,zB,zC,zD,zE,zF,zG,zH,zI,zJ,zK,zL,zM,zN,zO,zP,zR,zS]at *);omega)|skip
end Go.Proofs.YtkdggbfknlcdaaaGreat
namespace Go.Proofs.YtkdggbfknlcdaaaGreat
open Go Go.Eng Go.Eng.Dif Go.Eng.Few
theorem udz {n ix:Int} {o2:Nat} {e e':IX→List SV} {x:List SV}(h0:ix<n)(h1:∀jx:IX,0≤jx.den→jx.den<n→jx.den≠ix→Fit (.agg (e jx)) (.agg (e' jx)))
 (h2:∀jx:IX,0≤jx.den→jx.den<n→jx.den=ix→∃l,uk8 (e jx) o2 x=some l∧Fit (.agg l) (.agg (e' jx))):uaq (ix<n∧ut4 n e ix o2 x e'):=
 ⟨h0,fun jx a b c=>(h1 jx a b c).le,fun jx a b c=>by obtain⟨l,p,q⟩:=h2 jx a b c;exact⟨l,p,q.le⟩⟩
def uhR (f:Nat→Int)(p:Nat)(v:Int):Nat→Int:=fun i=>if i=p then v else f i
theorem ufj {f:Nat→Int} {p i:Nat} {v:Int}(h:i=p):v=uhR f p v i:=by unfold uhR;rw [if_pos h]
theorem uhP {f:Nat→Int} {p i:Nat} {v:Int}(h:i≠p):f i=uhR f p v i:=by unfold uhR;rw [if_neg h]
theorem uvP {n:Int} {m k:Nat}(hn:0≤n)(h:(k:Int)<n.tmod (m:Int)):(uqV n.toNat m k:Int)=n.tdiv (m:Int)+1:=by
 obtain⟨N,rfl⟩:∃N:Nat,n=(N:Int):=⟨n.toNat,by omega⟩
 have h1:(N:Int).tmod (m:Int)=((N%m:Nat):Int):=rfl
 have h2:(N:Int).tdiv (m:Int)=((N/m:Nat):Int):=rfl
 rw [h1]at h
 rw [h2]
 unfold uqV
 rw [Int.toNat_natCast,if_pos (by omega)]
 omega
theorem uvr {n:Int} {m k:Nat}(hn:0≤n)(h:¬(k:Int)<n.tmod (m:Int)):(uqV n.toNat m k:Int)=n.tdiv (m:Int):=by
 obtain⟨N,rfl⟩:∃N:Nat,n=(N:Int):=⟨n.toNat,by omega⟩
 have h1:(N:Int).tmod (m:Int)=((N%m:Nat):Int):=rfl
 have h2:(N:Int).tdiv (m:Int)=((N/m:Nat):Int):=rfl
 rw [h1]at h
 rw [h2]
 unfold uqV
 rw [Int.toNat_natCast,if_neg (by omega)]
 omega
theorem ut3 {n:Int} {m:Nat}(h0:0≤n)(h1:n≤1000000):0≤n.tdiv (m:Int)∧n.tdiv (m:Int)≤1000000:=by
 obtain⟨N,rfl⟩:∃N:Nat,n=(N:Int):=⟨n.toNat,by omega⟩
 have h2:(N:Int).tdiv (m:Int)=((N/m:Nat):Int):=rfl
 have:=Nat.div_le_self N m
 rw [h2]
 exact⟨Int.natCast_nonneg _,Int.le_trans (Int.ofNat_le.2 this) h1⟩
theorem uil {n:Int} {L:List Int} {m k i:Nat}(hn:0≤n)(h0:0≤L.getD k 0)(h:¬(k:Int)<n.tmod (m:Int)):uhR (ubd n.toNat L m k) (L.getD k 0).toNat (n.tdiv (m:Int)) i=ubd n.toNat L m (k+1) i:=by
 unfold uhR ubd
 rw [uvr hn h]
 by_cases e:i=(L.getD k 0).toNat
 ·rw [if_pos e,if_pos (by omega)]
 ·rw [if_neg e,if_neg (by omega)]
  cases k<;>rfl
theorem uhZ {n:Int} {L:List Int} {m k i a:Nat}(hn:0≤n)(h0:0≤L.getD k 0)(h:(k:Int)<n.tmod (m:Int))(ha:a=(L.getD k 0).toNat):uhR (uhR (ubd n.toNat L m k) (L.getD k 0).toNat (n.tdiv (m:Int))) (L.getD k 0).toNat (uhR (ubd n.toNat L m k) (L.getD k 0).toNat (n.tdiv (m:Int)) a+1) i=ubd n.toNat L m (k+1) i:=by
 rw [←ufj ha]
 unfold uhR ubd
 rw [uvP hn h]
 by_cases e:i=(L.getD k 0).toNat
 ·rw [if_pos e,if_pos (by omega)]
 ·rw [if_neg e,if_neg e,if_neg (by omega)]
  cases k<;>rfl
theorem uqj {d:Dsp}(h:uah d=0):Asc d.pn.toNat 0 (udK d)∧0<(udK d).length:=by
 have e:ugm d=ubT (uk9 d) d.pn.toNat:=if_pos h
 have p1:=(ua3.1 (uas h).1).p1
 unfold udK
 rw [e]
 exact ulK (by omega) ukI
theorem utG {d:Dsp}(h:uah d=0) {k:Nat}(hk:k<(udK d).length):0≤(udK d).getD k 0∧(udK d).getD k 0<d.pn:=by
 have:=uqQ (uqj h).1 k hk
 have p1:=(ua3.1 (uas h).1).p1
 omega
theorem uov {d:Dsp}(h:uah d=0):(udK d).length≤4:=by
 have p4:=(ua3.1 (uas h).1).p4
 have e:ugm d=ubT (uk9 d) d.pn.toNat:=if_pos h
 unfold udK ukH
 split
 ·rw [ufY];omega
 ·rw [e];have:=ui0 (uk9 d) d.pn.toNat;omega
theorem uq1 {d:Dsp}(h:ugm d=[]):udK d=uaQ d.pn.toNat:=by unfold udK ukH;rw [h];rfl
theorem uxa {d:Dsp}(h:ugm d≠[]):udK d=ugm d:=by
 unfold udK ukH
 rw [if_neg (by rw [List.length_eq_zero_iff];exact h)]
theorem uxs (k:Nat):uaQ (k+1)=uaQ k++[(k:Int)]:=rfl
theorem uhH {d:Dsp} {n:Int}(h:coE d n=0):uah d=0∧0≤n∧n≤1000000:=by
 by_cases hF:ua7 d=0
 ·by_cases hn:una n
  ·by_cases hf:uah d=0
   ·exact⟨hf,hn.1,hn.2⟩
   ·rw [(umy hF hn hf).1]at h;exact absurd h hf
  ·rw [(utv hF hn).1]at h;omega
 ·rw [(uob hF).1]at h;exact absurd h hF
theorem upi {d:Dsp} {n:Int}(h:¬coE d n=0):coN d n=0:=by unfold coN;rw [if_neg h]
end Go.Proofs.YtkdggbfknlcdaaaGreat
namespace Go.Proofs.YtkdggbfknlcdaaaGreat
open Go Go.Eng Go.Proofs Go.Eng.Dif Go.Eng.Few
set_option maxRecDepth 10000
theorem usG (d:Dsp)(n:Int)(h:¬coE d n=0):ua0 Tryz.prog 20 [(ubh d),(iv fun _=>n)] [] (fun r _=>r=(.tup [(.sl 1 (.sym fun _=>coN d n) (fun ix=>[(iv fun _=>ufG d n ix.den.toNat)])),(iv fun _=>coE d n)])):=by
 have c16:=ucM d
 have c43:= @ucY
 have c33:=uib d
 refine ua0.is fun R hR=>qW (sc:=uzr) uan mix Tryz.func20 rfl Tryz.call20 (by kernel_rfl) (by kernel_rfl) ?_
 generalize Tryz.prog=P at c16 c43 c33⊢
 cbv
 repeat' (first|with_reducible refine ua4 ?_ ?_|with_reducible refine And.intro ?_ ?_|(with_reducible intro hcd;(try simp only [zA,zB,zC,zD,zE,zF,zG,zH,zI,zJ,zK,zL,zM,zN,zO,zP]at hcd);try cbv)|(refine qP ?_ (c16) ?hfit;(case hfit=>((repeat' (first|exact qB|refine qD ?_ ?_|exact qE (by rfl)|exact qF (by rfl)|exact Fit.refl _|exact qA|refine qC ?_ rfl ?_));done));try cbv)|(refine qP ?_ (c43 _ _ _) (by(repeat' (first|exact qB|refine qD ?_ ?_|exact qE (by rfl)|exact qF (by rfl)|exact Fit.refl _|exact qA|refine qC ?_ rfl ?_)));try cbv)|(refine qP ?_ (c33) ?hfit;(case hfit=>((repeat' (first|exact qB|refine qD ?_ ?_|exact qE (by rfl)|exact qF (by rfl)|exact Fit.refl _|exact qA|refine qC ?_ rfl ?_));done));try cbv)|fail)
 all_goals first|(subst hR;((try simp only [qV]at *);(try simp only [zQ,zA,zB,zC,zD,zE,zF,zG,zH,zI,zJ,zK,zL,zM,zN,zO,zP,zR,zS]at *);(try simp only [uaj,uau,uaP,ub4,ub2,ub5,uae,uaf,uad,uag]at *);(exact qD (qO (upi h)) (qD (qE (uob (d:=d) (n:=n) (by first|assumption|omega)).1.symm) qB)));done)|(subst hR;((try simp only [qV]at *);(try simp only [zQ,zA,zB,zC,zD,zE,zF,zG,zH,zI,zJ,zK,zL,zM,zN,zO,zP,zR,zS]at *);(try simp only [uaj,uau,uaP,ub4,ub2,ub5,uae,uaf,uad,uag]at *);(exact qD (qO (upi h)) (qD (qE (utv (d:=d) (n:=n) (by first|assumption|omega) (by unfold una;omega)).1.symm) qB)));done)|(subst hR;((try simp only [qV]at *);(try simp only [zQ,zA,zB,zC,zD,zE,zF,zG,zH,zI,zJ,zK,zL,zM,zN,zO,zP,zR,zS]at *);(try simp only [uaj,uau,uaP,ub4,ub2,ub5,uae,uaf,uad,uag]at *);(exact qD (qO (upi h)) (qD (qE (umy (d:=d) (n:=n) (by first|assumption|omega) (by unfold una;omega) (by first|assumption|omega)).1.symm) qB)));done)|(exfalso;(try simp only [qV]at *);(try simp only [zQ,zA,zB,zC,zD,zE,zF,zG,zH,zI,zJ,zK,zL,zM,zN,zO,zP,zR,zS]at *);(try simp only [uaj,uau,uaP,ub4,ub2,ub5,uae,uaf,uad,uag]at *);exact h (ufq (by first|assumption|omega) (by unfold una;omega) (by first|assumption|omega)).1)|skip
theorem utH {f:Nat→Int} {p i a:Nat}(ha:a=p)(h:i=p):f a+1=uhR f p (f p+1) i:=by
 subst ha
 exact ufj h
set_option maxHeartbeats 2000000 in
theorem usg (d:Dsp)(n:Int)(h:coE d n=0)(he:ugm d=[]):ua0 Tryz.prog 20 [(ubh d),(iv fun _=>n)] [] (fun r _=>r=(.tup [(.sl 1 (.sym fun _=>coN d n) (fun ix=>[(iv fun _=>ufG d n ix.den.toNat)])),(iv fun _=>coE d n)])):=by
 have c16:=ucM d
 have c43:= @ucY
 have hf:=(uhH h).1
 have hn0:=(uhH h).2.1
 have hn1:=(uhH h).2.2
 have hF:=(uas hf).1
 have p1:=(ua3.1 hF).p1
 have p4:=(ua3.1 hF).p4
 have hco:=ufq (n:=n) hF (show una n from⟨hn0,hn1⟩) hf
 have hbl:=uov hf
 have hb0:=(uqj hf).2
 have hbe:=fun (k:Nat) (hk:k<(udK d).length)=>utG hf hk
 have hend:∀{k:Nat},k=(udK d).length→∀p,ubd n.toNat (udK d) (udK d).length k p=ufG d n p:=fun hk p=>by subst hk;rfl
 have c33:=ur4 d hf he
 have hbn:=uq1 he
 obtain⟨Lb,hLb⟩:∃L,L=udK d:=⟨_,rfl⟩
 rw [←hLb]at hbl hb0 hbe hend hbn
 clear hLb
 refine ua0.is fun R hR=>qW (sc:=uzr) uan mix Tryz.func20 rfl Tryz.call20 (by kernel_rfl) (by kernel_rfl) ?_
 generalize Tryz.prog=P at c16 c43 c33⊢
 cbv
 repeat' (first|with_reducible refine And.intro ?_ ?_|(with_reducible intro hcd;(try simp only [zA,zB,zC,zD,zE,zF,zG,zH,zI,zJ,zK,zL,zM,zN,zO,zP]at hcd);try cbv)|(refine qP ?_ (c16) ?hfit;(case hfit=>((repeat' (first|exact qB|refine qD ?_ ?_|exact qE (by rfl)|exact qF (by rfl)|exact Fit.refl _|exact qA|refine qC ?_ rfl ?_));done));try cbv)|(refine qP ?_ (c43 _ _ _) (by(repeat' (first|exact qB|refine qD ?_ ?_|exact qE (by rfl)|exact qF (by rfl)|exact Fit.refl _|exact qA|refine qC ?_ rfl ?_)));try cbv)|(refine qP ?_ (c33) ?hfit;(case hfit=>((repeat' (first|exact qB|refine qD ?_ ?_|exact qE (by rfl)|exact qF (by rfl)|exact Fit.refl _|exact qA|refine qC ?_ rfl ?_));done));try cbv)|fail)
 all_goals first|trivial|(exfalso;(try simp only [qV]at *);(try simp only [zQ,zA,zB,zC,zD,zE,zF,zG,zH,zI,zJ,zK,zL,zM,zN,zO,zP,zR,zS]at *);(try simp only [uaj,uau,uaP,ub4,ub2,ub5,uae,uaf,uad,uag]at *);omega)|skip
 refine⟨none,[⟨.tmp 7,3,1⟩],{k:Nat // k≤d.pn.toNat},fun x=>⟨[(1,(iv fun _=>n)),(2,.own 0 0),(7,.row 28),(35,(iv fun _=>d.pn)),(36,(iv fun _=>zi x.1))],[(0,.cells [(iS d.tw),(iS d.tm),(.sl 1 (.sym fun _=>zi (d.tv).length) (fun ix=>[(.sl 1 (.sym fun _=>zi ((d.tv).getD ix.den.toNat []).length) (fun jx=>[(iv fun _=>((d.tv).getD ix.den.toNat []).getD jx.den.toNat 0)]))])),(iv fun _=>d.sn),(iv fun _=>d.pn),(.sl 4 (.sym fun _=>zi (d.ls).length) (fun ix=>[(iv fun _=>((d.ls).getD ix.den.toNat l0T).a),(iv fun _=>((d.ls).getD ix.den.toNat l0T).b),(iv fun _=>((d.ls).getD ix.den.toNat l0T).lo),(iv fun _=>((d.ls).getD ix.den.toNat l0T).hi)])),(.sl 6 (.sym fun _=>zi (d.fs).length) (fun ix=>[(iv fun _=>((d.fs).getD ix.den.toNat f0T).p),(iv fun _=>((d.fs).getD ix.den.toNat f0T).s),(iv fun _=>((d.fs).getD ix.den.toNat f0T).wl),(iv fun _=>((d.fs).getD ix.den.toNat f0T).wh),(iv fun _=>((d.fs).getD ix.den.toNat f0T).ml),(iv fun _=>((d.fs).getD ix.den.toNat f0T).mh)]))] 39),(28,.row 3 1 (.sym fun _=>zi ((uaQ x.1)).length) (fun ix=>[(iv fun _=>((uaQ x.1)).getD ix.den.toNat 0)]))],100⟩,fun x=>d.pn.toNat-x.1,?_,?_⟩
 ·refine⟨⟨0,by omega⟩,?_⟩
  cbv
  repeat' (first|with_reducible refine ua4 ?_ ?_|with_reducible refine And.intro ?_ ?_)
  all_goals first|trivial|exact qM (qE (by rfl))|exact qM (Fit.refl _)|exact qL (qK _)|(refine qL (ua9 ?_ ?_);(first|rfl|((try simp only [qV]at *);(try simp only [zQ,zA,zB,zC,zD,zE,zF,zG,zH,zI,zJ,zK,zL,zM,zN,zO,zP,zR,zS]at *);omega));intro ix h0 h1;exfalso;(try simp only [qV]at *);(try simp only [zQ,zA,zB,zC,zD,zE,zF,zG,zH,zI,zJ,zK,zL,zM,zN,zO,zP,zR,zS]at *);omega)|skip
 ·rintro ⟨k,hk⟩
  cbv
  have hlen:=ufY k
  obtain⟨M,hM⟩:∃M,M=uaQ k:=⟨_,rfl⟩
  have hx0:=uxs k
  rw [←hM]at hlen hx0⊢
  cbv
  repeat' (first
   |with_reducible refine ua4 ?_ ?_
   |with_reducible refine And.intro ?_ ?_
   |(with_reducible intro hcd;(try simp only [zA,zB,zC,zD,zE,zF,zG,zH,zI,zJ,zK,zL,zM,zN,zO,zP]at hcd);try cbv)
   | (obtain⟨L2,eL2⟩:∃y:List Int,y=M++[zi k]:=⟨_,rfl⟩
      refine⟨udJ L2,?_⟩
      cbv
      refine ua4 (ual (L:=M) eL2 (by(first|rfl|((try simp only [qV]at *);(try simp only [zQ,zA,zB,zC,zD,zE,zF,zG,zH,zI,zJ,zK,zL,zM,zN,zO,zP,zR,zS]at *);done)|((try simp only [qV]at *);(try simp only [zQ,zA,zB,zC,zD,zE,zF,zG,zH,zI,zJ,zK,zL,zM,zN,zO,zP,zR,zS]at *);omega))) (by rfl) (fun ix=>Fit.refl _) (fun ix h=>qC (qE (by rfl)) rfl qA) (by(try simp only [qV]at *);(try simp only [zQ,zA,zB,zC,zD,zE,zF,zG,zH,zI,zJ,zK,zL,zM,zN,zO,zP,zR,zS]at *);omega)) (Or.inl ?_)
      try cbv)
   |fail)
  all_goals first|((try simp only [qV]at *);(try simp only [zQ,zA,zB,zC,zD,zE,zF,zG,zH,zI,zJ,zK,zL,zM,zN,zO,zP,zR,zS]at *);first|(refine qN ?_;omega)|(simp only [uaq];omega))|(unfold uaq;exact⟨show(0:Int)≤d.pn by omega,rfl,show d.pn*((1:Nat):Int)≤16777216 by omega,show d.pn*((8:Nat):Int)≤16777216 by omega,show d.pn≤16777216 by omega⟩)|((try simp only [zQ,zA,zB,zC,zD,zE,zF,zG,zH,zI,zJ,zK,zL,zM,zN,zO,zP,zR,zS]at *);(have hx:uaQ (k+1)=L2:=hx0.trans eL2.symm);refine⟨⟨k+1,by((try simp only [qV]at *);(try simp only [zQ,zA,zB,zC,zD,zE,zF,zG,zH,zI,zJ,zK,zL,zM,zN,zO,zP,zR,zS]at *);omega)⟩,by simp only [];omega,?_⟩;cbv;(repeat' (first|with_reducible refine ua4 ?_ ?_|with_reducible refine And.intro ?_ ?_));(all_goals first|trivial|exact qM (qE (by rfl))|exact qM (qF (by rfl))|exact qM (Fit.refl _)|exact qL (qK _)|(refine qM (qE ?_);(try simp only [qV]at *);simp only [zQ,zA,zB,zC,zD,zE,zF,zG,zH,zI,zJ,zK,zL,zM,zN,zO,zP,zR,zS]at *;omega)|(refine qL (qJ ?_);(repeat' (first|exact qA|exact qB|refine qC ?_ rfl ?_|refine qD ?_ ?_|exact qE (by rfl)|exact qF (by rfl)|exact Fit.refl _|exact qG _|(refine qE ?_;(try simp only [qV]at *);simp only [zQ,zA,zB,zC,zD,zE,zF,zG,zH,zI,zJ,zK,zL,zM,zN,zO,zP,zR,zS]at *;omega)));done)|(simp only [hx];first|exact qL (qK _)|(refine qL (ua9 ?_ ?_)<;>first|rfl|(rw [eL2,List.length_append];rfl)|((try simp only [qV]at *);(try simp only [zQ,zA,zB,zC,zD,zE,zF,zG,zH,zI,zJ,zK,zL,zM,zN,zO,zP,zR,zS]at *);(try simp only [eL2,List.length_append,List.length_cons,List.length_nil]at *);omega)|(intro ix h0 h1;exact Fit.refl _)))|skip))|skip
  have hkP:k=d.pn.toNat:=(by((try simp only [qV]at *);(try simp only [zQ,zA,zB,zC,zD,zE,zF,zG,zH,zI,zJ,zK,zL,zM,zN,zO,zP,zR,zS]at *);omega))
  have hML:M=Lb:=by rw [hM,hkP,←hbn]
  rw [hML]
  refine⟨none,[],{k:Nat // k≤Lb.length},fun x=>⟨[(1,(iv fun _=>n)),(7,.row 28),(11,.row 103),(47,.row 28),(48,(iv fun _=>zi Lb.length)),(49,(iv fun _=>zi x.1))],[(0,.cells [(iS d.tw),(iS d.tm),(.sl 1 (.sym fun _=>zi (d.tv).length) (fun ix=>[(.sl 1 (.sym fun _=>zi ((d.tv).getD ix.den.toNat []).length) (fun jx=>[(iv fun _=>((d.tv).getD ix.den.toNat []).getD jx.den.toNat 0)]))])),(iv fun _=>d.sn),(iv fun _=>d.pn),(.sl 4 (.sym fun _=>zi (d.ls).length) (fun ix=>[(iv fun _=>((d.ls).getD ix.den.toNat l0T).a),(iv fun _=>((d.ls).getD ix.den.toNat l0T).b),(iv fun _=>((d.ls).getD ix.den.toNat l0T).lo),(iv fun _=>((d.ls).getD ix.den.toNat l0T).hi)])),(.sl 6 (.sym fun _=>zi (d.fs).length) (fun ix=>[(iv fun _=>((d.fs).getD ix.den.toNat f0T).p),(iv fun _=>((d.fs).getD ix.den.toNat f0T).s),(iv fun _=>((d.fs).getD ix.den.toNat f0T).wl),(iv fun _=>((d.fs).getD ix.den.toNat f0T).wh),(iv fun _=>((d.fs).getD ix.den.toNat f0T).ml),(iv fun _=>((d.fs).getD ix.den.toNat f0T).mh)]))] 39),(28,.row 3 1 (.sym fun _=>zi (Lb).length) (fun ix=>[(iv fun _=>(Lb).getD ix.den.toNat 0)])),(103,.row 3 1 (.sym fun _=>d.pn) (fun ix=>[(iv fun _=>(ubd n.toNat Lb Lb.length x.1) ix.den.toNat)]))],300⟩,fun x=>Lb.length-x.1,?_,?_⟩
  ·refine⟨⟨0,by omega⟩,?_⟩
   cbv
   repeat' (first|with_reducible refine ua4 ?_ ?_|with_reducible refine And.intro ?_ ?_)
   all_goals first|trivial|exact qM (qE (by rfl))|exact qM (Fit.refl _)|exact qL (qK _)|(refine qL (ua9 ?_ ?_)<;>first|rfl|((try simp only [qV]at *);(try simp only [zQ,zA,zB,zC,zD,zE,zF,zG,zH,zI,zJ,zK,zL,zM,zN,zO,zP,zR,zS]at *);omega)|(intro ix h0 h1;first|exact Fit.refl _|exact qC (qE rfl) rfl qA))|skip
  ·rintro ⟨k,hk⟩
   cbv
   repeat' (first
    |with_reducible refine ua4 ?_ ?_
    |with_reducible refine And.intro ?_ ?_
    |(with_reducible refine qS ?_ ?_ ?_;try cbv)
    |(with_reducible refine qT ?_ ?_;try cbv)
    |(with_reducible intro hcd;(try simp only [zA,zB,zC,zD,zE,zF,zG,zH,zI,zJ,zK,zL,zM,zN,zO,zP]at hcd);try cbv)
    | ((have hk9:=hbe k (by((try simp only [qV]at *);(try simp only [zQ,zA,zB,zC,zD,zE,zF,zG,zH,zI,zJ,zK,zL,zM,zN,zO,zP,zR,zS]at *);omega)))
       refine⟨fun ix=>[(iv fun _=>(uhR (ubd n.toNat Lb Lb.length k) (Lb.getD k 0).toNat (n.tdiv (zi Lb.length))) ix.den.toNat)],?_⟩
       cbv
       refine ua4 (udz (o2:=0) (x:=[_]) (by((try simp only [qV]at *);(try simp only [zQ,zA,zB,zC,zD,zE,zF,zG,zH,zI,zJ,zK,zL,zM,zN,zO,zP,zR,zS]at *);omega)) (by intro jx h0 h1 h2;refine qC (qE ?_) rfl qA;(try simp only [qV]at *);(try simp only [zQ,zA,zB,zC,zD,zE,zF,zG,zH,zI,zJ,zK,zL,zM,zN,zO,zP,zR,zS]at *);exact uhP (by omega)) (by intro jx h0 h1 h2;refine⟨_,rfl,qC (qE ?_) rfl qA⟩;(try simp only [qV]at *);(try simp only [zQ,zA,zB,zC,zD,zE,zF,zG,zH,zI,zJ,zK,zL,zM,zN,zO,zP,zR,zS]at *);exact ufj (by omega))) ?_
       try cbv)
    | ((have hk9:=hbe k (by((try simp only [qV]at *);(try simp only [zQ,zA,zB,zC,zD,zE,zF,zG,zH,zI,zJ,zK,zL,zM,zN,zO,zP,zR,zS]at *);omega)))
       refine⟨fun ix=>[(iv fun _=>(uhR (uhR (ubd n.toNat Lb Lb.length k) (Lb.getD k 0).toNat (n.tdiv (zi Lb.length))) (Lb.getD k 0).toNat ((uhR (ubd n.toNat Lb Lb.length k) (Lb.getD k 0).toNat (n.tdiv (zi Lb.length))) (Lb.getD k 0).toNat+1)) ix.den.toNat)],?_⟩
       cbv
       refine ua4 (udz (o2:=0) (x:=[_]) (by((try simp only [qV]at *);(try simp only [zQ,zA,zB,zC,zD,zE,zF,zG,zH,zI,zJ,zK,zL,zM,zN,zO,zP,zR,zS]at *);omega)) (by intro jx h0 h1 h2;refine qC (qE ?_) rfl qA;(try simp only [qV]at *);(try simp only [zQ,zA,zB,zC,zD,zE,zF,zG,zH,zI,zJ,zK,zL,zM,zN,zO,zP,zR,zS]at *);exact uhP (by omega)) (by intro jx h0 h1 h2;refine⟨_,rfl,qC (qE ?_) rfl qA⟩;(try simp only [qV]at *);(try simp only [zQ,zA,zB,zC,zD,zE,zF,zG,zH,zI,zJ,zK,zL,zM,zN,zO,zP,zR,zS]at *);exact utH (by omega) (by omega))) ?_
       try cbv)
    |fail)
   all_goals first|trivial|((try simp only [qV]at *);(try simp only [zQ,zA,zB,zC,zD,zE,zF,zG,zH,zI,zJ,zK,zL,zM,zN,zO,zP,zR,zS]at *);first|(refine qN ?_;omega)|(simp only [uaq];omega))|((have hk9:=hbe k (by((try simp only [qV]at *);(try simp only [zQ,zA,zB,zC,zD,zE,zF,zG,zH,zI,zJ,zK,zL,zM,zN,zO,zP,zR,zS]at *);omega)));(try simp only [qV]at *);(try simp only [zQ,zA,zB,zC,zD,zE,zF,zG,zH,zI,zJ,zK,zL,zM,zN,zO,zP,zR,zS]at *);simp only [uaq];first|omega|exact⟨by omega,by omega⟩)|((have hk9:=hbe k (by((try simp only [qV]at *);(try simp only [zQ,zA,zB,zC,zD,zE,zF,zG,zH,zI,zJ,zK,zL,zM,zN,zO,zP,zR,zS]at *);omega)));(have hq9:=ut3 (m:=Lb.length) hn0 hn1);(try simp only [qV]at *);(try simp only [zQ,zA,zB,zC,zD,zE,zF,zG,zH,zI,zJ,zK,zL,zM,zN,zO,zP,zR,zS]at *);first|(refine qN ?_;omega)|(rw [←ufj (by omega)];refine qN ?_;omega))|((have hke:k=Lb.length:=(by((try simp only [qV]at *);(try simp only [zQ,zA,zB,zC,zD,zE,zF,zG,zH,zI,zJ,zK,zL,zM,zN,zO,zP,zR,zS]at *);omega)));subst hR;exact qD (ua2 hco.2.symm (fun ix h0 h1=>qC (qE (hend hke _)) rfl qA)) (qD (qE hco.1.symm) qB))|((try simp only [zQ,zA,zB,zC,zD,zE,zF,zG,zH,zI,zJ,zK,zL,zM,zN,zO,zP,zR,zS]at *);(have hk9:=hbe k (by((try simp only [qV]at *);(try simp only [zQ,zA,zB,zC,zD,zE,zF,zG,zH,zI,zJ,zK,zL,zM,zN,zO,zP,zR,zS]at *);omega)));(have hlo:¬(k:Int)<n.tmod (Lb.length:Int):=hcd);refine⟨⟨k+1,by((try simp only [qV]at *);(try simp only [zQ,zA,zB,zC,zD,zE,zF,zG,zH,zI,zJ,zK,zL,zM,zN,zO,zP,zR,zS]at *);omega)⟩,by simp only [];omega,?_⟩;cbv;(repeat' (first|with_reducible refine ua4 ?_ ?_|with_reducible refine And.intro ?_ ?_));(all_goals first|trivial|exact qM (qE (by rfl))|exact qM (qF (by rfl))|exact qM (Fit.refl _)|exact qL (qK _)|(refine qM (qE ?_);(try simp only [qV]at *);simp only [zQ,zA,zB,zC,zD,zE,zF,zG,zH,zI,zJ,zK,zL,zM,zN,zO,zP,zR,zS]at *;omega)|(refine qL (qJ ?_);(repeat' (first|exact qA|exact qB|refine qC ?_ rfl ?_|refine qD ?_ ?_|exact qE (by rfl)|exact qF (by rfl)|exact Fit.refl _|exact qG _|(refine qE ?_;(try simp only [qV]at *);simp only [zQ,zA,zB,zC,zD,zE,zF,zG,zH,zI,zJ,zK,zL,zM,zN,zO,zP,zR,zS]at *;omega)));done)|(refine qL (ua9 ?_ ?_)<;>first|rfl|(intro ix h0 h1;first|exact Fit.refl _|exact qC (qE (uil hn0 hk9.1 hlo)) rfl qA|exact qC (qE (uhZ hn0 hk9.1 hhi rfl)) rfl qA))|skip))|((try simp only [zQ,zA,zB,zC,zD,zE,zF,zG,zH,zI,zJ,zK,zL,zM,zN,zO,zP,zR,zS]at *);(have hk9:=hbe k (by((try simp only [qV]at *);(try simp only [zQ,zA,zB,zC,zD,zE,zF,zG,zH,zI,zJ,zK,zL,zM,zN,zO,zP,zR,zS]at *);omega)));(have hhi:(k:Int)<n.tmod (Lb.length:Int):=hcd);refine⟨⟨k+1,by((try simp only [qV]at *);(try simp only [zQ,zA,zB,zC,zD,zE,zF,zG,zH,zI,zJ,zK,zL,zM,zN,zO,zP,zR,zS]at *);omega)⟩,by simp only [];omega,?_⟩;cbv;(repeat' (first|with_reducible refine ua4 ?_ ?_|with_reducible refine And.intro ?_ ?_));(all_goals first|trivial|exact qM (qE (by rfl))|exact qM (qF (by rfl))|exact qM (Fit.refl _)|exact qL (qK _)|(refine qM (qE ?_);(try simp only [qV]at *);simp only [zQ,zA,zB,zC,zD,zE,zF,zG,zH,zI,zJ,zK,zL,zM,zN,zO,zP,zR,zS]at *;omega)|(refine qL (qJ ?_);(repeat' (first|exact qA|exact qB|refine qC ?_ rfl ?_|refine qD ?_ ?_|exact qE (by rfl)|exact qF (by rfl)|exact Fit.refl _|exact qG _|(refine qE ?_;(try simp only [qV]at *);simp only [zQ,zA,zB,zC,zD,zE,zF,zG,zH,zI,zJ,zK,zL,zM,zN,zO,zP,zR,zS]at *;omega)));done)|(refine qL (ua9 ?_ ?_)<;>first|rfl|(intro ix h0 h1;first|exact Fit.refl _|exact qC (qE (uil hn0 hk9.1 hlo)) rfl qA|exact qC (qE (uhZ hn0 hk9.1 hhi rfl)) rfl qA))|skip))|skip
set_option maxHeartbeats 2000000 in
theorem us0 (d:Dsp)(n:Int)(h:coE d n=0)(he:ugm d≠[]):ua0 Tryz.prog 20 [(ubh d),(iv fun _=>n)] [] (fun r _=>r=(.tup [(.sl 1 (.sym fun _=>coN d n) (fun ix=>[(iv fun _=>ufG d n ix.den.toNat)])),(iv fun _=>coE d n)])):=by
 have c16:=ucM d
 have c43:= @ucY
 have hf:=(uhH h).1
 have hn0:=(uhH h).2.1
 have hn1:=(uhH h).2.2
 have hF:=(uas hf).1
 have p1:=(ua3.1 hF).p1
 have p4:=(ua3.1 hF).p4
 have hco:=ufq (n:=n) hF (show una n from⟨hn0,hn1⟩) hf
 have hbl:=uov hf
 have hb0:=(uqj hf).2
 have hbe:=fun (k:Nat) (hk:k<(udK d).length)=>utG hf hk
 have hend:∀{k:Nat},k=(udK d).length→∀p,ubd n.toNat (udK d) (udK d).length k p=ufG d n p:=fun hk p=>by subst hk;rfl
 have c33:=uib d
 have hbn:=uxa he
 rw [←hbn]at c33
 obtain⟨Lb,hLb⟩:∃L,L=udK d:=⟨_,rfl⟩
 rw [←hLb]at hbl hb0 hbe hend c33
 clear hLb hbn
 refine ua0.is fun R hR=>qW (sc:=uzr) uan mix Tryz.func20 rfl Tryz.call20 (by kernel_rfl) (by kernel_rfl) ?_
 generalize Tryz.prog=P at c16 c43 c33⊢
 cbv
 repeat' (first|with_reducible refine ua4 ?_ ?_|with_reducible refine And.intro ?_ ?_|(with_reducible intro hcd;(try simp only [zA,zB,zC,zD,zE,zF,zG,zH,zI,zJ,zK,zL,zM,zN,zO,zP]at hcd);try cbv)|(refine qP ?_ (c16) ?hfit;(case hfit=>((repeat' (first|exact qB|refine qD ?_ ?_|exact qE (by rfl)|exact qF (by rfl)|exact Fit.refl _|exact qA|refine qC ?_ rfl ?_));done));try cbv)|(refine qP ?_ (c43 _ _ _) (by(repeat' (first|exact qB|refine qD ?_ ?_|exact qE (by rfl)|exact qF (by rfl)|exact Fit.refl _|exact qA|refine qC ?_ rfl ?_)));try cbv)|(refine qP ?_ (c33) ?hfit;(case hfit=>((repeat' (first|exact qB|refine qD ?_ ?_|exact qE (by rfl)|exact qF (by rfl)|exact Fit.refl _|exact qA|refine qC ?_ rfl ?_));done));try cbv)|fail)
 all_goals first|trivial|(unfold uaq;exact⟨show(0:Int)≤d.pn by omega,rfl,show d.pn*((1:Nat):Int)≤16777216 by omega,show d.pn*((8:Nat):Int)≤16777216 by omega,show d.pn≤16777216 by omega⟩)|(exfalso;(try simp only [qV]at *);(try simp only [zQ,zA,zB,zC,zD,zE,zF,zG,zH,zI,zJ,zK,zL,zM,zN,zO,zP,zR,zS]at *);omega)|(exfalso;(try simp only [qV]at *);(try simp only [zQ,zA,zB,zC,zD,zE,zF,zG,zH,zI,zJ,zK,zL,zM,zN,zO,zP,zR,zS]at *);(try simp only [uaj,uau,uaP,ub4,ub2,ub5,uae,uaf,uad,uag]at *);omega)|skip
 refine⟨none,[],{k:Nat // k≤Lb.length},fun x=>⟨[(1,(iv fun _=>n)),(7,(iS Lb)),(11,.row 27),(47,(iS Lb)),(48,(iv fun _=>zi Lb.length)),(49,(iv fun _=>zi x.1))],[(0,.cells [(iS d.tw),(iS d.tm),(.sl 1 (.sym fun _=>zi (d.tv).length) (fun ix=>[(.sl 1 (.sym fun _=>zi ((d.tv).getD ix.den.toNat []).length) (fun jx=>[(iv fun _=>((d.tv).getD ix.den.toNat []).getD jx.den.toNat 0)]))])),(iv fun _=>d.sn),(iv fun _=>d.pn),(.sl 4 (.sym fun _=>zi (d.ls).length) (fun ix=>[(iv fun _=>((d.ls).getD ix.den.toNat l0T).a),(iv fun _=>((d.ls).getD ix.den.toNat l0T).b),(iv fun _=>((d.ls).getD ix.den.toNat l0T).lo),(iv fun _=>((d.ls).getD ix.den.toNat l0T).hi)])),(.sl 6 (.sym fun _=>zi (d.fs).length) (fun ix=>[(iv fun _=>((d.fs).getD ix.den.toNat f0T).p),(iv fun _=>((d.fs).getD ix.den.toNat f0T).s),(iv fun _=>((d.fs).getD ix.den.toNat f0T).wl),(iv fun _=>((d.fs).getD ix.den.toNat f0T).wh),(iv fun _=>((d.fs).getD ix.den.toNat f0T).ml),(iv fun _=>((d.fs).getD ix.den.toNat f0T).mh)]))] 39),(27,.row 3 1 (.sym fun _=>d.pn) (fun ix=>[(iv fun _=>(ubd n.toNat Lb Lb.length x.1) ix.den.toNat)]))],300⟩,fun x=>Lb.length-x.1,?_,?_⟩
 ·refine⟨⟨0,by omega⟩,?_⟩
  cbv
  repeat' (first|with_reducible refine ua4 ?_ ?_|with_reducible refine And.intro ?_ ?_)
  all_goals first|trivial|exact qM (qE (by rfl))|exact qM (Fit.refl _)|exact qL (qK _)|(refine qL (ua9 ?_ ?_)<;>first|rfl|((try simp only [qV]at *);(try simp only [zQ,zA,zB,zC,zD,zE,zF,zG,zH,zI,zJ,zK,zL,zM,zN,zO,zP,zR,zS]at *);omega)|(intro ix h0 h1;first|exact Fit.refl _|exact qC (qE rfl) rfl qA))|skip
 ·rintro ⟨k,hk⟩
  cbv
  repeat' (first
   |with_reducible refine ua4 ?_ ?_
   |with_reducible refine And.intro ?_ ?_
   |(with_reducible refine qS ?_ ?_ ?_;try cbv)
   |(with_reducible refine qT ?_ ?_;try cbv)
   |(with_reducible intro hcd;(try simp only [zA,zB,zC,zD,zE,zF,zG,zH,zI,zJ,zK,zL,zM,zN,zO,zP]at hcd);try cbv)
   | ((have hk9:=hbe k (by((try simp only [qV]at *);(try simp only [zQ,zA,zB,zC,zD,zE,zF,zG,zH,zI,zJ,zK,zL,zM,zN,zO,zP,zR,zS]at *);omega)))
      refine⟨fun ix=>[(iv fun _=>(uhR (ubd n.toNat Lb Lb.length k) (Lb.getD k 0).toNat (n.tdiv (zi Lb.length))) ix.den.toNat)],?_⟩
      cbv
      refine ua4 (udz (o2:=0) (x:=[_]) (by((try simp only [qV]at *);(try simp only [zQ,zA,zB,zC,zD,zE,zF,zG,zH,zI,zJ,zK,zL,zM,zN,zO,zP,zR,zS]at *);omega)) (by intro jx h0 h1 h2;refine qC (qE ?_) rfl qA;(try simp only [qV]at *);(try simp only [zQ,zA,zB,zC,zD,zE,zF,zG,zH,zI,zJ,zK,zL,zM,zN,zO,zP,zR,zS]at *);exact uhP (by omega)) (by intro jx h0 h1 h2;refine⟨_,rfl,qC (qE ?_) rfl qA⟩;(try simp only [qV]at *);(try simp only [zQ,zA,zB,zC,zD,zE,zF,zG,zH,zI,zJ,zK,zL,zM,zN,zO,zP,zR,zS]at *);exact ufj (by omega))) ?_
      try cbv)
   | ((have hk9:=hbe k (by((try simp only [qV]at *);(try simp only [zQ,zA,zB,zC,zD,zE,zF,zG,zH,zI,zJ,zK,zL,zM,zN,zO,zP,zR,zS]at *);omega)))
      refine⟨fun ix=>[(iv fun _=>(uhR (uhR (ubd n.toNat Lb Lb.length k) (Lb.getD k 0).toNat (n.tdiv (zi Lb.length))) (Lb.getD k 0).toNat ((uhR (ubd n.toNat Lb Lb.length k) (Lb.getD k 0).toNat (n.tdiv (zi Lb.length))) (Lb.getD k 0).toNat+1)) ix.den.toNat)],?_⟩
      cbv
      refine ua4 (udz (o2:=0) (x:=[_]) (by((try simp only [qV]at *);(try simp only [zQ,zA,zB,zC,zD,zE,zF,zG,zH,zI,zJ,zK,zL,zM,zN,zO,zP,zR,zS]at *);omega)) (by intro jx h0 h1 h2;refine qC (qE ?_) rfl qA;(try simp only [qV]at *);(try simp only [zQ,zA,zB,zC,zD,zE,zF,zG,zH,zI,zJ,zK,zL,zM,zN,zO,zP,zR,zS]at *);exact uhP (by omega)) (by intro jx h0 h1 h2;refine⟨_,rfl,qC (qE ?_) rfl qA⟩;(try simp only [qV]at *);(try simp only [zQ,zA,zB,zC,zD,zE,zF,zG,zH,zI,zJ,zK,zL,zM,zN,zO,zP,zR,zS]at *);exact utH (by omega) (by omega))) ?_
      try cbv)
   |fail)
  all_goals first|trivial|((try simp only [qV]at *);(try simp only [zQ,zA,zB,zC,zD,zE,zF,zG,zH,zI,zJ,zK,zL,zM,zN,zO,zP,zR,zS]at *);first|(refine qN ?_;omega)|(simp only [uaq];omega))|((have hk9:=hbe k (by((try simp only [qV]at *);(try simp only [zQ,zA,zB,zC,zD,zE,zF,zG,zH,zI,zJ,zK,zL,zM,zN,zO,zP,zR,zS]at *);omega)));(try simp only [qV]at *);(try simp only [zQ,zA,zB,zC,zD,zE,zF,zG,zH,zI,zJ,zK,zL,zM,zN,zO,zP,zR,zS]at *);simp only [uaq];first|omega|exact⟨by omega,by omega⟩)|((have hk9:=hbe k (by((try simp only [qV]at *);(try simp only [zQ,zA,zB,zC,zD,zE,zF,zG,zH,zI,zJ,zK,zL,zM,zN,zO,zP,zR,zS]at *);omega)));(have hq9:=ut3 (m:=Lb.length) hn0 hn1);(try simp only [qV]at *);(try simp only [zQ,zA,zB,zC,zD,zE,zF,zG,zH,zI,zJ,zK,zL,zM,zN,zO,zP,zR,zS]at *);first|(refine qN ?_;omega)|(rw [←ufj (by omega)];refine qN ?_;omega))|((have hke:k=Lb.length:=(by((try simp only [qV]at *);(try simp only [zQ,zA,zB,zC,zD,zE,zF,zG,zH,zI,zJ,zK,zL,zM,zN,zO,zP,zR,zS]at *);omega)));subst hR;exact qD (ua2 hco.2.symm (fun ix h0 h1=>qC (qE (hend hke _)) rfl qA)) (qD (qE hco.1.symm) qB))|((try simp only [zQ,zA,zB,zC,zD,zE,zF,zG,zH,zI,zJ,zK,zL,zM,zN,zO,zP,zR,zS]at *);(have hk9:=hbe k (by((try simp only [qV]at *);(try simp only [zQ,zA,zB,zC,zD,zE,zF,zG,zH,zI,zJ,zK,zL,zM,zN,zO,zP,zR,zS]at *);omega)));(have hlo:¬(k:Int)<n.tmod (Lb.length:Int):=hcd);refine⟨⟨k+1,by((try simp only [qV]at *);(try simp only [zQ,zA,zB,zC,zD,zE,zF,zG,zH,zI,zJ,zK,zL,zM,zN,zO,zP,zR,zS]at *);omega)⟩,by simp only [];omega,?_⟩;cbv;(repeat' (first|with_reducible refine ua4 ?_ ?_|with_reducible refine And.intro ?_ ?_));(all_goals first|trivial|exact qM (qE (by rfl))|exact qM (qF (by rfl))|exact qM (Fit.refl _)|exact qL (qK _)|(refine qM (qE ?_);(try simp only [qV]at *);simp only [zQ,zA,zB,zC,zD,zE,zF,zG,zH,zI,zJ,zK,zL,zM,zN,zO,zP,zR,zS]at *;omega)|(refine qL (qJ ?_);(repeat' (first|exact qA|exact qB|refine qC ?_ rfl ?_|refine qD ?_ ?_|exact qE (by rfl)|exact qF (by rfl)|exact Fit.refl _|exact qG _|(refine qE ?_;(try simp only [qV]at *);simp only [zQ,zA,zB,zC,zD,zE,zF,zG,zH,zI,zJ,zK,zL,zM,zN,zO,zP,zR,zS]at *;omega)));done)|(refine qL (ua9 ?_ ?_)<;>first|rfl|(intro ix h0 h1;first|exact Fit.refl _|exact qC (qE (uil hn0 hk9.1 hlo)) rfl qA|exact qC (qE (uhZ hn0 hk9.1 hhi rfl)) rfl qA))|skip))|((try simp only [zQ,zA,zB,zC,zD,zE,zF,zG,zH,zI,zJ,zK,zL,zM,zN,zO,zP,zR,zS]at *);(have hk9:=hbe k (by((try simp only [qV]at *);(try simp only [zQ,zA,zB,zC,zD,zE,zF,zG,zH,zI,zJ,zK,zL,zM,zN,zO,zP,zR,zS]at *);omega)));(have hhi:(k:Int)<n.tmod (Lb.length:Int):=hcd);refine⟨⟨k+1,by((try simp only [qV]at *);(try simp only [zQ,zA,zB,zC,zD,zE,zF,zG,zH,zI,zJ,zK,zL,zM,zN,zO,zP,zR,zS]at *);omega)⟩,by simp only [];omega,?_⟩;cbv;(repeat' (first|with_reducible refine ua4 ?_ ?_|with_reducible refine And.intro ?_ ?_));(all_goals first|trivial|exact qM (qE (by rfl))|exact qM (qF (by rfl))|exact qM (Fit.refl _)|exact qL (qK _)|(refine qM (qE ?_);(try simp only [qV]at *);simp only [zQ,zA,zB,zC,zD,zE,zF,zG,zH,zI,zJ,zK,zL,zM,zN,zO,zP,zR,zS]at *;omega)|(refine qL (qJ ?_);(repeat' (first|exact qA|exact qB|refine qC ?_ rfl ?_|refine qD ?_ ?_|exact qE (by rfl)|exact qF (by rfl)|exact Fit.refl _|exact qG _|(refine qE ?_;(try simp only [qV]at *);simp only [zQ,zA,zB,zC,zD,zE,zF,zG,zH,zI,zJ,zK,zL,zM,zN,zO,zP,zR,zS]at *;omega)));done)|(refine qL (ua9 ?_ ?_)<;>first|rfl|(intro ix h0 h1;first|exact Fit.refl _|exact qC (qE (uil hn0 hk9.1 hlo)) rfl qA|exact qC (qE (uhZ hn0 hk9.1 hhi rfl)) rfl qA))|skip))|skip
theorem ukS (d:Dsp)(n:Int):ua0 Tryz.prog 20 [(ubh d),(iv fun _=>n)] [] (fun r _=>r=(.tup [(.sl 1 (.sym fun _=>coN d n) (fun ix=>[(iv fun _=>ufG d n ix.den.toNat)])),(iv fun _=>coE d n)])):=by
 by_cases h:coE d n=0
 ·by_cases he:ugm d=[]
  ·exact usg d n h he
  ·exact us0 d n h he
 ·exact usG d n h
end Go.Proofs.YtkdggbfknlcdaaaGreat
namespace Go.Proofs.YtkdggbfknlcdaaaGreat
open Go Go.Eng Go.Eng.Dif Go.Eng.Few
def d3 :Dsp:=⟨[10,14,20],[0,10,20],[[100,140,200],[90,131,192],[80,120,170]],2,3,[⟨0,1,-3,0⟩],[⟨0,0,12,12,5,6⟩,⟨1,0,14,14,2,3⟩,⟨2,1,10,10,4,4⟩]⟩
def d2 :Dsp:=⟨[10,14,20],[0,10,20],[[100,140,200],[90,131,192],[80,120,170]],2,3,[⟨0,1,-3,0⟩],[⟨0,0,12,12,5,6⟩,⟨2,1,10,10,4,4⟩]⟩
theorem ujn :ua7 d3=0:=by decide +kernel
theorem umA :ua7 d2=0:=by decide +kernel
theorem uhB :mLo d3 ⟨0,0,12,12,5,6⟩=115∧mHi d3 ⟨0,0,12,12,5,6⟩=119:=by decide +kernel
theorem ut5 :mLo d3 ⟨1,0,14,14,2,3⟩=98∧mHi d3 ⟨1,0,14,14,2,3⟩=102:=by decide +kernel
theorem ulT :mLo d3 ⟨2,1,10,10,4,4⟩=116∧mHi d3 ⟨2,1,10,10,4,4⟩=116:=by decide +kernel
theorem FO3 :FO d3 d3.fs=xF3:=by
 have e:FO d3 d3.fs=[⟨0,mLo d3 ⟨0,0,12,12,5,6⟩,mHi d3 ⟨0,0,12,12,5,6⟩⟩,⟨0,mLo d3 ⟨1,0,14,14,2,3⟩,mHi d3 ⟨1,0,14,14,2,3⟩⟩,⟨1,mLo d3 ⟨2,1,10,10,4,4⟩,mHi d3 ⟨2,1,10,10,4,4⟩⟩]:=rfl
 rw [e,uhB.1,uhB.2,ut5.1,ut5.2,ulT.1,ulT.2]
 rfl
theorem FO2 :FO d2 d2.fs=xF2:=by
 have e:FO d2 d2.fs=[⟨0,mLo d3 ⟨0,0,12,12,5,6⟩,mHi d3 ⟨0,0,12,12,5,6⟩⟩,⟨1,mLo d3 ⟨2,1,10,10,4,4⟩,mHi d3 ⟨2,1,10,10,4,4⟩⟩]:=rfl
 rw [e,uhB.1,uhB.2,ulT.1,ulT.2]
 rfl
theorem uBu :DOk d3:=ua3.1 ujn
theorem uAb :DOk d2:=ua3.1 umA
theorem uxo :udG d3=true:=urP
theorem uxG :udG d2=true:=urP
theorem uh5 :uah d3=0:=uf8 ujn uxo
theorem uwZ :uah d2=0:=uf8 umA uxG
theorem upQ :ufy d3 0=0∧uiV d3 0=115∧ujO d3 0=119:=by
 have h:=uj6 (d:=d3) (n:=0) ujn (by decide)
 exact⟨h.1,h.2.1.trans uhB.1,h.2.2.trans uhB.2⟩
theorem uBp :upZ d3=some 1:=by
 unfold upZ
 rw [FO3]
 exact uyK
theorem uxj :ur1 d3=0∧uqX d3=1:=ujI uh5 uBp
theorem uA1 :ueT d3=[1]:=by
 unfold ueT
 rw [if_pos uh5,ukU,FO3]
 exact uyM
theorem ume {S:Nat} {ls:List Lk} {fs:List Fa}(h:Okk S ls fs) {p q:Nat→Int}(e:∀i,i<fs.length→p i=q i):okP S ls fs p=okP S ls fs q:=by
 funext o
 unfold okP
 exact ugi h fun i hi=>by unfold uwu;rw [e i hi]
theorem uvB :ubG d3=okP 2 xL3 xF3 xP3:=by
 rw [ug7 uBu,FO3]
 refine ume uy8 fun i hi=> ?_
 have hi:i<3:=hi
 rcases(show i=0∨i=1∨i=2 by omega)with e|e|e<;>subst e<;>rfl
theorem uyg :ubG d2=okP 2 xL3 xF2 xP2:=by
 rw [ug7 uAb,FO2]
 refine ume ur2 fun i hi=> ?_
 have hi:i<2:=hi
 rcases(show i=0∨i=1 by omega)with e|e<;>subst e<;>rfl
theorem uBB :uqZ d3=[1]:=by
 unfold uqZ
 rw [if_pos uh5,uvB]
 exact uuF.1
theorem uzS :ugm d3=[1]:=by
 unfold ugm uk9
 rw [if_pos uh5,uvB]
 exact uuF.2.1
theorem uB5 :uoc d3=[1]:=by
 unfold uoc uo6
 rw [if_pos uh5,uvB]
 exact uuF.2.2
theorem uBj :ugm d2=[]:=by
 unfold ugm uk9
 rw [if_pos uwZ,uyg]
 exact uzo.2.2.1
theorem uBf :ufd d2 d2.fs []=true:=by
 rw [ui3,FO2]
 exact usJ.1
theorem uA7 :uin d2=0∧uo1 d2=2:=ug3 umA uBf
theorem uhk (d:Dsp)(s:Nat):loT d [] s=loD (SN d) (LO d) (FO d d.fs) s∧hiT d [] s=hiD (SN d) (LO d) (FO d d.fs) s:=by
 unfold loT hiT ui5
 rw [um1]
 exact⟨rfl,rfl⟩
theorem bd2 :(loT d2 [] 0=116∧hiT d2 [] 0=119)∧loT d2 [] 1=116∧hiT d2 [] 1=116:=by
 rw [(uhk d2 0).1,(uhk d2 0).2,(uhk d2 1).1,(uhk d2 1).2,FO2]
 exact⟨⟨usJ.2.1,usJ.2.2.1⟩,usJ.2.2.2.1,usJ.2.2.2.2⟩
theorem utf (d:Dsp)(o:List Int)(s:Nat):loT d o s=loD (SN d) (LO d) (kpN (FO d d.fs) (uk5 o) d.fs.length) s∧hiT d o s=hiD (SN d) (LO d) (kpN (FO d d.fs) (uk5 o) d.fs.length) s:=by
 unfold loT hiT ui5 ubK
 rw [uwD (Nat.le_refl _)]
 exact⟨rfl,rfl⟩
theorem bd3 :loT d3 [1] 0=116∧hiT d3 [1] 0=119:=by
 have e:kpN (FO d3 d3.fs) (uk5 [1]) d3.fs.length=xF2:=by rw [FO3];exact uAo
 rw [(utf d3 [1] 0).1,(utf d3 [1] 0).2,e]
 exact⟨usJ.2.1,usJ.2.2.1⟩
theorem ch3 :chE d3 0 1000=0∧chL d3 0 1000=116∧chH d3 0 1000=119:=by
 have h:=uoQ (d:=d3) (s:=0) (g:=1000) ujn (by decide) uh5
 rw [uA1]at h
 refine⟨h.1,h.2.1.trans ?_,h.2.2.trans ?_⟩
 ·show(1000*loT d3 [1] 0).tdiv 1000=116
  rw [bd3.1];rfl
 ·show(1000*hiT d3 [1] 0).tdiv 1000=119
  rw [bd3.2];rfl
theorem co3 :coE d3 100=0∧coN d3 100=3:=ufq ujn (by decide) uh5
theorem co2 :coE d2 100=0∧coN d2 100=3:=ufq umA (by decide) uwZ
theorem uzx :ufG d3 100 0=0∧ufG d3 100 1=100∧ufG d3 100 2=0:=by
 have e:udK d3=[1]:=by unfold udK;rw [uzS];rfl
 unfold ufG
 rw [e]
 exact uwA
theorem uyC :ufG d2 100 0=34∧ufG d2 100 1=33∧ufG d2 100 2=33:=by
 have e:udK d2=[0,1,2]:=by unfold udK;rw [uBj];rfl
 unfold ufG
 rw [e]
 exact uxM
end Go.Proofs.YtkdggbfknlcdaaaGreat
