/- Contracts of the functions that the laws come to. No condition. -/
import Derived.Test.YtkdggbfknlcdaaaGreatT4
set_option linter.unusedVariables false
set_option linter.unusedSimpArgs false
set_option linter.deprecated false

namespace Go.Proofs.YtkdggbfknlcdaaaGreat
open Go Go.Eng Go.Proofs Go.Eng.Dif Go.Eng.Few
set_option maxRecDepth 10000
theorem utM (o:List Int)(v:Int)(hfew:o.length≤1000):ua0 Tryz.prog 90 [(iS o),(iv fun _=>v)] [] (fun r _=>r=(iv fun _=>fidx (fun j=> !(decide (o.getD j 0=v))) o.length 0)):=by
 refine ua0.is fun R hR=>qW (sc:=sc90) tyok mix Tryz.func90 rfl Tryz.call90 (by kernel_rfl) (by kernel_rfl) ?_
 generalize Tryz.prog=P
 cbv
 repeat' (first
  |fail)
 all_goals first
  |skip
 refine⟨none,[],{i:Nat // i≤o.length∧fidx (fun j=> !(decide (o.getD j 0=v))) o.length 0=fidx (fun j=> !(decide (o.getD j 0=v))) (o.length-i) i},fun x=>⟨[(0,(iS o)),(1,(iv fun _=>v)),(7,(iv fun _=>zi o.length)),(8,(iv fun _=>zi x.1))],[],20⟩,fun x=>o.length-x.1,?_,?_⟩
 ·refine⟨⟨0,by omega,rfl⟩,?_⟩
  cbv
  repeat' (first
   |with_reducible refine hold ?_ ?_
   |with_reducible refine And.intro ?_ ?_)
  all_goals first
   |trivial
   |exact qM (qE (by rfl))
   |exact qM (Fit.refl _)
   |skip
 ·rintro⟨i,hi,hr⟩
  cbv
  repeat' (first
   |with_reducible refine hold ?_ ?_
   |with_reducible refine And.intro ?_ ?_
   |(with_reducible intro hcd;(try simp only [zA,zB,zC,zD,zE,zF,zG,zH,zI,zJ,zK,zL,zM,zN,zO,zP]at hcd);try cbv)
   |fail)
  all_goals first
   |((try simp only [qV]at *);(try simp only [zQ,zA,zB,zC,zD,zE,zF,zG,zH,zI,zJ,zK,zL,zM,zN,zO,zP,zR,zS]at *);first|(refine qN ?_;omega)|(simp only [Hold];omega))
   |(subst hR;(refine qE ?_;(try simp only [qV]at *);(try simp only [zQ,zA,zB,zC,zD,zE,zF,zG,zH,zI,zJ,zK,zL,zM,zN,zO,zP,zR,zS]at *);rw [hr,ubJ (by omega) (by simp only [Bool.not_eq_false',decide_eq_true_eq];omega)]);done)
   |(subst hR;(refine qE ?_;(try simp only [qV]at *);(try simp only [zQ,zA,zB,zC,zD,zE,zF,zG,zH,zI,zJ,zK,zL,zM,zN,zO,zP,zR,zS]at *);rw [hr,show o.length-i=0 by omega];rfl);done)
   |((try simp only [zQ,zA,zB,zC,zD,zE,zF,zG,zH,zI,zJ,zK,zL,zM,zN,zO,zP,zR,zS]at *);refine⟨⟨i+1,by omega,by rw [hr,ud6 (by omega) (by simp only [Bool.not_eq_true',decide_eq_false_iff_not];omega)];(try congr 1)<;>omega⟩,by simp only [];omega,?_⟩;cbv;(repeat' (first|with_reducible refine hold ?_ ?_|with_reducible refine And.intro ?_ ?_));(all_goals first|trivial|exact qM (qE (by rfl))|exact qM (qF (by rfl))|exact qM (Fit.refl _)|exact qL (qK _)|(refine qM (qE ?_);(try simp only [qV]at *);simp only [zQ,zA,zB,zC,zD,zE,zF,zG,zH,zI,zJ,zK,zL,zM,zN,zO,zP,zR,zS]at *;omega)|skip))
   |skip
theorem ufB (o:List Int)(v:Int)(hfew:o.length≤1000):ua0 Tryz.prog 53 [(iS o),(iv fun _=>v)] [] (fun r _=>r=(.bool (.sym fun _=>inL o v))):=by
 have c95:=utM o v hfew
 refine ua0.is fun R hR=>qW (sc:=sc53) tyok mix Tryz.func53 rfl Tryz.call53 (by kernel_rfl) (by kernel_rfl) ?_
 generalize Tryz.prog=P at c95⊢
 cbv
 repeat' (first
  | (refine qP ?_ (c95) ?hfit
     case hfit=>((repeat' (first|exact qB|refine qD ?_ ?_|exact qE (by rfl)|exact qF (by rfl)|exact Fit.refl _|exact qA|refine qC ?_ rfl ?_));done)
     try cbv)
  |fail)
 all_goals first
  |(subst hR;(repeat' (first|exact qA|exact qB|refine qC ?_ rfl ?_|refine qD ?_ ?_|exact qE (by rfl)|exact qF (by rfl)|exact Fit.refl _|exact qG _|(refine qE ?_;(try simp only [qV]at *);simp only [zQ,zA,zB,zC,zD,zE,zF,zG,zH,zI,zJ,zK,zL,zM,zN,zO,zP,zR,zS]at *;omega)));done)
  |skip
theorem una (a b:Int):ua0 Tryz.prog 121 [(.sl 1 (.lit 2) (fun ix=>uc6 [(iv fun _=>a),(iv fun _=>b)] (0+ix.den.toNat*1) 1))] [] (fun r _=>r=(iv fun _=>min a b)):=by
 have c119:= @urT
 refine ua0.is fun R hR=>qW (sc:=uxS) tyok mix Tryz.func121 rfl Tryz.call121 (by kernel_rfl) (by kernel_rfl) ?_
 generalize Tryz.prog=P at c119⊢
 cbv
 repeat' (first
  | (refine qP ?_ (c119 _ _) (by(repeat' (first|exact qB|refine qD ?_ ?_|exact qE (by rfl)|exact qF (by rfl)|exact Fit.refl _|exact qA|refine qC ?_ rfl ?_)))
     try cbv)
  |fail)
 all_goals first
  |(subst hR;(repeat' (first|exact qA|exact qB|refine qC ?_ rfl ?_|refine qD ?_ ?_|exact qE (by rfl)|exact qF (by rfl)|exact Fit.refl _|exact qG _|(refine qE ?_;(try simp only [qV]at *);simp only [zQ,zA,zB,zC,zD,zE,zF,zG,zH,zI,zJ,zK,zL,zM,zN,zO,zP,zR,zS]at *;omega)));done)
  |skip
theorem uon (M:Nat→Int)(f t n:Int)(hf:0≤f∧f<4)(ht:0≤t∧t<4):ua0 Tryz.prog 105 [.own 0 0,(iv fun _=>f),(iv fun _=>t),(iv fun _=>n)] [.cells [(.arr 16 (fun ix=>(iv fun _=>M ix.den.toNat)))] 95] (fun r bs=>r = .tup []∧bs=[.cells [(.arr 16 (fun ix=>(iv fun _=>(lst M (at4 f.toNat t.toNat) n) ix.den.toNat)))] 95]):=by
 have c114:= @una
 refine ua0.isB rfl fun R B hR hB=>qW (sc:=uxT) tyok mix Tryz.func105 rfl Tryz.call105 (by kernel_rfl) (by kernel_rfl) ?_
 generalize Tryz.prog=P at c114⊢
 cbv
 repeat' (first
  |with_reducible refine hold ?_ ?_
  |with_reducible refine And.intro ?_ ?_
  | (refine⟨fun ix=>(iv fun _=>lst M (at4 f.toNat t.toNat) n ix.den.toNat),?_⟩
     cbv
     refine hold (ugs (by intro jx h0 h1 h2;refine qE ?_;(try simp only [qV]at *);(try simp only [zQ,zA,zB,zC,zD,zE,zF,zG,zH,zI,zJ,zK,zL,zM,zN,zO,zP,zR,zS]at *);exact utf (M:=M) (by unfold at4;omega) (by unfold at4;omega)) (by intro jx h0 h1 h2;refine qE ?_;(try simp only [qV]at *);(try simp only [zQ,zA,zB,zC,zD,zE,zF,zG,zH,zI,zJ,zK,zL,zM,zN,zO,zP,zR,zS]at *);exact uuF (by unfold at4;omega))) ?_
     try cbv)
  | ((first|(refine qR ?_ (c114 _ _) rfl (by cbv;(repeat' (first|exact qB|refine qD ?_ ?_|exact qE (by rfl)|exact qF (by rfl)|exact Fit.refl _|exact qA|refine qC ?_ rfl ?_))))|(refine⟨none,?_⟩;refine qR ?_ (c114 _ _) rfl (by cbv;(repeat' (first|exact qB|refine qD ?_ ?_|exact qE (by rfl)|exact qF (by rfl)|exact Fit.refl _|exact qA|refine qC ?_ rfl ?_)))))
     try cbv)
  |fail)
 all_goals first
  |trivial
  |(subst hR;exact Fit.refl _;done)
  |(subst hB;(repeat' (first|exact qH|refine qI ?_ ?_|exact qK _|refine qJ ?_|exact qA|exact qE (by rfl)|exact qF (by rfl)|exact Fit.refl _|exact qG _|refine qC ?_ rfl ?_));done)
  |skip
theorem uqE {M:Nat→Int}(hM:∀i,i<16→ -1000000≤M i∧M i≤1000000) {i:Nat}(hi:i<16):Hold (inR .i64 (subI (IX.lit 0).den (IX.sym fun _=>M i).den)):=by
 have:=hM i hi
 refine qN ?_
 simp only [zQ,zA,zB,zC,zD,zE,zF,zG,zH,zI,zJ,zK,zL,zM,zN,zO,zP,zR,zS]
 omega
theorem uuN {M:Nat→Int} {a b:Nat}(h:a=b):0-M a = -M b:=by subst h;exact Int.zero_sub _
theorem uxo {M:Nat→Int} {a b:Nat}(h:a=b):M a=M b:=by subst h;rfl
theorem utG (M:Nat→Int)(f t:Nat)(lo hi:Int)(i:Nat):lst (lst M (at4 f t) hi) (at4 t f) (0-lo) i=addB M ⟨f,t,lo,hi⟩ i:=by
 rw [Int.zero_sub];rfl
theorem uoZ (M:Nat→Int)(f t lo hi:Int)(hf:0≤f∧f<4)(ht:0≤t∧t<4)(hb: -1000000≤lo∧lo≤1000000):ua0 Tryz.prog 77 [.own 0 0,(iv fun _=>f),(iv fun _=>t),(.agg [(iv fun _=>lo),(iv fun _=>hi)])] [.cells [(.arr 16 (fun ix=>(iv fun _=>M ix.den.toNat)))] 95] (fun r bs=>r = .tup []∧bs=[.cells [(.arr 16 (fun ix=>(iv fun _=>(addB M ⟨f.toNat,t.toNat,lo,hi⟩) ix.den.toNat)))] 95]):=by
 have c98:= @uon
 refine ua0.isB rfl fun R B hR hB=>qW (sc:=sc77) tyok mix Tryz.func77 rfl Tryz.call77 (by kernel_rfl) (by kernel_rfl) ?_
 generalize Tryz.prog=P at c98⊢
 cbv
 repeat' (first
  |with_reducible refine hold ?_ ?_
  |with_reducible refine And.intro ?_ ?_
  | (refine⟨some [0],?_⟩
     cbv
     refine qQ ?_ (c98 M f t hi hf ht) ?hfit ?hbo
     case hfit=>(cbv;(repeat' (first|exact qB|refine qD ?_ ?_|exact qE (by rfl)|exact qF (by rfl)|exact Fit.refl _|exact qA|refine qC ?_ rfl ?_));done)
     case hbo=>(cbv;(repeat' (first|exact qH|refine qI ?_ ?_|exact qK _|refine qJ ?_|exact qA|exact qE (by rfl)|exact qF (by rfl)|exact Fit.refl _|exact qG _|refine qC ?_ rfl ?_));done)
     try cbv)
  | (refine⟨some [0],?_⟩
     cbv
     refine qQ ?_ (c98 (lst M (at4 f.toNat t.toNat) (hi)) t f (0-lo) ht hf) ?hfit ?hbo
     case hfit=>(cbv;(repeat' (first|exact qB|refine qD ?_ ?_|exact qE (by rfl)|exact qF (by rfl)|exact Fit.refl _|exact qA|refine qC ?_ rfl ?_));done)
     case hbo=>(cbv;(repeat' (first|exact qH|refine qI ?_ ?_|exact qK _|refine qJ ?_|exact qA|exact qE (by rfl)|exact qF (by rfl)|exact Fit.refl _|exact qG _|refine qC ?_ rfl ?_));done)
     try cbv)
  |fail)
 all_goals first
  |((try simp only [qV]at *);(try simp only [zQ,zA,zB,zC,zD,zE,zF,zG,zH,zI,zJ,zK,zL,zM,zN,zO,zP,zR,zS]at *);first|(refine qN ?_;omega)|(simp only [Hold];omega))
  |(subst hR;exact Fit.refl _;done)
  |(subst hB;exact qI (qJ (uaU (fun ix h0 h1=>qE (utG _ _ _ _ _ _)) qA)) qH)
  |skip
theorem um2 (M:Nat→Int)(s:Int)(hs:0≤s∧s<3)(hM:∀i,i<16→ -1000000≤M i∧M i≤1000000):ua0 Tryz.prog 63 [.own 0 0,(iv fun _=>s)] [.cells [(.arr 16 (fun ix=>(iv fun _=>M ix.den.toNat)))] 95] (fun r bs=>r=(.agg [(iv fun _=> -M (at4 (s.toNat+1) 0)),(iv fun _=>M (at4 0 (s.toNat+1)))])∧bs=[.cells [(.arr 16 (fun ix=>(iv fun _=>M ix.den.toNat)))] 95]):=by
 refine ua0.isB rfl fun R B hR hB=>qW (sc:=sc63) tyok mix Tryz.func63 rfl Tryz.call63 (by kernel_rfl) (by kernel_rfl) ?_
 generalize Tryz.prog=P
 cbv
 repeat' (first
  |with_reducible refine hold ?_ ?_
  |with_reducible refine And.intro ?_ ?_
  |fail)
 all_goals first
  |trivial
  |((try simp only [qV]at *);(try simp only [zQ,zA,zB,zC,zD,zE,zF,zG,zH,zI,zJ,zK,zL,zM,zN,zO,zP,zR,zS]at *);first|(refine qN ?_;omega)|(simp only [Hold];omega))
  |(subst hR;(refine qC (qE ?_) rfl (qC (qE ?_) rfl qA)<;>((try simp only [qV]at *);(try simp only [zQ,zA,zB,zC,zD,zE,zF,zG,zH,zI,zJ,zK,zL,zM,zN,zO,zP,zR,zS]at *);first|exact uuN (by unfold at4;omega)|exact uxo (by unfold at4;omega)));done)
  |(subst hB;(repeat' (first|exact qH|refine qI ?_ ?_|exact qK _|refine qJ ?_|exact qA|exact qE (by rfl)|exact qF (by rfl)|exact Fit.refl _|exact qG _|refine qC ?_ rfl ?_));done)
  |(refine uqE hM ?_;(try simp only [qV]at *);(try simp only [zQ,zA,zB,zC,zD,zE,zF,zG,zH,zI,zJ,zK,zL,zM,zN,zO,zP,zR,zS]at *);omega)
  |skip
theorem uuy :EqOk Tryz.prog 95 16:=uqD (e:=93) (g:=3) (n:=4) (m:=4) (by kernel_rfl)
theorem uxC {v:Nat} {Y:Nat→Int} {f t a b i:Nat}(ht:t<4)(ha:a=at4 f v)(hb:b=at4 v t):lst (phN v Y (f*4+t)) (at4 f t) (phN v Y (f*4+t) a+phN v Y (f*4+t) b) i=phN v Y (f*4+(t+1)) i:=by
 subst ha
 subst hb
 have e:phN v Y (f*4+(t+1))=stp v (phN v Y (f*4+t)) (f*4+t):=rfl
 rw [e]
 unfold stp
 rw [show(f*4+t)/4=f by omega,show(f*4+t)%4=t by omega]
 rfl
theorem uuS {v:Nat} {Y:Nat→Int} {f t i:Nat}(h:t=4):phN v Y (f*4+t) i=phN v Y ((f+1)*4) i:=by
 subst h
 rw [show f*4+4=(f+1)*4 by omega]
theorem uuU {v:Nat} {X:Nat→Int} {f i:Nat}(h:f=4):phN v (fwN X v) (f*4) i=fwN X (v+1) i:=by subst h;rfl
theorem uvh {M:Nat→Int} {n v i:Nat}(h:v=4):fwN (fwP M n) v i=fwP M (n+1) i:=by subst h;rfl
theorem uuD {M:Nat→Int} {n i:Nat}(h:n=4):fwP M n i=clo M i:=by subst h;rfl
theorem usO {M:Nat→Int} {n v:Nat}(hn:n<4)(hv:v=4)(h:Same (fwN (fwP M n) v) (fwP M n)) {i:Nat}(hi:i<16):fwN (fwP M n) v i=clo M i:=by
 subst hv
 have h':Same (fwP M (n+1)) (fwP M n):=h
 have:=urf h' (3-n) i hi
 rw [show n+1+(3-n)=4 by omega]at this
 exact this.symm
theorem urD {P:Nat→Int}(hP:∀i,i<16→ -5642219814912000≤P i∧P i≤2000) {a b:Nat}(ha:a<16)(hb:b<16):Hold (inR .i64 (addI (IX.sym fun _=>P a).den (IX.sym fun _=>P b).den)):=by
 have h1:=hP a ha
 have h2:=hP b hb
 refine qN ?_
 simp only [zQ,zA,zB,zC,zD,zE,zF,zG,zH,zI,zJ,zK,zL,zM,zN,zO,zP,zR,zS]
 omega
theorem usU {A B:Nat→Int}(h:decide (dens [IX.sym fun _=>A 0,IX.sym fun _=>A 1,IX.sym fun _=>A 2,IX.sym fun _=>A 3,IX.sym fun _=>A 4,IX.sym fun _=>A 5,IX.sym fun _=>A 6,IX.sym fun _=>A 7,IX.sym fun _=>A 8,IX.sym fun _=>A 9,IX.sym fun _=>A 10,IX.sym fun _=>A 11,IX.sym fun _=>A 12,IX.sym fun _=>A 13,IX.sym fun _=>A 14,IX.sym fun _=>A 15]=dens [IX.sym fun _=>B 0,IX.sym fun _=>B 1,IX.sym fun _=>B 2,IX.sym fun _=>B 3,IX.sym fun _=>B 4,IX.sym fun _=>B 5,IX.sym fun _=>B 6,IX.sym fun _=>B 7,IX.sym fun _=>B 8,IX.sym fun _=>B 9,IX.sym fun _=>B 10,IX.sym fun _=>B 11,IX.sym fun _=>B 12,IX.sym fun _=>B 13,IX.sym fun _=>B 14,IX.sym fun _=>B 15])=true):Same A B:=by
 have e:=of_decide_eq_true h
 simp only [dens,List.map_cons,List.map_nil,ub2,List.cons.injEq,and_true]at e
 intro i hi
 rcases(show i=0∨i=1∨i=2∨i=3∨i=4∨i=5∨i=6∨i=7∨i=8∨i=9∨i=10∨i=11∨i=12∨i=13∨i=14∨i=15 by omega)with q|q|q|q|q|q|q|q|q|q|q|q|q|q|q|q<;>subst q
 ·exact e.1
 ·exact e.2.1
 ·exact e.2.2.1
 ·exact e.2.2.2.1
 ·exact e.2.2.2.2.1
 ·exact e.2.2.2.2.2.1
 ·exact e.2.2.2.2.2.2.1
 ·exact e.2.2.2.2.2.2.2.1
 ·exact e.2.2.2.2.2.2.2.2.1
 ·exact e.2.2.2.2.2.2.2.2.2.1
 ·exact e.2.2.2.2.2.2.2.2.2.2.1
 ·exact e.2.2.2.2.2.2.2.2.2.2.2.1
 ·exact e.2.2.2.2.2.2.2.2.2.2.2.2.1
 ·exact e.2.2.2.2.2.2.2.2.2.2.2.2.2.1
 ·exact e.2.2.2.2.2.2.2.2.2.2.2.2.2.2.1
 ·exact e.2.2.2.2.2.2.2.2.2.2.2.2.2.2.2
theorem urU {M:Nat→Int} {a b:Nat}(q:¬M a<0)(h:a=b):0≤M b:=by subst h;omega
theorem us4 {M:Nat→Int} {n a:Nat}(h:M a<0)(ha:a=at4 n n)(hn:n<4):false=okD M:=by
 subst ha
 symm
 rw [Bool.eq_false_iff]
 intro q
 have:=ugR.1 q n hn
 omega
theorem uo5 {M:Nat→Int} {n:Nat}(hn:n=4)(h:∀j,j<n→0≤M (at4 j j)):true=okD M:=by
 subst hn
 exact(ugR.2 h).symm
set_option maxHeartbeats 2000000 in
theorem utK (M:Nat→Int)(h1:∀i,i<16→ -2000≤M i)(h2:∀i,i<16→M i≤2000):ua0 Tryz.prog 78 [.own 0 0] [.cells [(.arr 16 (fun ix=>(iv fun _=>M ix.den.toNat)))] 95] (fun r bs=>r=(.bool (.sym fun _=>okD (clo M)))∧bs=[.cells [(.arr 16 (fun ix=>(iv fun _=>(clo M) ix.den.toNat)))] 95]):=by
 have he:=uuy
 have c98:= @uon
 refine ua0.isB rfl fun R B hR hB=>qW (sc:=sc78) tyok mix Tryz.func78 rfl Tryz.call78 (by kernel_rfl) (by kernel_rfl) ?_
 generalize Tryz.prog=P at he c98⊢
 cbv
 repeat' (first
  |fail)
 all_goals first
  |skip
 refine⟨none,[],{n:Nat // n≤4},fun x=>⟨[(0,.own 0 0),(8,(iv fun _=>zi x.1))],[(0,.cells [(.arr 16 (fun ix=>(iv fun _=>(fwP M x.1) ix.den.toNat)))] 95)],60⟩,fun x=>4-x.1,?_,?_⟩
 ·refine⟨⟨0,by omega⟩,?_⟩
  cbv
  repeat' (first
   |with_reducible refine hold ?_ ?_
   |with_reducible refine And.intro ?_ ?_)
  all_goals first
   |trivial
   |exact qM (qE (by rfl))
   |exact qM (Fit.refl _)
   |exact qL (qK _)
   |skip
 ·rintro ⟨n, hn⟩
  cbv
  repeat' (first
   |with_reducible refine And.intro ?_ ?_
   |(with_reducible intro hcd;(try simp only [zA,zB,zC,zD,zE,zF,zG,zH,zI,zJ,zK,zL,zM,zN,zO,zP]at hcd);try cbv)
   |fail)
  all_goals first
   |skip
  refine⟨none,[],{v:Nat // v≤4},fun x=>⟨[(0,.own 0 0),(8,(iv fun _=>zi n)),(3,.own 64 0),(13,(iv fun _=>zi x.1))],[(0,.cells [(.arr 16 (fun ix=>(iv fun _=>(fwN (fwP M n) x.1) ix.den.toNat)))] 95),(64,.cells [(.arr 16 (fun ix=>(iv fun _=>(fwP M n) ix.den.toNat)))] 95)],200⟩,fun x=>4-x.1,?_,?_⟩
  ·refine⟨⟨0,by omega⟩,?_⟩
   cbv
   repeat' (first
    |with_reducible refine hold ?_ ?_
    |with_reducible refine And.intro ?_ ?_)
   all_goals first
    |trivial
    |exact qM (qE (by rfl))
    |exact qM (Fit.refl _)
    |exact qL (qK _)
    |skip
  ·rintro ⟨v, hv⟩
   cbv
   repeat' (first
    |with_reducible refine hold ?_ ?_
    |with_reducible refine And.intro ?_ ?_
    |(with_reducible intro hcd;(try simp only [zA,zB,zC,zD,zE,zF,zG,zH,zI,zJ,zK,zL,zM,zN,zO,zP]at hcd);try cbv)
    |fail)
   all_goals first
    |trivial
    |((try simp only [qV]at *);(try simp only [zQ,zA,zB,zC,zD,zE,zF,zG,zH,zI,zJ,zK,zL,zM,zN,zO,zP,zR,zS]at *);first|(refine qN ?_;omega)|(simp only [Hold];omega))
    |((try simp only [zQ,zA,zB,zC,zD,zE,zF,zG,zH,zI,zJ,zK,zL,zM,zN,zO,zP,zR,zS]at *);refine⟨⟨n+1,by omega⟩,by simp only [];omega,?_⟩;cbv;(repeat' (first|with_reducible refine hold ?_ ?_|with_reducible refine And.intro ?_ ?_));(all_goals first|trivial|exact qM (qE (by rfl))|exact qM (qF (by rfl))|exact qM (Fit.refl _)|exact qL (qK _)|(refine qM (qE ?_);(try simp only [qV]at *);simp only [zQ,zA,zB,zC,zD,zE,zF,zG,zH,zI,zJ,zK,zL,zM,zN,zO,zP,zR,zS]at *;omega)|(refine qL (qJ (uaU (fun ix h0 h1=>qE (uvh (by((try simp only [qV]at *);(try simp only [zQ,zA,zB,zC,zD,zE,zF,zG,zH,zI,zJ,zK,zL,zM,zN,zO,zP,zR,zS]at *);omega)))) qA)))|skip))
    |skip
   refine⟨none,[],{f:Nat // f≤4},fun x=>⟨[(0,.own 0 0),(8,(iv fun _=>zi n)),(3,.own 64 0),(13,(iv fun _=>zi v)),(4,(iv fun _=>zi v)),(16,(iv fun _=>zi x.1))],[(0,.cells [(.arr 16 (fun ix=>(iv fun _=>(phN v (fwN (fwP M n) v) (x.1*4)) ix.den.toNat)))] 95),(64,.cells [(.arr 16 (fun ix=>(iv fun _=>(fwP M n) ix.den.toNat)))] 95)],300⟩,fun x=>4-x.1,?_,?_⟩
   ·refine⟨⟨0,by omega⟩,?_⟩
    cbv
    repeat' (first
     |with_reducible refine hold ?_ ?_
     |with_reducible refine And.intro ?_ ?_)
    all_goals first
     |trivial
     |exact qM (qE (by rfl))
     |exact qM (Fit.refl _)
     |exact qL (qK _)
     |skip
   ·rintro ⟨f,hf⟩
    cbv
    repeat' (first
     |with_reducible refine hold ?_ ?_
     |with_reducible refine And.intro ?_ ?_
     |(with_reducible intro hcd;(try simp only [zA,zB,zC,zD,zE,zF,zG,zH,zI,zJ,zK,zL,zM,zN,zO,zP]at hcd);try cbv)
     |fail)
    all_goals first
     |((try simp only [qV]at *);(try simp only [zQ,zA,zB,zC,zD,zE,zF,zG,zH,zI,zJ,zK,zL,zM,zN,zO,zP,zR,zS]at *);first|(refine qN ?_;omega)|(simp only [Hold];omega))
     |((try simp only [zQ,zA,zB,zC,zD,zE,zF,zG,zH,zI,zJ,zK,zL,zM,zN,zO,zP,zR,zS]at *);refine⟨⟨v+1,by omega⟩,by simp only [];omega,?_⟩;cbv;(repeat' (first|with_reducible refine hold ?_ ?_|with_reducible refine And.intro ?_ ?_));(all_goals first|trivial|exact qM (qE (by rfl))|exact qM (qF (by rfl))|exact qM (Fit.refl _)|exact qL (qK _)|(refine qM (qE ?_);(try simp only [qV]at *);simp only [zQ,zA,zB,zC,zD,zE,zF,zG,zH,zI,zJ,zK,zL,zM,zN,zO,zP,zR,zS]at *;omega)|(refine qL (qJ (uaU (fun ix h0 h1=>qE (uuU (by((try simp only [qV]at *);(try simp only [zQ,zA,zB,zC,zD,zE,zF,zG,zH,zI,zJ,zK,zL,zM,zN,zO,zP,zR,zS]at *);omega)))) qA)))|(refine qL (qJ (uaU (fun ix h0 h1=>qE rfl) qA)))|skip))
     |skip
    refine⟨none,[],{t:Nat // t≤4},fun x=>⟨[(0,.own 0 0),(8,(iv fun _=>zi n)),(3,.own 64 0),(13,(iv fun _=>zi v)),(4,(iv fun _=>zi v)),(16,(iv fun _=>zi f)),(5,(iv fun _=>zi f)),(19,(iv fun _=>zi x.1))],[(0,.cells [(.arr 16 (fun ix=>(iv fun _=>(phN v (fwN (fwP M n) v) (f*4+x.1)) ix.den.toNat)))] 95),(64,.cells [(.arr 16 (fun ix=>(iv fun _=>(fwP M n) ix.den.toNat)))] 95)],400⟩,fun x=>4-x.1,?_,?_⟩
    ·refine⟨⟨0,by omega⟩,?_⟩
     cbv
     repeat' (first
      |with_reducible refine hold ?_ ?_
      |with_reducible refine And.intro ?_ ?_)
     all_goals first
      |trivial
      |exact qM (qE (by rfl))
      |exact qM (Fit.refl _)
      |exact qL (qK _)
      |skip
    ·rintro ⟨t,ht⟩
     cbv
     repeat' (first
      |with_reducible refine hold ?_ ?_
      |with_reducible refine And.intro ?_ ?_
      |(with_reducible intro hcd;(try simp only [zA,zB,zC,zD,zE,zF,zG,zH,zI,zJ,zK,zL,zM,zN,zO,zP]at hcd);try cbv)
      | (refine⟨some [0],?_⟩
         cbv
         refine qQ ?_ (c98 (phN v (fwN (fwP M n) v) (f*4+t)) (zi f) (zi t) (phN v (fwN (fwP M n) v) (f*4+t) ((zi f*4+zi v)*1+0).toNat+phN v (fwN (fwP M n) v) (f*4+t) ((zi v*4+zi t)*1+0).toNat) ⟨(by((try simp only [qV]at *);(try simp only [zQ,zA,zB,zC,zD,zE,zF,zG,zH,zI,zJ,zK,zL,zM,zN,zO,zP,zR,zS]at *);omega)),(by((try simp only [qV]at *);(try simp only [zQ,zA,zB,zC,zD,zE,zF,zG,zH,zI,zJ,zK,zL,zM,zN,zO,zP,zR,zS]at *);omega))⟩ ⟨(by((try simp only [qV]at *);(try simp only [zQ,zA,zB,zC,zD,zE,zF,zG,zH,zI,zJ,zK,zL,zM,zN,zO,zP,zR,zS]at *);omega)),(by((try simp only [qV]at *);(try simp only [zQ,zA,zB,zC,zD,zE,zF,zG,zH,zI,zJ,zK,zL,zM,zN,zO,zP,zR,zS]at *);omega))⟩) ?hfit ?hbo
         case hfit=>(cbv;(repeat' (first|exact qB|refine qD ?_ ?_|exact qE (by rfl)|exact qF (by rfl)|exact Fit.refl _|exact qA|refine qC ?_ rfl ?_));done)
         case hbo=>(cbv;(repeat' (first|exact qH|refine qI ?_ ?_|exact qK _|refine qJ ?_|exact qA|exact qE (by rfl)|exact qF (by rfl)|exact Fit.refl _|exact qG _|refine qC ?_ rfl ?_));done)
         try cbv)
      |fail)
     all_goals first
      |((try simp only [qV]at *);(try simp only [zQ,zA,zB,zC,zD,zE,zF,zG,zH,zI,zJ,zK,zL,zM,zN,zO,zP,zR,zS]at *);first|(refine qN ?_;omega)|(simp only [Hold];omega))
      |(refine urD (P:=phN v (fwN (fwP M n) v) (f*4+t)) (fun i hi=>uvp h1 h2 (by((try simp only [qV]at *);(try simp only [zQ,zA,zB,zC,zD,zE,zF,zG,zH,zI,zJ,zK,zL,zM,zN,zO,zP,zR,zS]at *);omega)) (by((try simp only [qV]at *);(try simp only [zQ,zA,zB,zC,zD,zE,zF,zG,zH,zI,zJ,zK,zL,zM,zN,zO,zP,zR,zS]at *);omega)) (by((try simp only [qV]at *);(try simp only [zQ,zA,zB,zC,zD,zE,zF,zG,zH,zI,zJ,zK,zL,zM,zN,zO,zP,zR,zS]at *);omega)) hi) ?_ ?_<;>((try simp only [qV]at *);(try simp only [zQ,zA,zB,zC,zD,zE,zF,zG,zH,zI,zJ,zK,zL,zM,zN,zO,zP,zR,zS]at *);omega))
      |((try simp only [zQ,zA,zB,zC,zD,zE,zF,zG,zH,zI,zJ,zK,zL,zM,zN,zO,zP,zR,zS]at *);refine⟨⟨t+1,by omega⟩,by simp only [];omega,?_⟩;cbv;(repeat' (first|with_reducible refine hold ?_ ?_|with_reducible refine And.intro ?_ ?_));(all_goals first|trivial|exact qM (qE (by rfl))|exact qM (qF (by rfl))|exact qM (Fit.refl _)|exact qL (qK _)|(refine qM (qE ?_);(try simp only [qV]at *);simp only [zQ,zA,zB,zC,zD,zE,zF,zG,zH,zI,zJ,zK,zL,zM,zN,zO,zP,zR,zS]at *;omega)|(refine qL (qJ (uaU (fun ix h0 h1=>qE (uxC (by((try simp only [qV]at *);(try simp only [zQ,zA,zB,zC,zD,zE,zF,zG,zH,zI,zJ,zK,zL,zM,zN,zO,zP,zR,zS]at *);omega)) (by unfold at4;(try simp only [qV]at *);(try simp only [zQ,zA,zB,zC,zD,zE,zF,zG,zH,zI,zJ,zK,zL,zM,zN,zO,zP,zR,zS]at *);omega) (by unfold at4;(try simp only [qV]at *);(try simp only [zQ,zA,zB,zC,zD,zE,zF,zG,zH,zI,zJ,zK,zL,zM,zN,zO,zP,zR,zS]at *);omega))) qA)))|(refine qL (qJ (uaU (fun ix h0 h1=>qE rfl) qA)))|skip))
      |((try simp only [zQ,zA,zB,zC,zD,zE,zF,zG,zH,zI,zJ,zK,zL,zM,zN,zO,zP,zR,zS]at *);refine⟨⟨f+1,by omega⟩,by simp only [];omega,?_⟩;cbv;(repeat' (first|with_reducible refine hold ?_ ?_|with_reducible refine And.intro ?_ ?_));(all_goals first|trivial|exact qM (qE (by rfl))|exact qM (qF (by rfl))|exact qM (Fit.refl _)|exact qL (qK _)|(refine qM (qE ?_);(try simp only [qV]at *);simp only [zQ,zA,zB,zC,zD,zE,zF,zG,zH,zI,zJ,zK,zL,zM,zN,zO,zP,zR,zS]at *;omega)|(refine qL (qJ (uaU (fun ix h0 h1=>qE (uuS (by((try simp only [qV]at *);(try simp only [zQ,zA,zB,zC,zD,zE,zF,zG,zH,zI,zJ,zK,zL,zM,zN,zO,zP,zR,zS]at *);omega)))) qA)))|skip))
      |skip
   refine⟨none,[],{m:Nat // m≤4∧∀j,j<m→0≤clo M (at4 j j)},fun x=>⟨[(0,.own 0 0),(50,(iv fun _=>zi x.1))],[(0,.cells [(.arr 16 (fun ix=>(iv fun _=>(clo M) ix.den.toNat)))] 95)],500⟩,fun x=>4-x.1,?_,?_⟩
   ·refine⟨⟨0,by omega,fun j hj=>by omega⟩,?_⟩
    cbv
    repeat' (first
     |with_reducible refine hold ?_ ?_
     |with_reducible refine And.intro ?_ ?_)
    all_goals first
     |trivial
     |exact qM (qE (by rfl))
     |exact qM (Fit.refl _)
     |(refine qL (qJ (uaU (fun ix h0 h1=>qE (usO (by((try simp only [qV]at *);(try simp only [zQ,zA,zB,zC,zD,zE,zF,zG,zH,zI,zJ,zK,zL,zM,zN,zO,zP,zR,zS]at *);omega)) (by((try simp only [qV]at *);(try simp only [zQ,zA,zB,zC,zD,zE,zF,zG,zH,zI,zJ,zK,zL,zM,zN,zO,zP,zR,zS]at *);omega)) (usU hcd) (by omega))) qA)))
     |skip
   ·rintro⟨m,hm,hq⟩
    cbv
    repeat' (first
     |with_reducible refine hold ?_ ?_
     |with_reducible refine And.intro ?_ ?_
     |(with_reducible intro hcd;(try simp only [zA,zB,zC,zD,zE,zF,zG,zH,zI,zJ,zK,zL,zM,zN,zO,zP]at hcd);try cbv)
     |fail)
    all_goals first
     |((try simp only [qV]at *);(try simp only [zQ,zA,zB,zC,zD,zE,zF,zG,zH,zI,zJ,zK,zL,zM,zN,zO,zP,zR,zS]at *);first|(refine qN ?_;omega)|(simp only [Hold];omega))
     |(subst hR;(refine qF ?_;(try simp only [qV]at *);(try simp only [zQ,zA,zB,zC,zD,zE,zF,zG,zH,zI,zJ,zK,zL,zM,zN,zO,zP,zR,zS]at *);exact us4 (n:=m) (by assumption) (by unfold at4;omega) (by omega));done)
     |(subst hR;(refine qF ?_;(try simp only [qV]at *);(try simp only [zQ,zA,zB,zC,zD,zE,zF,zG,zH,zI,zJ,zK,zL,zM,zN,zO,zP,zR,zS]at *);exact uo5 (n:=m) (by omega) hq);done)
     |(subst hB;(repeat' (first|exact qH|refine qI ?_ ?_|exact qK _|refine qJ ?_|exact qA|exact qE (by rfl)|exact qF (by rfl)|exact Fit.refl _|exact qG _|refine qC ?_ rfl ?_));done)
     |((try simp only [zQ,zA,zB,zC,zD,zE,zF,zG,zH,zI,zJ,zK,zL,zM,zN,zO,zP,zR,zS]at *);(have g:0≤clo M (at4 m m):=urU (by assumption) (by((try simp only [qV]at *);(try simp only [zQ,zA,zB,zC,zD,zE,zF,zG,zH,zI,zJ,zK,zL,zM,zN,zO,zP,zR,zS]at *);unfold at4;omega)));refine⟨⟨m+1,by omega,fun j hj=>(Nat.lt_or_ge j m).elim (hq j) fun q=>by rw [show j=m by omega];exact g⟩,by simp only [];omega,?_⟩;cbv;(repeat' (first|with_reducible refine hold ?_ ?_|with_reducible refine And.intro ?_ ?_));(all_goals first|trivial|exact qM (qE (by rfl))|exact qM (qF (by rfl))|exact qM (Fit.refl _)|exact qL (qK _)|(refine qM (qE ?_);(try simp only [qV]at *);simp only [zQ,zA,zB,zC,zD,zE,zF,zG,zH,zI,zJ,zK,zL,zM,zN,zO,zP,zR,zS]at *;omega)|(refine qL (qJ (uaU (fun ix h0 h1=>qE rfl) qA)))|skip))
     |skip
  refine⟨none,[],{m:Nat // m≤4∧∀j,j<m→0≤clo M (at4 j j)},fun x=>⟨[(0,.own 0 0),(50,(iv fun _=>zi x.1))],[(0,.cells [(.arr 16 (fun ix=>(iv fun _=>(clo M) ix.den.toNat)))] 95)],500⟩,fun x=>4-x.1,?_,?_⟩
  ·refine⟨⟨0,by omega,fun j hj=>by omega⟩,?_⟩
   cbv
   repeat' (first
    |with_reducible refine hold ?_ ?_
    |with_reducible refine And.intro ?_ ?_)
   all_goals first
    |trivial
    |exact qM (qE (by rfl))
    |exact qM (Fit.refl _)
    |(refine qL (qJ (uaU (fun ix h0 h1=>qE (uuD (by((try simp only [qV]at *);(try simp only [zQ,zA,zB,zC,zD,zE,zF,zG,zH,zI,zJ,zK,zL,zM,zN,zO,zP,zR,zS]at *);omega)))) qA)))
    |skip
  ·rintro⟨m,hm,hq⟩
   cbv
   repeat' (first
    |with_reducible refine hold ?_ ?_
    |with_reducible refine And.intro ?_ ?_
    |(with_reducible intro hcd;(try simp only [zA,zB,zC,zD,zE,zF,zG,zH,zI,zJ,zK,zL,zM,zN,zO,zP]at hcd);try cbv)
    |fail)
   all_goals first
    |((try simp only [qV]at *);(try simp only [zQ,zA,zB,zC,zD,zE,zF,zG,zH,zI,zJ,zK,zL,zM,zN,zO,zP,zR,zS]at *);first|(refine qN ?_;omega)|(simp only [Hold];omega))
    |(subst hR;(refine qF ?_;(try simp only [qV]at *);(try simp only [zQ,zA,zB,zC,zD,zE,zF,zG,zH,zI,zJ,zK,zL,zM,zN,zO,zP,zR,zS]at *);exact us4 (n:=m) (by assumption) (by unfold at4;omega) (by omega));done)
    |(subst hR;(refine qF ?_;(try simp only [qV]at *);(try simp only [zQ,zA,zB,zC,zD,zE,zF,zG,zH,zI,zJ,zK,zL,zM,zN,zO,zP,zR,zS]at *);exact uo5 (n:=m) (by omega) hq);done)
    |(subst hB;(repeat' (first|exact qH|refine qI ?_ ?_|exact qK _|refine qJ ?_|exact qA|exact qE (by rfl)|exact qF (by rfl)|exact Fit.refl _|exact qG _|refine qC ?_ rfl ?_));done)
    |((try simp only [zQ,zA,zB,zC,zD,zE,zF,zG,zH,zI,zJ,zK,zL,zM,zN,zO,zP,zR,zS]at *);(have g:0≤clo M (at4 m m):=urU (by assumption) (by((try simp only [qV]at *);(try simp only [zQ,zA,zB,zC,zD,zE,zF,zG,zH,zI,zJ,zK,zL,zM,zN,zO,zP,zR,zS]at *);unfold at4;omega)));refine⟨⟨m+1,by omega,fun j hj=>(Nat.lt_or_ge j m).elim (hq j) fun q=>by rw [show j=m by omega];exact g⟩,by simp only [];omega,?_⟩;cbv;(repeat' (first|with_reducible refine hold ?_ ?_|with_reducible refine And.intro ?_ ?_));(all_goals first|trivial|exact qM (qE (by rfl))|exact qM (qF (by rfl))|exact qM (Fit.refl _)|exact qL (qK _)|(refine qM (qE ?_);(try simp only [qV]at *);simp only [zQ,zA,zB,zC,zD,zE,zF,zG,zH,zI,zJ,zK,zL,zM,zN,zO,zP,zR,zS]at *;omega)|(refine qL (qJ (uaU (fun ix h0 h1=>qE rfl) qA)))|skip))
    |skip
theorem uv1 (d:Dsp)(o:List Int):ua0 Tryz.prog 82 [(wpS d),(iS o)] [] (fun r _=>r = .clo 107 [] [(.pp 0 [(wpS d)]),.pp 0 [(iS o)]]):=by
 refine ua0.is fun R hR=>qW (sc:=sc82) tyok mix Tryz.func82 rfl Tryz.call82 (by kernel_rfl) (by kernel_rfl) ?_
 generalize Tryz.prog=P
 cbv
 repeat' (first
  |fail)
 all_goals first
  |(subst hR;(repeat' (first|exact qA|exact qB|refine qC ?_ rfl ?_|refine qD ?_ ?_|exact qE (by rfl)|exact qF (by rfl)|exact Fit.refl _|exact qG _|(refine qE ?_;(try simp only [qV]at *);simp only [zQ,zA,zB,zC,zD,zE,zF,zG,zH,zI,zJ,zK,zL,zM,zN,zO,zP,zR,zS]at *;omega)));done)
  |skip
theorem uu9 (d:Dsp)(o:List Int)(hf:d.fs.length≤1000)(ho:o.length≤1000):ujU Tryz.prog 107 [(.pp 0 [(wpS d)]),.pp 0 [(iS o)]] (ubI d.fs o).length (fun n:Nat=>[(.agg [(iv fun _=>((ubI d.fs o).getD n f0T).p),(iv fun _=>((ubI d.fs o).getD n f0T).s),(iv fun _=>((ubI d.fs o).getD n f0T).wl),(iv fun _=>((ubI d.fs o).getD n f0T).wh),(iv fun _=>((ubI d.fs o).getD n f0T).ml),(iv fun _=>((ubI d.fs o).getD n f0T).mh)])]):=by
 obtain⟨el,hel⟩:∃el:Nat→List SV,el=(fun n:Nat=>[(.agg [(iv fun _=>((ubI d.fs o).getD n f0T).p),(iv fun _=>((ubI d.fs o).getD n f0T).s),(iv fun _=>((ubI d.fs o).getD n f0T).wl),(iv fun _=>((ubI d.fs o).getD n f0T).wh),(iv fun _=>((ubI d.fs o).getD n f0T).ml),(iv fun _=>((ubI d.fs o).getD n f0T).mh)])]):=⟨_,rfl⟩
 have hpl:∀i,uba (.tup (el i))=true:=fun i=>by rw [hel];rfl
 have help:∀n,el n=[(.agg [(iv fun _=>((ubI d.fs o).getD n f0T).p),(iv fun _=>((ubI d.fs o).getD n f0T).s),(iv fun _=>((ubI d.fs o).getD n f0T).wl),(iv fun _=>((ubI d.fs o).getD n f0T).wh),(iv fun _=>((ubI d.fs o).getD n f0T).ml),(iv fun _=>((ubI d.fs o).getD n f0T).mh)])]:=fun n=>by rw [hel]
 rw [←hel]
 clear hel
 have c63:=fun i:Nat=>(show ua0 Tryz.prog 53 [(iS o),(iv fun _=>zi i)] [] (fun r _=>r=(.bool (.sym fun _=>inL o (zi i))))from ufB o (i:Int) ho)
 obtain⟨c,hc⟩:∃c,c=outL o:=⟨_,rfl⟩
 have hcy:∀i:Nat,inL o (zi i)=false→c i=true:=fun i h=>by rw [hc,←uo2];unfold outB;rw [show inL o (i:Int)=false from h];rfl
 have hcn:∀i:Nat,inL o (zi i)=true→c i=false:=fun i h=>by rw [hc,←uo2];unfold outB;rw [show inL o (i:Int)=true from h];rfl
 obtain⟨L,hL⟩:∃L,L=(ubI d.fs o).length:=⟨_,rfl⟩
 rw [←hL]
 obtain⟨w,hw⟩:∃w:Nat→Nat,w=fun i=>(kpT d.fs c i).length:=⟨_,rfl⟩
 have w0:w 0=0:=by rw [hw];rfl
 have wL:w d.fs.length=L:=by rw [hw,hL,hc];rfl
 have wn:∀i:Nat,c i=false→w (i+1)=w i:=fun i h=>by rw [hw];simp only [uut h]
 have wy:∀i:Nat,i<d.fs.length→c i=true→w i<L∧el (w i)=[(.agg [(iv fun _=>(d.fs.getD i f0T).p),(iv fun _=>(d.fs.getD i f0T).s),(iv fun _=>(d.fs.getD i f0T).wl),(iv fun _=>(d.fs.getD i f0T).wh),(iv fun _=>(d.fs.getD i f0T).ml),(iv fun _=>(d.fs.getD i f0T).mh)])]∧w (i+1)=w i+1:=fun i hi h=>by
  have q:=uuP (fs:=d.fs) hi h
  rw [hw]
  refine⟨by rw [hL];unfold ubI;rw [←hc];exact q.1,?_,by simp only [uom h,List.length_append,List.length_cons,List.length_nil]⟩
  rw [help]
  unfold ubI
  rw [←hc]
  simp only [q.2]
 clear hw hc hL help
 refine uge (sc:=uwq) tyok mix Tryz.func107 rfl Tryz.call107 (by kernel_rfl) (by kernel_rfl) fun y=> ?_
 generalize Tryz.prog=P at c63⊢
 refine⟨rfl,rfl,hpl,?_⟩
 cbv
 repeat' (first
  |fail)
 all_goals first
  |skip
 refine⟨none,[],{i:Nat // i≤d.fs.length},fun x=>.atg fun _=>w x.1,fun x=>⟨[(0,.val (Value.func (Fn.yield y) ⟨[]⟩ ⟨[]⟩)),(1,(.pp 0 [(wpS d)])),(2,.pp 0 [(iS o)]),(10,(.sl 6 (.sym fun _=>zi (d.fs).length) (fun ix=>[(iv fun _=>((d.fs).getD ix.den.toNat f0T).p),(iv fun _=>((d.fs).getD ix.den.toNat f0T).s),(iv fun _=>((d.fs).getD ix.den.toNat f0T).wl),(iv fun _=>((d.fs).getD ix.den.toNat f0T).wh),(iv fun _=>((d.fs).getD ix.den.toNat f0T).ml),(iv fun _=>((d.fs).getD ix.den.toNat f0T).mh)]))),(11,(iv fun _=>zi d.fs.length)),(12,(iv fun _=>zi x.1))],[],90⟩,fun x=>d.fs.length-x.1,?_,?_⟩
 ·refine⟨⟨0,by omega⟩,?_⟩
  cbv
  repeat' (first
   |with_reducible refine hold ?_ ?_
   |with_reducible refine And.intro ?_ ?_)
  all_goals first
   |trivial
   |exact qM (qE (by rfl))
   |exact qM (Fit.refl _)
   |(refine ue2 ?_;exact w0.symm)
   |skip
 ·rintro ⟨i,hi⟩
  cbv
  repeat' (first
   |with_reducible refine hold ?_ ?_
   |with_reducible refine And.intro ?_ ?_
   |(with_reducible intro hcd;(try simp only [zA,zB,zC,zD,zE,zF,zG,zH,zI,zJ,zK,zL,zM,zN,zO,zP]at hcd);try cbv)
   | (refine qP ?_ (c63 i) ?hfit
      case hfit=>((repeat' (first|exact qB|refine qD ?_ ?_|exact qE (by rfl)|exact qF (by rfl)|exact Fit.refl _|exact qA|refine qC ?_ rfl ?_));done)
      try cbv)
   |fail)
  all_goals first
   |trivial
   |((try simp only [qV]at *);(try simp only [zQ,zA,zB,zC,zD,zE,zF,zG,zH,zI,zJ,zK,zL,zM,zN,zO,zP,zR,zS]at *);first|(refine qN ?_;omega)|(simp only [Hold];omega))
   |((have h9:=wy i (by((try simp only [qV]at *);(try simp only [zQ,zA,zB,zC,zD,zE,zF,zG,zH,zI,zJ,zK,zL,zM,zN,zO,zP,zR,zS]at *);omega)) (hcy i (by assumption)));refine uhs h9.1 ?_;rw [h9.2.1];exact Fit.refl _)
   |((try simp only [zQ,zA,zB,zC,zD,zE,zF,zG,zH,zI,zJ,zK,zL,zM,zN,zO,zP,zR,zS]at *);refine⟨⟨i+1,by omega⟩,by simp only [];omega,?_⟩;cbv;(repeat' (first|with_reducible refine hold ?_ ?_|with_reducible refine And.intro ?_ ?_));(all_goals first|trivial|exact qM (qE (by rfl))|exact qM (qF (by rfl))|exact qM (Fit.refl _)|exact qL (qK _)|(refine qM (qE ?_);(try simp only [qV]at *);simp only [zQ,zA,zB,zC,zD,zE,zF,zG,zH,zI,zJ,zK,zL,zM,zN,zO,zP,zR,zS]at *;omega)|(refine ue2 ?_;exact(wn i (hcn i (by assumption))).symm)|(refine ue2 ?_;exact(wy i (by((try simp only [qV]at *);(try simp only [zQ,zA,zB,zC,zD,zE,zF,zG,zH,zI,zJ,zK,zL,zM,zN,zO,zP,zR,zS]at *);omega)) (hcy i (by assumption))).2.2.symm)|skip))
   |(show w i=L;rw [←wL];congr 1;((try simp only [qV]at *);(try simp only [zQ,zA,zB,zC,zD,zE,zF,zG,zH,zI,zJ,zK,zL,zM,zN,zO,zP,zR,zS]at *);omega))
   |skip
theorem uuI {f i:Nat}(h:f=4)(hi:i<16):iN (f*4) i=mS 0 i:=by subst h;exact uvr hi
theorem uvn {f t i:Nat}(h:t=4):iN (f*4+t) i=iN ((f+1)*4) i:=by
 subst h
 rw [show f*4+4=(f+1)*4 by omega]
theorem uvL {f t i:Nat}(h:i=f*4+t)(ht:t<4)(hd:f≠t):2000=iN (f*4+(t+1)) i:=uvC (k:=f*4+t) h (by omega)
theorem uwe {f t i:Nat}(h:i≠f*4+t):iN (f*4+t) i=iN (f*4+(t+1)) i:=us3 h
theorem ut1 {f t i:Nat}(ht:t<4)(hd:f=t):iN (f*4+t) i=iN (f*4+(t+1)) i:=uvs (k:=f*4+t) (by omega)
theorem uwY (s i:Nat):addB (mS s) ⟨(0:Int).toNat,(zi s+1).toNat,0,2000⟩ i=mS (s+1) i:=by rw [mS_s];rfl
theorem uv4 {d:Dsp} {s i:Nat}(h:s=SN d):mS s i=mL d 0 i:=by subst h;rfl
theorem ux1 {d:Dsp} {k:Nat}(hd:DOk d)(h:k<d.ls.length)(i:Nat):addB (mL d k) ⟨((d.ls.getD k l0T).a+1).toNat,((d.ls.getD k l0T).b+1).toNat,(d.ls.getD k l0T).lo,(d.ls.getD k l0T).hi⟩ i=mL d (k+1) i:=by
 have:=hd.l k h
 unfold ucw at this
 rw [mL_s h (by omega) (by omega)]
theorem uw2 {d:Dsp} {K:List FaT} {k i:Nat}(h:k=d.ls.length):mL d k i=mF d K 0 i:=by subst h;rfl
theorem ux4 {d:Dsp} {K:List FaT} {k:Nat}(hK:FOk d K)(h:k<K.length)(i:Nat):addB (mF d K k) ⟨(0:Int).toNat,((K.getD k f0T).s+1).toNat,mLo d (K.getD k f0T),mHi d (K.getD k f0T)⟩ i=mF d K (k+1) i:=by
 have:=hK k h
 unfold ubN at this
 rw [mF_s h (by omega)]
 rfl
set_option maxHeartbeats 4000000 in
theorem uck (d:Dsp)(o:List Int)(hd:DOk d)(ho:o.length≤1000):ua0 Tryz.prog 42 [(wpS d),(iS o)] [] (fun r _=>r=(.tup [(.agg [(.arr 16 (fun ix=>(iv fun _=>(clo (matO d d.fs o)) ix.den.toNat)))]),(.bool (.sym fun _=>canT d d.fs o))])):=by
 have c67:= @uoZ
 have c87:=uv1 d o
 have c68:= @utK
 obtain⟨K,hKd⟩:∃K,K=ubI d.fs o:=⟨_,rfl⟩
 have hK:FOk d K:=by rw [hKd];exact uox hd.f o
 obtain⟨L,hL⟩:∃L,L=K.length:=⟨_,rfl⟩
 obtain⟨el,hel⟩:∃el:Nat→List SV,el=(fun n:Nat=>[(.agg [(iv fun _=>(K.getD n f0T).p),(iv fun _=>(K.getD n f0T).s),(iv fun _=>(K.getD n f0T).wl),(iv fun _=>(K.getD n f0T).wh),(iv fun _=>(K.getD n f0T).ml),(iv fun _=>(K.getD n f0T).mh)])]):=⟨_,rfl⟩
 have cI:ujU Tryz.prog 107 [(.pp 0 [(wpS d)]),.pp 0 [(iS o)]] L el:=by rw [hel,hL,hKd];exact uu9 d o (by have:=hd.f6;omega) ho
 have elen:∀i,(el i).length=1∧SV.idsL (el i)=[]:=fun i=>by rw [hel];exact⟨rfl,rfl⟩
 have ei:∀i,el i=[(.agg [(iv fun _=>(K.getD i f0T).p),(iv fun _=>(K.getD i f0T).s),(iv fun _=>(K.getD i f0T).wl),(iv fun _=>(K.getD i f0T).wh),(iv fun _=>(K.getD i f0T).ml),(iv fun _=>(K.getD i f0T).mh)])]:=fun i=>by rw [hel]
 have hbd:∀i,-2000≤mF d K L i∧mF d K L i≤2000:=fun i=>by rw [hL,usF];exact urR hd hK i
 have hend:mF d K L=matO d d.fs o:=by rw [hL,usF,hKd];rfl
 have hKb:∀i,i<L→(0≤(K.getD i f0T).s∧(K.getD i f0T).s≤d.sn-1)∧0≤mLo d (K.getD i f0T)∧mLo d (K.getD i f0T)≤mHi d (K.getD i f0T)∧mHi d (K.getD i f0T)≤2000:=fun i hi=>by
  have q:=hK i (by rw [←hL];exact hi)
  have b:=ula hd.t q
  unfold ubN at q
  exact⟨q.2.1,b⟩
 have c45:=fun (i:Nat) (hi:i<L)=>usp d (K.getD i f0T) hd.t (hK i (by rw [←hL];exact hi))
 have s1:=hd.s1
 have s3:=hd.s3
 have l4:=hd.l4
 rw [show canT d d.fs o=okD (clo (matO d d.fs o))from rfl]
 clear hel hKd
 refine ua0.is fun R hR=>qW (sc:=sc42) tyok mix Tryz.func42 rfl Tryz.call42 (by kernel_rfl) (by kernel_rfl) ?_
 generalize Tryz.prog=P at c67 c87 c68 c45 cI⊢
 cbv
 repeat' (first
  |fail)
 all_goals first
  |skip
 refine⟨none,[],{f:Nat // f≤4},fun x=>⟨[(1,(iS o)),(2,.own 0 0),(4,.own 1 0),(12,(iv fun _=>zi x.1))],[(0,.cells [(wpS d)] 87),(1,.cells [(.arr 16 (fun ix=>(iv fun _=>(iN (x.1*4)) ix.den.toNat)))] 95)],100⟩,fun x=>4-x.1,?_,?_⟩
 ·refine⟨⟨0,by omega⟩,?_⟩
  cbv
  repeat' (first
   |with_reducible refine hold ?_ ?_
   |with_reducible refine And.intro ?_ ?_)
  all_goals first
   |trivial
   |exact qM (qE (by rfl))
   |exact qM (Fit.refl _)
   |exact qL (qK _)
   |(refine qL (qJ (uaU (fun ix h0 h1=>qE (iN_0 _).symm) qA)))
   |skip
 ·rintro ⟨f, hf⟩
  cbv
  repeat' (first
   |with_reducible refine And.intro ?_ ?_
   |(with_reducible intro hcd;(try simp only [zA,zB,zC,zD,zE,zF,zG,zH,zI,zJ,zK,zL,zM,zN,zO,zP]at hcd);try cbv)
   |fail)
  all_goals first
   |skip
  refine⟨none,[],{t:Nat // t≤4},fun x=>⟨[(1,(iS o)),(2,.own 0 0),(4,.own 1 0),(12,(iv fun _=>zi f)),(6,(iv fun _=>zi f)),(15,(iv fun _=>zi x.1))],[(0,.cells [(wpS d)] 87),(1,.cells [(.arr 16 (fun ix=>(iv fun _=>(iN (f*4+x.1)) ix.den.toNat)))] 95)],200⟩,fun x=>4-x.1,?_,?_⟩
  ·refine⟨⟨0,by omega⟩,?_⟩
   cbv
   repeat' (first
    |with_reducible refine hold ?_ ?_
    |with_reducible refine And.intro ?_ ?_)
   all_goals first
    |trivial
    |exact qM (qE (by rfl))
    |exact qM (Fit.refl _)
    |exact qL (qK _)
    |skip
  ·rintro ⟨t,ht⟩
   cbv
   repeat' (first
    |with_reducible refine hold ?_ ?_
    |with_reducible refine And.intro ?_ ?_
    |(with_reducible intro hcd;(try simp only [zA,zB,zC,zD,zE,zF,zG,zH,zI,zJ,zK,zL,zM,zN,zO,zP]at hcd);try cbv)
    | (refine⟨fun ix=>(iv fun _=>iN (f*4+(t+1)) ix.den.toNat),?_⟩
       cbv
       refine hold (ugs (by intro jx h0 h1 h2;refine qE ?_;(try simp only [qV]at *);(try simp only [zQ,zA,zB,zC,zD,zE,zF,zG,zH,zI,zJ,zK,zL,zM,zN,zO,zP,zR,zS]at *);exact uvL (by omega) (by omega) (by omega)) (by intro jx h0 h1 h2;refine qE ?_;(try simp only [qV]at *);(try simp only [zQ,zA,zB,zC,zD,zE,zF,zG,zH,zI,zJ,zK,zL,zM,zN,zO,zP,zR,zS]at *);exact uwe (by omega))) ?_
       try cbv)
    |fail)
   all_goals first
    |((try simp only [qV]at *);(try simp only [zQ,zA,zB,zC,zD,zE,zF,zG,zH,zI,zJ,zK,zL,zM,zN,zO,zP,zR,zS]at *);first|(refine qN ?_;omega)|(simp only [Hold];omega))
    |((try simp only [zQ,zA,zB,zC,zD,zE,zF,zG,zH,zI,zJ,zK,zL,zM,zN,zO,zP,zR,zS]at *);refine⟨⟨t+1,by omega⟩,by simp only [];omega,?_⟩;cbv;(repeat' (first|with_reducible refine hold ?_ ?_|with_reducible refine And.intro ?_ ?_));(all_goals first|trivial|exact qM (qE (by rfl))|exact qM (qF (by rfl))|exact qM (Fit.refl _)|exact qL (qK _)|(refine qM (qE ?_);(try simp only [qV]at *);simp only [zQ,zA,zB,zC,zD,zE,zF,zG,zH,zI,zJ,zK,zL,zM,zN,zO,zP,zR,zS]at *;omega)|(refine qL (qJ ?_);(repeat' (first|exact qA|exact qB|refine qC ?_ rfl ?_|refine qD ?_ ?_|exact qE (by rfl)|exact qF (by rfl)|exact Fit.refl _|exact qG _|(refine qE ?_;(try simp only [qV]at *);simp only [zQ,zA,zB,zC,zD,zE,zF,zG,zH,zI,zJ,zK,zL,zM,zN,zO,zP,zR,zS]at *;omega)));done)|(refine qL (qJ (uaU (fun ix h0 h1=>qE rfl) qA)))|(refine qL (qJ (uaU (fun ix h0 h1=>qE (ut1 (by((try simp only [qV]at *);(try simp only [zQ,zA,zB,zC,zD,zE,zF,zG,zH,zI,zJ,zK,zL,zM,zN,zO,zP,zR,zS]at *);omega)) (by((try simp only [qV]at *);(try simp only [zQ,zA,zB,zC,zD,zE,zF,zG,zH,zI,zJ,zK,zL,zM,zN,zO,zP,zR,zS]at *);omega)))) qA)))|skip))
    |((try simp only [zQ,zA,zB,zC,zD,zE,zF,zG,zH,zI,zJ,zK,zL,zM,zN,zO,zP,zR,zS]at *);refine⟨⟨f+1,by omega⟩,by simp only [];omega,?_⟩;cbv;(repeat' (first|with_reducible refine hold ?_ ?_|with_reducible refine And.intro ?_ ?_));(all_goals first|trivial|exact qM (qE (by rfl))|exact qM (qF (by rfl))|exact qM (Fit.refl _)|exact qL (qK _)|(refine qM (qE ?_);(try simp only [qV]at *);simp only [zQ,zA,zB,zC,zD,zE,zF,zG,zH,zI,zJ,zK,zL,zM,zN,zO,zP,zR,zS]at *;omega)|(refine qL (qJ ?_);(repeat' (first|exact qA|exact qB|refine qC ?_ rfl ?_|refine qD ?_ ?_|exact qE (by rfl)|exact qF (by rfl)|exact Fit.refl _|exact qG _|(refine qE ?_;(try simp only [qV]at *);simp only [zQ,zA,zB,zC,zD,zE,zF,zG,zH,zI,zJ,zK,zL,zM,zN,zO,zP,zR,zS]at *;omega)));done)|(refine qL (qJ (uaU (fun ix h0 h1=>qE (uvn (by((try simp only [qV]at *);(try simp only [zQ,zA,zB,zC,zD,zE,zF,zG,zH,zI,zJ,zK,zL,zM,zN,zO,zP,zR,zS]at *);omega)))) qA)))|skip))
    |skip
  refine⟨none,[],{s:Nat // s≤d.sn.toNat},fun x=>⟨[(1,(iS o)),(2,.own 0 0),(4,.own 1 0),(31,(iv fun _=>d.sn)),(32,(iv fun _=>zi x.1))],[(0,.cells [(wpS d)] 87),(1,.cells [(.arr 16 (fun ix=>(iv fun _=>(mS x.1) ix.den.toNat)))] 95)],300⟩,fun x=>d.sn.toNat-x.1,?_,?_⟩
  ·refine⟨⟨0,by omega⟩,?_⟩
   cbv
   repeat' (first
    |with_reducible refine hold ?_ ?_
    |with_reducible refine And.intro ?_ ?_)
   all_goals first
    |trivial
    |exact qM (qE (by rfl))
    |exact qM (Fit.refl _)
    |exact qL (qK _)
    |(refine qL (qJ (uaU (fun ix h0 h1=>qE (uuI (by((try simp only [qV]at *);(try simp only [zQ,zA,zB,zC,zD,zE,zF,zG,zH,zI,zJ,zK,zL,zM,zN,zO,zP,zR,zS]at *);omega)) (by omega))) qA)))
    |skip
  ·rintro ⟨s, hs⟩
   cbv
   repeat' (first
    |with_reducible refine hold ?_ ?_
    |with_reducible refine And.intro ?_ ?_
    |(with_reducible intro hcd;(try simp only [zA,zB,zC,zD,zE,zF,zG,zH,zI,zJ,zK,zL,zM,zN,zO,zP]at hcd);try cbv)
    | (refine⟨some [1],?_⟩
       cbv
       refine qQ ?_ (c67 (mS s) 0 (zi s+1) 0 2000 (by omega) ⟨(by((try simp only [qV]at *);(try simp only [zQ,zA,zB,zC,zD,zE,zF,zG,zH,zI,zJ,zK,zL,zM,zN,zO,zP,zR,zS]at *);omega)),(by((try simp only [qV]at *);(try simp only [zQ,zA,zB,zC,zD,zE,zF,zG,zH,zI,zJ,zK,zL,zM,zN,zO,zP,zR,zS]at *);omega))⟩ (by omega)) ?hfit ?hbo
       case hfit=>(cbv;(repeat' (first|exact qB|refine qD ?_ ?_|exact qE (by rfl)|exact qF (by rfl)|exact Fit.refl _|exact qA|refine qC ?_ rfl ?_));done)
       case hbo=>(cbv;(repeat' (first|exact qH|refine qI ?_ ?_|exact qK _|refine qJ ?_|exact qA|exact qE (by rfl)|exact qF (by rfl)|exact Fit.refl _|exact qG _|refine qC ?_ rfl ?_));done)
       try cbv)
    |fail)
   all_goals first
    |((try simp only [qV]at *);(try simp only [zQ,zA,zB,zC,zD,zE,zF,zG,zH,zI,zJ,zK,zL,zM,zN,zO,zP,zR,zS]at *);first|(refine qN ?_;omega)|(simp only [Hold];omega))
    |((try simp only [zQ,zA,zB,zC,zD,zE,zF,zG,zH,zI,zJ,zK,zL,zM,zN,zO,zP,zR,zS]at *);refine⟨⟨s+1,by((try simp only [qV]at *);(try simp only [zQ,zA,zB,zC,zD,zE,zF,zG,zH,zI,zJ,zK,zL,zM,zN,zO,zP,zR,zS]at *);omega)⟩,by simp only [];omega,?_⟩;cbv;(repeat' (first|with_reducible refine hold ?_ ?_|with_reducible refine And.intro ?_ ?_));(all_goals first|trivial|exact qM (qE (by rfl))|exact qM (qF (by rfl))|exact qM (Fit.refl _)|exact qL (qK _)|(refine qM (qE ?_);(try simp only [qV]at *);simp only [zQ,zA,zB,zC,zD,zE,zF,zG,zH,zI,zJ,zK,zL,zM,zN,zO,zP,zR,zS]at *;omega)|(refine qL (qJ ?_);(repeat' (first|exact qA|exact qB|refine qC ?_ rfl ?_|refine qD ?_ ?_|exact qE (by rfl)|exact qF (by rfl)|exact Fit.refl _|exact qG _|(refine qE ?_;(try simp only [qV]at *);simp only [zQ,zA,zB,zC,zD,zE,zF,zG,zH,zI,zJ,zK,zL,zM,zN,zO,zP,zR,zS]at *;omega)));done)|(refine qL (qJ (uaU (fun ix h0 h1=>qE (uwY s _)) qA)))|skip))
    |skip
   refine⟨none,[],{k:Nat // k≤d.ls.length},fun x=>⟨[(1,(iS o)),(2,.own 0 0),(4,.own 1 0),(44,(.sl 4 (.sym fun _=>zi (d.ls).length) (fun ix=>[(iv fun _=>((d.ls).getD ix.den.toNat l0T).a),(iv fun _=>((d.ls).getD ix.den.toNat l0T).b),(iv fun _=>((d.ls).getD ix.den.toNat l0T).lo),(iv fun _=>((d.ls).getD ix.den.toNat l0T).hi)]))),(45,(iv fun _=>zi d.ls.length)),(46,(iv fun _=>zi x.1))],[(0,.cells [(wpS d)] 87),(1,.cells [(.arr 16 (fun ix=>(iv fun _=>(mL d x.1) ix.den.toNat)))] 95)],400⟩,fun x=>d.ls.length-x.1,?_,?_⟩
   ·refine⟨⟨0,by omega⟩,?_⟩
    cbv
    repeat' (first
     |with_reducible refine hold ?_ ?_
     |with_reducible refine And.intro ?_ ?_)
    all_goals first
     |trivial
     |exact qM (qE (by rfl))
     |exact qM (Fit.refl _)
     |exact qL (qK _)
     |(refine qL (qJ (uaU (fun ix h0 h1=>qE (uv4 (by unfold SN;(try simp only [qV]at *);(try simp only [zQ,zA,zB,zC,zD,zE,zF,zG,zH,zI,zJ,zK,zL,zM,zN,zO,zP,zR,zS]at *);omega))) qA)))
     |skip
   ·rintro ⟨k,hk⟩
    cbv
    have hlk:k<d.ls.length→ucw d.sn (d.ls.getD k l0T):=hd.l k
    unfold ucw at hlk
    repeat' (first
     |with_reducible refine hold ?_ ?_
     |with_reducible refine And.intro ?_ ?_
     |(with_reducible intro hcd;(try simp only [zA,zB,zC,zD,zE,zF,zG,zH,zI,zJ,zK,zL,zM,zN,zO,zP]at hcd);try cbv)
     | ((have hk9:=hlk (by((try simp only [qV]at *);(try simp only [zQ,zA,zB,zC,zD,zE,zF,zG,zH,zI,zJ,zK,zL,zM,zN,zO,zP,zR,zS]at *);omega)))
        refine⟨some [1],?_⟩
        cbv
        refine qQ ?_ (c67 (mL d k) ((d.ls.getD k l0T).a+1) ((d.ls.getD k l0T).b+1) (d.ls.getD k l0T).lo (d.ls.getD k l0T).hi ⟨by omega,by omega⟩ ⟨by omega,by omega⟩ (by omega)) ?hfit ?hbo
        case hfit=>(cbv;(repeat' (first|exact qB|refine qD ?_ ?_|exact qE (by rfl)|exact qF (by rfl)|exact Fit.refl _|exact qA|refine qC ?_ rfl ?_));done)
        case hbo=>(cbv;(repeat' (first|exact qH|refine qI ?_ ?_|exact qK _|refine qJ ?_|exact qA|exact qE (by rfl)|exact qF (by rfl)|exact Fit.refl _|exact qG _|refine qC ?_ rfl ?_));done)
        try cbv)
     | (refine qP ?_ (c87) ?hfit
        case hfit=>((repeat' (first|exact qB|refine qD ?_ ?_|exact qE (by rfl)|exact qF (by rfl)|exact Fit.refl _|exact qA|refine qC ?_ rfl ?_));done)
        try cbv)
     |fail)
    all_goals first
     |((try simp only [qV]at *);(try simp only [zQ,zA,zB,zC,zD,zE,zF,zG,zH,zI,zJ,zK,zL,zM,zN,zO,zP,zR,zS]at *);first|(refine qN ?_;omega)|(simp only [Hold];omega))
     |((try simp only [zQ,zA,zB,zC,zD,zE,zF,zG,zH,zI,zJ,zK,zL,zM,zN,zO,zP,zR,zS]at *);refine⟨⟨k+1,by((try simp only [qV]at *);(try simp only [zQ,zA,zB,zC,zD,zE,zF,zG,zH,zI,zJ,zK,zL,zM,zN,zO,zP,zR,zS]at *);omega)⟩,by simp only [];omega,?_⟩;cbv;(repeat' (first|with_reducible refine hold ?_ ?_|with_reducible refine And.intro ?_ ?_));(all_goals first|trivial|exact qM (qE (by rfl))|exact qM (qF (by rfl))|exact qM (Fit.refl _)|exact qL (qK _)|(refine qM (qE ?_);(try simp only [qV]at *);simp only [zQ,zA,zB,zC,zD,zE,zF,zG,zH,zI,zJ,zK,zL,zM,zN,zO,zP,zR,zS]at *;omega)|(refine qL (qJ ?_);(repeat' (first|exact qA|exact qB|refine qC ?_ rfl ?_|refine qD ?_ ?_|exact qE (by rfl)|exact qF (by rfl)|exact Fit.refl _|exact qG _|(refine qE ?_;(try simp only [qV]at *);simp only [zQ,zA,zB,zC,zD,zE,zF,zG,zH,zI,zJ,zK,zL,zM,zN,zO,zP,zR,zS]at *;omega)));done)|(refine qL (qJ (uaU (fun ix h0 h1=>qE (ux1 hd (by((try simp only [qV]at *);(try simp only [zQ,zA,zB,zC,zD,zE,zF,zG,zH,zI,zJ,zK,zL,zM,zN,zO,zP,zR,zS]at *);omega)) _)) qA)))|skip))
     |skip
    refine⟨[],L,el,fun _=>Unit,fun i _=>([(0,.cells [(wpS d)] 87),(1,.cells [(.arr 16 (fun ix=>(iv fun _=>(mF d K i) ix.den.toNat)))] 95)],500),?_⟩
    cbv
    refine⟨fun _=>⟨cI,elen⟩,⟨(),?_⟩,?_,?_⟩
    ·cbv
     repeat' (first
      |with_reducible refine hold ?_ ?_
      |with_reducible refine And.intro ?_ ?_)
     all_goals first
      |trivial
      |exact qL (qK _)
      |(refine qL (qJ (uaU (fun ix h0 h1=>qE (uw2 (by((try simp only [qV]at *);(try simp only [zQ,zA,zB,zC,zD,zE,zF,zG,zH,zI,zJ,zK,zL,zM,zN,zO,zP,zR,zS]at *);omega)))) qA)))
      |skip
    ·intro i _ hil
     have hil':i<L:=hil
     simp only [ei]
     cbv
     repeat' (first
      |with_reducible refine hold ?_ ?_
      | (refine qP ?_ (c45 i hil) ?hfit
         case hfit=>((repeat' (first|exact qB|refine qD ?_ ?_|exact qE (by rfl)|exact qF (by rfl)|exact Fit.refl _|exact qA|refine qC ?_ rfl ?_));done)
         try cbv)
      | ((have hk9:=hKb i hil)
         refine⟨some [1],?_⟩
         cbv
         refine qQ ?_ (c67 (mF d K i) 0 ((K.getD i f0T).s+1) (mLo d (K.getD i f0T)) (mHi d (K.getD i f0T)) (by omega) ⟨by omega,by omega⟩ (by omega)) ?hfit ?hbo
         case hfit=>(cbv;(repeat' (first|exact qB|refine qD ?_ ?_|exact qE (by rfl)|exact qF (by rfl)|exact Fit.refl _|exact qA|refine qC ?_ rfl ?_));done)
         case hbo=>(cbv;(repeat' (first|exact qH|refine qI ?_ ?_|exact qK _|refine qJ ?_|exact qA|exact qE (by rfl)|exact qF (by rfl)|exact Fit.refl _|exact qG _|refine qC ?_ rfl ?_));done)
         try cbv)
      |fail)
     all_goals first
      |((have hk9:=hKb i hil);(try simp only [qV]at *);(try simp only [zQ,zA,zB,zC,zD,zE,zF,zG,zH,zI,zJ,zK,zL,zM,zN,zO,zP,zR,zS]at *);simp only [Hold];first|omega|exact⟨by omega,by omega⟩)
      |(refine⟨(),?_⟩;cbv;(repeat' (first|with_reducible refine hold ?_ ?_|with_reducible refine And.intro ?_ ?_));(all_goals first|trivial|exact qM (qE (by rfl))|exact qM (qF (by rfl))|exact qM (Fit.refl _)|exact qL (qK _)|(refine qM (qE ?_);(try simp only [qV]at *);simp only [zQ,zA,zB,zC,zD,zE,zF,zG,zH,zI,zJ,zK,zL,zM,zN,zO,zP,zR,zS]at *;omega)|(refine qL (qJ ?_);(repeat' (first|exact qA|exact qB|refine qC ?_ rfl ?_|refine qD ?_ ?_|exact qE (by rfl)|exact qF (by rfl)|exact Fit.refl _|exact qG _|(refine qE ?_;(try simp only [qV]at *);simp only [zQ,zA,zB,zC,zD,zE,zF,zG,zH,zI,zJ,zK,zL,zM,zN,zO,zP,zR,zS]at *;omega)));done)|(refine qL (qJ (uaU (fun ix h0 h1=>qE (ux4 hK (by rw [←hL];exact hil) _)) qA)))|skip))
      |skip
    ·intro _
     cbv
     repeat' (first
      | (refine⟨some [1],?_⟩
         cbv
         refine qQ ?_ (c68 (mF d K L) (fun i _=>(hbd i).1) (fun i _=>(hbd i).2)) ?hfit ?hbo
         case hfit=>(cbv;(repeat' (first|exact qB|refine qD ?_ ?_|exact qE (by rfl)|exact qF (by rfl)|exact Fit.refl _|exact qA|refine qC ?_ rfl ?_));done)
         case hbo=>(cbv;(repeat' (first|exact qH|refine qI ?_ ?_|exact qK _|refine qJ ?_|exact qA|exact qE (by rfl)|exact qF (by rfl)|exact Fit.refl _|exact qG _|refine qC ?_ rfl ?_));done)
         try cbv)
      |fail)
     all_goals first
      |(subst hR;(rw [hend];exact Fit.refl _);done)
      |skip
end Go.Proofs.YtkdggbfknlcdaaaGreat
namespace Go.Proofs.YtkdggbfknlcdaaaGreat
open Go.Eng.Dif
theorem ult (fs:List FaT):ubI fs []=fs:=by
 have h:∀n,n≤fs.length→kpT fs (outL []) n=fs.take n:=by
  intro n
  induction n with
  |zero=>intro _;rfl
  | succ n ih=>
   intro hn
   rw [uom (show outL [] n=true from rfl),ih (by omega),uhQ (by omega),List.getD_eq_getElem?_getD,List.getElem?_eq_getElem (by omega)]
   rfl
 unfold ubI
 rw [h _ (Nat.le_refl _),List.take_of_length_le (Nat.le_refl _)]
theorem urZ {d:Dsp}(h:DOk d) {o:List Int}(hc:canT d d.fs o=true) {i:Nat}(hi:i<16): -2000≤clo (matO d d.fs o) i∧clo (matO d d.fs o) i≤2000:=by
 have hk:=uox h.f o
 exact⟨upn (okk h hk) hc hi,Int.le_trans (ulV _ _) (urR h hk i).2⟩
def ufu (d:Dsp)(n:Int):Int:=if ua4 d=0 then(if inB 0 n ((d.fs.length:Int)-1)=true then 0 else 2)else ua4 d
def ujs (d:Dsp)(n:Int):Int:=if ufu d n=0 then mLo d (d.fs.getD n.toNat f0T)else 0
def ujp (d:Dsp)(n:Int):Int:=if ufu d n=0 then mHi d (d.fs.getD n.toNat f0T)else 0
theorem uoA {d:Dsp} {n:Int}(h:¬ua4 d=0):ufu d n=ua4 d∧ujs d n=0∧ujp d n=0:=by
 have e:ufu d n=ua4 d:=by unfold ufu;rw [if_neg h]
 exact⟨e,by unfold ujs;rw [e,if_neg h],by unfold ujp;rw [e,if_neg h]⟩
theorem uru {d:Dsp} {n:Int}(h:ua4 d=0)(hn:¬(0≤n∧n≤(d.fs.length:Int)-1)):ufu d n=2∧ujs d n=0∧ujp d n=0:=by
 have e:ufu d n=2:=by unfold ufu;rw [if_pos h,if_neg (by rw [uaM];exact hn)]
 exact⟨e,by unfold ujs;rw [e];rfl,by unfold ujp;rw [e];rfl⟩
theorem uj7 {d:Dsp} {n:Int}(h:ua4 d=0)(hn:0≤n∧n≤(d.fs.length:Int)-1):ufu d n=0∧ujs d n=mLo d (d.fs.getD n.toNat f0T)∧ujp d n=mHi d (d.fs.getD n.toNat f0T):=by
 have e:ufu d n=0:=by unfold ufu;rw [if_pos h,if_pos (by rw [uaM];exact hn)]
 exact⟨e,by unfold ujs;rw [e];rfl,by unfold ujp;rw [e];rfl⟩
def bndE (d:Dsp):Int:=if ua4 d=0 then(if canT d d.fs []=true then 0 else 11)else ua4 d
def bndN (d:Dsp):Int:=if bndE d=0 then d.sn else 0
def loT (d:Dsp)(o:List Int)(s:Nat):Int:= -clo (matO d d.fs o) (at4 (s+1) 0)
def hiT (d:Dsp)(o:List Int)(s:Nat):Int:=clo (matO d d.fs o) (at4 0 (s+1))
theorem ulB {d:Dsp}(h:¬ua4 d=0):bndE d=ua4 d∧bndN d=0:=by
 have e:bndE d=ua4 d:=by unfold bndE;rw [if_neg h]
 exact⟨e,by unfold bndN;rw [e,if_neg h]⟩
theorem uq2 {d:Dsp}(h:ua4 d=0)(hc:canT d d.fs []=false):bndE d=11∧bndN d=0:=by
 have e:bndE d=11:=by unfold bndE;rw [if_pos h,if_neg (by rw [hc];simp)]
 exact⟨e,by unfold bndN;rw [e];rfl⟩
theorem uhP {d:Dsp}(h:ua4 d=0)(hc:canT d d.fs []=true):bndE d=0∧bndN d=d.sn:=by
 have e:bndE d=0:=by unfold bndE;rw [if_pos h,if_pos hc]
 exact⟨e,by unfold bndN;rw [e];rfl⟩
theorem ups {d:Dsp}(h:bndE d=0):ua4 d=0∧canT d d.fs []=true:=by
 by_cases hF:ua4 d=0
 ·refine⟨hF,?_⟩
  cases hC:canT d d.fs []with
  |true=>rfl
  |false=>rw [(uq2 hF hC).1]at h;omega
 ·rw [(ulB hF).1]at h;exact absurd h hF
theorem unV {d:Dsp}(h:¬bndE d=0):bndN d=0:=by unfold bndN;rw [if_neg h]
end Go.Proofs.YtkdggbfknlcdaaaGreat
namespace Go.Proofs.YtkdggbfknlcdaaaGreat
open Go Go.Eng Go.Proofs Go.Eng.Dif Go.Eng.Few
set_option maxRecDepth 10000
theorem uwb (d:Dsp)(n:Int)(hl:d.fs.length≤1000):ua0 Tryz.prog 38 [(dspS d),(iv fun _=>n)] [] (fun r _=>r=(.tup [(.agg [(iv fun _=>ujs d n),(iv fun _=>ujp d n)]),(iv fun _=>ufu d n)])):=by
 have c16:=ucM d
 have c43:= @udo
 have c44:=uel d
 have c45:=fun (i:Nat) (h:ua4 d=0∧i<d.fs.length)=>usp d (d.fs.getD i f0T) (ua3.1 h.1).t ((ua3.1 h.1).f i h.2)
 refine ua0.is fun R hR=>qW (sc:=sc38) tyok mix Tryz.func38 rfl Tryz.call38 (by kernel_rfl) (by kernel_rfl) ?_
 generalize Tryz.prog=P at c16 c43 c44 c45⊢
 cbv
 repeat' (first
  |with_reducible refine hold ?_ ?_
  |with_reducible refine And.intro ?_ ?_
  |(with_reducible intro hcd;(try simp only [zA,zB,zC,zD,zE,zF,zG,zH,zI,zJ,zK,zL,zM,zN,zO,zP]at hcd);try cbv)
  | (refine qP ?_ (c16) ?hfit
     case hfit=>((repeat' (first|exact qB|refine qD ?_ ?_|exact qE (by rfl)|exact qF (by rfl)|exact Fit.refl _|exact qA|refine qC ?_ rfl ?_));done)
     try cbv)
  | (refine qP ?_ (c43 _ _ _) (by(repeat' (first|exact qB|refine qD ?_ ?_|exact qE (by rfl)|exact qF (by rfl)|exact Fit.refl _|exact qA|refine qC ?_ rfl ?_)))
     try cbv)
  | (refine qP ?_ (c44) ?hfit
     case hfit=>((repeat' (first|exact qB|refine qD ?_ ?_|exact qE (by rfl)|exact qF (by rfl)|exact Fit.refl _|exact qA|refine qC ?_ rfl ?_));done)
     try cbv)
  | ((have hn9:0≤n∧n≤(d.fs.length:Int)-1:=(by((try simp only [qV]at *);(try simp only [zQ,zA,zB,zC,zD,zE,zF,zG,zH,zI,zJ,zK,zL,zM,zN,zO,zP,zR,zS]at *);(try simp only [uan,uas,uaM,uaV,uaZ,ub0,uaf,uah,uae,uag]at *);omega)))
     refine qP ?_ (c45 n.toNat ⟨by first|assumption|omega,by omega⟩) ?hfit
     case hfit=>((repeat' (first|exact qB|refine qD ?_ ?_|exact qE (by rfl)|exact qF (by rfl)|exact Fit.refl _|exact qA|refine qC ?_ rfl ?_));done)
     try cbv)
  |fail)
 all_goals first
  |((try simp only [qV]at *);(try simp only [zQ,zA,zB,zC,zD,zE,zF,zG,zH,zI,zJ,zK,zL,zM,zN,zO,zP,zR,zS,uan,uas,uaM,uaV,uaZ,ub0,uaf,uah,uae,uag]at *);first|(refine qN ?_;omega)|(simp only [Hold];omega))
  |(subst hR;(refine qD (qC (qE ?_) rfl (qC (qE ?_) rfl qA)) (qD (qE ?_) qB)<;>((try simp only [qV]at *);(try simp only [zQ,zA,zB,zC,zD,zE,zF,zG,zH,zI,zJ,zK,zL,zM,zN,zO,zP,zR,zS]at *);(try simp only [uan,uas,uaM,uaV,uaZ,ub0,uaf,uah,uae,uag]at *);(have h0:=uoA (d:=d) (n:=n) (by first|assumption|omega));first|exact h0.2.1.symm|exact h0.2.2.symm|exact h0.1.symm));done)
  |(subst hR;(refine qD (qC (qE ?_) rfl (qC (qE ?_) rfl qA)) (qD (qE ?_) qB)<;>((try simp only [qV]at *);(try simp only [zQ,zA,zB,zC,zD,zE,zF,zG,zH,zI,zJ,zK,zL,zM,zN,zO,zP,zR,zS]at *);(try simp only [uan,uas,uaM,uaV,uaZ,ub0,uaf,uah,uae,uag]at *);(have h0:=uru (d:=d) (n:=n) (by first|assumption|omega) (by first|assumption|omega));first|exact h0.2.1.symm|exact h0.2.2.symm|exact h0.1.symm));done)
  |(subst hR;(refine qD (qC (qE ?_) rfl (qC (qE ?_) rfl qA)) (qD (qE ?_) qB)<;>((try simp only [qV]at *);(try simp only [zQ,zA,zB,zC,zD,zE,zF,zG,zH,zI,zJ,zK,zL,zM,zN,zO,zP,zR,zS]at *);(try simp only [uan,uas,uaM,uaV,uaZ,ub0,uaf,uah,uae,uag]at *);(have h0:=uj7 (d:=d) (n:=n) (by first|assumption|omega) (by omega));first|exact h0.2.1.symm|exact h0.2.2.symm|exact h0.1.symm));done)
  |skip
theorem upP (d:Dsp)(h:bndE d=0):ua0 Tryz.prog 30 [(dspS d)] [] (fun r _=>r=(.tup [(.sl 2 (.sym fun _=>bndN d) (fun ix=>[(iv fun _=>loT d [] ix.den.toNat),(iv fun _=>hiT d [] ix.den.toNat)])),(iv fun _=>bndE d)])):=by
 have c16:=ucM d
 have c44:=uel d
 have hF:=(ups h).1
 have hC:=(ups h).2
 have s1:=(ua3.1 hF).s1
 have s3:=(ua3.1 hF).s3
 have c54:=uck d [] (ua3.1 hF) (by simp)
 have hbd:=fun (i:Nat) (hi:i<16)=>urZ (ua3.1 hF) hC hi
 have c55:=fun (s:Int) (hs:0≤s∧s<3)=>um2 (clo (matO d d.fs [])) s hs (fun i hi=>⟨by have:=hbd i hi;omega,by have:=hbd i hi;omega⟩)
 refine ua0.is fun R hR=>qW (sc:=sc30) tyok mix Tryz.func30 rfl Tryz.call30 (by kernel_rfl) (by kernel_rfl) ?_
 generalize Tryz.prog=P at c16 c44 c54 c55⊢
 cbv
 repeat' (first
  |with_reducible refine And.intro ?_ ?_
  |(with_reducible intro hcd;(try simp only [zA,zB,zC,zD,zE,zF,zG,zH,zI,zJ,zK,zL,zM,zN,zO,zP]at hcd);try cbv)
  | (refine qP ?_ (c16) ?hfit
     case hfit=>((repeat' (first|exact qB|refine qD ?_ ?_|exact qE (by rfl)|exact qF (by rfl)|exact Fit.refl _|exact qA|refine qC ?_ rfl ?_));done)
     try cbv)
  | (refine qP ?_ (c44) ?hfit
     case hfit=>((repeat' (first|exact qB|refine qD ?_ ?_|exact qE (by rfl)|exact qF (by rfl)|exact Fit.refl _|exact qA|refine qC ?_ rfl ?_));done)
     try cbv)
  | (refine qP ?_ (c54) ?hfit
     case hfit=>((refine qD (Fit.refl _) (qD (qO rfl) qB));done)
     try cbv)
  |fail)
 all_goals first
  |trivial
  |(exfalso;rw [hC]at hcd;cases hcd;done)
  |skip
 refine⟨none,[⟨.tmp 7,59,2⟩],{s:Nat // s≤d.sn.toNat},fun x=>⟨[(1,.own 0 0),(5,.own 14 0),(7,.row 23),(23,(iv fun _=>d.sn)),(24,(iv fun _=>zi x.1))],[(0,.cells [(iS d.tw),(iS d.tm),(.sl 1 (.sym fun _=>zi (d.tv).length) (fun ix=>[(.sl 1 (.sym fun _=>zi ((d.tv).getD ix.den.toNat []).length) (fun jx=>[(iv fun _=>((d.tv).getD ix.den.toNat []).getD jx.den.toNat 0)]))])),(iv fun _=>d.sn),(iv fun _=>d.pn),(.sl 4 (.sym fun _=>zi (d.ls).length) (fun ix=>[(iv fun _=>((d.ls).getD ix.den.toNat l0T).a),(iv fun _=>((d.ls).getD ix.den.toNat l0T).b),(iv fun _=>((d.ls).getD ix.den.toNat l0T).lo),(iv fun _=>((d.ls).getD ix.den.toNat l0T).hi)])),(.sl 6 (.sym fun _=>zi (d.fs).length) (fun ix=>[(iv fun _=>((d.fs).getD ix.den.toNat f0T).p),(iv fun _=>((d.fs).getD ix.den.toNat f0T).s),(iv fun _=>((d.fs).getD ix.den.toNat f0T).wl),(iv fun _=>((d.fs).getD ix.den.toNat f0T).wh),(iv fun _=>((d.fs).getD ix.den.toNat f0T).ml),(iv fun _=>((d.fs).getD ix.den.toNat f0T).mh)]))] 39),(14,.cells [(.arr 16 (fun ix=>(iv fun _=>(clo (matO d d.fs [])) ix.den.toNat)))] 95),(23,.row 59 2 (.sym fun _=>zi x.1) (fun ix=>[(iv fun _=>loT d [] ix.den.toNat),(iv fun _=>hiT d [] ix.den.toNat)]))],100⟩,fun x=>d.sn.toNat-x.1,?_,?_⟩
 ·refine⟨⟨0,by omega⟩,?_⟩
  cbv
  repeat' (first
   |with_reducible refine hold ?_ ?_
   |with_reducible refine And.intro ?_ ?_)
  all_goals first
   |trivial
   |exact qM (qE (by rfl))
   |exact qM (Fit.refl _)
   |exact qL (qK _)
   |(refine qL (ua8 ?_ ?_);(first|rfl|((try simp only [qV]at *);(try simp only [zQ,zA,zB,zC,zD,zE,zF,zG,zH,zI,zJ,zK,zL,zM,zN,zO,zP,zR,zS]at *);omega));intro ix h0 h1;exfalso;(try simp only [qV]at *);(try simp only [zQ,zA,zB,zC,zD,zE,zF,zG,zH,zI,zJ,zK,zL,zM,zN,zO,zP,zR,zS]at *);omega)
   |skip
 ·rintro ⟨s,hs⟩
  cbv
  repeat' (first
   |with_reducible refine hold ?_ ?_
   |with_reducible refine And.intro ?_ ?_
   |(with_reducible intro hcd;(try simp only [zA,zB,zC,zD,zE,zF,zG,zH,zI,zJ,zK,zL,zM,zN,zO,zP]at hcd);try cbv)
   | (refine⟨some [14],?_⟩
      cbv
      refine qQ ?_ (c55 (zi s) ⟨(by((try simp only [qV]at *);(try simp only [zQ,zA,zB,zC,zD,zE,zF,zG,zH,zI,zJ,zK,zL,zM,zN,zO,zP,zR,zS]at *);omega)),(by((try simp only [qV]at *);(try simp only [zQ,zA,zB,zC,zD,zE,zF,zG,zH,zI,zJ,zK,zL,zM,zN,zO,zP,zR,zS]at *);omega))⟩) ?hfit ?hbo
      case hfit=>(cbv;(repeat' (first|exact qB|refine qD ?_ ?_|exact qE (by rfl)|exact qF (by rfl)|exact Fit.refl _|exact qA|refine qC ?_ rfl ?_));done)
      case hbo=>(cbv;(repeat' (first|exact qH|refine qI ?_ ?_|exact qK _|refine qJ ?_|exact qA|exact qE (by rfl)|exact qF (by rfl)|exact Fit.refl _|exact qG _|refine qC ?_ rfl ?_));done)
      try cbv)
   | (refine⟨fun ix=>[(iv fun _=>loT d [] ix.den.toNat),(iv fun _=>hiT d [] ix.den.toNat)],?_⟩
      cbv
      refine hold (ubt (by intro ix jx h0 h1 h2;simp only [h2];exact Fit.refl _) (by intro ix jx h0 h1 h2;(have h3:jx.den.toNat=s:=by((try simp only [qV]at *);(try simp only [zQ,zA,zB,zC,zD,zE,zF,zG,zH,zI,zJ,zK,zL,zM,zN,zO,zP,zR,zS]at *);omega));simp only [h3];exact qC (qE rfl) rfl (qC (qE rfl) rfl qA)) (by(try simp only [qV]at *);(try simp only [zQ,zA,zB,zC,zD,zE,zF,zG,zH,zI,zJ,zK,zL,zM,zN,zO,zP,zR,zS]at *);omega)) (Or.inl ?_)
      try cbv)
   |fail)
  all_goals first
   |((try simp only [qV]at *);(try simp only [zQ,zA,zB,zC,zD,zE,zF,zG,zH,zI,zJ,zK,zL,zM,zN,zO,zP,zR,zS]at *);first|(refine qN ?_;omega)|(simp only [Hold];omega))
   |((have hse:(s:Int)=d.sn:=(by((try simp only [qV]at *);(try simp only [zQ,zA,zB,zC,zD,zE,zF,zG,zH,zI,zJ,zK,zL,zM,zN,zO,zP,zR,zS]at *);omega)));subst hR;exact qD (ua1 (hse.trans (uhP hF hC).2.symm) (fun _ _ _=>Fit.refl _)) (qD (qE h.symm) qB))
   |((try simp only [zQ,zA,zB,zC,zD,zE,zF,zG,zH,zI,zJ,zK,zL,zM,zN,zO,zP,zR,zS]at *);refine⟨⟨s+1,by((try simp only [qV]at *);(try simp only [zQ,zA,zB,zC,zD,zE,zF,zG,zH,zI,zJ,zK,zL,zM,zN,zO,zP,zR,zS]at *);omega)⟩,by simp only [];omega,?_⟩;cbv;(repeat' (first|with_reducible refine hold ?_ ?_|with_reducible refine And.intro ?_ ?_));(all_goals first|trivial|exact qM (qE (by rfl))|exact qM (qF (by rfl))|exact qM (Fit.refl _)|exact qL (qK _)|(refine qM (qE ?_);(try simp only [qV]at *);simp only [zQ,zA,zB,zC,zD,zE,zF,zG,zH,zI,zJ,zK,zL,zM,zN,zO,zP,zR,zS]at *;omega)|(refine qL (qJ ?_);(repeat' (first|exact qA|exact qB|refine qC ?_ rfl ?_|refine qD ?_ ?_|exact qE (by rfl)|exact qF (by rfl)|exact Fit.refl _|exact qG _|(refine qE ?_;(try simp only [qV]at *);simp only [zQ,zA,zB,zC,zD,zE,zF,zG,zH,zI,zJ,zK,zL,zM,zN,zO,zP,zR,zS]at *;omega)));done)|(refine qL (ua8 ?_ ?_)<;>first|rfl|((try simp only [qV]at *);(try simp only [zQ,zA,zB,zC,zD,zE,zF,zG,zH,zI,zJ,zK,zL,zM,zN,zO,zP,zR,zS]at *);omega)|(intro ix h0 h1;exact Fit.refl _))|skip))
   |skip
theorem unX (d:Dsp)(h:¬bndE d=0):ua0 Tryz.prog 30 [(dspS d)] [] (fun r _=>r=(.tup [(.sl 2 (.sym fun _=>bndN d) (fun ix=>[(iv fun _=>loT d [] ix.den.toNat),(iv fun _=>hiT d [] ix.den.toNat)])),(iv fun _=>bndE d)])):=by
 have c16:=ucM d
 have c44:=uel d
 have c54:=fun h:ua4 d=0=>uck d [] (ua3.1 h) (by simp)
 refine ua0.is fun R hR=>qW (sc:=sc30) tyok mix Tryz.func30 rfl Tryz.call30 (by kernel_rfl) (by kernel_rfl) ?_
 generalize Tryz.prog=P at c16 c44 c54⊢
 cbv
 repeat' (first
  |with_reducible refine And.intro ?_ ?_
  |(with_reducible intro hcd;(try simp only [zA,zB,zC,zD,zE,zF,zG,zH,zI,zJ,zK,zL,zM,zN,zO,zP]at hcd);try cbv)
  | (refine qP ?_ (c16) ?hfit
     case hfit=>((repeat' (first|exact qB|refine qD ?_ ?_|exact qE (by rfl)|exact qF (by rfl)|exact Fit.refl _|exact qA|refine qC ?_ rfl ?_));done)
     try cbv)
  | (refine qP ?_ (c44) ?hfit
     case hfit=>((repeat' (first|exact qB|refine qD ?_ ?_|exact qE (by rfl)|exact qF (by rfl)|exact Fit.refl _|exact qA|refine qC ?_ rfl ?_));done)
     try cbv)
  | (refine qP ?_ (c54 (show Hold _ from ?_)) ?hfit
     case hfit=>((refine qD (Fit.refl _) (qD (qO rfl) qB));done)
     try cbv)
  |fail)
 all_goals first
  |trivial
  |(subst hR;((try simp only [qV]at *);(try simp only [zQ,zA,zB,zC,zD,zE,zF,zG,zH,zI,zJ,zK,zL,zM,zN,zO,zP,zR,zS]at *);(exact qD (qO (unV h)) (qD (qE (ulB (d:=d) (by first|assumption|omega)).1.symm) qB)));done)
  |(subst hR;((try simp only [qV]at *);(try simp only [zQ,zA,zB,zC,zD,zE,zF,zG,zH,zI,zJ,zK,zL,zM,zN,zO,zP,zR,zS]at *);(exact qD (qO (unV h)) (qD (qE (uq2 (d:=d) (by first|assumption|omega) (by assumption)).1.symm) qB)));done)
  |(exfalso;exact h (uhP (by((try simp only [qV]at *);(try simp only [zQ,zA,zB,zC,zD,zE,zF,zG,zH,zI,zJ,zK,zL,zM,zN,zO,zP,zR,zS]at *);first|assumption|omega)) (by assumption)).1)
  |skip
theorem urM (d:Dsp):ua0 Tryz.prog 30 [(dspS d)] [] (fun r _=>r=(.tup [(.sl 2 (.sym fun _=>bndN d) (fun ix=>[(iv fun _=>loT d [] ix.den.toNat),(iv fun _=>hiT d [] ix.den.toNat)])),(iv fun _=>bndE d)])):=by
 by_cases h:bndE d=0
 ·exact upP d h
 ·exact unX d h
theorem unH (l:List Int)(hl:l.length≤1000):ub5 Tryz.prog 89 [(iS l)] [] (fun r bs=>r = .row 0∧bs=[.row 3 1 (.sym fun _=>zi l.length) (fun ix=>[(iv fun _=>l.getD ix.den.toNat 0)])]):=by
 refine ub5.is rfl rfl fun R B hR hB=>ueO (sc:=sc89) tyok mix Tryz.func89 rfl Tryz.call89 (by kernel_rfl) (by kernel_rfl) ?_
 generalize Tryz.prog=P
 cbv
 repeat' (first
  |with_reducible refine hold ?_ ?_
  |with_reducible refine And.intro ?_ ?_
  |(with_reducible intro hcd;(try simp only [zA,zB,zC,zD,zE,zF,zG,zH,zI,zJ,zK,zL,zM,zN,zO,zP]at hcd);try cbv)
  |fail)
 all_goals first
  |((try simp only [qV]at *);(try simp only [zQ,zA,zB,zC,zD,zE,zF,zG,zH,zI,zJ,zK,zL,zM,zN,zO,zP,zR,zS]at *);first|(refine qN ?_;omega)|(simp only [Hold];omega))
  |(refine⟨[⟨.tmp 2,3,1⟩],(4:Nat),?_⟩;cbv;subst hR;subst hB;refine⟨?_,?_⟩;(first|exact Fit.refl _|((repeat' (first|exact qA|exact qB|refine qC ?_ rfl ?_|refine qD ?_ ?_|exact qE (by rfl)|exact qF (by rfl)|exact Fit.refl _|exact qG _|(refine qE ?_;(try simp only [qV]at *);simp only [zQ,zA,zB,zC,zD,zE,zF,zG,zH,zI,zJ,zK,zL,zM,zN,zO,zP,zR,zS]at *;omega)));done));(repeat' (first|exact qH|refine qI ?_ ?_));(all_goals first|exact qK _|(refine qJ ?_;(repeat' (first|exact qA|exact qB|refine qC ?_ rfl ?_|refine qD ?_ ?_|exact qE (by rfl)|exact qF (by rfl)|exact Fit.refl _|exact qG _|(refine qE ?_;(try simp only [qV]at *);simp only [zQ,zA,zB,zC,zD,zE,zF,zG,zH,zI,zJ,zK,zL,zM,zN,zO,zP,zR,zS]at *;omega)));done)|(refine ua8 ?_ ?_;(first|rfl|((try simp only [qV]at *);(try simp only [zQ,zA,zB,zC,zD,zE,zF,zG,zH,zI,zJ,zK,zL,zM,zN,zO,zP,zR,zS]at *);omega));intro ix h0 h1;first|exact Fit.refl _|(exfalso;(try simp only [qV]at *);(try simp only [zQ,zA,zB,zC,zD,zE,zF,zG,zH,zI,zJ,zK,zL,zM,zN,zO,zP,zR,zS]at *);omega))))
  |(refine⟨[],(5:Nat),?_⟩;cbv;subst hR;subst hB;refine⟨?_,?_⟩;(first|exact Fit.refl _|((repeat' (first|exact qA|exact qB|refine qC ?_ rfl ?_|refine qD ?_ ?_|exact qE (by rfl)|exact qF (by rfl)|exact Fit.refl _|exact qG _|(refine qE ?_;(try simp only [qV]at *);simp only [zQ,zA,zB,zC,zD,zE,zF,zG,zH,zI,zJ,zK,zL,zM,zN,zO,zP,zR,zS]at *;omega)));done));(repeat' (first|exact qH|refine qI ?_ ?_));(all_goals first|exact qK _|(refine qJ ?_;(repeat' (first|exact qA|exact qB|refine qC ?_ rfl ?_|refine qD ?_ ?_|exact qE (by rfl)|exact qF (by rfl)|exact Fit.refl _|exact qG _|(refine qE ?_;(try simp only [qV]at *);simp only [zQ,zA,zB,zC,zD,zE,zF,zG,zH,zI,zJ,zK,zL,zM,zN,zO,zP,zR,zS]at *;omega)));done)|(refine ua8 ?_ ?_;(first|rfl|((try simp only [qV]at *);(try simp only [zQ,zA,zB,zC,zD,zE,zF,zG,zH,zI,zJ,zK,zL,zM,zN,zO,zP,zR,zS]at *);omega));intro ix h0 h1;first|exact Fit.refl _|(exfalso;(try simp only [qV]at *);(try simp only [zQ,zA,zB,zC,zD,zE,zF,zG,zH,zI,zJ,zK,zL,zM,zN,zO,zP,zR,zS]at *);omega))))
  |skip
theorem uk2 (l:List FaT)(hl:l.length≤1000):ua0 Tryz.prog 81 [(.sl 6 (.sym fun _=>zi (l).length) (fun ix=>[(iv fun _=>((l).getD ix.den.toNat f0T).p),(iv fun _=>((l).getD ix.den.toNat f0T).s),(iv fun _=>((l).getD ix.den.toNat f0T).wl),(iv fun _=>((l).getD ix.den.toNat f0T).wh),(iv fun _=>((l).getD ix.den.toNat f0T).ml),(iv fun _=>((l).getD ix.den.toNat f0T).mh)]))] [] (fun r _=>r=(.sl 6 (.sym fun _=>zi (l).length) (fun ix=>[(iv fun _=>((l).getD ix.den.toNat f0T).p),(iv fun _=>((l).getD ix.den.toNat f0T).s),(iv fun _=>((l).getD ix.den.toNat f0T).wl),(iv fun _=>((l).getD ix.den.toNat f0T).wh),(iv fun _=>((l).getD ix.den.toNat f0T).ml),(iv fun _=>((l).getD ix.den.toNat f0T).mh)]))):=by
 refine ua0.is fun R hR=>qW (sc:=sc81) tyok mix Tryz.func81 rfl Tryz.call81 (by kernel_rfl) (by kernel_rfl) ?_
 generalize Tryz.prog=P
 cbv
 repeat' (first
  |with_reducible refine hold ?_ ?_
  |with_reducible refine And.intro ?_ ?_
  |(with_reducible intro hcd;(try simp only [zA,zB,zC,zD,zE,zF,zG,zH,zI,zJ,zK,zL,zM,zN,zO,zP]at hcd);try cbv)
  |fail)
 all_goals first
  |((try simp only [qV]at *);(try simp only [zQ,zA,zB,zC,zD,zE,zF,zG,zH,zI,zJ,zK,zL,zM,zN,zO,zP,zR,zS]at *);first|(refine qN ?_;omega)|(simp only [Hold];omega))
  |(subst hR;exact qO (by((try simp only [qV]at *);(try simp only [zQ,zA,zB,zC,zD,zE,zF,zG,zH,zI,zJ,zK,zL,zM,zN,zO,zP,zR,zS]at *);omega));done)
  |(subst hR;exact Fit.refl _;done)
  |skip
end Go.Proofs.YtkdggbfknlcdaaaGreat
namespace Go.Proofs.YtkdggbfknlcdaaaGreat
open Go.Eng.Dif
def noF (d:Dsp):Dsp:=⟨d.tw,d.tm,d.tv,d.sn,d.pn,d.ls,[]⟩
def uc8 (d:Dsp)(fs:List FaT):Dsp:=⟨d.tw,d.tm,d.tv,d.sn,d.pn,d.ls,fs⟩
theorem uly {d:Dsp}(h:DOk d) {fs:List FaT}(hl:fs.length≤6)(hf:∀f∈fs,ubN d f):DOk (uc8 d fs):=
 ⟨h.t,h.s1,h.s3,h.p1,h.p4,h.l4,hl,h.l,FOk.of (d:=d) hf⟩
theorem uph {d:Dsp}(h:DOk d):DOk (noF d):=uly h (fs:=[]) (by simp) (fun f hf=>by cases hf)
def udv (d:Dsp):Bool:=canT (noF d) [] []
def ua9 (d:Dsp):Int:=if ua4 d=0 then(if udv d=true then 0 else 9)else ua4 d
theorem uj9 {d:Dsp}(h:¬ua4 d=0):ua9 d=ua4 d:=by unfold ua9;rw [if_neg h]
theorem ufS {d:Dsp}(h:ua4 d=0)(hc:udv d=false):ua9 d=9:=by unfold ua9;rw [if_pos h,if_neg (by rw [hc];simp)]
theorem udO {d:Dsp}(h:ua4 d=0)(hc:udv d=true):ua9 d=0:=by unfold ua9;rw [if_pos h,if_pos hc]
theorem uao {d:Dsp}(h:ua9 d=0):ua4 d=0∧udv d=true:=by
 by_cases hF:ua4 d=0
 ·refine⟨hF,?_⟩
  cases hC:udv d with
  |true=>rfl
  |false=>rw [ufS hF hC]at h;omega
 ·rw [uj9 hF]at h;exact absurd h hF
theorem ueI (d:Dsp):udv d=canD (SN d) (LO d) []:=rfl
end Go.Proofs.YtkdggbfknlcdaaaGreat
namespace Go.Proofs.YtkdggbfknlcdaaaGreat
open Go Go.Eng Go.Proofs Go.Eng.Dif Go.Eng.Few
set_option maxRecDepth 10000
theorem utY (d:Dsp):ub5 Tryz.prog 62 [(dspS d)] [] (fun r bs=>r = .own 0 0∧bs=[.cells [(iS d.tw),(iS d.tm),(.sl 1 (.sym fun _=>zi (d.tv).length) (fun ix=>[(.sl 1 (.sym fun _=>zi ((d.tv).getD ix.den.toNat []).length) (fun jx=>[(iv fun _=>((d.tv).getD ix.den.toNat []).getD jx.den.toNat 0)]))])),(iv fun _=>d.sn),(iv fun _=>d.pn),(.sl 4 (.sym fun _=>zi (d.ls).length) (fun ix=>[(iv fun _=>((d.ls).getD ix.den.toNat l0T).a),(iv fun _=>((d.ls).getD ix.den.toNat l0T).b),(iv fun _=>((d.ls).getD ix.den.toNat l0T).lo),(iv fun _=>((d.ls).getD ix.den.toNat l0T).hi)])),(.sl 6 (.sym fun _=>zi (d.fs).length) (fun ix=>[(iv fun _=>((d.fs).getD ix.den.toNat f0T).p),(iv fun _=>((d.fs).getD ix.den.toNat f0T).s),(iv fun _=>((d.fs).getD ix.den.toNat f0T).wl),(iv fun _=>((d.fs).getD ix.den.toNat f0T).wh),(iv fun _=>((d.fs).getD ix.den.toNat f0T).ml),(iv fun _=>((d.fs).getD ix.den.toNat f0T).mh)])),(.memo 106 59 false 6 (fun ks=>.agg [(iv fun _=>kLo d ks),(iv fun _=>kHi d ks)]))] 92]):=by
 have hmt:=ue7
 refine ub5.is rfl rfl fun R B hR hB=>ueO (sc:=sc62) tyok mix Tryz.func62 rfl Tryz.call62 (by kernel_rfl) (by kernel_rfl) ?_
 generalize Tryz.prog=P at hmt⊢
 cbv
 repeat' (first
  | (refine⟨106,59,false,6,?_⟩
     cbv
     refine hold ⟨hmt,fun h=>by cases h⟩ ?_
     refine Or.inr ⟨(fun ks=>.agg [(iv fun _=>kLo d ks),(iv fun _=>kHi d ks)]),?_⟩
     cbv)
  |fail)
 all_goals first
  |(refine⟨[],(5:Nat),?_⟩;cbv;subst hR;subst hB;refine⟨?_,?_⟩;(first|exact Fit.refl _|((repeat' (first|exact qA|exact qB|refine qC ?_ rfl ?_|refine qD ?_ ?_|exact qE (by rfl)|exact qF (by rfl)|exact Fit.refl _|exact qG _|(refine qE ?_;(try simp only [qV]at *);simp only [zQ,zA,zB,zC,zD,zE,zF,zG,zH,zI,zJ,zK,zL,zM,zN,zO,zP,zR,zS]at *;omega)));done));(repeat' (first|exact qH|refine qI ?_ ?_));(all_goals first|exact qK _|(refine qJ ?_;(repeat' (first|exact qA|exact qB|refine qC ?_ rfl ?_|refine qD ?_ ?_|exact qE (by rfl)|exact qF (by rfl)|exact Fit.refl _|exact qG _|(refine qE ?_;(try simp only [qV]at *);simp only [zQ,zA,zB,zC,zD,zE,zF,zG,zH,zI,zJ,zK,zL,zM,zN,zO,zP,zR,zS]at *;omega)));done)|(refine ua8 ?_ ?_;(first|rfl|((try simp only [qV]at *);(try simp only [zQ,zA,zB,zC,zD,zE,zF,zG,zH,zI,zJ,zK,zL,zM,zN,zO,zP,zR,zS]at *);omega));intro ix h0 h1;first|exact Fit.refl _|(exfalso;(try simp only [qV]at *);(try simp only [zQ,zA,zB,zC,zD,zE,zF,zG,zH,zI,zJ,zK,zL,zM,zN,zO,zP,zR,zS]at *);omega))))
  |skip
theorem ulP (d:Dsp)(h:ua9 d=0):ua0 Tryz.prog 41 [(dspS d)] [] (fun r _=>r=(.tup [(wpS d),(iv fun _=>0)])):=by
 have c16:=ucM d
 have c44:=uel d
 have c44n:=uel (noF d)
 have c92:=uk2 d.fs
 have hmt:=ue7
 have hF:=(uao h).1
 have hC:=(uao h).2
 have f6:=(ua3.1 hF).f6
 have c54:=uck (noF d) [] (uph (ua3.1 hF)) (by simp)
 have hLn:canT (noF d) (noF d).fs []=true:=hC
 rw [hLn]at c54
 refine ua0.is fun R hR=>qW (sc:=sc41) tyok mix Tryz.func41 rfl Tryz.call41 (by kernel_rfl) (by kernel_rfl) ?_
 generalize Tryz.prog=P at c16 c44 c44n c92 hmt c54⊢
 cbv
 repeat' (first
  |with_reducible refine And.intro ?_ ?_
  |(with_reducible intro hcd;(try simp only [zA,zB,zC,zD,zE,zF,zG,zH,zI,zJ,zK,zL,zM,zN,zO,zP]at hcd);try cbv)
  | (refine qP ?_ (c16) ?hfit
     case hfit=>((repeat' (first|exact qB|refine qD ?_ ?_|exact qE (by rfl)|exact qF (by rfl)|exact Fit.refl _|exact qA|refine qC ?_ rfl ?_));done)
     try cbv)
  | (refine qP ?_ (c44) ?hfit
     case hfit=>((repeat' (first|exact qB|refine qD ?_ ?_|exact qE (by rfl)|exact qF (by rfl)|exact Fit.refl _|exact qA|refine qC ?_ rfl ?_));done)
     try cbv)
  | (refine qP ?_ (c92 (by((try simp only [qV]at *);(try simp only [zQ,zA,zB,zC,zD,zE,zF,zG,zH,zI,zJ,zK,zL,zM,zN,zO,zP,zR,zS]at *);omega))) ?hfit
     case hfit=>((repeat' (first|exact qB|refine qD ?_ ?_|exact qE (by rfl)|exact qF (by rfl)|exact Fit.refl _|exact qA|refine qC ?_ rfl ?_));done)
     try cbv)
  | (refine qP ?_ (c44n) ?hfit
     case hfit=>((refine qD ((qC (Fit.refl _) rfl (qC (Fit.refl _) rfl (qC (Fit.refl _) rfl (qC (Fit.refl _) rfl (qC (Fit.refl _) rfl (qC (Fit.refl _) rfl (qC (qO rfl) rfl qA)))))))) qB);done)
     try cbv)
  | (refine qP ?_ (c54) ?hfit
     case hfit=>((refine qD (Fit.refl _) (qD (qO rfl) qB));done)
     try cbv)
  |fail)
 all_goals first
  |trivial
  |(subst hR;(repeat' (first|exact qA|exact qB|refine qC ?_ rfl ?_|refine qD ?_ ?_|exact qE (by rfl)|exact qF (by rfl)|exact Fit.refl _|exact qG _|(refine qE ?_;(try simp only [qV]at *);simp only [zQ,zA,zB,zC,zD,zE,zF,zG,zH,zI,zJ,zK,zL,zM,zN,zO,zP,zR,zS]at *;omega)));done)
  |skip
theorem utN (d:Dsp)(h:ua9 d=0):ub5 Tryz.prog 41 [(dspS d)] [] (fun r bs=>r=(.tup [.own 0 0,(iv fun _=>0)])∧bs=[.cells [(iS d.tw),(iS d.tm),(.sl 1 (.sym fun _=>zi (d.tv).length) (fun ix=>[(.sl 1 (.sym fun _=>zi ((d.tv).getD ix.den.toNat []).length) (fun jx=>[(iv fun _=>((d.tv).getD ix.den.toNat []).getD jx.den.toNat 0)]))])),(iv fun _=>d.sn),(iv fun _=>d.pn),(.sl 4 (.sym fun _=>zi (d.ls).length) (fun ix=>[(iv fun _=>((d.ls).getD ix.den.toNat l0T).a),(iv fun _=>((d.ls).getD ix.den.toNat l0T).b),(iv fun _=>((d.ls).getD ix.den.toNat l0T).lo),(iv fun _=>((d.ls).getD ix.den.toNat l0T).hi)])),(.sl 6 (.sym fun _=>zi (d.fs).length) (fun ix=>[(iv fun _=>((d.fs).getD ix.den.toNat f0T).p),(iv fun _=>((d.fs).getD ix.den.toNat f0T).s),(iv fun _=>((d.fs).getD ix.den.toNat f0T).wl),(iv fun _=>((d.fs).getD ix.den.toNat f0T).wh),(iv fun _=>((d.fs).getD ix.den.toNat f0T).ml),(iv fun _=>((d.fs).getD ix.den.toNat f0T).mh)])),(.memo 106 59 false 6 (fun ks=>.agg [(iv fun _=>kLo d ks),(iv fun _=>kHi d ks)]))] 92]):=by
 have c16:=ucM d
 have c44:=uel d
 have c44n:=uel (noF d)
 have c92:=uk2 d.fs
 have hmt:=ue7
 have hF:=(uao h).1
 have hC:=(uao h).2
 have f6:=(ua3.1 hF).f6
 have c54:=uck (noF d) [] (uph (ua3.1 hF)) (by simp)
 have hLn:canT (noF d) (noF d).fs []=true:=hC
 rw [hLn]at c54
 have c44o:=utY d
 refine ub5.is rfl rfl fun R B hR hB=>ueO (sc:=sc41) tyok mix Tryz.func41 rfl Tryz.call41 (by kernel_rfl) (by kernel_rfl) ?_
 generalize Tryz.prog=P at c16 c44 c44n c92 hmt c54 c44o⊢
 cbv
 repeat' (first
  |with_reducible refine And.intro ?_ ?_
  |(with_reducible intro hcd;(try simp only [zA,zB,zC,zD,zE,zF,zG,zH,zI,zJ,zK,zL,zM,zN,zO,zP]at hcd);try cbv)
  | (refine qP ?_ (c16) ?hfit
     case hfit=>((repeat' (first|exact qB|refine qD ?_ ?_|exact qE (by rfl)|exact qF (by rfl)|exact Fit.refl _|exact qA|refine qC ?_ rfl ?_));done)
     try cbv)
  | (refine qP ?_ (c92 (by((try simp only [qV]at *);(try simp only [zQ,zA,zB,zC,zD,zE,zF,zG,zH,zI,zJ,zK,zL,zM,zN,zO,zP,zR,zS]at *);omega))) ?hfit
     case hfit=>((repeat' (first|exact qB|refine qD ?_ ?_|exact qE (by rfl)|exact qF (by rfl)|exact Fit.refl _|exact qA|refine qC ?_ rfl ?_));done)
     try cbv)
  | (refine qP ?_ (c44n) ?hfit
     case hfit=>((refine qD ((qC (Fit.refl _) rfl (qC (Fit.refl _) rfl (qC (Fit.refl _) rfl (qC (Fit.refl _) rfl (qC (Fit.refl _) rfl (qC (Fit.refl _) rfl (qC (qO rfl) rfl qA)))))))) qB);done)
     try cbv)
  | (refine qP ?_ (c54) ?hfit
     case hfit=>((refine qD (Fit.refl _) (qD (qO rfl) qB));done)
     try cbv)
  | (refine Or.inr ⟨true,?_⟩
     cbv
     refine qU ?_ (c44o) (by cbv;(repeat' (first|exact qB|refine qD ?_ ?_|exact qE (by rfl)|exact qF (by rfl)|exact Fit.refl _|exact qA|refine qC ?_ rfl ?_))) (by cbv;(repeat' (first|exact qH|refine qI ?_ ?_|exact qK _|refine qJ ?_|exact qA|exact qE (by rfl)|exact qF (by rfl)|exact Fit.refl _|exact qG _|refine qC ?_ rfl ?_)))
     try cbv)
  |fail)
 all_goals first
  |trivial
  |(refine⟨[],(30:Nat),?_⟩;cbv;subst hR;subst hB;refine⟨qD (Fit.refl _) (qD (qE rfl) qB),?_⟩;(repeat' (first|exact qH|refine qI ?_ ?_));(all_goals first|exact qK _|(refine qJ ?_;(repeat' (first|exact qA|exact qB|refine qC ?_ rfl ?_|refine qD ?_ ?_|exact qE (by rfl)|exact qF (by rfl)|exact Fit.refl _|exact qG _|(refine qE ?_;(try simp only [qV]at *);simp only [zQ,zA,zB,zC,zD,zE,zF,zG,zH,zI,zJ,zK,zL,zM,zN,zO,zP,zR,zS]at *;omega)));done)))
  |skip
theorem uiq (d:Dsp)(h:¬ua9 d=0):ua0 Tryz.prog 41 [(dspS d)] [] (fun r _=>r=(.tup [.val (Value.pointer none),(iv fun _=>ua9 d)])):=by
 have c16:=ucM d
 have c44:=uel d
 have c44n:=uel (noF d)
 have c92:=uk2 d.fs
 have hmt:=ue7
 have c54:=fun h:ua4 d=0=>(show ua0 Tryz.prog 42 [(wpS (noF d)),(iS (([]:List Int)))] [] (fun r _=>r=(.tup [(.agg [(.arr 16 (fun ix=>(iv fun _=>(clo (matO (noF d) (noF d).fs [])) ix.den.toNat)))]),(.bool (.sym fun _=>udv d))]))from uck (noF d) [] (uph (ua3.1 h)) (by simp))
 have hf6:=fun h:ua4 d=0=>(ua3.1 h).f6
 refine ua0.is fun R hR=>qW (sc:=sc41) tyok mix Tryz.func41 rfl Tryz.call41 (by kernel_rfl) (by kernel_rfl) ?_
 generalize Tryz.prog=P at c16 c44 c44n c92 hmt c54⊢
 cbv
 repeat' (first
  |with_reducible refine And.intro ?_ ?_
  |(with_reducible intro hcd;(try simp only [zA,zB,zC,zD,zE,zF,zG,zH,zI,zJ,zK,zL,zM,zN,zO,zP]at hcd);try cbv)
  | (refine qP ?_ (c16) ?hfit
     case hfit=>((repeat' (first|exact qB|refine qD ?_ ?_|exact qE (by rfl)|exact qF (by rfl)|exact Fit.refl _|exact qA|refine qC ?_ rfl ?_));done)
     try cbv)
  | (refine qP ?_ (c44) ?hfit
     case hfit=>((repeat' (first|exact qB|refine qD ?_ ?_|exact qE (by rfl)|exact qF (by rfl)|exact Fit.refl _|exact qA|refine qC ?_ rfl ?_));done)
     try cbv)
  | ((have hF9:ua4 d=0:=(by((try simp only [qV]at *);(try simp only [zQ,zA,zB,zC,zD,zE,zF,zG,zH,zI,zJ,zK,zL,zM,zN,zO,zP,zR,zS]at *);omega)))
     (have f6:=hf6 hF9)
     refine qP ?_ (c92 (by((try simp only [qV]at *);(try simp only [zQ,zA,zB,zC,zD,zE,zF,zG,zH,zI,zJ,zK,zL,zM,zN,zO,zP,zR,zS]at *);omega))) ?hfit
     case hfit=>((repeat' (first|exact qB|refine qD ?_ ?_|exact qE (by rfl)|exact qF (by rfl)|exact Fit.refl _|exact qA|refine qC ?_ rfl ?_));done)
     try cbv)
  | (refine qP ?_ (c44n) ?hfit
     case hfit=>((refine qD ((qC (Fit.refl _) rfl (qC (Fit.refl _) rfl (qC (Fit.refl _) rfl (qC (Fit.refl _) rfl (qC (Fit.refl _) rfl (qC (Fit.refl _) rfl (qC (qO rfl) rfl qA)))))))) qB);done)
     try cbv)
  | (refine qP ?_ (c54 (by((try simp only [qV]at *);(try simp only [zQ,zA,zB,zC,zD,zE,zF,zG,zH,zI,zJ,zK,zL,zM,zN,zO,zP,zR,zS]at *);omega))) ?hfit
     case hfit=>((refine qD (Fit.refl _) (qD (qO rfl) qB));done)
     try cbv)
  |fail)
 all_goals first
  |(subst hR;(refine qD (Fit.refl _) (qD (qE ?_) qB);(try simp only [qV]at *);(try simp only [zQ,zA,zB,zC,zD,zE,zF,zG,zH,zI,zJ,zK,zL,zM,zN,zO,zP,zR,zS]at *);first|exact(uj9 (by first|assumption|omega)).symm|exact(ufS (by first|assumption|omega) (by assumption)).symm);done)
  |(exfalso;exact h (udO (by((try simp only [qV]at *);(try simp only [zQ,zA,zB,zC,zD,zE,zF,zG,zH,zI,zJ,zK,zL,zM,zN,zO,zP,zR,zS]at *);first|assumption|omega)) (by assumption)))
  |skip
end Go.Proofs.YtkdggbfknlcdaaaGreat
namespace Go.Proofs.YtkdggbfknlcdaaaGreat
open Go.Eng.Dif
theorem up7 {d:Dsp}:canT d d.fs []=canD (SN d) (LO d) (FO d d.fs):=by
 unfold canT matO canD
 rw [ult]
theorem uty (d:Dsp)(n:Nat):FO d (d.fs.take n)=(FO d d.fs).take n:=List.map_take ..
theorem urP (d:Dsp)(n:Nat):canT (uc8 d (d.fs.take n)) (uc8 d (d.fs.take n)).fs []=canD (SN d) (LO d) ((FO d d.fs).take n):=by
 rw [up7,←uty]
 rfl
theorem uu1 {d:Dsp}(h:DOk d)(n:Nat):DOk (uc8 d (d.fs.take n)):=
 uly h (by have:=h.f6;rw [List.length_take];omega) fun f hf=>FOk.mem h.f (List.mem_of_mem_take hf)
def firO (d:Dsp):Option Nat:=firN (SN d) (LO d) (FO d d.fs) d.fs.length 0
def firE (d:Dsp):Int:=if ua9 d=0 then(match firO d with|some _=>0|none=>7)else ua9 d
def firV (d:Dsp):Int:=if ua9 d=0 then(match firO d with|some r=>(r:Int)|none=>0)else 0
theorem uqf {d:Dsp}(h:¬ua9 d=0):firE d=ua9 d∧firV d=0:=by unfold firE firV;rw [if_neg h,if_neg h];exact⟨rfl,rfl⟩
theorem unS {d:Dsp}(h:ua9 d=0)(h':firO d=none):firE d=7∧firV d=0:=by unfold firE firV;rw [if_pos h,if_pos h,h'];exact⟨rfl,rfl⟩
theorem uiQ {d:Dsp} {r:Nat}(h:ua9 d=0)(h':firO d=some r):firE d=0∧firV d=(r:Int):=by unfold firE firV;rw [if_pos h,if_pos h,h'];exact⟨rfl,rfl⟩
def firR (d:Dsp)(k i:Nat):Option Nat:=firN (SN d) (LO d) (FO d d.fs) k i
def okI (d:Dsp)(i:Nat):Bool:=canD (SN d) (LO d) ((FO d d.fs).take (i+1))
theorem upT {d:Dsp} {k i:Nat}(hk:0<k)(h:okI d i=false):firR d k i=some i:=by
 cases k with
 |zero=>omega
 |succ k=>unfold firR firN;rw [show canD (SN d) (LO d) ((FO d d.fs).take (i+1))=false from h];rfl
theorem uur {d:Dsp} {k i:Nat}(hk:0<k)(h:okI d i=true):firR d k i=firR d (k-1) (i+1):=by
 cases k with
 |zero=>omega
 |succ k=>unfold firR;rw [firN,show canD (SN d) (LO d) ((FO d d.fs).take (i+1))=true from h];rfl
end Go.Proofs.YtkdggbfknlcdaaaGreat
namespace Go.Proofs.YtkdggbfknlcdaaaGreat
open Go Go.Eng Go.Proofs Go.Eng.Dif Go.Eng.Few
set_option maxRecDepth 10000
theorem uqq (fs:List FaT) {n i:Nat}(h:i<n):(fs.take n).getD i f0T=fs.getD i f0T:=by simp [List.getD_eq_getElem?_getD,List.getElem?_take,h]
theorem um0 (fs:List FaT) {i:Nat}(h:i<fs.length):(fs.take (i+1)).length=i+1:=by rw [List.length_take];omega
theorem ujK (fs:List FaT) {n i j:Nat}(hj:j=i)(h:i<n):Fit (.agg [(iv fun _=>(fs.getD j f0T).p),(iv fun _=>(fs.getD j f0T).s),(iv fun _=>(fs.getD j f0T).wl),(iv fun _=>(fs.getD j f0T).wh),(iv fun _=>(fs.getD j f0T).ml),(iv fun _=>(fs.getD j f0T).mh)]) (.agg [(iv fun _=>((fs.take n).getD i f0T).p),(iv fun _=>((fs.take n).getD i f0T).s),(iv fun _=>((fs.take n).getD i f0T).wl),(iv fun _=>((fs.take n).getD i f0T).wh),(iv fun _=>((fs.take n).getD i f0T).ml),(iv fun _=>((fs.take n).getD i f0T).mh)]):=by subst hj;rw [uqq fs h];exact Fit.refl _
theorem ur9 (d:Dsp)(h:ua9 d=0):ua0 Tryz.prog 11 [(dspS d)] [] (fun r _=>r=(.tup [(iv fun _=>firV d),(iv fun _=>firE d)])):=by
 have hf:=h
 have hF:=(uao h).1
 have f6:=(ua3.1 hF).f6
 have c54:=fun i:Nat=>(show ua0 Tryz.prog 42 [(.pp 0 [(.sl 1 (.sym fun _=>zi ((uc8 d (d.fs.take (i+1))).tw).length) (fun ix=>[(iv fun _=>((uc8 d (d.fs.take (i+1))).tw).getD ix.den.toNat 0)])),(.sl 1 (.sym fun _=>zi ((uc8 d (d.fs.take (i+1))).tm).length) (fun ix=>[(iv fun _=>((uc8 d (d.fs.take (i+1))).tm).getD ix.den.toNat 0)])),(.sl 1 (.sym fun _=>zi ((uc8 d (d.fs.take (i+1))).tv).length) (fun ix=>[(.sl 1 (.sym fun _=>zi (((uc8 d (d.fs.take (i+1))).tv).getD ix.den.toNat []).length) (fun jx=>[(iv fun _=>(((uc8 d (d.fs.take (i+1))).tv).getD ix.den.toNat []).getD jx.den.toNat 0)]))])),(iv fun _=>(uc8 d (d.fs.take (i+1))).sn),(iv fun _=>(uc8 d (d.fs.take (i+1))).pn),(.sl 4 (.sym fun _=>zi ((uc8 d (d.fs.take (i+1))).ls).length) (fun ix=>[(iv fun _=>(((uc8 d (d.fs.take (i+1))).ls).getD ix.den.toNat l0T).a),(iv fun _=>(((uc8 d (d.fs.take (i+1))).ls).getD ix.den.toNat l0T).b),(iv fun _=>(((uc8 d (d.fs.take (i+1))).ls).getD ix.den.toNat l0T).lo),(iv fun _=>(((uc8 d (d.fs.take (i+1))).ls).getD ix.den.toNat l0T).hi)])),(.sl 6 (.sym fun _=>zi ((d.fs.take (i+1))).length) (fun ix=>[(iv fun _=>(((d.fs.take (i+1))).getD ix.den.toNat f0T).p),(iv fun _=>(((d.fs.take (i+1))).getD ix.den.toNat f0T).s),(iv fun _=>(((d.fs.take (i+1))).getD ix.den.toNat f0T).wl),(iv fun _=>(((d.fs.take (i+1))).getD ix.den.toNat f0T).wh),(iv fun _=>(((d.fs.take (i+1))).getD ix.den.toNat f0T).ml),(iv fun _=>(((d.fs.take (i+1))).getD ix.den.toNat f0T).mh)])),(.memo 106 59 false 6 (fun ks=>.agg [(iv fun _=>kLo (uc8 d (d.fs.take (i+1))) ks),(iv fun _=>kHi (uc8 d (d.fs.take (i+1))) ks)]))]),(iS (([]:List Int)))] [] (fun r _=>r=(.tup [(.agg [(.arr 16 (fun ix=>(iv fun _=>(clo (matO (uc8 d (d.fs.take (i+1))) (uc8 d (d.fs.take (i+1))).fs [])) ix.den.toNat)))]),(.bool (.sym fun _=>okI d i))]))from(show canT (uc8 d (d.fs.take (i+1))) (uc8 d (d.fs.take (i+1))).fs []=okI d i from urP d (i+1))▸uck (uc8 d (d.fs.take (i+1))) [] (uu1 (ua3.1 hF) (i+1)) (by simp))
 have c59:=utN d h
 refine ua0.is fun R hR=>qW (sc:=sc11) tyok mix Tryz.func11 rfl Tryz.call11 (by kernel_rfl) (by kernel_rfl) ?_
 generalize Tryz.prog=P at c54 c59⊢
 cbv
 repeat' (first
  |with_reducible refine And.intro ?_ ?_
  |(with_reducible intro hcd;(try simp only [zA,zB,zC,zD,zE,zF,zG,zH,zI,zJ,zK,zL,zM,zN,zO,zP]at hcd);try cbv)
  | (refine Or.inr ⟨true,?_⟩
     cbv
     refine qU ?_ (c59) (by cbv;(repeat' (first|exact qB|refine qD ?_ ?_|exact qE (by rfl)|exact qF (by rfl)|exact Fit.refl _|exact qA|refine qC ?_ rfl ?_))) (by cbv;(repeat' (first|exact qH|refine qI ?_ ?_|exact qK _|refine qJ ?_|exact qA|exact qE (by rfl)|exact qF (by rfl)|exact Fit.refl _|exact qG _|refine qC ?_ rfl ?_)))
     try cbv)
  |fail)
 all_goals first
  |trivial
  |skip
 refine⟨none,[],{i:Nat // i≤d.fs.length∧firO d=firR d (d.fs.length-i) i},fun x=>⟨[(1,.own 0 0),(4,.own 4 0),(19,(iv fun _=>zi d.fs.length)),(20,(iv fun _=>zi x.1))],[(0,.cells [(iS d.tw),(iS d.tm),(.sl 1 (.sym fun _=>zi (d.tv).length) (fun ix=>[(.sl 1 (.sym fun _=>zi ((d.tv).getD ix.den.toNat []).length) (fun jx=>[(iv fun _=>((d.tv).getD ix.den.toNat []).getD jx.den.toNat 0)]))])),(iv fun _=>d.sn),(iv fun _=>d.pn),(.sl 4 (.sym fun _=>zi (d.ls).length) (fun ix=>[(iv fun _=>((d.ls).getD ix.den.toNat l0T).a),(iv fun _=>((d.ls).getD ix.den.toNat l0T).b),(iv fun _=>((d.ls).getD ix.den.toNat l0T).lo),(iv fun _=>((d.ls).getD ix.den.toNat l0T).hi)])),(.sl 6 (.sym fun _=>zi (d.fs).length) (fun ix=>[(iv fun _=>((d.fs).getD ix.den.toNat f0T).p),(iv fun _=>((d.fs).getD ix.den.toNat f0T).s),(iv fun _=>((d.fs).getD ix.den.toNat f0T).wl),(iv fun _=>((d.fs).getD ix.den.toNat f0T).wh),(iv fun _=>((d.fs).getD ix.den.toNat f0T).ml),(iv fun _=>((d.fs).getD ix.den.toNat f0T).mh)]))] 39),(4,.cells [(iS d.tw),(iS d.tm),(.sl 1 (.sym fun _=>zi (d.tv).length) (fun ix=>[(.sl 1 (.sym fun _=>zi ((d.tv).getD ix.den.toNat []).length) (fun jx=>[(iv fun _=>((d.tv).getD ix.den.toNat []).getD jx.den.toNat 0)]))])),(iv fun _=>d.sn),(iv fun _=>d.pn),(.sl 4 (.sym fun _=>zi (d.ls).length) (fun ix=>[(iv fun _=>((d.ls).getD ix.den.toNat l0T).a),(iv fun _=>((d.ls).getD ix.den.toNat l0T).b),(iv fun _=>((d.ls).getD ix.den.toNat l0T).lo),(iv fun _=>((d.ls).getD ix.den.toNat l0T).hi)])),.any,(.memo 106 59 false 6 (fun ks=>.agg [(iv fun _=>kLo d ks),(iv fun _=>kHi d ks)]))] 92)],100⟩,fun x=>d.fs.length-x.1,?_,?_⟩
 ·refine⟨⟨0,by omega,rfl⟩,?_⟩
  cbv
  repeat' (first
   |with_reducible refine hold ?_ ?_
   |with_reducible refine And.intro ?_ ?_)
  all_goals first
   |trivial
   |exact qM (qE (by rfl))
   |exact qM (Fit.refl _)
   |exact qL (qK _)
   |(refine qL (qJ ?_);(repeat' (first|exact qA|exact qB|refine qC ?_ rfl ?_|refine qD ?_ ?_|exact qE (by rfl)|exact qF (by rfl)|exact Fit.refl _|exact qG _|(refine qE ?_;(try simp only [qV]at *);simp only [zQ,zA,zB,zC,zD,zE,zF,zG,zH,zI,zJ,zK,zL,zM,zN,zO,zP,zR,zS]at *;omega)));done)
   |skip
 ·rintro ⟨i,hi,h3⟩
  cbv
  repeat' (first
   |with_reducible refine hold ?_ ?_
   |with_reducible refine And.intro ?_ ?_
   |(with_reducible intro hcd;(try simp only [zA,zB,zC,zD,zE,zF,zG,zH,zI,zJ,zK,zL,zM,zN,zO,zP]at hcd);try cbv)
   | ((first|(refine uoD ?_ (c54 i) ⟨⟨fun _=>rfl,trivial⟩,rfl,trivial⟩ ?hfit;case hfit=>(cbv;(refine qD (usz (qC (Fit.refl _) rfl (qC (Fit.refl _) rfl (qC (Fit.refl _) rfl (qC (Fit.refl _) rfl (qC (Fit.refl _) rfl (qC (Fit.refl _) rfl (qC ?_ rfl (qC (Fit.refl _) rfl qA))))))))) (qD (qO rfl) qB);refine ua1 ?_ (fun ix h0 h1=>ujK _ ?_ ?_)<;>((try simp only [qV]at *);(try simp only [zQ,zA,zB,zC,zD,zE,zF,zG,zH,zI,zJ,zK,zL,zM,zN,zO,zP,zR,zS]at *);first|omega|(rw [um0 _ (by omega)];(try simp only [uab]);omega)));done))|(refine⟨none,?_⟩;refine uoD ?_ (c54 i) ⟨⟨fun _=>rfl,trivial⟩,rfl,trivial⟩ ?hfit;case hfit=>(cbv;(refine qD (usz (qC (Fit.refl _) rfl (qC (Fit.refl _) rfl (qC (Fit.refl _) rfl (qC (Fit.refl _) rfl (qC (Fit.refl _) rfl (qC (Fit.refl _) rfl (qC ?_ rfl (qC (Fit.refl _) rfl qA))))))))) (qD (qO rfl) qB);refine ua1 ?_ (fun ix h0 h1=>ujK _ ?_ ?_)<;>((try simp only [qV]at *);(try simp only [zQ,zA,zB,zC,zD,zE,zF,zG,zH,zI,zJ,zK,zL,zM,zN,zO,zP,zR,zS]at *);first|omega|(rw [um0 _ (by omega)];(try simp only [uab]);omega)));done)))
      try cbv)
   |fail)
  all_goals first
   |((try simp only [qV]at *);(try simp only [zQ,zA,zB,zC,zD,zE,zF,zG,zH,zI,zJ,zK,zL,zM,zN,zO,zP,zR,zS]at *);first|(refine qN ?_;omega)|(simp only [Hold];omega))
   |(subst hR;(have h9:=uiQ hf (h3.trans (upT (by((try simp only [qV]at *);(try simp only [zQ,zA,zB,zC,zD,zE,zF,zG,zH,zI,zJ,zK,zL,zM,zN,zO,zP,zR,zS]at *);omega)) hcd)));exact qD (qE h9.2.symm) (qD (qE h9.1.symm) qB))
   |(subst hR;(have hz:d.fs.length-i=0:=by((try simp only [qV]at *);(try simp only [zQ,zA,zB,zC,zD,zE,zF,zG,zH,zI,zJ,zK,zL,zM,zN,zO,zP,zR,zS]at *);omega));rw [hz]at h3;(have h9:=unS hf h3);exact qD (qE h9.2.symm) (qD (qE h9.1.symm) qB))
   |((try simp only [zQ,zA,zB,zC,zD,zE,zF,zG,zH,zI,zJ,zK,zL,zM,zN,zO,zP,zR,zS]at *);refine⟨⟨i+1,by((try simp only [qV]at *);(try simp only [zQ,zA,zB,zC,zD,zE,zF,zG,zH,zI,zJ,zK,zL,zM,zN,zO,zP,zR,zS]at *);omega),by rw [show d.fs.length-(i+1)=d.fs.length-i-1 by omega,←uur (by((try simp only [qV]at *);(try simp only [zQ,zA,zB,zC,zD,zE,zF,zG,zH,zI,zJ,zK,zL,zM,zN,zO,zP,zR,zS]at *);omega)) hcd];exact h3⟩,by simp only [];omega,?_⟩;cbv;(repeat' (first|with_reducible refine hold ?_ ?_|with_reducible refine And.intro ?_ ?_));(all_goals first|trivial|exact qM (qE (by rfl))|exact qM (qF (by rfl))|exact qM (Fit.refl _)|exact qL (qK _)|(refine qM (qE ?_);(try simp only [qV]at *);simp only [zQ,zA,zB,zC,zD,zE,zF,zG,zH,zI,zJ,zK,zL,zM,zN,zO,zP,zR,zS]at *;omega)|(refine qL (qJ ?_);(repeat' (first|exact qA|exact qB|refine qC ?_ rfl ?_|refine qD ?_ ?_|exact qE (by rfl)|exact qF (by rfl)|exact Fit.refl _|exact qG _|(refine qE ?_;(try simp only [qV]at *);simp only [zQ,zA,zB,zC,zD,zE,zF,zG,zH,zI,zJ,zK,zL,zM,zN,zO,zP,zR,zS]at *;omega)));done)|skip))
   |skip
theorem uqI (d:Dsp)(h:¬ua9 d=0):ua0 Tryz.prog 11 [(dspS d)] [] (fun r _=>r=(.tup [(iv fun _=>firV d),(iv fun _=>firE d)])):=by
 have c59:=uiq d h
 refine ua0.is fun R hR=>qW (sc:=sc11) tyok mix Tryz.func11 rfl Tryz.call11 (by kernel_rfl) (by kernel_rfl) ?_
 generalize Tryz.prog=P at c59⊢
 cbv
 repeat' (first
  |with_reducible refine And.intro ?_ ?_
  |(with_reducible intro hcd;(try simp only [zA,zB,zC,zD,zE,zF,zG,zH,zI,zJ,zK,zL,zM,zN,zO,zP]at hcd);try cbv)
  | (refine qP ?_ (c59) ?hfit
     case hfit=>((repeat' (first|exact qB|refine qD ?_ ?_|exact qE (by rfl)|exact qF (by rfl)|exact Fit.refl _|exact qA|refine qC ?_ rfl ?_));done)
     try cbv)
  |fail)
 all_goals first
  |trivial
  |(subst hR;((have h9:=uqf h);exact qD (qE h9.2.symm) (qD (qE h9.1.symm) qB));done)
  |skip
theorem utU (d:Dsp):ua0 Tryz.prog 11 [(dspS d)] [] (fun r _=>r=(.tup [(iv fun _=>firV d),(iv fun _=>firE d)])):=by
 by_cases h:ua9 d=0
 ·exact ur9 d h
 ·exact uqI d h
theorem uo0 (d:Dsp):ua0 Tryz.prog 84 [(wpS d)] [] (fun r _=>r=(iv fun _=>zi d.fs.length)):=by
 refine ua0.is fun R hR=>qW (sc:=sc84) tyok mix Tryz.func84 rfl Tryz.call84 (by kernel_rfl) (by kernel_rfl) ?_
 generalize Tryz.prog=P
 cbv
 repeat' (first
  |fail)
 all_goals first
  |(subst hR;(repeat' (first|exact qA|exact qB|refine qC ?_ rfl ?_|refine qD ?_ ?_|exact qE (by rfl)|exact qF (by rfl)|exact Fit.refl _|exact qG _|(refine qE ?_;(try simp only [qV]at *);simp only [zQ,zA,zB,zC,zD,zE,zF,zG,zH,zI,zJ,zK,zL,zM,zN,zO,zP,zR,zS]at *;omega)));done)
  |skip
theorem upO (d:Dsp)(o:List Int):ua0 Tryz.prog 85 [(wpS d),(iS o)] [] (fun r _=>r=(iS o)):=by
 refine ua0.is fun R hR=>qW (sc:=sc85) tyok mix Tryz.func85 rfl Tryz.call85 (by kernel_rfl) (by kernel_rfl) ?_
 generalize Tryz.prog=P
 cbv
 repeat' (first
  |fail)
 all_goals first
  |(subst hR;(repeat' (first|exact qA|exact qB|refine qC ?_ rfl ?_|refine qD ?_ ?_|exact qE (by rfl)|exact qF (by rfl)|exact Fit.refl _|exact qG _|(refine qE ?_;(try simp only [qV]at *);simp only [zQ,zA,zB,zC,zD,zE,zF,zG,zH,zI,zJ,zK,zL,zM,zN,zO,zP,zR,zS]at *;omega)));done)
  |skip
theorem uji (d:Dsp):ua0 Tryz.prog 86 [(wpS d)] [] (fun r _=>r=(iv fun _=>d.pn)):=by
 refine ua0.is fun R hR=>qW (sc:=sc86) tyok mix Tryz.func86 rfl Tryz.call86 (by kernel_rfl) (by kernel_rfl) ?_
 generalize Tryz.prog=P
 cbv
 repeat' (first
  |fail)
 all_goals first
  |(subst hR;(repeat' (first|exact qA|exact qB|refine qC ?_ rfl ?_|refine qD ?_ ?_|exact qE (by rfl)|exact qF (by rfl)|exact Fit.refl _|exact qG _|(refine qE ?_;(try simp only [qV]at *);simp only [zQ,zA,zB,zC,zD,zE,zF,zG,zH,zI,zJ,zK,zL,zM,zN,zO,zP,zR,zS]at *;omega)));done)
  |skip
theorem uqk :ua0 Tryz.prog 44 [] [] (fun r _=>r=(.agg [.clo 84 [] [],.clo 85 [] []])):=by
 refine ua0.is fun R hR=>qW (sc:=sc44) tyok mix Tryz.func44 rfl Tryz.call44 (by kernel_rfl) (by kernel_rfl) ?_
 generalize Tryz.prog=P
 cbv
 repeat' (first
  |fail)
 all_goals first
  |(subst hR;(repeat' (first|exact qA|exact qB|refine qC ?_ rfl ?_|refine qD ?_ ?_|exact qE (by rfl)|exact qF (by rfl)|exact Fit.refl _|exact qG _|(refine qE ?_;(try simp only [qV]at *);simp only [zQ,zA,zB,zC,zD,zE,zF,zG,zH,zI,zJ,zK,zL,zM,zN,zO,zP,zR,zS]at *;omega)));done)
  |skip
theorem ugL :ua0 Tryz.prog 50 [] [] (fun r _=>r=(.agg [.clo 86 [] [],.clo 87 [] []])):=by
 refine ua0.is fun R hR=>qW (sc:=sc50) tyok mix Tryz.func50 rfl Tryz.call50 (by kernel_rfl) (by kernel_rfl) ?_
 generalize Tryz.prog=P
 cbv
 repeat' (first
  |fail)
 all_goals first
  |(subst hR;(repeat' (first|exact qA|exact qB|refine qC ?_ rfl ?_|refine qD ?_ ?_|exact qE (by rfl)|exact qF (by rfl)|exact Fit.refl _|exact qG _|(refine qE ?_;(try simp only [qV]at *);simp only [zQ,zA,zB,zC,zD,zE,zF,zG,zH,zI,zJ,zK,zL,zM,zN,zO,zP,zR,zS]at *;omega)));done)
  |skip
def thN (d:Dsp)(o:List Int)(n:Nat):List Int:=selL (fun i=>inL o (d.fs.getD i f0T).p) n
theorem uvu {d:Dsp} {o:List Int} {i:Nat}(h:inL o (d.fs.getD i f0T).p=true):thN d o (i+1)=thN d o i++[(i:Int)]:=by
 unfold thN
 simp only [selL,h,if_true]
theorem uuJ {d:Dsp} {o:List Int} {i:Nat}(h:inL o (d.fs.getD i f0T).p=false):thN d o (i+1)=thN d o i:=by
 unfold thN
 simp only [selL,h,Bool.false_eq_true,if_false]
theorem ukn (d:Dsp)(o:List Int):∀n,(thN d o n).length≤n:=by
 intro n
 induction n with
 |zero=>exact Nat.le_refl _
 | succ n ih=>
  cases h:inL o (d.fs.getD n f0T).p with
  |true=>rw [uvu h,List.length_append];simp only [List.length_cons,List.length_nil];omega
  |false=>rw [uuJ h];omega
theorem ulL (d:Dsp)(o:List Int)(hf:d.fs.length≤1000)(ho:o.length≤1000):ua0 Tryz.prog 87 [(wpS d),(iS o)] [] (fun r _=>r=(iS ((thN d o d.fs.length)))):=by
 have c63:=fun (i:Nat)=>ufB o (d.fs.getD i f0T).p ho
 refine ua0.is fun R hR=>qW (sc:=sc87) tyok mix Tryz.func87 rfl Tryz.call87 (by kernel_rfl) (by kernel_rfl) ?_
 generalize Tryz.prog=P at c63⊢
 cbv
 repeat' (first
  |fail)
 all_goals first
  |skip
 refine⟨none,[⟨.tmp 4,3,1⟩],{i:Nat // i≤d.fs.length},fun x=>⟨[(1,(iS o)),(4,.row 8),(11,(.sl 6 (.sym fun _=>zi (d.fs).length) (fun ix=>[(iv fun _=>((d.fs).getD ix.den.toNat f0T).p),(iv fun _=>((d.fs).getD ix.den.toNat f0T).s),(iv fun _=>((d.fs).getD ix.den.toNat f0T).wl),(iv fun _=>((d.fs).getD ix.den.toNat f0T).wh),(iv fun _=>((d.fs).getD ix.den.toNat f0T).ml),(iv fun _=>((d.fs).getD ix.den.toNat f0T).mh)]))),(12,(iv fun _=>zi d.fs.length)),(13,(iv fun _=>zi x.1))],[(8,.row 3 1 (.sym fun _=>zi ((thN d o (x.1))).length) (fun ix=>[(iv fun _=>((thN d o (x.1))).getD ix.den.toNat 0)]))],90⟩,fun x=>d.fs.length-x.1,?_,?_⟩
 ·refine⟨⟨0,by omega⟩,?_⟩
  cbv
  repeat' (first
   |with_reducible refine hold ?_ ?_
   |with_reducible refine And.intro ?_ ?_)
  all_goals first
   |trivial
   |exact qM (qE (by rfl))
   |exact qM (Fit.refl _)
   |(refine qL (ua8 ?_ ?_);(first|rfl|((try simp only [qV]at *);(try simp only [zQ,zA,zB,zC,zD,zE,zF,zG,zH,zI,zJ,zK,zL,zM,zN,zO,zP,zR,zS]at *);omega));intro ix h0 h1;exfalso;(try simp only [qV]at *);(try simp only [zQ,zA,zB,zC,zD,zE,zF,zG,zH,zI,zJ,zK,zL,zM,zN,zO,zP,zR,zS]at *);omega)
   |skip
 ·rintro ⟨i,hi⟩
  cbv
  have hlen:=ukn d o i
  have hY:inL o (d.fs.getD i f0T).p=true→thN d o (i+1)=thN d o i++[zi i]:=uvu
  have hZ:inL o (d.fs.getD i f0T).p=false→thN d o (i+1)=thN d o i:=uuJ
  obtain⟨M,hM⟩:∃M,M=thN d o i:=⟨_,rfl⟩
  rw [←hM]at hlen hY hZ⊢
  cbv
  repeat' (first
   |with_reducible refine hold ?_ ?_
   |with_reducible refine And.intro ?_ ?_
   |(with_reducible intro hcd;(try simp only [zA,zB,zC,zD,zE,zF,zG,zH,zI,zJ,zK,zL,zM,zN,zO,zP]at hcd);try cbv)
   | (refine qP ?_ (c63 i) ?hfit
      case hfit=>((repeat' (first|exact qB|refine qD ?_ ?_|exact qE (by rfl)|exact qF (by rfl)|exact Fit.refl _|exact qA|refine qC ?_ rfl ?_));done)
      try cbv)
   | (obtain⟨L2,eL2⟩:∃y:List Int,y=M++[zi i]:=⟨_,rfl⟩
      refine⟨udn L2,?_⟩
      cbv
      refine hold (uai (L:=M) eL2 (by(first|rfl|((try simp only [qV]at *);(try simp only [zQ,zA,zB,zC,zD,zE,zF,zG,zH,zI,zJ,zK,zL,zM,zN,zO,zP,zR,zS]at *);done)|((try simp only [qV]at *);(try simp only [zQ,zA,zB,zC,zD,zE,zF,zG,zH,zI,zJ,zK,zL,zM,zN,zO,zP,zR,zS]at *);omega))) (by rfl) (fun ix=>Fit.refl _) (fun ix h=>qC (qE (by rfl)) rfl qA) (by(try simp only [qV]at *);(try simp only [zQ,zA,zB,zC,zD,zE,zF,zG,zH,zI,zJ,zK,zL,zM,zN,zO,zP,zR,zS]at *);omega)) (Or.inl ?_)
      try cbv)
   |fail)
  all_goals first
   |((try simp only [qV]at *);(try simp only [zQ,zA,zB,zC,zD,zE,zF,zG,zH,zI,zJ,zK,zL,zM,zN,zO,zP,zR,zS]at *);first|(refine qN ?_;omega)|(simp only [Hold];omega))
   |((have hie:i=d.fs.length:=(by((try simp only [qV]at *);(try simp only [zQ,zA,zB,zC,zD,zE,zF,zG,zH,zI,zJ,zK,zL,zM,zN,zO,zP,zR,zS]at *);omega)));subst hR;rw [←hie,←hM];exact Fit.refl _)
   |((try simp only [zQ,zA,zB,zC,zD,zE,zF,zG,zH,zI,zJ,zK,zL,zM,zN,zO,zP,zR,zS]at *);(have hx:thN d o (i+1)=L2:=(hY hcd).trans eL2.symm);refine⟨⟨i+1,by omega⟩,by simp only [];omega,?_⟩;cbv;(repeat' (first|with_reducible refine hold ?_ ?_|with_reducible refine And.intro ?_ ?_));(all_goals first|trivial|exact qM (qE (by rfl))|exact qM (qF (by rfl))|exact qM (Fit.refl _)|exact qL (qK _)|(refine qM (qE ?_);(try simp only [qV]at *);simp only [zQ,zA,zB,zC,zD,zE,zF,zG,zH,zI,zJ,zK,zL,zM,zN,zO,zP,zR,zS]at *;omega)|(simp only [hx];first|exact qL (qK _)|(refine qL (ua8 ?_ ?_)<;>first|rfl|(rw [eL2,List.length_append];rfl)|((try simp only [qV]at *);(try simp only [zQ,zA,zB,zC,zD,zE,zF,zG,zH,zI,zJ,zK,zL,zM,zN,zO,zP,zR,zS]at *);(try simp only [eL2,List.length_append,List.length_cons,List.length_nil]at *);omega)|(intro ix h0 h1;exact Fit.refl _)))|skip))
   |((try simp only [zQ,zA,zB,zC,zD,zE,zF,zG,zH,zI,zJ,zK,zL,zM,zN,zO,zP,zR,zS]at *);(have hx:thN d o (i+1)=M:=hZ hcd);refine⟨⟨i+1,by omega⟩,by simp only [];omega,?_⟩;cbv;(repeat' (first|with_reducible refine hold ?_ ?_|with_reducible refine And.intro ?_ ?_));(all_goals first|trivial|exact qM (qE (by rfl))|exact qM (qF (by rfl))|exact qM (Fit.refl _)|exact qL (qK _)|(refine qM (qE ?_);(try simp only [qV]at *);simp only [zQ,zA,zB,zC,zD,zE,zF,zG,zH,zI,zJ,zK,zL,zM,zN,zO,zP,zR,zS]at *;omega)|(simp only [hx];first|exact qL (qK _)|(refine qL (ua8 ?_ ?_)<;>first|rfl|(rw [eL2,List.length_append];rfl)|((try simp only [qV]at *);(try simp only [zQ,zA,zB,zC,zD,zE,zF,zG,zH,zI,zJ,zK,zL,zM,zN,zO,zP,zR,zS]at *);(try simp only [eL2,List.length_append,List.length_cons,List.length_nil]at *);omega)|(intro ix h0 h1;exact Fit.refl _)))|skip))
   |skip
end Go.Proofs.YtkdggbfknlcdaaaGreat
namespace Go.Proofs.YtkdggbfknlcdaaaGreat
open Go Go.Eng Go.Eng.Dif Go.Eng.Few
def lstE (F:List (List Int)):IX→List SV:=fun ix=>[.sl 1 (.sym fun _=>zi (F.getD ix.den.toNat []).length) (fun jx=>[(iv fun _=>(F.getD ix.den.toNat []).getD jx.den.toNat 0)])]
def intS (o:List Int):SV:=.sl 1 (.sym fun _=>zi o.length) (fun jx=>[(iv fun _=>o.getD jx.den.toNat 0)])
theorem ukV {F:List (List Int)} {ix:IX} {o:List Int}(h:F.getD ix.den.toNat []=o):lstE F ix=[intS o]:=by
 subst h
 rfl
theorem ucg {n m b:Int} {F F2:List (List Int)} {o:List Int} {e new:IX→List SV}(h2:F2=F++[o])(hn:n=(F.length:Int))(hm:m=1)(he:∀ix,Fit (.agg (e ix)) (.agg (lstE F ix)))(hx:∀ix:IX,Fit (.agg (new ix)) (.agg [intS o]))(hb:(n+1)*b≤140737488355328):
 Hold (udy n e m new (lstE F2)∧0≤n∧0≤m∧(n+m)*b≤140737488355328):=by
 subst hm
 subst h2
 refine ubt (fun ix jx h0 h1 h2=>(he ix).trans ?_) (fun ix jx h0 h1 h2=>(hx ix).trans ?_) ⟨by omega,by omega,hb⟩
 ·rw [ukV (F:=F) rfl,ukV (F:=F++[o]) (o:=F.getD ix.den.toNat []) (by
   rw [h2]
   simp only [List.getD_eq_getElem?_getD]
   rw [List.getElem?_append_left (by omega)])]
  exact Fit.refl _
 ·rw [ukV (F:=F++[o]) (o:=o) (by
   rw [show jx.den.toNat=F.length by omega]
   simp [List.getD_eq_getElem?_getD])]
  exact Fit.refl _
def colN (n:Nat)(ok:List Int→Bool)(m:Nat)(o:List Int)(i:Nat):Nat→List (List Int)
 |0=>[]
 |k+1=>colN n ok m o i k++allC n ok m (o++[((i+k:Nat):Int)]) (i+k+1)
theorem uit {n:Nat} {ok:List Int→Bool} {m:Nat} {o:List Int} {i:Nat}:allC n ok (m+1) o i=colN n ok m o i (n-m-i):=by
 have h:∀k,((List.range k).flatMap fun j=>allC n ok m (o++[((i+j:Nat):Int)]) (i+j+1))=colN n ok m o i k:=by
  intro k
  induction k with
  |zero=>rfl
  |succ k ih=>rw [List.range_succ,List.flatMap_append,ih];simp [colN]
 simp only [allC]
 exact h _
theorem usB {n:Nat} {ok:List Int→Bool} {m:Nat} {o:List Int} {i:Nat}:∀{k k':Nat},k≤k'→(colN n ok m o i k).length≤(colN n ok m o i k').length:=by
 intro k k'
 induction k' with
 |zero=>intro h;rw [show k=0 by omega];exact Nat.le_refl _
 | succ k' ih=>
  intro h
  rcases Nat.lt_or_ge k' k with q|q
  ·rw [show k=k'+1 by omega];exact Nat.le_refl _
  ·have:=ih q
   simp only [colN,List.length_append];omega
theorem ulj {n:Nat} {ok:List Int→Bool}:∀{m:Nat} {o:List Int} {i:Nat},(allC n ok m o i).length≤n^m:=by
 intro m
 induction m with
 | zero=>
  intro o i
  simp only [allC]
  split<;>simp
 | succ m ih=>
  intro o i
  rw [uit]
  have h:∀k,(colN n ok m o i k).length≤k*n^m:=by
   intro k
   induction k with
   |zero=>simp [colN]
   | succ k ik=>
    have:=ih (o:=o++[((i+k:Nat):Int)]) (i:=i+k+1)
    simp only [colN,List.length_append,Nat.add_mul,Nat.one_mul];omega
  refine Nat.le_trans (h _) ?_
  rw [Nat.pow_succ,Nat.mul_comm]
  exact Nat.mul_le_mul_left _ (by omega)
theorem ulF {F G:List (List Int)} {n:Nat} {ok:List Int→Bool} {m:Nat} {o L:List Int} {i k:Nat}(hL:L=o++[((i+k:Nat):Int)])(hG:G=F++colN n ok m o i k):F++colN n ok m o i (k+1)=G++allC n ok m L (i+k+1):=by
 subst hL
 subst hG
 rw [colN,List.append_assoc]
def okFa (d:Dsp)(o:List Int):Bool:=canT d d.fs o
def okPa (d:Dsp)(o:List Int):Bool:=canT d d.fs (thN d o d.fs.length)
end Go.Proofs.YtkdggbfknlcdaaaGreat
namespace Go.Proofs.YtkdggbfknlcdaaaGreat
open Go Go.Eng Go.Proofs Go.Eng.Dif Go.Eng.Few
set_option maxRecDepth 10000
theorem uvM (d:Dsp)(F:List (List Int))(o:List Int)(i:Int)(hd:DOk d)(ho:o.length≤100)(hF:F.length≤1000000)(hok:(okFa d) o=true):ua0 Tryz.prog 88 [(iS o),(iv fun _=>i),(iv fun _=>0),.own 0 0,.own 1 0,.own 2 0,.own 3 0] [.cells [(wpS d)] 87,.cells [.clo 84 [] [],.clo 85 [] []] 110,.cells [.row 4] 23,.cells [.clo 88 [] [.own 0 0,.own 1 0,.own 2 0,.own 3 0]] 144,.row 22 1 (.sym fun _=>zi (F).length) (fun ix=>[.sl 1 (.sym fun _=>zi ((F).getD ix.den.toNat []).length) (fun jx=>[(iv fun _=>((F).getD ix.den.toNat []).getD jx.den.toNat 0)])])] (fun r bs=>r = .tup []∧bs=[.cells [(wpS d)] 87,.cells [.clo 84 [] [],.clo 85 [] []] 110,.cells [.row 4] 23,.cells [.clo 88 [] [.own 0 0,.own 1 0,.own 2 0,.own 3 0]] 144,.row 22 1 (.sym fun _=>zi ((F++[o])).length) (fun ix=>[.sl 1 (.sym fun _=>zi (((F++[o])).getD ix.den.toNat []).length) (fun jx=>[(iv fun _=>(((F++[o])).getD ix.den.toNat []).getD jx.den.toNat 0)])])]):=by
 have c89:=upO d o
 have hl:o.length≤1000:=by omega
 have c54:=uck d o hd hl
 rw [show canT d d.fs o=true from hok]at c54
 refine ua0.isB rfl fun R B hR hB=>qW (sc:=sc88) tyok mix Tryz.func88 rfl Tryz.call88 (by kernel_rfl) (by kernel_rfl) ?_
 generalize Tryz.prog=P at c89 c54⊢
 cbv
 repeat' (first
  |with_reducible refine And.intro ?_ ?_
  |(with_reducible intro hcd;(try simp only [zA,zB,zC,zD,zE,zF,zG,zH,zI,zJ,zK,zL,zM,zN,zO,zP]at hcd);try cbv)
  | (refine qP ?_ (c89) ?hfit
     case hfit=>((repeat' (first|exact qB|refine qD ?_ ?_|exact qE (by rfl)|exact qF (by rfl)|exact Fit.refl _|exact qA|refine qC ?_ rfl ?_));done)
     try cbv)
  | (refine qP ?_ (c54) ?hfit
     case hfit=>((repeat' (first|exact qB|refine qD ?_ ?_|exact qE (by rfl)|exact qF (by rfl)|exact Fit.refl _|exact qA|refine qC ?_ rfl ?_));done)
     try cbv)
  | (obtain⟨F2,eF2⟩:∃y:List (List Int),y=F++[o]:=⟨_,rfl⟩
     refine⟨lstE F2,?_⟩
     cbv
     refine hold (ucg (F:=F) (o:=o) eF2 (by first|rfl|((try simp only [qV]at *);(try simp only [zQ,zA,zB,zC,zD,zE,zF,zG,zH,zI,zJ,zK,zL,zM,zN,zO,zP,zR,zS]at *);omega)) rfl (fun ix=>Fit.refl _) (fun ix=>Fit.refl _) (by(try simp only [qV]at *);(try simp only [zQ,zA,zB,zC,zD,zE,zF,zG,zH,zI,zJ,zK,zL,zM,zN,zO,zP,zR,zS]at *);omega)) (Or.inl ?_)
     try cbv)
  |fail)
 all_goals first
  |trivial
  |(subst hR;exact Fit.refl _;done)
  |(rw [←eF2]at hB;subst hB;refine qI (qK _) (qI (qK _) (qI (qK _) (qI (qK _) (qI (ua8 ?_ (fun ix h0 h1=>Fit.refl _)) qH))));(try simp only [qV]at *);(try simp only [zQ,zA,zB,zC,zD,zE,zF,zG,zH,zI,zJ,zK,zL,zM,zN,zO,zP,zR,zS]at *);simp only [eF2,List.length_append,List.length_cons,List.length_nil];omega)
  |skip
theorem uuW (d:Dsp)(F:List (List Int))(o:List Int)(i:Int)(hd:DOk d)(ho:o.length≤100)(hF:F.length≤1000000)(hok:(okFa d) o=false):ua0 Tryz.prog 88 [(iS o),(iv fun _=>i),(iv fun _=>0),.own 0 0,.own 1 0,.own 2 0,.own 3 0] [.cells [(wpS d)] 87,.cells [.clo 84 [] [],.clo 85 [] []] 110,.cells [.row 4] 23,.cells [.clo 88 [] [.own 0 0,.own 1 0,.own 2 0,.own 3 0]] 144,.row 22 1 (.sym fun _=>zi (F).length) (fun ix=>[.sl 1 (.sym fun _=>zi ((F).getD ix.den.toNat []).length) (fun jx=>[(iv fun _=>((F).getD ix.den.toNat []).getD jx.den.toNat 0)])])] (fun r bs=>r = .tup []∧bs=[.cells [(wpS d)] 87,.cells [.clo 84 [] [],.clo 85 [] []] 110,.cells [.row 4] 23,.cells [.clo 88 [] [.own 0 0,.own 1 0,.own 2 0,.own 3 0]] 144,.row 22 1 (.sym fun _=>zi (F).length) (fun ix=>[.sl 1 (.sym fun _=>zi ((F).getD ix.den.toNat []).length) (fun jx=>[(iv fun _=>((F).getD ix.den.toNat []).getD jx.den.toNat 0)])])]):=by
 have c89:=upO d o
 have hl:o.length≤1000:=by omega
 have c54:=uck d o hd hl
 rw [show canT d d.fs o=false from hok]at c54
 refine ua0.isB rfl fun R B hR hB=>qW (sc:=sc88) tyok mix Tryz.func88 rfl Tryz.call88 (by kernel_rfl) (by kernel_rfl) ?_
 generalize Tryz.prog=P at c89 c54⊢
 cbv
 repeat' (first
  |with_reducible refine And.intro ?_ ?_
  |(with_reducible intro hcd;(try simp only [zA,zB,zC,zD,zE,zF,zG,zH,zI,zJ,zK,zL,zM,zN,zO,zP]at hcd);try cbv)
  | (refine qP ?_ (c89) ?hfit
     case hfit=>((repeat' (first|exact qB|refine qD ?_ ?_|exact qE (by rfl)|exact qF (by rfl)|exact Fit.refl _|exact qA|refine qC ?_ rfl ?_));done)
     try cbv)
  | (refine qP ?_ (c54) ?hfit
     case hfit=>((repeat' (first|exact qB|refine qD ?_ ?_|exact qE (by rfl)|exact qF (by rfl)|exact Fit.refl _|exact qA|refine qC ?_ rfl ?_));done)
     try cbv)
  | (obtain⟨F2,eF2⟩:∃y:List (List Int),y=F++[o]:=⟨_,rfl⟩
     refine⟨lstE F2,?_⟩
     cbv
     refine hold (ucg (F:=F) (o:=o) eF2 (by first|rfl|((try simp only [qV]at *);(try simp only [zQ,zA,zB,zC,zD,zE,zF,zG,zH,zI,zJ,zK,zL,zM,zN,zO,zP,zR,zS]at *);omega)) rfl (fun ix=>Fit.refl _) (fun ix=>Fit.refl _) (by(try simp only [qV]at *);(try simp only [zQ,zA,zB,zC,zD,zE,zF,zG,zH,zI,zJ,zK,zL,zM,zN,zO,zP,zR,zS]at *);omega)) (Or.inl ?_)
     try cbv)
  |fail)
 all_goals first
  |trivial
  |(subst hR;exact Fit.refl _;done)
  |(subst hB;(repeat' (first|exact qH|refine qI ?_ ?_|exact qK _|refine qJ ?_|exact qA|exact qE (by rfl)|exact qF (by rfl)|exact Fit.refl _|exact qG _|refine qC ?_ rfl ?_));done)
  |skip
theorem uw8 (d:Dsp)(F:List (List Int))(o:List Int)(i:Int)(hd:DOk d)(ho:o.length≤100)(hF:F.length≤1000000)(hok:(okPa d) o=true):ua0 Tryz.prog 88 [(iS o),(iv fun _=>i),(iv fun _=>0),.own 0 0,.own 1 0,.own 2 0,.own 3 0] [.cells [(wpS d)] 87,.cells [.clo 86 [] [],.clo 87 [] []] 110,.cells [.row 4] 23,.cells [.clo 88 [] [.own 0 0,.own 1 0,.own 2 0,.own 3 0]] 144,.row 22 1 (.sym fun _=>zi (F).length) (fun ix=>[.sl 1 (.sym fun _=>zi ((F).getD ix.den.toNat []).length) (fun jx=>[(iv fun _=>((F).getD ix.den.toNat []).getD jx.den.toNat 0)])])] (fun r bs=>r = .tup []∧bs=[.cells [(wpS d)] 87,.cells [.clo 86 [] [],.clo 87 [] []] 110,.cells [.row 4] 23,.cells [.clo 88 [] [.own 0 0,.own 1 0,.own 2 0,.own 3 0]] 144,.row 22 1 (.sym fun _=>zi ((F++[o])).length) (fun ix=>[.sl 1 (.sym fun _=>zi (((F++[o])).getD ix.den.toNat []).length) (fun jx=>[(iv fun _=>(((F++[o])).getD ix.den.toNat []).getD jx.den.toNat 0)])])]):=by
 have c91:=ulL d o (by have:=hd.f6;omega) (by omega)
 have hl:(thN d o d.fs.length).length≤1000:=by have h1:=ukn d o d.fs.length;have h2:=hd.f6;omega
 have c54:=uck d (thN d o d.fs.length) hd hl
 rw [show canT d d.fs (thN d o d.fs.length)=true from hok]at c54
 refine ua0.isB rfl fun R B hR hB=>qW (sc:=sc88) tyok mix Tryz.func88 rfl Tryz.call88 (by kernel_rfl) (by kernel_rfl) ?_
 generalize Tryz.prog=P at c91 c54⊢
 cbv
 repeat' (first
  |with_reducible refine And.intro ?_ ?_
  |(with_reducible intro hcd;(try simp only [zA,zB,zC,zD,zE,zF,zG,zH,zI,zJ,zK,zL,zM,zN,zO,zP]at hcd);try cbv)
  | (refine qP ?_ (c91) ?hfit
     case hfit=>((repeat' (first|exact qB|refine qD ?_ ?_|exact qE (by rfl)|exact qF (by rfl)|exact Fit.refl _|exact qA|refine qC ?_ rfl ?_));done)
     try cbv)
  | (refine qP ?_ (c54) ?hfit
     case hfit=>((repeat' (first|exact qB|refine qD ?_ ?_|exact qE (by rfl)|exact qF (by rfl)|exact Fit.refl _|exact qA|refine qC ?_ rfl ?_));done)
     try cbv)
  | (obtain⟨F2,eF2⟩:∃y:List (List Int),y=F++[o]:=⟨_,rfl⟩
     refine⟨lstE F2,?_⟩
     cbv
     refine hold (ucg (F:=F) (o:=o) eF2 (by first|rfl|((try simp only [qV]at *);(try simp only [zQ,zA,zB,zC,zD,zE,zF,zG,zH,zI,zJ,zK,zL,zM,zN,zO,zP,zR,zS]at *);omega)) rfl (fun ix=>Fit.refl _) (fun ix=>Fit.refl _) (by(try simp only [qV]at *);(try simp only [zQ,zA,zB,zC,zD,zE,zF,zG,zH,zI,zJ,zK,zL,zM,zN,zO,zP,zR,zS]at *);omega)) (Or.inl ?_)
     try cbv)
  |fail)
 all_goals first
  |trivial
  |(subst hR;exact Fit.refl _;done)
  |(rw [←eF2]at hB;subst hB;refine qI (qK _) (qI (qK _) (qI (qK _) (qI (qK _) (qI (ua8 ?_ (fun ix h0 h1=>Fit.refl _)) qH))));(try simp only [qV]at *);(try simp only [zQ,zA,zB,zC,zD,zE,zF,zG,zH,zI,zJ,zK,zL,zM,zN,zO,zP,zR,zS]at *);simp only [eF2,List.length_append,List.length_cons,List.length_nil];omega)
  |skip
theorem uw7 (d:Dsp)(F:List (List Int))(o:List Int)(i:Int)(hd:DOk d)(ho:o.length≤100)(hF:F.length≤1000000)(hok:(okPa d) o=false):ua0 Tryz.prog 88 [(iS o),(iv fun _=>i),(iv fun _=>0),.own 0 0,.own 1 0,.own 2 0,.own 3 0] [.cells [(wpS d)] 87,.cells [.clo 86 [] [],.clo 87 [] []] 110,.cells [.row 4] 23,.cells [.clo 88 [] [.own 0 0,.own 1 0,.own 2 0,.own 3 0]] 144,.row 22 1 (.sym fun _=>zi (F).length) (fun ix=>[.sl 1 (.sym fun _=>zi ((F).getD ix.den.toNat []).length) (fun jx=>[(iv fun _=>((F).getD ix.den.toNat []).getD jx.den.toNat 0)])])] (fun r bs=>r = .tup []∧bs=[.cells [(wpS d)] 87,.cells [.clo 86 [] [],.clo 87 [] []] 110,.cells [.row 4] 23,.cells [.clo 88 [] [.own 0 0,.own 1 0,.own 2 0,.own 3 0]] 144,.row 22 1 (.sym fun _=>zi (F).length) (fun ix=>[.sl 1 (.sym fun _=>zi ((F).getD ix.den.toNat []).length) (fun jx=>[(iv fun _=>((F).getD ix.den.toNat []).getD jx.den.toNat 0)])])]):=by
 have c91:=ulL d o (by have:=hd.f6;omega) (by omega)
 have hl:(thN d o d.fs.length).length≤1000:=by have h1:=ukn d o d.fs.length;have h2:=hd.f6;omega
 have c54:=uck d (thN d o d.fs.length) hd hl
 rw [show canT d d.fs (thN d o d.fs.length)=false from hok]at c54
 refine ua0.isB rfl fun R B hR hB=>qW (sc:=sc88) tyok mix Tryz.func88 rfl Tryz.call88 (by kernel_rfl) (by kernel_rfl) ?_
 generalize Tryz.prog=P at c91 c54⊢
 cbv
 repeat' (first
  |with_reducible refine And.intro ?_ ?_
  |(with_reducible intro hcd;(try simp only [zA,zB,zC,zD,zE,zF,zG,zH,zI,zJ,zK,zL,zM,zN,zO,zP]at hcd);try cbv)
  | (refine qP ?_ (c91) ?hfit
     case hfit=>((repeat' (first|exact qB|refine qD ?_ ?_|exact qE (by rfl)|exact qF (by rfl)|exact Fit.refl _|exact qA|refine qC ?_ rfl ?_));done)
     try cbv)
  | (refine qP ?_ (c54) ?hfit
     case hfit=>((repeat' (first|exact qB|refine qD ?_ ?_|exact qE (by rfl)|exact qF (by rfl)|exact Fit.refl _|exact qA|refine qC ?_ rfl ?_));done)
     try cbv)
  | (obtain⟨F2,eF2⟩:∃y:List (List Int),y=F++[o]:=⟨_,rfl⟩
     refine⟨lstE F2,?_⟩
     cbv
     refine hold (ucg (F:=F) (o:=o) eF2 (by first|rfl|((try simp only [qV]at *);(try simp only [zQ,zA,zB,zC,zD,zE,zF,zG,zH,zI,zJ,zK,zL,zM,zN,zO,zP,zR,zS]at *);omega)) rfl (fun ix=>Fit.refl _) (fun ix=>Fit.refl _) (by(try simp only [qV]at *);(try simp only [zQ,zA,zB,zC,zD,zE,zF,zG,zH,zI,zJ,zK,zL,zM,zN,zO,zP,zR,zS]at *);omega)) (Or.inl ?_)
     try cbv)
  |fail)
 all_goals first
  |trivial
  |(subst hR;exact Fit.refl _;done)
  |(subst hB;(repeat' (first|exact qH|refine qI ?_ ?_|exact qK _|refine qJ ?_|exact qA|exact qE (by rfl)|exact qF (by rfl)|exact Fit.refl _|exact qG _|refine qC ?_ rfl ?_));done)
  |skip
set_option maxHeartbeats 2000000 in
theorem uwL (d:Dsp)(F:List (List Int))(o:List Int)(i m M:Nat)(hd:DOk d)(ho:o.length≤100)(hM:M=m+1)(hi:i+M≤d.fs.length)(ih:∀k:Nat,k<d.fs.length-m-i→∀(G:List (List Int)) (L:List Int),G=(F++colN d.fs.length (okFa d) m o i k)→L=o++[((i+k:Nat):Int)]→ua0 Tryz.prog 88 [(iS L),(iv fun _=>zi (i+k)+1),(iv fun _=>zi M-1),.own 0 0,.own 1 0,.own 2 0,.own 3 0] [.cells [(wpS d)] 87,.cells [.clo 84 [] [],.clo 85 [] []] 110,.cells [.row 4] 23,.cells [.clo 88 [] [.own 0 0,.own 1 0,.own 2 0,.own 3 0]] 144,.row 22 1 (.sym fun _=>zi (G).length) (fun ix=>[.sl 1 (.sym fun _=>zi ((G).getD ix.den.toNat []).length) (fun jx=>[(iv fun _=>((G).getD ix.den.toNat []).getD jx.den.toNat 0)])])] (fun r bs=>r = .tup []∧bs=[.cells [(wpS d)] 87,.cells [.clo 84 [] [],.clo 85 [] []] 110,.cells [.row 4] 23,.cells [.clo 88 [] [.own 0 0,.own 1 0,.own 2 0,.own 3 0]] 144,.row 22 1 (.sym fun _=>zi ((G++allC d.fs.length (okFa d) m L (i+k+1))).length) (fun ix=>[.sl 1 (.sym fun _=>zi (((G++allC d.fs.length (okFa d) m L (i+k+1))).getD ix.den.toNat []).length) (fun jx=>[(iv fun _=>(((G++allC d.fs.length (okFa d) m L (i+k+1))).getD ix.den.toNat []).getD jx.den.toNat 0)])])])):ua0 Tryz.prog 88 [(iS o),(iv fun _=>zi i),(iv fun _=>zi M),.own 0 0,.own 1 0,.own 2 0,.own 3 0] [.cells [(wpS d)] 87,.cells [.clo 84 [] [],.clo 85 [] []] 110,.cells [.row 4] 23,.cells [.clo 88 [] [.own 0 0,.own 1 0,.own 2 0,.own 3 0]] 144,.row 22 1 (.sym fun _=>zi (F).length) (fun ix=>[.sl 1 (.sym fun _=>zi ((F).getD ix.den.toNat []).length) (fun jx=>[(iv fun _=>((F).getD ix.den.toNat []).getD jx.den.toNat 0)])])] (fun r bs=>r = .tup []∧bs=[.cells [(wpS d)] 87,.cells [.clo 84 [] [],.clo 85 [] []] 110,.cells [.row 4] 23,.cells [.clo 88 [] [.own 0 0,.own 1 0,.own 2 0,.own 3 0]] 144,.row 22 1 (.sym fun _=>zi ((F++colN d.fs.length (okFa d) m o i (d.fs.length-m-i))).length) (fun ix=>[.sl 1 (.sym fun _=>zi (((F++colN d.fs.length (okFa d) m o i (d.fs.length-m-i))).getD ix.den.toNat []).length) (fun jx=>[(iv fun _=>(((F++colN d.fs.length (okFa d) m o i (d.fs.length-m-i))).getD ix.den.toNat []).getD jx.den.toNat 0)])])]):=by
 have c88:=uo0 d
 have c94:=unH o (by omega)
 refine ua0.isB rfl fun R B hR hB=>qW (sc:=sc88) tyok mix Tryz.func88 rfl Tryz.call88 (by kernel_rfl) (by kernel_rfl) ?_
 generalize Tryz.prog=P at c88 c94 ih⊢
 cbv
 have s3:=hd.p4
 have f6:=hd.f6
 have p1:=hd.p1
 repeat' (first
  |with_reducible refine And.intro ?_ ?_
  |(with_reducible intro hcd;(try simp only [zA,zB,zC,zD,zE,zF,zG,zH,zI,zJ,zK,zL,zM,zN,zO,zP]at hcd);try cbv)
  |fail)
 all_goals first
  |(exfalso;(try simp only [qV]at *);(try simp only [zQ,zA,zB,zC,zD,zE,zF,zG,zH,zI,zJ,zK,zL,zM,zN,zO,zP,zR,zS]at *);omega)
  |skip
 refine⟨none,[],{k:Nat // k≤d.fs.length-m-i},fun x=>⟨[(0,(iS o)),(2,(iv fun _=>zi M)),(3,.own 0 0),(4,.own 1 0),(5,.own 2 0),(6,.own 3 0),(12,(iv fun _=>zi (i+x.1)))],[(0,.cells [(wpS d)] 87),(1,.cells [.clo 84 [] [],.clo 85 [] []] 110),(2,.cells [.row 4] 23),(3,.cells [.clo 88 [] [.own 0 0,.own 1 0,.own 2 0,.own 3 0]] 144),(4,.row 22 1 (.sym fun _=>zi ((F++colN d.fs.length (okFa d) m o i x.1)).length) (fun ix=>[.sl 1 (.sym fun _=>zi (((F++colN d.fs.length (okFa d) m o i x.1)).getD ix.den.toNat []).length) (fun jx=>[(iv fun _=>(((F++colN d.fs.length (okFa d) m o i x.1)).getD ix.den.toNat []).getD jx.den.toNat 0)])]))],60⟩,fun x=>d.fs.length-m-i-x.1,?_,?_⟩
 ·refine⟨⟨0,by omega⟩,?_⟩
  cbv
  repeat' (first
   |with_reducible refine hold ?_ ?_
   |with_reducible refine And.intro ?_ ?_)
  all_goals first
   |trivial
   |exact qM (qE (by rfl))
   |exact qM (Fit.refl _)
   |exact qL (qK _)
   |(simp only [colN,List.append_nil];exact qL (qK _))
   |skip
 ·rintro ⟨k,hk⟩
  cbv
  obtain⟨G,hG⟩:∃G,G=(F++colN d.fs.length (okFa d) m o i k):=⟨_,rfl⟩
  rw [←hG]
  cbv
  repeat' (first
   |with_reducible refine hold ?_ ?_
   |with_reducible refine And.intro ?_ ?_
   |(with_reducible intro hcd;(try simp only [zA,zB,zC,zD,zE,zF,zG,zH,zI,zJ,zK,zL,zM,zN,zO,zP]at hcd);try cbv)
   | (refine qP ?_ (c88) ?hfit
      case hfit=>((repeat' (first|exact qB|refine qD ?_ ?_|exact qE (by rfl)|exact qF (by rfl)|exact Fit.refl _|exact qA|refine qC ?_ rfl ?_));done)
      try cbv)
   | (refine Or.inr ⟨true,?_⟩
      cbv
      refine qU ?_ (c94) (by cbv;(repeat' (first|exact qB|refine qD ?_ ?_|exact qE (by rfl)|exact qF (by rfl)|exact Fit.refl _|exact qA|refine qC ?_ rfl ?_))) (by cbv;(repeat' (first|exact qH|refine qI ?_ ?_|exact qK _|refine qJ ?_|exact qA|exact qE (by rfl)|exact qF (by rfl)|exact Fit.refl _|exact qG _|refine qC ?_ rfl ?_)))
      try cbv)
   | (obtain⟨L2,eL2⟩:∃y:List Int,y=o++[((i+k:Nat):Int)]:=⟨_,rfl⟩
      refine⟨udn L2,?_⟩
      cbv
      refine hold (uai (L:=o) eL2 (by(first|rfl|((try simp only [qV]at *);(try simp only [zQ,zA,zB,zC,zD,zE,zF,zG,zH,zI,zJ,zK,zL,zM,zN,zO,zP,zR,zS]at *);done)|((try simp only [qV]at *);(try simp only [zQ,zA,zB,zC,zD,zE,zF,zG,zH,zI,zJ,zK,zL,zM,zN,zO,zP,zR,zS]at *);omega))) (by rfl) (fun ix=>Fit.refl _) (fun ix h=>qC (qE (by rfl)) rfl qA) (by(try simp only [qV]at *);(try simp only [zQ,zA,zB,zC,zD,zE,zF,zG,zH,zI,zJ,zK,zL,zM,zN,zO,zP,zR,zS]at *);omega)) (Or.inr ⟨true,?_⟩)
      try cbv)
   | (refine⟨some [0,1,2,3,4],?_⟩
      cbv
      refine qQ ?_ (ih k (by((try simp only [qV]at *);(try simp only [zQ,zA,zB,zC,zD,zE,zF,zG,zH,zI,zJ,zK,zL,zM,zN,zO,zP,zR,zS]at *);omega)) G L2 hG eL2) ?hfit ?hbo
      case hfit=>(cbv;refine qD (ua1 (usi eL2) (fun _ _ _=>Fit.refl _)) ?_;(repeat' (first|exact qB|refine qD ?_ ?_|exact qE (by rfl)|exact qF (by rfl)|exact Fit.refl _|exact qA|refine qC ?_ rfl ?_));done)
      case hbo=>(cbv;(repeat' (first|exact qH|refine qI ?_ ?_|exact qK _|refine qJ ?_|exact qA|exact qE (by rfl)|exact qF (by rfl)|exact Fit.refl _|exact qG _|refine qC ?_ rfl ?_));done)
      try cbv)
   |fail)
  all_goals first
   |((try simp only [qV]at *);(try simp only [zQ,zA,zB,zC,zD,zE,zF,zG,zH,zI,zJ,zK,zL,zM,zN,zO,zP,zR,zS]at *);first|(refine qN ?_;omega)|(simp only [Hold];omega))
   |(subst hR;exact Fit.refl _;done)
   |((have hke:k=d.fs.length-m-i:=(by((try simp only [qV]at *);(try simp only [zQ,zA,zB,zC,zD,zE,zF,zG,zH,zI,zJ,zK,zL,zM,zN,zO,zP,zR,zS]at *);omega)));rw [hke]at hG;rw [←hG]at hB;subst hB;(repeat' (first|exact qH|refine qI ?_ ?_|exact qK _|refine qJ ?_|exact qA|exact qE (by rfl)|exact qF (by rfl)|exact Fit.refl _|exact qG _|refine qC ?_ rfl ?_));done)
   |((try simp only [zQ,zA,zB,zC,zD,zE,zF,zG,zH,zI,zJ,zK,zL,zM,zN,zO,zP,zR,zS]at *);(have hx:=ulF eL2 hG);refine⟨⟨k+1,by((try simp only [qV]at *);(try simp only [zQ,zA,zB,zC,zD,zE,zF,zG,zH,zI,zJ,zK,zL,zM,zN,zO,zP,zR,zS]at *);omega)⟩,by simp only [];omega,?_⟩;cbv;(repeat' (first|with_reducible refine hold ?_ ?_|with_reducible refine And.intro ?_ ?_));(all_goals first|trivial|exact qM (qE (by rfl))|exact qM (qF (by rfl))|exact qM (Fit.refl _)|exact qL (qK _)|(refine qM (qE ?_);(try simp only [qV]at *);simp only [zQ,zA,zB,zC,zD,zE,zF,zG,zH,zI,zJ,zK,zL,zM,zN,zO,zP,zR,zS]at *;omega)|(refine qL (qJ ?_);(repeat' (first|exact qA|exact qB|refine qC ?_ rfl ?_|refine qD ?_ ?_|exact qE (by rfl)|exact qF (by rfl)|exact Fit.refl _|exact qG _|(refine qE ?_;(try simp only [qV]at *);simp only [zQ,zA,zB,zC,zD,zE,zF,zG,zH,zI,zJ,zK,zL,zM,zN,zO,zP,zR,zS]at *;omega)));done)|(simp only [hx];exact qL (qK _))|(refine qM (qE ?_);(try simp only [qV]at *);(try simp only [zQ,zA,zB,zC,zD,zE,zF,zG,zH,zI,zJ,zK,zL,zM,zN,zO,zP,zR,zS]at *);omega)|skip))
   |skip
set_option maxHeartbeats 2000000 in
theorem uxc (d:Dsp)(F:List (List Int))(o:List Int)(i m M:Nat)(hd:DOk d)(ho:o.length≤100)(hM:M=m+1)(hi:i+M≤d.pn.toNat)(ih:∀k:Nat,k<d.pn.toNat-m-i→∀(G:List (List Int)) (L:List Int),G=(F++colN d.pn.toNat (okPa d) m o i k)→L=o++[((i+k:Nat):Int)]→ua0 Tryz.prog 88 [(iS L),(iv fun _=>zi (i+k)+1),(iv fun _=>zi M-1),.own 0 0,.own 1 0,.own 2 0,.own 3 0] [.cells [(wpS d)] 87,.cells [.clo 86 [] [],.clo 87 [] []] 110,.cells [.row 4] 23,.cells [.clo 88 [] [.own 0 0,.own 1 0,.own 2 0,.own 3 0]] 144,.row 22 1 (.sym fun _=>zi (G).length) (fun ix=>[.sl 1 (.sym fun _=>zi ((G).getD ix.den.toNat []).length) (fun jx=>[(iv fun _=>((G).getD ix.den.toNat []).getD jx.den.toNat 0)])])] (fun r bs=>r = .tup []∧bs=[.cells [(wpS d)] 87,.cells [.clo 86 [] [],.clo 87 [] []] 110,.cells [.row 4] 23,.cells [.clo 88 [] [.own 0 0,.own 1 0,.own 2 0,.own 3 0]] 144,.row 22 1 (.sym fun _=>zi ((G++allC d.pn.toNat (okPa d) m L (i+k+1))).length) (fun ix=>[.sl 1 (.sym fun _=>zi (((G++allC d.pn.toNat (okPa d) m L (i+k+1))).getD ix.den.toNat []).length) (fun jx=>[(iv fun _=>(((G++allC d.pn.toNat (okPa d) m L (i+k+1))).getD ix.den.toNat []).getD jx.den.toNat 0)])])])):ua0 Tryz.prog 88 [(iS o),(iv fun _=>zi i),(iv fun _=>zi M),.own 0 0,.own 1 0,.own 2 0,.own 3 0] [.cells [(wpS d)] 87,.cells [.clo 86 [] [],.clo 87 [] []] 110,.cells [.row 4] 23,.cells [.clo 88 [] [.own 0 0,.own 1 0,.own 2 0,.own 3 0]] 144,.row 22 1 (.sym fun _=>zi (F).length) (fun ix=>[.sl 1 (.sym fun _=>zi ((F).getD ix.den.toNat []).length) (fun jx=>[(iv fun _=>((F).getD ix.den.toNat []).getD jx.den.toNat 0)])])] (fun r bs=>r = .tup []∧bs=[.cells [(wpS d)] 87,.cells [.clo 86 [] [],.clo 87 [] []] 110,.cells [.row 4] 23,.cells [.clo 88 [] [.own 0 0,.own 1 0,.own 2 0,.own 3 0]] 144,.row 22 1 (.sym fun _=>zi ((F++colN d.pn.toNat (okPa d) m o i (d.pn.toNat-m-i))).length) (fun ix=>[.sl 1 (.sym fun _=>zi (((F++colN d.pn.toNat (okPa d) m o i (d.pn.toNat-m-i))).getD ix.den.toNat []).length) (fun jx=>[(iv fun _=>(((F++colN d.pn.toNat (okPa d) m o i (d.pn.toNat-m-i))).getD ix.den.toNat []).getD jx.den.toNat 0)])])]):=by
 have c90:=uji d
 have c94:=unH o (by omega)
 refine ua0.isB rfl fun R B hR hB=>qW (sc:=sc88) tyok mix Tryz.func88 rfl Tryz.call88 (by kernel_rfl) (by kernel_rfl) ?_
 generalize Tryz.prog=P at c90 c94 ih⊢
 cbv
 have s3:=hd.p4
 have f6:=hd.f6
 have p1:=hd.p1
 repeat' (first
  |with_reducible refine And.intro ?_ ?_
  |(with_reducible intro hcd;(try simp only [zA,zB,zC,zD,zE,zF,zG,zH,zI,zJ,zK,zL,zM,zN,zO,zP]at hcd);try cbv)
  |fail)
 all_goals first
  |(exfalso;(try simp only [qV]at *);(try simp only [zQ,zA,zB,zC,zD,zE,zF,zG,zH,zI,zJ,zK,zL,zM,zN,zO,zP,zR,zS]at *);omega)
  |skip
 refine⟨none,[],{k:Nat // k≤d.pn.toNat-m-i},fun x=>⟨[(0,(iS o)),(2,(iv fun _=>zi M)),(3,.own 0 0),(4,.own 1 0),(5,.own 2 0),(6,.own 3 0),(12,(iv fun _=>zi (i+x.1)))],[(0,.cells [(wpS d)] 87),(1,.cells [.clo 86 [] [],.clo 87 [] []] 110),(2,.cells [.row 4] 23),(3,.cells [.clo 88 [] [.own 0 0,.own 1 0,.own 2 0,.own 3 0]] 144),(4,.row 22 1 (.sym fun _=>zi ((F++colN d.pn.toNat (okPa d) m o i x.1)).length) (fun ix=>[.sl 1 (.sym fun _=>zi (((F++colN d.pn.toNat (okPa d) m o i x.1)).getD ix.den.toNat []).length) (fun jx=>[(iv fun _=>(((F++colN d.pn.toNat (okPa d) m o i x.1)).getD ix.den.toNat []).getD jx.den.toNat 0)])]))],60⟩,fun x=>d.pn.toNat-m-i-x.1,?_,?_⟩
 ·refine⟨⟨0,by omega⟩,?_⟩
  cbv
  repeat' (first
   |with_reducible refine hold ?_ ?_
   |with_reducible refine And.intro ?_ ?_)
  all_goals first
   |trivial
   |exact qM (qE (by rfl))
   |exact qM (Fit.refl _)
   |exact qL (qK _)
   |(simp only [colN,List.append_nil];exact qL (qK _))
   |skip
 ·rintro ⟨k,hk⟩
  cbv
  obtain⟨G,hG⟩:∃G,G=(F++colN d.pn.toNat (okPa d) m o i k):=⟨_,rfl⟩
  rw [←hG]
  cbv
  repeat' (first
   |with_reducible refine hold ?_ ?_
   |with_reducible refine And.intro ?_ ?_
   |(with_reducible intro hcd;(try simp only [zA,zB,zC,zD,zE,zF,zG,zH,zI,zJ,zK,zL,zM,zN,zO,zP]at hcd);try cbv)
   | (refine qP ?_ (c90) ?hfit
      case hfit=>((repeat' (first|exact qB|refine qD ?_ ?_|exact qE (by rfl)|exact qF (by rfl)|exact Fit.refl _|exact qA|refine qC ?_ rfl ?_));done)
      try cbv)
   | (refine Or.inr ⟨true,?_⟩
      cbv
      refine qU ?_ (c94) (by cbv;(repeat' (first|exact qB|refine qD ?_ ?_|exact qE (by rfl)|exact qF (by rfl)|exact Fit.refl _|exact qA|refine qC ?_ rfl ?_))) (by cbv;(repeat' (first|exact qH|refine qI ?_ ?_|exact qK _|refine qJ ?_|exact qA|exact qE (by rfl)|exact qF (by rfl)|exact Fit.refl _|exact qG _|refine qC ?_ rfl ?_)))
      try cbv)
   | (obtain⟨L2,eL2⟩:∃y:List Int,y=o++[((i+k:Nat):Int)]:=⟨_,rfl⟩
      refine⟨udn L2,?_⟩
      cbv
      refine hold (uai (L:=o) eL2 (by(first|rfl|((try simp only [qV]at *);(try simp only [zQ,zA,zB,zC,zD,zE,zF,zG,zH,zI,zJ,zK,zL,zM,zN,zO,zP,zR,zS]at *);done)|((try simp only [qV]at *);(try simp only [zQ,zA,zB,zC,zD,zE,zF,zG,zH,zI,zJ,zK,zL,zM,zN,zO,zP,zR,zS]at *);omega))) (by rfl) (fun ix=>Fit.refl _) (fun ix h=>qC (qE (by rfl)) rfl qA) (by(try simp only [qV]at *);(try simp only [zQ,zA,zB,zC,zD,zE,zF,zG,zH,zI,zJ,zK,zL,zM,zN,zO,zP,zR,zS]at *);omega)) (Or.inr ⟨true,?_⟩)
      try cbv)
   | (refine⟨some [0,1,2,3,4],?_⟩
      cbv
      refine qQ ?_ (ih k (by((try simp only [qV]at *);(try simp only [zQ,zA,zB,zC,zD,zE,zF,zG,zH,zI,zJ,zK,zL,zM,zN,zO,zP,zR,zS]at *);omega)) G L2 hG eL2) ?hfit ?hbo
      case hfit=>(cbv;refine qD (ua1 (usi eL2) (fun _ _ _=>Fit.refl _)) ?_;(repeat' (first|exact qB|refine qD ?_ ?_|exact qE (by rfl)|exact qF (by rfl)|exact Fit.refl _|exact qA|refine qC ?_ rfl ?_));done)
      case hbo=>(cbv;(repeat' (first|exact qH|refine qI ?_ ?_|exact qK _|refine qJ ?_|exact qA|exact qE (by rfl)|exact qF (by rfl)|exact Fit.refl _|exact qG _|refine qC ?_ rfl ?_));done)
      try cbv)
   |fail)
  all_goals first
   |((try simp only [qV]at *);(try simp only [zQ,zA,zB,zC,zD,zE,zF,zG,zH,zI,zJ,zK,zL,zM,zN,zO,zP,zR,zS]at *);first|(refine qN ?_;omega)|(simp only [Hold];omega))
   |(subst hR;exact Fit.refl _;done)
   |((have hke:k=d.pn.toNat-m-i:=(by((try simp only [qV]at *);(try simp only [zQ,zA,zB,zC,zD,zE,zF,zG,zH,zI,zJ,zK,zL,zM,zN,zO,zP,zR,zS]at *);omega)));rw [hke]at hG;rw [←hG]at hB;subst hB;(repeat' (first|exact qH|refine qI ?_ ?_|exact qK _|refine qJ ?_|exact qA|exact qE (by rfl)|exact qF (by rfl)|exact Fit.refl _|exact qG _|refine qC ?_ rfl ?_));done)
   |((try simp only [zQ,zA,zB,zC,zD,zE,zF,zG,zH,zI,zJ,zK,zL,zM,zN,zO,zP,zR,zS]at *);(have hx:=ulF eL2 hG);refine⟨⟨k+1,by((try simp only [qV]at *);(try simp only [zQ,zA,zB,zC,zD,zE,zF,zG,zH,zI,zJ,zK,zL,zM,zN,zO,zP,zR,zS]at *);omega)⟩,by simp only [];omega,?_⟩;cbv;(repeat' (first|with_reducible refine hold ?_ ?_|with_reducible refine And.intro ?_ ?_));(all_goals first|trivial|exact qM (qE (by rfl))|exact qM (qF (by rfl))|exact qM (Fit.refl _)|exact qL (qK _)|(refine qM (qE ?_);(try simp only [qV]at *);simp only [zQ,zA,zB,zC,zD,zE,zF,zG,zH,zI,zJ,zK,zL,zM,zN,zO,zP,zR,zS]at *;omega)|(refine qL (qJ ?_);(repeat' (first|exact qA|exact qB|refine qC ?_ rfl ?_|refine qD ?_ ?_|exact qE (by rfl)|exact qF (by rfl)|exact Fit.refl _|exact qG _|(refine qE ?_;(try simp only [qV]at *);simp only [zQ,zA,zB,zC,zD,zE,zF,zG,zH,zI,zJ,zK,zL,zM,zN,zO,zP,zR,zS]at *;omega)));done)|(simp only [hx];exact qL (qK _))|(refine qM (qE ?_);(try simp only [qV]at *);(try simp only [zQ,zA,zB,zC,zD,zE,zF,zG,zH,zI,zJ,zK,zL,zM,zN,zO,zP,zR,zS]at *);omega)|skip))
   |skip
theorem addF (d:Dsp)(hd:DOk d):∀(m:Nat) (F:List (List Int)) (o:List Int) (i:Nat) (ie me:Int),ie=(i:Int)→me=(m:Int)→o.length≤i→i+m≤d.fs.length→F.length+(allC d.fs.length (okFa d) m o i).length≤1000000→ua0 Tryz.prog 88 [(iS o),(iv fun _=>ie),(iv fun _=>me),.own 0 0,.own 1 0,.own 2 0,.own 3 0] [.cells [(wpS d)] 87,.cells [.clo 84 [] [],.clo 85 [] []] 110,.cells [.row 4] 23,.cells [.clo 88 [] [.own 0 0,.own 1 0,.own 2 0,.own 3 0]] 144,.row 22 1 (.sym fun _=>zi (F).length) (fun ix=>[.sl 1 (.sym fun _=>zi ((F).getD ix.den.toNat []).length) (fun jx=>[(iv fun _=>((F).getD ix.den.toNat []).getD jx.den.toNat 0)])])] (fun r bs=>r = .tup []∧bs=[.cells [(wpS d)] 87,.cells [.clo 84 [] [],.clo 85 [] []] 110,.cells [.row 4] 23,.cells [.clo 88 [] [.own 0 0,.own 1 0,.own 2 0,.own 3 0]] 144,.row 22 1 (.sym fun _=>zi ((F++allC d.fs.length (okFa d) m o i)).length) (fun ix=>[.sl 1 (.sym fun _=>zi (((F++allC d.fs.length (okFa d) m o i)).getD ix.den.toNat []).length) (fun jx=>[(iv fun _=>(((F++allC d.fs.length (okFa d) m o i)).getD ix.den.toNat []).getD jx.den.toNat 0)])])]):=by
 have hf6:=hd.f6
 have hp4:=hd.p4
 intro m
 induction m with
 | zero=>
  intro F o i ie me hie hme ho him hB
  have hm0:me=0:=by omega
  subst hm0
  cases hok:(okFa d) o with
  | true=>
   rw [show allC d.fs.length (okFa d) 0 o i=[o] by simp only [allC,hok,if_true]]
   exact uvM d F o ie hd (by omega) (by omega) hok
  | false=>
   rw [show allC d.fs.length (okFa d) 0 o i=[] by simp only [allC,hok,Bool.false_eq_true,if_false],List.append_nil]
   exact uuW d F o ie hd (by omega) (by omega) hok
 | succ m ih=>
  intro F o i ie me hie hme ho him hB
  subst hie
  subst hme
  rw [uit]at hB⊢
  refine uwL d F o i m (m+1) hd (by omega) rfl him fun k hk G L hG hL=> ?_
  refine ih G L (i+k+1) (zi (i+k)+1) (zi (m+1)-1) (by simp only [uab];omega) (by simp only [uab];omega) (by rw [hL,List.length_append];simp only [List.length_cons,List.length_nil];omega) (by omega) ?_
  have h1:=usB (n:=d.fs.length) (ok:=(okFa d)) (m:=m) (o:=o) (i:=i) (show k+1≤d.fs.length-m-i by omega)
  have h2:=congrArg List.length (ulF (F:=F) hL hG)
  rw [List.length_append,List.length_append]at h2
  omega
theorem addP (d:Dsp)(hd:DOk d):∀(m:Nat) (F:List (List Int)) (o:List Int) (i:Nat) (ie me:Int),ie=(i:Int)→me=(m:Int)→o.length≤i→i+m≤d.pn.toNat→F.length+(allC d.pn.toNat (okPa d) m o i).length≤1000000→ua0 Tryz.prog 88 [(iS o),(iv fun _=>ie),(iv fun _=>me),.own 0 0,.own 1 0,.own 2 0,.own 3 0] [.cells [(wpS d)] 87,.cells [.clo 86 [] [],.clo 87 [] []] 110,.cells [.row 4] 23,.cells [.clo 88 [] [.own 0 0,.own 1 0,.own 2 0,.own 3 0]] 144,.row 22 1 (.sym fun _=>zi (F).length) (fun ix=>[.sl 1 (.sym fun _=>zi ((F).getD ix.den.toNat []).length) (fun jx=>[(iv fun _=>((F).getD ix.den.toNat []).getD jx.den.toNat 0)])])] (fun r bs=>r = .tup []∧bs=[.cells [(wpS d)] 87,.cells [.clo 86 [] [],.clo 87 [] []] 110,.cells [.row 4] 23,.cells [.clo 88 [] [.own 0 0,.own 1 0,.own 2 0,.own 3 0]] 144,.row 22 1 (.sym fun _=>zi ((F++allC d.pn.toNat (okPa d) m o i)).length) (fun ix=>[.sl 1 (.sym fun _=>zi (((F++allC d.pn.toNat (okPa d) m o i)).getD ix.den.toNat []).length) (fun jx=>[(iv fun _=>(((F++allC d.pn.toNat (okPa d) m o i)).getD ix.den.toNat []).getD jx.den.toNat 0)])])]):=by
 have hf6:=hd.f6
 have hp4:=hd.p4
 intro m
 induction m with
 | zero=>
  intro F o i ie me hie hme ho him hB
  have hm0:me=0:=by omega
  subst hm0
  cases hok:(okPa d) o with
  | true=>
   rw [show allC d.pn.toNat (okPa d) 0 o i=[o] by simp only [allC,hok,if_true]]
   exact uw8 d F o ie hd (by omega) (by omega) hok
  | false=>
   rw [show allC d.pn.toNat (okPa d) 0 o i=[] by simp only [allC,hok,Bool.false_eq_true,if_false],List.append_nil]
   exact uw7 d F o ie hd (by omega) (by omega) hok
 | succ m ih=>
  intro F o i ie me hie hme ho him hB
  subst hie
  subst hme
  rw [uit]at hB⊢
  refine uxc d F o i m (m+1) hd (by omega) rfl him fun k hk G L hG hL=> ?_
  refine ih G L (i+k+1) (zi (i+k)+1) (zi (m+1)-1) (by simp only [uab];omega) (by simp only [uab];omega) (by rw [hL,List.length_append];simp only [List.length_cons,List.length_nil];omega) (by omega) ?_
  have h1:=usB (n:=d.pn.toNat) (ok:=(okPa d)) (m:=m) (o:=o) (i:=i) (show k+1≤d.pn.toNat-m-i by omega)
  have h2:=congrArg List.length (ulF (F:=F) hL hG)
  rw [List.length_append,List.length_append]at h2
  omega
theorem usm {n:Nat} {ok:List Int→Bool} {m k:Nat}(hk:0<k)(h:allC n ok m [] 0=[]):lenO n ok k m=lenO n ok (k-1) (m+1):=by
 cases k with
 |zero=>omega
 |succ k=>simp only [lenO,h,List.isEmpty_nil,if_true,Nat.add_sub_cancel]
theorem umj {n:Nat} {ok:List Int→Bool} {m k:Nat}(hk:0<k)(h:allC n ok m [] 0≠[]):lenO n ok k m=allC n ok m [] 0:=by
 cases k with
 |zero=>omega
 | succ k=>
  simp only [lenO]
  rw [if_neg (by simpa using h)]
theorem ulv {d:Dsp} {n:Nat} {ok:List Int→Bool} {m:Nat}(hn:n≤6)(hm:m≤n):(allC n ok m [] 0).length≤1000000:=by
 refine Nat.le_trans ulj (Nat.le_trans (Nat.pow_le_pow_left hn m) (Nat.le_trans (Nat.pow_le_pow_right (by omega) (show m≤6 by omega)) (by decide)))
theorem unU (d:Dsp)(hd:DOk d):ua0 Tryz.prog 51 [(.agg [.clo 84 [] [],.clo 85 [] []]),(wpS d)] [] (fun r _=>r=(.sl 1 (.sym fun _=>zi ((uau d.fs.length (okFa d))).length) (fun ix=>[(.sl 1 (.sym fun _=>zi (((uau d.fs.length (okFa d))).getD ix.den.toNat []).length) (fun jx=>[(iv fun _=>(((uau d.fs.length (okFa d))).getD ix.den.toNat []).getD jx.den.toNat 0)]))]))):=by
 have c88:=uo0 d
 have f6:=hd.f6
 have p4:=hd.p4
 have p1:=hd.p1
 have cadd:=fun (x:Nat) (h:x≤d.fs.length)=>(show ua0 Tryz.prog 88 [(iS (([]:List Int))),(iv fun _=>0),(iv fun _=>zi x),.own 0 0,.own 1 0,.own 2 0,.own 3 0] [.cells [(wpS d)] 87,.cells [.clo 84 [] [],.clo 85 [] []] 110,.cells [.row 4] 23,.cells [.clo 88 [] [.own 0 0,.own 1 0,.own 2 0,.own 3 0]] 144,.row 22 1 (.sym fun _=>zi (([]:List (List Int))).length) (fun ix=>[.sl 1 (.sym fun _=>zi ((([]:List (List Int))).getD ix.den.toNat []).length) (fun jx=>[(iv fun _=>((([]:List (List Int))).getD ix.den.toNat []).getD jx.den.toNat 0)])])] (fun r bs=>r = .tup []∧bs=[.cells [(wpS d)] 87,.cells [.clo 84 [] [],.clo 85 [] []] 110,.cells [.row 4] 23,.cells [.clo 88 [] [.own 0 0,.own 1 0,.own 2 0,.own 3 0]] 144,.row 22 1 (.sym fun _=>zi ((allC d.fs.length (okFa d) x [] 0)).length) (fun ix=>[.sl 1 (.sym fun _=>zi (((allC d.fs.length (okFa d) x [] 0)).getD ix.den.toNat []).length) (fun jx=>[(iv fun _=>(((allC d.fs.length (okFa d) x [] 0)).getD ix.den.toNat []).getD jx.den.toNat 0)])])])from addF d hd x [] [] 0 0 (zi x) rfl (by simp only [uab]) (Nat.le_refl _) (by omega) (by have:=ulv (d:=d) (n:=d.fs.length) (ok:=(okFa d)) (m:=x) (by omega) h;simp only [List.length_nil];omega))
 refine ua0.is fun R hR=>qW (sc:=sc51) tyok mix Tryz.func51 rfl Tryz.call51 (by kernel_rfl) (by kernel_rfl) ?_
 generalize Tryz.prog=P at c88 cadd⊢
 cbv
 repeat' (first
  |with_reducible refine hold ?_ ?_
  | (refine qP ?_ (c88) ?hfit
     case hfit=>((repeat' (first|exact qB|refine qD ?_ ?_|exact qE (by rfl)|exact qF (by rfl)|exact Fit.refl _|exact qA|refine qC ?_ rfl ?_));done)
     try cbv)
  |fail)
 all_goals first
  |((try simp only [qV]at *);(try simp only [zQ,zA,zB,zC,zD,zE,zF,zG,zH,zI,zJ,zK,zL,zM,zN,zO,zP,zR,zS]at *);first|(refine qN ?_;omega)|(simp only [Hold];omega))
  |skip
 refine⟨none,[⟨.cell 2 0,22,1⟩],{x:Nat // x≤d.fs.length+1∧uau d.fs.length (okFa d)=lenO d.fs.length (okFa d) (d.fs.length+1-x) x},fun x=>⟨[(2,.own 0 0),(3,.own 1 0),(4,.own 2 0),(5,.own 3 0),(12,(iv fun _=>zi d.fs.length+1)),(13,(iv fun _=>zi x.1))],[(0,.cells [.clo 84 [] [],.clo 85 [] []] 110),(1,.cells [(wpS d)] 87),(2,.cells [.row 12] 23),(3,.cells [.clo 88 [] [.own 1 0,.own 0 0,.own 2 0,.own 3 0]] 144),(12,.row 22 1 (.sym fun _=>zi (([]:List (List Int))).length) (fun ix=>[.sl 1 (.sym fun _=>zi ((([]:List (List Int))).getD ix.den.toNat []).length) (fun jx=>[(iv fun _=>((([]:List (List Int))).getD ix.den.toNat []).getD jx.den.toNat 0)])]))],60⟩,fun x=>d.fs.length+1-x.1,?_,?_⟩
 ·refine⟨⟨0,by omega,rfl⟩,?_⟩
  cbv
  repeat' (first
   |with_reducible refine hold ?_ ?_
   |with_reducible refine And.intro ?_ ?_)
  all_goals first
   |trivial
   |exact qM (qE (by rfl))
   |exact qM (Fit.refl _)
   |exact qL (qK _)
   |(refine qL (ua8 ?_ ?_);(first|rfl|((try simp only [qV]at *);(try simp only [zQ,zA,zB,zC,zD,zE,zF,zG,zH,zI,zJ,zK,zL,zM,zN,zO,zP,zR,zS]at *);omega));intro ix h0 h1;exfalso;(try simp only [qV]at *);(try simp only [zQ,zA,zB,zC,zD,zE,zF,zG,zH,zI,zJ,zK,zL,zM,zN,zO,zP,zR,zS]at *);omega)
   |skip
 ·rintro ⟨x,hx,h3⟩
  cbv
  obtain⟨A,hA⟩:∃A,A=allC d.fs.length (okFa d) x [] 0:=⟨_,rfl⟩
  have caddx:=fun h=>cadd x h
  rw [←hA]at caddx
  cbv
  repeat' (first
   |with_reducible refine hold ?_ ?_
   |with_reducible refine And.intro ?_ ?_
   |(with_reducible intro hcd;(try simp only [zA,zB,zC,zD,zE,zF,zG,zH,zI,zJ,zK,zL,zM,zN,zO,zP]at hcd);try cbv)
   | (refine⟨some [1,0,2,3,12],?_⟩
      cbv
      refine qQ ?_ (caddx (by((try simp only [qV]at *);(try simp only [zQ,zA,zB,zC,zD,zE,zF,zG,zH,zI,zJ,zK,zL,zM,zN,zO,zP,zR,zS]at *);omega))) ?hfit ?hbo
      case hfit=>(cbv;refine qD (qO rfl) ?_;(repeat' (first|exact qB|refine qD ?_ ?_|exact qE (by rfl)|exact qF (by rfl)|exact Fit.refl _|exact qA|refine qC ?_ rfl ?_));done)
      case hbo=>(cbv;(repeat' (first|exact qH|refine qI ?_ ?_|exact qK _|refine qJ ?_|exact qA|exact qE (by rfl)|exact qF (by rfl)|exact Fit.refl _|exact qG _|refine qC ?_ rfl ?_));done)
      try cbv)
   |fail)
  all_goals first
   |((try simp only [qV]at *);(try simp only [zQ,zA,zB,zC,zD,zE,zF,zG,zH,zI,zJ,zK,zL,zM,zN,zO,zP,zR,zS]at *);first|(refine qN ?_;omega)|(simp only [Hold];omega))
   |(subst hR;((have hne:A≠[]:=fun q=>by(rw [q]at hcd;(try simp only [qV]at *);(try simp only [zQ,zA,zB,zC,zD,zE,zF,zG,zH,zI,zJ,zK,zL,zM,zN,zO,zP,zR,zS]at *);simp only [List.length_nil]at hcd;omega));(have e9:=h3.trans (umj (by((try simp only [qV]at *);(try simp only [zQ,zA,zB,zC,zD,zE,zF,zG,zH,zI,zJ,zK,zL,zM,zN,zO,zP,zR,zS]at *);omega)) (by rw [←hA];exact hne)));rw [←hA]at e9;rw [e9];exact Fit.refl _);done)
   |(subst hR;((have hz:d.fs.length+1-x=0:=by((try simp only [qV]at *);(try simp only [zQ,zA,zB,zC,zD,zE,zF,zG,zH,zI,zJ,zK,zL,zM,zN,zO,zP,zR,zS]at *);omega));rw [hz]at h3;rw [show uau d.fs.length (okFa d)=[]from h3];exact Fit.refl _);done)
   |((try simp only [zQ,zA,zB,zC,zD,zE,zF,zG,zH,zI,zJ,zK,zL,zM,zN,zO,zP,zR,zS]at *);(have hAe:A=[]:=List.length_eq_zero_iff.1 (by((try simp only [qV]at *);(try simp only [zQ,zA,zB,zC,zD,zE,zF,zG,zH,zI,zJ,zK,zL,zM,zN,zO,zP,zR,zS]at *);omega)));refine⟨⟨x+1,by((try simp only [qV]at *);(try simp only [zQ,zA,zB,zC,zD,zE,zF,zG,zH,zI,zJ,zK,zL,zM,zN,zO,zP,zR,zS]at *);omega),by rw [show d.fs.length+1-(x+1)=d.fs.length+1-x-1 by omega,←usm (by((try simp only [qV]at *);(try simp only [zQ,zA,zB,zC,zD,zE,zF,zG,zH,zI,zJ,zK,zL,zM,zN,zO,zP,zR,zS]at *);omega)) (hA.symm.trans hAe)];exact h3⟩,by simp only [];omega,?_⟩;cbv;(repeat' (first|with_reducible refine hold ?_ ?_|with_reducible refine And.intro ?_ ?_));(all_goals first|trivial|exact qM (qE (by rfl))|exact qM (qF (by rfl))|exact qM (Fit.refl _)|exact qL (qK _)|(refine qM (qE ?_);(try simp only [qV]at *);simp only [zQ,zA,zB,zC,zD,zE,zF,zG,zH,zI,zJ,zK,zL,zM,zN,zO,zP,zR,zS]at *;omega)|(refine qL (qJ ?_);(repeat' (first|exact qA|exact qB|refine qC ?_ rfl ?_|refine qD ?_ ?_|exact qE (by rfl)|exact qF (by rfl)|exact Fit.refl _|exact qG _|(refine qE ?_;(try simp only [qV]at *);simp only [zQ,zA,zB,zC,zD,zE,zF,zG,zH,zI,zJ,zK,zL,zM,zN,zO,zP,zR,zS]at *;omega)));done)|(simp only [hAe];exact qL (qK _))|(refine qL (ua8 ?_ ?_);(first|rfl|(simp only [hAe];rfl));intro ix h0 h1;exfalso;simp only [hAe]at h1;(try simp only [qV]at *);(try simp only [zQ,zA,zB,zC,zD,zE,zF,zG,zH,zI,zJ,zK,zL,zM,zN,zO,zP,zR,zS]at *);omega)|skip))
   |skip
theorem ugg (d:Dsp)(hd:DOk d):ua0 Tryz.prog 51 [(.agg [.clo 86 [] [],.clo 87 [] []]),(wpS d)] [] (fun r _=>r=(.sl 1 (.sym fun _=>zi ((uau d.pn.toNat (okPa d))).length) (fun ix=>[(.sl 1 (.sym fun _=>zi (((uau d.pn.toNat (okPa d))).getD ix.den.toNat []).length) (fun jx=>[(iv fun _=>(((uau d.pn.toNat (okPa d))).getD ix.den.toNat []).getD jx.den.toNat 0)]))]))):=by
 have c90:=uji d
 have f6:=hd.f6
 have p4:=hd.p4
 have p1:=hd.p1
 have cadd:=fun (x:Nat) (h:x≤d.pn.toNat)=>(show ua0 Tryz.prog 88 [(iS (([]:List Int))),(iv fun _=>0),(iv fun _=>zi x),.own 0 0,.own 1 0,.own 2 0,.own 3 0] [.cells [(wpS d)] 87,.cells [.clo 86 [] [],.clo 87 [] []] 110,.cells [.row 4] 23,.cells [.clo 88 [] [.own 0 0,.own 1 0,.own 2 0,.own 3 0]] 144,.row 22 1 (.sym fun _=>zi (([]:List (List Int))).length) (fun ix=>[.sl 1 (.sym fun _=>zi ((([]:List (List Int))).getD ix.den.toNat []).length) (fun jx=>[(iv fun _=>((([]:List (List Int))).getD ix.den.toNat []).getD jx.den.toNat 0)])])] (fun r bs=>r = .tup []∧bs=[.cells [(wpS d)] 87,.cells [.clo 86 [] [],.clo 87 [] []] 110,.cells [.row 4] 23,.cells [.clo 88 [] [.own 0 0,.own 1 0,.own 2 0,.own 3 0]] 144,.row 22 1 (.sym fun _=>zi ((allC d.pn.toNat (okPa d) x [] 0)).length) (fun ix=>[.sl 1 (.sym fun _=>zi (((allC d.pn.toNat (okPa d) x [] 0)).getD ix.den.toNat []).length) (fun jx=>[(iv fun _=>(((allC d.pn.toNat (okPa d) x [] 0)).getD ix.den.toNat []).getD jx.den.toNat 0)])])])from addP d hd x [] [] 0 0 (zi x) rfl (by simp only [uab]) (Nat.le_refl _) (by omega) (by have:=ulv (d:=d) (n:=d.pn.toNat) (ok:=(okPa d)) (m:=x) (by omega) h;simp only [List.length_nil];omega))
 refine ua0.is fun R hR=>qW (sc:=sc51) tyok mix Tryz.func51 rfl Tryz.call51 (by kernel_rfl) (by kernel_rfl) ?_
 generalize Tryz.prog=P at c90 cadd⊢
 cbv
 repeat' (first
  |with_reducible refine hold ?_ ?_
  | (refine qP ?_ (c90) ?hfit
     case hfit=>((repeat' (first|exact qB|refine qD ?_ ?_|exact qE (by rfl)|exact qF (by rfl)|exact Fit.refl _|exact qA|refine qC ?_ rfl ?_));done)
     try cbv)
  |fail)
 all_goals first
  |((try simp only [qV]at *);(try simp only [zQ,zA,zB,zC,zD,zE,zF,zG,zH,zI,zJ,zK,zL,zM,zN,zO,zP,zR,zS]at *);first|(refine qN ?_;omega)|(simp only [Hold];omega))
  |skip
 refine⟨none,[⟨.cell 2 0,22,1⟩],{x:Nat // x≤d.pn.toNat+1∧uau d.pn.toNat (okPa d)=lenO d.pn.toNat (okPa d) (d.pn.toNat+1-x) x},fun x=>⟨[(2,.own 0 0),(3,.own 1 0),(4,.own 2 0),(5,.own 3 0),(12,(iv fun _=>d.pn+1)),(13,(iv fun _=>zi x.1))],[(0,.cells [.clo 86 [] [],.clo 87 [] []] 110),(1,.cells [(wpS d)] 87),(2,.cells [.row 12] 23),(3,.cells [.clo 88 [] [.own 1 0,.own 0 0,.own 2 0,.own 3 0]] 144),(12,.row 22 1 (.sym fun _=>zi (([]:List (List Int))).length) (fun ix=>[.sl 1 (.sym fun _=>zi ((([]:List (List Int))).getD ix.den.toNat []).length) (fun jx=>[(iv fun _=>((([]:List (List Int))).getD ix.den.toNat []).getD jx.den.toNat 0)])]))],60⟩,fun x=>d.pn.toNat+1-x.1,?_,?_⟩
 ·refine⟨⟨0,by omega,rfl⟩,?_⟩
  cbv
  repeat' (first
   |with_reducible refine hold ?_ ?_
   |with_reducible refine And.intro ?_ ?_)
  all_goals first
   |trivial
   |exact qM (qE (by rfl))
   |exact qM (Fit.refl _)
   |exact qL (qK _)
   |(refine qL (ua8 ?_ ?_);(first|rfl|((try simp only [qV]at *);(try simp only [zQ,zA,zB,zC,zD,zE,zF,zG,zH,zI,zJ,zK,zL,zM,zN,zO,zP,zR,zS]at *);omega));intro ix h0 h1;exfalso;(try simp only [qV]at *);(try simp only [zQ,zA,zB,zC,zD,zE,zF,zG,zH,zI,zJ,zK,zL,zM,zN,zO,zP,zR,zS]at *);omega)
   |skip
 ·rintro ⟨x,hx,h3⟩
  cbv
  obtain⟨A,hA⟩:∃A,A=allC d.pn.toNat (okPa d) x [] 0:=⟨_,rfl⟩
  have caddx:=fun h=>cadd x h
  rw [←hA]at caddx
  cbv
  repeat' (first
   |with_reducible refine hold ?_ ?_
   |with_reducible refine And.intro ?_ ?_
   |(with_reducible intro hcd;(try simp only [zA,zB,zC,zD,zE,zF,zG,zH,zI,zJ,zK,zL,zM,zN,zO,zP]at hcd);try cbv)
   | (refine⟨some [1,0,2,3,12],?_⟩
      cbv
      refine qQ ?_ (caddx (by((try simp only [qV]at *);(try simp only [zQ,zA,zB,zC,zD,zE,zF,zG,zH,zI,zJ,zK,zL,zM,zN,zO,zP,zR,zS]at *);omega))) ?hfit ?hbo
      case hfit=>(cbv;refine qD (qO rfl) ?_;(repeat' (first|exact qB|refine qD ?_ ?_|exact qE (by rfl)|exact qF (by rfl)|exact Fit.refl _|exact qA|refine qC ?_ rfl ?_));done)
      case hbo=>(cbv;(repeat' (first|exact qH|refine qI ?_ ?_|exact qK _|refine qJ ?_|exact qA|exact qE (by rfl)|exact qF (by rfl)|exact Fit.refl _|exact qG _|refine qC ?_ rfl ?_));done)
      try cbv)
   |fail)
  all_goals first
   |((try simp only [qV]at *);(try simp only [zQ,zA,zB,zC,zD,zE,zF,zG,zH,zI,zJ,zK,zL,zM,zN,zO,zP,zR,zS]at *);first|(refine qN ?_;omega)|(simp only [Hold];omega))
   |(subst hR;((have hne:A≠[]:=fun q=>by(rw [q]at hcd;(try simp only [qV]at *);(try simp only [zQ,zA,zB,zC,zD,zE,zF,zG,zH,zI,zJ,zK,zL,zM,zN,zO,zP,zR,zS]at *);simp only [List.length_nil]at hcd;omega));(have e9:=h3.trans (umj (by((try simp only [qV]at *);(try simp only [zQ,zA,zB,zC,zD,zE,zF,zG,zH,zI,zJ,zK,zL,zM,zN,zO,zP,zR,zS]at *);omega)) (by rw [←hA];exact hne)));rw [←hA]at e9;rw [e9];exact Fit.refl _);done)
   |(subst hR;((have hz:d.pn.toNat+1-x=0:=by((try simp only [qV]at *);(try simp only [zQ,zA,zB,zC,zD,zE,zF,zG,zH,zI,zJ,zK,zL,zM,zN,zO,zP,zR,zS]at *);omega));rw [hz]at h3;rw [show uau d.pn.toNat (okPa d)=[]from h3];exact Fit.refl _);done)
   |((try simp only [zQ,zA,zB,zC,zD,zE,zF,zG,zH,zI,zJ,zK,zL,zM,zN,zO,zP,zR,zS]at *);(have hAe:A=[]:=List.length_eq_zero_iff.1 (by((try simp only [qV]at *);(try simp only [zQ,zA,zB,zC,zD,zE,zF,zG,zH,zI,zJ,zK,zL,zM,zN,zO,zP,zR,zS]at *);omega)));refine⟨⟨x+1,by((try simp only [qV]at *);(try simp only [zQ,zA,zB,zC,zD,zE,zF,zG,zH,zI,zJ,zK,zL,zM,zN,zO,zP,zR,zS]at *);omega),by rw [show d.pn.toNat+1-(x+1)=d.pn.toNat+1-x-1 by omega,←usm (by((try simp only [qV]at *);(try simp only [zQ,zA,zB,zC,zD,zE,zF,zG,zH,zI,zJ,zK,zL,zM,zN,zO,zP,zR,zS]at *);omega)) (hA.symm.trans hAe)];exact h3⟩,by simp only [];omega,?_⟩;cbv;(repeat' (first|with_reducible refine hold ?_ ?_|with_reducible refine And.intro ?_ ?_));(all_goals first|trivial|exact qM (qE (by rfl))|exact qM (qF (by rfl))|exact qM (Fit.refl _)|exact qL (qK _)|(refine qM (qE ?_);(try simp only [qV]at *);simp only [zQ,zA,zB,zC,zD,zE,zF,zG,zH,zI,zJ,zK,zL,zM,zN,zO,zP,zR,zS]at *;omega)|(refine qL (qJ ?_);(repeat' (first|exact qA|exact qB|refine qC ?_ rfl ?_|refine qD ?_ ?_|exact qE (by rfl)|exact qF (by rfl)|exact Fit.refl _|exact qG _|(refine qE ?_;(try simp only [qV]at *);simp only [zQ,zA,zB,zC,zD,zE,zF,zG,zH,zI,zJ,zK,zL,zM,zN,zO,zP,zR,zS]at *;omega)));done)|(simp only [hAe];exact qL (qK _))|(refine qL (ua8 ?_ ?_);(first|rfl|(simp only [hAe];rfl));intro ix h0 h1;exfalso;simp only [hAe]at h1;(try simp only [qV]at *);(try simp only [zQ,zA,zB,zC,zD,zE,zF,zG,zH,zI,zJ,zK,zL,zM,zN,zO,zP,zR,zS]at *);omega)|skip))
   |skip
end Go.Proofs.YtkdggbfknlcdaaaGreat
namespace Go.Proofs.YtkdggbfknlcdaaaGreat
open Go.Eng.Dif Go.Eng.Few
def ptD (d:Dsp)(i:Nat):Int:=(d.fs.getD i f0T).p
theorem up9 (d:Dsp):okFa d=okF (SN d) (LO d) (FO d d.fs):=funext fun o=>upS
theorem uis {d:Dsp}(h:DOk d):okPa d=okP (SN d) (LO d) (FO d d.fs) (ptD d):=by
 funext o
 unfold okPa okP
 rw [upS]
 unfold okF
 refine ugv (okk h h.f) fun i hi=> ?_
 rw [ucV]at hi
 unfold outP outL
 have e:(thN d o d.fs.length).contains (i:Int)=inL o (d.fs.getD i f0T).p:=uua hi
 rw [e,uht]
 rfl
theorem uwS {d:Dsp}(h:DOk d):∀i,i<(FO d d.fs).length→0≤ptD d i∧ptD d i<(d.pn.toNat:Int):=by
 intro i hi
 rw [ucV]at hi
 have q:=h.f i hi
 have:=h.p1
 unfold ubN at q
 unfold ptD
 omega
theorem uxp {d:Dsp}(h:DOk d)(hl:udv d=true):okFa d (uaK d.fs.length)=true:=by
 rw [up9]
 have:=uoj (okk h h.f)
 rw [ucV]at this
 rw [this,←ueI];exact hl
theorem uwt {d:Dsp}(h:DOk d)(hl:udv d=true):okPa d (uaK d.pn.toNat)=true:=by
 rw [uis h,ukr (okk h h.f) (uwS h),←ueI];exact hl
theorem ufe {d:Dsp}(h:ua9 d=0):okFa d (uaK d.fs.length)=true:=uxp (ua3.1 (uao h).1) (uao h).2
theorem ufo {d:Dsp}(h:ua9 d=0):okPa d (uaK d.pn.toNat)=true:=uwt (ua3.1 (uao h).1) (uao h).2
theorem ugj {n:Nat} {ok:List Int→Bool}(h:ok (uaK n)=true):0<(uau n ok).length∧(uau n ok).getD 0 []=fewL n ok:=by
 have:=unb h
 cases hs:uau n ok with
 |nil=>rw [hs]at this;cases this
 | cons a l=>
  rw [hs]at this
  refine⟨by simp,?_⟩
  have e:some a=some (fewL n ok):=this
  show a=_
  exact Option.some.inj e
def leaL (d:Dsp):List Int:=if ua9 d=0 then fewL d.fs.length (okFa d)else []
def belL (d:Dsp):List Int:=if ua9 d=0 then fewL d.pn.toNat (okPa d)else []
end Go.Proofs.YtkdggbfknlcdaaaGreat
namespace Go.Proofs.YtkdggbfknlcdaaaGreat
open Go Go.Eng Go.Proofs Go.Eng.Dif Go.Eng.Few
set_option maxRecDepth 10000
theorem umF (d:Dsp)(h:ua9 d=0):ua0 Tryz.prog 45 [(.agg [.clo 84 [] [],.clo 85 [] []]),(dspS d)] [] (fun r _=>r=(.tup [(iS ((leaL d))),(iv fun _=>ua9 d)])):=by
 have c59:=ulP d h
 have hd:=ua3.1 (uao h).1
 have hs:=ugj (ufe h)
 have hsm:leaL d=fewL d.fs.length (okFa d):=if_pos h
 rw [hsm,h,←hs.2]
 have hs1:=hs.1
 have c61:=unU d hd
 obtain⟨Q,hQ⟩:∃Q,Q=uau d.fs.length (okFa d):=⟨_,rfl⟩
 rw [←hQ]at c61 hs1⊢
 refine ua0.is fun R hR=>qW (sc:=sc45) tyok mix Tryz.func45 rfl Tryz.call45 (by kernel_rfl) (by kernel_rfl) ?_
 generalize Tryz.prog=P at c59 c61⊢
 cbv
 repeat' (first
  |with_reducible refine hold ?_ ?_
  |with_reducible refine And.intro ?_ ?_
  |(with_reducible intro hcd;(try simp only [zA,zB,zC,zD,zE,zF,zG,zH,zI,zJ,zK,zL,zM,zN,zO,zP]at hcd);try cbv)
  | (refine qP ?_ (c59) ?hfit
     case hfit=>((repeat' (first|exact qB|refine qD ?_ ?_|exact qE (by rfl)|exact qF (by rfl)|exact Fit.refl _|exact qA|refine qC ?_ rfl ?_));done)
     try cbv)
  | (refine qP ?_ (c61) ?hfit
     case hfit=>((repeat' (first|exact qB|refine qD ?_ ?_|exact qE (by rfl)|exact qF (by rfl)|exact Fit.refl _|exact qA|refine qC ?_ rfl ?_));done)
     try cbv)
  |fail)
 all_goals first
  |trivial
  |((try simp only [qV]at *);(try simp only [zQ,zA,zB,zC,zD,zE,zF,zG,zH,zI,zJ,zK,zL,zM,zN,zO,zP,zR,zS]at *);first|(refine qN ?_;omega)|(simp only [Hold];omega))
  |(subst hR;(repeat' (first|exact qA|exact qB|refine qC ?_ rfl ?_|refine qD ?_ ?_|exact qE (by rfl)|exact qF (by rfl)|exact Fit.refl _|exact qG _|(refine qE ?_;(try simp only [qV]at *);simp only [zQ,zA,zB,zC,zD,zE,zF,zG,zH,zI,zJ,zK,zL,zM,zN,zO,zP,zR,zS]at *;omega)));done)
  |skip
theorem un2 (d:Dsp)(h:¬ua9 d=0):ua0 Tryz.prog 45 [(.agg [.clo 84 [] [],.clo 85 [] []]),(dspS d)] [] (fun r _=>r=(.tup [(iS ((leaL d))),(iv fun _=>ua9 d)])):=by
 have c59:=uiq d h
 refine ua0.is fun R hR=>qW (sc:=sc45) tyok mix Tryz.func45 rfl Tryz.call45 (by kernel_rfl) (by kernel_rfl) ?_
 generalize Tryz.prog=P at c59⊢
 cbv
 repeat' (first
  |with_reducible refine And.intro ?_ ?_
  |(with_reducible intro hcd;(try simp only [zA,zB,zC,zD,zE,zF,zG,zH,zI,zJ,zK,zL,zM,zN,zO,zP]at hcd);try cbv)
  | (refine qP ?_ (c59) ?hfit
     case hfit=>((repeat' (first|exact qB|refine qD ?_ ?_|exact qE (by rfl)|exact qF (by rfl)|exact Fit.refl _|exact qA|refine qC ?_ rfl ?_));done)
     try cbv)
  |fail)
 all_goals first
  |trivial
  |(subst hR;(exact qD (qO (by(have e:leaL d=[]:=if_neg h);rw [e];rfl)) (qD (Fit.refl _) qB));done)
  |skip
theorem upX (d:Dsp):ua0 Tryz.prog 45 [(.agg [.clo 84 [] [],.clo 85 [] []]),(dspS d)] [] (fun r _=>r=(.tup [(iS ((leaL d))),(iv fun _=>ua9 d)])):=by
 by_cases h:ua9 d=0
 ·exact umF d h
 ·exact un2 d h
theorem unD (d:Dsp):ua0 Tryz.prog 13 [(dspS d)] [] (fun r _=>r=(.tup [(iS ((leaL d))),(iv fun _=>ua9 d)])):=by
 have cb:=uqk
 have c57:=upX d
 refine ua0.is fun R hR=>qW (sc:=sc13) tyok mix Tryz.func13 rfl Tryz.call13 (by kernel_rfl) (by kernel_rfl) ?_
 generalize Tryz.prog=P at cb c57⊢
 cbv
 repeat' (first
  | (refine qP ?_ (cb) ?hfit
     case hfit=>((repeat' (first|exact qB|refine qD ?_ ?_|exact qE (by rfl)|exact qF (by rfl)|exact Fit.refl _|exact qA|refine qC ?_ rfl ?_));done)
     try cbv)
  | (refine qP ?_ (c57) ?hfit
     case hfit=>((repeat' (first|exact qB|refine qD ?_ ?_|exact qE (by rfl)|exact qF (by rfl)|exact Fit.refl _|exact qA|refine qC ?_ rfl ?_));done)
     try cbv)
  |fail)
 all_goals first
  |(subst hR;(repeat' (first|exact qA|exact qB|refine qC ?_ rfl ?_|refine qD ?_ ?_|exact qE (by rfl)|exact qF (by rfl)|exact Fit.refl _|exact qG _|(refine qE ?_;(try simp only [qV]at *);simp only [zQ,zA,zB,zC,zD,zE,zF,zG,zH,zI,zJ,zK,zL,zM,zN,zO,zP,zR,zS]at *;omega)));done)
  |skip
theorem umx (d:Dsp)(h:ua9 d=0):ua0 Tryz.prog 45 [(.agg [.clo 86 [] [],.clo 87 [] []]),(dspS d)] [] (fun r _=>r=(.tup [(iS ((belL d))),(iv fun _=>ua9 d)])):=by
 have c59:=ulP d h
 have hd:=ua3.1 (uao h).1
 have hs:=ugj (ufo h)
 have hsm:belL d=fewL d.pn.toNat (okPa d):=if_pos h
 rw [hsm,h,←hs.2]
 have hs1:=hs.1
 have c61:=ugg d hd
 obtain⟨Q,hQ⟩:∃Q,Q=uau d.pn.toNat (okPa d):=⟨_,rfl⟩
 rw [←hQ]at c61 hs1⊢
 refine ua0.is fun R hR=>qW (sc:=sc45) tyok mix Tryz.func45 rfl Tryz.call45 (by kernel_rfl) (by kernel_rfl) ?_
 generalize Tryz.prog=P at c59 c61⊢
 cbv
 repeat' (first
  |with_reducible refine hold ?_ ?_
  |with_reducible refine And.intro ?_ ?_
  |(with_reducible intro hcd;(try simp only [zA,zB,zC,zD,zE,zF,zG,zH,zI,zJ,zK,zL,zM,zN,zO,zP]at hcd);try cbv)
  | (refine qP ?_ (c59) ?hfit
     case hfit=>((repeat' (first|exact qB|refine qD ?_ ?_|exact qE (by rfl)|exact qF (by rfl)|exact Fit.refl _|exact qA|refine qC ?_ rfl ?_));done)
     try cbv)
  | (refine qP ?_ (c61) ?hfit
     case hfit=>((repeat' (first|exact qB|refine qD ?_ ?_|exact qE (by rfl)|exact qF (by rfl)|exact Fit.refl _|exact qA|refine qC ?_ rfl ?_));done)
     try cbv)
  |fail)
 all_goals first
  |trivial
  |((try simp only [qV]at *);(try simp only [zQ,zA,zB,zC,zD,zE,zF,zG,zH,zI,zJ,zK,zL,zM,zN,zO,zP,zR,zS]at *);first|(refine qN ?_;omega)|(simp only [Hold];omega))
  |(subst hR;(repeat' (first|exact qA|exact qB|refine qC ?_ rfl ?_|refine qD ?_ ?_|exact qE (by rfl)|exact qF (by rfl)|exact Fit.refl _|exact qG _|(refine qE ?_;(try simp only [qV]at *);simp only [zQ,zA,zB,zC,zD,zE,zF,zG,zH,zI,zJ,zK,zL,zM,zN,zO,zP,zR,zS]at *;omega)));done)
  |skip
theorem umq (d:Dsp)(h:¬ua9 d=0):ua0 Tryz.prog 45 [(.agg [.clo 86 [] [],.clo 87 [] []]),(dspS d)] [] (fun r _=>r=(.tup [(iS ((belL d))),(iv fun _=>ua9 d)])):=by
 have c59:=uiq d h
 refine ua0.is fun R hR=>qW (sc:=sc45) tyok mix Tryz.func45 rfl Tryz.call45 (by kernel_rfl) (by kernel_rfl) ?_
 generalize Tryz.prog=P at c59⊢
 cbv
 repeat' (first
  |with_reducible refine And.intro ?_ ?_
  |(with_reducible intro hcd;(try simp only [zA,zB,zC,zD,zE,zF,zG,zH,zI,zJ,zK,zL,zM,zN,zO,zP]at hcd);try cbv)
  | (refine qP ?_ (c59) ?hfit
     case hfit=>((repeat' (first|exact qB|refine qD ?_ ?_|exact qE (by rfl)|exact qF (by rfl)|exact Fit.refl _|exact qA|refine qC ?_ rfl ?_));done)
     try cbv)
  |fail)
 all_goals first
  |trivial
  |(subst hR;(exact qD (qO (by(have e:belL d=[]:=if_neg h);rw [e];rfl)) (qD (Fit.refl _) qB));done)
  |skip
theorem uol (d:Dsp):ua0 Tryz.prog 45 [(.agg [.clo 86 [] [],.clo 87 [] []]),(dspS d)] [] (fun r _=>r=(.tup [(iS ((belL d))),(iv fun _=>ua9 d)])):=by
 by_cases h:ua9 d=0
 ·exact umx d h
 ·exact umq d h
theorem ucR (d:Dsp):ua0 Tryz.prog 18 [(dspS d)] [] (fun r _=>r=(.tup [(iS ((belL d))),(iv fun _=>ua9 d)])):=by
 have cb:=ugL
 have c57:=uol d
 refine ua0.is fun R hR=>qW (sc:=sc18) tyok mix Tryz.func18 rfl Tryz.call18 (by kernel_rfl) (by kernel_rfl) ?_
 generalize Tryz.prog=P at cb c57⊢
 cbv
 repeat' (first
  | (refine qP ?_ (cb) ?hfit
     case hfit=>((repeat' (first|exact qB|refine qD ?_ ?_|exact qE (by rfl)|exact qF (by rfl)|exact Fit.refl _|exact qA|refine qC ?_ rfl ?_));done)
     try cbv)
  | (refine qP ?_ (c57) ?hfit
     case hfit=>((repeat' (first|exact qB|refine qD ?_ ?_|exact qE (by rfl)|exact qF (by rfl)|exact Fit.refl _|exact qA|refine qC ?_ rfl ?_));done)
     try cbv)
  |fail)
 all_goals first
  |(subst hR;(repeat' (first|exact qA|exact qB|refine qC ?_ rfl ?_|refine qD ?_ ?_|exact qE (by rfl)|exact qF (by rfl)|exact Fit.refl _|exact qG _|(refine qE ?_;(try simp only [qV]at *);simp only [zQ,zA,zB,zC,zD,zE,zF,zG,zH,zI,zJ,zK,zL,zM,zN,zO,zP,zR,zS]at *;omega)));done)
  |skip
end Go.Proofs.YtkdggbfknlcdaaaGreat
namespace Go.Proofs.YtkdggbfknlcdaaaGreat
open Go.Eng.Dif Go.Eng.Few
theorem ukJ {L:List (List Int)} {i:Nat}(h:i<L.length):L.getD i []∈L:=by
 rw [List.getD_eq_getElem?_getD,List.getElem?_eq_getElem h];exact List.getElem_mem h
theorem up6 {L:List (List Int)} {x:List Int}(h:x∈L):∃i,i<L.length∧L.getD i []=x:=by
 obtain⟨i,h1,h2⟩:=List.getElem_of_mem h
 exact⟨i,h1,by rw [List.getD_eq_getElem?_getD,List.getElem?_eq_getElem h1];exact h2⟩
theorem usx (L:List (List Int))(p:Int):allB (fun i=>inL (L.getD i []) p) L.length=L.all fun F=>F.contains p:=by
 apply Bool.eq_iff_iff.2
 rw [uan,List.all_eq_true]
 constructor
 ·intro h x hx
  obtain⟨i,h1,h2⟩:=up6 hx
  rw [←h2,←uht];exact h i h1
 ·intro h i hi
  rw [uht];exact h _ (ukJ hi)
theorem us0 (L:List (List Int))(p:Int):decide (0≤fidx (fun i=> !(inL (L.getD i []) p)) L.length 0)=L.any fun F=>F.contains p:=by
 apply Bool.eq_iff_iff.2
 rw [decide_eq_true_eq,uhW,List.any_eq_true]
 constructor
 ·rintro⟨j,_,h2,h3⟩
  refine⟨L.getD j [],ukJ (by omega),?_⟩
  rw [←uht]
  simpa using h3
 ·rintro⟨x,hx,hp⟩
  obtain⟨i,h1,h2⟩:=up6 hx
  refine⟨i,by omega,by omega,?_⟩
  rw [h2,uht,hp];rfl
def mstF (d:Dsp):Nat→Bool:=ugu d.pn.toNat (okPa d)
def mayF (d:Dsp):Nat→Bool:=ugh d.pn.toNat (okPa d)
def mstL (d:Dsp):List Int:=if ua9 d=0 then selL (mstF d) d.pn.toNat else []
def mayL (d:Dsp):List Int:=if ua9 d=0 then selL (mayF d) d.pn.toNat else []
theorem upR {f:Nat→Bool} {k:Nat}(h:f k=true):selL f (k+1)=selL f k++[(k:Int)]:=by simp only [selL,h,if_true]
theorem unW {f:Nat→Bool} {k:Nat}(h:f k=false):selL f (k+1)=selL f k:=by simp only [selL,h,Bool.false_eq_true,if_false]
theorem uhM (f:Nat→Bool):∀n,(selL f n).length≤n:=by
 intro n
 induction n with
 |zero=>exact Nat.le_refl _
 | succ n ih=>
  cases h:f n with
  |true=>rw [upR h,List.length_append];simp only [List.length_cons,List.length_nil];omega
  |false=>rw [unW h];omega
theorem uiK {n:Nat} {ok:List Int→Bool}(hn:n≤4)(h:ok (uaK n)=true):(uau n ok).length≤1000∧∀i,((uau n ok).getD i []).length≤1000:=by
 have hl:∀F∈uau n ok,F.length≤4:=fun F hF=>by
  have q:=(ubp h).1 hF
  have:=ug2 h
  omega
 constructor
 ·obtain⟨j,h1,h2,_,_⟩:=ui4 h
  rw [h2]
  exact Nat.le_trans ulj (Nat.le_trans (Nat.pow_le_pow_left hn j) (Nat.le_trans (Nat.pow_le_pow_right (by omega) (show j≤4 by omega)) (by decide)))
 ·intro i
  rcases Nat.lt_or_ge i (uau n ok).length with q|q
  ·have:=hl _ (ukJ q);omega
  ·rw [List.getD_eq_getElem?_getD,List.getElem?_eq_none q];simp
end Go.Proofs.YtkdggbfknlcdaaaGreat
namespace Go.Proofs.YtkdggbfknlcdaaaGreat
open Go Go.Eng Go.Proofs Go.Eng.Dif Go.Eng.Few
set_option maxRecDepth 10000
theorem upD (x:List Int)(p:Int)(hx:x.length≤1000):ua0 Tryz.prog 52 [(iS x),.own 0 0] [.cells [(iv fun _=>p)] 3] (fun r bs=>r=(.bool (.sym fun _=>inL x p))∧bs=[.cells [(iv fun _=>p)] 3]):=by
 have c63:=ufB x p hx
 refine ua0.isB rfl fun R B hR hB=>qW (sc:=sc52) tyok mix Tryz.func52 rfl Tryz.call52 (by kernel_rfl) (by kernel_rfl) ?_
 generalize Tryz.prog=P at c63⊢
 cbv
 repeat' (first
  |with_reducible refine And.intro ?_ ?_
  | (refine qP ?_ (c63) ?hfit
     case hfit=>((repeat' (first|exact qB|refine qD ?_ ?_|exact qE (by rfl)|exact qF (by rfl)|exact Fit.refl _|exact qA|refine qC ?_ rfl ?_));done)
     try cbv)
  |fail)
 all_goals first
  |(subst hR;(repeat' (first|exact qA|exact qB|refine qC ?_ rfl ?_|refine qD ?_ ?_|exact qE (by rfl)|exact qF (by rfl)|exact Fit.refl _|exact qG _|(refine qE ?_;(try simp only [qV]at *);simp only [zQ,zA,zB,zC,zD,zE,zF,zG,zH,zI,zJ,zK,zL,zM,zN,zO,zP,zR,zS]at *;omega)));done)
  |(subst hB;(repeat' (first|exact qH|refine qI ?_ ?_|exact qK _|refine qJ ?_|exact qA|exact qE (by rfl)|exact qF (by rfl)|exact Fit.refl _|exact qG _|refine qC ?_ rfl ?_));done)
  |skip
theorem umO (L:List (List Int))(p:Int)(hL:∀i,(L.getD i []).length≤1000)(hfew:L.length≤1000)(i:Nat)(hi:i<L.length∧∀j,j<i→(inL (L.getD (j) []) p)=true):ua0 Tryz.prog 91 [(.sl 1 (.sym fun _=>zi ((L.getD (i) [])).length) (fun ix=>[(iv fun _=>((L.getD (i) [])).getD ix.den.toNat 0)])),.own 0 0] [.cells [.clo 52 [] [.own 1 0]] 117,.cells [(iv fun _=>p)] 3] (fun r bs=>r=(.bool (.sym fun _=> !(inL (L.getD (i) []) p)))∧bs=[.cells [.clo 52 [] [.own 1 0]] 117,.cells [(iv fun _=>p)] 3]):=by
 have cf:=upD (L.getD i []) p (hL i)
 refine ua0.isB rfl fun R B hR hB=>qW (sc:=sc91) tyok mix Tryz.func91 rfl Tryz.call91 (by kernel_rfl) (by kernel_rfl) ?_
 generalize Tryz.prog=P at cf⊢
 cbv
 repeat' (first
  |with_reducible refine And.intro ?_ ?_
  | (refine⟨some [1],?_⟩
     cbv
     refine qQ ?_ (cf) (by cbv;(repeat' (first|exact qB|refine qD ?_ ?_|exact qE (by rfl)|exact qF (by rfl)|exact Fit.refl _|exact qA|refine qC ?_ rfl ?_))) (by cbv;(repeat' (first|exact qH|refine qI ?_ ?_|exact qK _|refine qJ ?_|exact qA|exact qE (by rfl)|exact qF (by rfl)|exact Fit.refl _|exact qG _|refine qC ?_ rfl ?_)))
     try cbv)
  |fail)
 all_goals first
  |(subst hR;(repeat' (first|exact qA|exact qB|refine qC ?_ rfl ?_|refine qD ?_ ?_|exact qE (by rfl)|exact qF (by rfl)|exact Fit.refl _|exact qG _|(refine qE ?_;(try simp only [qV]at *);simp only [zQ,zA,zB,zC,zD,zE,zF,zG,zH,zI,zJ,zK,zL,zM,zN,zO,zP,zR,zS]at *;omega)));done)
  |(subst hB;(repeat' (first|exact qH|refine qI ?_ ?_|exact qK _|refine qJ ?_|exact qA|exact qE (by rfl)|exact qF (by rfl)|exact Fit.refl _|exact qG _|refine qC ?_ rfl ?_));done)
  |skip
theorem umV (L:List (List Int))(p:Int)(hL:∀i,(L.getD i []).length≤1000)(hfew:L.length≤1000):ua0 Tryz.prog 92 [(.sl 1 (.sym fun _=>zi (L).length) (fun ix=>[(.sl 1 (.sym fun _=>zi ((L).getD ix.den.toNat []).length) (fun jx=>[(iv fun _=>((L).getD ix.den.toNat []).getD jx.den.toNat 0)]))])),.clo 91 [] [.own 0 0]] [.cells [.clo 52 [] [.own 1 0]] 117,.cells [(iv fun _=>p)] 3] (fun r bs=>r=(iv fun _=>fidx (fun i=>inL (L.getD (i) []) p) (L.length) 0)∧bs=[.cells [.clo 52 [] [.own 1 0]] 117,.cells [(iv fun _=>p)] 3]):=by
 have cl:=umO L p hL hfew
 refine ua0.isB rfl fun R B hR hB=>qW (sc:=sc92) tyok mix Tryz.func92 rfl Tryz.call92 (by kernel_rfl) (by kernel_rfl) ?_
 generalize Tryz.prog=P at cl⊢
 cbv
 repeat' (first
  |fail)
 all_goals first
  |skip
 refine⟨none,[],{i:Nat // i≤L.length∧fidx (fun i=>inL (L.getD (i) []) p) (L.length) 0=fidx (fun i=>inL (L.getD (i) []) p) (L.length-i) i∧∀j,j<i→(inL (L.getD (j) []) p)=true},fun x=>⟨[(0,(.sl 1 (.sym fun _=>zi (L).length) (fun ix=>[(.sl 1 (.sym fun _=>zi ((L).getD ix.den.toNat []).length) (fun jx=>[(iv fun _=>((L).getD ix.den.toNat []).getD jx.den.toNat 0)]))]))),(1,.clo 91 [] [.own 0 0]),(7,(iv fun _=>zi (L.length))),(8,(iv fun _=>zi x.1))],[(0,.cells [.clo 52 [] [.own 1 0]] 117),(1,.cells [(iv fun _=>p)] 3)],20⟩,fun x=>L.length-x.1,?_,?_⟩
 ·refine⟨⟨0,by omega,rfl,fun j hj=>by omega⟩,?_⟩
  cbv
  repeat' (first
   |with_reducible refine hold ?_ ?_
   |with_reducible refine And.intro ?_ ?_)
  all_goals first
   |trivial
   |exact qM (qE (by rfl))
   |exact qM (Fit.refl _)
   |exact qL (qK _)
   |skip
 ·rintro ⟨i,hi,hr,hq⟩
  cbv
  repeat' (first
   |with_reducible refine hold ?_ ?_
   |with_reducible refine And.intro ?_ ?_
   |(with_reducible intro hcd;(try simp only [zA,zB,zC,zD,zE,zF,zG,zH,zI,zJ,zK,zL,zM,zN,zO,zP]at hcd);try cbv)
   | (refine⟨some [0,1],?_⟩
      cbv
      refine qQ ?_ (cl i ⟨by(try simp only [qV]at *);simp only [uab]at *;omega,hq⟩) (by cbv;(repeat' (first|exact qB|refine qD ?_ ?_|exact qE (by rfl)|exact qF (by rfl)|exact Fit.refl _|exact qA|refine qC ?_ rfl ?_))) (by cbv;(repeat' (first|exact qH|refine qI ?_ ?_|exact qK _|refine qJ ?_|exact qA|exact qE (by rfl)|exact qF (by rfl)|exact Fit.refl _|exact qG _|refine qC ?_ rfl ?_)))
      try cbv)
   |fail)
  all_goals first
   |((try simp only [qV]at *);(try simp only [zQ,zA,zB,zC,zD,zE,zF,zG,zH,zI,zJ,zK,zL,zM,zN,zO,zP,zR,zS]at *);first|(refine qN ?_;omega)|(simp only [Hold];omega))
   |(subst hR;(refine qE ?_;simp only [zQ,zA,zB,zC,zD,zE,zF,zG,zH,zI,zJ,zK,zL,zM,zN,zO,zP,zR,zS]at *;rw [hr,ubJ (by omega) hcd]);done)
   |(subst hR;(refine qE ?_;simp only [zQ,zA,zB,zC,zD,zE,zF,zG,zH,zI,zJ,zK,zL,zM,zN,zO,zP,zR,zS]at *;rw [hr,show L.length-i=0 by omega];rfl);done)
   |(subst hB;(repeat' (first|exact qH|refine qI ?_ ?_|exact qK _|refine qJ ?_|exact qA|exact qE (by rfl)|exact qF (by rfl)|exact Fit.refl _|exact qG _|refine qC ?_ rfl ?_));done)
   |((try simp only [zQ,zA,zB,zC,zD,zE,zF,zG,zH,zI,zJ,zK,zL,zM,zN,zO,zP,zR,zS]at *);refine⟨⟨i+1,by omega,by rw [hr,ud6 (by omega) hcd];(try congr 1)<;>omega,fun j hj=>(Nat.lt_or_ge j i).elim (hq j) (fun q=>by rw [show j=i by omega];exact hcd)⟩,by simp only [];omega,?_⟩;cbv;(repeat' (first|with_reducible refine hold ?_ ?_|with_reducible refine And.intro ?_ ?_));(all_goals first|trivial|exact qM (qE (by rfl))|exact qM (qF (by rfl))|exact qM (Fit.refl _)|exact qL (qK _)|(refine qM (qE ?_);(try simp only [qV]at *);simp only [zQ,zA,zB,zC,zD,zE,zF,zG,zH,zI,zJ,zK,zL,zM,zN,zO,zP,zR,zS]at *;omega)|(refine qL (qJ ?_);(repeat' (first|exact qA|exact qB|refine qC ?_ rfl ?_|refine qD ?_ ?_|exact qE (by rfl)|exact qF (by rfl)|exact Fit.refl _|exact qG _|(refine qE ?_;(try simp only [qV]at *);simp only [zQ,zA,zB,zC,zD,zE,zF,zG,zH,zI,zJ,zK,zL,zM,zN,zO,zP,zR,zS]at *;omega)));done)|skip))
   |skip
theorem ukD (L:List (List Int))(p:Int)(hL:∀i,(L.getD i []).length≤1000)(hfew:L.length≤1000):ua0 Tryz.prog 55 [(.sl 1 (.sym fun _=>zi (L).length) (fun ix=>[(.sl 1 (.sym fun _=>zi ((L).getD ix.den.toNat []).length) (fun jx=>[(iv fun _=>((L).getD ix.den.toNat []).getD jx.den.toNat 0)]))])),.clo 91 [] [.own 0 0]] [.cells [.clo 52 [] [.own 1 0]] 117,.cells [(iv fun _=>p)] 3] (fun r bs=>r=(.bool (.sym fun _=>decide (0≤fidx (fun i=>inL (L.getD (i) []) p) (L.length) 0)))∧bs=[.cells [.clo 52 [] [.own 1 0]] 117,.cells [(iv fun _=>p)] 3]):=by
 have ci:=umV L p hL hfew
 refine ua0.isB rfl fun R B hR hB=>qW (sc:=sc55) tyok mix Tryz.func55 rfl Tryz.call55 (by kernel_rfl) (by kernel_rfl) ?_
 generalize Tryz.prog=P at ci⊢
 cbv
 repeat' (first
  |with_reducible refine And.intro ?_ ?_
  | (refine⟨some [0,1],?_⟩
     cbv
     refine qQ ?_ (ci) (by cbv;(repeat' (first|exact qB|refine qD ?_ ?_|exact qE (by rfl)|exact qF (by rfl)|exact Fit.refl _|exact qA|refine qC ?_ rfl ?_))) (by cbv;(repeat' (first|exact qH|refine qI ?_ ?_|exact qK _|refine qJ ?_|exact qA|exact qE (by rfl)|exact qF (by rfl)|exact Fit.refl _|exact qG _|refine qC ?_ rfl ?_)))
     try cbv)
  |fail)
 all_goals first
  |(subst hR;(repeat' (first|exact qA|exact qB|refine qC ?_ rfl ?_|refine qD ?_ ?_|exact qE (by rfl)|exact qF (by rfl)|exact Fit.refl _|exact qG _|(refine qE ?_;(try simp only [qV]at *);simp only [zQ,zA,zB,zC,zD,zE,zF,zG,zH,zI,zJ,zK,zL,zM,zN,zO,zP,zR,zS]at *;omega)));done)
  |(subst hB;(repeat' (first|exact qH|refine qI ?_ ?_|exact qK _|refine qJ ?_|exact qA|exact qE (by rfl)|exact qF (by rfl)|exact Fit.refl _|exact qG _|refine qC ?_ rfl ?_));done)
  |skip
theorem uhe (L:List (List Int))(p:Int)(hL:∀i,(L.getD i []).length≤1000)(hfew:L.length≤1000):ua0 Tryz.prog 54 [(.sl 1 (.sym fun _=>zi (L).length) (fun ix=>[(.sl 1 (.sym fun _=>zi ((L).getD ix.den.toNat []).length) (fun jx=>[(iv fun _=>((L).getD ix.den.toNat []).getD jx.den.toNat 0)]))])),.clo 52 [] [.own 0 0]] [.cells [(iv fun _=>p)] 3] (fun r bs=>r=(.bool (.sym fun _=>allB (fun i=>inL (L.getD (i) []) p) (L.length)))∧bs=[.cells [(iv fun _=>p)] 3]):=by
 have cc:=ukD L p hL hfew
 refine ua0.isB rfl fun R B hR hB=>qW (sc:=sc54) tyok mix Tryz.func54 rfl Tryz.call54 (by kernel_rfl) (by kernel_rfl) ?_
 generalize Tryz.prog=P at cc⊢
 cbv
 repeat' (first
  |with_reducible refine And.intro ?_ ?_
  | (refine⟨some [1,0],?_⟩
     cbv
     refine qQ ?_ (cc) (by cbv;(repeat' (first|exact qB|refine qD ?_ ?_|exact qE (by rfl)|exact qF (by rfl)|exact Fit.refl _|exact qA|refine qC ?_ rfl ?_))) (by cbv;(repeat' (first|exact qH|refine qI ?_ ?_|exact qK _|refine qJ ?_|exact qA|exact qE (by rfl)|exact qF (by rfl)|exact Fit.refl _|exact qG _|refine qC ?_ rfl ?_)))
     try cbv)
  |fail)
 all_goals first
  |(subst hR;(repeat' (first|exact qA|exact qB|refine qC ?_ rfl ?_|refine qD ?_ ?_|exact qE (by rfl)|exact qF (by rfl)|exact Fit.refl _|exact qG _|(refine qE ?_;(try simp only [qV]at *);simp only [zQ,zA,zB,zC,zD,zE,zF,zG,zH,zI,zJ,zK,zL,zM,zN,zO,zP,zR,zS]at *;omega)));done)
  |(subst hB;(repeat' (first|exact qH|refine qI ?_ ?_|exact qK _|refine qJ ?_|exact qA|exact qE (by rfl)|exact qF (by rfl)|exact Fit.refl _|exact qG _|refine qC ?_ rfl ?_));done)
  |skip
theorem unA (L:List (List Int))(p:Int)(hL:∀i,(L.getD i []).length≤1000)(hfew:L.length≤1000):ua0 Tryz.prog 92 [(.sl 1 (.sym fun _=>zi (L).length) (fun ix=>[(.sl 1 (.sym fun _=>zi ((L).getD ix.den.toNat []).length) (fun jx=>[(iv fun _=>((L).getD ix.den.toNat []).getD jx.den.toNat 0)]))])),.clo 52 [] [.own 0 0]] [.cells [(iv fun _=>p)] 3] (fun r bs=>r=(iv fun _=>fidx (fun i=> !(inL (L.getD i []) p)) L.length 0)∧bs=[.cells [(iv fun _=>p)] 3]):=by
 have c62:=fun (i:Nat)=>upD (L.getD i []) p (hL i)
 refine ua0.isB rfl fun R B hR hB=>qW (sc:=sc92) tyok mix Tryz.func92 rfl Tryz.call92 (by kernel_rfl) (by kernel_rfl) ?_
 generalize Tryz.prog=P at c62⊢
 cbv
 repeat' (first
  |fail)
 all_goals first
  |skip
 refine⟨none,[],{i:Nat // i≤L.length∧fidx (fun i=> !(inL (L.getD i []) p)) L.length 0=fidx (fun i=> !(inL (L.getD i []) p)) (L.length-i) i},fun x=>⟨[(0,(.sl 1 (.sym fun _=>zi (L).length) (fun ix=>[(.sl 1 (.sym fun _=>zi ((L).getD ix.den.toNat []).length) (fun jx=>[(iv fun _=>((L).getD ix.den.toNat []).getD jx.den.toNat 0)]))]))),(1,.clo 52 [] [.own 0 0]),(7,(iv fun _=>zi L.length)),(8,(iv fun _=>zi x.1))],[(0,.cells [(iv fun _=>p)] 3)],20⟩,fun x=>L.length-x.1,?_,?_⟩
 ·refine⟨⟨0,by omega,rfl⟩,?_⟩
  cbv
  repeat' (first
   |with_reducible refine hold ?_ ?_
   |with_reducible refine And.intro ?_ ?_)
  all_goals first
   |trivial
   |exact qM (qE (by rfl))
   |exact qM (Fit.refl _)
   |exact qL (qK _)
   |skip
 ·rintro ⟨i,hi,hr⟩
  cbv
  repeat' (first
   |with_reducible refine hold ?_ ?_
   |with_reducible refine And.intro ?_ ?_
   |(with_reducible intro hcd;(try simp only [zA,zB,zC,zD,zE,zF,zG,zH,zI,zJ,zK,zL,zM,zN,zO,zP]at hcd);try cbv)
   | (refine⟨some [0],?_⟩
      cbv
      refine qQ ?_ (c62 i) ?hfit ?hbo
      case hfit=>(cbv;(repeat' (first|exact qB|refine qD ?_ ?_|exact qE (by rfl)|exact qF (by rfl)|exact Fit.refl _|exact qA|refine qC ?_ rfl ?_));done)
      case hbo=>(cbv;(repeat' (first|exact qH|refine qI ?_ ?_|exact qK _|refine qJ ?_|exact qA|exact qE (by rfl)|exact qF (by rfl)|exact Fit.refl _|exact qG _|refine qC ?_ rfl ?_));done)
      try cbv)
   |fail)
  all_goals first
   |((try simp only [qV]at *);(try simp only [zQ,zA,zB,zC,zD,zE,zF,zG,zH,zI,zJ,zK,zL,zM,zN,zO,zP,zR,zS]at *);first|(refine qN ?_;omega)|(simp only [Hold];omega))
   |(subst hR;(refine qE ?_;(try simp only [qV]at *);(try simp only [zQ,zA,zB,zC,zD,zE,zF,zG,zH,zI,zJ,zK,zL,zM,zN,zO,zP,zR,zS]at *);rw [hr,ubJ (by omega) (by rw [hcd];rfl)]);done)
   |(subst hR;(refine qE ?_;(try simp only [qV]at *);(try simp only [zQ,zA,zB,zC,zD,zE,zF,zG,zH,zI,zJ,zK,zL,zM,zN,zO,zP,zR,zS]at *);rw [hr,show L.length-i=0 by omega];rfl);done)
   |(subst hB;(repeat' (first|exact qH|refine qI ?_ ?_|exact qK _|refine qJ ?_|exact qA|exact qE (by rfl)|exact qF (by rfl)|exact Fit.refl _|exact qG _|refine qC ?_ rfl ?_));done)
   |((try simp only [zQ,zA,zB,zC,zD,zE,zF,zG,zH,zI,zJ,zK,zL,zM,zN,zO,zP,zR,zS]at *);refine⟨⟨i+1,by omega,by rw [hr,ud6 (by omega) (by rw [hcd];rfl)];(try congr 1)<;>omega⟩,by simp only [];omega,?_⟩;cbv;(repeat' (first|with_reducible refine hold ?_ ?_|with_reducible refine And.intro ?_ ?_));(all_goals first|trivial|exact qM (qE (by rfl))|exact qM (qF (by rfl))|exact qM (Fit.refl _)|exact qL (qK _)|(refine qM (qE ?_);(try simp only [qV]at *);simp only [zQ,zA,zB,zC,zD,zE,zF,zG,zH,zI,zJ,zK,zL,zM,zN,zO,zP,zR,zS]at *;omega)|(refine qL (qJ ?_);(repeat' (first|exact qA|exact qB|refine qC ?_ rfl ?_|refine qD ?_ ?_|exact qE (by rfl)|exact qF (by rfl)|exact Fit.refl _|exact qG _|(refine qE ?_;(try simp only [qV]at *);simp only [zQ,zA,zB,zC,zD,zE,zF,zG,zH,zI,zJ,zK,zL,zM,zN,zO,zP,zR,zS]at *;omega)));done)|skip))
   |skip
theorem uhl (L:List (List Int))(p:Int)(hL:∀i,(L.getD i []).length≤1000)(hfew:L.length≤1000):ua0 Tryz.prog 55 [(.sl 1 (.sym fun _=>zi (L).length) (fun ix=>[(.sl 1 (.sym fun _=>zi ((L).getD ix.den.toNat []).length) (fun jx=>[(iv fun _=>((L).getD ix.den.toNat []).getD jx.den.toNat 0)]))])),.clo 52 [] [.own 0 0]] [.cells [(iv fun _=>p)] 3] (fun r bs=>r=(.bool (.sym fun _=>decide (0≤fidx (fun i=> !(inL (L.getD i []) p)) L.length 0)))∧bs=[.cells [(iv fun _=>p)] 3]):=by
 have c97:=unA L p hL hfew
 refine ua0.isB rfl fun R B hR hB=>qW (sc:=sc55) tyok mix Tryz.func55 rfl Tryz.call55 (by kernel_rfl) (by kernel_rfl) ?_
 generalize Tryz.prog=P at c97⊢
 cbv
 repeat' (first
  |with_reducible refine And.intro ?_ ?_
  | (refine⟨some [0],?_⟩
     cbv
     refine qQ ?_ (c97) ?hfit ?hbo
     case hfit=>(cbv;(repeat' (first|exact qB|refine qD ?_ ?_|exact qE (by rfl)|exact qF (by rfl)|exact Fit.refl _|exact qA|refine qC ?_ rfl ?_));done)
     case hbo=>(cbv;(repeat' (first|exact qH|refine qI ?_ ?_|exact qK _|refine qJ ?_|exact qA|exact qE (by rfl)|exact qF (by rfl)|exact Fit.refl _|exact qG _|refine qC ?_ rfl ?_));done)
     try cbv)
  |fail)
 all_goals first
  |(subst hR;(repeat' (first|exact qA|exact qB|refine qC ?_ rfl ?_|refine qD ?_ ?_|exact qE (by rfl)|exact qF (by rfl)|exact Fit.refl _|exact qG _|(refine qE ?_;(try simp only [qV]at *);simp only [zQ,zA,zB,zC,zD,zE,zF,zG,zH,zI,zJ,zK,zL,zM,zN,zO,zP,zR,zS]at *;omega)));done)
  |(subst hB;(repeat' (first|exact qH|refine qI ?_ ?_|exact qK _|refine qJ ?_|exact qA|exact qE (by rfl)|exact qF (by rfl)|exact Fit.refl _|exact qG _|refine qC ?_ rfl ?_));done)
  |skip
set_option maxHeartbeats 2000000 in
theorem ur6 (d:Dsp)(h:ua9 d=0):ua0 Tryz.prog 19 [(dspS d)] [] (fun r _=>r=(.tup [(iS ((mstL d))),(iS ((mayL d))),(iv fun _=>ua9 d)])):=by
 have c59:=ulP d h
 have c58:=ugL
 have hF:=(uao h).1
 have hd:=ua3.1 hF
 have p1:=hd.p1
 have p4:=hd.p4
 have c61:=ugg d hd
 have hsf:=uiK (n:=d.pn.toNat) (ok:=okPa d) (by omega) (ufo h)
 rw [show mstL d=selL (mstF d) d.pn.toNat from if_pos h,show mayL d=selL (mayF d) d.pn.toNat from if_pos h,h]
 have hA:∀k:Nat,allB (fun i=>inL ((uau d.pn.toNat (okPa d)).getD i []) (zi k)) (uau d.pn.toNat (okPa d)).length=mstF d k:=fun k=>usx _ _
 have hB:∀k:Nat,decide (0≤fidx (fun i=> !(inL ((uau d.pn.toNat (okPa d)).getD i []) (zi k))) (uau d.pn.toNat (okPa d)).length 0)=mayF d k:=fun k=>us0 _ _
 obtain⟨L,hL⟩:∃L,L=uau d.pn.toNat (okPa d):=⟨_,rfl⟩
 rw [←hL]at c61 hsf
 simp only [←hL]at hA hB
 have c64:=fun k:Nat=>(show ua0 Tryz.prog 54 [(.sl 1 (.sym fun _=>zi (L).length) (fun ix=>[(.sl 1 (.sym fun _=>zi ((L).getD ix.den.toNat []).length) (fun jx=>[(iv fun _=>((L).getD ix.den.toNat []).getD jx.den.toNat 0)]))])),.clo 52 [] [.own 0 0]] [.cells [(iv fun _=>zi k)] 3] (fun r bs=>r=(.bool (.sym fun _=>mstF d k))∧bs=[.cells [(iv fun _=>zi k)] 3])from hA k▸uhe L (zi k) hsf.2 hsf.1)
 have c65:=fun k:Nat=>(show ua0 Tryz.prog 55 [(.sl 1 (.sym fun _=>zi (L).length) (fun ix=>[(.sl 1 (.sym fun _=>zi ((L).getD ix.den.toNat []).length) (fun jx=>[(iv fun _=>((L).getD ix.den.toNat []).getD jx.den.toNat 0)]))])),.clo 52 [] [.own 0 0]] [.cells [(iv fun _=>zi k)] 3] (fun r bs=>r=(.bool (.sym fun _=>mayF d k))∧bs=[.cells [(iv fun _=>zi k)] 3])from hB k▸uhl L (zi k) hsf.2 hsf.1)
 obtain⟨fA,hfA⟩:∃f,f=mstF d:=⟨_,rfl⟩
 obtain⟨fB,hfB⟩:∃f,f=mayF d:=⟨_,rfl⟩
 rw [←hfA]at c64⊢
 rw [←hfB]at c65⊢
 clear hA hB hL hfA hfB
 refine ua0.is fun R hR=>qW (sc:=sc19) tyok mix Tryz.func19 rfl Tryz.call19 (by kernel_rfl) (by kernel_rfl) ?_
 generalize Tryz.prog=P at c59 c58 c61 c64 c65⊢
 cbv
 repeat' (first
  |with_reducible refine And.intro ?_ ?_
  |(with_reducible intro hcd;(try simp only [zA,zB,zC,zD,zE,zF,zG,zH,zI,zJ,zK,zL,zM,zN,zO,zP]at hcd);try cbv)
  | (refine qP ?_ (c59) ?hfit
     case hfit=>((repeat' (first|exact qB|refine qD ?_ ?_|exact qE (by rfl)|exact qF (by rfl)|exact Fit.refl _|exact qA|refine qC ?_ rfl ?_));done)
     try cbv)
  | (refine qP ?_ (c58) ?hfit
     case hfit=>((repeat' (first|exact qB|refine qD ?_ ?_|exact qE (by rfl)|exact qF (by rfl)|exact Fit.refl _|exact qA|refine qC ?_ rfl ?_));done)
     try cbv)
  | (refine qP ?_ (c61) ?hfit
     case hfit=>((repeat' (first|exact qB|refine qD ?_ ?_|exact qE (by rfl)|exact qF (by rfl)|exact Fit.refl _|exact qA|refine qC ?_ rfl ?_));done)
     try cbv)
  |fail)
 all_goals first
  |trivial
  |skip
 refine⟨none,[⟨.tmp 2,3,1⟩,⟨.tmp 3,3,1⟩],{k:Nat // k≤d.pn.toNat},fun x=>⟨[(1,.own 0 0),(6,(.sl 1 (.sym fun _=>zi (L).length) (fun ix=>[(.sl 1 (.sym fun _=>zi ((L).getD ix.den.toNat []).length) (fun jx=>[(iv fun _=>((L).getD ix.den.toNat []).getD jx.den.toNat 0)]))]))),(2,.row 20),(3,.row 21),(21,(iv fun _=>d.pn)),(22,(iv fun _=>zi x.1))],[(0,.cells [(iS d.tw),(iS d.tm),(.sl 1 (.sym fun _=>zi (d.tv).length) (fun ix=>[(.sl 1 (.sym fun _=>zi ((d.tv).getD ix.den.toNat []).length) (fun jx=>[(iv fun _=>((d.tv).getD ix.den.toNat []).getD jx.den.toNat 0)]))])),(iv fun _=>d.sn),(iv fun _=>d.pn),(.sl 4 (.sym fun _=>zi (d.ls).length) (fun ix=>[(iv fun _=>((d.ls).getD ix.den.toNat l0T).a),(iv fun _=>((d.ls).getD ix.den.toNat l0T).b),(iv fun _=>((d.ls).getD ix.den.toNat l0T).lo),(iv fun _=>((d.ls).getD ix.den.toNat l0T).hi)])),(.sl 6 (.sym fun _=>zi (d.fs).length) (fun ix=>[(iv fun _=>((d.fs).getD ix.den.toNat f0T).p),(iv fun _=>((d.fs).getD ix.den.toNat f0T).s),(iv fun _=>((d.fs).getD ix.den.toNat f0T).wl),(iv fun _=>((d.fs).getD ix.den.toNat f0T).wh),(iv fun _=>((d.fs).getD ix.den.toNat f0T).ml),(iv fun _=>((d.fs).getD ix.den.toNat f0T).mh)]))] 39),(20,.row 3 1 (.sym fun _=>zi ((selL fA x.1)).length) (fun ix=>[(iv fun _=>((selL fA x.1)).getD ix.den.toNat 0)])),(21,.row 3 1 (.sym fun _=>zi ((selL fB x.1)).length) (fun ix=>[(iv fun _=>((selL fB x.1)).getD ix.den.toNat 0)]))],100⟩,fun x=>d.pn.toNat-x.1,?_,?_⟩
 ·refine⟨⟨0,by omega⟩,?_⟩
  cbv
  repeat' (first
   |with_reducible refine hold ?_ ?_
   |with_reducible refine And.intro ?_ ?_)
  all_goals first
   |trivial
   |exact qM (qE (by rfl))
   |exact qM (Fit.refl _)
   |exact qL (qK _)
   |(refine qL (ua8 ?_ ?_);(first|rfl|((try simp only [qV]at *);(try simp only [zQ,zA,zB,zC,zD,zE,zF,zG,zH,zI,zJ,zK,zL,zM,zN,zO,zP,zR,zS]at *);omega));intro ix h0 h1;exfalso;(try simp only [qV]at *);(try simp only [zQ,zA,zB,zC,zD,zE,zF,zG,zH,zI,zJ,zK,zL,zM,zN,zO,zP,zR,zS]at *);omega)
   |skip
 ·rintro ⟨k,hk⟩
  cbv
  have hl1:=uhM fA k
  have hl2:=uhM fB k
  have hyA:=upR (f:=fA) (k:=k)
  have hnA:=unW (f:=fA) (k:=k)
  have hyB:=upR (f:=fB) (k:=k)
  have hnB:=unW (f:=fB) (k:=k)
  obtain⟨M1,hM1⟩:∃M,M=selL fA k:=⟨_,rfl⟩
  obtain⟨M2,hM2⟩:∃M,M=selL fB k:=⟨_,rfl⟩
  rw [←hM1]at hl1 hyA hnA⊢
  rw [←hM2]at hl2 hyB hnB⊢
  have c64k:=c64 k
  have c65k:=c65 k
  rcases hfa:fA k with _|_<;>rcases hfb:fB k with _|_
  ·rw [hfa]at c64k
   rw [hfb]at c65k
   cbv
   repeat' (first
    |with_reducible refine hold ?_ ?_
    |with_reducible refine And.intro ?_ ?_
    |(with_reducible intro hcd;(try simp only [zA,zB,zC,zD,zE,zF,zG,zH,zI,zJ,zK,zL,zM,zN,zO,zP]at hcd);try cbv)
    | (refine⟨some [102],?_⟩
       cbv
       refine qQ ?_ (c64k) ?hfit ?hbo
       case hfit=>(cbv;(repeat' (first|exact qB|refine qD ?_ ?_|exact qE (by rfl)|exact qF (by rfl)|exact Fit.refl _|exact qA|refine qC ?_ rfl ?_));done)
       case hbo=>(cbv;(repeat' (first|exact qH|refine qI ?_ ?_|exact qK _|refine qJ ?_|exact qA|exact qE (by rfl)|exact qF (by rfl)|exact Fit.refl _|exact qG _|refine qC ?_ rfl ?_));done)
       try cbv)
    | (refine⟨some [102],?_⟩
       cbv
       refine qQ ?_ (c65k) ?hfit ?hbo
       case hfit=>(cbv;(repeat' (first|exact qB|refine qD ?_ ?_|exact qE (by rfl)|exact qF (by rfl)|exact Fit.refl _|exact qA|refine qC ?_ rfl ?_));done)
       case hbo=>(cbv;(repeat' (first|exact qH|refine qI ?_ ?_|exact qK _|refine qJ ?_|exact qA|exact qE (by rfl)|exact qF (by rfl)|exact Fit.refl _|exact qG _|refine qC ?_ rfl ?_));done)
       try cbv)
    | (obtain⟨L3,eL3⟩:∃y:List Int,y=M1++[zi k]:=⟨_,rfl⟩
       refine⟨udn L3,?_⟩
       cbv
       refine hold (uai (L:=M1) eL3 (by(first|rfl|((try simp only [qV]at *);(try simp only [zQ,zA,zB,zC,zD,zE,zF,zG,zH,zI,zJ,zK,zL,zM,zN,zO,zP,zR,zS]at *);done)|((try simp only [qV]at *);(try simp only [zQ,zA,zB,zC,zD,zE,zF,zG,zH,zI,zJ,zK,zL,zM,zN,zO,zP,zR,zS]at *);omega))) (by rfl) (fun ix=>Fit.refl _) (fun ix h=>qC (qE (by rfl)) rfl qA) (by(try simp only [qV]at *);(try simp only [zQ,zA,zB,zC,zD,zE,zF,zG,zH,zI,zJ,zK,zL,zM,zN,zO,zP,zR,zS]at *);omega)) (Or.inl ?_)
       try cbv)
    | (obtain⟨L4,eL4⟩:∃y:List Int,y=M2++[zi k]:=⟨_,rfl⟩
       refine⟨udn L4,?_⟩
       cbv
       refine hold (uai (L:=M2) eL4 (by(first|rfl|((try simp only [qV]at *);(try simp only [zQ,zA,zB,zC,zD,zE,zF,zG,zH,zI,zJ,zK,zL,zM,zN,zO,zP,zR,zS]at *);done)|((try simp only [qV]at *);(try simp only [zQ,zA,zB,zC,zD,zE,zF,zG,zH,zI,zJ,zK,zL,zM,zN,zO,zP,zR,zS]at *);omega))) (by rfl) (fun ix=>Fit.refl _) (fun ix h=>qC (qE (by rfl)) rfl qA) (by(try simp only [qV]at *);(try simp only [zQ,zA,zB,zC,zD,zE,zF,zG,zH,zI,zJ,zK,zL,zM,zN,zO,zP,zR,zS]at *);omega)) (Or.inl ?_)
       try cbv)
    |fail)
   all_goals first
    |trivial
    |((try simp only [qV]at *);(try simp only [zQ,zA,zB,zC,zD,zE,zF,zG,zH,zI,zJ,zK,zL,zM,zN,zO,zP,zR,zS]at *);first|(refine qN ?_;omega)|(simp only [Hold];omega))
    |((have hke:k=d.pn.toNat:=(by((try simp only [qV]at *);(try simp only [zQ,zA,zB,zC,zD,zE,zF,zG,zH,zI,zJ,zK,zL,zM,zN,zO,zP,zR,zS]at *);omega)));subst hR;rw [←hke,←hM1,←hM2];exact qD (Fit.refl _) (qD (Fit.refl _) (qD (qE rfl) qB)))
    |((try simp only [zQ,zA,zB,zC,zD,zE,zF,zG,zH,zI,zJ,zK,zL,zM,zN,zO,zP,zR,zS]at *);(have hx1:selL fA (k+1)=M1:=hnA hfa);(have hx2:selL fB (k+1)=M2:=hnB hfb);refine⟨⟨k+1,by((try simp only [qV]at *);(try simp only [zQ,zA,zB,zC,zD,zE,zF,zG,zH,zI,zJ,zK,zL,zM,zN,zO,zP,zR,zS]at *);omega)⟩,by simp only [];omega,?_⟩;cbv;(repeat' (first|with_reducible refine hold ?_ ?_|with_reducible refine And.intro ?_ ?_));(all_goals first|trivial|exact qM (qE (by rfl))|exact qM (qF (by rfl))|exact qM (Fit.refl _)|exact qL (qK _)|(refine qM (qE ?_);(try simp only [qV]at *);simp only [zQ,zA,zB,zC,zD,zE,zF,zG,zH,zI,zJ,zK,zL,zM,zN,zO,zP,zR,zS]at *;omega)|(refine qL (qJ ?_);(repeat' (first|exact qA|exact qB|refine qC ?_ rfl ?_|refine qD ?_ ?_|exact qE (by rfl)|exact qF (by rfl)|exact Fit.refl _|exact qG _|(refine qE ?_;(try simp only [qV]at *);simp only [zQ,zA,zB,zC,zD,zE,zF,zG,zH,zI,zJ,zK,zL,zM,zN,zO,zP,zR,zS]at *;omega)));done)|(simp only [hx1];first|exact qL (qK _)|(refine qL (ua8 ?_ ?_)<;>first|rfl|(rw [hM1,List.length_append];rfl)|((try simp only [qV]at *);(try simp only [zQ,zA,zB,zC,zD,zE,zF,zG,zH,zI,zJ,zK,zL,zM,zN,zO,zP,zR,zS]at *);(try simp only [hM1,List.length_append,List.length_cons,List.length_nil]at *);omega)|(intro ix h0 h1;exact Fit.refl _)))|(simp only [hx2];first|exact qL (qK _)|(refine qL (ua8 ?_ ?_)<;>first|rfl|(rw [hM2,List.length_append];rfl)|((try simp only [qV]at *);(try simp only [zQ,zA,zB,zC,zD,zE,zF,zG,zH,zI,zJ,zK,zL,zM,zN,zO,zP,zR,zS]at *);(try simp only [hM2,List.length_append,List.length_cons,List.length_nil]at *);omega)|(intro ix h0 h1;exact Fit.refl _)))|skip))
    |skip
  ·rw [hfa]at c64k
   rw [hfb]at c65k
   cbv
   repeat' (first
    |with_reducible refine hold ?_ ?_
    |with_reducible refine And.intro ?_ ?_
    |(with_reducible intro hcd;(try simp only [zA,zB,zC,zD,zE,zF,zG,zH,zI,zJ,zK,zL,zM,zN,zO,zP]at hcd);try cbv)
    | (refine⟨some [102],?_⟩
       cbv
       refine qQ ?_ (c64k) ?hfit ?hbo
       case hfit=>(cbv;(repeat' (first|exact qB|refine qD ?_ ?_|exact qE (by rfl)|exact qF (by rfl)|exact Fit.refl _|exact qA|refine qC ?_ rfl ?_));done)
       case hbo=>(cbv;(repeat' (first|exact qH|refine qI ?_ ?_|exact qK _|refine qJ ?_|exact qA|exact qE (by rfl)|exact qF (by rfl)|exact Fit.refl _|exact qG _|refine qC ?_ rfl ?_));done)
       try cbv)
    | (refine⟨some [102],?_⟩
       cbv
       refine qQ ?_ (c65k) ?hfit ?hbo
       case hfit=>(cbv;(repeat' (first|exact qB|refine qD ?_ ?_|exact qE (by rfl)|exact qF (by rfl)|exact Fit.refl _|exact qA|refine qC ?_ rfl ?_));done)
       case hbo=>(cbv;(repeat' (first|exact qH|refine qI ?_ ?_|exact qK _|refine qJ ?_|exact qA|exact qE (by rfl)|exact qF (by rfl)|exact Fit.refl _|exact qG _|refine qC ?_ rfl ?_));done)
       try cbv)
    | (obtain⟨L3,eL3⟩:∃y:List Int,y=M1++[zi k]:=⟨_,rfl⟩
       refine⟨udn L3,?_⟩
       cbv
       refine hold (uai (L:=M1) eL3 (by(first|rfl|((try simp only [qV]at *);(try simp only [zQ,zA,zB,zC,zD,zE,zF,zG,zH,zI,zJ,zK,zL,zM,zN,zO,zP,zR,zS]at *);done)|((try simp only [qV]at *);(try simp only [zQ,zA,zB,zC,zD,zE,zF,zG,zH,zI,zJ,zK,zL,zM,zN,zO,zP,zR,zS]at *);omega))) (by rfl) (fun ix=>Fit.refl _) (fun ix h=>qC (qE (by rfl)) rfl qA) (by(try simp only [qV]at *);(try simp only [zQ,zA,zB,zC,zD,zE,zF,zG,zH,zI,zJ,zK,zL,zM,zN,zO,zP,zR,zS]at *);omega)) (Or.inl ?_)
       try cbv)
    | (obtain⟨L4,eL4⟩:∃y:List Int,y=M2++[zi k]:=⟨_,rfl⟩
       refine⟨udn L4,?_⟩
       cbv
       refine hold (uai (L:=M2) eL4 (by(first|rfl|((try simp only [qV]at *);(try simp only [zQ,zA,zB,zC,zD,zE,zF,zG,zH,zI,zJ,zK,zL,zM,zN,zO,zP,zR,zS]at *);done)|((try simp only [qV]at *);(try simp only [zQ,zA,zB,zC,zD,zE,zF,zG,zH,zI,zJ,zK,zL,zM,zN,zO,zP,zR,zS]at *);omega))) (by rfl) (fun ix=>Fit.refl _) (fun ix h=>qC (qE (by rfl)) rfl qA) (by(try simp only [qV]at *);(try simp only [zQ,zA,zB,zC,zD,zE,zF,zG,zH,zI,zJ,zK,zL,zM,zN,zO,zP,zR,zS]at *);omega)) (Or.inl ?_)
       try cbv)
    |fail)
   all_goals first
    |trivial
    |((try simp only [qV]at *);(try simp only [zQ,zA,zB,zC,zD,zE,zF,zG,zH,zI,zJ,zK,zL,zM,zN,zO,zP,zR,zS]at *);first|(refine qN ?_;omega)|(simp only [Hold];omega))
    |((have hke:k=d.pn.toNat:=(by((try simp only [qV]at *);(try simp only [zQ,zA,zB,zC,zD,zE,zF,zG,zH,zI,zJ,zK,zL,zM,zN,zO,zP,zR,zS]at *);omega)));subst hR;rw [←hke,←hM1,←hM2];exact qD (Fit.refl _) (qD (Fit.refl _) (qD (qE rfl) qB)))
    |((try simp only [zQ,zA,zB,zC,zD,zE,zF,zG,zH,zI,zJ,zK,zL,zM,zN,zO,zP,zR,zS]at *);(have hx1:selL fA (k+1)=M1:=hnA hfa);(have hx2:selL fB (k+1)=L4:=(hyB hfb).trans eL4.symm);refine⟨⟨k+1,by((try simp only [qV]at *);(try simp only [zQ,zA,zB,zC,zD,zE,zF,zG,zH,zI,zJ,zK,zL,zM,zN,zO,zP,zR,zS]at *);omega)⟩,by simp only [];omega,?_⟩;cbv;(repeat' (first|with_reducible refine hold ?_ ?_|with_reducible refine And.intro ?_ ?_));(all_goals first|trivial|exact qM (qE (by rfl))|exact qM (qF (by rfl))|exact qM (Fit.refl _)|exact qL (qK _)|(refine qM (qE ?_);(try simp only [qV]at *);simp only [zQ,zA,zB,zC,zD,zE,zF,zG,zH,zI,zJ,zK,zL,zM,zN,zO,zP,zR,zS]at *;omega)|(refine qL (qJ ?_);(repeat' (first|exact qA|exact qB|refine qC ?_ rfl ?_|refine qD ?_ ?_|exact qE (by rfl)|exact qF (by rfl)|exact Fit.refl _|exact qG _|(refine qE ?_;(try simp only [qV]at *);simp only [zQ,zA,zB,zC,zD,zE,zF,zG,zH,zI,zJ,zK,zL,zM,zN,zO,zP,zR,zS]at *;omega)));done)|(simp only [hx1];first|exact qL (qK _)|(refine qL (ua8 ?_ ?_)<;>first|rfl|(rw [hM1,List.length_append];rfl)|((try simp only [qV]at *);(try simp only [zQ,zA,zB,zC,zD,zE,zF,zG,zH,zI,zJ,zK,zL,zM,zN,zO,zP,zR,zS]at *);(try simp only [hM1,List.length_append,List.length_cons,List.length_nil]at *);omega)|(intro ix h0 h1;exact Fit.refl _)))|(simp only [hx2];first|exact qL (qK _)|(refine qL (ua8 ?_ ?_)<;>first|rfl|(rw [eL4,List.length_append];rfl)|((try simp only [qV]at *);(try simp only [zQ,zA,zB,zC,zD,zE,zF,zG,zH,zI,zJ,zK,zL,zM,zN,zO,zP,zR,zS]at *);(try simp only [eL4,List.length_append,List.length_cons,List.length_nil]at *);omega)|(intro ix h0 h1;exact Fit.refl _)))|skip))
    |skip
  ·rw [hfa]at c64k
   rw [hfb]at c65k
   cbv
   repeat' (first
    |with_reducible refine hold ?_ ?_
    |with_reducible refine And.intro ?_ ?_
    |(with_reducible intro hcd;(try simp only [zA,zB,zC,zD,zE,zF,zG,zH,zI,zJ,zK,zL,zM,zN,zO,zP]at hcd);try cbv)
    | (refine⟨some [102],?_⟩
       cbv
       refine qQ ?_ (c64k) ?hfit ?hbo
       case hfit=>(cbv;(repeat' (first|exact qB|refine qD ?_ ?_|exact qE (by rfl)|exact qF (by rfl)|exact Fit.refl _|exact qA|refine qC ?_ rfl ?_));done)
       case hbo=>(cbv;(repeat' (first|exact qH|refine qI ?_ ?_|exact qK _|refine qJ ?_|exact qA|exact qE (by rfl)|exact qF (by rfl)|exact Fit.refl _|exact qG _|refine qC ?_ rfl ?_));done)
       try cbv)
    | (refine⟨some [102],?_⟩
       cbv
       refine qQ ?_ (c65k) ?hfit ?hbo
       case hfit=>(cbv;(repeat' (first|exact qB|refine qD ?_ ?_|exact qE (by rfl)|exact qF (by rfl)|exact Fit.refl _|exact qA|refine qC ?_ rfl ?_));done)
       case hbo=>(cbv;(repeat' (first|exact qH|refine qI ?_ ?_|exact qK _|refine qJ ?_|exact qA|exact qE (by rfl)|exact qF (by rfl)|exact Fit.refl _|exact qG _|refine qC ?_ rfl ?_));done)
       try cbv)
    | (obtain⟨L3,eL3⟩:∃y:List Int,y=M1++[zi k]:=⟨_,rfl⟩
       refine⟨udn L3,?_⟩
       cbv
       refine hold (uai (L:=M1) eL3 (by(first|rfl|((try simp only [qV]at *);(try simp only [zQ,zA,zB,zC,zD,zE,zF,zG,zH,zI,zJ,zK,zL,zM,zN,zO,zP,zR,zS]at *);done)|((try simp only [qV]at *);(try simp only [zQ,zA,zB,zC,zD,zE,zF,zG,zH,zI,zJ,zK,zL,zM,zN,zO,zP,zR,zS]at *);omega))) (by rfl) (fun ix=>Fit.refl _) (fun ix h=>qC (qE (by rfl)) rfl qA) (by(try simp only [qV]at *);(try simp only [zQ,zA,zB,zC,zD,zE,zF,zG,zH,zI,zJ,zK,zL,zM,zN,zO,zP,zR,zS]at *);omega)) (Or.inl ?_)
       try cbv)
    | (obtain⟨L4,eL4⟩:∃y:List Int,y=M2++[zi k]:=⟨_,rfl⟩
       refine⟨udn L4,?_⟩
       cbv
       refine hold (uai (L:=M2) eL4 (by(first|rfl|((try simp only [qV]at *);(try simp only [zQ,zA,zB,zC,zD,zE,zF,zG,zH,zI,zJ,zK,zL,zM,zN,zO,zP,zR,zS]at *);done)|((try simp only [qV]at *);(try simp only [zQ,zA,zB,zC,zD,zE,zF,zG,zH,zI,zJ,zK,zL,zM,zN,zO,zP,zR,zS]at *);omega))) (by rfl) (fun ix=>Fit.refl _) (fun ix h=>qC (qE (by rfl)) rfl qA) (by(try simp only [qV]at *);(try simp only [zQ,zA,zB,zC,zD,zE,zF,zG,zH,zI,zJ,zK,zL,zM,zN,zO,zP,zR,zS]at *);omega)) (Or.inl ?_)
       try cbv)
    |fail)
   all_goals first
    |trivial
    |((try simp only [qV]at *);(try simp only [zQ,zA,zB,zC,zD,zE,zF,zG,zH,zI,zJ,zK,zL,zM,zN,zO,zP,zR,zS]at *);first|(refine qN ?_;omega)|(simp only [Hold];omega))
    |((have hke:k=d.pn.toNat:=(by((try simp only [qV]at *);(try simp only [zQ,zA,zB,zC,zD,zE,zF,zG,zH,zI,zJ,zK,zL,zM,zN,zO,zP,zR,zS]at *);omega)));subst hR;rw [←hke,←hM1,←hM2];exact qD (Fit.refl _) (qD (Fit.refl _) (qD (qE rfl) qB)))
    |((try simp only [zQ,zA,zB,zC,zD,zE,zF,zG,zH,zI,zJ,zK,zL,zM,zN,zO,zP,zR,zS]at *);(have hx1:selL fA (k+1)=L3:=(hyA hfa).trans eL3.symm);(have hx2:selL fB (k+1)=M2:=hnB hfb);refine⟨⟨k+1,by((try simp only [qV]at *);(try simp only [zQ,zA,zB,zC,zD,zE,zF,zG,zH,zI,zJ,zK,zL,zM,zN,zO,zP,zR,zS]at *);omega)⟩,by simp only [];omega,?_⟩;cbv;(repeat' (first|with_reducible refine hold ?_ ?_|with_reducible refine And.intro ?_ ?_));(all_goals first|trivial|exact qM (qE (by rfl))|exact qM (qF (by rfl))|exact qM (Fit.refl _)|exact qL (qK _)|(refine qM (qE ?_);(try simp only [qV]at *);simp only [zQ,zA,zB,zC,zD,zE,zF,zG,zH,zI,zJ,zK,zL,zM,zN,zO,zP,zR,zS]at *;omega)|(refine qL (qJ ?_);(repeat' (first|exact qA|exact qB|refine qC ?_ rfl ?_|refine qD ?_ ?_|exact qE (by rfl)|exact qF (by rfl)|exact Fit.refl _|exact qG _|(refine qE ?_;(try simp only [qV]at *);simp only [zQ,zA,zB,zC,zD,zE,zF,zG,zH,zI,zJ,zK,zL,zM,zN,zO,zP,zR,zS]at *;omega)));done)|(simp only [hx1];first|exact qL (qK _)|(refine qL (ua8 ?_ ?_)<;>first|rfl|(rw [eL3,List.length_append];rfl)|((try simp only [qV]at *);(try simp only [zQ,zA,zB,zC,zD,zE,zF,zG,zH,zI,zJ,zK,zL,zM,zN,zO,zP,zR,zS]at *);(try simp only [eL3,List.length_append,List.length_cons,List.length_nil]at *);omega)|(intro ix h0 h1;exact Fit.refl _)))|(simp only [hx2];first|exact qL (qK _)|(refine qL (ua8 ?_ ?_)<;>first|rfl|(rw [hM2,List.length_append];rfl)|((try simp only [qV]at *);(try simp only [zQ,zA,zB,zC,zD,zE,zF,zG,zH,zI,zJ,zK,zL,zM,zN,zO,zP,zR,zS]at *);(try simp only [hM2,List.length_append,List.length_cons,List.length_nil]at *);omega)|(intro ix h0 h1;exact Fit.refl _)))|skip))
    |skip
  ·rw [hfa]at c64k
   rw [hfb]at c65k
   cbv
   repeat' (first
    |with_reducible refine hold ?_ ?_
    |with_reducible refine And.intro ?_ ?_
    |(with_reducible intro hcd;(try simp only [zA,zB,zC,zD,zE,zF,zG,zH,zI,zJ,zK,zL,zM,zN,zO,zP]at hcd);try cbv)
    | (refine⟨some [102],?_⟩
       cbv
       refine qQ ?_ (c64k) ?hfit ?hbo
       case hfit=>(cbv;(repeat' (first|exact qB|refine qD ?_ ?_|exact qE (by rfl)|exact qF (by rfl)|exact Fit.refl _|exact qA|refine qC ?_ rfl ?_));done)
       case hbo=>(cbv;(repeat' (first|exact qH|refine qI ?_ ?_|exact qK _|refine qJ ?_|exact qA|exact qE (by rfl)|exact qF (by rfl)|exact Fit.refl _|exact qG _|refine qC ?_ rfl ?_));done)
       try cbv)
    | (refine⟨some [102],?_⟩
       cbv
       refine qQ ?_ (c65k) ?hfit ?hbo
       case hfit=>(cbv;(repeat' (first|exact qB|refine qD ?_ ?_|exact qE (by rfl)|exact qF (by rfl)|exact Fit.refl _|exact qA|refine qC ?_ rfl ?_));done)
       case hbo=>(cbv;(repeat' (first|exact qH|refine qI ?_ ?_|exact qK _|refine qJ ?_|exact qA|exact qE (by rfl)|exact qF (by rfl)|exact Fit.refl _|exact qG _|refine qC ?_ rfl ?_));done)
       try cbv)
    | (obtain⟨L3,eL3⟩:∃y:List Int,y=M1++[zi k]:=⟨_,rfl⟩
       refine⟨udn L3,?_⟩
       cbv
       refine hold (uai (L:=M1) eL3 (by(first|rfl|((try simp only [qV]at *);(try simp only [zQ,zA,zB,zC,zD,zE,zF,zG,zH,zI,zJ,zK,zL,zM,zN,zO,zP,zR,zS]at *);done)|((try simp only [qV]at *);(try simp only [zQ,zA,zB,zC,zD,zE,zF,zG,zH,zI,zJ,zK,zL,zM,zN,zO,zP,zR,zS]at *);omega))) (by rfl) (fun ix=>Fit.refl _) (fun ix h=>qC (qE (by rfl)) rfl qA) (by(try simp only [qV]at *);(try simp only [zQ,zA,zB,zC,zD,zE,zF,zG,zH,zI,zJ,zK,zL,zM,zN,zO,zP,zR,zS]at *);omega)) (Or.inl ?_)
       try cbv)
    | (obtain⟨L4,eL4⟩:∃y:List Int,y=M2++[zi k]:=⟨_,rfl⟩
       refine⟨udn L4,?_⟩
       cbv
       refine hold (uai (L:=M2) eL4 (by(first|rfl|((try simp only [qV]at *);(try simp only [zQ,zA,zB,zC,zD,zE,zF,zG,zH,zI,zJ,zK,zL,zM,zN,zO,zP,zR,zS]at *);done)|((try simp only [qV]at *);(try simp only [zQ,zA,zB,zC,zD,zE,zF,zG,zH,zI,zJ,zK,zL,zM,zN,zO,zP,zR,zS]at *);omega))) (by rfl) (fun ix=>Fit.refl _) (fun ix h=>qC (qE (by rfl)) rfl qA) (by(try simp only [qV]at *);(try simp only [zQ,zA,zB,zC,zD,zE,zF,zG,zH,zI,zJ,zK,zL,zM,zN,zO,zP,zR,zS]at *);omega)) (Or.inl ?_)
       try cbv)
    |fail)
   all_goals first
    |trivial
    |((try simp only [qV]at *);(try simp only [zQ,zA,zB,zC,zD,zE,zF,zG,zH,zI,zJ,zK,zL,zM,zN,zO,zP,zR,zS]at *);first|(refine qN ?_;omega)|(simp only [Hold];omega))
    |((have hke:k=d.pn.toNat:=(by((try simp only [qV]at *);(try simp only [zQ,zA,zB,zC,zD,zE,zF,zG,zH,zI,zJ,zK,zL,zM,zN,zO,zP,zR,zS]at *);omega)));subst hR;rw [←hke,←hM1,←hM2];exact qD (Fit.refl _) (qD (Fit.refl _) (qD (qE rfl) qB)))
    |((try simp only [zQ,zA,zB,zC,zD,zE,zF,zG,zH,zI,zJ,zK,zL,zM,zN,zO,zP,zR,zS]at *);(have hx1:selL fA (k+1)=L3:=(hyA hfa).trans eL3.symm);(have hx2:selL fB (k+1)=L4:=(hyB hfb).trans eL4.symm);refine⟨⟨k+1,by((try simp only [qV]at *);(try simp only [zQ,zA,zB,zC,zD,zE,zF,zG,zH,zI,zJ,zK,zL,zM,zN,zO,zP,zR,zS]at *);omega)⟩,by simp only [];omega,?_⟩;cbv;(repeat' (first|with_reducible refine hold ?_ ?_|with_reducible refine And.intro ?_ ?_));(all_goals first|trivial|exact qM (qE (by rfl))|exact qM (qF (by rfl))|exact qM (Fit.refl _)|exact qL (qK _)|(refine qM (qE ?_);(try simp only [qV]at *);simp only [zQ,zA,zB,zC,zD,zE,zF,zG,zH,zI,zJ,zK,zL,zM,zN,zO,zP,zR,zS]at *;omega)|(refine qL (qJ ?_);(repeat' (first|exact qA|exact qB|refine qC ?_ rfl ?_|refine qD ?_ ?_|exact qE (by rfl)|exact qF (by rfl)|exact Fit.refl _|exact qG _|(refine qE ?_;(try simp only [qV]at *);simp only [zQ,zA,zB,zC,zD,zE,zF,zG,zH,zI,zJ,zK,zL,zM,zN,zO,zP,zR,zS]at *;omega)));done)|(simp only [hx1];first|exact qL (qK _)|(refine qL (ua8 ?_ ?_)<;>first|rfl|(rw [eL3,List.length_append];rfl)|((try simp only [qV]at *);(try simp only [zQ,zA,zB,zC,zD,zE,zF,zG,zH,zI,zJ,zK,zL,zM,zN,zO,zP,zR,zS]at *);(try simp only [eL3,List.length_append,List.length_cons,List.length_nil]at *);omega)|(intro ix h0 h1;exact Fit.refl _)))|(simp only [hx2];first|exact qL (qK _)|(refine qL (ua8 ?_ ?_)<;>first|rfl|(rw [eL4,List.length_append];rfl)|((try simp only [qV]at *);(try simp only [zQ,zA,zB,zC,zD,zE,zF,zG,zH,zI,zJ,zK,zL,zM,zN,zO,zP,zR,zS]at *);(try simp only [eL4,List.length_append,List.length_cons,List.length_nil]at *);omega)|(intro ix h0 h1;exact Fit.refl _)))|skip))
    |skip
theorem uqS (d:Dsp)(h:¬ua9 d=0):ua0 Tryz.prog 19 [(dspS d)] [] (fun r _=>r=(.tup [(iS ((mstL d))),(iS ((mayL d))),(iv fun _=>ua9 d)])):=by
 have c59:=uiq d h
 refine ua0.is fun R hR=>qW (sc:=sc19) tyok mix Tryz.func19 rfl Tryz.call19 (by kernel_rfl) (by kernel_rfl) ?_
 generalize Tryz.prog=P at c59⊢
 cbv
 repeat' (first
  |with_reducible refine And.intro ?_ ?_
  |(with_reducible intro hcd;(try simp only [zA,zB,zC,zD,zE,zF,zG,zH,zI,zJ,zK,zL,zM,zN,zO,zP]at hcd);try cbv)
  | (refine qP ?_ (c59) ?hfit
     case hfit=>((repeat' (first|exact qB|refine qD ?_ ?_|exact qE (by rfl)|exact qF (by rfl)|exact Fit.refl _|exact qA|refine qC ?_ rfl ?_));done)
     try cbv)
  |fail)
 all_goals first
  |trivial
  |(subst hR;(exact qD (qO (by(have e:mstL d=[]:=if_neg h);rw [e];rfl)) (qD (qO (by(have e:mayL d=[]:=if_neg h);rw [e];rfl)) (qD (Fit.refl _) qB)));done)
  |skip
theorem udP (d:Dsp):ua0 Tryz.prog 19 [(dspS d)] [] (fun r _=>r=(.tup [(iS ((mstL d))),(iS ((mayL d))),(iv fun _=>ua9 d)])):=by
 by_cases h:ua9 d=0
 ·exact ur6 d h
 ·exact uqS d h
end Go.Proofs.YtkdggbfknlcdaaaGreat
namespace Go.Proofs.YtkdggbfknlcdaaaGreat
open Go.Eng.Dif Go.Eng.Few
theorem usQ {d:Dsp}(h:ua9 d=0):canT d d.fs (leaL d)=true:=by
 have e:leaL d=fewL d.fs.length (okFa d):=if_pos h
 rw [e]
 exact(ubL (ufe h)).2.1
theorem utk (d:Dsp)(h:ua4 d=0):(leaL d).length≤6:=by
 unfold leaL
 split
 ·rename_i q
  have:=ug2 (ufe q)
  have:=(ua3.1 h).f6
  omega
 ·simp
theorem ujh {g x:Int}(h0:0≤g)(h1:g≤100000)(a0: -2000≤x)(a1:x≤2000): -200000000≤g*x∧g*x≤200000000:=by
 have e1:g*x≤g*2000:=Int.mul_le_mul_of_nonneg_left a1 h0
 have e2:g*(-2000)≤g*x:=Int.mul_le_mul_of_nonneg_left a0 h0
 omega
def chOk (d:Dsp)(s g:Int):Prop:=(0≤s∧s≤d.sn-1)∧0≤g∧g≤100000
instance (d:Dsp) (s g:Int):Decidable (chOk d s g):=by unfold chOk;infer_instance
def chE (d:Dsp)(s g:Int):Int:=if ua4 d=0 then(if chOk d s g then ua9 d else 2)else ua4 d
def chL (d:Dsp)(s g:Int):Int:=if chE d s g=0 then(g*loT d (leaL d) s.toNat).tdiv 1000 else 0
def chH (d:Dsp)(s g:Int):Int:=if chE d s g=0 then(g*hiT d (leaL d) s.toNat).tdiv 1000 else 0
theorem utC {d:Dsp} {s g:Int}(h:¬ua4 d=0):chE d s g=ua4 d∧chL d s g=0∧chH d s g=0:=by
 have e:chE d s g=ua4 d:=by unfold chE;rw [if_neg h]
 exact⟨e,by unfold chL;rw [e,if_neg h],by unfold chH;rw [e,if_neg h]⟩
theorem uv0 {d:Dsp} {s g:Int}(h:ua4 d=0)(h':¬chOk d s g):chE d s g=2∧chL d s g=0∧chH d s g=0:=by
 have e:chE d s g=2:=by unfold chE;rw [if_pos h,if_neg h']
 exact⟨e,by unfold chL;rw [e];rfl,by unfold chH;rw [e];rfl⟩
theorem urA {d:Dsp} {s g:Int}(h:ua4 d=0)(h':chOk d s g)(hf:¬ua9 d=0):chE d s g=ua9 d∧chL d s g=0∧chH d s g=0:=by
 have e:chE d s g=ua9 d:=by unfold chE;rw [if_pos h,if_pos h']
 exact⟨e,by unfold chL;rw [e,if_neg hf],by unfold chH;rw [e,if_neg hf]⟩
theorem upy {d:Dsp} {s g:Int}(h:ua4 d=0)(h':chOk d s g)(hf:ua9 d=0):chE d s g=0∧chL d s g=(g*loT d (leaL d) s.toNat).tdiv 1000∧chH d s g=(g*hiT d (leaL d) s.toNat).tdiv 1000:=by
 have e:chE d s g=0:=by unfold chE;rw [if_pos h,if_pos h',hf]
 exact⟨e,by unfold chL;rw [e];rfl,by unfold chH;rw [e];rfl⟩
def coOk (n:Int):Prop:=0≤n∧n≤1000000
instance (n:Int):Decidable (coOk n):=by unfold coOk;infer_instance
def coE (d:Dsp)(n:Int):Int:=if ua4 d=0 then(if coOk n then ua9 d else 2)else ua4 d
def coN (d:Dsp)(n:Int):Int:=if coE d n=0 then d.pn else 0
def beaL (d:Dsp):List Int:=ukO d.pn.toNat (mstL d)
def cosF (d:Dsp)(n:Int)(p:Nat):Int:=ub9 n.toNat (beaL d) (beaL d).length (beaL d).length p
theorem uku {d:Dsp} {n:Int}(h:¬ua4 d=0):coE d n=ua4 d∧coN d n=0:=by
 have e:coE d n=ua4 d:=by unfold coE;rw [if_neg h]
 exact⟨e,by unfold coN;rw [e,if_neg h]⟩
theorem um8 {d:Dsp} {n:Int}(h:ua4 d=0)(h':¬coOk n):coE d n=2∧coN d n=0:=by
 have e:coE d n=2:=by unfold coE;rw [if_pos h,if_neg h']
 exact⟨e,by unfold coN;rw [e];rfl⟩
theorem uhJ {d:Dsp} {n:Int}(h:ua4 d=0)(h':coOk n)(hf:¬ua9 d=0):coE d n=ua9 d∧coN d n=0:=by
 have e:coE d n=ua9 d:=by unfold coE;rw [if_pos h,if_pos h']
 exact⟨e,by unfold coN;rw [e,if_neg hf]⟩
theorem ufy {d:Dsp} {n:Int}(h:ua4 d=0)(h':coOk n)(hf:ua9 d=0):coE d n=0∧coN d n=d.pn:=by
 have e:coE d n=0:=by unfold coE;rw [if_pos h,if_pos h',hf]
 exact⟨e,by unfold coN;rw [e];rfl⟩
end Go.Proofs.YtkdggbfknlcdaaaGreat
namespace Go.Proofs.YtkdggbfknlcdaaaGreat
open Go Go.Eng Go.Proofs Go.Eng.Dif Go.Eng.Few
set_option maxRecDepth 10000
theorem uhz {a:Int}(h: -200000000≤a∧a≤200000000): -200000000≤a.tdiv 1000∧a.tdiv 1000≤200000000:=by
 rcases Int.le_total 0 a with q|q
 ·rw [Int.tdiv_eq_ediv_of_nonneg q];omega
 ·obtain⟨b,rfl⟩:∃b,a = -b:=⟨-a,by omega⟩
  rw [Int.neg_tdiv,Int.tdiv_eq_ediv_of_nonneg (by omega)];omega
set_option maxHeartbeats 2000000 in
theorem ur4 (d:Dsp)(s g:Int):ua0 Tryz.prog 25 [(dspS d),(iv fun _=>s),(iv fun _=>g)] [] (fun r _=>r=(.tup [(.agg [(iv fun _=>chL d s g),(iv fun _=>chH d s g)]),(iv fun _=>chE d s g)])):=by
 have c16:=ucM d
 have c43:= @udo
 have c22:=unD d
 have c44:=uel d
 have c66:=fun h:ua4 d=0=>ui0 d s ⟨(ua3.1 h).s1,by have:=(ua3.1 h).s3;omega⟩
 have c54:=fun h:ua4 d=0=>uck d (leaL d) (ua3.1 h) (by have:=utk d h;omega)
 have hbd:=fun (h:ua9 d=0) (i:Nat) (hi:i<16)=>urZ (ua3.1 (uao h).1) (usQ h) hi
 have hsn:=fun h:ua9 d=0=>(ua3.1 (uao h).1).s3
 have c55:=fun (s:Int) (h:ua9 d=0∧0≤s∧s≤d.sn-1)=>(show ua0 Tryz.prog 63 [.own 0 0,(iv fun _=>s)] [.cells [(.arr 16 (fun ix=>(iv fun _=>(clo (matO d d.fs (leaL d))) ix.den.toNat)))] 95] (fun r bs=>r=(.agg [(iv fun _=>loT d (leaL d) s.toNat),(iv fun _=>hiT d (leaL d) s.toNat)])∧bs=[.cells [(.arr 16 (fun ix=>(iv fun _=>(clo (matO d d.fs (leaL d))) ix.den.toNat)))] 95])from um2 (clo (matO d d.fs (leaL d))) s ⟨h.2.1,by have:=hsn h.1;omega⟩ (fun i hi=>⟨by have:=hbd h.1 i hi;omega,by have:=hbd h.1 i hi;omega⟩))
 have hmul:0≤g→g≤100000→0≤s∧s≤d.sn-1→ua9 d=0→(-200000000≤g*loT d (leaL d) s.toNat∧g*loT d (leaL d) s.toNat≤200000000)∧ -200000000≤g*hiT d (leaL d) s.toNat∧g*hiT d (leaL d) s.toNat≤200000000:=fun h0 h1 hs hf=>by
  have s3:=hsn hf
  have b1:=hbd hf (at4 (s.toNat+1) 0) (ueW (by omega) (by omega))
  have b2:=hbd hf (at4 0 (s.toNat+1)) (ueW (by omega) (by omega))
  exact⟨ujh h0 h1 (by unfold loT;omega) (by unfold loT;omega),ujh h0 h1 (by unfold hiT;omega) (by unfold hiT;omega)⟩
 refine ua0.is fun R hR=>qW (sc:=sc25) tyok mix Tryz.func25 rfl Tryz.call25 (by kernel_rfl) (by kernel_rfl) ?_
 generalize Tryz.prog=P at c16 c43 c22 c44 c66 c54 c55⊢
 cbv
 repeat' (first
  |with_reducible refine hold ?_ ?_
  |with_reducible refine And.intro ?_ ?_
  | (with_reducible refine qS ?_ ?_ ?_
     try cbv)
  |(with_reducible intro hcd;(try simp only [zA,zB,zC,zD,zE,zF,zG,zH,zI,zJ,zK,zL,zM,zN,zO,zP]at hcd);try cbv)
  | (refine qP ?_ (c16) ?hfit
     case hfit=>((repeat' (first|exact qB|refine qD ?_ ?_|exact qE (by rfl)|exact qF (by rfl)|exact Fit.refl _|exact qA|refine qC ?_ rfl ?_));done)
     try cbv)
  | (refine qP ?_ (c43 _ _ _) (by(repeat' (first|exact qB|refine qD ?_ ?_|exact qE (by rfl)|exact qF (by rfl)|exact Fit.refl _|exact qA|refine qC ?_ rfl ?_)))
     try cbv)
  | (refine qP ?_ (c22) ?hfit
     case hfit=>((repeat' (first|exact qB|refine qD ?_ ?_|exact qE (by rfl)|exact qF (by rfl)|exact Fit.refl _|exact qA|refine qC ?_ rfl ?_));done)
     try cbv)
  | (refine qP ?_ (c44) ?hfit
     case hfit=>((repeat' (first|exact qB|refine qD ?_ ?_|exact qE (by rfl)|exact qF (by rfl)|exact Fit.refl _|exact qA|refine qC ?_ rfl ?_));done)
     try cbv)
  | (refine qP ?_ (c66 (by((try simp only [qV]at *);(try simp only [zQ,zA,zB,zC,zD,zE,zF,zG,zH,zI,zJ,zK,zL,zM,zN,zO,zP,zR,zS]at *);first|assumption|omega))) ?hfit
     case hfit=>((repeat' (first|exact qB|refine qD ?_ ?_|exact qE (by rfl)|exact qF (by rfl)|exact Fit.refl _|exact qA|refine qC ?_ rfl ?_));done)
     try cbv)
  | (refine qP ?_ (c54 (by((try simp only [qV]at *);(try simp only [zQ,zA,zB,zC,zD,zE,zF,zG,zH,zI,zJ,zK,zL,zM,zN,zO,zP,zR,zS]at *);first|assumption|omega))) ?hfit
     case hfit=>((repeat' (first|exact qB|refine qD ?_ ?_|exact qE (by rfl)|exact qF (by rfl)|exact Fit.refl _|exact qA|refine qC ?_ rfl ?_));done)
     try cbv)
  | ((have hf9:ua9 d=0:=(by((try simp only [qV]at *);(try simp only [zQ,zA,zB,zC,zD,zE,zF,zG,zH,zI,zJ,zK,zL,zM,zN,zO,zP,zR,zS]at *);omega)))
     refine⟨some [33],?_⟩
     cbv
     refine qQ ?_ (c55 s ⟨hf9,by((try simp only [qV]at *);(try simp only [zQ,zA,zB,zC,zD,zE,zF,zG,zH,zI,zJ,zK,zL,zM,zN,zO,zP,zR,zS]at *);(try simp only [uan,uas,uaM,uaV,uaZ,ub0,uaf,uah,uae,uag]at *);omega)⟩) ?hfit ?hbo
     case hfit=>(cbv;(repeat' (first|exact qB|refine qD ?_ ?_|exact qE (by rfl)|exact qF (by rfl)|exact Fit.refl _|exact qA|refine qC ?_ rfl ?_));done)
     case hbo=>(cbv;(repeat' (first|exact qH|refine qI ?_ ?_|exact qK _|refine qJ ?_|exact qA|exact qE (by rfl)|exact qF (by rfl)|exact Fit.refl _|exact qG _|refine qC ?_ rfl ?_));done)
     try cbv)
  |fail)
 all_goals first
  |((try simp only [qV]at *);(try simp only [zQ,zA,zB,zC,zD,zE,zF,zG,zH,zI,zJ,zK,zL,zM,zN,zO,zP,zR,zS,uan,uas,uaM,uaV,uaZ,ub0,uaf,uah,uae,uag]at *);first|(refine qN ?_;omega)|(simp only [Hold];omega))
  |(subst hR;(refine qD (qC (qE ?_) rfl (qC (qE ?_) rfl qA)) (qD (qE ?_) qB)<;>((try simp only [qV]at *);(try simp only [zQ,zA,zB,zC,zD,zE,zF,zG,zH,zI,zJ,zK,zL,zM,zN,zO,zP,zR,zS]at *);(try simp only [uan,uas,uaM,uaV,uaZ,ub0,uaf,uah,uae,uag]at *);(have h0:=utC (d:=d) (s:=s) (g:=g) (by first|assumption|omega));first|exact h0.2.1.symm|exact h0.2.2.symm|exact h0.1.symm));done)
  |(subst hR;(refine qD (qC (qE ?_) rfl (qC (qE ?_) rfl qA)) (qD (qE ?_) qB)<;>((try simp only [qV]at *);(try simp only [zQ,zA,zB,zC,zD,zE,zF,zG,zH,zI,zJ,zK,zL,zM,zN,zO,zP,zR,zS]at *);(try simp only [uan,uas,uaM,uaV,uaZ,ub0,uaf,uah,uae,uag]at *);(have h0:=uv0 (d:=d) (s:=s) (g:=g) (by first|assumption|omega) (by unfold chOk;omega));first|exact h0.2.1.symm|exact h0.2.2.symm|exact h0.1.symm));done)
  |(subst hR;(refine qD (qC (qE ?_) rfl (qC (qE ?_) rfl qA)) (qD (qE ?_) qB)<;>((try simp only [qV]at *);(try simp only [zQ,zA,zB,zC,zD,zE,zF,zG,zH,zI,zJ,zK,zL,zM,zN,zO,zP,zR,zS]at *);(try simp only [uan,uas,uaM,uaV,uaZ,ub0,uaf,uah,uae,uag]at *);(have h0:=urA (d:=d) (s:=s) (g:=g) (by first|assumption|omega) (by unfold chOk;omega) (by first|assumption|omega));first|exact h0.2.1.symm|exact h0.2.2.symm|exact h0.1.symm));done)
  |(subst hR;(refine qD (qC (qE ?_) rfl (qC (qE ?_) rfl qA)) (qD (qE ?_) qB)<;>((try simp only [qV]at *);(try simp only [zQ,zA,zB,zC,zD,zE,zF,zG,zH,zI,zJ,zK,zL,zM,zN,zO,zP,zR,zS]at *);(try simp only [uan,uas,uaM,uaV,uaZ,ub0,uaf,uah,uae,uag]at *);(have h0:=upy (d:=d) (s:=s) (g:=g) (by first|assumption|omega) (by unfold chOk;omega) (by first|assumption|omega));first|exact h0.2.1.symm|exact h0.2.2.symm|exact h0.1.symm));done)
  |((have hf9:ua9 d=0:=(by((try simp only [qV]at *);(try simp only [zQ,zA,zB,zC,zD,zE,zF,zG,zH,zI,zJ,zK,zL,zM,zN,zO,zP,zR,zS]at *);omega)));(have hb9:=hmul (by((try simp only [qV]at *);(try simp only [zQ,zA,zB,zC,zD,zE,zF,zG,zH,zI,zJ,zK,zL,zM,zN,zO,zP,zR,zS]at *);(try simp only [uan,uas,uaM,uaV,uaZ,ub0,uaf,uah,uae,uag]at *);omega)) (by((try simp only [qV]at *);(try simp only [zQ,zA,zB,zC,zD,zE,zF,zG,zH,zI,zJ,zK,zL,zM,zN,zO,zP,zR,zS]at *);(try simp only [uan,uas,uaM,uaV,uaZ,ub0,uaf,uah,uae,uag]at *);omega)) (by((try simp only [qV]at *);(try simp only [zQ,zA,zB,zC,zD,zE,zF,zG,zH,zI,zJ,zK,zL,zM,zN,zO,zP,zR,zS]at *);(try simp only [uan,uas,uaM,uaV,uaZ,ub0,uaf,uah,uae,uag]at *);omega)) hf9);(have t1:=uhz hb9.1);(have t2:=uhz hb9.2);(try simp only [qV]at *);(try simp only [zQ,zA,zB,zC,zD,zE,zF,zG,zH,zI,zJ,zK,zL,zM,zN,zO,zP,zR,zS]at *);(try simp only [uan,uas,uaM,uaV,uaZ,ub0,uaf,uah,uae,uag]at *);first|(refine qN ?_;omega)|(simp only [Hold];omega))
  |skip
theorem uqG {f:Nat→Bool}:∀{n:Nat},selL f n=[]→∀{k:Nat},k<n→f k=false:=by
 intro n
 induction n with
 |zero=>intro _ k hk;omega
 | succ n ih=>
  intro h k hk
  cases hf:f n with
  |true=>rw [upR hf]at h;simp at h
  | false=>
   rw [unW hf]at h
   by_cases e:k=n
   ·rw [e];exact hf
   ·exact ih h (by omega)
set_option maxHeartbeats 2000000 in
theorem urn (d:Dsp)(h:ua9 d=0)(he:mstL d=[]):ua0 Tryz.prog 19 [(dspS d)] [] (fun r _=>r=(.tup [.val (Value.slice none 0 0),(iS ((mayL d))),(iv fun _=>ua9 d)])):=by
 have c59:=ulP d h
 have c58:=ugL
 have hF:=(uao h).1
 have hd:=ua3.1 hF
 have p1:=hd.p1
 have p4:=hd.p4
 have c61:=ugg d hd
 have hsf:=uiK (n:=d.pn.toNat) (ok:=okPa d) (by omega) (ufo h)
 have hm0:selL (mstF d) d.pn.toNat=[]:=(if_pos h:mstL d=_).symm.trans he
 have hAf:∀k:Nat,k<d.pn.toNat→mstF d k=false:=fun k hk=>uqG hm0 hk
 rw [show mayL d=selL (mayF d) d.pn.toNat from if_pos h,h]
 have hA:∀k:Nat,allB (fun i=>inL ((uau d.pn.toNat (okPa d)).getD i []) (zi k)) (uau d.pn.toNat (okPa d)).length=mstF d k:=fun k=>usx _ _
 have hB:∀k:Nat,decide (0≤fidx (fun i=> !(inL ((uau d.pn.toNat (okPa d)).getD i []) (zi k))) (uau d.pn.toNat (okPa d)).length 0)=mayF d k:=fun k=>us0 _ _
 obtain⟨L,hL⟩:∃L,L=uau d.pn.toNat (okPa d):=⟨_,rfl⟩
 rw [←hL]at c61 hsf
 simp only [←hL]at hA hB
 have c64:=fun k:Nat=>(show ua0 Tryz.prog 54 [(.sl 1 (.sym fun _=>zi (L).length) (fun ix=>[(.sl 1 (.sym fun _=>zi ((L).getD ix.den.toNat []).length) (fun jx=>[(iv fun _=>((L).getD ix.den.toNat []).getD jx.den.toNat 0)]))])),.clo 52 [] [.own 0 0]] [.cells [(iv fun _=>zi k)] 3] (fun r bs=>r=(.bool (.sym fun _=>mstF d k))∧bs=[.cells [(iv fun _=>zi k)] 3])from hA k▸uhe L (zi k) hsf.2 hsf.1)
 have c65:=fun k:Nat=>(show ua0 Tryz.prog 55 [(.sl 1 (.sym fun _=>zi (L).length) (fun ix=>[(.sl 1 (.sym fun _=>zi ((L).getD ix.den.toNat []).length) (fun jx=>[(iv fun _=>((L).getD ix.den.toNat []).getD jx.den.toNat 0)]))])),.clo 52 [] [.own 0 0]] [.cells [(iv fun _=>zi k)] 3] (fun r bs=>r=(.bool (.sym fun _=>mayF d k))∧bs=[.cells [(iv fun _=>zi k)] 3])from hB k▸uhl L (zi k) hsf.2 hsf.1)
 obtain⟨fA,hfA⟩:∃f,f=mstF d:=⟨_,rfl⟩
 obtain⟨fB,hfB⟩:∃f,f=mayF d:=⟨_,rfl⟩
 rw [←hfA]at c64 hAf
 rw [←hfB]at c65⊢
 clear hA hB hL hfA hfB hm0
 refine ua0.is fun R hR=>qW (sc:=sc19) tyok mix Tryz.func19 rfl Tryz.call19 (by kernel_rfl) (by kernel_rfl) ?_
 generalize Tryz.prog=P at c59 c58 c61 c64 c65⊢
 cbv
 repeat' (first
  |with_reducible refine And.intro ?_ ?_
  |(with_reducible intro hcd;(try simp only [zA,zB,zC,zD,zE,zF,zG,zH,zI,zJ,zK,zL,zM,zN,zO,zP]at hcd);try cbv)
  | (refine qP ?_ (c59) ?hfit
     case hfit=>((repeat' (first|exact qB|refine qD ?_ ?_|exact qE (by rfl)|exact qF (by rfl)|exact Fit.refl _|exact qA|refine qC ?_ rfl ?_));done)
     try cbv)
  | (refine qP ?_ (c58) ?hfit
     case hfit=>((repeat' (first|exact qB|refine qD ?_ ?_|exact qE (by rfl)|exact qF (by rfl)|exact Fit.refl _|exact qA|refine qC ?_ rfl ?_));done)
     try cbv)
  | (refine qP ?_ (c61) ?hfit
     case hfit=>((repeat' (first|exact qB|refine qD ?_ ?_|exact qE (by rfl)|exact qF (by rfl)|exact Fit.refl _|exact qA|refine qC ?_ rfl ?_));done)
     try cbv)
  |fail)
 all_goals first
  |trivial
  |skip
 refine⟨none,[⟨.tmp 3,3,1⟩],{k:Nat // k≤d.pn.toNat},fun x=>⟨[(1,.own 0 0),(6,(.sl 1 (.sym fun _=>zi (L).length) (fun ix=>[(.sl 1 (.sym fun _=>zi ((L).getD ix.den.toNat []).length) (fun jx=>[(iv fun _=>((L).getD ix.den.toNat []).getD jx.den.toNat 0)]))]))),(2,.val (Value.slice none 0 0)),(3,.row 20),(21,(iv fun _=>d.pn)),(22,(iv fun _=>zi x.1))],[(0,.cells [(iS d.tw),(iS d.tm),(.sl 1 (.sym fun _=>zi (d.tv).length) (fun ix=>[(.sl 1 (.sym fun _=>zi ((d.tv).getD ix.den.toNat []).length) (fun jx=>[(iv fun _=>((d.tv).getD ix.den.toNat []).getD jx.den.toNat 0)]))])),(iv fun _=>d.sn),(iv fun _=>d.pn),(.sl 4 (.sym fun _=>zi (d.ls).length) (fun ix=>[(iv fun _=>((d.ls).getD ix.den.toNat l0T).a),(iv fun _=>((d.ls).getD ix.den.toNat l0T).b),(iv fun _=>((d.ls).getD ix.den.toNat l0T).lo),(iv fun _=>((d.ls).getD ix.den.toNat l0T).hi)])),(.sl 6 (.sym fun _=>zi (d.fs).length) (fun ix=>[(iv fun _=>((d.fs).getD ix.den.toNat f0T).p),(iv fun _=>((d.fs).getD ix.den.toNat f0T).s),(iv fun _=>((d.fs).getD ix.den.toNat f0T).wl),(iv fun _=>((d.fs).getD ix.den.toNat f0T).wh),(iv fun _=>((d.fs).getD ix.den.toNat f0T).ml),(iv fun _=>((d.fs).getD ix.den.toNat f0T).mh)]))] 39),(20,.row 3 1 (.sym fun _=>zi ((selL fB x.1)).length) (fun ix=>[(iv fun _=>((selL fB x.1)).getD ix.den.toNat 0)]))],100⟩,fun x=>d.pn.toNat-x.1,?_,?_⟩
 ·refine⟨⟨0,by omega⟩,?_⟩
  cbv
  repeat' (first
   |with_reducible refine hold ?_ ?_
   |with_reducible refine And.intro ?_ ?_)
  all_goals first
   |trivial
   |exact qM (qE (by rfl))
   |exact qM (Fit.refl _)
   |exact qL (qK _)
   |(refine qL (ua8 ?_ ?_);(first|rfl|((try simp only [qV]at *);(try simp only [zQ,zA,zB,zC,zD,zE,zF,zG,zH,zI,zJ,zK,zL,zM,zN,zO,zP,zR,zS]at *);omega));intro ix h0 h1;exfalso;(try simp only [qV]at *);(try simp only [zQ,zA,zB,zC,zD,zE,zF,zG,zH,zI,zJ,zK,zL,zM,zN,zO,zP,zR,zS]at *);omega)
   |skip
 ·rintro ⟨k, hk⟩
  cbv
  have hl2:=uhM fB k
  have hyB:=upR (f:=fB) (k:=k)
  have hnB:=unW (f:=fB) (k:=k)
  obtain⟨M2,hM2⟩:∃M,M=selL fB k:=⟨_,rfl⟩
  rw [←hM2]at hl2 hyB hnB⊢
  have c64k:=c64 k
  have c65k:=c65 k
  rcases Nat.lt_or_ge k d.pn.toNat with hlt|hge
  ·have hfa :=hAf k hlt
   rw [hfa]at c64k
   rcases hfb:fB k with _|_
   ·rw [hfb]at c65k
    cbv
    repeat' (first
     |with_reducible refine hold ?_ ?_
     |with_reducible refine And.intro ?_ ?_
     |(with_reducible intro hcd;(try simp only [zA,zB,zC,zD,zE,zF,zG,zH,zI,zJ,zK,zL,zM,zN,zO,zP]at hcd);try cbv)
     | (refine⟨some [102],?_⟩
        cbv
        refine qQ ?_ (c64k) ?hfit ?hbo
        case hfit=>(cbv;(repeat' (first|exact qB|refine qD ?_ ?_|exact qE (by rfl)|exact qF (by rfl)|exact Fit.refl _|exact qA|refine qC ?_ rfl ?_));done)
        case hbo=>(cbv;(repeat' (first|exact qH|refine qI ?_ ?_|exact qK _|refine qJ ?_|exact qA|exact qE (by rfl)|exact qF (by rfl)|exact Fit.refl _|exact qG _|refine qC ?_ rfl ?_));done)
        try cbv)
     | (refine⟨some [102],?_⟩
        cbv
        refine qQ ?_ (c65k) ?hfit ?hbo
        case hfit=>(cbv;(repeat' (first|exact qB|refine qD ?_ ?_|exact qE (by rfl)|exact qF (by rfl)|exact Fit.refl _|exact qA|refine qC ?_ rfl ?_));done)
        case hbo=>(cbv;(repeat' (first|exact qH|refine qI ?_ ?_|exact qK _|refine qJ ?_|exact qA|exact qE (by rfl)|exact qF (by rfl)|exact Fit.refl _|exact qG _|refine qC ?_ rfl ?_));done)
        try cbv)
     | (obtain⟨L4,eL4⟩:∃y:List Int,y=M2++[zi k]:=⟨_,rfl⟩
        refine⟨udn L4,?_⟩
        cbv
        refine hold (uai (L:=M2) eL4 (by(first|rfl|((try simp only [qV]at *);(try simp only [zQ,zA,zB,zC,zD,zE,zF,zG,zH,zI,zJ,zK,zL,zM,zN,zO,zP,zR,zS]at *);done)|((try simp only [qV]at *);(try simp only [zQ,zA,zB,zC,zD,zE,zF,zG,zH,zI,zJ,zK,zL,zM,zN,zO,zP,zR,zS]at *);omega))) (by rfl) (fun ix=>Fit.refl _) (fun ix h=>qC (qE (by rfl)) rfl qA) (by(try simp only [qV]at *);(try simp only [zQ,zA,zB,zC,zD,zE,zF,zG,zH,zI,zJ,zK,zL,zM,zN,zO,zP,zR,zS]at *);omega)) (Or.inl ?_)
        try cbv)
     |fail)
    all_goals first
     |trivial
     |((try simp only [qV]at *);(try simp only [zQ,zA,zB,zC,zD,zE,zF,zG,zH,zI,zJ,zK,zL,zM,zN,zO,zP,zR,zS]at *);first|(refine qN ?_;omega)|(simp only [Hold];omega))
     |((have hke:k=d.pn.toNat:=(by((try simp only [qV]at *);(try simp only [zQ,zA,zB,zC,zD,zE,zF,zG,zH,zI,zJ,zK,zL,zM,zN,zO,zP,zR,zS]at *);omega)));subst hR;rw [←hke,←hM2];exact qD (Fit.refl _) (qD (Fit.refl _) (qD (qE rfl) qB)))
     |((try simp only [zQ,zA,zB,zC,zD,zE,zF,zG,zH,zI,zJ,zK,zL,zM,zN,zO,zP,zR,zS]at *);(have hx2:selL fB (k+1)=M2:=hnB hfb);refine⟨⟨k+1,by((try simp only [qV]at *);(try simp only [zQ,zA,zB,zC,zD,zE,zF,zG,zH,zI,zJ,zK,zL,zM,zN,zO,zP,zR,zS]at *);omega)⟩,by simp only [];omega,?_⟩;cbv;(repeat' (first|with_reducible refine hold ?_ ?_|with_reducible refine And.intro ?_ ?_));(all_goals first|trivial|exact qM (qE (by rfl))|exact qM (qF (by rfl))|exact qM (Fit.refl _)|exact qL (qK _)|(refine qM (qE ?_);(try simp only [qV]at *);simp only [zQ,zA,zB,zC,zD,zE,zF,zG,zH,zI,zJ,zK,zL,zM,zN,zO,zP,zR,zS]at *;omega)|(refine qL (qJ ?_);(repeat' (first|exact qA|exact qB|refine qC ?_ rfl ?_|refine qD ?_ ?_|exact qE (by rfl)|exact qF (by rfl)|exact Fit.refl _|exact qG _|(refine qE ?_;(try simp only [qV]at *);simp only [zQ,zA,zB,zC,zD,zE,zF,zG,zH,zI,zJ,zK,zL,zM,zN,zO,zP,zR,zS]at *;omega)));done)|(simp only [hx2];first|exact qL (qK _)|(refine qL (ua8 ?_ ?_)<;>first|rfl|(rw [hM2,List.length_append];rfl)|((try simp only [qV]at *);(try simp only [zQ,zA,zB,zC,zD,zE,zF,zG,zH,zI,zJ,zK,zL,zM,zN,zO,zP,zR,zS]at *);(try simp only [hM2,List.length_append,List.length_cons,List.length_nil]at *);omega)|(intro ix h0 h1;exact Fit.refl _)))|skip))
     |skip
   ·rw [hfb]at c65k
    cbv
    repeat' (first
     |with_reducible refine hold ?_ ?_
     |with_reducible refine And.intro ?_ ?_
     |(with_reducible intro hcd;(try simp only [zA,zB,zC,zD,zE,zF,zG,zH,zI,zJ,zK,zL,zM,zN,zO,zP]at hcd);try cbv)
     | (refine⟨some [102],?_⟩
        cbv
        refine qQ ?_ (c64k) ?hfit ?hbo
        case hfit=>(cbv;(repeat' (first|exact qB|refine qD ?_ ?_|exact qE (by rfl)|exact qF (by rfl)|exact Fit.refl _|exact qA|refine qC ?_ rfl ?_));done)
        case hbo=>(cbv;(repeat' (first|exact qH|refine qI ?_ ?_|exact qK _|refine qJ ?_|exact qA|exact qE (by rfl)|exact qF (by rfl)|exact Fit.refl _|exact qG _|refine qC ?_ rfl ?_));done)
        try cbv)
     | (refine⟨some [102],?_⟩
        cbv
        refine qQ ?_ (c65k) ?hfit ?hbo
        case hfit=>(cbv;(repeat' (first|exact qB|refine qD ?_ ?_|exact qE (by rfl)|exact qF (by rfl)|exact Fit.refl _|exact qA|refine qC ?_ rfl ?_));done)
        case hbo=>(cbv;(repeat' (first|exact qH|refine qI ?_ ?_|exact qK _|refine qJ ?_|exact qA|exact qE (by rfl)|exact qF (by rfl)|exact Fit.refl _|exact qG _|refine qC ?_ rfl ?_));done)
        try cbv)
     | (obtain⟨L4,eL4⟩:∃y:List Int,y=M2++[zi k]:=⟨_,rfl⟩
        refine⟨udn L4,?_⟩
        cbv
        refine hold (uai (L:=M2) eL4 (by(first|rfl|((try simp only [qV]at *);(try simp only [zQ,zA,zB,zC,zD,zE,zF,zG,zH,zI,zJ,zK,zL,zM,zN,zO,zP,zR,zS]at *);done)|((try simp only [qV]at *);(try simp only [zQ,zA,zB,zC,zD,zE,zF,zG,zH,zI,zJ,zK,zL,zM,zN,zO,zP,zR,zS]at *);omega))) (by rfl) (fun ix=>Fit.refl _) (fun ix h=>qC (qE (by rfl)) rfl qA) (by(try simp only [qV]at *);(try simp only [zQ,zA,zB,zC,zD,zE,zF,zG,zH,zI,zJ,zK,zL,zM,zN,zO,zP,zR,zS]at *);omega)) (Or.inl ?_)
        try cbv)
     |fail)
    all_goals first
     |trivial
     |((try simp only [qV]at *);(try simp only [zQ,zA,zB,zC,zD,zE,zF,zG,zH,zI,zJ,zK,zL,zM,zN,zO,zP,zR,zS]at *);first|(refine qN ?_;omega)|(simp only [Hold];omega))
     |((have hke:k=d.pn.toNat:=(by((try simp only [qV]at *);(try simp only [zQ,zA,zB,zC,zD,zE,zF,zG,zH,zI,zJ,zK,zL,zM,zN,zO,zP,zR,zS]at *);omega)));subst hR;rw [←hke,←hM2];exact qD (Fit.refl _) (qD (Fit.refl _) (qD (qE rfl) qB)))
     |((try simp only [zQ,zA,zB,zC,zD,zE,zF,zG,zH,zI,zJ,zK,zL,zM,zN,zO,zP,zR,zS]at *);(have hx2:selL fB (k+1)=L4:=(hyB hfb).trans eL4.symm);refine⟨⟨k+1,by((try simp only [qV]at *);(try simp only [zQ,zA,zB,zC,zD,zE,zF,zG,zH,zI,zJ,zK,zL,zM,zN,zO,zP,zR,zS]at *);omega)⟩,by simp only [];omega,?_⟩;cbv;(repeat' (first|with_reducible refine hold ?_ ?_|with_reducible refine And.intro ?_ ?_));(all_goals first|trivial|exact qM (qE (by rfl))|exact qM (qF (by rfl))|exact qM (Fit.refl _)|exact qL (qK _)|(refine qM (qE ?_);(try simp only [qV]at *);simp only [zQ,zA,zB,zC,zD,zE,zF,zG,zH,zI,zJ,zK,zL,zM,zN,zO,zP,zR,zS]at *;omega)|(refine qL (qJ ?_);(repeat' (first|exact qA|exact qB|refine qC ?_ rfl ?_|refine qD ?_ ?_|exact qE (by rfl)|exact qF (by rfl)|exact Fit.refl _|exact qG _|(refine qE ?_;(try simp only [qV]at *);simp only [zQ,zA,zB,zC,zD,zE,zF,zG,zH,zI,zJ,zK,zL,zM,zN,zO,zP,zR,zS]at *;omega)));done)|(simp only [hx2];first|exact qL (qK _)|(refine qL (ua8 ?_ ?_)<;>first|rfl|(rw [eL4,List.length_append];rfl)|((try simp only [qV]at *);(try simp only [zQ,zA,zB,zC,zD,zE,zF,zG,zH,zI,zJ,zK,zL,zM,zN,zO,zP,zR,zS]at *);(try simp only [eL4,List.length_append,List.length_cons,List.length_nil]at *);omega)|(intro ix h0 h1;exact Fit.refl _)))|skip))
     |skip
  ·cbv
   repeat' (first
    |with_reducible refine And.intro ?_ ?_
    |(with_reducible intro hcd;(try simp only [zA,zB,zC,zD,zE,zF,zG,zH,zI,zJ,zK,zL,zM,zN,zO,zP]at hcd);try cbv)
    |fail)
   all_goals first
    |((have hke:k=d.pn.toNat:=(by((try simp only [qV]at *);(try simp only [zQ,zA,zB,zC,zD,zE,zF,zG,zH,zI,zJ,zK,zL,zM,zN,zO,zP,zR,zS]at *);omega)));subst hR;rw [←hke,←hM2];exact qD (Fit.refl _) (qD (Fit.refl _) (qD (qE rfl) qB)))
    |(exfalso;(try simp only [qV]at *);(try simp only [zQ,zA,zB,zC,zD,zE,zF,zG,zH,zI,zJ,zK,zL,zM,zN,zO,zP,zR,zS]at *);omega)
    |skip
end Go.Proofs.YtkdggbfknlcdaaaGreat
namespace Go.Proofs.YtkdggbfknlcdaaaGreat
open Go Go.Eng Go.Eng.Dif Go.Eng.Few
theorem ub6 {n ix:Int} {o2:Nat} {e e':IX→List SV} {x:List SV}(h0:ix<n)(h1:∀jx:IX,0≤jx.den→jx.den<n→jx.den≠ix→Fit (.agg (e jx)) (.agg (e' jx)))
 (h2:∀jx:IX,0≤jx.den→jx.den<n→jx.den=ix→∃l,putC (e jx) o2 x=some l∧Fit (.agg l) (.agg (e' jx))):Hold (ix<n∧us8 n e ix o2 x e'):=
 ⟨h0,fun jx a b c=>(h1 jx a b c).le,fun jx a b c=>by obtain⟨l,p,q⟩:=h2 jx a b c;exact⟨l,p,q.le⟩⟩
def updN (f:Nat→Int)(p:Nat)(v:Int):Nat→Int:=fun i=>if i=p then v else f i
theorem ucQ {f:Nat→Int} {p i:Nat} {v:Int}(h:i=p):v=updN f p v i:=by unfold updN;rw [if_pos h]
theorem udC {f:Nat→Int} {p i:Nat} {v:Int}(h:i≠p):f i=updN f p v i:=by unfold updN;rw [if_neg h]
theorem uth {n:Int} {m k:Nat}(hn:0≤n)(h:(k:Int)<n.tmod (m:Int)):(bear n.toNat m k:Int)=n.tdiv (m:Int)+1:=by
 obtain⟨N,rfl⟩:∃N:Nat,n=(N:Int):=⟨n.toNat,by omega⟩
 have h1:(N:Int).tmod (m:Int)=((N%m:Nat):Int):=rfl
 have h2:(N:Int).tdiv (m:Int)=((N/m:Nat):Int):=rfl
 rw [h1]at h
 rw [h2]
 unfold bear
 rw [Int.toNat_natCast,if_pos (by omega)]
 omega
theorem uuA {n:Int} {m k:Nat}(hn:0≤n)(h:¬(k:Int)<n.tmod (m:Int)):(bear n.toNat m k:Int)=n.tdiv (m:Int):=by
 obtain⟨N,rfl⟩:∃N:Nat,n=(N:Int):=⟨n.toNat,by omega⟩
 have h1:(N:Int).tmod (m:Int)=((N%m:Nat):Int):=rfl
 have h2:(N:Int).tdiv (m:Int)=((N/m:Nat):Int):=rfl
 rw [h1]at h
 rw [h2]
 unfold bear
 rw [Int.toNat_natCast,if_neg (by omega)]
 omega
theorem ulg {n:Int} {m:Nat}(h0:0≤n)(h1:n≤1000000):0≤n.tdiv (m:Int)∧n.tdiv (m:Int)≤1000000:=by
 obtain⟨N,rfl⟩:∃N:Nat,n=(N:Int):=⟨n.toNat,by omega⟩
 have h2:(N:Int).tdiv (m:Int)=((N/m:Nat):Int):=rfl
 have:=Nat.div_le_self N m
 rw [h2]
 exact⟨Int.natCast_nonneg _,Int.le_trans (Int.ofNat_le.2 this) h1⟩
theorem udB {n:Int} {L:List Int} {m k i:Nat}(hn:0≤n)(h0:0≤L.getD k 0)(h:¬(k:Int)<n.tmod (m:Int)):updN (ub9 n.toNat L m k) (L.getD k 0).toNat (n.tdiv (m:Int)) i=ub9 n.toNat L m (k+1) i:=by
 unfold updN ub9
 rw [uuA hn h]
 by_cases e:i=(L.getD k 0).toNat
 ·rw [if_pos e,if_pos (by omega)]
 ·rw [if_neg e,if_neg (by omega)]
  cases k<;>rfl
theorem udM {n:Int} {L:List Int} {m k i a:Nat}(hn:0≤n)(h0:0≤L.getD k 0)(h:(k:Int)<n.tmod (m:Int))(ha:a=(L.getD k 0).toNat):updN (updN (ub9 n.toNat L m k) (L.getD k 0).toNat (n.tdiv (m:Int))) (L.getD k 0).toNat (updN (ub9 n.toNat L m k) (L.getD k 0).toNat (n.tdiv (m:Int)) a+1) i=ub9 n.toNat L m (k+1) i:=by
 rw [←ucQ ha]
 unfold updN ub9
 rw [uth hn h]
 by_cases e:i=(L.getD k 0).toNat
 ·rw [if_pos e,if_pos (by omega)]
 ·rw [if_neg e,if_neg e,if_neg (by omega)]
  cases k<;>rfl
theorem ujC {d:Dsp}(h:ua9 d=0):Asc d.pn.toNat 0 (beaL d)∧0<(beaL d).length:=by
 have e:mstL d=selL (mstF d) d.pn.toNat:=if_pos h
 have p1:=(ua3.1 (uao h).1).p1
 unfold beaL
 rw [e]
 exact uqg (by omega) upo
theorem ume {d:Dsp}(h:ua9 d=0) {k:Nat}(hk:k<(beaL d).length):0≤(beaL d).getD k 0∧(beaL d).getD k 0<d.pn:=by
 have:=ugx (ujC h).1 k hk
 have p1:=(ua3.1 (uao h).1).p1
 omega
theorem uij {d:Dsp}(h:ua9 d=0):(beaL d).length≤4:=by
 have p4:=(ua3.1 (uao h).1).p4
 have e:mstL d=selL (mstF d) d.pn.toNat:=if_pos h
 unfold beaL ukO
 split
 ·rw [uif];omega
 ·rw [e];have:=uhM (mstF d) d.pn.toNat;omega
theorem unR {d:Dsp}(h:mstL d=[]):beaL d=uaK d.pn.toNat:=by unfold beaL ukO;rw [h];rfl
theorem up0 {d:Dsp}(h:mstL d≠[]):beaL d=mstL d:=by
 unfold beaL ukO
 rw [if_neg (by rw [List.length_eq_zero_iff];exact h)]
theorem uva (k:Nat):uaK (k+1)=uaK k++[(k:Int)]:=rfl
theorem uh5 {d:Dsp} {n:Int}(h:coE d n=0):ua9 d=0∧0≤n∧n≤1000000:=by
 by_cases hF:ua4 d=0
 ·by_cases hn:coOk n
  ·by_cases hf:ua9 d=0
   ·exact⟨hf,hn.1,hn.2⟩
   ·rw [(uhJ hF hn hf).1]at h;exact absurd h hf
  ·rw [(um8 hF hn).1]at h;omega
 ·rw [(uku hF).1]at h;exact absurd h hF
theorem uoJ {d:Dsp} {n:Int}(h:¬coE d n=0):coN d n=0:=by unfold coN;rw [if_neg h]
end Go.Proofs.YtkdggbfknlcdaaaGreat
namespace Go.Proofs.YtkdggbfknlcdaaaGreat
open Go Go.Eng Go.Proofs Go.Eng.Dif Go.Eng.Few
set_option maxRecDepth 10000
theorem uql (d:Dsp)(n:Int)(h:¬coE d n=0):ua0 Tryz.prog 20 [(dspS d),(iv fun _=>n)] [] (fun r _=>r=(.tup [(.sl 1 (.sym fun _=>coN d n) (fun ix=>[(iv fun _=>cosF d n ix.den.toNat)])),(iv fun _=>coE d n)])):=by
 have c16:=ucM d
 have c43:= @udo
 have c33:=udP d
 refine ua0.is fun R hR=>qW (sc:=sc20) tyok mix Tryz.func20 rfl Tryz.call20 (by kernel_rfl) (by kernel_rfl) ?_
 generalize Tryz.prog=P at c16 c43 c33⊢
 cbv
 repeat' (first
  |with_reducible refine hold ?_ ?_
  |with_reducible refine And.intro ?_ ?_
  |(with_reducible intro hcd;(try simp only [zA,zB,zC,zD,zE,zF,zG,zH,zI,zJ,zK,zL,zM,zN,zO,zP]at hcd);try cbv)
  | (refine qP ?_ (c16) ?hfit
     case hfit=>((repeat' (first|exact qB|refine qD ?_ ?_|exact qE (by rfl)|exact qF (by rfl)|exact Fit.refl _|exact qA|refine qC ?_ rfl ?_));done)
     try cbv)
  | (refine qP ?_ (c43 _ _ _) (by(repeat' (first|exact qB|refine qD ?_ ?_|exact qE (by rfl)|exact qF (by rfl)|exact Fit.refl _|exact qA|refine qC ?_ rfl ?_)))
     try cbv)
  | (refine qP ?_ (c33) ?hfit
     case hfit=>((repeat' (first|exact qB|refine qD ?_ ?_|exact qE (by rfl)|exact qF (by rfl)|exact Fit.refl _|exact qA|refine qC ?_ rfl ?_));done)
     try cbv)
  |fail)
 all_goals first
  |(subst hR;((try simp only [qV]at *);(try simp only [zQ,zA,zB,zC,zD,zE,zF,zG,zH,zI,zJ,zK,zL,zM,zN,zO,zP,zR,zS]at *);(try simp only [uan,uas,uaM,uaV,uaZ,ub0,uaf,uah,uae,uag]at *);(exact qD (qO (uoJ h)) (qD (qE (uku (d:=d) (n:=n) (by first|assumption|omega)).1.symm) qB)));done)
  |(subst hR;((try simp only [qV]at *);(try simp only [zQ,zA,zB,zC,zD,zE,zF,zG,zH,zI,zJ,zK,zL,zM,zN,zO,zP,zR,zS]at *);(try simp only [uan,uas,uaM,uaV,uaZ,ub0,uaf,uah,uae,uag]at *);(exact qD (qO (uoJ h)) (qD (qE (um8 (d:=d) (n:=n) (by first|assumption|omega) (by unfold coOk;omega)).1.symm) qB)));done)
  |(subst hR;((try simp only [qV]at *);(try simp only [zQ,zA,zB,zC,zD,zE,zF,zG,zH,zI,zJ,zK,zL,zM,zN,zO,zP,zR,zS]at *);(try simp only [uan,uas,uaM,uaV,uaZ,ub0,uaf,uah,uae,uag]at *);(exact qD (qO (uoJ h)) (qD (qE (uhJ (d:=d) (n:=n) (by first|assumption|omega) (by unfold coOk;omega) (by first|assumption|omega)).1.symm) qB)));done)
  |(exfalso;(try simp only [qV]at *);(try simp only [zQ,zA,zB,zC,zD,zE,zF,zG,zH,zI,zJ,zK,zL,zM,zN,zO,zP,zR,zS]at *);(try simp only [uan,uas,uaM,uaV,uaZ,ub0,uaf,uah,uae,uag]at *);exact h (ufy (by first|assumption|omega) (by unfold coOk;omega) (by first|assumption|omega)).1)
  |skip
theorem umc {f:Nat→Int} {p i a:Nat}(ha:a=p)(h:i=p):f a+1=updN f p (f p+1) i:=by
 subst ha
 exact ucQ h
set_option maxHeartbeats 2000000 in
theorem uqo (d:Dsp)(n:Int)(h:coE d n=0)(he:mstL d=[]):ua0 Tryz.prog 20 [(dspS d),(iv fun _=>n)] [] (fun r _=>r=(.tup [(.sl 1 (.sym fun _=>coN d n) (fun ix=>[(iv fun _=>cosF d n ix.den.toNat)])),(iv fun _=>coE d n)])):=by
 have c16:=ucM d
 have c43:= @udo
 have hf:=(uh5 h).1
 have hn0:=(uh5 h).2.1
 have hn1:=(uh5 h).2.2
 have hF:=(uao hf).1
 have p1:=(ua3.1 hF).p1
 have p4:=(ua3.1 hF).p4
 have hco:=ufy (n:=n) hF (show coOk n from⟨hn0,hn1⟩) hf
 have hbl:=uij hf
 have hb0:=(ujC hf).2
 have hbe:=fun (k:Nat) (hk:k<(beaL d).length)=>ume hf hk
 have hend:∀{k:Nat},k=(beaL d).length→∀p,ub9 n.toNat (beaL d) (beaL d).length k p=cosF d n p:=fun hk p=>by subst hk;rfl
 have c33:=urn d hf he
 have hbn:=unR he
 obtain⟨Lb,hLb⟩:∃L,L=beaL d:=⟨_,rfl⟩
 rw [←hLb]at hbl hb0 hbe hend hbn
 clear hLb
 refine ua0.is fun R hR=>qW (sc:=sc20) tyok mix Tryz.func20 rfl Tryz.call20 (by kernel_rfl) (by kernel_rfl) ?_
 generalize Tryz.prog=P at c16 c43 c33⊢
 cbv
 repeat' (first
  |with_reducible refine And.intro ?_ ?_
  |(with_reducible intro hcd;(try simp only [zA,zB,zC,zD,zE,zF,zG,zH,zI,zJ,zK,zL,zM,zN,zO,zP]at hcd);try cbv)
  | (refine qP ?_ (c16) ?hfit
     case hfit=>((repeat' (first|exact qB|refine qD ?_ ?_|exact qE (by rfl)|exact qF (by rfl)|exact Fit.refl _|exact qA|refine qC ?_ rfl ?_));done)
     try cbv)
  | (refine qP ?_ (c43 _ _ _) (by(repeat' (first|exact qB|refine qD ?_ ?_|exact qE (by rfl)|exact qF (by rfl)|exact Fit.refl _|exact qA|refine qC ?_ rfl ?_)))
     try cbv)
  | (refine qP ?_ (c33) ?hfit
     case hfit=>((repeat' (first|exact qB|refine qD ?_ ?_|exact qE (by rfl)|exact qF (by rfl)|exact Fit.refl _|exact qA|refine qC ?_ rfl ?_));done)
     try cbv)
  |fail)
 all_goals first
  |trivial
  |(exfalso;(try simp only [qV]at *);(try simp only [zQ,zA,zB,zC,zD,zE,zF,zG,zH,zI,zJ,zK,zL,zM,zN,zO,zP,zR,zS]at *);(try simp only [uan,uas,uaM,uaV,uaZ,ub0,uaf,uah,uae,uag]at *);omega)
  |skip
 refine⟨none,[⟨.tmp 7,3,1⟩],{k:Nat // k≤d.pn.toNat},fun x=>⟨[(1,(iv fun _=>n)),(2,.own 0 0),(7,.row 28),(35,(iv fun _=>d.pn)),(36,(iv fun _=>zi x.1))],[(0,.cells [(iS d.tw),(iS d.tm),(.sl 1 (.sym fun _=>zi (d.tv).length) (fun ix=>[(.sl 1 (.sym fun _=>zi ((d.tv).getD ix.den.toNat []).length) (fun jx=>[(iv fun _=>((d.tv).getD ix.den.toNat []).getD jx.den.toNat 0)]))])),(iv fun _=>d.sn),(iv fun _=>d.pn),(.sl 4 (.sym fun _=>zi (d.ls).length) (fun ix=>[(iv fun _=>((d.ls).getD ix.den.toNat l0T).a),(iv fun _=>((d.ls).getD ix.den.toNat l0T).b),(iv fun _=>((d.ls).getD ix.den.toNat l0T).lo),(iv fun _=>((d.ls).getD ix.den.toNat l0T).hi)])),(.sl 6 (.sym fun _=>zi (d.fs).length) (fun ix=>[(iv fun _=>((d.fs).getD ix.den.toNat f0T).p),(iv fun _=>((d.fs).getD ix.den.toNat f0T).s),(iv fun _=>((d.fs).getD ix.den.toNat f0T).wl),(iv fun _=>((d.fs).getD ix.den.toNat f0T).wh),(iv fun _=>((d.fs).getD ix.den.toNat f0T).ml),(iv fun _=>((d.fs).getD ix.den.toNat f0T).mh)]))] 39),(28,.row 3 1 (.sym fun _=>zi ((uaK x.1)).length) (fun ix=>[(iv fun _=>((uaK x.1)).getD ix.den.toNat 0)]))],100⟩,fun x=>d.pn.toNat-x.1,?_,?_⟩
 ·refine⟨⟨0,by omega⟩,?_⟩
  cbv
  repeat' (first
   |with_reducible refine hold ?_ ?_
   |with_reducible refine And.intro ?_ ?_)
  all_goals first
   |trivial
   |exact qM (qE (by rfl))
   |exact qM (Fit.refl _)
   |exact qL (qK _)
   |(refine qL (ua8 ?_ ?_);(first|rfl|((try simp only [qV]at *);(try simp only [zQ,zA,zB,zC,zD,zE,zF,zG,zH,zI,zJ,zK,zL,zM,zN,zO,zP,zR,zS]at *);omega));intro ix h0 h1;exfalso;(try simp only [qV]at *);(try simp only [zQ,zA,zB,zC,zD,zE,zF,zG,zH,zI,zJ,zK,zL,zM,zN,zO,zP,zR,zS]at *);omega)
   |skip
 ·rintro ⟨k,hk⟩
  cbv
  have hlen:=uif k
  obtain⟨M,hM⟩:∃M,M=uaK k:=⟨_,rfl⟩
  have hx0:=uva k
  rw [←hM]at hlen hx0⊢
  cbv
  repeat' (first
   |with_reducible refine hold ?_ ?_
   |with_reducible refine And.intro ?_ ?_
   |(with_reducible intro hcd;(try simp only [zA,zB,zC,zD,zE,zF,zG,zH,zI,zJ,zK,zL,zM,zN,zO,zP]at hcd);try cbv)
   | (obtain⟨L2,eL2⟩:∃y:List Int,y=M++[zi k]:=⟨_,rfl⟩
      refine⟨udn L2,?_⟩
      cbv
      refine hold (uai (L:=M) eL2 (by(first|rfl|((try simp only [qV]at *);(try simp only [zQ,zA,zB,zC,zD,zE,zF,zG,zH,zI,zJ,zK,zL,zM,zN,zO,zP,zR,zS]at *);done)|((try simp only [qV]at *);(try simp only [zQ,zA,zB,zC,zD,zE,zF,zG,zH,zI,zJ,zK,zL,zM,zN,zO,zP,zR,zS]at *);omega))) (by rfl) (fun ix=>Fit.refl _) (fun ix h=>qC (qE (by rfl)) rfl qA) (by(try simp only [qV]at *);(try simp only [zQ,zA,zB,zC,zD,zE,zF,zG,zH,zI,zJ,zK,zL,zM,zN,zO,zP,zR,zS]at *);omega)) (Or.inl ?_)
      try cbv)
   |fail)
  all_goals first
   |((try simp only [qV]at *);(try simp only [zQ,zA,zB,zC,zD,zE,zF,zG,zH,zI,zJ,zK,zL,zM,zN,zO,zP,zR,zS]at *);first|(refine qN ?_;omega)|(simp only [Hold];omega))
   |(unfold Hold;exact⟨show(0:Int)≤d.pn by omega,rfl,show d.pn*((1:Nat):Int)≤16777216 by omega,show d.pn*((8:Nat):Int)≤16777216 by omega,show d.pn≤16777216 by omega⟩)
   |((try simp only [zQ,zA,zB,zC,zD,zE,zF,zG,zH,zI,zJ,zK,zL,zM,zN,zO,zP,zR,zS]at *);(have hx:uaK (k+1)=L2:=hx0.trans eL2.symm);refine⟨⟨k+1,by((try simp only [qV]at *);(try simp only [zQ,zA,zB,zC,zD,zE,zF,zG,zH,zI,zJ,zK,zL,zM,zN,zO,zP,zR,zS]at *);omega)⟩,by simp only [];omega,?_⟩;cbv;(repeat' (first|with_reducible refine hold ?_ ?_|with_reducible refine And.intro ?_ ?_));(all_goals first|trivial|exact qM (qE (by rfl))|exact qM (qF (by rfl))|exact qM (Fit.refl _)|exact qL (qK _)|(refine qM (qE ?_);(try simp only [qV]at *);simp only [zQ,zA,zB,zC,zD,zE,zF,zG,zH,zI,zJ,zK,zL,zM,zN,zO,zP,zR,zS]at *;omega)|(refine qL (qJ ?_);(repeat' (first|exact qA|exact qB|refine qC ?_ rfl ?_|refine qD ?_ ?_|exact qE (by rfl)|exact qF (by rfl)|exact Fit.refl _|exact qG _|(refine qE ?_;(try simp only [qV]at *);simp only [zQ,zA,zB,zC,zD,zE,zF,zG,zH,zI,zJ,zK,zL,zM,zN,zO,zP,zR,zS]at *;omega)));done)|(simp only [hx];first|exact qL (qK _)|(refine qL (ua8 ?_ ?_)<;>first|rfl|(rw [eL2,List.length_append];rfl)|((try simp only [qV]at *);(try simp only [zQ,zA,zB,zC,zD,zE,zF,zG,zH,zI,zJ,zK,zL,zM,zN,zO,zP,zR,zS]at *);(try simp only [eL2,List.length_append,List.length_cons,List.length_nil]at *);omega)|(intro ix h0 h1;exact Fit.refl _)))|skip))
   |skip
  have hkP:k=d.pn.toNat:=(by((try simp only [qV]at *);(try simp only [zQ,zA,zB,zC,zD,zE,zF,zG,zH,zI,zJ,zK,zL,zM,zN,zO,zP,zR,zS]at *);omega))
  have hML:M=Lb:=by rw [hM,hkP,←hbn]
  rw [hML]
  refine⟨none,[],{k:Nat // k≤Lb.length},fun x=>⟨[(1,(iv fun _=>n)),(7,.row 28),(11,.row 103),(47,.row 28),(48,(iv fun _=>zi Lb.length)),(49,(iv fun _=>zi x.1))],[(0,.cells [(iS d.tw),(iS d.tm),(.sl 1 (.sym fun _=>zi (d.tv).length) (fun ix=>[(.sl 1 (.sym fun _=>zi ((d.tv).getD ix.den.toNat []).length) (fun jx=>[(iv fun _=>((d.tv).getD ix.den.toNat []).getD jx.den.toNat 0)]))])),(iv fun _=>d.sn),(iv fun _=>d.pn),(.sl 4 (.sym fun _=>zi (d.ls).length) (fun ix=>[(iv fun _=>((d.ls).getD ix.den.toNat l0T).a),(iv fun _=>((d.ls).getD ix.den.toNat l0T).b),(iv fun _=>((d.ls).getD ix.den.toNat l0T).lo),(iv fun _=>((d.ls).getD ix.den.toNat l0T).hi)])),(.sl 6 (.sym fun _=>zi (d.fs).length) (fun ix=>[(iv fun _=>((d.fs).getD ix.den.toNat f0T).p),(iv fun _=>((d.fs).getD ix.den.toNat f0T).s),(iv fun _=>((d.fs).getD ix.den.toNat f0T).wl),(iv fun _=>((d.fs).getD ix.den.toNat f0T).wh),(iv fun _=>((d.fs).getD ix.den.toNat f0T).ml),(iv fun _=>((d.fs).getD ix.den.toNat f0T).mh)]))] 39),(28,.row 3 1 (.sym fun _=>zi (Lb).length) (fun ix=>[(iv fun _=>(Lb).getD ix.den.toNat 0)])),(103,.row 3 1 (.sym fun _=>d.pn) (fun ix=>[(iv fun _=>(ub9 n.toNat Lb Lb.length x.1) ix.den.toNat)]))],300⟩,fun x=>Lb.length-x.1,?_,?_⟩
  ·refine⟨⟨0,by omega⟩,?_⟩
   cbv
   repeat' (first
    |with_reducible refine hold ?_ ?_
    |with_reducible refine And.intro ?_ ?_)
   all_goals first
    |trivial
    |exact qM (qE (by rfl))
    |exact qM (Fit.refl _)
    |exact qL (qK _)
    |(refine qL (ua8 ?_ ?_)<;>first|rfl|((try simp only [qV]at *);(try simp only [zQ,zA,zB,zC,zD,zE,zF,zG,zH,zI,zJ,zK,zL,zM,zN,zO,zP,zR,zS]at *);omega)|(intro ix h0 h1;first|exact Fit.refl _|exact qC (qE rfl) rfl qA))
    |skip
  ·rintro ⟨k,hk⟩
   cbv
   repeat' (first
    |with_reducible refine hold ?_ ?_
    |with_reducible refine And.intro ?_ ?_
    | (with_reducible refine qS ?_ ?_ ?_
       try cbv)
    | (with_reducible refine qT ?_ ?_
       try cbv)
    |(with_reducible intro hcd;(try simp only [zA,zB,zC,zD,zE,zF,zG,zH,zI,zJ,zK,zL,zM,zN,zO,zP]at hcd);try cbv)
    | ((have hk9:=hbe k (by((try simp only [qV]at *);(try simp only [zQ,zA,zB,zC,zD,zE,zF,zG,zH,zI,zJ,zK,zL,zM,zN,zO,zP,zR,zS]at *);omega)))
       refine⟨fun ix=>[(iv fun _=>(updN (ub9 n.toNat Lb Lb.length k) (Lb.getD k 0).toNat (n.tdiv (zi Lb.length))) ix.den.toNat)],?_⟩
       cbv
       refine hold (ub6 (o2:=0) (x:=[_]) (by((try simp only [qV]at *);(try simp only [zQ,zA,zB,zC,zD,zE,zF,zG,zH,zI,zJ,zK,zL,zM,zN,zO,zP,zR,zS]at *);omega)) (by intro jx h0 h1 h2;refine qC (qE ?_) rfl qA;(try simp only [qV]at *);(try simp only [zQ,zA,zB,zC,zD,zE,zF,zG,zH,zI,zJ,zK,zL,zM,zN,zO,zP,zR,zS]at *);exact udC (by omega)) (by intro jx h0 h1 h2;refine⟨_,rfl,qC (qE ?_) rfl qA⟩;(try simp only [qV]at *);(try simp only [zQ,zA,zB,zC,zD,zE,zF,zG,zH,zI,zJ,zK,zL,zM,zN,zO,zP,zR,zS]at *);exact ucQ (by omega))) ?_
       try cbv)
    | ((have hk9:=hbe k (by((try simp only [qV]at *);(try simp only [zQ,zA,zB,zC,zD,zE,zF,zG,zH,zI,zJ,zK,zL,zM,zN,zO,zP,zR,zS]at *);omega)))
       refine⟨fun ix=>[(iv fun _=>(updN (updN (ub9 n.toNat Lb Lb.length k) (Lb.getD k 0).toNat (n.tdiv (zi Lb.length))) (Lb.getD k 0).toNat ((updN (ub9 n.toNat Lb Lb.length k) (Lb.getD k 0).toNat (n.tdiv (zi Lb.length))) (Lb.getD k 0).toNat+1)) ix.den.toNat)],?_⟩
       cbv
       refine hold (ub6 (o2:=0) (x:=[_]) (by((try simp only [qV]at *);(try simp only [zQ,zA,zB,zC,zD,zE,zF,zG,zH,zI,zJ,zK,zL,zM,zN,zO,zP,zR,zS]at *);omega)) (by intro jx h0 h1 h2;refine qC (qE ?_) rfl qA;(try simp only [qV]at *);(try simp only [zQ,zA,zB,zC,zD,zE,zF,zG,zH,zI,zJ,zK,zL,zM,zN,zO,zP,zR,zS]at *);exact udC (by omega)) (by intro jx h0 h1 h2;refine⟨_,rfl,qC (qE ?_) rfl qA⟩;(try simp only [qV]at *);(try simp only [zQ,zA,zB,zC,zD,zE,zF,zG,zH,zI,zJ,zK,zL,zM,zN,zO,zP,zR,zS]at *);exact umc (by omega) (by omega))) ?_
       try cbv)
    |fail)
   all_goals first
    |trivial
    |((try simp only [qV]at *);(try simp only [zQ,zA,zB,zC,zD,zE,zF,zG,zH,zI,zJ,zK,zL,zM,zN,zO,zP,zR,zS]at *);first|(refine qN ?_;omega)|(simp only [Hold];omega))
    |((have hk9:=hbe k (by((try simp only [qV]at *);(try simp only [zQ,zA,zB,zC,zD,zE,zF,zG,zH,zI,zJ,zK,zL,zM,zN,zO,zP,zR,zS]at *);omega)));(try simp only [qV]at *);(try simp only [zQ,zA,zB,zC,zD,zE,zF,zG,zH,zI,zJ,zK,zL,zM,zN,zO,zP,zR,zS]at *);simp only [Hold];first|omega|exact⟨by omega,by omega⟩)
    |((have hk9:=hbe k (by((try simp only [qV]at *);(try simp only [zQ,zA,zB,zC,zD,zE,zF,zG,zH,zI,zJ,zK,zL,zM,zN,zO,zP,zR,zS]at *);omega)));(have hq9:=ulg (m:=Lb.length) hn0 hn1);(try simp only [qV]at *);(try simp only [zQ,zA,zB,zC,zD,zE,zF,zG,zH,zI,zJ,zK,zL,zM,zN,zO,zP,zR,zS]at *);first|(refine qN ?_;omega)|(rw [←ucQ (by omega)];refine qN ?_;omega))
    |((have hke:k=Lb.length:=(by((try simp only [qV]at *);(try simp only [zQ,zA,zB,zC,zD,zE,zF,zG,zH,zI,zJ,zK,zL,zM,zN,zO,zP,zR,zS]at *);omega)));subst hR;exact qD (ua1 hco.2.symm (fun ix h0 h1=>qC (qE (hend hke _)) rfl qA)) (qD (qE hco.1.symm) qB))
    |((try simp only [zQ,zA,zB,zC,zD,zE,zF,zG,zH,zI,zJ,zK,zL,zM,zN,zO,zP,zR,zS]at *);(have hk9:=hbe k (by((try simp only [qV]at *);(try simp only [zQ,zA,zB,zC,zD,zE,zF,zG,zH,zI,zJ,zK,zL,zM,zN,zO,zP,zR,zS]at *);omega)));(have hlo:¬(k:Int)<n.tmod (Lb.length:Int):=hcd);refine⟨⟨k+1,by((try simp only [qV]at *);(try simp only [zQ,zA,zB,zC,zD,zE,zF,zG,zH,zI,zJ,zK,zL,zM,zN,zO,zP,zR,zS]at *);omega)⟩,by simp only [];omega,?_⟩;cbv;(repeat' (first|with_reducible refine hold ?_ ?_|with_reducible refine And.intro ?_ ?_));(all_goals first|trivial|exact qM (qE (by rfl))|exact qM (qF (by rfl))|exact qM (Fit.refl _)|exact qL (qK _)|(refine qM (qE ?_);(try simp only [qV]at *);simp only [zQ,zA,zB,zC,zD,zE,zF,zG,zH,zI,zJ,zK,zL,zM,zN,zO,zP,zR,zS]at *;omega)|(refine qL (qJ ?_);(repeat' (first|exact qA|exact qB|refine qC ?_ rfl ?_|refine qD ?_ ?_|exact qE (by rfl)|exact qF (by rfl)|exact Fit.refl _|exact qG _|(refine qE ?_;(try simp only [qV]at *);simp only [zQ,zA,zB,zC,zD,zE,zF,zG,zH,zI,zJ,zK,zL,zM,zN,zO,zP,zR,zS]at *;omega)));done)|(refine qL (ua8 ?_ ?_)<;>first|rfl|(intro ix h0 h1;first|exact Fit.refl _|exact qC (qE (udB hn0 hk9.1 hlo)) rfl qA|exact qC (qE (udM hn0 hk9.1 hhi rfl)) rfl qA))|skip))
    |((try simp only [zQ,zA,zB,zC,zD,zE,zF,zG,zH,zI,zJ,zK,zL,zM,zN,zO,zP,zR,zS]at *);(have hk9:=hbe k (by((try simp only [qV]at *);(try simp only [zQ,zA,zB,zC,zD,zE,zF,zG,zH,zI,zJ,zK,zL,zM,zN,zO,zP,zR,zS]at *);omega)));(have hhi:(k:Int)<n.tmod (Lb.length:Int):=hcd);refine⟨⟨k+1,by((try simp only [qV]at *);(try simp only [zQ,zA,zB,zC,zD,zE,zF,zG,zH,zI,zJ,zK,zL,zM,zN,zO,zP,zR,zS]at *);omega)⟩,by simp only [];omega,?_⟩;cbv;(repeat' (first|with_reducible refine hold ?_ ?_|with_reducible refine And.intro ?_ ?_));(all_goals first|trivial|exact qM (qE (by rfl))|exact qM (qF (by rfl))|exact qM (Fit.refl _)|exact qL (qK _)|(refine qM (qE ?_);(try simp only [qV]at *);simp only [zQ,zA,zB,zC,zD,zE,zF,zG,zH,zI,zJ,zK,zL,zM,zN,zO,zP,zR,zS]at *;omega)|(refine qL (qJ ?_);(repeat' (first|exact qA|exact qB|refine qC ?_ rfl ?_|refine qD ?_ ?_|exact qE (by rfl)|exact qF (by rfl)|exact Fit.refl _|exact qG _|(refine qE ?_;(try simp only [qV]at *);simp only [zQ,zA,zB,zC,zD,zE,zF,zG,zH,zI,zJ,zK,zL,zM,zN,zO,zP,zR,zS]at *;omega)));done)|(refine qL (ua8 ?_ ?_)<;>first|rfl|(intro ix h0 h1;first|exact Fit.refl _|exact qC (qE (udB hn0 hk9.1 hlo)) rfl qA|exact qC (qE (udM hn0 hk9.1 hhi rfl)) rfl qA))|skip))
    |skip
set_option maxHeartbeats 2000000 in
theorem uqZ (d:Dsp)(n:Int)(h:coE d n=0)(he:mstL d≠[]):ua0 Tryz.prog 20 [(dspS d),(iv fun _=>n)] [] (fun r _=>r=(.tup [(.sl 1 (.sym fun _=>coN d n) (fun ix=>[(iv fun _=>cosF d n ix.den.toNat)])),(iv fun _=>coE d n)])):=by
 have c16:=ucM d
 have c43:= @udo
 have hf:=(uh5 h).1
 have hn0:=(uh5 h).2.1
 have hn1:=(uh5 h).2.2
 have hF:=(uao hf).1
 have p1:=(ua3.1 hF).p1
 have p4:=(ua3.1 hF).p4
 have hco:=ufy (n:=n) hF (show coOk n from⟨hn0,hn1⟩) hf
 have hbl:=uij hf
 have hb0:=(ujC hf).2
 have hbe:=fun (k:Nat) (hk:k<(beaL d).length)=>ume hf hk
 have hend:∀{k:Nat},k=(beaL d).length→∀p,ub9 n.toNat (beaL d) (beaL d).length k p=cosF d n p:=fun hk p=>by subst hk;rfl
 have c33:=udP d
 have hbn:=up0 he
 rw [←hbn]at c33
 obtain⟨Lb,hLb⟩:∃L,L=beaL d:=⟨_,rfl⟩
 rw [←hLb]at hbl hb0 hbe hend c33
 clear hLb hbn
 refine ua0.is fun R hR=>qW (sc:=sc20) tyok mix Tryz.func20 rfl Tryz.call20 (by kernel_rfl) (by kernel_rfl) ?_
 generalize Tryz.prog=P at c16 c43 c33⊢
 cbv
 repeat' (first
  |with_reducible refine hold ?_ ?_
  |with_reducible refine And.intro ?_ ?_
  |(with_reducible intro hcd;(try simp only [zA,zB,zC,zD,zE,zF,zG,zH,zI,zJ,zK,zL,zM,zN,zO,zP]at hcd);try cbv)
  | (refine qP ?_ (c16) ?hfit
     case hfit=>((repeat' (first|exact qB|refine qD ?_ ?_|exact qE (by rfl)|exact qF (by rfl)|exact Fit.refl _|exact qA|refine qC ?_ rfl ?_));done)
     try cbv)
  | (refine qP ?_ (c43 _ _ _) (by(repeat' (first|exact qB|refine qD ?_ ?_|exact qE (by rfl)|exact qF (by rfl)|exact Fit.refl _|exact qA|refine qC ?_ rfl ?_)))
     try cbv)
  | (refine qP ?_ (c33) ?hfit
     case hfit=>((repeat' (first|exact qB|refine qD ?_ ?_|exact qE (by rfl)|exact qF (by rfl)|exact Fit.refl _|exact qA|refine qC ?_ rfl ?_));done)
     try cbv)
  |fail)
 all_goals first
  |trivial
  |(unfold Hold;exact⟨show(0:Int)≤d.pn by omega,rfl,show d.pn*((1:Nat):Int)≤16777216 by omega,show d.pn*((8:Nat):Int)≤16777216 by omega,show d.pn≤16777216 by omega⟩)
  |(exfalso;(try simp only [qV]at *);(try simp only [zQ,zA,zB,zC,zD,zE,zF,zG,zH,zI,zJ,zK,zL,zM,zN,zO,zP,zR,zS]at *);omega)
  |(exfalso;(try simp only [qV]at *);(try simp only [zQ,zA,zB,zC,zD,zE,zF,zG,zH,zI,zJ,zK,zL,zM,zN,zO,zP,zR,zS]at *);(try simp only [uan,uas,uaM,uaV,uaZ,ub0,uaf,uah,uae,uag]at *);omega)
  |skip
 refine⟨none,[],{k:Nat // k≤Lb.length},fun x=>⟨[(1,(iv fun _=>n)),(7,(iS Lb)),(11,.row 27),(47,(iS Lb)),(48,(iv fun _=>zi Lb.length)),(49,(iv fun _=>zi x.1))],[(0,.cells [(iS d.tw),(iS d.tm),(.sl 1 (.sym fun _=>zi (d.tv).length) (fun ix=>[(.sl 1 (.sym fun _=>zi ((d.tv).getD ix.den.toNat []).length) (fun jx=>[(iv fun _=>((d.tv).getD ix.den.toNat []).getD jx.den.toNat 0)]))])),(iv fun _=>d.sn),(iv fun _=>d.pn),(.sl 4 (.sym fun _=>zi (d.ls).length) (fun ix=>[(iv fun _=>((d.ls).getD ix.den.toNat l0T).a),(iv fun _=>((d.ls).getD ix.den.toNat l0T).b),(iv fun _=>((d.ls).getD ix.den.toNat l0T).lo),(iv fun _=>((d.ls).getD ix.den.toNat l0T).hi)])),(.sl 6 (.sym fun _=>zi (d.fs).length) (fun ix=>[(iv fun _=>((d.fs).getD ix.den.toNat f0T).p),(iv fun _=>((d.fs).getD ix.den.toNat f0T).s),(iv fun _=>((d.fs).getD ix.den.toNat f0T).wl),(iv fun _=>((d.fs).getD ix.den.toNat f0T).wh),(iv fun _=>((d.fs).getD ix.den.toNat f0T).ml),(iv fun _=>((d.fs).getD ix.den.toNat f0T).mh)]))] 39),(27,.row 3 1 (.sym fun _=>d.pn) (fun ix=>[(iv fun _=>(ub9 n.toNat Lb Lb.length x.1) ix.den.toNat)]))],300⟩,fun x=>Lb.length-x.1,?_,?_⟩
 ·refine⟨⟨0,by omega⟩,?_⟩
  cbv
  repeat' (first
   |with_reducible refine hold ?_ ?_
   |with_reducible refine And.intro ?_ ?_)
  all_goals first
   |trivial
   |exact qM (qE (by rfl))
   |exact qM (Fit.refl _)
   |exact qL (qK _)
   |(refine qL (ua8 ?_ ?_)<;>first|rfl|((try simp only [qV]at *);(try simp only [zQ,zA,zB,zC,zD,zE,zF,zG,zH,zI,zJ,zK,zL,zM,zN,zO,zP,zR,zS]at *);omega)|(intro ix h0 h1;first|exact Fit.refl _|exact qC (qE rfl) rfl qA))
   |skip
 ·rintro ⟨k,hk⟩
  cbv
  repeat' (first
   |with_reducible refine hold ?_ ?_
   |with_reducible refine And.intro ?_ ?_
   | (with_reducible refine qS ?_ ?_ ?_
      try cbv)
   | (with_reducible refine qT ?_ ?_
      try cbv)
   |(with_reducible intro hcd;(try simp only [zA,zB,zC,zD,zE,zF,zG,zH,zI,zJ,zK,zL,zM,zN,zO,zP]at hcd);try cbv)
   | ((have hk9:=hbe k (by((try simp only [qV]at *);(try simp only [zQ,zA,zB,zC,zD,zE,zF,zG,zH,zI,zJ,zK,zL,zM,zN,zO,zP,zR,zS]at *);omega)))
      refine⟨fun ix=>[(iv fun _=>(updN (ub9 n.toNat Lb Lb.length k) (Lb.getD k 0).toNat (n.tdiv (zi Lb.length))) ix.den.toNat)],?_⟩
      cbv
      refine hold (ub6 (o2:=0) (x:=[_]) (by((try simp only [qV]at *);(try simp only [zQ,zA,zB,zC,zD,zE,zF,zG,zH,zI,zJ,zK,zL,zM,zN,zO,zP,zR,zS]at *);omega)) (by intro jx h0 h1 h2;refine qC (qE ?_) rfl qA;(try simp only [qV]at *);(try simp only [zQ,zA,zB,zC,zD,zE,zF,zG,zH,zI,zJ,zK,zL,zM,zN,zO,zP,zR,zS]at *);exact udC (by omega)) (by intro jx h0 h1 h2;refine⟨_,rfl,qC (qE ?_) rfl qA⟩;(try simp only [qV]at *);(try simp only [zQ,zA,zB,zC,zD,zE,zF,zG,zH,zI,zJ,zK,zL,zM,zN,zO,zP,zR,zS]at *);exact ucQ (by omega))) ?_
      try cbv)
   | ((have hk9:=hbe k (by((try simp only [qV]at *);(try simp only [zQ,zA,zB,zC,zD,zE,zF,zG,zH,zI,zJ,zK,zL,zM,zN,zO,zP,zR,zS]at *);omega)))
      refine⟨fun ix=>[(iv fun _=>(updN (updN (ub9 n.toNat Lb Lb.length k) (Lb.getD k 0).toNat (n.tdiv (zi Lb.length))) (Lb.getD k 0).toNat ((updN (ub9 n.toNat Lb Lb.length k) (Lb.getD k 0).toNat (n.tdiv (zi Lb.length))) (Lb.getD k 0).toNat+1)) ix.den.toNat)],?_⟩
      cbv
      refine hold (ub6 (o2:=0) (x:=[_]) (by((try simp only [qV]at *);(try simp only [zQ,zA,zB,zC,zD,zE,zF,zG,zH,zI,zJ,zK,zL,zM,zN,zO,zP,zR,zS]at *);omega)) (by intro jx h0 h1 h2;refine qC (qE ?_) rfl qA;(try simp only [qV]at *);(try simp only [zQ,zA,zB,zC,zD,zE,zF,zG,zH,zI,zJ,zK,zL,zM,zN,zO,zP,zR,zS]at *);exact udC (by omega)) (by intro jx h0 h1 h2;refine⟨_,rfl,qC (qE ?_) rfl qA⟩;(try simp only [qV]at *);(try simp only [zQ,zA,zB,zC,zD,zE,zF,zG,zH,zI,zJ,zK,zL,zM,zN,zO,zP,zR,zS]at *);exact umc (by omega) (by omega))) ?_
      try cbv)
   |fail)
  all_goals first
   |trivial
   |((try simp only [qV]at *);(try simp only [zQ,zA,zB,zC,zD,zE,zF,zG,zH,zI,zJ,zK,zL,zM,zN,zO,zP,zR,zS]at *);first|(refine qN ?_;omega)|(simp only [Hold];omega))
   |((have hk9:=hbe k (by((try simp only [qV]at *);(try simp only [zQ,zA,zB,zC,zD,zE,zF,zG,zH,zI,zJ,zK,zL,zM,zN,zO,zP,zR,zS]at *);omega)));(try simp only [qV]at *);(try simp only [zQ,zA,zB,zC,zD,zE,zF,zG,zH,zI,zJ,zK,zL,zM,zN,zO,zP,zR,zS]at *);simp only [Hold];first|omega|exact⟨by omega,by omega⟩)
   |((have hk9:=hbe k (by((try simp only [qV]at *);(try simp only [zQ,zA,zB,zC,zD,zE,zF,zG,zH,zI,zJ,zK,zL,zM,zN,zO,zP,zR,zS]at *);omega)));(have hq9:=ulg (m:=Lb.length) hn0 hn1);(try simp only [qV]at *);(try simp only [zQ,zA,zB,zC,zD,zE,zF,zG,zH,zI,zJ,zK,zL,zM,zN,zO,zP,zR,zS]at *);first|(refine qN ?_;omega)|(rw [←ucQ (by omega)];refine qN ?_;omega))
   |((have hke:k=Lb.length:=(by((try simp only [qV]at *);(try simp only [zQ,zA,zB,zC,zD,zE,zF,zG,zH,zI,zJ,zK,zL,zM,zN,zO,zP,zR,zS]at *);omega)));subst hR;exact qD (ua1 hco.2.symm (fun ix h0 h1=>qC (qE (hend hke _)) rfl qA)) (qD (qE hco.1.symm) qB))
   |((try simp only [zQ,zA,zB,zC,zD,zE,zF,zG,zH,zI,zJ,zK,zL,zM,zN,zO,zP,zR,zS]at *);(have hk9:=hbe k (by((try simp only [qV]at *);(try simp only [zQ,zA,zB,zC,zD,zE,zF,zG,zH,zI,zJ,zK,zL,zM,zN,zO,zP,zR,zS]at *);omega)));(have hlo:¬(k:Int)<n.tmod (Lb.length:Int):=hcd);refine⟨⟨k+1,by((try simp only [qV]at *);(try simp only [zQ,zA,zB,zC,zD,zE,zF,zG,zH,zI,zJ,zK,zL,zM,zN,zO,zP,zR,zS]at *);omega)⟩,by simp only [];omega,?_⟩;cbv;(repeat' (first|with_reducible refine hold ?_ ?_|with_reducible refine And.intro ?_ ?_));(all_goals first|trivial|exact qM (qE (by rfl))|exact qM (qF (by rfl))|exact qM (Fit.refl _)|exact qL (qK _)|(refine qM (qE ?_);(try simp only [qV]at *);simp only [zQ,zA,zB,zC,zD,zE,zF,zG,zH,zI,zJ,zK,zL,zM,zN,zO,zP,zR,zS]at *;omega)|(refine qL (qJ ?_);(repeat' (first|exact qA|exact qB|refine qC ?_ rfl ?_|refine qD ?_ ?_|exact qE (by rfl)|exact qF (by rfl)|exact Fit.refl _|exact qG _|(refine qE ?_;(try simp only [qV]at *);simp only [zQ,zA,zB,zC,zD,zE,zF,zG,zH,zI,zJ,zK,zL,zM,zN,zO,zP,zR,zS]at *;omega)));done)|(refine qL (ua8 ?_ ?_)<;>first|rfl|(intro ix h0 h1;first|exact Fit.refl _|exact qC (qE (udB hn0 hk9.1 hlo)) rfl qA|exact qC (qE (udM hn0 hk9.1 hhi rfl)) rfl qA))|skip))
   |((try simp only [zQ,zA,zB,zC,zD,zE,zF,zG,zH,zI,zJ,zK,zL,zM,zN,zO,zP,zR,zS]at *);(have hk9:=hbe k (by((try simp only [qV]at *);(try simp only [zQ,zA,zB,zC,zD,zE,zF,zG,zH,zI,zJ,zK,zL,zM,zN,zO,zP,zR,zS]at *);omega)));(have hhi:(k:Int)<n.tmod (Lb.length:Int):=hcd);refine⟨⟨k+1,by((try simp only [qV]at *);(try simp only [zQ,zA,zB,zC,zD,zE,zF,zG,zH,zI,zJ,zK,zL,zM,zN,zO,zP,zR,zS]at *);omega)⟩,by simp only [];omega,?_⟩;cbv;(repeat' (first|with_reducible refine hold ?_ ?_|with_reducible refine And.intro ?_ ?_));(all_goals first|trivial|exact qM (qE (by rfl))|exact qM (qF (by rfl))|exact qM (Fit.refl _)|exact qL (qK _)|(refine qM (qE ?_);(try simp only [qV]at *);simp only [zQ,zA,zB,zC,zD,zE,zF,zG,zH,zI,zJ,zK,zL,zM,zN,zO,zP,zR,zS]at *;omega)|(refine qL (qJ ?_);(repeat' (first|exact qA|exact qB|refine qC ?_ rfl ?_|refine qD ?_ ?_|exact qE (by rfl)|exact qF (by rfl)|exact Fit.refl _|exact qG _|(refine qE ?_;(try simp only [qV]at *);simp only [zQ,zA,zB,zC,zD,zE,zF,zG,zH,zI,zJ,zK,zL,zM,zN,zO,zP,zR,zS]at *;omega)));done)|(refine qL (ua8 ?_ ?_)<;>first|rfl|(intro ix h0 h1;first|exact Fit.refl _|exact qC (qE (udB hn0 hk9.1 hlo)) rfl qA|exact qC (qE (udM hn0 hk9.1 hhi rfl)) rfl qA))|skip))
   |skip
theorem uep (d:Dsp)(n:Int):ua0 Tryz.prog 20 [(dspS d),(iv fun _=>n)] [] (fun r _=>r=(.tup [(.sl 1 (.sym fun _=>coN d n) (fun ix=>[(iv fun _=>cosF d n ix.den.toNat)])),(iv fun _=>coE d n)])):=by
 by_cases h:coE d n=0
 ·by_cases he:mstL d=[]
  ·exact uqo d n h he
  ·exact uqZ d n h he
 ·exact uql d n h
end Go.Proofs.YtkdggbfknlcdaaaGreat
namespace Go.Proofs.YtkdggbfknlcdaaaGreat
open Go Go.Eng Go.Eng.Dif Go.Eng.Few
def d3 :Dsp:=⟨[10,14,20],[0,10,20],[[100,140,200],[90,131,192],[80,120,170]],2,3,[⟨0,1,-3,0⟩],[⟨0,0,12,12,5,6⟩,⟨1,0,14,14,2,3⟩,⟨2,1,10,10,4,4⟩]⟩
def d2 :Dsp:=⟨[10,14,20],[0,10,20],[[100,140,200],[90,131,192],[80,120,170]],2,3,[⟨0,1,-3,0⟩],[⟨0,0,12,12,5,6⟩,⟨2,1,10,10,4,4⟩]⟩
theorem uiX :ua4 d3=0:=by decide +kernel
theorem umi :ua4 d2=0:=by decide +kernel
theorem uhq :mLo d3 ⟨0,0,12,12,5,6⟩=115∧mHi d3 ⟨0,0,12,12,5,6⟩=119:=by decide +kernel
theorem use :mLo d3 ⟨1,0,14,14,2,3⟩=98∧mHi d3 ⟨1,0,14,14,2,3⟩=102:=by decide +kernel
theorem um7 :mLo d3 ⟨2,1,10,10,4,4⟩=116∧mHi d3 ⟨2,1,10,10,4,4⟩=116:=by decide +kernel
theorem FO3 :FO d3 d3.fs=xF3:=by
 have e:FO d3 d3.fs=[⟨0,mLo d3 ⟨0,0,12,12,5,6⟩,mHi d3 ⟨0,0,12,12,5,6⟩⟩,⟨0,mLo d3 ⟨1,0,14,14,2,3⟩,mHi d3 ⟨1,0,14,14,2,3⟩⟩,⟨1,mLo d3 ⟨2,1,10,10,4,4⟩,mHi d3 ⟨2,1,10,10,4,4⟩⟩]:=rfl
 rw [e,uhq.1,uhq.2,use.1,use.2,um7.1,um7.2]
 rfl
theorem FO2 :FO d2 d2.fs=xF2:=by
 have e:FO d2 d2.fs=[⟨0,mLo d3 ⟨0,0,12,12,5,6⟩,mHi d3 ⟨0,0,12,12,5,6⟩⟩,⟨1,mLo d3 ⟨2,1,10,10,4,4⟩,mHi d3 ⟨2,1,10,10,4,4⟩⟩]:=rfl
 rw [e,uhq.1,uhq.2,um7.1,um7.2]
 rfl
theorem dok3 :DOk d3:=ua3.1 uiX
theorem dok2 :DOk d2:=ua3.1 umi
theorem uvW :udv d3=true:=uqT
theorem uw6 :udv d2=true:=uqT
theorem uh3 :ua9 d3=0:=udO uiX uvW
theorem uvF :ua9 d2=0:=udO umi uw6
theorem uoF :ufu d3 0=0∧ujs d3 0=115∧ujp d3 0=119:=by
 have h:=uj7 (d:=d3) (n:=0) uiX (by decide)
 exact⟨h.1,h.2.1.trans uhq.1,h.2.2.trans uhq.2⟩
theorem fir3 :firO d3=some 1:=by
 unfold firO
 rw [FO3]
 exact uwv
theorem uv7 :firE d3=0∧firV d3=1:=uiQ uh3 fir3
theorem lea3 :leaL d3=[1]:=by
 unfold leaL
 rw [if_pos uh3,up9,FO3]
 exact uxG
theorem um5 {S:Nat} {ls:List Lk} {fs:List Fa}(h:Okk S ls fs) {p q:Nat→Int}(e:∀i,i<fs.length→p i=q i):okP S ls fs p=okP S ls fs q:=by
 funext o
 unfold okP
 exact ugv h fun i hi=>by unfold outP;rw [e i hi]
theorem uu6 :okPa d3=okP 2 xL3 xF3 xP3:=by
 rw [uis dok3,FO3]
 refine um5 xok3 fun i hi=> ?_
 have hi:i<3:=hi
 rcases(show i=0∨i=1∨i=2 by omega)with e|e|e<;>subst e<;>rfl
theorem uwH :okPa d2=okP 2 xL3 xF2 xP2:=by
 rw [uis dok2,FO2]
 refine um5 xok2 fun i hi=> ?_
 have hi:i<2:=hi
 rcases(show i=0∨i=1 by omega)with e|e<;>subst e<;>rfl
theorem bel3 :belL d3=[1]:=by
 unfold belL
 rw [if_pos uh3,uu6]
 exact utI.1
theorem mst3 :mstL d3=[1]:=by
 unfold mstL mstF
 rw [if_pos uh3,uu6]
 exact utI.2.1
theorem may3 :mayL d3=[1]:=by
 unfold mayL mayF
 rw [if_pos uh3,uu6]
 exact utI.2.2
theorem mst2 :mstL d2=[]:=by
 unfold mstL mstF
 rw [if_pos uvF,uwH]
 exact uxd.2.2.1
theorem can2 :canT d2 d2.fs []=true:=by
 rw [up7,FO2]
 exact xbd2.1
theorem bnd2 :bndE d2=0∧bndN d2=2:=uhP umi can2
theorem umf (d:Dsp)(s:Nat):loT d [] s=loD (SN d) (LO d) (FO d d.fs) s∧hiT d [] s=hiD (SN d) (LO d) (FO d d.fs) s:=by
 unfold loT hiT matO
 rw [ult]
 exact⟨rfl,rfl⟩
theorem bd2 :(loT d2 [] 0=116∧hiT d2 [] 0=119)∧loT d2 [] 1=116∧hiT d2 [] 1=116:=by
 rw [(umf d2 0).1,(umf d2 0).2,(umf d2 1).1,(umf d2 1).2,FO2]
 exact⟨⟨xbd2.2.1,xbd2.2.2.1⟩,xbd2.2.2.2.1,xbd2.2.2.2.2⟩
theorem usq (d:Dsp)(o:List Int)(s:Nat):loT d o s=loD (SN d) (LO d) (kpN (FO d d.fs) (outL o) d.fs.length) s∧hiT d o s=hiD (SN d) (LO d) (kpN (FO d d.fs) (outL o) d.fs.length) s:=by
 unfold loT hiT matO ubI
 rw [uwk (Nat.le_refl _)]
 exact⟨rfl,rfl⟩
theorem bd3 :loT d3 [1] 0=116∧hiT d3 [1] 0=119:=by
 have e:kpN (FO d3 d3.fs) (outL [1]) d3.fs.length=xF2:=by rw [FO3];exact xkp3
 rw [(usq d3 [1] 0).1,(usq d3 [1] 0).2,e]
 exact⟨xbd2.2.1,xbd2.2.2.1⟩
theorem ch3 :chE d3 0 1000=0∧chL d3 0 1000=116∧chH d3 0 1000=119:=by
 have h:=upy (d:=d3) (s:=0) (g:=1000) uiX (by decide) uh3
 rw [lea3]at h
 refine⟨h.1,h.2.1.trans ?_,h.2.2.trans ?_⟩
 ·show(1000*loT d3 [1] 0).tdiv 1000=116
  rw [bd3.1];rfl
 ·show(1000*hiT d3 [1] 0).tdiv 1000=119
  rw [bd3.2];rfl
theorem co3 :coE d3 100=0∧coN d3 100=3:=ufy uiX (by decide) uh3
theorem co2 :coE d2 100=0∧coN d2 100=3:=ufy umi (by decide) uvF
theorem cos3 :cosF d3 100 0=0∧cosF d3 100 1=100∧cosF d3 100 2=0:=by
 have e:beaL d3=[1]:=by unfold beaL;rw [mst3];rfl
 unfold cosF
 rw [e]
 exact uwn
theorem cos2 :cosF d2 100 0=34∧cosF d2 100 1=33∧cosF d2 100 2=33:=by
 have e:beaL d2=[0,1,2]:=by unfold beaL;rw [mst2];rfl
 unfold cosF
 rw [e]
 exact uvX
end Go.Proofs.YtkdggbfknlcdaaaGreat
