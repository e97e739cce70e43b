/- Contracts of the functions that the laws come to. No condition. -/
import Derived.Test.YtpkgnhcfmpbidaaT6
set_option linter.unusedVariables false
set_option linter.unusedSimpArgs false
set_option linter.deprecated false
set_option linter.all false

namespace Go.Proofs.Ytpkgnhcfmpbidaa
open Go Go.Eng Go.Proofs Go.Eng.Ck Go.Eng.Few
set_option maxRecDepth 10000
def uxv :SC:=[(20,[qa 2 []]),(7,[qa 0 [],qa 1 [],qa 2 [1],qb 3 [0,1,2]]),(12,[qa 0 [],qa 1 [],qa 2 [],qa 3 [2],qa 4 [],qa 5 [2,3,4],qa 6 (qs 2 4),qa 7 [],qb 8 (qr 8),qb 9 (qr 9)]),(16,[qa 0 [],qa 1 [],qa 2 [0,1],qa 3 [0,1,2],qa 4 [],qa 5 [4],qa 6 [],qa 7 [4,5,6],qa 8 (qs 4 4),qb 9 (qr 9),qb 10 (qr 10),qb 11 (qr 11)]),(17,[qa 0 [],qa 1 [],qa 2 [0,1],qa 3 [0,1,2],qa 4 [],qa 5 [4],qa 6 [4,5],qb 7 (qr 7),qb 8 (qr 8)])]
theorem uhE {n ix:Int} {o2:Nat} {e e':IX→List SV} {x:List SV}(h0:ix<n)(h1:∀jx:IX,0≤jx.den→jx.den<n→jx.den≠ix→Fit (.agg (e jx)) (.agg (e' jx)))
 (h2:∀jx:IX,0≤jx.den→jx.den<n→jx.den=ix→∃l,ui6 (e jx) o2 x=some l∧Fit (.agg l) (.agg (e' jx))):uap (ix<n∧umV n e ix o2 x e'):=
 ⟨h0,fun jx a b c=>(h1 jx a b c).le,fun jx a b c=>by obtain⟨l,p,q⟩:=h2 jx a b c;exact⟨l,p,q.le⟩⟩
theorem umW {n:Int} {m:Nat} {el:IX→List SV} {f f':IX→SV}(h0:0≤n)(h1:∀jx:IX,0≤jx.den→jx.den<(m:Int)→jx.den<n→∃s,el jx=[s]∧udB s=true∧Fit s (f' jx))(h2:∀jx:IX,0≤jx.den→jx.den<(m:Int)→n≤jx.den→Fit (f jx) (f' jx)):
 uap (0≤n∧(∀jx:IX,0≤jx.den→jx.den<(m:Int)→(jx.den<n→∃s,el jx=[s]∧udB s=true∧Le s (f' jx))∧(n≤jx.den→Le (f jx) (f' jx)))):=
 ⟨h0,fun jx a b=>⟨fun c=>let ⟨s,p,q,r⟩:=h1 jx a b c;⟨s,p,q,r.le⟩,fun c=>(h2 jx a b c).le⟩⟩
def qM (m:List Int)(j:Nat):Int:=m.getD j 0
def rnV (c:Clr)(s k:List Int)(q:Nat→Int)(i n:Nat):Int:=gN c.mv q (i:Int) (k.getD i 0) n+s.getD i 0
def rnG (c:Clr)(s k:List Int)(q:Nat→Int)(i n:Nat):Prop:=0≤rnV c s k q i n∧rnV c s k q i n≤tpC (c.cs.getD i k0).ms
def uw8 (c:Clr)(s k:List Int)(q:Nat→Int):Prop:=∀i,i<c.cs.length→∀n,n≤c.mv.length→rnG c s k q i n
def plU (g:Nat→Int)(S:Int)(n t:Nat):Int:=if t<n then g t+S else g t
theorem usS {g:Nat→Int} {S:Int} {n t:Nat}(h:t≠n):plU g S (n+1) t=plU g S n t:=by unfold plU;split<;>split<;>first|rfl|omega
theorem usj {g:Nat→Int} {S:Int} {n t:Nat}(h:t=n):plU g S (n+1) t=plU g S n t+S:=by
 unfold plU
 rw [if_pos (by omega),if_neg (by omega)]
theorem uu5 {g:Nat→Int} {S:Int} {n:Nat}:plU g S n n=g n:=if_neg (by omega)
theorem utl {g:Nat→Int} {S:Int} {n t:Nat}(h:t<n):plU g S n t=g t+S:=if_pos h
theorem ux2 {c:Clr}(hC:COk c) {s k m:List Int}(h:ofP c s k m)(j:Nat):0≤qM m j∧qM m j≤1000:=by
 unfold qM
 rcases Nat.lt_or_ge j c.mv.length with r|r
 ·have h2:=h.2.2 j r
  unfold ofM at h2
  rw [uah]at h2
  have:=(hC.v j r).q0
  have:=(hC.v j r).q2
  omega
 ·have e:m.getD j 0=0:=by rw [List.getD_eq_getElem?_getD,List.getElem?_eq_none (by have:=h.1.2.2;omega)];rfl
  rw [e];omega
theorem ush {c:Clr}(hC:COk c) {s k m:List Int}(h:ofP c s k m) {i:Nat}(hi:i<c.cs.length):(0≤k.getD i 0∧k.getD i 0≤4)∧0≤s.getD i 0∧s.getD i 0≤1000:=by
 have h2:=h.2.1 i hi
 unfold ofK at h2
 rw [Bool.and_eq_true,uah,uah]at h2
 have K:=hC.k i hi
 have T:=K.m.top
 have a1:=K.s0
 have a2:=K.s2
 have a3:=K.l0
 have a4:=K.l2
 omega
set_option maxHeartbeats 4000000 in
theorem urQ (c:Clr)(s k m:List Int)(hf:ua6 c=0)(ht:ofT c s k m=true)(ho:uw8 c s k (qM m)):ua0 Try.prog 45 [(.agg [(caS c.cs),(mvS c.mv),(gaS c.gs)]),(.agg [(iS s),(iS k),(iS m)])] [] (fun r _=>r=(.tup [(.sl 1 (.sym fun _=>zi c.cs.length) (fun ix=>[(.sl 1 (.sym fun _=>zi (c.mv.length+1)) (fun jx=>[(iv fun _=>rnV c s k (qM m) ix.den.toNat jx.den.toNat)]))])),(iv fun _=>0)])):=by
 have c22:=uaC c
 have c88:=uyW c s k m (uaa.1 hf)
 have c62:= @ube
 have c63:=fun (i:Nat) (hi:i<c.cs.length)=>(show ua0 Try.prog 63 [(.agg (kcS (c.cs.getD i k0)))] [] (fun r _=>r=(.agg [(iv fun _=>tpD (c.cs.getD i k0).ms),(iv fun _=>tpC (c.cs.getD i k0).ms)]))from uhM (c.cs.getD i k0) (by have:=((uaa.1 hf).k i hi).m.two;omega) (by have:=((uaa.1 hf).k i hi).m.few;omega))
 obtain⟨rV,hrV⟩:∃rV,rV=rnV c s k (qM m):=⟨_,rfl⟩
 rw [←hrV]
 have hC:=uaa.1 hf
 have hP:=urG.1 ht
 have hlen:=hP.1
 have hm4:=hC.m4
 have hc3:=hC.c3
 obtain⟨q,hq⟩:∃q,q=qM m:=⟨_,rfl⟩
 have hqe:∀j,q j=m.getD j 0:=fun j=>by rw [hq];rfl
 have hqb:∀j,0≤q j∧q j≤1000:=fun j=>by rw [hq];exact ux2 hC hP j
 obtain⟨gF,hgF⟩:∃gF:Nat→Nat→Int,gF=fun i t=>gN c.mv q (zi i) (k.getD i 0) t:=⟨_,rfl⟩
 have hgB:∀i n,i<c.cs.length→n≤c.mv.length→ -5000≤gF i n∧gF i n≤5000:=fun i n hi hn=>by rw [hgF];exact utw hqb (ush hC hP hi).1 (by omega)
 have hsB:∀i,i<c.cs.length→0≤s.getD i 0∧s.getD i 0≤1000:=fun i hi=>(ush hC hP hi).2
 have hok:uw8 c s k q:=by rw [hq];exact ho
 have hpl:∀i n j,j<n→plU (gF i) (s.getD i 0) n j=rV i j:=fun i n j h=>by rw [utl h,hgF,hrV,hq];rfl
 have hBG:∀i n,inB 0 (plU (gF i) (s.getD i 0) (n+1) n) (tpC (c.cs.getD i k0).ms)=true→rnG c s k q i n:=fun i n h=>by rw [hpl i (n+1) n (by omega),hrV,←hq,uah]at h;exact h
 have hin:∀i n,i<c.cs.length→n≤c.mv.length→inB 0 (plU (gF i) (s.getD i 0) (n+1) n) (tpC (c.cs.getD i k0).ms)=true:=fun i n hi hn=>by
  rw [hpl i (n+1) n (by omega),hrV,←hq,uah];exact hok i hi n hn
 have c89:∀i,i<c.cs.length→uaU Try.prog 89 [(.agg [(caS c.cs),(mvS c.mv),(gaS c.gs)]),(iv fun _=>zi i),(iv fun _=>k.getD i 0),(.agg [(.arr 4 (fun ix=>(iv fun _=>q ix.den.toNat)))])] [] (fun r bs=>r = .row 0∧bs=[.row 3 1 (.sym fun _=>zi (c.mv.length+1)) (fun ix=>[(iv fun _=>gF i ix.den.toNat)])]):=fun i hi=>by rw [hgF];exact uqn c (zi i) (k.getD i 0) q hm4 hqb (ush hC hP hi).1
 refine ua0.is fun R hR=>qY (sc:=uxv) uas mix Try.func45 rfl Try.call45 (by kernel_rfl) (by kernel_rfl) ?_
 generalize Try.prog=P at c22 c88 c62 c63 c89⊢
 cbv
 repeat' (first
  |with_reducible refine And.intro ?_ ?_
  |(with_reducible intro hcd;(try simp only [zA,zB,zC,zD,zE,zF,zG,zH,zI,zJ,zK,zL,zM,zN,zO,zP]at hcd);try cbv)
  |(refine qQ ?_ (c22) ?hfit;(case hfit=>((repeat' (first|exact qB|refine qD ?_ ?_|exact qE (by rfl)|exact qF (by rfl)|exact Fit.refl _|exact qA|refine qC ?_ rfl ?_));done));try cbv)
  |(refine qQ ?_ (c88) ?hfit;(case hfit=>((repeat' (first|exact qB|refine qD ?_ ?_|exact qE (by rfl)|exact qF (by rfl)|exact Fit.refl _|exact qA|refine qC ?_ rfl ?_));done));try cbv)
  | (refine⟨fun ix=>(iv fun _=>q ix.den.toNat),?_⟩
     cbv
     refine ua3 (umW  om (fun jx h0 h1 h2=>⟨_,rfl,rfl,qE (hqe _).symm⟩) (fun jx h0 h1 h2=>qE (by simp only [ugt,den_lit];rw [hqe];symm;rw [List.getD_eq_getElem?_getD,List.getElem?_eq_none  om];rfl))) ?_
     try cbv)
  |fail)
 all_goals first|trivial|(exfalso;simp_all;done)|skip
 refine⟨none,[⟨.tmp 8,62,1⟩],{x:Nat // x≤c.cs.length∧∀y,y<x→∀n,n≤c.mv.length→rnG c s k q y n},fun x=>⟨[(2,.own 0 0),(3,.own 1 0),(7,.own 13 0),(8,.row 23),(27,(caS c.cs)),(28,(iv fun _=>zi c.cs.length)),(29,(iv fun _=>zi x.1))],[(0,.cells [(caS c.cs),(mvS c.mv),(gaS c.gs)] 36),(1,.cells [(iS s),(iS k),(iS m)] 93),(13,.cells [(.arr 4 (fun ix=>(iv fun _=>q ix.den.toNat)))] 154),(23,.row 62 1 (.sym fun _=>zi x.1) (fun ix=>[(.sl 1 (.sym fun _=>zi (c.mv.length+1)) (fun jx=>[(iv fun _=>rV ix.den.toNat jx.den.toNat)]))]))],60⟩,fun x=>c.cs.length-x.1,?_,?_⟩
 ·refine⟨⟨0,by omega,fun y hy=>by omega⟩,?_⟩
  cbv
  repeat' (first|with_reducible refine ua3 ?_ ?_|with_reducible refine And.intro ?_ ?_)
  all_goals first|trivial|exact qN (qE (by rfl))|exact qN (Fit.refl _)|exact qL (qK _)|(refine qL (ua8 ?_ ?_);(first|rfl|((try simp only [qX]at *);(try simp only [zQ,zA,zB,zC,zD,zE,zF,zG,zH,zI,zJ,zK,zL,zM,zN,zO,zP,zR,zS]at *);omega));intro ix h0 h1;exfalso;(try simp only [qX]at *);(try simp only [zQ,zA,zB,zC,zD,zE,zF,zG,zH,zI,zJ,zK,zL,zM,zN,zO,zP,zR,zS]at *);omega)|skip
 ·rintro ⟨i,hi,hk⟩
  cbv
  try dsimp only at hi hk
  repeat' (first
   |with_reducible refine ua3 ?_ ?_
   |with_reducible refine And.intro ?_ ?_
   |(with_reducible intro hcd;(try simp only [zA,zB,zC,zD,zE,zF,zG,zH,zI,zJ,zK,zL,zM,zN,zO,zP]at hcd);try cbv)
   | (refine Or.inr ⟨true,?_⟩
      cbv
      refine qW ?_ ((c89 i  om)) (by cbv;(repeat' (first|exact qB|refine qD ?_ ?_|exact qE (by rfl)|exact qF (by rfl)|exact Fit.refl _|exact qA|refine qC ?_ rfl ?_))) (by cbv;(repeat' (first|exact qH|refine qI ?_ ?_|exact qK _|refine qJ ?_|exact qA|exact qE (by rfl)|exact qF (by rfl)|exact Fit.refl _|exact qG _|refine qC ?_ rfl ?_)))
      try cbv)
   |fail)
  all_goals first|((try simp only [qX]at *);(try simp only [zQ,zA,zB,zC,zD,zE,zF,zG,zH,zI,zJ,zK,zL,zM,zN,zO,zP,zR,zS]at *);first|(refine qO ?_;omega)|(simp only [uap];omega))|((have hie:i=c.cs.length:=by(try simp only [qX]at *);(try simp only [zQ,zA,zB,zC,zD,zE,zF,zG,zH,zI,zJ,zK,zL,zM,zN,zO,zP,zR,zS]at *);omega);subst hie;subst hR;exact qD (Fit.refl _) (qD (qE rfl) qB))|skip
  refine⟨none,[],{x:Nat // x≤(c.mv.length+1)∧∀n,n<x→rnG c s k q i n},fun x=>⟨[(2,.own 0 0),(3,.own 1 0),(7,.own 13 0),(8,.row 23),(27,(caS c.cs)),(28,(iv fun _=>zi c.cs.length)),(29,(iv fun _=>zi i)),(9,(iv fun _=>zi i)),(10,.own 64 0),(11,.row 75),(43,.row 75),(44,(iv fun _=>zi (c.mv.length+1))),(45,(iv fun _=>zi x.1))],[(0,.cells [(caS c.cs),(mvS c.mv),(gaS c.gs)] 36),(1,.cells [(iS s),(iS k),(iS m)] 93),(13,.cells [(.arr 4 (fun ix=>(iv fun _=>q ix.den.toNat)))] 154),(23,.row 62 1 (.sym fun _=>zi i) (fun ix=>[(.sl 1 (.sym fun _=>zi (c.mv.length+1)) (fun jx=>[(iv fun _=>rV ix.den.toNat jx.den.toNat)]))])),(75,.row 3 1 (.sym fun _=>zi (c.mv.length+1)) (fun ix=>[(iv fun _=>plU (gF i) (s.getD i 0) x.1 ix.den.toNat)])),(64,.cells (kcS (c.cs.getD i k0)) 115)],90⟩,fun x=>(c.mv.length+1)-x.1,?_,?_⟩
  ·refine⟨⟨0,by omega,fun y hy=>by omega⟩,?_⟩
   cbv
   repeat' (first|with_reducible refine ua3 ?_ ?_|with_reducible refine And.intro ?_ ?_)
   all_goals first|trivial|exact qN (qE (by rfl))|exact qN (Fit.refl _)|exact qL (qK _)|skip
  ·rintro ⟨n,hn,hr⟩
   cbv
   try dsimp only at hn hr
   have hgb:=hgB i n
   have hsb:=hsB i
   repeat' (first
    |with_reducible refine ua3 ?_ ?_
    |with_reducible refine And.intro ?_ ?_
    |(with_reducible intro hcd;(try simp only [zA,zB,zC,zD,zE,zF,zG,zH,zI,zJ,zK,zL,zM,zN,zO,zP]at hcd);try cbv)
    |(refine uaj ?_ (c62 _ _ _);try cbv)
    |(refine qQ ?_ ((c63 i  om)) ?hfit;(case hfit=>((repeat' (first|exact qB|refine qD ?_ ?_|exact qE (by rfl)|exact qF (by rfl)|exact Fit.refl _|exact qA|refine qC ?_ rfl ?_));done));try cbv)
    | (refine⟨fun ix=>[(iv fun _=>plU (gF i) (s.getD i 0) (n+1) ix.den.toNat)],?_⟩
       cbv
       refine ua3 (uhE (o2:=0) (x:=_) ?g0 ?g1 ?g2) ?_
       case g0=>((try simp only [qX]at *);(try simp only [zQ,zA,zB,zC,zD,zE,zF,zG,zH,zI,zJ,zK,zL,zM,zN,zO,zP,zR,zS]at *);omega)
       case g1=>(intro jx h0 h1 h2;refine qC (qE (usS ?_).symm) rfl qA;(try simp only [qX]at *);(try simp only [zQ,zA,zB,zC,zD,zE,zF,zG,zH,zI,zJ,zK,zL,zM,zN,zO,zP,zR,zS]at *);omega)
       case g2=>(intro jx h0 h1 h2;refine⟨_,rfl,?_⟩;refine qC (qE ?_) rfl qA;(have hj:jx.den.toNat=n:=by(try simp only [qX]at *);(try simp only [zQ,zA,zB,zC,zD,zE,zF,zG,zH,zI,zJ,zK,zL,zM,zN,zO,zP,zR,zS]at *);omega);simp only [ugt];rw [hj,usj rfl];rfl)
       try cbv)
    | (refine Exists.intro (α:=List Nat) [75] ?_
       cbv
       fail_if_success (show False))
    | (refine⟨fun ix=>[(.sl 1 (.sym fun _=>zi (c.mv.length+1)) (fun jx=>[(iv fun _=>rV ix.den.toNat jx.den.toNat)]))],?_⟩
       cbv
       refine ua3 (uaH (by intro ix jx h0 h1 h2;simp only [h2];exact Fit.refl _) (by intro ix jx h0 h1 h2;(have h3:jx.den.toNat=i:=by((try simp only [qX]at *);(try simp only [zQ,zA,zB,zC,zD,zE,zF,zG,zH,zI,zJ,zK,zL,zM,zN,zO,zP,zR,zS]at *);omega));simp only [h3];(have hnn:n=c.mv.length+1:= om);exact qC (ua1 rfl (fun jx h3 h4=>qC (qE (hpl i n _ (by simp only [ugt]at h4;(try simp only [qX]at *);(try simp only [zQ,zA,zB,zC,zD,zE,zF,zG,zH,zI,zJ,zK,zL,zM,zN,zO,zP,zR,zS]at *);omega))) rfl qA)) rfl qA)  om) (Or.inl ?_)
       try cbv)
    |fail)
   all_goals first|trivial|((try simp only [qX]at *);(try simp only [zQ,zA,zB,zC,zD,zE,zF,zG,zH,zI,zJ,zK,zL,zM,zN,zO,zP,zR,zS]at *);first|(refine qO ?_;omega)|(simp only [uap];omega))|((try simp only [qX]at *);(try simp only [zQ,zA,zB,zC,zD,zE,zF,zG,zH,zI,zJ,zK,zL,zM,zN,zO,zP,zR,zS]at *);(try rw [uu5]);refine qO ?_;omega)|((try simp only [zQ,zA,zB,zC,zD,zE,zF,zG,zH,zI,zJ,zK,zL,zM,zN,zO,zP,zR,zS]at *);refine⟨⟨n+1,by((try simp only [qX]at *);(try simp only [zQ,zA,zB,zC,zD,zE,zF,zG,zH,zI,zJ,zK,zL,zM,zN,zO,zP,zR,zS]at *);omega),fun y hy=>by(rcases Nat.lt_or_ge y n with r|r;exact hr y r;(have e9:y=n:=by omega);subst e9;exact hBG _ _ hcd)⟩,by simp only [];omega,?_⟩;cbv;(repeat' (first|with_reducible refine ua3 ?_ ?_|with_reducible refine And.intro ?_ ?_));(all_goals first|trivial|exact qN (qE (by rfl))|exact qN (qF (by rfl))|exact qN (Fit.refl _)|exact qL (qK _)|(refine qN (qE ?_);(try simp only [qX]at *);simp only [zQ,zA,zB,zC,zD,zE,zF,zG,zH,zI,zJ,zK,zL,zM,zN,zO,zP,zR,zS]at *;omega)|(refine qL (qJ ?_);(repeat' (first|exact qA|exact qB|refine qC ?_ rfl ?_|refine qD ?_ ?_|exact qE (by rfl)|exact qF (by rfl)|exact Fit.refl _|exact qG _|(refine qE ?_;(try simp only [qX]at *);simp only [zQ,zA,zB,zC,zD,zE,zF,zG,zH,zI,zJ,zK,zL,zM,zN,zO,zP,zR,zS]at *;omega)));done)|(refine qL (ua8 ?_ ?_)<;>first|rfl|((try simp only [qX]at *);(try simp only [zQ,zA,zB,zC,zD,zE,zF,zG,zH,zI,zJ,zK,zL,zM,zN,zO,zP,zR,zS]at *);omega)|(intro ix h0 h1;exact Fit.refl _))|skip))|((try simp only [zQ,zA,zB,zC,zD,zE,zF,zG,zH,zI,zJ,zK,zL,zM,zN,zO,zP,zR,zS]at *);refine⟨⟨i+1,by((try simp only [qX]at *);(try simp only [zQ,zA,zB,zC,zD,zE,zF,zG,zH,zI,zJ,zK,zL,zM,zN,zO,zP,zR,zS]at *);omega),fun y hy=>by(rcases Nat.lt_or_ge y i with r|r;exact hk y r;(have e9:y=i:=by omega);subst e9;intro z hz;exact hr z  om)⟩,by simp only [];omega,?_⟩;cbv;(repeat' (first|with_reducible refine ua3 ?_ ?_|with_reducible refine And.intro ?_ ?_));(all_goals first|trivial|exact qN (qE (by rfl))|exact qN (qF (by rfl))|exact qN (Fit.refl _)|exact qL (qK _)|(refine qN (qE ?_);(try simp only [qX]at *);simp only [zQ,zA,zB,zC,zD,zE,zF,zG,zH,zI,zJ,zK,zL,zM,zN,zO,zP,zR,zS]at *;omega)|(refine qL (qJ ?_);(repeat' (first|exact qA|exact qB|refine qC ?_ rfl ?_|refine qD ?_ ?_|exact qE (by rfl)|exact qF (by rfl)|exact Fit.refl _|exact qG _|(refine qE ?_;(try simp only [qX]at *);simp only [zQ,zA,zB,zC,zD,zE,zF,zG,zH,zI,zJ,zK,zL,zM,zN,zO,zP,zR,zS]at *;omega)));done)|(refine qL (ua8 ?_ ?_)<;>first|rfl|((try simp only [qX]at *);(try simp only [zQ,zA,zB,zC,zD,zE,zF,zG,zH,zI,zJ,zK,zL,zM,zN,zO,zP,zR,zS]at *);omega)|(intro ix h0 h1;exact Fit.refl _))|skip))|(exfalso;(have e:=hin i n  om  om);rw [show(zi n).toNat=n from Int.toNat_natCast n,e]at hcd;cases hcd)|skip
end Go.Proofs.Ytpkgnhcfmpbidaa

namespace Go.Eng.Ck
open Go Go.Eng Go.Eng.Few Go.Proofs.Ytpkgnhcfmpbidaa
def xms :List (Int×Int):=[(0,0),(10,100),(20,180)]
def xmt :List (Int×Int):=[(0,0),(20,200)]
def x2 :Clr:=⟨[⟨xms,150,160,0,1⟩,⟨xmt,0,0,0,0⟩],[⟨0,1,40,42⟩],[⟨0,0,16,17,false⟩,⟨1,1,16,16,true⟩]⟩
def x3 :Clr:=⟨[⟨xms,150,160,0,1⟩,⟨xmt,0,0,0,0⟩],[⟨0,1,40,42⟩],[⟨0,0,16,17,false⟩,⟨1,1,16,16,true⟩,⟨0,1,10,10,false⟩]⟩
theorem lt1 {i:Nat}(h:i<1):i=0:=by omega
theorem lt2 {i:Nat}(h:i<2):i=0∨i=1:=by omega
theorem lt3 {i:Nat}(h:i<3):i=0∨i=1∨i=2:=by omega
theorem utC :MOk xms:=⟨by decide,by decide,rfl,rfl,fun i hi=>by
 have hi':i+1<3:=hi
 rcases lt2 (show i<2 by omega)with rfl|rfl<;>decide,fun i hi=>by rcases lt3 hi with rfl|rfl|rfl<;>decide⟩
theorem uvf :MOk xmt:=⟨by decide,by decide,rfl,rfl,fun i hi=>by
 have hi':i+1<2:=hi
 rcases lt1 (show i<1 by omega)with rfl;decide,fun i hi=>by rcases lt2 hi with rfl|rfl<;>decide⟩
theorem x_k (i:Nat)(hi:i<2):KOk (x2.cs.getD i k0):=by
 rcases lt2 hi with rfl|rfl
 ·exact⟨utC,by decide,by decide,by decide,by decide,by decide,by decide⟩
 ·exact⟨uvf,by decide,by decide,by decide,by decide,by decide,by decide⟩
theorem x_v (i:Nat)(hi:i<1):VOk 2 (x2.mv.getD i v0):=by
 rcases lt1 hi with rfl
 exact⟨by decide,by decide,by decide,by decide,by decide,by decide,by decide,by decide,by decide⟩
theorem uyR (i:Nat)(hi:i<3):GOk x2.cs 1 (x3.gs.getD i g0):=by
 rcases lt3 hi with rfl|rfl|rfl<;>exact⟨by decide,by decide,by decide,by decide,by decide,by decide,by decide⟩
theorem uz6 (i:Nat)(hi:i<2):GOk x2.cs 1 (x2.gs.getD i g0):=by
 rcases lt2 hi with rfl|rfl<;>exact⟨by decide,by decide,by decide,by decide,by decide,by decide,by decide⟩
theorem uwf :COk x2:=⟨by decide,by decide,by decide,by decide,x_k,x_v,uz6⟩
theorem uw9 :COk x3:=⟨by decide,by decide,by decide,by decide,x_k,x_v,uyR⟩
theorem urz :ua6 x2=0:=uaa.2 uwf
theorem uyT :ua6 x3=0:=uaa.2 uw9
theorem uoN :udN x2=true:=by kernel_rfl
theorem urV :udN (ubh x3 [])=true:=by kernel_rfl
theorem uxT :ucP x3=0:=umT uyT urV
theorem uv6 :upx x3 x3.gs.length 0=some 2:=by kernel_rfl
theorem uv7 :uvp x3=[2]:=by kernel_rfl
theorem uoW :ctV x2 0 17=156∧ctE x2 0 17=0:=by
 have h:=ufs (c:=x2) (x:=0) (d:=17) urz ⟨⟨by decide,by decide⟩,by decide,by decide⟩
 exact⟨h.2.trans (by kernel_rfl),h.1⟩
theorem ukS :dpV x2 0 155=16∧dpE x2 0 155=0:=by
 have h:=ufg (c:=x2) (x:=0) (n:=155) urz ⟨⟨by decide,by decide⟩,by decide,by decide⟩
 exact⟨h.2.trans (by kernel_rfl),h.1⟩
theorem uob :meL x2 1=40∧meH x2 1=40∧meE x2 1=0:=by
 have h:=uer (c:=x2) (g:=1) urz ⟨by decide,by decide⟩
 exact⟨h.2.1.trans (by kernel_rfl),h.2.2.trans (by kernel_rfl),h.1⟩
theorem ux0 :ofT x2 [150,0] [1,0] [40]=true:=urG.2 ⟨⟨rfl,rfl,rfl⟩,fun i hi=>by rcases lt2 hi with rfl|rfl<;>rfl,fun i hi=>by rcases lt1 hi with rfl;rfl⟩
theorem uu2 :uw8 x2 [150,0] [1,0] (qM [40]):=fun i hi n hn=>by
 have hn':n<2:=Nat.lt_succ_of_le hn
 rcases lt2 hi with rfl|rfl<;>rcases lt2 hn' with rfl|rfl<;>exact⟨by decide,by decide⟩
theorem utH :ovL (lLo x2) 0 x2.cs.length=[]∧ovL (lHi x2) 0 x2.cs.length=[0]:=⟨by kernel_rfl,by kernel_rfl⟩
end Go.Eng.Ck

namespace Go.Proofs.Ytpkgnhcfmpbidaa
open Go Go.Eng Go.Proofs Go.Eng.Ck Go.Eng.Few
set_option maxRecDepth 10000
theorem unG {p:Nat→Bool} {n i:Nat}(hi:i<n)(h:p i=false):ufV p n=false:=by
 rw [uai];intro q;rw [q i hi]at h;cases h
theorem ukD {p:Nat→Bool} {n:Nat}(h:∀i,i<n→p i=true):ufV p n=true:=by rw [uab];exact h
def eqI (na:Nat)(fa:Nat→Int)(nb:Nat)(fb:Nat→Int):Bool:=decide (na=nb)&&ufV (fun i=>decide (fa i=fb i)) na
def eqR (na:Nat)(fa ga:Nat→Int)(nb:Nat)(fb gb:Nat→Int):Bool:=decide (na=nb)&&ufV (fun i=>decide (fa i=fb i)&&decide (ga i=gb i)) na
theorem usU {na nb:Nat} {fa fb:Nat→Int}(h:¬na=nb):eqI na fa nb fb=false:=by unfold eqI;rw [decide_eq_false h];rfl
theorem utM {na nb:Nat} {fa fb:Nat→Int} {i:Nat}(hi:i<na)(h:¬fa i=fb i):eqI na fa nb fb=false:=by
 unfold eqI
 rw [unG (i:=i) hi (decide_eq_false h)];simp
theorem usg {na nb:Nat} {fa fb:Nat→Int}(h:na=nb)(h':∀i,i<na→fa i=fb i):eqI na fa nb fb=true:=by
 unfold eqI
 rw [decide_eq_true h,ukD fun i hi=>decide_eq_true (h' i hi)];rfl
theorem urS {na nb:Nat} {fa fb ga gb:Nat→Int}(h:¬na=nb):eqR na fa ga nb fb gb=false:=by unfold eqR;rw [decide_eq_false h];rfl
theorem uua {na nb:Nat} {fa fb ga gb:Nat→Int} {i:Nat}(hi:i<na)(h:¬(fa i=fb i∧ga i=gb i)):eqR na fa ga nb fb gb=false:=by
 unfold eqR
 rw [unG (i:=i) hi (by rw [←Bool.not_eq_true,Bool.and_eq_true,decide_eq_true_eq,decide_eq_true_eq];exact h)];simp
theorem usG {na nb:Nat} {fa fb ga gb:Nat→Int}(h:na=nb)(h':∀i,i<na→fa i=fb i∧ga i=gb i):eqR na fa ga nb fb gb=true:=by
 unfold eqR
 rw [decide_eq_true h,ukD fun i hi=>by rw [decide_eq_true (h' i hi).1,decide_eq_true (h' i hi).2];rfl];rfl
theorem ud4 :umK Try.prog 39 2:=ueZ (by kernel_rfl)
theorem ukP (na nb:Nat)(fa fb:Nat→Int)(ha:na≤1000)(hb:nb≤1000):ua0 Try.prog 37 [(.sl 1 (.sym fun _=>zi na) (fun ix=>[(iv fun _=>fa ix.den.toNat)])),(.sl 1 (.sym fun _=>zi nb) (fun ix=>[(iv fun _=>fb ix.den.toNat)]))] [] (fun r _=>r=(bv fun _=>eqI na fa nb fb)):=by
 refine ua0.is fun R hR=>qY (sc:=uyC) uas mix Try.func37 rfl Try.call37 (by kernel_rfl) (by kernel_rfl) ?_
 generalize Try.prog=P
 cbv
 repeat' (first|with_reducible refine And.intro ?_ ?_|(with_reducible intro hcd;(try simp only [zA,zB,zC,zD,zE,zF,zG,zH,zI,zJ,zK,zL,zM,zN,zO,zP]at hcd);try cbv)|fail)
 all_goals first|(subst hR;(refine qF ?_;(try simp only [qX]at *);(try simp only [zQ,zA,zB,zC,zD,zE,zF,zG,zH,zI,zJ,zK,zL,zM,zN,zO,zP,zR,zS]at *);exact(usU (by omega)).symm);done)|skip
 refine⟨none,[],{i:Nat // i≤na∧∀j,j<i→fa j=fb j},fun x=>⟨[(0,(.sl 1 (.sym fun _=>zi na) (fun ix=>[(iv fun _=>fa ix.den.toNat)]))),(1,(.sl 1 (.sym fun _=>zi nb) (fun ix=>[(iv fun _=>fb ix.den.toNat)]))),(5,(iv fun _=>zi x.1))],[],40⟩,fun x=>na-x.1,?_,?_⟩
 ·refine⟨⟨0,by omega,fun j hj=>by omega⟩,?_⟩
  cbv
  repeat' (first|with_reducible refine ua3 ?_ ?_|with_reducible refine And.intro ?_ ?_)
  all_goals first|trivial|exact qN (qE (by rfl))|exact qN (Fit.refl _)|skip
 ·rintro⟨i,hi,hq⟩
  cbv
  repeat' (first|with_reducible refine ua3 ?_ ?_|with_reducible refine And.intro ?_ ?_|(with_reducible intro hcd;(try simp only [zA,zB,zC,zD,zE,zF,zG,zH,zI,zJ,zK,zL,zM,zN,zO,zP]at hcd);try cbv)|fail)
  all_goals first|((try simp only [qX]at *);(try simp only [zQ,zA,zB,zC,zD,zE,zF,zG,zH,zI,zJ,zK,zL,zM,zN,zO,zP,zR,zS]at *);first|(refine qO ?_;omega)|(simp only [uap];omega))|(subst hR;(refine qF ?_;(try simp only [qX]at *);(try simp only [zQ,zA,zB,zC,zD,zE,zF,zG,zH,zI,zJ,zK,zL,zM,zN,zO,zP,zR,zS]at *);exact(utM (i:=i) (by omega) (by assumption)).symm);done)|(subst hR;(refine qF ?_;(try simp only [qX]at *);(try simp only [zQ,zA,zB,zC,zD,zE,zF,zG,zH,zI,zJ,zK,zL,zM,zN,zO,zP,zR,zS]at *);exact(usg (by omega) fun j hj=>hq j (by omega)).symm);done)|((try simp only [zQ,zA,zB,zC,zD,zE,zF,zG,zH,zI,zJ,zK,zL,zM,zN,zO,zP,zR,zS]at *);refine⟨⟨i+1,by omega,fun j hj=>(Nat.lt_or_ge j i).elim (hq j) fun q=>by rw [show j=i by omega];first|assumption|omega|exact upi (by assumption)⟩,by simp only [];omega,?_⟩;cbv;(repeat' (first|with_reducible refine ua3 ?_ ?_|with_reducible refine And.intro ?_ ?_));(all_goals first|trivial|exact qN (qE (by rfl))|exact qN (qF (by rfl))|exact qN (Fit.refl _)|exact qL (qK _)|(refine qN (qE ?_);(try simp only [qX]at *);simp only [zQ,zA,zB,zC,zD,zE,zF,zG,zH,zI,zJ,zK,zL,zM,zN,zO,zP,zR,zS]at *;omega)|skip))|skip
theorem ujw (na nb:Nat)(fa ga fb gb:Nat→Int)(ha:na≤1000)(hb:nb≤1000):ua0 Try.prog 61 [(.sl 2 (.sym fun _=>zi na) (fun ix=>[(iv fun _=>fa ix.den.toNat),(iv fun _=>ga ix.den.toNat)])),(.sl 2 (.sym fun _=>zi nb) (fun ix=>[(iv fun _=>fb ix.den.toNat),(iv fun _=>gb ix.den.toNat)]))] [] (fun r _=>r=(bv fun _=>eqR na fa ga nb fb gb)):=by
 have heq:=ud4
 refine ua0.is fun R hR=>qY (sc:=uyn) uas mix Try.func61 rfl Try.call61 (by kernel_rfl) (by kernel_rfl) ?_
 generalize Try.prog=P at heq⊢
 cbv
 repeat' (first|with_reducible refine And.intro ?_ ?_|(with_reducible intro hcd;(try simp only [zA,zB,zC,zD,zE,zF,zG,zH,zI,zJ,zK,zL,zM,zN,zO,zP]at hcd);try cbv)|fail)
 all_goals first|(subst hR;(refine qF ?_;(try simp only [qX]at *);(try simp only [zQ,zA,zB,zC,zD,zE,zF,zG,zH,zI,zJ,zK,zL,zM,zN,zO,zP,zR,zS]at *);exact(urS (by omega)).symm);done)|skip
 refine⟨none,[],{i:Nat // i≤na∧∀j,j<i→fa j=fb j∧ga j=gb j},fun x=>⟨[(0,(.sl 2 (.sym fun _=>zi na) (fun ix=>[(iv fun _=>fa ix.den.toNat),(iv fun _=>ga ix.den.toNat)]))),(1,(.sl 2 (.sym fun _=>zi nb) (fun ix=>[(iv fun _=>fb ix.den.toNat),(iv fun _=>gb ix.den.toNat)]))),(5,(iv fun _=>zi x.1))],[],40⟩,fun x=>na-x.1,?_,?_⟩
 ·refine⟨⟨0,by omega,fun j hj=>by omega⟩,?_⟩
  cbv
  repeat' (first|with_reducible refine ua3 ?_ ?_|with_reducible refine And.intro ?_ ?_)
  all_goals first|trivial|exact qN (qE (by rfl))|exact qN (Fit.refl _)|skip
 ·rintro⟨i,hi,hq⟩
  cbv
  repeat' (first|with_reducible refine ua3 ?_ ?_|with_reducible refine And.intro ?_ ?_|(with_reducible intro hcd;(try simp only [zA,zB,zC,zD,zE,zF,zG,zH,zI,zJ,zK,zL,zM,zN,zO,zP]at hcd);try cbv)|fail)
  all_goals first|trivial|((try simp only [qX]at *);(try simp only [zQ,zA,zB,zC,zD,zE,zF,zG,zH,zI,zJ,zK,zL,zM,zN,zO,zP,zR,zS]at *);first|(refine qO ?_;omega)|(simp only [uap];omega))|(subst hR;(refine qF ?_;(try simp only [qX]at *);(try simp only [zQ,zA,zB,zC,zD,zE,zF,zG,zH,zI,zJ,zK,zL,zM,zN,zO,zP,zR,zS]at *);exact(uua (i:=i) (by omega) (utc (by assumption))).symm);done)|(subst hR;(refine qF ?_;(try simp only [qX]at *);(try simp only [zQ,zA,zB,zC,zD,zE,zF,zG,zH,zI,zJ,zK,zL,zM,zN,zO,zP,zR,zS]at *);exact(usG (by omega) fun j hj=>hq j (by omega)).symm);done)|((try simp only [zQ,zA,zB,zC,zD,zE,zF,zG,zH,zI,zJ,zK,zL,zM,zN,zO,zP,zR,zS]at *);refine⟨⟨i+1,by omega,fun j hj=>(Nat.lt_or_ge j i).elim (hq j) fun q=>by rw [show j=i by omega];first|assumption|omega|exact upi (by assumption)⟩,by simp only [];omega,?_⟩;cbv;(repeat' (first|with_reducible refine ua3 ?_ ?_|with_reducible refine And.intro ?_ ?_));(all_goals first|trivial|exact qN (qE (by rfl))|exact qN (qF (by rfl))|exact qN (Fit.refl _)|exact qL (qK _)|(refine qN (qE ?_);(try simp only [qX]at *);simp only [zQ,zA,zB,zC,zD,zE,zF,zG,zH,zI,zJ,zK,zL,zM,zN,zO,zP,zR,zS]at *;omega)|skip))|skip
end Go.Proofs.Ytpkgnhcfmpbidaa

namespace Go.Proofs.Ytpkgnhcfmpbidaa
open Go Go.Eng Go.Proofs Go.Eng.Ck Go.Eng.Few
set_option maxRecDepth 10000
theorem ux5 :ua0 Try.prog 58 [] [] (fun r _=>r=(.agg [(.int .i64 (.lit (0))),(.int .i64 (.lit (1))),(.int .i64 (.lit (10))),(.int .i64 (.lit (10))),(.bool (.lit false))])):=by
 have c39:= @uf7
 refine ua0.is fun R hR=>qY (sc:=uza) uas mix Try.func58 rfl Try.call58 (by kernel_rfl) (by kernel_rfl) ?_
 generalize Try.prog=P at c39⊢
 cbv
 repeat' (first|(refine uaj ?_ (c39 _ _);try cbv)|fail)
 all_goals first|(subst hR;(repeat' (first|exact qA|exact qB|refine qC ?_ rfl ?_|refine qD ?_ ?_|exact qE (by rfl)|exact qF (by rfl)|exact qE (by kernel_rfl)|exact qF (by kernel_rfl)|exact Fit.refl _|(exact qP (by rfl))|(first|(refine ua1 (by rfl) (fun ix h0 h1=> ?_);(have h2:ix.den<2:=h1);(have hx:ix.den.toNat=0∨ix.den.toNat=1:=by omega);(rcases hx with hx|hx<;>simp only [hx]))|(refine ua1 (by rfl) (fun ix h0 h1=> ?_);(have h2:ix.den<3:=h1);(have hx:ix.den.toNat=0∨ix.den.toNat=1∨ix.den.toNat=2:=by omega);(rcases hx with hx|hx|hx<;>simp only [hx]))|(refine ua1 (by rfl) (fun ix h0 h1=> ?_);(have h2:ix.den<4:=h1);(have hx:ix.den.toNat=0∨ix.den.toNat=1∨ix.den.toNat=2∨ix.den.toNat=3:=by omega);(rcases hx with hx|hx|hx|hx<;>simp only [hx]))|(refine ua1 (by rfl) (fun ix h0 h1=> ?_);(have h2:ix.den<1:=h1);(have hx:ix.den.toNat=0:=by omega);(rcases hx with hx<;>simp only [hx]))|(refine ua1 (by rfl) (fun ix h0 h1=> ?_);(have h2:ix.den<5:=h1);(have hx:ix.den.toNat=0∨ix.den.toNat=1∨ix.den.toNat=2∨ix.den.toNat=3∨ix.den.toNat=4:=by omega);(rcases hx with hx|hx|hx|hx|hx<;>simp only [hx])))));done)|skip
theorem uwa :ua0 Try.prog 57 [.val (Value.slice none 0 0)] [] (fun r _=>r=(.agg [(caS x2.cs),(mvS x2.mv),(gaS x2.gs)])):=by
 have c39:= @uf7
 refine ua0.is fun R hR=>qY (sc:=uxK) uas mix Try.func57 rfl Try.call57 (by kernel_rfl) (by kernel_rfl) ?_
 generalize Try.prog=P at c39⊢
 cbv
 repeat' (first|(refine uaj ?_ (c39 _ _);try cbv)|fail)
 all_goals first|(subst hR;(repeat' (first|exact qA|exact qB|refine qC ?_ rfl ?_|refine qD ?_ ?_|exact qE (by rfl)|exact qF (by rfl)|exact qE (by kernel_rfl)|exact qF (by kernel_rfl)|exact Fit.refl _|(exact qP (by rfl))|(first|(refine ua1 (by rfl) (fun ix h0 h1=> ?_);(have h2:ix.den<2:=h1);(have hx:ix.den.toNat=0∨ix.den.toNat=1:=by omega);(rcases hx with hx|hx<;>simp only [hx]))|(refine ua1 (by rfl) (fun ix h0 h1=> ?_);(have h2:ix.den<3:=h1);(have hx:ix.den.toNat=0∨ix.den.toNat=1∨ix.den.toNat=2:=by omega);(rcases hx with hx|hx|hx<;>simp only [hx]))|(refine ua1 (by rfl) (fun ix h0 h1=> ?_);(have h2:ix.den<4:=h1);(have hx:ix.den.toNat=0∨ix.den.toNat=1∨ix.den.toNat=2∨ix.den.toNat=3:=by omega);(rcases hx with hx|hx|hx|hx<;>simp only [hx]))|(refine ua1 (by rfl) (fun ix h0 h1=> ?_);(have h2:ix.den<1:=h1);(have hx:ix.den.toNat=0:=by omega);(rcases hx with hx<;>simp only [hx]))|(refine ua1 (by rfl) (fun ix h0 h1=> ?_);(have h2:ix.den<5:=h1);(have hx:ix.den.toNat=0∨ix.den.toNat=1∨ix.den.toNat=2∨ix.den.toNat=3∨ix.den.toNat=4:=by omega);(rcases hx with hx|hx|hx|hx|hx<;>simp only [hx])))));done)|skip
theorem uoP {c0 c1 c2:List SV} {e':IX→List SV} {n b:Int}(hn:n=1)(hb:(2+n)*b≤140737488355328)(h0:∀jx:IX,jx.den=0→Fit (.agg c0) (.agg (e' jx)))(h1:∀jx:IX,jx.den=1→Fit (.agg c1) (.agg (e' jx)))(h2:∀jx:IX,jx.den=2→Fit (.agg c2) (.agg (e' jx))):uap (ucI 2 (utj c0 c1) n (fun _=>c2) e'∧0<n∧(2+n)*b≤140737488355328):=by
 subst hn
 refine⟨⟨fun μ ν ix c q0 q1 hr jx hj=> ?_,fun μ ν ix c q0 q1 hr jx hj=> ?_⟩,by omega,hb⟩
 ·unfold utj at hr
  split at hr
  ·rename_i h;exact(h0 jx (by omega)).le _ _ _ hr
  ·rename_i h;exact(h1 jx (by omega)).le _ _ _ hr
 ·exact(h2 jx (by omega)).le _ _ _ hr
theorem utR :ua0 Try.prog 57 [.ows 0 0 1 1 5] [.cells [(.int .i64 (.lit (0))),(.int .i64 (.lit (1))),(.int .i64 (.lit (10))),(.int .i64 (.lit (10))),(.bool (.lit false))] 111] (fun r bs=>r=(.agg [(caS x3.cs),(mvS x3.mv),(gaS x3.gs)])∧bs=[.cells [(.int .i64 (.lit (0))),(.int .i64 (.lit (1))),(.int .i64 (.lit (10))),(.int .i64 (.lit (10))),(.bool (.lit false))] 111]):=by
 have c39:= @uf7
 refine ua0.isB rfl fun R B hR hB=>qY (sc:=uxK) uas mix Try.func57 rfl Try.call57 (by kernel_rfl) (by kernel_rfl) ?_
 generalize Try.prog=P at c39⊢
 cbv
 repeat' (first
  |with_reducible refine And.intro ?_ ?_
  |(refine uaj ?_ (c39 _ _);try cbv)
  | (refine⟨fun ix=>(gcS ((x3.gs).getD ix.den.toNat g0)),?_⟩
     cbv
     refine ua3 (uoP rfl (by decide) (by intro jx hj;(have hj2:jx.den.toNat=0:=by omega);simp only [hj2];exact(qC (qE rfl) rfl (qC (qE rfl) rfl (qC (qE rfl) rfl (qC (qE rfl) rfl (qC (qF rfl) rfl qA)))))) (by intro jx hj;(have hj2:jx.den.toNat=1:=by omega);simp only [hj2];exact(qC (qE rfl) rfl (qC (qE rfl) rfl (qC (qE rfl) rfl (qC (qE rfl) rfl (qC (qF rfl) rfl qA)))))) (by intro jx hj;(have hj2:jx.den.toNat=2:=by omega);simp only [hj2];exact(qC (qE rfl) rfl (qC (qE rfl) rfl (qC (qE rfl) rfl (qC (qE rfl) rfl (qC (qF rfl) rfl qA))))))) ?_
     try cbv)
  |fail)
 all_goals first|(subst hR;(repeat' (first|exact qA|exact qB|refine qC ?_ rfl ?_|refine qD ?_ ?_|exact qE (by rfl)|exact qF (by rfl)|exact qE (by kernel_rfl)|exact qF (by kernel_rfl)|exact Fit.refl _|(exact qP (by rfl))|(first|(refine ua1 (by rfl) (fun ix h0 h1=> ?_);(have h2:ix.den<2:=h1);(have hx:ix.den.toNat=0∨ix.den.toNat=1:=by omega);(rcases hx with hx|hx<;>simp only [hx]))|(refine ua1 (by rfl) (fun ix h0 h1=> ?_);(have h2:ix.den<3:=h1);(have hx:ix.den.toNat=0∨ix.den.toNat=1∨ix.den.toNat=2:=by omega);(rcases hx with hx|hx|hx<;>simp only [hx]))|(refine ua1 (by rfl) (fun ix h0 h1=> ?_);(have h2:ix.den<4:=h1);(have hx:ix.den.toNat=0∨ix.den.toNat=1∨ix.den.toNat=2∨ix.den.toNat=3:=by omega);(rcases hx with hx|hx|hx|hx<;>simp only [hx]))|(refine ua1 (by rfl) (fun ix h0 h1=> ?_);(have h2:ix.den<1:=h1);(have hx:ix.den.toNat=0:=by omega);(rcases hx with hx<;>simp only [hx]))|(refine ua1 (by rfl) (fun ix h0 h1=> ?_);(have h2:ix.den<5:=h1);(have hx:ix.den.toNat=0∨ix.den.toNat=1∨ix.den.toNat=2∨ix.den.toNat=3∨ix.den.toNat=4:=by omega);(rcases hx with hx|hx|hx|hx|hx<;>simp only [hx])))));done)|(subst hB;(repeat' (first|exact qH|refine qI ?_ ?_|exact qK _|refine qJ ?_|exact qA|exact qE (by rfl)|exact qF (by rfl)|exact Fit.refl _|exact qG _|refine qC ?_ rfl ?_));done)|skip
end Go.Proofs.Ytpkgnhcfmpbidaa

namespace Go.Proofs.Ytpkgnhcfmpbidaa
open Go Go.Eng Go.Proofs Go.Eng.Ck Go.Eng.Few
set_option maxRecDepth 10000
def xB :List (List (Int×Int)):=[[(150,156),(109,116)],[(0,0),(40,40)]]
def xL :List (Int×Int):=[(0,1),(0,0)]
theorem ux6 :ua0 Try.prog 17 [(.agg [(caS x2.cs),(mvS x2.mv),(gaS x2.gs)]),(iv fun _=>0),(iv fun _=>17)] [] (fun r _=>r=(.tup [(.int .i64 (.lit (156))),(.int .i64 (.lit (0)))])):=
 (uba x2 0 17).post fun r bs h=>⟨_,by subst h;rw [uoW.1,uoW.2];(repeat' (first|exact qA|exact qB|refine qC ?_ rfl ?_|refine qD ?_ ?_|exact qE (by rfl)|exact qF (by rfl)|exact qE (by kernel_rfl)|exact qF (by kernel_rfl)|exact Fit.refl _|(exact qP (by rfl))|(first|(refine ua1 (by rfl) (fun ix h0 h1=> ?_);(have h2:ix.den<2:=h1);(have hx:ix.den.toNat=0∨ix.den.toNat=1:=by omega);(rcases hx with hx|hx<;>simp only [hx]))|(refine ua1 (by rfl) (fun ix h0 h1=> ?_);(have h2:ix.den<3:=h1);(have hx:ix.den.toNat=0∨ix.den.toNat=1∨ix.den.toNat=2:=by omega);(rcases hx with hx|hx|hx<;>simp only [hx]))|(refine ua1 (by rfl) (fun ix h0 h1=> ?_);(have h2:ix.den<4:=h1);(have hx:ix.den.toNat=0∨ix.den.toNat=1∨ix.den.toNat=2∨ix.den.toNat=3:=by omega);(rcases hx with hx|hx|hx|hx<;>simp only [hx]))|(refine ua1 (by rfl) (fun ix h0 h1=> ?_);(have h2:ix.den<1:=h1);(have hx:ix.den.toNat=0:=by omega);(rcases hx with hx<;>simp only [hx]))|(refine ua1 (by rfl) (fun ix h0 h1=> ?_);(have h2:ix.den<5:=h1);(have hx:ix.den.toNat=0∨ix.den.toNat=1∨ix.den.toNat=2∨ix.den.toNat=3∨ix.den.toNat=4:=by omega);(rcases hx with hx|hx|hx|hx|hx<;>simp only [hx]))))),rfl⟩
theorem uyE :ua0 Try.prog 19 [(.agg [(caS x2.cs),(mvS x2.mv),(gaS x2.gs)]),(iv fun _=>0),(iv fun _=>155)] [] (fun r _=>r=(.tup [(.int .i64 (.lit (16))),(.int .i64 (.lit (0)))])):=
 (ufJ x2 0 155).post fun r bs h=>⟨_,by subst h;rw [ukS.1,ukS.2];(repeat' (first|exact qA|exact qB|refine qC ?_ rfl ?_|refine qD ?_ ?_|exact qE (by rfl)|exact qF (by rfl)|exact qE (by kernel_rfl)|exact qF (by kernel_rfl)|exact Fit.refl _|(exact qP (by rfl))|(first|(refine ua1 (by rfl) (fun ix h0 h1=> ?_);(have h2:ix.den<2:=h1);(have hx:ix.den.toNat=0∨ix.den.toNat=1:=by omega);(rcases hx with hx|hx<;>simp only [hx]))|(refine ua1 (by rfl) (fun ix h0 h1=> ?_);(have h2:ix.den<3:=h1);(have hx:ix.den.toNat=0∨ix.den.toNat=1∨ix.den.toNat=2:=by omega);(rcases hx with hx|hx|hx<;>simp only [hx]))|(refine ua1 (by rfl) (fun ix h0 h1=> ?_);(have h2:ix.den<4:=h1);(have hx:ix.den.toNat=0∨ix.den.toNat=1∨ix.den.toNat=2∨ix.den.toNat=3:=by omega);(rcases hx with hx|hx|hx|hx<;>simp only [hx]))|(refine ua1 (by rfl) (fun ix h0 h1=> ?_);(have h2:ix.den<1:=h1);(have hx:ix.den.toNat=0:=by omega);(rcases hx with hx<;>simp only [hx]))|(refine ua1 (by rfl) (fun ix h0 h1=> ?_);(have h2:ix.den<5:=h1);(have hx:ix.den.toNat=0∨ix.den.toNat=1∨ix.den.toNat=2∨ix.den.toNat=3∨ix.den.toNat=4:=by omega);(rcases hx with hx|hx|hx|hx|hx<;>simp only [hx]))))),rfl⟩
theorem uxl :ua0 Try.prog 20 [(.agg [(caS x2.cs),(mvS x2.mv),(gaS x2.gs)]),(iv fun _=>1)] [] (fun r _=>r=(.tup [(.agg [(.int .i64 (.lit (40))),(.int .i64 (.lit (40)))]),(.int .i64 (.lit (0)))])):=
 (udA x2 1).post fun r bs h=>⟨_,by subst h;rw [uob.1,uob.2.1,uob.2.2];(repeat' (first|exact qA|exact qB|refine qC ?_ rfl ?_|refine qD ?_ ?_|exact qE (by rfl)|exact qF (by rfl)|exact qE (by kernel_rfl)|exact qF (by kernel_rfl)|exact Fit.refl _|(exact qP (by rfl))|(first|(refine ua1 (by rfl) (fun ix h0 h1=> ?_);(have h2:ix.den<2:=h1);(have hx:ix.den.toNat=0∨ix.den.toNat=1:=by omega);(rcases hx with hx|hx<;>simp only [hx]))|(refine ua1 (by rfl) (fun ix h0 h1=> ?_);(have h2:ix.den<3:=h1);(have hx:ix.den.toNat=0∨ix.den.toNat=1∨ix.den.toNat=2:=by omega);(rcases hx with hx|hx|hx<;>simp only [hx]))|(refine ua1 (by rfl) (fun ix h0 h1=> ?_);(have h2:ix.den<4:=h1);(have hx:ix.den.toNat=0∨ix.den.toNat=1∨ix.den.toNat=2∨ix.den.toNat=3:=by omega);(rcases hx with hx|hx|hx|hx<;>simp only [hx]))|(refine ua1 (by rfl) (fun ix h0 h1=> ?_);(have h2:ix.den<1:=h1);(have hx:ix.den.toNat=0:=by omega);(rcases hx with hx<;>simp only [hx]))|(refine ua1 (by rfl) (fun ix h0 h1=> ?_);(have h2:ix.den<5:=h1);(have hx:ix.den.toNat=0∨ix.den.toNat=1∨ix.den.toNat=2∨ix.den.toNat=3∨ix.den.toNat=4:=by omega);(rcases hx with hx|hx|hx|hx|hx<;>simp only [hx]))))),rfl⟩
theorem ux4 :ua0 Try.prog 45 [(.agg [(caS x2.cs),(mvS x2.mv),(gaS x2.gs)]),(.agg [(iS ([150,0])),(iS ([1,0])),(iS ([40]))])] [] (fun r _=>r=(.tup [(.sl 1 (.sym fun _=>zi ([[150,109],[0,40]]).length) (fun ix=>[(.sl 1 (.sym fun _=>zi (([[150,109],[0,40]]).getD ix.den.toNat []).length) (fun jx=>[(iv fun _=>(([[150,109],[0,40]]).getD ix.den.toNat []).getD jx.den.toNat 0)]))])),(.int .i64 (.lit (0)))])):=
 (urQ x2 [150,0] [1,0] [40] urz ux0 uu2).post fun r bs h=>⟨_,by subst h;(repeat' (first|exact qA|exact qB|refine qC ?_ rfl ?_|refine qD ?_ ?_|exact qE (by rfl)|exact qF (by rfl)|exact qE (by kernel_rfl)|exact qF (by kernel_rfl)|exact Fit.refl _|(exact qP (by rfl))|(first|(refine ua1 (by rfl) (fun ix h0 h1=> ?_);(have h2:ix.den<2:=h1);(have hx:ix.den.toNat=0∨ix.den.toNat=1:=by omega);(rcases hx with hx|hx<;>simp only [hx]))|(refine ua1 (by rfl) (fun ix h0 h1=> ?_);(have h2:ix.den<3:=h1);(have hx:ix.den.toNat=0∨ix.den.toNat=1∨ix.den.toNat=2:=by omega);(rcases hx with hx|hx|hx<;>simp only [hx]))|(refine ua1 (by rfl) (fun ix h0 h1=> ?_);(have h2:ix.den<4:=h1);(have hx:ix.den.toNat=0∨ix.den.toNat=1∨ix.den.toNat=2∨ix.den.toNat=3:=by omega);(rcases hx with hx|hx|hx|hx<;>simp only [hx]))|(refine ua1 (by rfl) (fun ix h0 h1=> ?_);(have h2:ix.den<1:=h1);(have hx:ix.den.toNat=0:=by omega);(rcases hx with hx<;>simp only [hx]))|(refine ua1 (by rfl) (fun ix h0 h1=> ?_);(have h2:ix.den<5:=h1);(have hx:ix.den.toNat=0∨ix.den.toNat=1∨ix.den.toNat=2∨ix.den.toNat=3∨ix.den.toNat=4:=by omega);(rcases hx with hx|hx|hx|hx|hx<;>simp only [hx]))))),rfl⟩
theorem usp :ua0 Try.prog 30 [(.agg [(caS x2.cs),(mvS x2.mv),(gaS x2.gs)])] [] (fun r _=>r=(.tup [(.sl 1 (.sym fun _=>zi (xB).length) (fun ix=>[(.sl 2 (.sym fun _=>zi ((xB).getD ix.den.toNat []).length) (fun jx=>[(iv fun _=>(((xB).getD ix.den.toNat []).getD jx.den.toNat (0,0)).1),(iv fun _=>(((xB).getD ix.den.toNat []).getD jx.den.toNat (0,0)).2)]))])),(.int .i64 (.lit (0)))])):=
 (unA x2 urz uoN).post fun r bs h=>⟨_,by subst h;(repeat' (first|exact qA|exact qB|refine qC ?_ rfl ?_|refine qD ?_ ?_|exact qE (by rfl)|exact qF (by rfl)|exact qE (by kernel_rfl)|exact qF (by kernel_rfl)|exact Fit.refl _|(exact qP (by rfl))|(first|(refine ua1 (by rfl) (fun ix h0 h1=> ?_);(have h2:ix.den<2:=h1);(have hx:ix.den.toNat=0∨ix.den.toNat=1:=by omega);(rcases hx with hx|hx<;>simp only [hx]))|(refine ua1 (by rfl) (fun ix h0 h1=> ?_);(have h2:ix.den<3:=h1);(have hx:ix.den.toNat=0∨ix.den.toNat=1∨ix.den.toNat=2:=by omega);(rcases hx with hx|hx|hx<;>simp only [hx]))|(refine ua1 (by rfl) (fun ix h0 h1=> ?_);(have h2:ix.den<4:=h1);(have hx:ix.den.toNat=0∨ix.den.toNat=1∨ix.den.toNat=2∨ix.den.toNat=3:=by omega);(rcases hx with hx|hx|hx|hx<;>simp only [hx]))|(refine ua1 (by rfl) (fun ix h0 h1=> ?_);(have h2:ix.den<1:=h1);(have hx:ix.den.toNat=0:=by omega);(rcases hx with hx<;>simp only [hx]))|(refine ua1 (by rfl) (fun ix h0 h1=> ?_);(have h2:ix.den<5:=h1);(have hx:ix.den.toNat=0∨ix.den.toNat=1∨ix.den.toNat=2∨ix.den.toNat=3∨ix.den.toNat=4:=by omega);(rcases hx with hx|hx|hx|hx|hx<;>simp only [hx]))))),rfl⟩
theorem uxF :ua0 Try.prog 31 [(.agg [(caS x2.cs),(mvS x2.mv),(gaS x2.gs)])] [] (fun r _=>r=(.tup [(.sl 2 (.sym fun _=>zi (xL).length) (fun ix=>[(iv fun _=>((xL).getD ix.den.toNat (0,0)).1),(iv fun _=>((xL).getD ix.den.toNat (0,0)).2)])),(.int .i64 (.lit (0)))])):=
 (uiu x2 urz uoN).post fun r bs h=>⟨_,by subst h;(repeat' (first|exact qA|exact qB|refine qC ?_ rfl ?_|refine qD ?_ ?_|exact qE (by rfl)|exact qF (by rfl)|exact qE (by kernel_rfl)|exact qF (by kernel_rfl)|exact Fit.refl _|(exact qP (by rfl))|(first|(refine ua1 (by rfl) (fun ix h0 h1=> ?_);(have h2:ix.den<2:=h1);(have hx:ix.den.toNat=0∨ix.den.toNat=1:=by omega);(rcases hx with hx|hx<;>simp only [hx]))|(refine ua1 (by rfl) (fun ix h0 h1=> ?_);(have h2:ix.den<3:=h1);(have hx:ix.den.toNat=0∨ix.den.toNat=1∨ix.den.toNat=2:=by omega);(rcases hx with hx|hx|hx<;>simp only [hx]))|(refine ua1 (by rfl) (fun ix h0 h1=> ?_);(have h2:ix.den<4:=h1);(have hx:ix.den.toNat=0∨ix.den.toNat=1∨ix.den.toNat=2∨ix.den.toNat=3:=by omega);(rcases hx with hx|hx|hx|hx<;>simp only [hx]))|(refine ua1 (by rfl) (fun ix h0 h1=> ?_);(have h2:ix.den<1:=h1);(have hx:ix.den.toNat=0:=by omega);(rcases hx with hx<;>simp only [hx]))|(refine ua1 (by rfl) (fun ix h0 h1=> ?_);(have h2:ix.den<5:=h1);(have hx:ix.den.toNat=0∨ix.den.toNat=1∨ix.den.toNat=2∨ix.den.toNat=3∨ix.den.toNat=4:=by omega);(rcases hx with hx|hx|hx|hx|hx<;>simp only [hx]))))),rfl⟩
theorem uvX :ua0 Try.prog 32 [(.agg [(caS x2.cs),(mvS x2.mv),(gaS x2.gs)]),(iv fun _=>0)] [] (fun r _=>r=(.tup [(iS (([]:List Int))),(iS ([0])),(.int .i64 (.lit (0)))])):=
 (usC x2 0 urz uoN).post fun r bs h=>⟨_,by subst h;rw [utH.1,utH.2];(repeat' (first|exact qA|exact qB|refine qC ?_ rfl ?_|refine qD ?_ ?_|exact qE (by rfl)|exact qF (by rfl)|exact qE (by kernel_rfl)|exact qF (by kernel_rfl)|exact Fit.refl _|(exact qP (by rfl))|(first|(refine ua1 (by rfl) (fun ix h0 h1=> ?_);(have h2:ix.den<2:=h1);(have hx:ix.den.toNat=0∨ix.den.toNat=1:=by omega);(rcases hx with hx|hx<;>simp only [hx]))|(refine ua1 (by rfl) (fun ix h0 h1=> ?_);(have h2:ix.den<3:=h1);(have hx:ix.den.toNat=0∨ix.den.toNat=1∨ix.den.toNat=2:=by omega);(rcases hx with hx|hx|hx<;>simp only [hx]))|(refine ua1 (by rfl) (fun ix h0 h1=> ?_);(have h2:ix.den<4:=h1);(have hx:ix.den.toNat=0∨ix.den.toNat=1∨ix.den.toNat=2∨ix.den.toNat=3:=by omega);(rcases hx with hx|hx|hx|hx<;>simp only [hx]))|(refine ua1 (by rfl) (fun ix h0 h1=> ?_);(have h2:ix.den<1:=h1);(have hx:ix.den.toNat=0:=by omega);(rcases hx with hx<;>simp only [hx]))|(refine ua1 (by rfl) (fun ix h0 h1=> ?_);(have h2:ix.den<5:=h1);(have hx:ix.den.toNat=0∨ix.den.toNat=1∨ix.den.toNat=2∨ix.den.toNat=3∨ix.den.toNat=4:=by omega);(rcases hx with hx|hx|hx|hx|hx<;>simp only [hx]))))),rfl⟩
theorem uuR :ua0 Try.prog 52 [(.agg [(caS x3.cs),(mvS x3.mv),(gaS x3.gs)])] [] (fun r _=>r=(.tup [(.int .i64 (.lit (2))),(.int .i64 (.lit (0)))])):=
 (uqp x3 2 uxT uv6).post fun r bs h=>⟨_,by subst h;(repeat' (first|exact qA|exact qB|refine qC ?_ rfl ?_|refine qD ?_ ?_|exact qE (by rfl)|exact qF (by rfl)|exact qE (by kernel_rfl)|exact qF (by kernel_rfl)|exact Fit.refl _|(exact qP (by rfl))|(first|(refine ua1 (by rfl) (fun ix h0 h1=> ?_);(have h2:ix.den<2:=h1);(have hx:ix.den.toNat=0∨ix.den.toNat=1:=by omega);(rcases hx with hx|hx<;>simp only [hx]))|(refine ua1 (by rfl) (fun ix h0 h1=> ?_);(have h2:ix.den<3:=h1);(have hx:ix.den.toNat=0∨ix.den.toNat=1∨ix.den.toNat=2:=by omega);(rcases hx with hx|hx|hx<;>simp only [hx]))|(refine ua1 (by rfl) (fun ix h0 h1=> ?_);(have h2:ix.den<4:=h1);(have hx:ix.den.toNat=0∨ix.den.toNat=1∨ix.den.toNat=2∨ix.den.toNat=3:=by omega);(rcases hx with hx|hx|hx|hx<;>simp only [hx]))|(refine ua1 (by rfl) (fun ix h0 h1=> ?_);(have h2:ix.den<1:=h1);(have hx:ix.den.toNat=0:=by omega);(rcases hx with hx<;>simp only [hx]))|(refine ua1 (by rfl) (fun ix h0 h1=> ?_);(have h2:ix.den<5:=h1);(have hx:ix.den.toNat=0∨ix.den.toNat=1∨ix.den.toNat=2∨ix.den.toNat=3∨ix.den.toNat=4:=by omega);(rcases hx with hx|hx|hx|hx|hx<;>simp only [hx]))))),rfl⟩
theorem utV :ua0 Try.prog 40 [(.agg [(caS x3.cs),(mvS x3.mv),(gaS x3.gs)])] [] (fun r _=>r=(.tup [(iS ([2])),(.int .i64 (.lit (0)))])):=
 (upF x3 uxT).post fun r bs h=>⟨_,by subst h;rw [uv7];(repeat' (first|exact qA|exact qB|refine qC ?_ rfl ?_|refine qD ?_ ?_|exact qE (by rfl)|exact qF (by rfl)|exact qE (by kernel_rfl)|exact qF (by kernel_rfl)|exact Fit.refl _|(exact qP (by rfl))|(first|(refine ua1 (by rfl) (fun ix h0 h1=> ?_);(have h2:ix.den<2:=h1);(have hx:ix.den.toNat=0∨ix.den.toNat=1:=by omega);(rcases hx with hx|hx<;>simp only [hx]))|(refine ua1 (by rfl) (fun ix h0 h1=> ?_);(have h2:ix.den<3:=h1);(have hx:ix.den.toNat=0∨ix.den.toNat=1∨ix.den.toNat=2:=by omega);(rcases hx with hx|hx|hx<;>simp only [hx]))|(refine ua1 (by rfl) (fun ix h0 h1=> ?_);(have h2:ix.den<4:=h1);(have hx:ix.den.toNat=0∨ix.den.toNat=1∨ix.den.toNat=2∨ix.den.toNat=3:=by omega);(rcases hx with hx|hx|hx|hx<;>simp only [hx]))|(refine ua1 (by rfl) (fun ix h0 h1=> ?_);(have h2:ix.den<1:=h1);(have hx:ix.den.toNat=0:=by omega);(rcases hx with hx<;>simp only [hx]))|(refine ua1 (by rfl) (fun ix h0 h1=> ?_);(have h2:ix.den<5:=h1);(have hx:ix.den.toNat=0∨ix.den.toNat=1∨ix.den.toNat=2∨ix.den.toNat=3∨ix.den.toNat=4:=by omega);(rcases hx with hx|hx|hx|hx|hx<;>simp only [hx]))))),rfl⟩
theorem uun :ua0 Try.prog 37 [(iS ([150,109])),(iS ([150,109]))] [] (fun r _=>r=(.bool (.lit true))):=
 (ukP 2 2 (fun n=>([150,109]).getD n 0) (fun n=>([150,109]).getD n 0) (by decide) (by decide)).post fun r bs h=>⟨_,by subst h;(repeat' (first|exact qA|exact qB|refine qC ?_ rfl ?_|refine qD ?_ ?_|exact qE (by rfl)|exact qF (by rfl)|exact qE (by kernel_rfl)|exact qF (by kernel_rfl)|exact Fit.refl _|(exact qP (by rfl))|(first|(refine ua1 (by rfl) (fun ix h0 h1=> ?_);(have h2:ix.den<2:=h1);(have hx:ix.den.toNat=0∨ix.den.toNat=1:=by omega);(rcases hx with hx|hx<;>simp only [hx]))|(refine ua1 (by rfl) (fun ix h0 h1=> ?_);(have h2:ix.den<3:=h1);(have hx:ix.den.toNat=0∨ix.den.toNat=1∨ix.den.toNat=2:=by omega);(rcases hx with hx|hx|hx<;>simp only [hx]))|(refine ua1 (by rfl) (fun ix h0 h1=> ?_);(have h2:ix.den<4:=h1);(have hx:ix.den.toNat=0∨ix.den.toNat=1∨ix.den.toNat=2∨ix.den.toNat=3:=by omega);(rcases hx with hx|hx|hx|hx<;>simp only [hx]))|(refine ua1 (by rfl) (fun ix h0 h1=> ?_);(have h2:ix.den<1:=h1);(have hx:ix.den.toNat=0:=by omega);(rcases hx with hx<;>simp only [hx]))|(refine ua1 (by rfl) (fun ix h0 h1=> ?_);(have h2:ix.den<5:=h1);(have hx:ix.den.toNat=0∨ix.den.toNat=1∨ix.den.toNat=2∨ix.den.toNat=3∨ix.den.toNat=4:=by omega);(rcases hx with hx|hx|hx|hx|hx<;>simp only [hx]))))),rfl⟩
theorem uuB :ua0 Try.prog 37 [(iS ([0,40])),(iS ([0,40]))] [] (fun r _=>r=(.bool (.lit true))):=
 (ukP 2 2 (fun n=>([0,40]).getD n 0) (fun n=>([0,40]).getD n 0) (by decide) (by decide)).post fun r bs h=>⟨_,by subst h;(repeat' (first|exact qA|exact qB|refine qC ?_ rfl ?_|refine qD ?_ ?_|exact qE (by rfl)|exact qF (by rfl)|exact qE (by kernel_rfl)|exact qF (by kernel_rfl)|exact Fit.refl _|(exact qP (by rfl))|(first|(refine ua1 (by rfl) (fun ix h0 h1=> ?_);(have h2:ix.den<2:=h1);(have hx:ix.den.toNat=0∨ix.den.toNat=1:=by omega);(rcases hx with hx|hx<;>simp only [hx]))|(refine ua1 (by rfl) (fun ix h0 h1=> ?_);(have h2:ix.den<3:=h1);(have hx:ix.den.toNat=0∨ix.den.toNat=1∨ix.den.toNat=2:=by omega);(rcases hx with hx|hx|hx<;>simp only [hx]))|(refine ua1 (by rfl) (fun ix h0 h1=> ?_);(have h2:ix.den<4:=h1);(have hx:ix.den.toNat=0∨ix.den.toNat=1∨ix.den.toNat=2∨ix.den.toNat=3:=by omega);(rcases hx with hx|hx|hx|hx<;>simp only [hx]))|(refine ua1 (by rfl) (fun ix h0 h1=> ?_);(have h2:ix.den<1:=h1);(have hx:ix.den.toNat=0:=by omega);(rcases hx with hx<;>simp only [hx]))|(refine ua1 (by rfl) (fun ix h0 h1=> ?_);(have h2:ix.den<5:=h1);(have hx:ix.den.toNat=0∨ix.den.toNat=1∨ix.den.toNat=2∨ix.den.toNat=3∨ix.den.toNat=4:=by omega);(rcases hx with hx|hx|hx|hx|hx<;>simp only [hx]))))),rfl⟩
theorem uv5 :ua0 Try.prog 37 [(iS ([0])),(iS ([0]))] [] (fun r _=>r=(.bool (.lit true))):=
 (ukP 1 1 (fun n=>([0]).getD n 0) (fun n=>([0]).getD n 0) (by decide) (by decide)).post fun r bs h=>⟨_,by subst h;(repeat' (first|exact qA|exact qB|refine qC ?_ rfl ?_|refine qD ?_ ?_|exact qE (by rfl)|exact qF (by rfl)|exact qE (by kernel_rfl)|exact qF (by kernel_rfl)|exact Fit.refl _|(exact qP (by rfl))|(first|(refine ua1 (by rfl) (fun ix h0 h1=> ?_);(have h2:ix.den<2:=h1);(have hx:ix.den.toNat=0∨ix.den.toNat=1:=by omega);(rcases hx with hx|hx<;>simp only [hx]))|(refine ua1 (by rfl) (fun ix h0 h1=> ?_);(have h2:ix.den<3:=h1);(have hx:ix.den.toNat=0∨ix.den.toNat=1∨ix.den.toNat=2:=by omega);(rcases hx with hx|hx|hx<;>simp only [hx]))|(refine ua1 (by rfl) (fun ix h0 h1=> ?_);(have h2:ix.den<4:=h1);(have hx:ix.den.toNat=0∨ix.den.toNat=1∨ix.den.toNat=2∨ix.den.toNat=3:=by omega);(rcases hx with hx|hx|hx|hx<;>simp only [hx]))|(refine ua1 (by rfl) (fun ix h0 h1=> ?_);(have h2:ix.den<1:=h1);(have hx:ix.den.toNat=0:=by omega);(rcases hx with hx<;>simp only [hx]))|(refine ua1 (by rfl) (fun ix h0 h1=> ?_);(have h2:ix.den<5:=h1);(have hx:ix.den.toNat=0∨ix.den.toNat=1∨ix.den.toNat=2∨ix.den.toNat=3∨ix.den.toNat=4:=by omega);(rcases hx with hx|hx|hx|hx|hx<;>simp only [hx]))))),rfl⟩
theorem utL :ua0 Try.prog 37 [(iS ([2])),(iS ([2]))] [] (fun r _=>r=(.bool (.lit true))):=
 (ukP 1 1 (fun n=>([2]).getD n 0) (fun n=>([2]).getD n 0) (by decide) (by decide)).post fun r bs h=>⟨_,by subst h;(repeat' (first|exact qA|exact qB|refine qC ?_ rfl ?_|refine qD ?_ ?_|exact qE (by rfl)|exact qF (by rfl)|exact qE (by kernel_rfl)|exact qF (by kernel_rfl)|exact Fit.refl _|(exact qP (by rfl))|(first|(refine ua1 (by rfl) (fun ix h0 h1=> ?_);(have h2:ix.den<2:=h1);(have hx:ix.den.toNat=0∨ix.den.toNat=1:=by omega);(rcases hx with hx|hx<;>simp only [hx]))|(refine ua1 (by rfl) (fun ix h0 h1=> ?_);(have h2:ix.den<3:=h1);(have hx:ix.den.toNat=0∨ix.den.toNat=1∨ix.den.toNat=2:=by omega);(rcases hx with hx|hx|hx<;>simp only [hx]))|(refine ua1 (by rfl) (fun ix h0 h1=> ?_);(have h2:ix.den<4:=h1);(have hx:ix.den.toNat=0∨ix.den.toNat=1∨ix.den.toNat=2∨ix.den.toNat=3:=by omega);(rcases hx with hx|hx|hx|hx<;>simp only [hx]))|(refine ua1 (by rfl) (fun ix h0 h1=> ?_);(have h2:ix.den<1:=h1);(have hx:ix.den.toNat=0:=by omega);(rcases hx with hx<;>simp only [hx]))|(refine ua1 (by rfl) (fun ix h0 h1=> ?_);(have h2:ix.den<5:=h1);(have hx:ix.den.toNat=0∨ix.den.toNat=1∨ix.den.toNat=2∨ix.den.toNat=3∨ix.den.toNat=4:=by omega);(rcases hx with hx|hx|hx|hx|hx<;>simp only [hx]))))),rfl⟩
theorem usP :ua0 Try.prog 61 [(.sl 2 (.sym fun _=>zi ((xB.getD 0 [])).length) (fun ix=>[(iv fun _=>(((xB.getD 0 [])).getD ix.den.toNat (0,0)).1),(iv fun _=>(((xB.getD 0 [])).getD ix.den.toNat (0,0)).2)])),(.sl 2 (.sym fun _=>zi ((xB.getD 0 [])).length) (fun ix=>[(iv fun _=>(((xB.getD 0 [])).getD ix.den.toNat (0,0)).1),(iv fun _=>(((xB.getD 0 [])).getD ix.den.toNat (0,0)).2)]))] [] (fun r _=>r=(.bool (.lit true))):=
 (ujw ((xB.getD 0 [])).length ((xB.getD 0 [])).length (fun n=>(((xB.getD 0 [])).getD n (0,0)).1) (fun n=>(((xB.getD 0 [])).getD n (0,0)).2) (fun n=>(((xB.getD 0 [])).getD n (0,0)).1) (fun n=>(((xB.getD 0 [])).getD n (0,0)).2) (by decide) (by decide)).post fun r bs h=>⟨_,by subst h;(repeat' (first|exact qA|exact qB|refine qC ?_ rfl ?_|refine qD ?_ ?_|exact qE (by rfl)|exact qF (by rfl)|exact qE (by kernel_rfl)|exact qF (by kernel_rfl)|exact Fit.refl _|(exact qP (by rfl))|(first|(refine ua1 (by rfl) (fun ix h0 h1=> ?_);(have h2:ix.den<2:=h1);(have hx:ix.den.toNat=0∨ix.den.toNat=1:=by omega);(rcases hx with hx|hx<;>simp only [hx]))|(refine ua1 (by rfl) (fun ix h0 h1=> ?_);(have h2:ix.den<3:=h1);(have hx:ix.den.toNat=0∨ix.den.toNat=1∨ix.den.toNat=2:=by omega);(rcases hx with hx|hx|hx<;>simp only [hx]))|(refine ua1 (by rfl) (fun ix h0 h1=> ?_);(have h2:ix.den<4:=h1);(have hx:ix.den.toNat=0∨ix.den.toNat=1∨ix.den.toNat=2∨ix.den.toNat=3:=by omega);(rcases hx with hx|hx|hx|hx<;>simp only [hx]))|(refine ua1 (by rfl) (fun ix h0 h1=> ?_);(have h2:ix.den<1:=h1);(have hx:ix.den.toNat=0:=by omega);(rcases hx with hx<;>simp only [hx]))|(refine ua1 (by rfl) (fun ix h0 h1=> ?_);(have h2:ix.den<5:=h1);(have hx:ix.den.toNat=0∨ix.den.toNat=1∨ix.den.toNat=2∨ix.den.toNat=3∨ix.den.toNat=4:=by omega);(rcases hx with hx|hx|hx|hx|hx<;>simp only [hx]))))),rfl⟩
theorem ut2 :ua0 Try.prog 61 [(.sl 2 (.sym fun _=>zi ((xB.getD 1 [])).length) (fun ix=>[(iv fun _=>(((xB.getD 1 [])).getD ix.den.toNat (0,0)).1),(iv fun _=>(((xB.getD 1 [])).getD ix.den.toNat (0,0)).2)])),(.sl 2 (.sym fun _=>zi ((xB.getD 1 [])).length) (fun ix=>[(iv fun _=>(((xB.getD 1 [])).getD ix.den.toNat (0,0)).1),(iv fun _=>(((xB.getD 1 [])).getD ix.den.toNat (0,0)).2)]))] [] (fun r _=>r=(.bool (.lit true))):=
 (ujw ((xB.getD 1 [])).length ((xB.getD 1 [])).length (fun n=>(((xB.getD 1 [])).getD n (0,0)).1) (fun n=>(((xB.getD 1 [])).getD n (0,0)).2) (fun n=>(((xB.getD 1 [])).getD n (0,0)).1) (fun n=>(((xB.getD 1 [])).getD n (0,0)).2) (by decide) (by decide)).post fun r bs h=>⟨_,by subst h;(repeat' (first|exact qA|exact qB|refine qC ?_ rfl ?_|refine qD ?_ ?_|exact qE (by rfl)|exact qF (by rfl)|exact qE (by kernel_rfl)|exact qF (by kernel_rfl)|exact Fit.refl _|(exact qP (by rfl))|(first|(refine ua1 (by rfl) (fun ix h0 h1=> ?_);(have h2:ix.den<2:=h1);(have hx:ix.den.toNat=0∨ix.den.toNat=1:=by omega);(rcases hx with hx|hx<;>simp only [hx]))|(refine ua1 (by rfl) (fun ix h0 h1=> ?_);(have h2:ix.den<3:=h1);(have hx:ix.den.toNat=0∨ix.den.toNat=1∨ix.den.toNat=2:=by omega);(rcases hx with hx|hx|hx<;>simp only [hx]))|(refine ua1 (by rfl) (fun ix h0 h1=> ?_);(have h2:ix.den<4:=h1);(have hx:ix.den.toNat=0∨ix.den.toNat=1∨ix.den.toNat=2∨ix.den.toNat=3:=by omega);(rcases hx with hx|hx|hx|hx<;>simp only [hx]))|(refine ua1 (by rfl) (fun ix h0 h1=> ?_);(have h2:ix.den<1:=h1);(have hx:ix.den.toNat=0:=by omega);(rcases hx with hx<;>simp only [hx]))|(refine ua1 (by rfl) (fun ix h0 h1=> ?_);(have h2:ix.den<5:=h1);(have hx:ix.den.toNat=0∨ix.den.toNat=1∨ix.den.toNat=2∨ix.den.toNat=3∨ix.den.toNat=4:=by omega);(rcases hx with hx|hx|hx|hx|hx<;>simp only [hx]))))),rfl⟩
theorem urN :ua0 Try.prog 61 [(.sl 2 (.sym fun _=>zi (xL).length) (fun ix=>[(iv fun _=>((xL).getD ix.den.toNat (0,0)).1),(iv fun _=>((xL).getD ix.den.toNat (0,0)).2)])),(.sl 2 (.sym fun _=>zi (xL).length) (fun ix=>[(iv fun _=>((xL).getD ix.den.toNat (0,0)).1),(iv fun _=>((xL).getD ix.den.toNat (0,0)).2)]))] [] (fun r _=>r=(.bool (.lit true))):=
 (ujw (xL).length (xL).length (fun n=>((xL).getD n (0,0)).1) (fun n=>((xL).getD n (0,0)).2) (fun n=>((xL).getD n (0,0)).1) (fun n=>((xL).getD n (0,0)).2) (by decide) (by decide)).post fun r bs h=>⟨_,by subst h;(repeat' (first|exact qA|exact qB|refine qC ?_ rfl ?_|refine qD ?_ ?_|exact qE (by rfl)|exact qF (by rfl)|exact qE (by kernel_rfl)|exact qF (by kernel_rfl)|exact Fit.refl _|(exact qP (by rfl))|(first|(refine ua1 (by rfl) (fun ix h0 h1=> ?_);(have h2:ix.den<2:=h1);(have hx:ix.den.toNat=0∨ix.den.toNat=1:=by omega);(rcases hx with hx|hx<;>simp only [hx]))|(refine ua1 (by rfl) (fun ix h0 h1=> ?_);(have h2:ix.den<3:=h1);(have hx:ix.den.toNat=0∨ix.den.toNat=1∨ix.den.toNat=2:=by omega);(rcases hx with hx|hx|hx<;>simp only [hx]))|(refine ua1 (by rfl) (fun ix h0 h1=> ?_);(have h2:ix.den<4:=h1);(have hx:ix.den.toNat=0∨ix.den.toNat=1∨ix.den.toNat=2∨ix.den.toNat=3:=by omega);(rcases hx with hx|hx|hx|hx<;>simp only [hx]))|(refine ua1 (by rfl) (fun ix h0 h1=> ?_);(have h2:ix.den<1:=h1);(have hx:ix.den.toNat=0:=by omega);(rcases hx with hx<;>simp only [hx]))|(refine ua1 (by rfl) (fun ix h0 h1=> ?_);(have h2:ix.den<5:=h1);(have hx:ix.den.toNat=0∨ix.den.toNat=1∨ix.den.toNat=2∨ix.den.toNat=3∨ix.den.toNat=4:=by omega);(rcases hx with hx|hx|hx|hx|hx<;>simp only [hx]))))),rfl⟩
end Go.Proofs.Ytpkgnhcfmpbidaa

namespace Go.Proofs.Ytpkgnhcfmpbidaa
open Go Go.Eng Go.Proofs Go.Eng.Ck Go.Eng.Few
set_option maxRecDepth 10000
def uxH :SC:=[(4,[qa 5 []]),(10,[qb 0 [],qb 1 [0],⟨2,true,[0,1],true,0,none⟩,qb 3 [0,1,2],qb 4 (qr 4),qb 5 (qr 5),⟨6,true,(qr 6),true,0,none⟩,qb 7 (qr 7),qb 8 (qr 8),qb 9 (qr 9),⟨10,true,(qr 10),true,0,none⟩,qb 11 (qr 11),qb 12 (qr 12),qb 13 (qr 13),⟨14,true,(qr 14),true,0,none⟩,qb 15 (qr 15),qb 16 (qr 16),qb 17 (qr 17),⟨18,true,(qr 18),true,0,none⟩,qa 19 (qr 19),qa 20 (qr 19),qb 21 (qr 21),qb 22 (qr 22),⟨23,true,(qr 23),true,0,none⟩,qb 24 (qr 24),qb 25 (qr 25),qb 26 (qr 26),⟨27,true,(qr 27),true,0,none⟩,qb 28 (qr 28),qb 29 (qr 29),qb 30 (qr 30),qb 31 (qr 31),⟨32,true,(qr 32),true,0,none⟩,qa 33 (qr 33),qa 34 (qr 34),qa 35 (qr 35),qa 36 (qr 33),qb 37 (qr 37),qb 38 (qr 38),⟨39,true,(qr 39),true,0,none⟩,qa 40 (qr 40),qa 41 (qr 41),qa 42 (qr 42),qa 43 (qr 40),qb 44 (qr 44),qb 45 (qr 45),⟨46,true,(qr 46),true,0,none⟩,qb 47 (qr 47),qb 48 (qr 48),qb 49 (qr 49),⟨50,true,(qr 50),true,0,none⟩,qb 51 (qr 51),qb 52 (qr 52),qb 53 (qr 53),qb 54 (qr 54),⟨55,true,(qr 55),true,0,none⟩,qa 56 (qr 56),qa 57 (qr 57),qa 58 (qr 58),qa 59 (qr 56),qa 60 (qs 0 56++qs 59 1),qa 61 (qs 0 56++qs 59 2),qb 62 (qr 62),qb 63 (qr 63),⟨64,true,(qr 64),true,0,none⟩,qa 65 (qr 65),qa 66 (qr 66),qa 67 (qr 67),qa 68 (qr 65),qa 69 (qs 0 65++qs 68 1),qa 70 (qs 0 65++qs 68 2),qb 71 (qr 71),qb 72 (qr 72),⟨73,true,(qr 73),true,0,none⟩,qb 74 (qr 74),qb 75 (qr 75),qb 76 (qr 76),⟨77,true,(qr 77),true,0,none⟩,qa 78 (qr 78),qa 79 (qr 78),qa 80 (qs 0 78++qs 79 1),qa 81 (qs 0 78++qs 79 2),qb 82 (qr 82),qb 83 (qr 83),⟨84,true,(qr 84),true,0,none⟩,qb 85 (qr 85),qb 86 (qr 86),qb 87 (qr 87),⟨88,true,(qr 88),true,0,none⟩,qb 89 (qr 89),qb 90 (qr 90),qb 91 (qr 91),qb 92 (qr 92),⟨93,true,(qr 93),true,0,none⟩,qa 94 (qr 94),qa 95 (qr 94),qb 96 (qr 96),qb 97 (qr 97),⟨98,true,(qr 98),true,0,none⟩,qb 99 (qr 99),qb 100 (qr 100),qb 101 (qr 101),⟨102,true,(qr 102),true,0,none⟩,qb 103 (qr 103),qb 104 (qr 104),qb 105 (qr 105),⟨106,true,(qr 106),true,0,none⟩,qb 107 (qr 107),qb 108 (qr 108),qb 109 (qr 109),⟨110,true,(qr 110),true,0,none⟩,qa 111 (qr 111),qa 112 (qr 111),qb 113 (qr 113),qb 114 (qr 114),qb 115 (qr 115)])]
set_option maxHeartbeats 4000000 in
theorem uya (n1 n2 n3 n4 n5 n6:IX)(E1 E2 E3 E4 E5 E6:IX→List SV)(ktwo57:ua0 Try.prog 57 [.val (Value.slice none 0 0)] [] (fun r _=>r=(.agg [.sl 5 n1 E1,.sl 4 n2 E2,.sl 5 n3 E3])))(ktwo57b:ua0 Try.prog 57 [.ows 0 0 1 1 5] [.cells [(.int .i64 (.lit (0))),(.int .i64 (.lit (1))),(.int .i64 (.lit (10))),(.int .i64 (.lit (10))),(.bool (.lit false))] 111] (fun r bs=>r=(.agg [.sl 5 n4 E4,.sl 4 n5 E5,.sl 5 n6 E6])∧bs=[.cells [(.int .i64 (.lit (0))),(.int .i64 (.lit (1))),(.int .i64 (.lit (10))),(.int .i64 (.lit (10))),(.bool (.lit false))] 111]))(klow58:ua0 Try.prog 58 [] [] (fun r _=>r=(.agg [(.int .i64 (.lit (0))),(.int .i64 (.lit (1))),(.int .i64 (.lit (10))),(.int .i64 (.lit (10))),(.bool (.lit false))])))(kcont3:ua0 Try.prog 17 [(.agg [.sl 5 n1 E1,.sl 4 n2 E2,.sl 5 n3 E3]),(iv fun _=>0),(iv fun _=>17)] [] (fun r _=>r=(.tup [(.int .i64 (.lit (156))),(.int .i64 (.lit (0)))])))(kdip3:ua0 Try.prog 19 [(.agg [.sl 5 n1 E1,.sl 4 n2 E2,.sl 5 n3 E3]),(iv fun _=>0),(iv fun _=>155)] [] (fun r _=>r=(.tup [(.int .i64 (.lit (16))),(.int .i64 (.lit (0)))])))(kmean3:ua0 Try.prog 20 [(.agg [.sl 5 n1 E1,.sl 4 n2 E2,.sl 5 n3 E3]),(iv fun _=>1)] [] (fun r _=>r=(.tup [(.agg [(.int .i64 (.lit (40))),(.int .i64 (.lit (40)))]),(.int .i64 (.lit (0)))])))(kplay3:ua0 Try.prog 45 [(.agg [.sl 5 n1 E1,.sl 4 n2 E2,.sl 5 n3 E3]),(.agg [(iS ([150,0])),(iS ([1,0])),(iS ([40]))])] [] (fun r _=>r=(.tup [(.sl 1 (.sym fun _=>zi ([[150,109],[0,40]]).length) (fun ix=>[(.sl 1 (.sym fun _=>zi (([[150,109],[0,40]]).getD ix.den.toNat []).length) (fun jx=>[(iv fun _=>(([[150,109],[0,40]]).getD ix.den.toNat []).getD jx.den.toNat 0)]))])),(.int .i64 (.lit (0)))])))(kbounds3:ua0 Try.prog 30 [(.agg [.sl 5 n1 E1,.sl 4 n2 E2,.sl 5 n3 E3])] [] (fun r _=>r=(.tup [(.sl 1 (.sym fun _=>zi (xB).length) (fun ix=>[(.sl 2 (.sym fun _=>zi ((xB).getD ix.den.toNat []).length) (fun jx=>[(iv fun _=>(((xB).getD ix.den.toNat []).getD jx.den.toNat (0,0)).1),(iv fun _=>(((xB).getD ix.den.toNat []).getD jx.den.toNat (0,0)).2)]))])),(.int .i64 (.lit (0)))])))(kleak3:ua0 Try.prog 31 [(.agg [.sl 5 n1 E1,.sl 4 n2 E2,.sl 5 n3 E3])] [] (fun r _=>r=(.tup [(.sl 2 (.sym fun _=>zi (xL).length) (fun ix=>[(iv fun _=>((xL).getD ix.den.toNat (0,0)).1),(iv fun _=>((xL).getD ix.den.toNat (0,0)).2)])),(.int .i64 (.lit (0)))])))(kover3:ua0 Try.prog 32 [(.agg [.sl 5 n1 E1,.sl 4 n2 E2,.sl 5 n3 E3]),(iv fun _=>0)] [] (fun r _=>r=(.tup [(iS (([]:List Int))),(iS ([0])),(.int .i64 (.lit (0)))])))(kfirst3:ua0 Try.prog 52 [(.agg [.sl 5 n4 E4,.sl 4 n5 E5,.sl 5 n6 E6])] [] (fun r _=>r=(.tup [(.int .i64 (.lit (2))),(.int .i64 (.lit (0)))])))(kleave3:ua0 Try.prog 40 [(.agg [.sl 5 n4 E4,.sl 4 n5 E5,.sl 5 n6 E6])] [] (fun r _=>r=(.tup [(iS ([2])),(.int .i64 (.lit (0)))]))):ua0 Try.prog 16 [] [] (fun r _=>r=(.bool (.lit true))):=by
 have kints3a:=uun
 have kints3b:=uuB
 have kints3c:=uv5
 have kints3d:=utL
 have kspans3a:=usP
 have kspans3b:=ut2
 have kspans3c:=urN
 have c39:= @uf7
 have h39:=ud4
 refine ua0.is fun R hR=>qY (sc:=uxH) uas mix Try.func16 rfl Try.call16 (by kernel_rfl) (by kernel_rfl) ?_
 generalize Try.prog=P at ktwo57 ktwo57b klow58 kcont3 kdip3 kmean3 kplay3 kbounds3 kleak3 kover3 kfirst3 kleave3 kints3a kints3b kints3c kints3d kspans3a kspans3b kspans3c c39 h39⊢
 cbv
 repeat' (first
  |with_reducible refine ua3 ?_ ?_
  |with_reducible refine And.intro ?_ ?_
  |(with_reducible intro hcd;(try simp only [zA,zB,zC,zD,zE,zF,zG,zH,zI,zJ,zK,zL,zM,zN,zO,zP]at hcd);try cbv)
  |(refine uaj ?_ (c39 _ _);try cbv)
  | (refine Exists.intro (α:=List Nat) [24,25,26] ?_
     cbv
     fail_if_success (show False))
  |(refine qQ ?_ (ktwo57) ?hfit;(case hfit=>((repeat' (first|exact qA|exact qB|refine qC ?_ rfl ?_|refine qD ?_ ?_|exact qE (by rfl)|exact qF (by rfl)|exact Fit.refl _|(exact qP (by rfl))|(first|(refine ua1 (by rfl) (fun ix h0 h1=> ?_);(have h2:ix.den<2:=h1);(have hx:ix.den.toNat=0∨ix.den.toNat=1:=by omega);(rcases hx with hx|hx<;>simp only [hx]))|(refine ua1 (by rfl) (fun ix h0 h1=> ?_);(have h2:ix.den<3:=h1);(have hx:ix.den.toNat=0∨ix.den.toNat=1∨ix.den.toNat=2:=by omega);(rcases hx with hx|hx|hx<;>simp only [hx]))|(refine ua1 (by rfl) (fun ix h0 h1=> ?_);(have h2:ix.den<4:=h1);(have hx:ix.den.toNat=0∨ix.den.toNat=1∨ix.den.toNat=2∨ix.den.toNat=3:=by omega);(rcases hx with hx|hx|hx|hx<;>simp only [hx]))|(refine ua1 (by rfl) (fun ix h0 h1=> ?_);(have h2:ix.den<1:=h1);(have hx:ix.den.toNat=0:=by omega);(rcases hx with hx<;>simp only [hx]))|(refine ua1 (by rfl) (fun ix h0 h1=> ?_);(have h2:ix.den<5:=h1);(have hx:ix.den.toNat=0∨ix.den.toNat=1∨ix.den.toNat=2∨ix.den.toNat=3∨ix.den.toNat=4:=by omega);(rcases hx with hx|hx|hx|hx|hx<;>simp only [hx])))));done));try cbv)
  |(refine qQ ?_ (klow58) ?hfit;(case hfit=>((repeat' (first|exact qA|exact qB|refine qC ?_ rfl ?_|refine qD ?_ ?_|exact qE (by rfl)|exact qF (by rfl)|exact Fit.refl _|(exact qP (by rfl))|(first|(refine ua1 (by rfl) (fun ix h0 h1=> ?_);(have h2:ix.den<2:=h1);(have hx:ix.den.toNat=0∨ix.den.toNat=1:=by omega);(rcases hx with hx|hx<;>simp only [hx]))|(refine ua1 (by rfl) (fun ix h0 h1=> ?_);(have h2:ix.den<3:=h1);(have hx:ix.den.toNat=0∨ix.den.toNat=1∨ix.den.toNat=2:=by omega);(rcases hx with hx|hx|hx<;>simp only [hx]))|(refine ua1 (by rfl) (fun ix h0 h1=> ?_);(have h2:ix.den<4:=h1);(have hx:ix.den.toNat=0∨ix.den.toNat=1∨ix.den.toNat=2∨ix.den.toNat=3:=by omega);(rcases hx with hx|hx|hx|hx<;>simp only [hx]))|(refine ua1 (by rfl) (fun ix h0 h1=> ?_);(have h2:ix.den<1:=h1);(have hx:ix.den.toNat=0:=by omega);(rcases hx with hx<;>simp only [hx]))|(refine ua1 (by rfl) (fun ix h0 h1=> ?_);(have h2:ix.den<5:=h1);(have hx:ix.den.toNat=0∨ix.den.toNat=1∨ix.den.toNat=2∨ix.den.toNat=3∨ix.den.toNat=4:=by omega);(rcases hx with hx|hx|hx|hx|hx<;>simp only [hx])))));done));try cbv)
  | (refine⟨some [58],?_⟩
     cbv
     refine qR ?_ (ktwo57b) ?hfit ?hbo
     case hfit=>(cbv;(repeat' (first|exact qA|exact qB|refine qC ?_ rfl ?_|refine qD ?_ ?_|exact qE (by rfl)|exact qF (by rfl)|exact Fit.refl _|(exact qP (by rfl))|(first|(refine ua1 (by rfl) (fun ix h0 h1=> ?_);(have h2:ix.den<2:=h1);(have hx:ix.den.toNat=0∨ix.den.toNat=1:=by omega);(rcases hx with hx|hx<;>simp only [hx]))|(refine ua1 (by rfl) (fun ix h0 h1=> ?_);(have h2:ix.den<3:=h1);(have hx:ix.den.toNat=0∨ix.den.toNat=1∨ix.den.toNat=2:=by omega);(rcases hx with hx|hx|hx<;>simp only [hx]))|(refine ua1 (by rfl) (fun ix h0 h1=> ?_);(have h2:ix.den<4:=h1);(have hx:ix.den.toNat=0∨ix.den.toNat=1∨ix.den.toNat=2∨ix.den.toNat=3:=by omega);(rcases hx with hx|hx|hx|hx<;>simp only [hx]))|(refine ua1 (by rfl) (fun ix h0 h1=> ?_);(have h2:ix.den<1:=h1);(have hx:ix.den.toNat=0:=by omega);(rcases hx with hx<;>simp only [hx]))|(refine ua1 (by rfl) (fun ix h0 h1=> ?_);(have h2:ix.den<5:=h1);(have hx:ix.den.toNat=0∨ix.den.toNat=1∨ix.den.toNat=2∨ix.den.toNat=3∨ix.den.toNat=4:=by omega);(rcases hx with hx|hx|hx|hx|hx<;>simp only [hx])))));done)
     case hbo=>(cbv;(repeat' (first|exact qH|refine qI ?_ ?_|exact qK _|refine qJ ?_|exact qA|exact qE (by rfl)|exact qF (by rfl)|exact Fit.refl _|exact qG _|refine qC ?_ rfl ?_));done)
     try cbv)
  | (refine⟨some [67],?_⟩
     cbv
     refine qR ?_ (ktwo57b) ?hfit ?hbo
     case hfit=>(cbv;(repeat' (first|exact qA|exact qB|refine qC ?_ rfl ?_|refine qD ?_ ?_|exact qE (by rfl)|exact qF (by rfl)|exact Fit.refl _|(exact qP (by rfl))|(first|(refine ua1 (by rfl) (fun ix h0 h1=> ?_);(have h2:ix.den<2:=h1);(have hx:ix.den.toNat=0∨ix.den.toNat=1:=by omega);(rcases hx with hx|hx<;>simp only [hx]))|(refine ua1 (by rfl) (fun ix h0 h1=> ?_);(have h2:ix.den<3:=h1);(have hx:ix.den.toNat=0∨ix.den.toNat=1∨ix.den.toNat=2:=by omega);(rcases hx with hx|hx|hx<;>simp only [hx]))|(refine ua1 (by rfl) (fun ix h0 h1=> ?_);(have h2:ix.den<4:=h1);(have hx:ix.den.toNat=0∨ix.den.toNat=1∨ix.den.toNat=2∨ix.den.toNat=3:=by omega);(rcases hx with hx|hx|hx|hx<;>simp only [hx]))|(refine ua1 (by rfl) (fun ix h0 h1=> ?_);(have h2:ix.den<1:=h1);(have hx:ix.den.toNat=0:=by omega);(rcases hx with hx<;>simp only [hx]))|(refine ua1 (by rfl) (fun ix h0 h1=> ?_);(have h2:ix.den<5:=h1);(have hx:ix.den.toNat=0∨ix.den.toNat=1∨ix.den.toNat=2∨ix.den.toNat=3∨ix.den.toNat=4:=by omega);(rcases hx with hx|hx|hx|hx|hx<;>simp only [hx])))));done)
     case hbo=>(cbv;(repeat' (first|exact qH|refine qI ?_ ?_|exact qK _|refine qJ ?_|exact qA|exact qE (by rfl)|exact qF (by rfl)|exact Fit.refl _|exact qG _|refine qC ?_ rfl ?_));done)
     try cbv)
  |(refine qQ ?_ (kcont3) ?hfit;(case hfit=>((repeat' (first|exact qA|exact qB|refine qC ?_ rfl ?_|refine qD ?_ ?_|exact qE (by rfl)|exact qF (by rfl)|exact Fit.refl _|(exact qP (by rfl))|(first|(refine ua1 (by rfl) (fun ix h0 h1=> ?_);(have h2:ix.den<2:=h1);(have hx:ix.den.toNat=0∨ix.den.toNat=1:=by omega);(rcases hx with hx|hx<;>simp only [hx]))|(refine ua1 (by rfl) (fun ix h0 h1=> ?_);(have h2:ix.den<3:=h1);(have hx:ix.den.toNat=0∨ix.den.toNat=1∨ix.den.toNat=2:=by omega);(rcases hx with hx|hx|hx<;>simp only [hx]))|(refine ua1 (by rfl) (fun ix h0 h1=> ?_);(have h2:ix.den<4:=h1);(have hx:ix.den.toNat=0∨ix.den.toNat=1∨ix.den.toNat=2∨ix.den.toNat=3:=by omega);(rcases hx with hx|hx|hx|hx<;>simp only [hx]))|(refine ua1 (by rfl) (fun ix h0 h1=> ?_);(have h2:ix.den<1:=h1);(have hx:ix.den.toNat=0:=by omega);(rcases hx with hx<;>simp only [hx]))|(refine ua1 (by rfl) (fun ix h0 h1=> ?_);(have h2:ix.den<5:=h1);(have hx:ix.den.toNat=0∨ix.den.toNat=1∨ix.den.toNat=2∨ix.den.toNat=3∨ix.den.toNat=4:=by omega);(rcases hx with hx|hx|hx|hx|hx<;>simp only [hx])))));done));try cbv)
  |(refine qQ ?_ (kdip3) ?hfit;(case hfit=>((repeat' (first|exact qA|exact qB|refine qC ?_ rfl ?_|refine qD ?_ ?_|exact qE (by rfl)|exact qF (by rfl)|exact Fit.refl _|(exact qP (by rfl))|(first|(refine ua1 (by rfl) (fun ix h0 h1=> ?_);(have h2:ix.den<2:=h1);(have hx:ix.den.toNat=0∨ix.den.toNat=1:=by omega);(rcases hx with hx|hx<;>simp only [hx]))|(refine ua1 (by rfl) (fun ix h0 h1=> ?_);(have h2:ix.den<3:=h1);(have hx:ix.den.toNat=0∨ix.den.toNat=1∨ix.den.toNat=2:=by omega);(rcases hx with hx|hx|hx<;>simp only [hx]))|(refine ua1 (by rfl) (fun ix h0 h1=> ?_);(have h2:ix.den<4:=h1);(have hx:ix.den.toNat=0∨ix.den.toNat=1∨ix.den.toNat=2∨ix.den.toNat=3:=by omega);(rcases hx with hx|hx|hx|hx<;>simp only [hx]))|(refine ua1 (by rfl) (fun ix h0 h1=> ?_);(have h2:ix.den<1:=h1);(have hx:ix.den.toNat=0:=by omega);(rcases hx with hx<;>simp only [hx]))|(refine ua1 (by rfl) (fun ix h0 h1=> ?_);(have h2:ix.den<5:=h1);(have hx:ix.den.toNat=0∨ix.den.toNat=1∨ix.den.toNat=2∨ix.den.toNat=3∨ix.den.toNat=4:=by omega);(rcases hx with hx|hx|hx|hx|hx<;>simp only [hx])))));done));try cbv)
  |(refine qQ ?_ (kmean3) ?hfit;(case hfit=>((repeat' (first|exact qA|exact qB|refine qC ?_ rfl ?_|refine qD ?_ ?_|exact qE (by rfl)|exact qF (by rfl)|exact Fit.refl _|(exact qP (by rfl))|(first|(refine ua1 (by rfl) (fun ix h0 h1=> ?_);(have h2:ix.den<2:=h1);(have hx:ix.den.toNat=0∨ix.den.toNat=1:=by omega);(rcases hx with hx|hx<;>simp only [hx]))|(refine ua1 (by rfl) (fun ix h0 h1=> ?_);(have h2:ix.den<3:=h1);(have hx:ix.den.toNat=0∨ix.den.toNat=1∨ix.den.toNat=2:=by omega);(rcases hx with hx|hx|hx<;>simp only [hx]))|(refine ua1 (by rfl) (fun ix h0 h1=> ?_);(have h2:ix.den<4:=h1);(have hx:ix.den.toNat=0∨ix.den.toNat=1∨ix.den.toNat=2∨ix.den.toNat=3:=by omega);(rcases hx with hx|hx|hx|hx<;>simp only [hx]))|(refine ua1 (by rfl) (fun ix h0 h1=> ?_);(have h2:ix.den<1:=h1);(have hx:ix.den.toNat=0:=by omega);(rcases hx with hx<;>simp only [hx]))|(refine ua1 (by rfl) (fun ix h0 h1=> ?_);(have h2:ix.den<5:=h1);(have hx:ix.den.toNat=0∨ix.den.toNat=1∨ix.den.toNat=2∨ix.den.toNat=3∨ix.den.toNat=4:=by omega);(rcases hx with hx|hx|hx|hx|hx<;>simp only [hx])))));done));try cbv)
  |(refine qQ ?_ (kplay3) ?hfit;(case hfit=>((repeat' (first|exact qA|exact qB|refine qC ?_ rfl ?_|refine qD ?_ ?_|exact qE (by rfl)|exact qF (by rfl)|exact Fit.refl _|(exact qP (by rfl))|(first|(refine ua1 (by rfl) (fun ix h0 h1=> ?_);(have h2:ix.den<2:=h1);(have hx:ix.den.toNat=0∨ix.den.toNat=1:=by omega);(rcases hx with hx|hx<;>simp only [hx]))|(refine ua1 (by rfl) (fun ix h0 h1=> ?_);(have h2:ix.den<3:=h1);(have hx:ix.den.toNat=0∨ix.den.toNat=1∨ix.den.toNat=2:=by omega);(rcases hx with hx|hx|hx<;>simp only [hx]))|(refine ua1 (by rfl) (fun ix h0 h1=> ?_);(have h2:ix.den<4:=h1);(have hx:ix.den.toNat=0∨ix.den.toNat=1∨ix.den.toNat=2∨ix.den.toNat=3:=by omega);(rcases hx with hx|hx|hx|hx<;>simp only [hx]))|(refine ua1 (by rfl) (fun ix h0 h1=> ?_);(have h2:ix.den<1:=h1);(have hx:ix.den.toNat=0:=by omega);(rcases hx with hx<;>simp only [hx]))|(refine ua1 (by rfl) (fun ix h0 h1=> ?_);(have h2:ix.den<5:=h1);(have hx:ix.den.toNat=0∨ix.den.toNat=1∨ix.den.toNat=2∨ix.den.toNat=3∨ix.den.toNat=4:=by omega);(rcases hx with hx|hx|hx|hx|hx<;>simp only [hx])))));done));try cbv)
  |(refine qQ ?_ (kbounds3) ?hfit;(case hfit=>((repeat' (first|exact qA|exact qB|refine qC ?_ rfl ?_|refine qD ?_ ?_|exact qE (by rfl)|exact qF (by rfl)|exact Fit.refl _|(exact qP (by rfl))|(first|(refine ua1 (by rfl) (fun ix h0 h1=> ?_);(have h2:ix.den<2:=h1);(have hx:ix.den.toNat=0∨ix.den.toNat=1:=by omega);(rcases hx with hx|hx<;>simp only [hx]))|(refine ua1 (by rfl) (fun ix h0 h1=> ?_);(have h2:ix.den<3:=h1);(have hx:ix.den.toNat=0∨ix.den.toNat=1∨ix.den.toNat=2:=by omega);(rcases hx with hx|hx|hx<;>simp only [hx]))|(refine ua1 (by rfl) (fun ix h0 h1=> ?_);(have h2:ix.den<4:=h1);(have hx:ix.den.toNat=0∨ix.den.toNat=1∨ix.den.toNat=2∨ix.den.toNat=3:=by omega);(rcases hx with hx|hx|hx|hx<;>simp only [hx]))|(refine ua1 (by rfl) (fun ix h0 h1=> ?_);(have h2:ix.den<1:=h1);(have hx:ix.den.toNat=0:=by omega);(rcases hx with hx<;>simp only [hx]))|(refine ua1 (by rfl) (fun ix h0 h1=> ?_);(have h2:ix.den<5:=h1);(have hx:ix.den.toNat=0∨ix.den.toNat=1∨ix.den.toNat=2∨ix.den.toNat=3∨ix.den.toNat=4:=by omega);(rcases hx with hx|hx|hx|hx|hx<;>simp only [hx])))));done));try cbv)
  |(refine qQ ?_ (kleak3) ?hfit;(case hfit=>((repeat' (first|exact qA|exact qB|refine qC ?_ rfl ?_|refine qD ?_ ?_|exact qE (by rfl)|exact qF (by rfl)|exact Fit.refl _|(exact qP (by rfl))|(first|(refine ua1 (by rfl) (fun ix h0 h1=> ?_);(have h2:ix.den<2:=h1);(have hx:ix.den.toNat=0∨ix.den.toNat=1:=by omega);(rcases hx with hx|hx<;>simp only [hx]))|(refine ua1 (by rfl) (fun ix h0 h1=> ?_);(have h2:ix.den<3:=h1);(have hx:ix.den.toNat=0∨ix.den.toNat=1∨ix.den.toNat=2:=by omega);(rcases hx with hx|hx|hx<;>simp only [hx]))|(refine ua1 (by rfl) (fun ix h0 h1=> ?_);(have h2:ix.den<4:=h1);(have hx:ix.den.toNat=0∨ix.den.toNat=1∨ix.den.toNat=2∨ix.den.toNat=3:=by omega);(rcases hx with hx|hx|hx|hx<;>simp only [hx]))|(refine ua1 (by rfl) (fun ix h0 h1=> ?_);(have h2:ix.den<1:=h1);(have hx:ix.den.toNat=0:=by omega);(rcases hx with hx<;>simp only [hx]))|(refine ua1 (by rfl) (fun ix h0 h1=> ?_);(have h2:ix.den<5:=h1);(have hx:ix.den.toNat=0∨ix.den.toNat=1∨ix.den.toNat=2∨ix.den.toNat=3∨ix.den.toNat=4:=by omega);(rcases hx with hx|hx|hx|hx|hx<;>simp only [hx])))));done));try cbv)
  |(refine qQ ?_ (kover3) ?hfit;(case hfit=>((repeat' (first|exact qA|exact qB|refine qC ?_ rfl ?_|refine qD ?_ ?_|exact qE (by rfl)|exact qF (by rfl)|exact Fit.refl _|(exact qP (by rfl))|(first|(refine ua1 (by rfl) (fun ix h0 h1=> ?_);(have h2:ix.den<2:=h1);(have hx:ix.den.toNat=0∨ix.den.toNat=1:=by omega);(rcases hx with hx|hx<;>simp only [hx]))|(refine ua1 (by rfl) (fun ix h0 h1=> ?_);(have h2:ix.den<3:=h1);(have hx:ix.den.toNat=0∨ix.den.toNat=1∨ix.den.toNat=2:=by omega);(rcases hx with hx|hx|hx<;>simp only [hx]))|(refine ua1 (by rfl) (fun ix h0 h1=> ?_);(have h2:ix.den<4:=h1);(have hx:ix.den.toNat=0∨ix.den.toNat=1∨ix.den.toNat=2∨ix.den.toNat=3:=by omega);(rcases hx with hx|hx|hx|hx<;>simp only [hx]))|(refine ua1 (by rfl) (fun ix h0 h1=> ?_);(have h2:ix.den<1:=h1);(have hx:ix.den.toNat=0:=by omega);(rcases hx with hx<;>simp only [hx]))|(refine ua1 (by rfl) (fun ix h0 h1=> ?_);(have h2:ix.den<5:=h1);(have hx:ix.den.toNat=0∨ix.den.toNat=1∨ix.den.toNat=2∨ix.den.toNat=3∨ix.den.toNat=4:=by omega);(rcases hx with hx|hx|hx|hx|hx<;>simp only [hx])))));done));try cbv)
  |(refine qQ ?_ (kfirst3) ?hfit;(case hfit=>((repeat' (first|exact qA|exact qB|refine qC ?_ rfl ?_|refine qD ?_ ?_|exact qE (by rfl)|exact qF (by rfl)|exact Fit.refl _|(exact qP (by rfl))|(first|(refine ua1 (by rfl) (fun ix h0 h1=> ?_);(have h2:ix.den<2:=h1);(have hx:ix.den.toNat=0∨ix.den.toNat=1:=by omega);(rcases hx with hx|hx<;>simp only [hx]))|(refine ua1 (by rfl) (fun ix h0 h1=> ?_);(have h2:ix.den<3:=h1);(have hx:ix.den.toNat=0∨ix.den.toNat=1∨ix.den.toNat=2:=by omega);(rcases hx with hx|hx|hx<;>simp only [hx]))|(refine ua1 (by rfl) (fun ix h0 h1=> ?_);(have h2:ix.den<4:=h1);(have hx:ix.den.toNat=0∨ix.den.toNat=1∨ix.den.toNat=2∨ix.den.toNat=3:=by omega);(rcases hx with hx|hx|hx|hx<;>simp only [hx]))|(refine ua1 (by rfl) (fun ix h0 h1=> ?_);(have h2:ix.den<1:=h1);(have hx:ix.den.toNat=0:=by omega);(rcases hx with hx<;>simp only [hx]))|(refine ua1 (by rfl) (fun ix h0 h1=> ?_);(have h2:ix.den<5:=h1);(have hx:ix.den.toNat=0∨ix.den.toNat=1∨ix.den.toNat=2∨ix.den.toNat=3∨ix.den.toNat=4:=by omega);(rcases hx with hx|hx|hx|hx|hx<;>simp only [hx])))));done));try cbv)
  |(refine qQ ?_ (kleave3) ?hfit;(case hfit=>((repeat' (first|exact qA|exact qB|refine qC ?_ rfl ?_|refine qD ?_ ?_|exact qE (by rfl)|exact qF (by rfl)|exact Fit.refl _|(exact qP (by rfl))|(first|(refine ua1 (by rfl) (fun ix h0 h1=> ?_);(have h2:ix.den<2:=h1);(have hx:ix.den.toNat=0∨ix.den.toNat=1:=by omega);(rcases hx with hx|hx<;>simp only [hx]))|(refine ua1 (by rfl) (fun ix h0 h1=> ?_);(have h2:ix.den<3:=h1);(have hx:ix.den.toNat=0∨ix.den.toNat=1∨ix.den.toNat=2:=by omega);(rcases hx with hx|hx|hx<;>simp only [hx]))|(refine ua1 (by rfl) (fun ix h0 h1=> ?_);(have h2:ix.den<4:=h1);(have hx:ix.den.toNat=0∨ix.den.toNat=1∨ix.den.toNat=2∨ix.den.toNat=3:=by omega);(rcases hx with hx|hx|hx|hx<;>simp only [hx]))|(refine ua1 (by rfl) (fun ix h0 h1=> ?_);(have h2:ix.den<1:=h1);(have hx:ix.den.toNat=0:=by omega);(rcases hx with hx<;>simp only [hx]))|(refine ua1 (by rfl) (fun ix h0 h1=> ?_);(have h2:ix.den<5:=h1);(have hx:ix.den.toNat=0∨ix.den.toNat=1∨ix.den.toNat=2∨ix.den.toNat=3∨ix.den.toNat=4:=by omega);(rcases hx with hx|hx|hx|hx|hx<;>simp only [hx])))));done));try cbv)
  | (refine⟨none,?_⟩
     refine qS ?_ (kints3a) rfl ?hfit
     case hfit=>(cbv;(repeat' (first|exact qA|exact qB|refine qC ?_ rfl ?_|refine qD ?_ ?_|exact qE (by rfl)|exact qF (by rfl)|exact Fit.refl _|(exact qP (by rfl))|(first|(refine ua1 (by rfl) (fun ix h0 h1=> ?_);(have h2:ix.den<2:=h1);(have hx:ix.den.toNat=0∨ix.den.toNat=1:=by omega);(rcases hx with hx|hx<;>simp only [hx]))|(refine ua1 (by rfl) (fun ix h0 h1=> ?_);(have h2:ix.den<3:=h1);(have hx:ix.den.toNat=0∨ix.den.toNat=1∨ix.den.toNat=2:=by omega);(rcases hx with hx|hx|hx<;>simp only [hx]))|(refine ua1 (by rfl) (fun ix h0 h1=> ?_);(have h2:ix.den<4:=h1);(have hx:ix.den.toNat=0∨ix.den.toNat=1∨ix.den.toNat=2∨ix.den.toNat=3:=by omega);(rcases hx with hx|hx|hx|hx<;>simp only [hx]))|(refine ua1 (by rfl) (fun ix h0 h1=> ?_);(have h2:ix.den<1:=h1);(have hx:ix.den.toNat=0:=by omega);(rcases hx with hx<;>simp only [hx]))|(refine ua1 (by rfl) (fun ix h0 h1=> ?_);(have h2:ix.den<5:=h1);(have hx:ix.den.toNat=0∨ix.den.toNat=1∨ix.den.toNat=2∨ix.den.toNat=3∨ix.den.toNat=4:=by omega);(rcases hx with hx|hx|hx|hx|hx<;>simp only [hx])))));done)
     try cbv)
  | (refine⟨none,?_⟩
     refine qS ?_ (kints3b) rfl ?hfit
     case hfit=>(cbv;(repeat' (first|exact qA|exact qB|refine qC ?_ rfl ?_|refine qD ?_ ?_|exact qE (by rfl)|exact qF (by rfl)|exact Fit.refl _|(exact qP (by rfl))|(first|(refine ua1 (by rfl) (fun ix h0 h1=> ?_);(have h2:ix.den<2:=h1);(have hx:ix.den.toNat=0∨ix.den.toNat=1:=by omega);(rcases hx with hx|hx<;>simp only [hx]))|(refine ua1 (by rfl) (fun ix h0 h1=> ?_);(have h2:ix.den<3:=h1);(have hx:ix.den.toNat=0∨ix.den.toNat=1∨ix.den.toNat=2:=by omega);(rcases hx with hx|hx|hx<;>simp only [hx]))|(refine ua1 (by rfl) (fun ix h0 h1=> ?_);(have h2:ix.den<4:=h1);(have hx:ix.den.toNat=0∨ix.den.toNat=1∨ix.den.toNat=2∨ix.den.toNat=3:=by omega);(rcases hx with hx|hx|hx|hx<;>simp only [hx]))|(refine ua1 (by rfl) (fun ix h0 h1=> ?_);(have h2:ix.den<1:=h1);(have hx:ix.den.toNat=0:=by omega);(rcases hx with hx<;>simp only [hx]))|(refine ua1 (by rfl) (fun ix h0 h1=> ?_);(have h2:ix.den<5:=h1);(have hx:ix.den.toNat=0∨ix.den.toNat=1∨ix.den.toNat=2∨ix.den.toNat=3∨ix.den.toNat=4:=by omega);(rcases hx with hx|hx|hx|hx|hx<;>simp only [hx])))));done)
     try cbv)
  | (refine⟨none,?_⟩
     refine qS ?_ (kints3c) rfl ?hfit
     case hfit=>(cbv;(repeat' (first|exact qA|exact qB|refine qC ?_ rfl ?_|refine qD ?_ ?_|exact qE (by rfl)|exact qF (by rfl)|exact Fit.refl _|(exact qP (by rfl))|(first|(refine ua1 (by rfl) (fun ix h0 h1=> ?_);(have h2:ix.den<2:=h1);(have hx:ix.den.toNat=0∨ix.den.toNat=1:=by omega);(rcases hx with hx|hx<;>simp only [hx]))|(refine ua1 (by rfl) (fun ix h0 h1=> ?_);(have h2:ix.den<3:=h1);(have hx:ix.den.toNat=0∨ix.den.toNat=1∨ix.den.toNat=2:=by omega);(rcases hx with hx|hx|hx<;>simp only [hx]))|(refine ua1 (by rfl) (fun ix h0 h1=> ?_);(have h2:ix.den<4:=h1);(have hx:ix.den.toNat=0∨ix.den.toNat=1∨ix.den.toNat=2∨ix.den.toNat=3:=by omega);(rcases hx with hx|hx|hx|hx<;>simp only [hx]))|(refine ua1 (by rfl) (fun ix h0 h1=> ?_);(have h2:ix.den<1:=h1);(have hx:ix.den.toNat=0:=by omega);(rcases hx with hx<;>simp only [hx]))|(refine ua1 (by rfl) (fun ix h0 h1=> ?_);(have h2:ix.den<5:=h1);(have hx:ix.den.toNat=0∨ix.den.toNat=1∨ix.den.toNat=2∨ix.den.toNat=3∨ix.den.toNat=4:=by omega);(rcases hx with hx|hx|hx|hx|hx<;>simp only [hx])))));done)
     try cbv)
  | (refine⟨none,?_⟩
     refine qS ?_ (kints3d) rfl ?hfit
     case hfit=>(cbv;(repeat' (first|exact qA|exact qB|refine qC ?_ rfl ?_|refine qD ?_ ?_|exact qE (by rfl)|exact qF (by rfl)|exact Fit.refl _|(exact qP (by rfl))|(first|(refine ua1 (by rfl) (fun ix h0 h1=> ?_);(have h2:ix.den<2:=h1);(have hx:ix.den.toNat=0∨ix.den.toNat=1:=by omega);(rcases hx with hx|hx<;>simp only [hx]))|(refine ua1 (by rfl) (fun ix h0 h1=> ?_);(have h2:ix.den<3:=h1);(have hx:ix.den.toNat=0∨ix.den.toNat=1∨ix.den.toNat=2:=by omega);(rcases hx with hx|hx|hx<;>simp only [hx]))|(refine ua1 (by rfl) (fun ix h0 h1=> ?_);(have h2:ix.den<4:=h1);(have hx:ix.den.toNat=0∨ix.den.toNat=1∨ix.den.toNat=2∨ix.den.toNat=3:=by omega);(rcases hx with hx|hx|hx|hx<;>simp only [hx]))|(refine ua1 (by rfl) (fun ix h0 h1=> ?_);(have h2:ix.den<1:=h1);(have hx:ix.den.toNat=0:=by omega);(rcases hx with hx<;>simp only [hx]))|(refine ua1 (by rfl) (fun ix h0 h1=> ?_);(have h2:ix.den<5:=h1);(have hx:ix.den.toNat=0∨ix.den.toNat=1∨ix.den.toNat=2∨ix.den.toNat=3∨ix.den.toNat=4:=by omega);(rcases hx with hx|hx|hx|hx|hx<;>simp only [hx])))));done)
     try cbv)
  | (refine⟨none,?_⟩
     refine qS ?_ (kspans3a) rfl ?hfit
     case hfit=>(cbv;(repeat' (first|exact qA|exact qB|refine qC ?_ rfl ?_|refine qD ?_ ?_|exact qE (by rfl)|exact qF (by rfl)|exact Fit.refl _|(exact qP (by rfl))|(first|(refine ua1 (by rfl) (fun ix h0 h1=> ?_);(have h2:ix.den<2:=h1);(have hx:ix.den.toNat=0∨ix.den.toNat=1:=by omega);(rcases hx with hx|hx<;>simp only [hx]))|(refine ua1 (by rfl) (fun ix h0 h1=> ?_);(have h2:ix.den<3:=h1);(have hx:ix.den.toNat=0∨ix.den.toNat=1∨ix.den.toNat=2:=by omega);(rcases hx with hx|hx|hx<;>simp only [hx]))|(refine ua1 (by rfl) (fun ix h0 h1=> ?_);(have h2:ix.den<4:=h1);(have hx:ix.den.toNat=0∨ix.den.toNat=1∨ix.den.toNat=2∨ix.den.toNat=3:=by omega);(rcases hx with hx|hx|hx|hx<;>simp only [hx]))|(refine ua1 (by rfl) (fun ix h0 h1=> ?_);(have h2:ix.den<1:=h1);(have hx:ix.den.toNat=0:=by omega);(rcases hx with hx<;>simp only [hx]))|(refine ua1 (by rfl) (fun ix h0 h1=> ?_);(have h2:ix.den<5:=h1);(have hx:ix.den.toNat=0∨ix.den.toNat=1∨ix.den.toNat=2∨ix.den.toNat=3∨ix.den.toNat=4:=by omega);(rcases hx with hx|hx|hx|hx|hx<;>simp only [hx])))));done)
     try cbv)
  | (refine⟨none,?_⟩
     refine qS ?_ (kspans3b) rfl ?hfit
     case hfit=>(cbv;(repeat' (first|exact qA|exact qB|refine qC ?_ rfl ?_|refine qD ?_ ?_|exact qE (by rfl)|exact qF (by rfl)|exact Fit.refl _|(exact qP (by rfl))|(first|(refine ua1 (by rfl) (fun ix h0 h1=> ?_);(have h2:ix.den<2:=h1);(have hx:ix.den.toNat=0∨ix.den.toNat=1:=by omega);(rcases hx with hx|hx<;>simp only [hx]))|(refine ua1 (by rfl) (fun ix h0 h1=> ?_);(have h2:ix.den<3:=h1);(have hx:ix.den.toNat=0∨ix.den.toNat=1∨ix.den.toNat=2:=by omega);(rcases hx with hx|hx|hx<;>simp only [hx]))|(refine ua1 (by rfl) (fun ix h0 h1=> ?_);(have h2:ix.den<4:=h1);(have hx:ix.den.toNat=0∨ix.den.toNat=1∨ix.den.toNat=2∨ix.den.toNat=3:=by omega);(rcases hx with hx|hx|hx|hx<;>simp only [hx]))|(refine ua1 (by rfl) (fun ix h0 h1=> ?_);(have h2:ix.den<1:=h1);(have hx:ix.den.toNat=0:=by omega);(rcases hx with hx<;>simp only [hx]))|(refine ua1 (by rfl) (fun ix h0 h1=> ?_);(have h2:ix.den<5:=h1);(have hx:ix.den.toNat=0∨ix.den.toNat=1∨ix.den.toNat=2∨ix.den.toNat=3∨ix.den.toNat=4:=by omega);(rcases hx with hx|hx|hx|hx|hx<;>simp only [hx])))));done)
     try cbv)
  | (refine⟨none,?_⟩
     refine qS ?_ (kspans3c) rfl ?hfit
     case hfit=>(cbv;(repeat' (first|exact qA|exact qB|refine qC ?_ rfl ?_|refine qD ?_ ?_|exact qE (by rfl)|exact qF (by rfl)|exact Fit.refl _|(exact qP (by rfl))|(first|(refine ua1 (by rfl) (fun ix h0 h1=> ?_);(have h2:ix.den<2:=h1);(have hx:ix.den.toNat=0∨ix.den.toNat=1:=by omega);(rcases hx with hx|hx<;>simp only [hx]))|(refine ua1 (by rfl) (fun ix h0 h1=> ?_);(have h2:ix.den<3:=h1);(have hx:ix.den.toNat=0∨ix.den.toNat=1∨ix.den.toNat=2:=by omega);(rcases hx with hx|hx|hx<;>simp only [hx]))|(refine ua1 (by rfl) (fun ix h0 h1=> ?_);(have h2:ix.den<4:=h1);(have hx:ix.den.toNat=0∨ix.den.toNat=1∨ix.den.toNat=2∨ix.den.toNat=3:=by omega);(rcases hx with hx|hx|hx|hx<;>simp only [hx]))|(refine ua1 (by rfl) (fun ix h0 h1=> ?_);(have h2:ix.den<1:=h1);(have hx:ix.den.toNat=0:=by omega);(rcases hx with hx<;>simp only [hx]))|(refine ua1 (by rfl) (fun ix h0 h1=> ?_);(have h2:ix.den<5:=h1);(have hx:ix.den.toNat=0∨ix.den.toNat=1∨ix.den.toNat=2∨ix.den.toNat=3∨ix.den.toNat=4:=by omega);(rcases hx with hx|hx|hx|hx|hx<;>simp only [hx])))));done)
     try cbv)
  |fail)
 all_goals first|trivial|(subst hR;(repeat' (first|exact qA|exact qB|refine qC ?_ rfl ?_|refine qD ?_ ?_|exact qE (by rfl)|exact qF (by rfl)|exact Fit.refl _|exact qG _|(refine qE ?_;(try simp only [qX]at *);simp only [zQ,zA,zB,zC,zD,zE,zF,zG,zH,zI,zJ,zK,zL,zM,zN,zO,zP,zR,zS]at *;omega)));done)|skip
theorem ucc :ua0 Try.prog 16 [] [] (fun r _=>r = .bool (.lit true)):=uya _ _ _ _ _ _ _ _ _ _ _ _ uwa utR ux5 ux6 uyE uxl ux4 usp uxF uvX uuR utV
end Go.Proofs.Ytpkgnhcfmpbidaa

namespace Go.Proofs.Ytpkgnhcfmpbidaa
open Go Go.Eng Go.Proofs Go.Eng.Ck Go.Eng.Few
set_option maxRecDepth 10000
def bsN (ms:List (Int×Int))(n:Int):Nat→Int
 |0=>0
 |x+1=>uju ms n x
end Go.Proofs.Ytpkgnhcfmpbidaa
