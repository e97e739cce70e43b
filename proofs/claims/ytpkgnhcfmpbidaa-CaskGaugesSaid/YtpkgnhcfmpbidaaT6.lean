/- Contracts of the functions that the laws come to. No condition. -/
import Derived.Test.YtpkgnhcfmpbidaaT5
set_option linter.unusedVariables false
set_option linter.unusedSimpArgs false
set_option linter.deprecated false
set_option linter.all false

namespace Go.Proofs.Ytpkgnhcfmpbidaa
open Go Go.Eng Go.Proofs Go.Eng.Ck Go.Eng.Few
set_option maxRecDepth 10000
theorem ubx {n ix:Int} {o2:Nat} {e e':IX→List SV} {x:List SV}(h0:ix<n)(h1:∀jx:IX,0≤jx.den→jx.den<n→jx.den≠ix→Fit (.agg (e jx)) (.agg (e' jx)))
 (h2:∀jx:IX,0≤jx.den→jx.den<n→jx.den=ix→∃l,ui6 (e jx) o2 x=some l∧Fit (.agg l) (.agg (e' jx))):uap (ix<n∧umV n e ix o2 x e'):=
 ⟨h0,fun jx a b c=>(h1 jx a b c).le,fun jx a b c=>by obtain⟨l,p,q⟩:=h2 jx a b c;exact⟨l,p,q.le⟩⟩
theorem ung (R:List Int→Bool)(a b:Int):∃R',Go.Eng.Rest 2 R [a,b] R':=⟨_,fun _ _=>rfl⟩
theorem urt {R R':List Int→Bool} {ks:List Int}:∀{l:List (List Int)},(∀k∈l,R' k=true→R k=true)→ks∈l→R ks=true→R' ks=false→l.countP R'<l.countP R
 |[],_,h,_,_=>by cases h
 | k ::l,hs,hm,h1,h2=>by
  rw [List.countP_cons,List.countP_cons]
  by_cases e:k=ks
  ·subst e
   have:=List.countP_mono_left (l:=l) (p:=R') (q:=R) fun x hx=>hs x (List.mem_cons_of_mem _ hx)
   rw [if_pos h1,if_neg (by rw [h2];simp)]
   omega
  ·have h3:=urt (fun x hx=>hs x (List.mem_cons_of_mem _ hx)) ((List.mem_cons.1 hm).resolve_left fun q=>e q.symm) h1 h2
   have h4:=hs k (by simp)
   cases h5:R' k with
   |true=>rw [if_pos rfl,if_pos (h4 h5)];omega
   |false=>simp only [Bool.false_eq_true,if_false];omega
theorem uoK {D R R':List Int→Bool} {l:List (List Int)} {a b:Int}(hl:LenOk 2 D l)(hs:∀ks:List Int,ks.length=2→R ks=true→D ks=true)(hr:R [a,b]=true)(h:Go.Eng.Rest 2 R [a,b] R'):l.countP R'<l.countP R:=by
 refine urt (ks:=[a,b]) (fun k hk q=> ?_) (hl.all [a,b] rfl (hs _ rfl hr)) hr (by rw [h _ rfl];simp)
 rw [h k (hl.is k hk).1]at q
 exact(Bool.and_eq_true_iff.1 q).1
theorem uoe :ufI Try.prog 163 170 39:=ufR
def upN (k:Nat)(v:Int)(f:Nat→Int)(i:Nat):Int:=if i=k then v else f i
theorem ugO (k:Nat)(v:Int)(f:Nat→Int):upN k v f k=v:=if_pos rfl
theorem udz {k i:Nat} {v:Int} {f:Nat→Int}(h:i≠k):upN k v f i=f i:=if_neg h
theorem ugQ {k i:Nat} {v:Int} {f:Nat→Int}(h:i=k):upN k v f i=v:=if_pos h
def upK (n:Nat)(v:Int)(i:Nat):Int:=if i<n then v else 0
theorem ut0 {n i:Nat} {v:Int}(h:i≠n):upK (n+1) v i=upK n v i:=by unfold upK;split<;>split<;>omega
theorem us3 {n i:Nat} {v:Int}(h:i=n):upK (n+1) v i=v:=if_pos (by omega)
theorem ups {n i:Nat} {v:Int}(h:i<n):upK n v i=v:=if_pos h
theorem uln {i:Nat} {v:Int}:upK 0 v i=0:=if_neg (by omega)
set_option maxHeartbeats 4000000 in
theorem usQ (c:Clr)(q:Nat→Int)(hC:COk c)(ho:okQ c q=true):ua0 Try.prog 78 [(.pp 0 [(caS c.cs),(mvS c.mv),(gaS c.gs),(.arr 4 (fun ix=>(iv fun _=>q ix.den.toNat))),(.mapx 170 39 false 2 (inD c q c.cs.length 0) (stS c q))])] [] (fun r _=>r=(.sl 2 (.sym fun _=>zi c.cs.length) (fun ix=>[(iv fun _=>eLo c q ix.den.toNat),(iv fun _=>eHi c q ix.den.toNat)]))):=by
 have hc3:=hC.c3
 have hm4:=hC.m4
 obtain⟨D,hD⟩:∃D,D=inD c q c.cs.length 0:=⟨_,rfl⟩
 obtain⟨Fs,hFs⟩:∃Fs,Fs=stS c q:=⟨_,rfl⟩
 have hrg:∀a b,D [a,b]=true→(0≤a∧a<zi c.cs.length)∧(0≤b∧b≤4)∧0≤zi c.mv.length*b∧zi c.mv.length*b≤16:=fun a b h=>by
  rw [hD]at h
  obtain⟨h1,h2⟩:=uoz h
  have h3:=(of_decide_eq_true h2).1
  have h4:=hC.k a.toNat (by omega)
  have h5:=h4.l0
  have h6:=h4.l2
  exact⟨h1,by omega,uvn hm4 (by omega) (by omega)⟩
 have hend:∀R A B,LkI c.cs.length (zi c.mv.length) D R A B→(∀ks:List Int,ks.length=2→R ks=false)→∀x,x<c.cs.length→A x=eLo c q x∧B x=eHi c q x:=fun R A B h hr x hx=>by
  rw [hD]at h
  exact urA hC ho h hr hx
 have hbeg:LkI c.cs.length (zi c.mv.length) D D (fun _=>zi c.mv.length*5) (fun _=> -1):=uqR _ _ _
 have hstep:∀R R' A B a b,LkI c.cs.length (zi c.mv.length) D R A B→R [a,b]=true→Go.Eng.Rest 2 R [a,b] R'→0≤a→LkI c.cs.length (zi c.mv.length) D R' (upN a.toNat (mn (A a.toNat) (zi c.mv.length*b)) A) (upN a.toNat (mx (B a.toNat) (zi c.mv.length*b)) B):=fun R R' A B a b h hr h' ha=>uqK h hr h' ha (ugO _ _ _) (ugO _ _ _) fun x hx=>⟨udz hx,udz hx⟩
 obtain⟨kl,hkl⟩:∃kl,LenOk 2 D kl:=⟨kyL c q c.cs.length 0,by rw [hD];have:=upI (c:=c) (q:=q) (n:=c.cs.length) (i:=0) rfl;simpa only [uh6]using this⟩
 have hdec:∀R R' A B a b,LkI c.cs.length (zi c.mv.length) D R A B→R [a,b]=true→Go.Eng.Rest 2 R [a,b] R'→kl.countP R'<kl.countP R:=fun R R' A B a b h hr h'=>uoK hkl h.sub hr h'
 rw [←hD,←hFs]
 clear hD hFs ho hC
 have hmt:=uoe
 have c106:= @udf
 refine ua0.is fun R hR=>qY (sc:=uz0) uas mix Try.func78 rfl Try.call78 (by kernel_rfl) (by kernel_rfl) ?_
 generalize Try.prog=P at hmt c106⊢
 cbv
 repeat' (first|with_reducible refine ua3 ?_ ?_|fail)
 all_goals first|(unfold uap;exact⟨show(0:Int)≤(c.cs.length:Int) by omega,rfl,show(c.cs.length:Int)*((2:Nat):Int)≤16777216 by omega,show(c.cs.length:Int)*((16:Nat):Int)≤16777216 by omega,show(c.cs.length:Int)≤16777216 by omega⟩)|skip
 refine⟨none,[],{i:Nat // i≤c.cs.length},fun x=>⟨[(0,(.pp 0 [(caS c.cs),(mvS c.mv),(gaS c.gs),(.arr 4 (fun ix=>(iv fun _=>q ix.den.toNat))),(.mapx 170 39 false 2 D Fs)])),(3,(iv fun _=>zi c.mv.length)),(4,.row 14),(22,(iv fun _=>zi c.cs.length)),(23,(iv fun _=>zi x.1))],[(14,.row 39 2 (.sym fun _=>zi c.cs.length) (fun ix=>[(iv fun _=>upK x.1 (zi c.mv.length*5) ix.den.toNat),(iv fun _=>upK x.1 (-1) ix.den.toNat)]))],38⟩,fun x=>c.cs.length-x.1,?_,?_⟩
 ·refine⟨⟨0,by omega⟩,?_⟩
  cbv
  repeat' (first|with_reducible refine ua3 ?_ ?_|with_reducible refine And.intro ?_ ?_)
  all_goals first|trivial|exact qN (qE (by rfl))|exact qN (Fit.refl _)|(refine qL (ua8 ?_ ?_)<;>first|rfl|((try simp only [qX]at *);(try simp only [zQ,zA,zB,zC,zD,zE,zF,zG,zH,zI,zJ,zK,zL,zM,zN,zO,zP,zR,zS]at *);omega)|(intro ix h0 h1;exact qC (qE (by rw [uln];rfl)) rfl (qC (qE (by rw [uln];rfl)) rfl qA)))|skip
 ·rintro ⟨i, hi⟩
  cbv
  repeat' (first
   |with_reducible refine ua3 ?_ ?_
   |with_reducible refine And.intro ?_ ?_
   |(with_reducible intro hcd;(try simp only [zA,zB,zC,zD,zE,zF,zG,zH,zI,zJ,zK,zL,zM,zN,zO,zP]at hcd);try cbv)
   | (refine⟨fun ix=>[(iv fun _=>upK (i+1) (zi c.mv.length*5) ix.den.toNat),(iv fun _=>upK (i+1) (-1) ix.den.toNat)],?_⟩
      cbv
      refine ua3 (ubx (o2:=0) (x:=_)  om (by intro jx h0 h1 h2;(repeat' (first|exact qA|exact Fit.refl _|refine qC (qE ?_) rfl ?_))<;>exact(ut0  om).symm) (by intro jx h0 h1 h2;refine⟨_,rfl,?_⟩;(repeat' (first|exact qA|exact Fit.refl _|refine qC (qE ?_) rfl ?_))<;>((try simp only [qX]at *);(try simp only [zQ,zA,zB,zC,zD,zE,zF,zG,zH,zI,zJ,zK,zL,zM,zN,zO,zP,zR,zS]at *);exact(us3 (by omega)).symm))) ?_
      try cbv)
   |fail)
  all_goals first|trivial|((try simp only [qX]at *);(try simp only [zQ,zA,zB,zC,zD,zE,zF,zG,zH,zI,zJ,zK,zL,zM,zN,zO,zP,zR,zS]at *);first|(refine qO ?_;omega)|(simp only [uap];omega))|((try simp only [zQ,zA,zB,zC,zD,zE,zF,zG,zH,zI,zJ,zK,zL,zM,zN,zO,zP,zR,zS]at *);refine⟨⟨i+1,by omega⟩,by simp only [];omega,?_⟩;cbv;(repeat' (first|with_reducible refine ua3 ?_ ?_|with_reducible refine And.intro ?_ ?_));(all_goals first|trivial|exact qN (qE (by rfl))|exact qN (qF (by rfl))|exact qN (Fit.refl _)|exact qL (qK _)|(refine qN (qE ?_);(try simp only [qX]at *);simp only [zQ,zA,zB,zC,zD,zE,zF,zG,zH,zI,zJ,zK,zL,zM,zN,zO,zP,zR,zS]at *;omega)|(refine qL (qJ ?_);(repeat' (first|exact qA|exact qB|refine qC ?_ rfl ?_|refine qD ?_ ?_|exact qE (by rfl)|exact qF (by rfl)|exact Fit.refl _|exact qG _|(refine qE ?_;(try simp only [qX]at *);simp only [zQ,zA,zB,zC,zD,zE,zF,zG,zH,zI,zJ,zK,zL,zM,zN,zO,zP,zR,zS]at *;omega)));done)|(refine qL (ua8 ?_ ?_)<;>first|rfl|((try simp only [qX]at *);(try simp only [zQ,zA,zB,zC,zD,zE,zF,zG,zH,zI,zJ,zK,zL,zM,zN,zO,zP,zR,zS]at *);omega)|(intro ix h0 h1;exact Fit.refl _))|skip))|skip
  refine⟨none,[],{s:(List Int→Bool)×(Nat→Int)×(Nat→Int) // LkI c.cs.length (zi c.mv.length) D s.1 s.2.1 s.2.2},fun x=>⟨[(0,(.pp 0 [(caS c.cs),(mvS c.mv),(gaS c.gs),(.arr 4 (fun ix=>(iv fun _=>q ix.den.toNat))),(.mapx 170 39 false 2 D Fs)])),(3,(iv fun _=>zi c.mv.length)),(4,.row 14),(37,.own 43 0)],[(14,.row 39 2 (.sym fun _=>zi c.cs.length) (fun ix=>[(iv fun _=>x.1.2.1 ix.den.toNat),(iv fun _=>x.1.2.2 ix.den.toNat)])),(43,.it false 2 x.1.1 Fs none)],100⟩,fun x=>kl.countP x.1.1,?_,?_⟩
  ·refine⟨⟨(D,fun _=>(zi c.mv.length*5),fun _=> -1),hbeg⟩,?_⟩
   cbv
   repeat' (first|with_reducible refine ua3 ?_ ?_|with_reducible refine And.intro ?_ ?_)
   all_goals first|trivial|exact qN (qE (by rfl))|exact qN (Fit.refl _)|exact qL (qK _)|(refine qL (ua8 ?_ ?_)<;>first|rfl|((try simp only [qX]at *);(try simp only [zQ,zA,zB,zC,zD,zE,zF,zG,zH,zI,zJ,zK,zL,zM,zN,zO,zP,zR,zS]at *);omega)|(intro ix h0 h1;exact qC (qE (ups  om)) rfl (qC (qE (ups  om)) rfl qA)))|skip
  ·rintro ⟨⟨RR,A,B⟩,hlk⟩
   cbv
   dsimp only at hlk
   refine And.intro ?_ (fun hkn=> ?_)
   ·intro ka kb hkr
    obtain⟨R2,hR2⟩:=ung RR ka kb
    have hks:=hrg ka kb (hlk.sub _ rfl hkr)
    have hN:=hstep RR R2 A B ka kb hlk hkr hR2 hks.1.1
    have hM:=hdec RR R2 A B ka kb hlk hkr hR2
    obtain⟨A2,hA2⟩:∃f,f=upN ka.toNat (mn (A ka.toNat) (zi c.mv.length*kb)) A:=⟨_,rfl⟩
    obtain⟨B2,hB2⟩:∃f,f=upN ka.toNat (mx (B ka.toNat) (zi c.mv.length*kb)) B:=⟨_,rfl⟩
    rw [←hA2,←hB2]at hN
    have hAn:∀i,i≠ka.toNat→A2 i=A i:=fun i h=>by rw [hA2];exact udz h
    have hBn:∀i,i≠ka.toNat→B2 i=B i:=fun i h=>by rw [hB2];exact udz h
    have hAy:∀i,i=ka.toNat→A2 i=mn (A ka.toNat) (zi c.mv.length*kb):=fun i h=>by rw [hA2];exact ugQ h
    have hBy:∀i,i=ka.toNat→B2 i=mx (B ka.toNat) (zi c.mv.length*kb):=fun i h=>by rw [hB2];exact ugQ h
    clear hA2 hB2
    refine⟨R2,?_⟩
    cbv
    refine ua3 hR2 ?_
    try cbv
    repeat' (first
     |with_reducible refine ua3 ?_ ?_
     | ((first|(refine qS ?_ (c106 _ _) rfl (by cbv;(repeat' (first|exact qB|refine qD ?_ ?_|exact qE (by rfl)|exact qF (by rfl)|exact Fit.refl _|exact qA|refine qC ?_ rfl ?_))))|(refine⟨none,?_⟩;refine qS ?_ (c106 _ _) rfl (by cbv;(repeat' (first|exact qB|refine qD ?_ ?_|exact qE (by rfl)|exact qF (by rfl)|exact Fit.refl _|exact qA|refine qC ?_ rfl ?_)))))
        try cbv)
     | (refine⟨fun ix=>[(iv fun _=>A2 ix.den.toNat),(iv fun _=>B2 ix.den.toNat)],?_⟩
        cbv
        refine ua3 (ubx (o2:=0) (x:=_)  om (by intro jx h0 h1 h2;(repeat' (first|exact qA|exact Fit.refl _|refine qC (qE ?_) rfl ?_))<;>(first|exact(hAn _  om).symm|exact(hBn _  om).symm)) (by intro jx h0 h1 h2;refine⟨_,rfl,?_⟩;(repeat' (first|exact qA|exact Fit.refl _|refine qC (qE ?_) rfl ?_))<;>(first|exact(hAy _  om).symm|exact(hBy _  om).symm))) ?_
        try cbv)
     |fail)
    all_goals first|((try simp only [qX]at *);(try simp only [zQ,zA,zB,zC,zD,zE,zF,zG,zH,zI,zJ,zK,zL,zM,zN,zO,zP,zR,zS]at *);first|(refine qO ?_;omega)|(simp only [uap];omega))|(refine⟨⟨(R2,A2,B2),hN⟩,hM,?_⟩;cbv;(repeat' (first|with_reducible refine ua3 ?_ ?_|with_reducible refine And.intro ?_ ?_));(all_goals first|trivial|exact qN (qE (by rfl))|exact qN (qF (by rfl))|exact qN (Fit.refl _)|exact qL (qK _)|(refine qN (qE ?_);(try simp only [qX]at *);simp only [zQ,zA,zB,zC,zD,zE,zF,zG,zH,zI,zJ,zK,zL,zM,zN,zO,zP,zR,zS]at *;omega)|(refine qL (qJ ?_);(repeat' (first|exact qA|exact qB|refine qC ?_ rfl ?_|refine qD ?_ ?_|exact qE (by rfl)|exact qF (by rfl)|exact Fit.refl _|exact qG _|(refine qE ?_;(try simp only [qX]at *);simp only [zQ,zA,zB,zC,zD,zE,zF,zG,zH,zI,zJ,zK,zL,zM,zN,zO,zP,zR,zS]at *;omega)));done)|(refine qL ?_;exact⟨rfl,rfl,Or.inl rfl,fun ks hk=>⟨rfl,fun _ _ _ h=>h⟩⟩)|(refine qL (ua8 ?_ ?_)<;>first|rfl|((try simp only [qX]at *);(try simp only [zQ,zA,zB,zC,zD,zE,zF,zG,zH,zI,zJ,zK,zL,zM,zN,zO,zP,zR,zS]at *);omega)|(intro ix h0 h1;exact Fit.refl _))|skip))|skip
   ·try cbv
    repeat' (first|fail)
    all_goals first|(subst hR;(refine ua1 rfl (fun ix h0 h1=> ?_);(have h9:=hend _ _ _ hlk hkn ix.den.toNat  om);exact qC (qE h9.1) rfl (qC (qE h9.2) rfl qA));done)|skip
end Go.Proofs.Ytpkgnhcfmpbidaa

namespace Go.Proofs.Ytpkgnhcfmpbidaa
open Go.Eng Go.Eng.Ck
structure CtM (c:Clr)(q:Nat→Int)(N T:Nat)(D R R2:List Int→Bool)(a:Int)(i:Nat)(A B:Nat→Int)(Z:Nat→Bool):Prop where
 c:∀e,e<T→CnI c q (if((e/N:Nat):Int)=a∧e%N<i then Dn D R2 ((e/N:Nat):Int)else Dn D R ((e/N:Nat):Int)) (e/N) (e%N) (A e) (B e) (Z e)
structure CtI (c:Clr)(q:Nat→Int)(N T:Nat)(D R:List Int→Bool)(A B:Nat→Int)(Z:Nat→Bool):Prop where
 sub:∀ks:List Int,ks.length=2→R ks=true→D ks=true
 c:∀e,e<T→CnI c q (Dn D R ((e/N:Nat):Int)) (e/N) (e%N) (A e) (B e) (Z e)
theorem uqO (c:Clr)(q:Nat→Int)(N T:Nat)(D:List Int→Bool):CtI c q N T D D (fun _=>0) (fun _=>0) (fun _=>false):=
 ⟨fun _ _ h=>h,fun e _=>uq8 _ _ _ _ _ _ fun b ⟨h,h'⟩=>by rw [h]at h';cases h'⟩
theorem uqA {c:Clr} {q:Nat→Int} {N T:Nat} {D R R2:List Int→Bool} {a:Int} {A B:Nat→Int} {Z:Nat→Bool}(h:CtI c q N T D R A B Z):CtM c q N T D R R2 a 0 A B Z:=
 ⟨fun e he=>by rw [if_neg (by omega)];exact h.c e he⟩
theorem usu {c:Clr} {q:Nat→Int} {N T:Nat} {D R R2:List Int→Bool} {a b:Int} {A B A0 B0:Nat→Int} {Z Z0:Nat→Bool}(h0:CtI c q N T D R A0 B0 Z0)(hN:0<N)(hr:R [a,b]=true)(h':Go.Eng.Rest 2 R [a,b] R2)(h:CtM c q N T D R R2 a N A B Z):CtI c q N T D R2 A B Z:=by
 have hd:=ufU h0.sub hr h'
 refine⟨hd.1,fun e he=> ?_⟩
 have h1:=h.c e he
 have h2:=Nat.mod_lt e hN
 by_cases q:((e/N:Nat):Int)=a
 ·rw [if_pos ⟨q,h2⟩]at h1;exact h1
 ·rw [if_neg fun r=>q r.1]at h1
  refine h1.same fun y=> ?_
  rw [hd.2]
  exact⟨fun r=>r.elim id fun r=>absurd r.1 q,.inl⟩
theorem urp {N i e:Nat} {a:Int}(hi:i<N)(he:(e:Int)=a*(N:Int)+(i:Int))(ha:0≤a):((e/N:Nat):Int)=a∧e%N=i:=by
 obtain⟨n,rfl⟩:=Int.eq_ofNat_of_zero_le ha
 have h1:e=N*n+i:=by
  have h2:((N*n+i:Nat):Int)=(n:Int)*(N:Int)+(i:Int):=by push_cast;rw [Int.mul_comm]
  omega
 subst h1
 rw [Nat.mul_add_div (by omega),Nat.div_eq_of_lt hi,Nat.mul_add_mod,Nat.mod_eq_of_lt hi]
 exact⟨rfl,rfl⟩
theorem uwR {N i e e':Nat} {a:Int}(hi:i<N)(h1:((e/N:Nat):Int)=a∧e%N=i)(h2:((e'/N:Nat):Int)=a∧e'%N=i):e'=e:=by
 have h3:=Nat.div_add_mod e N
 have h4:=Nat.div_add_mod e' N
 have h5:e/N=e'/N:=by omega
 rw [h5]at h3
 omega
theorem urc {c:Clr} {q:Nat→Int} {N T:Nat} {D R R2:List Int→Bool} {a:Int} {i e0:Nat} {A B A' B':Nat→Int} {Z Z':Nat→Bool}(h:CtM c q N T D R R2 a i A B Z)(hi:i<N)
 (h0:((e0/N:Nat):Int)=a∧e0%N=i) (ho:∀e,e≠e0→A' e=A e∧B' e=B e∧Z' e=Z e)
 (hn:CnI c q (Dn D R2 ((e0/N:Nat):Int)) (e0/N) (e0%N) (A' e0) (B' e0) (Z' e0)):CtM c q N T D R R2 a (i+1) A' B' Z':=⟨fun e he=>by
 by_cases e1:e=e0
 ·subst e1
  rw [if_pos ⟨h0.1,by omega⟩];exact hn
 ·obtain⟨p1,p2,p3⟩:=ho e e1
  rw [p1,p2,p3]
  have h1:=h.c e he
  by_cases e2:((e/N:Nat):Int)=a∧e%N<i
  ·rw [if_pos e2]at h1;rw [if_pos ⟨e2.1,by omega⟩];exact h1
  ·rw [if_neg e2]at h1
   rw [if_neg fun r=>e2 ⟨r.1,?_⟩]
   ·exact h1
   ·rcases Nat.lt_or_ge (e%N) i with r'|r'
    ·exact r'
    ·exact absurd (uwR hi h0 ⟨r.1,by omega⟩) e1⟩
theorem usJ {c:Clr} {q:Nat→Int} {N T:Nat} {D R R2:List Int→Bool} {a b:Int} {i e0:Nat} {A B A' B':Nat→Int} {Z Z':Nat→Bool}(hs:∀ks:List Int,ks.length=2→R ks=true→D ks=true)(h:CtM c q N T D R R2 a i A B Z)(hi:i<N)(hr:R [a,b]=true)(h':Go.Eng.Rest 2 R [a,b] R2)
 (he:e0<T) (h0:((e0/N:Nat):Int)=a∧e0%N=i) (ho:∀e,e≠e0→A' e=A e∧B' e=B e∧Z' e=Z e) (hz:Z e0=false)
 (h1:A' e0=rLo c q a b+gN c.mv q a b i) (h2:B' e0=rHi c q a b+gN c.mv q a b i) (h3:Z' e0=true):CtM c q N T D R R2 a (i+1) A' B' Z':=by
 have hd:=ufU hs hr h'
 refine urc h hi h0 ho ?_
 have h4:=h.c e0 he
 rw [if_neg (by omega),hz]at h4
 have h5:=h4.new (b:=b) (P':=Dn D R2 ((e0/N:Nat):Int)) fun y=>by
  rw [hd.2];exact⟨fun r=>r.imp id fun r=>r.2,fun r=>r.imp id fun r=>⟨h0.1,r⟩⟩
 rw [h0.1,h0.2]at h5
 rw [h1,h2,h3,h0.1,h0.2]
 exact h5
theorem ut9 {c:Clr} {q:Nat→Int} {N T:Nat} {D R R2:List Int→Bool} {a b:Int} {i e0:Nat} {A B A' B':Nat→Int} {Z Z':Nat→Bool}(hs:∀ks:List Int,ks.length=2→R ks=true→D ks=true)(h:CtM c q N T D R R2 a i A B Z)(hi:i<N)(hr:R [a,b]=true)(h':Go.Eng.Rest 2 R [a,b] R2)
 (he:e0<T) (h0:((e0/N:Nat):Int)=a∧e0%N=i) (ho:∀e,e≠e0→A' e=A e∧B' e=B e∧Z' e=Z e) (hz:Z e0=true)
 (h1:A' e0=mn (A e0) (rLo c q a b+gN c.mv q a b i)) (h2:B' e0=mx (B e0) (rHi c q a b+gN c.mv q a b i)) (h3:Z' e0=true):CtM c q N T D R R2 a (i+1) A' B' Z':=by
 have hd:=ufU hs hr h'
 refine urc h hi h0 ho ?_
 have h4:=h.c e0 he
 rw [if_neg (by omega),hz]at h4
 have h5:=h4.ins (b:=b) (P':=Dn D R2 ((e0/N:Nat):Int)) fun y=>by
  rw [hd.2];exact⟨fun r=>r.imp id fun r=>r.2,fun r=>r.imp id fun r=>⟨h0.1,r⟩⟩
 rw [h0.1,h0.2]at h5
 rw [h1,h2,h3,h0.1,h0.2]
 exact h5
theorem usF {c:Clr}(hc:COk c) {q:Nat→Int}(ho:okQ c q=true) {R:List Int→Bool} {A B:Nat→Int} {Z:Nat→Bool} {N T:Nat}(hN:N=c.mv.length+1)(hT:T=N*c.cs.length)(h:CtI c q N T (inD c q c.cs.length 0) R A B Z)(hr:∀ks:List Int,ks.length=2→R ks=false) {e:Nat}(he:e<T):A e=cLo c q (e/N) (e%N)∧B e=cHi c q (e/N) (e%N):=by
 have h1:=Nat.mod_lt e (show 0<N by omega)
 have h2:e/N<c.cs.length:=Nat.div_lt_of_lt_mul (by rw [←hT];exact he)
 exact urP hc ho h2 (by omega) (h.c e he) hr
theorem uuK {c:Clr}(hC:COk c) {q:Nat→Int} {a b:Int}(h:inD c q c.cs.length 0 [a,b]=true):((0≤a∧a<(c.cs.length:Int))∧0≤b∧b≤4)∧∀i,i≤c.mv.length→(0≤rLo c q a b+gN c.mv q a b i∧rLo c q a b+gN c.mv q a b i≤1000)∧0≤rHi c q a b+gN c.mv q a b i∧rHi c q a b+gN c.mv q a b i≤1000:=by
 obtain⟨h1,h2⟩:=uoz h
 have h3:=of_decide_eq_true h2
 have h4:=hC.k a.toNat (by omega)
 have h5:=h4.l0
 have h6:=h4.l2
 refine⟨⟨h1,by omega⟩,fun i hi=> ?_⟩
 have h7:∃n:Nat,a=(n:Int)∧n<c.cs.length:=⟨a.toNat,by omega,by omega⟩
 obtain⟨n,rfl,hn⟩:=h7
 have h8:=uh5 hC hn (ubd.2 ⟨Int.le_refl _,h3.2⟩) hi
 have h9:=uh5 hC hn (ubd.2 ⟨h3.2,Int.le_refl _⟩) hi
 exact⟨h8,h9⟩
end Go.Proofs.Ytpkgnhcfmpbidaa

namespace Go.Proofs.Ytpkgnhcfmpbidaa
open Go Go.Eng Go.Proofs Go.Eng.Ck Go.Eng.Few
set_option maxRecDepth 10000
def upZ (k:Nat)(v:Bool)(f:Nat→Bool)(i:Nat):Bool:=if i=k then v else f i
theorem una {k i:Nat} {v:Bool} {f:Nat→Bool}(h:i≠k):upZ k v f i=f i:=if_neg h
theorem up4 {k i:Nat} {v:Bool} {f:Nat→Bool}(h:i=k):upZ k v f i=v:=if_pos h
theorem uqx {n:Int} {s b:Nat}(h:0≤n∧n≤100)(hs:s≤100)(hb:b≤100):uap (0≤n∧n=n∧n*(s:Int)≤16777216∧n*(b:Int)≤16777216∧n≤16777216):=by
 have h1:=Int.mul_le_mul (show n≤100 by omega) (show(s:Int)≤100 by omega) (by omega) (by omega)
 have h2:=Int.mul_le_mul (show n≤100 by omega) (show(b:Int)≤100 by omega) (by omega) (by omega)
 exact⟨h.1,rfl,by omega,by omega,by omega⟩
set_option maxHeartbeats 8000000 in
theorem ulK (c:Clr)(q:Nat→Int)(hC:COk c)(ho:okQ c q=true)(hq:∀j,0≤q j∧q j≤1000):ua0 Try.prog 74 [(.pp 0 [(caS c.cs),(mvS c.mv),(gaS c.gs),(.arr 4 (fun ix=>(iv fun _=>q ix.den.toNat))),(.mapx 170 39 false 2 (inD c q c.cs.length 0) (stS c q))])] [] (fun r _=>r=(.sl 2 (.sym fun _=>zi ((c.mv.length+1)*c.cs.length)) (fun ix=>[(iv fun _=>cLo c q (ix.den.toNat/(c.mv.length+1)) (ix.den.toNat%(c.mv.length+1))),(iv fun _=>cHi c q (ix.den.toNat/(c.mv.length+1)) (ix.den.toNat%(c.mv.length+1)))]))):=by
 have hc3:=hC.c3
 have hm4:=hC.m4
 obtain⟨D,hD⟩:∃D,D=inD c q c.cs.length 0:=⟨_,rfl⟩
 obtain⟨N,hN⟩:∃N,N=c.mv.length+1:=⟨_,rfl⟩
 obtain⟨T,hT⟩:∃T,T=N*c.cs.length:=⟨_,rfl⟩
 obtain⟨G,hG⟩:∃G:Int→Int→Nat→Int,G=fun a b i=>gN c.mv q a b i:=⟨_,rfl⟩
 obtain⟨rl,hrl⟩:∃f,f=rLo c q:=⟨_,rfl⟩
 obtain⟨rh,hrh⟩:∃f,f=rHi c q:=⟨_,rfl⟩
 obtain⟨cl,hcl⟩:∃f:Nat→Int,f=fun e=>cLo c q (e/N) (e%N):=⟨_,rfl⟩
 obtain⟨ch,hch⟩:∃f:Nat→Int,f=fun e=>cHi c q (e/N) (e%N):=⟨_,rfl⟩
 have hFs:stS c q=fun ks=>.agg [(iv fun _=>rl (ks.getD 0 0) (ks.getD 1 0)),(iv fun _=>rh (ks.getD 0 0) (ks.getD 1 0))]:=by rw [hrl,hrh];rfl
 have hT2:zi T=zi N*zi c.cs.length:=by rw [hT];simp only [uaw];push_cast;rfl
 have hT3:T≤15:=by rw [hT];exact Nat.le_trans (Nat.mul_le_mul (show N≤5 by omega) hc3) (Nat.le_refl _)
 have hrg:∀a b,D [a,b]=true→((0≤a∧a<(c.cs.length:Int))∧0≤b∧b≤4)∧(∀i,i≤c.mv.length→(0≤rl a b+G a b i∧rl a b+G a b i≤1000)∧0≤rh a b+G a b i∧rh a b+G a b i≤1000)∧0≤a*zi N∧a*zi N+zi N≤zi T:=fun a b h=>by
  rw [hD]at h
  have h1:=uuK hC h
  refine⟨h1.1,fun i hi=>by rw [hrl,hrh,hG];exact h1.2 i hi,Int.mul_nonneg h1.1.1.1 (by simp only [uaw];omega),?_⟩
  have h2:=Int.mul_le_mul_of_nonneg_right (show a+1≤zi c.cs.length by simp only [uaw];omega) (show 0≤zi N by simp only [uaw];omega)
  rw [Int.add_mul,Int.one_mul,Int.mul_comm (zi c.cs.length)]at h2
  omega
 obtain⟨cI,hcI⟩:∃p:(List Int→Bool)→(Nat→Int)→(Nat→Int)→(Nat→Bool)→Prop,p=CtI c q N T D:=⟨_,rfl⟩
 obtain⟨cM,hcM⟩:∃p:(List Int→Bool)→(List Int→Bool)→Int→Nat→(Nat→Int)→(Nat→Int)→(Nat→Bool)→Prop,p=CtM c q N T D:=⟨_,rfl⟩
 have hend:∀R A B Z,cI R A B Z→(∀ks:List Int,ks.length=2→R ks=false)→∀e,e<T→A e=cl e∧B e=ch e:=fun R A B Z h hr e he=>by
  rw [hcI,hD]at h
  rw [hcl,hch]
  exact usF hC ho hN hT h hr he
 have hbeg:cI D (fun _=>0) (fun _=>0) (fun _=>false):=by rw [hcI];exact uqO _ _ _ _ _
 have hsub:∀R A B Z,cI R A B Z→∀a b,R [a,b]=true→D [a,b]=true:=fun R A B Z h a b hr=>by rw [hcI]at h;exact h.sub _ rfl hr
 have hm0:∀R R2 a A B Z,cI R A B Z→cM R R2 a 0 A B Z:=fun R R2 a A B Z h=>by rw [hcI]at h;rw [hcM];exact uqA h
 have hmN:∀R R2 a b A0 B0 Z0 A B Z,cI R A0 B0 Z0→R [a,b]=true→Go.Eng.Rest 2 R [a,b] R2→cM R R2 a N A B Z→cI R2 A B Z:=fun R R2 a b A0 B0 Z0 A B Z h hr h' hm=>by
  rw [hcI]at h⊢;rw [hcM]at hm;exact usu h (by omega) hr h' hm
 have hnew:∀R R2 a b A0 B0 Z0 A B Z (i e0:Nat),cI R A0 B0 Z0→R [a,b]=true→Go.Eng.Rest 2 R [a,b] R2→cM R R2 a i A B Z→i<N→0≤a→zi e0=a*zi N+zi i→e0<T→Z e0=false→cM R R2 a (i+1) (upN e0 (rl a b+G a b i) A) (upN e0 (rh a b+G a b i) B) (upZ e0 true Z):=fun R R2 a b A0 B0 Z0 A B Z i e0 h hr h' hm hi ha he het hz=>by
  rw [hcI]at h;rw [hcM]at hm⊢
  rw [hrl,hrh,hG]
  exact usJ h.sub hm hi hr h' het (urp hi he ha) (fun e he=>⟨udz he,udz he,una he⟩) hz (ugO _ _ _) (ugO _ _ _) (up4 rfl)
 have hins:∀R R2 a b A0 B0 Z0 A B Z (i e0:Nat),cI R A0 B0 Z0→R [a,b]=true→Go.Eng.Rest 2 R [a,b] R2→cM R R2 a i A B Z→i<N→0≤a→zi e0=a*zi N+zi i→e0<T→Z e0=true→cM R R2 a (i+1) (upN e0 (mn (A e0) (rl a b+G a b i)) A) (upN e0 (mx (B e0) (rh a b+G a b i)) B) (upZ e0 true Z):=fun R R2 a b A0 B0 Z0 A B Z i e0 h hr h' hm hi ha he het hz=>by
  rw [hcI]at h;rw [hcM]at hm⊢
  rw [hrl,hrh,hG]
  exact ut9 h.sub hm hi hr h' het (urp hi he ha) (fun e he=>⟨udz he,udz he,una he⟩) hz (ugO _ _ _) (ugO _ _ _) (up4 rfl)
 obtain⟨kl,hkl⟩:∃kl,LenOk 2 D kl:=⟨kyL c q c.cs.length 0,by rw [hD];have:=upI (c:=c) (q:=q) (n:=c.cs.length) (i:=0) rfl;simpa only [uh6]using this⟩
 have hdec:∀R R' A B Z a b,cI R A B Z→R [a,b]=true→Go.Eng.Rest 2 R [a,b] R'→kl.countP R'<kl.countP R:=fun R R' A B Z a b h hr h'=>by rw [hcI]at h;exact uoK hkl h.sub hr h'
 have hres:((.sl 2 (.sym fun _=>zi ((c.mv.length+1)*c.cs.length)) (fun ix=>[(iv fun _=>cLo c q (ix.den.toNat/(c.mv.length+1)) (ix.den.toNat%(c.mv.length+1))),(iv fun _=>cHi c q (ix.den.toNat/(c.mv.length+1)) (ix.den.toNat%(c.mv.length+1)))])):SV)=(.sl 2 (.sym fun _=>zi T) (fun ix=>[(iv fun _=>cl ix.den.toNat),(iv fun _=>ch ix.den.toNat)])):=by rw [hcl,hch,hT,hN]
 have c89:=fun (a b:Int) (h:0≤b∧b≤4)=>uno c a b q hm4 hq h
 rw [hres,←hD,hFs]
 have hTm:(zi c.mv.length+1)*zi c.cs.length=zi T:=by rw [hT2,hN];simp only [uaw];push_cast;rfl
 have hN2:zi N=zi c.mv.length+1:=by rw [hN];simp only [uaw];push_cast;rfl
 clear hD hFs ho hC hres hcI hcM hrl hrh hcl hch hq hT hkl
 have hmt:=ufR
 have c106:= @udf
 refine ua0.is fun R hR=>qY (sc:=uyg) uas mix Try.func74 rfl Try.call74 (by kernel_rfl) (by kernel_rfl) ?_
 generalize Try.prog=P at hmt c106 c89⊢
 cbv
 repeat' (first|with_reducible refine ua3 ?_ ?_|fail)
 all_goals first|trivial|((try simp only [qX]at *);(try simp only [zQ,zA,zB,zC,zD,zE,zF,zG,zH,zI,zJ,zK,zL,zM,zN,zO,zP,zR,zS]at *);first|(refine qO ?_;omega)|(simp only [uap];omega))|(refine uqx ?_ (by decide) (by decide);(try simp only [qX]at *);(try simp only [zQ,zA,zB,zC,zD,zE,zF,zG,zH,zI,zJ,zK,zL,zM,zN,zO,zP,zR,zS]at *);omega)|skip
 refine⟨none,[],{s:(List Int→Bool)×(Nat→Int)×(Nat→Int)×(Nat→Bool) // cI s.1 s.2.1 s.2.2.1 s.2.2.2},fun x=>⟨[(0,(.pp 0 [(caS c.cs),(mvS c.mv),(gaS c.gs),(.arr 4 (fun ix=>(iv fun _=>q ix.den.toNat))),(.mapx 170 39 false 2 D (fun ks=>.agg [(iv fun _=>rl (ks.getD 0 0) (ks.getD 1 0)),(iv fun _=>rh (ks.getD 0 0) (ks.getD 1 0))]))])),(3,(iv fun _=>zi N)),(4,.row 17),(5,.row 21),(35,.own 27 0)],[(17,.row 39 2 (.sym fun _=>zi T) (fun ix=>[(iv fun _=>x.1.2.1 ix.den.toNat),(iv fun _=>x.1.2.2.1 ix.den.toNat)])),(21,.row 4 1 (.sym fun _=>zi T) (fun ix=>[(bv fun _=>x.1.2.2.2 ix.den.toNat)])),(27,.it false 2 x.1.1 (fun ks=>.agg [(iv fun _=>rl (ks.getD 0 0) (ks.getD 1 0)),(iv fun _=>rh (ks.getD 0 0) (ks.getD 1 0))]) none)],100⟩,fun x=>kl.countP x.1.1,?_,?_⟩
 ·refine⟨⟨(D,fun _=>0,fun _=>0,fun _=>false),hbeg⟩,?_⟩
  cbv
  repeat' (first|with_reducible refine ua3 ?_ ?_|with_reducible refine And.intro ?_ ?_)
  all_goals first|trivial|exact qN (Fit.refl _)|exact qL (qK _)|(refine qN (qE ?_);(try simp only [qX]at *);simp only [zQ,zA,zB,zC,zD,zE,zF,zG,zH,zI,zJ,zK,zL,zM,zN,zO,zP,zR,zS]at *;omega)|(refine qL (ua8 ?_ ?_)<;>first|rfl|((try simp only [qX]at *);(try simp only [zQ,zA,zB,zC,zD,zE,zF,zG,zH,zI,zJ,zK,zL,zM,zN,zO,zP,zR,zS]at *);omega)|(intro ix h0 h1;exact qC (qE (by rfl)) rfl (qC (qE (by rfl)) rfl qA))|(intro ix h0 h1;exact qC (qF (by rfl)) rfl qA))|skip
 ·rintro ⟨⟨RR,A0,B0,Z0⟩,hc⟩
  cbv
  dsimp only at hc
  refine And.intro ?_ (fun hkn=> ?_)
  ·intro ka kb hkr
   obtain⟨R2,hR2⟩:=ung RR ka kb
   have hks:=hrg ka kb (hsub _ _ _ _ hc _ _ hkr)
   refine⟨R2,?_⟩
   cbv
   refine ua3 hR2 ?_
   try cbv
   repeat' (first|(refine qQ ?_ ((c89 ka kb hks.1.2)) ?hfit;(case hfit=>((repeat' (first|exact qB|refine qD ?_ ?_|exact qE (by rfl)|exact qF (by rfl)|exact Fit.refl _|exact qA|refine qC ?_ rfl ?_));done));try cbv)|fail)
   all_goals first|skip
   refine⟨none,[],{s:Nat×(Nat→Int)×(Nat→Int)×(Nat→Bool) // s.1≤N∧cM RR R2 ka s.1 s.2.1 s.2.2.1 s.2.2.2},fun x=>⟨[(0,(.pp 0 [(caS c.cs),(mvS c.mv),(gaS c.gs),(.arr 4 (fun ix=>(iv fun _=>q ix.den.toNat))),(.mapx 170 39 false 2 D (fun ks=>.agg [(iv fun _=>rl (ks.getD 0 0) (ks.getD 1 0)),(iv fun _=>rh (ks.getD 0 0) (ks.getD 1 0))]))])),(3,(iv fun _=>zi N)),(4,.row 17),(5,.row 21),(35,.own 27 0),(6,.own 105 0),(7,.own 106 0),(53,(.sl 1 (.sym fun _=>zi (c.mv.length+1)) (fun ix=>[(iv fun _=>G ka kb ix.den.toNat)]))),(54,(iv fun _=>zi N)),(55,(iv fun _=>zi x.1.1))],[(17,.row 39 2 (.sym fun _=>zi T) (fun ix=>[(iv fun _=>x.1.2.1 ix.den.toNat),(iv fun _=>x.1.2.2.1 ix.den.toNat)])),(21,.row 4 1 (.sym fun _=>zi T) (fun ix=>[(bv fun _=>x.1.2.2.2 ix.den.toNat)])),(27,.it false 2 R2 (fun ks=>.agg [(iv fun _=>rl (ks.getD 0 0) (ks.getD 1 0)),(iv fun _=>rh (ks.getD 0 0) (ks.getD 1 0))]) none),(105,.cells [(iv fun _=>ka),(iv fun _=>kb)] 170),(106,.cells [(iv fun _=>rl ka kb),(iv fun _=>rh ka kb)] 39)],150⟩,fun x=>N-x.1.1,?_,?_⟩
   ·refine⟨⟨(0,A0,B0,Z0),by simp only [];omega,hm0 _ _ _ _ _ _ hc⟩,?_⟩
    cbv
    repeat' (first|with_reducible refine ua3 ?_ ?_|with_reducible refine And.intro ?_ ?_)
    all_goals first|trivial|exact qN (qE (by rfl))|exact qN (Fit.refl _)|exact qL (qK _)|(refine qN (qE ?_);(try simp only [qX]at *);simp only [zQ,zA,zB,zC,zD,zE,zF,zG,zH,zI,zJ,zK,zL,zM,zN,zO,zP,zR,zS]at *;omega)|(refine qL ?_;exact⟨rfl,rfl,Or.inl rfl,fun ks hk=>⟨rfl,fun _ _ _ h=>h⟩⟩)|(exact qN (ua1 rfl (fun ix h0 h1=>qC (qE (by rw [hG])) rfl qA)))|skip
   ·rintro ⟨⟨i,A,B,Z⟩,hi,hm⟩
    cbv
    dsimp only at hi hm
    obtain⟨e0,he0⟩:∃e:Nat,zi e=ka*zi N+zi i:=⟨(ka*zi N+zi i).toNat,by have:=hks.2.2;simp only [uaw]at this⊢;omega⟩
    have hze:(ka*zi N+zi i).toNat=e0:=by rw [←he0];simp only [uaw];omega
    obtain⟨A1,hA1⟩:∃f,f=upN e0 (rl ka kb+G ka kb i) A:=⟨_,rfl⟩
    have hA1n:∀j,j≠e0→A1 j=A j:=fun j h=>by rw [hA1];exact udz h
    have hA1y:∀j,j=e0→A1 j=(rl ka kb+G ka kb i):=fun j h=>by rw [hA1];exact ugQ h
    obtain⟨B1,hB1⟩:∃f,f=upN e0 (rh ka kb+G ka kb i) B:=⟨_,rfl⟩
    have hB1n:∀j,j≠e0→B1 j=B j:=fun j h=>by rw [hB1];exact udz h
    have hB1y:∀j,j=e0→B1 j=(rh ka kb+G ka kb i):=fun j h=>by rw [hB1];exact ugQ h
    obtain⟨A3,hA3⟩:∃f,f=upN e0 (mn (A e0) (rl ka kb+G ka kb i)) A:=⟨_,rfl⟩
    have hA3n:∀j,j≠e0→A3 j=A j:=fun j h=>by rw [hA3];exact udz h
    have hA3y:∀j,j=e0→A3 j=(mn (A (ka*zi N+zi i).toNat) (rl ka kb+G ka kb i)):=fun j h=>by rw [hA3];exact(ugQ h).trans (by rw [hze])
    obtain⟨B3,hB3⟩:∃f,f=upN e0 (mx (B e0) (rh ka kb+G ka kb i)) B:=⟨_,rfl⟩
    have hB3n:∀j,j≠e0→B3 j=B j:=fun j h=>by rw [hB3];exact udz h
    have hB3y:∀j,j=e0→B3 j=(mx (B (ka*zi N+zi i).toNat) (rh ka kb+G ka kb i)):=fun j h=>by rw [hB3];exact(ugQ h).trans (by rw [hze])
    obtain⟨Z2,hZ2⟩:∃f,f=upZ e0 true Z:=⟨_,rfl⟩
    have hZ2n:∀j,j≠e0→Z2 j=Z j:=fun j h=>by rw [hZ2];exact una h
    have hZ2y:∀j,j=e0→Z2 j=true:=fun j h=>by rw [hZ2];exact up4 h
    have hgi:=fun hi:i<N=>hks.2.1 i (by omega)
    have hN1:=fun hz hi het=>hnew RR R2 ka kb A0 B0 Z0 A B Z i e0 hc hkr hR2 hm hi hks.1.1.1 he0 het hz
    have hN3:=fun hz hi het=>hins RR R2 ka kb A0 B0 Z0 A B Z i e0 hc hkr hR2 hm hi hks.1.1.1 he0 het hz
    rw [←hA1,←hB1,←hZ2]at hN1
    rw [←hA3,←hB3,←hZ2]at hN3
    clear hA1 hA3 hB1 hB3 hZ2
    repeat' (first
     |with_reducible refine ua3 ?_ ?_
     |with_reducible refine And.intro ?_ ?_
     |(with_reducible intro hcd;(try simp only [zA,zB,zC,zD,zE,zF,zG,zH,zI,zJ,zK,zL,zM,zN,zO,zP]at hcd);try cbv)
     | ((first|(refine qS ?_ (c106 _ _) rfl (by cbv;(repeat' (first|exact qB|refine qD ?_ ?_|exact qE (by rfl)|exact qF (by rfl)|exact Fit.refl _|exact qA|refine qC ?_ rfl ?_))))|(refine⟨none,?_⟩;refine qS ?_ (c106 _ _) rfl (by cbv;(repeat' (first|exact qB|refine qD ?_ ?_|exact qE (by rfl)|exact qF (by rfl)|exact Fit.refl _|exact qA|refine qC ?_ rfl ?_)))))
        try cbv)
     | (refine⟨fun ix=>[(bv fun _=>Z2 ix.den.toNat)],?_⟩
        cbv
        refine ua3 (ubx (o2:=0) (x:=_) ?g0 ?g1 ?g2) ?_
        case g0=>((have hk2:=hks.2.2);(have hk1:=hks.1);(try simp only [qX]at *);(try simp only [zQ,zA,zB,zC,zD,zE,zF,zG,zH,zI,zJ,zK,zL,zM,zN,zO,zP,zR,zS]at *);omega)
        case g1=>(intro jx h0 h1 h2;exact qC (qF (hZ2n _ (by(have hk2:=hks.2.2);(have hk1:=hks.1);(try simp only [qX]at *);(try simp only [zQ,zA,zB,zC,zD,zE,zF,zG,zH,zI,zJ,zK,zL,zM,zN,zO,zP,zR,zS]at *);omega)).symm) rfl qA)
        case g2=>(intro jx h0 h1 h2;refine⟨_,rfl,?_⟩;exact qC (qF (hZ2y _ (by(have hk2:=hks.2.2);(have hk1:=hks.1);(try simp only [qX]at *);(try simp only [zQ,zA,zB,zC,zD,zE,zF,zG,zH,zI,zJ,zK,zL,zM,zN,zO,zP,zR,zS]at *);omega)).symm) rfl qA)
        try cbv)
     | (refine⟨fun ix=>[(iv fun _=>A1 ix.den.toNat),(iv fun _=>B1 ix.den.toNat)],?_⟩
        cbv
        refine ua3 (ubx (o2:=0) (x:=_) ?g0 ?g1 ?g2) ?_
        case g0=>((have hk2:=hks.2.2);(have hk1:=hks.1);(try simp only [qX]at *);(try simp only [zQ,zA,zB,zC,zD,zE,zF,zG,zH,zI,zJ,zK,zL,zM,zN,zO,zP,zR,zS]at *);omega)
        case g1=>(intro jx h0 h1 h2;exact qC (qE (hA1n _ (by(have hk2:=hks.2.2);(have hk1:=hks.1);(try simp only [qX]at *);(try simp only [zQ,zA,zB,zC,zD,zE,zF,zG,zH,zI,zJ,zK,zL,zM,zN,zO,zP,zR,zS]at *);omega)).symm) rfl (qC (qE (hB1n _ (by(have hk2:=hks.2.2);(have hk1:=hks.1);(try simp only [qX]at *);(try simp only [zQ,zA,zB,zC,zD,zE,zF,zG,zH,zI,zJ,zK,zL,zM,zN,zO,zP,zR,zS]at *);omega)).symm) rfl qA))
        case g2=>(intro jx h0 h1 h2;refine⟨_,rfl,?_⟩;exact qC (qE (hA1y _ (by(have hk2:=hks.2.2);(have hk1:=hks.1);(try simp only [qX]at *);(try simp only [zQ,zA,zB,zC,zD,zE,zF,zG,zH,zI,zJ,zK,zL,zM,zN,zO,zP,zR,zS]at *);omega)).symm) rfl (qC (qE (hB1y _ (by(have hk2:=hks.2.2);(have hk1:=hks.1);(try simp only [qX]at *);(try simp only [zQ,zA,zB,zC,zD,zE,zF,zG,zH,zI,zJ,zK,zL,zM,zN,zO,zP,zR,zS]at *);omega)).symm) rfl qA))
        try cbv)
     | (refine⟨fun ix=>[(iv fun _=>A3 ix.den.toNat),(iv fun _=>B3 ix.den.toNat)],?_⟩
        cbv
        refine ua3 (ubx (o2:=0) (x:=_) ?g0 ?g1 ?g2) ?_
        case g0=>((have hk2:=hks.2.2);(have hk1:=hks.1);(try simp only [qX]at *);(try simp only [zQ,zA,zB,zC,zD,zE,zF,zG,zH,zI,zJ,zK,zL,zM,zN,zO,zP,zR,zS]at *);omega)
        case g1=>(intro jx h0 h1 h2;exact qC (qE (hA3n _ (by(have hk2:=hks.2.2);(have hk1:=hks.1);(try simp only [qX]at *);(try simp only [zQ,zA,zB,zC,zD,zE,zF,zG,zH,zI,zJ,zK,zL,zM,zN,zO,zP,zR,zS]at *);omega)).symm) rfl (qC (qE (hB3n _ (by(have hk2:=hks.2.2);(have hk1:=hks.1);(try simp only [qX]at *);(try simp only [zQ,zA,zB,zC,zD,zE,zF,zG,zH,zI,zJ,zK,zL,zM,zN,zO,zP,zR,zS]at *);omega)).symm) rfl qA))
        case g2=>(intro jx h0 h1 h2;refine⟨_,rfl,?_⟩;exact qC (qE (hA3y _ (by(have hk2:=hks.2.2);(have hk1:=hks.1);(try simp only [qX]at *);(try simp only [zQ,zA,zB,zC,zD,zE,zF,zG,zH,zI,zJ,zK,zL,zM,zN,zO,zP,zR,zS]at *);omega)).symm) rfl (qC (qE (hB3y _ (by(have hk2:=hks.2.2);(have hk1:=hks.1);(try simp only [qX]at *);(try simp only [zQ,zA,zB,zC,zD,zE,zF,zG,zH,zI,zJ,zK,zL,zM,zN,zO,zP,zR,zS]at *);omega)).symm) rfl qA))
        try cbv)
     |fail)
    all_goals first|((try simp only [qX]at *);(try simp only [zQ,zA,zB,zC,zD,zE,zF,zG,zH,zI,zJ,zK,zL,zM,zN,zO,zP,zR,zS]at *);first|(refine qO ?_;omega)|(simp only [uap];omega))|((have hz:Z e0=false:=by rw [←hze];assumption);(have hiN:i<N:=by(try simp only [qX]at *);(try simp only [zQ,zA,zB,zC,zD,zE,zF,zG,zH,zI,zJ,zK,zL,zM,zN,zO,zP,zR,zS]at *);omega);(have het:e0<T:=(by(have hk2:=hks.2.2);(have hk1:=hks.1);(try simp only [qX]at *);(try simp only [zQ,zA,zB,zC,zD,zE,zF,zG,zH,zI,zJ,zK,zL,zM,zN,zO,zP,zR,zS]at *);omega));refine⟨⟨(i+1,A1,B1,Z2),by simp only [];omega,hN1 hz hiN het⟩,by simp only [];omega,?_⟩;cbv;(repeat' (first|with_reducible refine ua3 ?_ ?_|with_reducible refine And.intro ?_ ?_));(all_goals first|trivial|exact qN (qE (by rfl))|exact qN (qF (by rfl))|exact qN (Fit.refl _)|exact qL (qK _)|(refine qN (qE ?_);(try simp only [qX]at *);simp only [zQ,zA,zB,zC,zD,zE,zF,zG,zH,zI,zJ,zK,zL,zM,zN,zO,zP,zR,zS]at *;omega)|(refine qL (qJ ?_);(repeat' (first|exact qA|exact qB|refine qC ?_ rfl ?_|refine qD ?_ ?_|exact qE (by rfl)|exact qF (by rfl)|exact Fit.refl _|exact qG _|(refine qE ?_;(try simp only [qX]at *);simp only [zQ,zA,zB,zC,zD,zE,zF,zG,zH,zI,zJ,zK,zL,zM,zN,zO,zP,zR,zS]at *;omega)));done)|(refine qL ?_;exact⟨rfl,rfl,Or.inl rfl,fun ks hk=>⟨rfl,fun _ _ _ h=>h⟩⟩)|(refine qL (ua8 ?_ ?_)<;>first|rfl|((try simp only [qX]at *);(try simp only [zQ,zA,zB,zC,zD,zE,zF,zG,zH,zI,zJ,zK,zL,zM,zN,zO,zP,zR,zS]at *);omega)|(intro ix h0 h1;exact Fit.refl _))|(refine qL (ua8 ?_ ?_)<;>first|rfl|((try simp only [qX]at *);(try simp only [zQ,zA,zB,zC,zD,zE,zF,zG,zH,zI,zJ,zK,zL,zM,zN,zO,zP,zR,zS]at *);omega)|(intro ix h0 h1;exact qC (qE (by rfl)) rfl (qC (qE (by rfl)) rfl qA))|(intro ix h0 h1;exact qC (qF (by rfl)) rfl qA))|skip))|((have hz:Z e0=true:=by rw [←hze];assumption);(have hiN:i<N:=by(try simp only [qX]at *);(try simp only [zQ,zA,zB,zC,zD,zE,zF,zG,zH,zI,zJ,zK,zL,zM,zN,zO,zP,zR,zS]at *);omega);(have het:e0<T:=(by(have hk2:=hks.2.2);(have hk1:=hks.1);(try simp only [qX]at *);(try simp only [zQ,zA,zB,zC,zD,zE,zF,zG,zH,zI,zJ,zK,zL,zM,zN,zO,zP,zR,zS]at *);omega));refine⟨⟨(i+1,A3,B3,Z2),by simp only [];omega,hN3 hz hiN het⟩,by simp only [];omega,?_⟩;cbv;(repeat' (first|with_reducible refine ua3 ?_ ?_|with_reducible refine And.intro ?_ ?_));(all_goals first|trivial|exact qN (qE (by rfl))|exact qN (qF (by rfl))|exact qN (Fit.refl _)|exact qL (qK _)|(refine qN (qE ?_);(try simp only [qX]at *);simp only [zQ,zA,zB,zC,zD,zE,zF,zG,zH,zI,zJ,zK,zL,zM,zN,zO,zP,zR,zS]at *;omega)|(refine qL (qJ ?_);(repeat' (first|exact qA|exact qB|refine qC ?_ rfl ?_|refine qD ?_ ?_|exact qE (by rfl)|exact qF (by rfl)|exact Fit.refl _|exact qG _|(refine qE ?_;(try simp only [qX]at *);simp only [zQ,zA,zB,zC,zD,zE,zF,zG,zH,zI,zJ,zK,zL,zM,zN,zO,zP,zR,zS]at *;omega)));done)|(refine qL ?_;exact⟨rfl,rfl,Or.inl rfl,fun ks hk=>⟨rfl,fun _ _ _ h=>h⟩⟩)|(refine qL (ua8 ?_ ?_)<;>first|rfl|((try simp only [qX]at *);(try simp only [zQ,zA,zB,zC,zD,zE,zF,zG,zH,zI,zJ,zK,zL,zM,zN,zO,zP,zR,zS]at *);omega)|(intro ix h0 h1;exact Fit.refl _))|(refine qL (ua8 ?_ ?_)<;>first|rfl|((try simp only [qX]at *);(try simp only [zQ,zA,zB,zC,zD,zE,zF,zG,zH,zI,zJ,zK,zL,zM,zN,zO,zP,zR,zS]at *);omega)|(intro ix h0 h1;exact qC (qE (by rfl)) rfl (qC (qE (by rfl)) rfl qA))|(intro ix h0 h1;exact qC (qF (by rfl)) rfl qA))|skip))|((have hiN:i=N:=by(try simp only [qX]at *);(try simp only [zQ,zA,zB,zC,zD,zE,zF,zG,zH,zI,zJ,zK,zL,zM,zN,zO,zP,zR,zS]at *);omega);subst hiN;(have hN9:=hmN _ _ _ _ _ _ _ _ _ _ hc hkr hR2 hm);(have hM9:=hdec _ _ _ _ _ _ _ hc hkr hR2);refine⟨⟨(R2,A,B,Z),hN9⟩,hM9,?_⟩;cbv;(repeat' (first|with_reducible refine ua3 ?_ ?_|with_reducible refine And.intro ?_ ?_));(all_goals first|trivial|exact qN (qE (by rfl))|exact qN (qF (by rfl))|exact qN (Fit.refl _)|exact qL (qK _)|(refine qN (qE ?_);(try simp only [qX]at *);simp only [zQ,zA,zB,zC,zD,zE,zF,zG,zH,zI,zJ,zK,zL,zM,zN,zO,zP,zR,zS]at *;omega)|(refine qL (qJ ?_);(repeat' (first|exact qA|exact qB|refine qC ?_ rfl ?_|refine qD ?_ ?_|exact qE (by rfl)|exact qF (by rfl)|exact Fit.refl _|exact qG _|(refine qE ?_;(try simp only [qX]at *);simp only [zQ,zA,zB,zC,zD,zE,zF,zG,zH,zI,zJ,zK,zL,zM,zN,zO,zP,zR,zS]at *;omega)));done)|(refine qL ?_;exact⟨rfl,rfl,Or.inl rfl,fun ks hk=>⟨rfl,fun _ _ _ h=>h⟩⟩)|(refine qL (ua8 ?_ ?_)<;>first|rfl|((try simp only [qX]at *);(try simp only [zQ,zA,zB,zC,zD,zE,zF,zG,zH,zI,zJ,zK,zL,zM,zN,zO,zP,zR,zS]at *);omega)|(intro ix h0 h1;exact Fit.refl _))|(refine qL (ua8 ?_ ?_)<;>first|rfl|((try simp only [qX]at *);(try simp only [zQ,zA,zB,zC,zD,zE,zF,zG,zH,zI,zJ,zK,zL,zM,zN,zO,zP,zR,zS]at *);omega)|(intro ix h0 h1;exact qC (qE (by rfl)) rfl (qC (qE (by rfl)) rfl qA))|(intro ix h0 h1;exact qC (qF (by rfl)) rfl qA))|skip))|skip
  ·try cbv
   repeat' (first|fail)
   all_goals first|(subst hR;(refine ua1 rfl (fun ix h0 h1=> ?_);(have h9:=hend _ _ _ _ hc hkn ix.den.toNat  om);exact qC (qE h9.1) rfl (qC (qE h9.2) rfl qA));done)|skip
end Go.Proofs.Ytpkgnhcfmpbidaa

namespace Go.Eng.Ck
def frs {α:Type}(f:Nat→Option α):Nat→Nat→Option α
 |0,_=>none
 | k+1,i=>match f i with
  |some r=>some r
  |none=>frs f k (i+1)
theorem ujK {α:Type} {f:Nat→Option α} {k i:Nat} {r:α}(hk:0<k)(h:f i=some r):frs f k i=some r:=by
 cases k with
 |zero=>omega
 |succ k=>simp only [frs,h]
theorem upc {α:Type} {f:Nat→Option α} {k i:Nat}(hk:0<k)(h:f i=none):frs f k i=frs f (k-1) (i+1):=by
 cases k with
 |zero=>omega
 |succ k=>simp only [frs,h,Nat.add_sub_cancel]
theorem uii {α β:Type} {p:β→Bool} {g:α→List β}:∀{l:List α},(l.flatMap g).find? p=l.findSome? fun a=>(g a).find? p
 |[]=>rfl
 | a::l=>by
  rw [List.flatMap_cons,List.find?_append,List.findSome?_cons,uii]
  cases (g a).find? p<;>rfl
theorem uiM {α:Type} {f:Nat→Option α}:∀{k i:Nat},frs f k i=(List.range' i k).findSome? f
 |0,_=>rfl
 | k+1,i=>by
  rw [List.range'_succ,List.findSome?_cons]
  simp only [frs]
  cases h:f i with
  |some r=>rfl
  |none=>exact uiM
def fQ (c:Clr)(n i:Nat)(q:Nat→Int):Option (Nat→Int):=(ud2 c.mv n i q).find? (okQ c)
def ucH (c:Clr)(i:Nat)(q:Nat→Int)(x:Nat):Nat→Int:=utz q i ((c.mv.getD i v0).ql+(x:Int))
theorem uom (c:Clr)(i:Nat)(q:Nat→Int):fQ c 0 i q=if okQ c q=true then some q else none:=by
 unfold fQ ud2
 rw [List.find?_cons]
 cases okQ c q<;>rfl
theorem ujZ (c:Clr)(n i:Nat)(q:Nat→Int):fQ c (n+1) i q=frs (fun x=>fQ c n (i+1) (ucH c i q x)) (cnt (c.mv.getD i v0)) 0:=by
 unfold fQ
 simp only [ud2]
 rw [uii,uiM,List.range_eq_range']
 rfl
def uf8 (c:Clr):Nat→Nat→(Nat→Int)→Nat→Int
 |0,_,q=>q
 |n+1,i,q=>uf8 c n (i+1) (ucH c i q (cnt (c.mv.getD i v0)-1))
theorem uoc {c:Clr} {j:Nat}:∀{n i:Nat} {q:Nat→Int},j<i→uf8 c n i q j=q j
 |0,_,_,_=>rfl
 | n+1,i,q,h=>by
  simp only [uf8]
  rw [uoc (show j<i+1 by omega)]
  exact uhL (by omega)
theorem udF {c:Clr} {i x:Nat} {q:Nat→Int}:ucH c i q x i=(c.mv.getD i v0).ql+(x:Int):=ukm
theorem udU {c:Clr} {i j x:Nat} {q:Nat→Int}(h:j≠i):ucH c i q x j=q j:=uhL h
def Nw (T:Bool)(f q:Nat→Int)(i:Nat):Prop:=T=true→∃j,j<i∧f j≠q j
structure LpQ (c:Clr)(n i:Nat)(q:Nat→Int)(x:Nat)(T:Bool)(f Q:Nat→Int):Prop where
 nw:x<cnt (c.mv.getD i v0)→Nw T f (ucH c i q x) (i+1)
 qe:∀j,j≠i→Q j=q j
 last:0<x→T=true∧f=uf8 c n (i+1) (ucH c i q (x-1))
theorem uf4 {c:Clr} {n i:Nat} {q:Nat→Int} {T:Bool} {f:Nat→Int}(h:Nw T f q i):LpQ c n i q 0 T f q:=
 ⟨fun _ ht=>let ⟨j,h1,h2⟩:=h ht;⟨j,by omega,by rw [udU (by omega)];exact h2⟩,fun _ _=>rfl,fun h=>by omega⟩
theorem udr {c:Clr} {n i:Nat} {q:Nat→Int} {x:Nat}:LpQ c n i q (x+1) true (uf8 c n (i+1) (ucH c i q x)) (ucH c i q x):=
 ⟨fun _ _=>⟨i,by omega,by rw [uoc (by omega),udF,udF];omega⟩,fun _ h=>udU h,fun _=>⟨rfl,rfl⟩⟩
theorem uhP {c:Clr} {n i:Nat} {q:Nat→Int} {x:Nat} {T:Bool} {f Q:Nat→Int}(h:LpQ c n i q x T f Q)(hx:x=cnt (c.mv.getD i v0))(h0:0<x):T=true∧f=uf8 c (n+1) i q:=by
 obtain⟨h1,h2⟩:=h.last h0
 subst hx
 exact⟨h1,h2⟩
theorem uhg {T:Bool} {f q:Nat→Int} {i:Nat}(h:Nw T f q i)(ht:T=true)(he:∀j,j<i→f j=q j):False:=by
 obtain⟨j,h1,h2⟩:=h ht
 exact h2 (he j h1)
end Go.Eng.Ck

namespace Go.Proofs.Ytpkgnhcfmpbidaa
open Go Go.Eng Go.Proofs Go.Eng.Ck Go.Eng.Few
set_option maxRecDepth 10000
def udY :SC:=[(13,[⟨0,false,[],false,1,none⟩,⟨1,true,[],false,2,none⟩,qb 2 [0,1]])]
theorem ufi :umK Try.prog 154 4:=uog (e:=3) (by kernel_rfl)
theorem uem {n:Nat} {f g:IX→SV} {l m:List SV}(h:∀ix:IX,0≤ix.den→ix.den<(n:Int)→Fit (f ix) (g ix))(h':Fit (.agg l) (.agg m)):Fit (.agg (.arr n f::l)) (.agg (.arr n g::m)):=⟨fun μ ν v q=>by
 cases q with
 |arr _ _ _ _ cs rest h1 h2 h3 h4=>exact .arr ν n g m cs rest h1 (fun ix a b=>(h ix a b).le _ _ _ (h2 ix a b)) h3 (h'.le _ _ _ h4)
 |cons _ _ _ c rest h1 h2 h3=>cases h1⟩
theorem ueA (i:Nat):upG (zi i) 1=zi (i+1):=rfl
theorem eq4 {q f:Nat→Int}(h:decide (uaS [.sym fun _=>q 0,.sym fun _=>q 1,.sym fun _=>q 2,.sym fun _=>q 3]=uaS [.sym fun _=>f 0,.sym fun _=>f 1,.sym fun _=>f 2,.sym fun _=>f 3])=true)(j:Nat)(hj:j<4):f j=q j:=by
 have h1:=of_decide_eq_true h
 simp only [uaS,IX.den,List.cons.injEq,and_true]at h1
 match j with
 |0=>exact h1.1.symm
 |1=>exact h1.2.1.symm
 |2=>exact h1.2.2.1.symm
 |3=>exact h1.2.2.2.symm
theorem ukM :ua0 Try.prog 110 [.any] [] (fun r _=>r=(.bool (.lit true))):=by
 refine ua0.is fun R hR=>qY (sc:=uxG) uas mix Try.func110 rfl Try.call110 (by kernel_rfl) (by kernel_rfl) ?_
 generalize Try.prog=P
 cbv
 all_goals first|(subst hR;exact Fit.refl _)
set_option maxHeartbeats 4000000 in
theorem uuw (c:Clr)(i:Nat)(T:Bool)(f q:Nat→Int)(hC:COk c)(hq:∀j,0≤q j∧q j≤1000)(hn:Nw T f q (i))(hi:i=c.mv.length)(ho:okQ c q=true):ua0 Try.prog 111 [(iv fun _=>zi i),(.agg [(.arr 4 (fun ix=>(iv fun _=>q ix.den.toNat)))]),.own 0 0,.own 1 0,.own 2 0,.own 3 0,.own 4 0] [.cells [(caS c.cs),(mvS c.mv),(gaS c.gs)] 36,.cells [.clo 111 [] [.own 0 0,.own 1 0,.own 2 0,.own 3 0,.own 4 0]] 177,.cells [(bv fun _=>T)] 4,.cells [.arr 4 (fun ix=>(iv fun _=>f ix.den.toNat))] 154,.cells [.clo 110 [] []] 166] (fun r bs=>r=(.bool (.lit true))∧bs=[.cells [(caS c.cs),(mvS c.mv),(gaS c.gs)] 36,.cells [.clo 111 [] [.own 0 0,.own 1 0,.own 2 0,.own 3 0,.own 4 0]] 177,.cells [(.bool (.lit true))] 4,.cells [.arr 4 (fun ix=>(iv fun _=>q ix.den.toNat))] 154,.cells [.clo 110 [] []] 166]):=by
 have h154:=ufi
 have c112:=uoH c q hC hq ho
 have c110:=ukM
 refine ua0.isB rfl fun R B hR hB=>qY (sc:=udY) uas mix Try.func111 rfl Try.call111 (by kernel_rfl) (by kernel_rfl) ?_
 generalize Try.prog=P at h154 c112 c110⊢
 cbv
 have hm4:=hC.m4
 repeat' (first
  |with_reducible refine ua3 ?_ ?_
  |with_reducible refine And.intro ?_ ?_
  |(with_reducible intro hcd;(try simp only [zA,zB,zC,zD,zE,zF,zG,zH,zI,zJ,zK,zL,zM,zN,zO,zP]at hcd);try cbv)
  | (refine Exists.intro (α:=Nat) 2 ?_
     cbv)
  |(refine qQ ?_ (c112) ?hfit;(case hfit=>((repeat' (first|exact qB|refine qD ?_ ?_|exact qE (by rfl)|exact qF (by rfl)|exact Fit.refl _|exact qA|refine qC ?_ rfl ?_));done));try cbv)
  |(refine qQ ?_ (c110) ?hfit;(case hfit=>(exact qD (qG _) qB;done));try cbv)
  |fail)
 all_goals first|trivial|((try simp only [qX]at *);(try simp only [zQ,zA,zB,zC,zD,zE,zF,zG,zH,zI,zJ,zK,zL,zM,zN,zO,zP,zR,zS]at *);first|(refine qO ?_;omega)|(simp only [uap];omega))|(subst hR;exact Fit.refl _;done)|(subst hB;(repeat' (first|exact qH|refine qI ?_ ?_|exact qK _|refine qJ ?_|exact qA|exact qE (by rfl)|exact qF (by rfl)|exact Fit.refl _|exact qG _|refine qC ?_ rfl ?_));done)|(exfalso;exact uhg hn (by assumption) (fun j hj=>eq4 (q:=q) (f:=f) (by assumption) j (by omega)))|(exfalso;(try simp only [qX]at *);(try simp only [zQ,zA,zB,zC,zD,zE,zF,zG,zH,zI,zJ,zK,zL,zM,zN,zO,zP,zR,zS]at *);omega)|skip
set_option maxHeartbeats 4000000 in
theorem uve (c:Clr)(i:Nat)(T:Bool)(f q:Nat→Int)(hC:COk c)(hq:∀j,0≤q j∧q j≤1000)(hn:Nw T f q (i))(hi:i=c.mv.length)(ho:okQ c q=false):ua0 Try.prog 111 [(iv fun _=>zi i),(.agg [(.arr 4 (fun ix=>(iv fun _=>q ix.den.toNat)))]),.own 0 0,.own 1 0,.own 2 0,.own 3 0,.own 4 0] [.cells [(caS c.cs),(mvS c.mv),(gaS c.gs)] 36,.cells [.clo 111 [] [.own 0 0,.own 1 0,.own 2 0,.own 3 0,.own 4 0]] 177,.cells [(bv fun _=>T)] 4,.cells [.arr 4 (fun ix=>(iv fun _=>f ix.den.toNat))] 154,.cells [.clo 110 [] []] 166] (fun r bs=>r=(.bool (.lit false))∧bs=[.cells [(caS c.cs),(mvS c.mv),(gaS c.gs)] 36,.cells [.clo 111 [] [.own 0 0,.own 1 0,.own 2 0,.own 3 0,.own 4 0]] 177,.cells [(.bool (.lit true))] 4,.cells [.arr 4 (fun ix=>(iv fun _=>q ix.den.toNat))] 154,.cells [.clo 110 [] []] 166]):=by
 have h154:=ufi
 have c112:=unu c q hC hq ho
 have c110:=ukM
 refine ua0.isB rfl fun R B hR hB=>qY (sc:=udY) uas mix Try.func111 rfl Try.call111 (by kernel_rfl) (by kernel_rfl) ?_
 generalize Try.prog=P at h154 c112 c110⊢
 cbv
 have hm4:=hC.m4
 repeat' (first
  |with_reducible refine ua3 ?_ ?_
  |with_reducible refine And.intro ?_ ?_
  |(with_reducible intro hcd;(try simp only [zA,zB,zC,zD,zE,zF,zG,zH,zI,zJ,zK,zL,zM,zN,zO,zP]at hcd);try cbv)
  | (refine Exists.intro (α:=Nat) 2 ?_
     cbv)
  |(refine qQ ?_ (c112) ?hfit;(case hfit=>((repeat' (first|exact qB|refine qD ?_ ?_|exact qE (by rfl)|exact qF (by rfl)|exact Fit.refl _|exact qA|refine qC ?_ rfl ?_));done));try cbv)
  |fail)
 all_goals first|trivial|((try simp only [qX]at *);(try simp only [zQ,zA,zB,zC,zD,zE,zF,zG,zH,zI,zJ,zK,zL,zM,zN,zO,zP,zR,zS]at *);first|(refine qO ?_;omega)|(simp only [uap];omega))|(subst hR;exact Fit.refl _;done)|(subst hB;(repeat' (first|exact qH|refine qI ?_ ?_|exact qK _|refine qJ ?_|exact qA|exact qE (by rfl)|exact qF (by rfl)|exact Fit.refl _|exact qG _|refine qC ?_ rfl ?_));done)|(exfalso;exact uhg hn (by assumption) (fun j hj=>eq4 (q:=q) (f:=f) (by assumption) j (by omega)))|(exfalso;(try simp only [qX]at *);(try simp only [zQ,zA,zB,zC,zD,zE,zF,zG,zH,zI,zJ,zK,zL,zM,zN,zO,zP,zR,zS]at *);omega)|skip
set_option maxHeartbeats 4000000 in
theorem uuY (c:Clr)(i:Nat)(T:Bool)(f q:Nat→Int)(n:Nat)(F0:Nat→Int)(hC:COk c)(hq:∀j,0≤q j∧q j≤1000)(hn:Nw T f q (i))(hi:i+(n+1)=c.mv.length)(hch:fQ c (n+1) i q=some F0)(ih:∀(T:Bool) (f q:Nat→Int),(∀j,0≤q j∧q j≤1000)→Nw T f q (i+1)→(∀F,fQ c n (i+1) q=some F→ua0 Try.prog 111 [(iv fun _=>zi (i+1)),(.agg [(.arr 4 (fun ix=>(iv fun _=>q ix.den.toNat)))]),.own 0 0,.own 1 0,.own 2 0,.own 3 0,.own 4 0] [.cells [(caS c.cs),(mvS c.mv),(gaS c.gs)] 36,.cells [.clo 111 [] [.own 0 0,.own 1 0,.own 2 0,.own 3 0,.own 4 0]] 177,.cells [(bv fun _=>T)] 4,.cells [.arr 4 (fun ix=>(iv fun _=>f ix.den.toNat))] 154,.cells [.clo 110 [] []] 166] (fun r bs=>r=(.bool (.lit true))∧bs=[.cells [(caS c.cs),(mvS c.mv),(gaS c.gs)] 36,.cells [.clo 111 [] [.own 0 0,.own 1 0,.own 2 0,.own 3 0,.own 4 0]] 177,.cells [(.bool (.lit true))] 4,.cells [.arr 4 (fun ix=>(iv fun _=>F ix.den.toNat))] 154,.cells [.clo 110 [] []] 166]))∧(fQ c n (i+1) q=none→ua0 Try.prog 111 [(iv fun _=>zi (i+1)),(.agg [(.arr 4 (fun ix=>(iv fun _=>q ix.den.toNat)))]),.own 0 0,.own 1 0,.own 2 0,.own 3 0,.own 4 0] [.cells [(caS c.cs),(mvS c.mv),(gaS c.gs)] 36,.cells [.clo 111 [] [.own 0 0,.own 1 0,.own 2 0,.own 3 0,.own 4 0]] 177,.cells [(bv fun _=>T)] 4,.cells [.arr 4 (fun ix=>(iv fun _=>f ix.den.toNat))] 154,.cells [.clo 110 [] []] 166] (fun r bs=>r=(.bool (.lit false))∧bs=[.cells [(caS c.cs),(mvS c.mv),(gaS c.gs)] 36,.cells [.clo 111 [] [.own 0 0,.own 1 0,.own 2 0,.own 3 0,.own 4 0]] 177,.cells [(.bool (.lit true))] 4,.cells [.arr 4 (fun ix=>(iv fun _=>(uf8 c n (i+1) q) ix.den.toNat))] 154,.cells [.clo 110 [] []] 166]))):ua0 Try.prog 111 [(iv fun _=>zi i),(.agg [(.arr 4 (fun ix=>(iv fun _=>q ix.den.toNat)))]),.own 0 0,.own 1 0,.own 2 0,.own 3 0,.own 4 0] [.cells [(caS c.cs),(mvS c.mv),(gaS c.gs)] 36,.cells [.clo 111 [] [.own 0 0,.own 1 0,.own 2 0,.own 3 0,.own 4 0]] 177,.cells [(bv fun _=>T)] 4,.cells [.arr 4 (fun ix=>(iv fun _=>f ix.den.toNat))] 154,.cells [.clo 110 [] []] 166] (fun r bs=>r=(.bool (.lit true))∧bs=[.cells [(caS c.cs),(mvS c.mv),(gaS c.gs)] 36,.cells [.clo 111 [] [.own 0 0,.own 1 0,.own 2 0,.own 3 0,.own 4 0]] 177,.cells [(.bool (.lit true))] 4,.cells [.arr 4 (fun ix=>(iv fun _=>F0 ix.den.toNat))] 154,.cells [.clo 110 [] []] 166]):=by
 have c110:=ukM
 have ih2:=ih
 refine ua0.isB rfl fun R B hR hB=>qY (sc:=udY) uas mix Try.func111 rfl Try.call111 (by kernel_rfl) (by kernel_rfl) ?_
 generalize Try.prog=P at c110 ih2⊢
 cbv
 have hm4:=hC.m4
 have hv:=hC.v i (by omega)
 have hq1:=hv.q1
 have hq0:=hv.q0
 have hq2:=hv.q2
 have hct:zi (cnt (c.mv.getD i v0))=(c.mv.getD i v0).qh-(c.mv.getD i v0).ql+1:=by simp only [uaw];unfold cnt;omega
 have hc1:1≤cnt (c.mv.getD i v0):=by unfold cnt;omega
 repeat' (first|with_reducible refine ua3 ?_ ?_|with_reducible refine And.intro ?_ ?_|(with_reducible intro hcd;(try simp only [zA,zB,zC,zD,zE,zF,zG,zH,zI,zJ,zK,zL,zM,zN,zO,zP]at hcd);try cbv)|fail)
 all_goals first|((try simp only [qX]at *);(try simp only [zQ,zA,zB,zC,zD,zE,zF,zG,zH,zI,zJ,zK,zL,zM,zN,zO,zP,zR,zS]at *);first|(refine qO ?_;omega)|(simp only [uap];omega))|(exfalso;(try simp only [qX]at *);(try simp only [zQ,zA,zB,zC,zD,zE,zF,zG,zH,zI,zJ,zK,zL,zM,zN,zO,zP,zR,zS]at *);omega)|skip
 refine⟨none,[],{x:Nat×Bool×(Nat→Int)×(Nat→Int) // (x.1≤cnt (c.mv.getD i v0)∧frs (fun x=>fQ c n (i+1) (ucH c i q x)) (cnt (c.mv.getD i v0)-x.1) x.1=some F0)∧LpQ c n i q x.1 x.2.1 x.2.2.1 x.2.2.2},fun x=>⟨[(0,(iv fun _=>zi i)),(2,.own 0 0),(3,.own 1 0),(4,.own 2 0),(5,.own 3 0),(6,.own 4 0),(8,.own 5 0),(10,.own 18 0),(30,(iv fun _=>zi (cnt (c.mv.getD i v0)))),(31,(iv fun _=>zi x.1.1))],[(0,.cells [(caS c.cs),(mvS c.mv),(gaS c.gs)] 36),(1,.cells [.clo 111 [] [.own 0 0,.own 1 0,.own 2 0,.own 3 0,.own 4 0]] 177),(2,.cells [(bv fun _=>x.1.2.1)] 4),(3,.cells [.arr 4 (fun ix=>(iv fun _=>x.1.2.2.1 ix.den.toNat))] 154),(4,.cells [.clo 110 [] []] 166),(5,.cells [.arr 4 (fun ix=>(iv fun _=>x.1.2.2.2 ix.den.toNat))] 154),(18,.cells [(iv fun _=>(c.mv.getD i v0).ql),(iv fun _=>(c.mv.getD i v0).qh)] 39)],60⟩,fun x=>cnt (c.mv.getD i v0)-x.1.1,?_,?_⟩
 ·refine⟨⟨(0,T,f,q),⟨by simp only [];omega,by rw [ujZ]at hch;exact hch⟩,uf4 hn⟩,?_⟩
  cbv
  repeat' (first|with_reducible refine ua3 ?_ ?_|with_reducible refine And.intro ?_ ?_)
  all_goals first|trivial|exact qN (qE (by rfl))|exact qN (Fit.refl _)|exact qL (qK _)|(refine qN (qE ?_);(try simp only [qX]at *);simp only [zQ,zA,zB,zC,zD,zE,zF,zG,zH,zI,zJ,zK,zL,zM,zN,zO,zP,zR,zS]at *;omega)|skip
 ·rintro ⟨⟨x,T1,f1,Q⟩,⟨h1,h2⟩,h3⟩
  cbv
  dsimp only at h1 h2 h3
  obtain⟨Qn,hQe⟩:∃Q',Q'=ucH c i q x:=⟨_,rfl⟩
  obtain⟨Lq,hLq⟩:∃f,f=uf8 c n (i+1) Qn:=⟨_,rfl⟩
  have hQy:∀j,j=i→(c.mv.getD i v0).ql+zi x=Qn j:=fun j h=>by rw [hQe,h];exact udF.symm
  have hQn:∀j,j≠i→Q j=Qn j:=fun j h=>by rw [hQe,udU h];exact h3.qe j h
  have hqb:x<cnt (c.mv.getD i v0)→∀j,0≤Qn j∧Qn j≤1000:=fun hx j=>by
   by_cases h:j=i
   ·have h8:=hQy j h
    simp only [uaw]at h8 hct
    omega
   ·rw [←hQn j h,h3.qe j h];exact hq j
  have hnb:x<cnt (c.mv.getD i v0)→Nw T1 f1 Qn (i+1):=fun hx=>by rw [hQe];exact h3.nw hx
  have hQf:∀{G},fQ c n (i+1) Qn=some G→(fun x=>fQ c n (i+1) (ucH c i q x)) x=some G:=fun h=>by rw [hQe]at h;exact h
  have hQg:fQ c n (i+1) Qn=none→(fun x=>fQ c n (i+1) (ucH c i q x)) x=none:=fun h=>by rw [hQe]at h;exact h
  repeat' (first
   |with_reducible refine ua3 ?_ ?_
   |with_reducible refine And.intro ?_ ?_
   |(with_reducible intro hcd;(try simp only [zA,zB,zC,zD,zE,zF,zG,zH,zI,zJ,zK,zL,zM,zN,zO,zP]at hcd);try cbv)
   | (refine⟨fun ix=>(iv fun _=>Qn ix.den.toNat),?_⟩
      cbv
      refine ua3 (ubS (by intro jx h0 h1 h2;refine qE ?_;(try simp only [qX]at *);(try simp only [zQ,zA,zB,zC,zD,zE,zF,zG,zH,zI,zJ,zK,zL,zM,zN,zO,zP,zR,zS]at *);exact hQy _ (by omega)) (by intro jx h0 h1 h2;refine qE ?_;(try simp only [qX]at *);(try simp only [zQ,zA,zB,zC,zD,zE,zF,zG,zH,zI,zJ,zK,zL,zM,zN,zO,zP,zR,zS]at *);exact hQn _ (by omega))) ?_
      try cbv)
   |((have hx:x<cnt (c.mv.getD i v0):= om);(rcases hcj:fQ c n (i+1) Qn with _|G)<;>(first|(have c7:=(ih2 T1 f1 Qn (hqb hx) (hnb hx)).2 hcj;rw [←hLq]at c7;(refine⟨some [0,1,2,3,4],?_⟩;cbv;refine qR ?_ (c7) (by cbv;refine qD (qE (ueA i)) ?_;(repeat' (first|exact qB|refine qD ?_ ?_|exact qE (by rfl)|exact qF (by rfl)|exact Fit.refl _|exact qA|refine qC ?_ rfl ?_))) (by cbv;(repeat' (first|exact qH|refine qI ?_ ?_|exact qK _|refine qJ ?_|exact qA|exact qE (by rfl)|exact qF (by rfl)|exact Fit.refl _|exact qG _|refine qC ?_ rfl ?_)));(try cbv)))|(refine⟨some [0,1,2,3,4],?_⟩;cbv;refine qR ?_ ((ih2 T1 f1 Qn (hqb hx) (hnb hx)).1 G hcj) (by cbv;refine qD (qE (ueA i)) ?_;(repeat' (first|exact qB|refine qD ?_ ?_|exact qE (by rfl)|exact qF (by rfl)|exact Fit.refl _|exact qA|refine qC ?_ rfl ?_))) (by cbv;(repeat' (first|exact qH|refine qI ?_ ?_|exact qK _|refine qJ ?_|exact qA|exact qE (by rfl)|exact qF (by rfl)|exact Fit.refl _|exact qG _|refine qC ?_ rfl ?_)));(try cbv))))
   |fail)
  all_goals first|((try simp only [qX]at *);(try simp only [zQ,zA,zB,zC,zD,zE,zF,zG,zH,zI,zJ,zK,zL,zM,zN,zO,zP,zR,zS]at *);first|(refine qO ?_;omega)|(simp only [uap];omega))|(subst hR;exact Fit.refl _;done)|((have hxe:x=cnt (c.mv.getD i v0):= om);rw [show cnt (c.mv.getD i v0)-x=0 by omega]at h2;cases h2;done)|((have hx:x<cnt (c.mv.getD i v0):= om);cases (ujK (f:=fun x=>fQ c n (i+1) (ucH c i q x)) (k:=cnt (c.mv.getD i v0)-x) (i:=x) (by omega) (hQf hcj)).symm.trans h2;subst hB;(repeat' (first|exact qH|refine qI ?_ ?_|exact qK _|refine qJ ?_|exact qA|exact qE (by rfl)|exact qF (by rfl)|exact Fit.refl _|exact qG _|refine qC ?_ rfl ?_));done)|((have hx:x<cnt (c.mv.getD i v0):= om);refine⟨⟨(x+1,true,Lq,Qn),⟨by simp only [];omega,by simp only [];rw [show cnt (c.mv.getD i v0)-(x+1)=cnt (c.mv.getD i v0)-x-1 by omega];exact(upc (f:=fun x=>fQ c n (i+1) (ucH c i q x)) (k:=cnt (c.mv.getD i v0)-x) (i:=x) (by omega) (hQg hcj)).symm.trans h2⟩,by simp only [];rw [hLq,hQe];exact udr⟩,by simp only [];omega,?_⟩;cbv;(repeat' (first|with_reducible refine ua3 ?_ ?_|with_reducible refine And.intro ?_ ?_));(all_goals first|trivial|exact qN (qE (by rfl))|exact qN (qF (by rfl))|exact qN (Fit.refl _)|exact qL (qK _)|(refine qN (qE ?_);(try simp only [qX]at *);simp only [zQ,zA,zB,zC,zD,zE,zF,zG,zH,zI,zJ,zK,zL,zM,zN,zO,zP,zR,zS]at *;omega)|(refine qL (qJ ?_);(repeat' (first|exact qA|exact qB|refine qC ?_ rfl ?_|refine qD ?_ ?_|exact qE (by rfl)|exact qF (by rfl)|exact Fit.refl _|exact qG _|(refine qE ?_;(try simp only [qX]at *);simp only [zQ,zA,zB,zC,zD,zE,zF,zG,zH,zI,zJ,zK,zL,zM,zN,zO,zP,zR,zS]at *;omega)));done)|(refine qL ?_;first|exact qK _)|skip))|skip
set_option maxHeartbeats 4000000 in
theorem uuD (c:Clr)(i:Nat)(T:Bool)(f q:Nat→Int)(n:Nat)(hC:COk c)(hq:∀j,0≤q j∧q j≤1000)(hn:Nw T f q (i))(hi:i+(n+1)=c.mv.length)(hch:fQ c (n+1) i q=none)(ih:∀(T:Bool) (f q:Nat→Int),(∀j,0≤q j∧q j≤1000)→Nw T f q (i+1)→(∀F,fQ c n (i+1) q=some F→ua0 Try.prog 111 [(iv fun _=>zi (i+1)),(.agg [(.arr 4 (fun ix=>(iv fun _=>q ix.den.toNat)))]),.own 0 0,.own 1 0,.own 2 0,.own 3 0,.own 4 0] [.cells [(caS c.cs),(mvS c.mv),(gaS c.gs)] 36,.cells [.clo 111 [] [.own 0 0,.own 1 0,.own 2 0,.own 3 0,.own 4 0]] 177,.cells [(bv fun _=>T)] 4,.cells [.arr 4 (fun ix=>(iv fun _=>f ix.den.toNat))] 154,.cells [.clo 110 [] []] 166] (fun r bs=>r=(.bool (.lit true))∧bs=[.cells [(caS c.cs),(mvS c.mv),(gaS c.gs)] 36,.cells [.clo 111 [] [.own 0 0,.own 1 0,.own 2 0,.own 3 0,.own 4 0]] 177,.cells [(.bool (.lit true))] 4,.cells [.arr 4 (fun ix=>(iv fun _=>F ix.den.toNat))] 154,.cells [.clo 110 [] []] 166]))∧(fQ c n (i+1) q=none→ua0 Try.prog 111 [(iv fun _=>zi (i+1)),(.agg [(.arr 4 (fun ix=>(iv fun _=>q ix.den.toNat)))]),.own 0 0,.own 1 0,.own 2 0,.own 3 0,.own 4 0] [.cells [(caS c.cs),(mvS c.mv),(gaS c.gs)] 36,.cells [.clo 111 [] [.own 0 0,.own 1 0,.own 2 0,.own 3 0,.own 4 0]] 177,.cells [(bv fun _=>T)] 4,.cells [.arr 4 (fun ix=>(iv fun _=>f ix.den.toNat))] 154,.cells [.clo 110 [] []] 166] (fun r bs=>r=(.bool (.lit false))∧bs=[.cells [(caS c.cs),(mvS c.mv),(gaS c.gs)] 36,.cells [.clo 111 [] [.own 0 0,.own 1 0,.own 2 0,.own 3 0,.own 4 0]] 177,.cells [(.bool (.lit true))] 4,.cells [.arr 4 (fun ix=>(iv fun _=>(uf8 c n (i+1) q) ix.den.toNat))] 154,.cells [.clo 110 [] []] 166]))):ua0 Try.prog 111 [(iv fun _=>zi i),(.agg [(.arr 4 (fun ix=>(iv fun _=>q ix.den.toNat)))]),.own 0 0,.own 1 0,.own 2 0,.own 3 0,.own 4 0] [.cells [(caS c.cs),(mvS c.mv),(gaS c.gs)] 36,.cells [.clo 111 [] [.own 0 0,.own 1 0,.own 2 0,.own 3 0,.own 4 0]] 177,.cells [(bv fun _=>T)] 4,.cells [.arr 4 (fun ix=>(iv fun _=>f ix.den.toNat))] 154,.cells [.clo 110 [] []] 166] (fun r bs=>r=(.bool (.lit false))∧bs=[.cells [(caS c.cs),(mvS c.mv),(gaS c.gs)] 36,.cells [.clo 111 [] [.own 0 0,.own 1 0,.own 2 0,.own 3 0,.own 4 0]] 177,.cells [(.bool (.lit true))] 4,.cells [.arr 4 (fun ix=>(iv fun _=>(uf8 c (n+1) i q) ix.den.toNat))] 154,.cells [.clo 110 [] []] 166]):=by
 have c110:=ukM
 have ih2:=ih
 refine ua0.isB rfl fun R B hR hB=>qY (sc:=udY) uas mix Try.func111 rfl Try.call111 (by kernel_rfl) (by kernel_rfl) ?_
 generalize Try.prog=P at c110 ih2⊢
 cbv
 have hm4:=hC.m4
 have hv:=hC.v i (by omega)
 have hq1:=hv.q1
 have hq0:=hv.q0
 have hq2:=hv.q2
 have hct:zi (cnt (c.mv.getD i v0))=(c.mv.getD i v0).qh-(c.mv.getD i v0).ql+1:=by simp only [uaw];unfold cnt;omega
 have hc1:1≤cnt (c.mv.getD i v0):=by unfold cnt;omega
 repeat' (first|with_reducible refine ua3 ?_ ?_|with_reducible refine And.intro ?_ ?_|(with_reducible intro hcd;(try simp only [zA,zB,zC,zD,zE,zF,zG,zH,zI,zJ,zK,zL,zM,zN,zO,zP]at hcd);try cbv)|fail)
 all_goals first|((try simp only [qX]at *);(try simp only [zQ,zA,zB,zC,zD,zE,zF,zG,zH,zI,zJ,zK,zL,zM,zN,zO,zP,zR,zS]at *);first|(refine qO ?_;omega)|(simp only [uap];omega))|(subst hR;exact Fit.refl _;done)|(exfalso;(try simp only [qX]at *);(try simp only [zQ,zA,zB,zC,zD,zE,zF,zG,zH,zI,zJ,zK,zL,zM,zN,zO,zP,zR,zS]at *);omega)|skip
 refine⟨none,[],{x:Nat×Bool×(Nat→Int)×(Nat→Int) // (x.1≤cnt (c.mv.getD i v0)∧frs (fun x=>fQ c n (i+1) (ucH c i q x)) (cnt (c.mv.getD i v0)-x.1) x.1=none)∧LpQ c n i q x.1 x.2.1 x.2.2.1 x.2.2.2},fun x=>⟨[(0,(iv fun _=>zi i)),(2,.own 0 0),(3,.own 1 0),(4,.own 2 0),(5,.own 3 0),(6,.own 4 0),(8,.own 5 0),(10,.own 18 0),(30,(iv fun _=>zi (cnt (c.mv.getD i v0)))),(31,(iv fun _=>zi x.1.1))],[(0,.cells [(caS c.cs),(mvS c.mv),(gaS c.gs)] 36),(1,.cells [.clo 111 [] [.own 0 0,.own 1 0,.own 2 0,.own 3 0,.own 4 0]] 177),(2,.cells [(bv fun _=>x.1.2.1)] 4),(3,.cells [.arr 4 (fun ix=>(iv fun _=>x.1.2.2.1 ix.den.toNat))] 154),(4,.cells [.clo 110 [] []] 166),(5,.cells [.arr 4 (fun ix=>(iv fun _=>x.1.2.2.2 ix.den.toNat))] 154),(18,.cells [(iv fun _=>(c.mv.getD i v0).ql),(iv fun _=>(c.mv.getD i v0).qh)] 39)],60⟩,fun x=>cnt (c.mv.getD i v0)-x.1.1,?_,?_⟩
 ·refine⟨⟨(0,T,f,q),⟨by simp only [];omega,by rw [ujZ]at hch;exact hch⟩,uf4 hn⟩,?_⟩
  cbv
  repeat' (first|with_reducible refine ua3 ?_ ?_|with_reducible refine And.intro ?_ ?_)
  all_goals first|trivial|exact qN (qE (by rfl))|exact qN (Fit.refl _)|exact qL (qK _)|(refine qN (qE ?_);(try simp only [qX]at *);simp only [zQ,zA,zB,zC,zD,zE,zF,zG,zH,zI,zJ,zK,zL,zM,zN,zO,zP,zR,zS]at *;omega)|skip
 ·rintro ⟨⟨x,T1,f1,Q⟩,⟨h1,h2⟩,h3⟩
  cbv
  dsimp only at h1 h2 h3
  obtain⟨Qn,hQe⟩:∃Q',Q'=ucH c i q x:=⟨_,rfl⟩
  obtain⟨Lq,hLq⟩:∃f,f=uf8 c n (i+1) Qn:=⟨_,rfl⟩
  have hQy:∀j,j=i→(c.mv.getD i v0).ql+zi x=Qn j:=fun j h=>by rw [hQe,h];exact udF.symm
  have hQn:∀j,j≠i→Q j=Qn j:=fun j h=>by rw [hQe,udU h];exact h3.qe j h
  have hqb:x<cnt (c.mv.getD i v0)→∀j,0≤Qn j∧Qn j≤1000:=fun hx j=>by
   by_cases h:j=i
   ·have h8:=hQy j h
    simp only [uaw]at h8 hct
    omega
   ·rw [←hQn j h,h3.qe j h];exact hq j
  have hnb:x<cnt (c.mv.getD i v0)→Nw T1 f1 Qn (i+1):=fun hx=>by rw [hQe];exact h3.nw hx
  have hQf:∀{G},fQ c n (i+1) Qn=some G→(fun x=>fQ c n (i+1) (ucH c i q x)) x=some G:=fun h=>by rw [hQe]at h;exact h
  have hQg:fQ c n (i+1) Qn=none→(fun x=>fQ c n (i+1) (ucH c i q x)) x=none:=fun h=>by rw [hQe]at h;exact h
  repeat' (first
   |with_reducible refine ua3 ?_ ?_
   |with_reducible refine And.intro ?_ ?_
   |(with_reducible intro hcd;(try simp only [zA,zB,zC,zD,zE,zF,zG,zH,zI,zJ,zK,zL,zM,zN,zO,zP]at hcd);try cbv)
   | (refine⟨fun ix=>(iv fun _=>Qn ix.den.toNat),?_⟩
      cbv
      refine ua3 (ubS (by intro jx h0 h1 h2;refine qE ?_;(try simp only [qX]at *);(try simp only [zQ,zA,zB,zC,zD,zE,zF,zG,zH,zI,zJ,zK,zL,zM,zN,zO,zP,zR,zS]at *);exact hQy _ (by omega)) (by intro jx h0 h1 h2;refine qE ?_;(try simp only [qX]at *);(try simp only [zQ,zA,zB,zC,zD,zE,zF,zG,zH,zI,zJ,zK,zL,zM,zN,zO,zP,zR,zS]at *);exact hQn _ (by omega))) ?_
      try cbv)
   |((have hx:x<cnt (c.mv.getD i v0):= om);(rcases hcj:fQ c n (i+1) Qn with _|G)<;>(first|(have c7:=(ih2 T1 f1 Qn (hqb hx) (hnb hx)).2 hcj;rw [←hLq]at c7;(refine⟨some [0,1,2,3,4],?_⟩;cbv;refine qR ?_ (c7) (by cbv;refine qD (qE (ueA i)) ?_;(repeat' (first|exact qB|refine qD ?_ ?_|exact qE (by rfl)|exact qF (by rfl)|exact Fit.refl _|exact qA|refine qC ?_ rfl ?_))) (by cbv;(repeat' (first|exact qH|refine qI ?_ ?_|exact qK _|refine qJ ?_|exact qA|exact qE (by rfl)|exact qF (by rfl)|exact Fit.refl _|exact qG _|refine qC ?_ rfl ?_)));(try cbv)))|(refine⟨some [0,1,2,3,4],?_⟩;cbv;refine qR ?_ ((ih2 T1 f1 Qn (hqb hx) (hnb hx)).1 G hcj) (by cbv;refine qD (qE (ueA i)) ?_;(repeat' (first|exact qB|refine qD ?_ ?_|exact qE (by rfl)|exact qF (by rfl)|exact Fit.refl _|exact qA|refine qC ?_ rfl ?_))) (by cbv;(repeat' (first|exact qH|refine qI ?_ ?_|exact qK _|refine qJ ?_|exact qA|exact qE (by rfl)|exact qF (by rfl)|exact Fit.refl _|exact qG _|refine qC ?_ rfl ?_)));(try cbv))))
   |fail)
  all_goals first|((try simp only [qX]at *);(try simp only [zQ,zA,zB,zC,zD,zE,zF,zG,zH,zI,zJ,zK,zL,zM,zN,zO,zP,zR,zS]at *);first|(refine qO ?_;omega)|(simp only [uap];omega))|(subst hR;exact Fit.refl _;done)|((have hx:x<cnt (c.mv.getD i v0):= om);cases (ujK (f:=fun x=>fQ c n (i+1) (ucH c i q x)) (k:=cnt (c.mv.getD i v0)-x) (i:=x) (by omega) (hQf hcj)).symm.trans h2;done)|((have hxe:x=cnt (c.mv.getD i v0):= om);rw [show cnt (c.mv.getD i v0)-x=0 by omega]at h2;(obtain⟨e1,e2⟩:=uhP h3 hxe (by omega));subst e1 e2;subst hB;(repeat' (first|exact qH|refine qI ?_ ?_|exact qK _|refine qJ ?_|exact qA|exact qE (by rfl)|exact qF (by rfl)|exact Fit.refl _|exact qG _|refine qC ?_ rfl ?_));done)|((have hx:x<cnt (c.mv.getD i v0):= om);refine⟨⟨(x+1,true,Lq,Qn),⟨by simp only [];omega,by simp only [];rw [show cnt (c.mv.getD i v0)-(x+1)=cnt (c.mv.getD i v0)-x-1 by omega];exact(upc (f:=fun x=>fQ c n (i+1) (ucH c i q x)) (k:=cnt (c.mv.getD i v0)-x) (i:=x) (by omega) (hQg hcj)).symm.trans h2⟩,by simp only [];rw [hLq,hQe];exact udr⟩,by simp only [];omega,?_⟩;cbv;(repeat' (first|with_reducible refine ua3 ?_ ?_|with_reducible refine And.intro ?_ ?_));(all_goals first|trivial|exact qN (qE (by rfl))|exact qN (qF (by rfl))|exact qN (Fit.refl _)|exact qL (qK _)|(refine qN (qE ?_);(try simp only [qX]at *);simp only [zQ,zA,zB,zC,zD,zE,zF,zG,zH,zI,zJ,zK,zL,zM,zN,zO,zP,zR,zS]at *;omega)|(refine qL (qJ ?_);(repeat' (first|exact qA|exact qB|refine qC ?_ rfl ?_|refine qD ?_ ?_|exact qE (by rfl)|exact qF (by rfl)|exact Fit.refl _|exact qG _|(refine qE ?_;(try simp only [qX]at *);simp only [zQ,zA,zB,zC,zD,zE,zF,zG,zH,zI,zJ,zK,zL,zM,zN,zO,zP,zR,zS]at *;omega)));done)|(refine qL ?_;first|exact qK _)|skip))|skip
theorem umQ (c:Clr)(hC:COk c):∀(n i:Nat) (T:Bool) (f q:Nat→Int),i+n=c.mv.length→(∀j,0≤q j∧q j≤1000)→Nw T f q i→(∀F,fQ c n i q=some F→ua0 Try.prog 111 [(iv fun _=>zi i),(.agg [(.arr 4 (fun ix=>(iv fun _=>q ix.den.toNat)))]),.own 0 0,.own 1 0,.own 2 0,.own 3 0,.own 4 0] [.cells [(caS c.cs),(mvS c.mv),(gaS c.gs)] 36,.cells [.clo 111 [] [.own 0 0,.own 1 0,.own 2 0,.own 3 0,.own 4 0]] 177,.cells [(bv fun _=>T)] 4,.cells [.arr 4 (fun ix=>(iv fun _=>f ix.den.toNat))] 154,.cells [.clo 110 [] []] 166] (fun r bs=>r=(.bool (.lit true))∧bs=[.cells [(caS c.cs),(mvS c.mv),(gaS c.gs)] 36,.cells [.clo 111 [] [.own 0 0,.own 1 0,.own 2 0,.own 3 0,.own 4 0]] 177,.cells [(.bool (.lit true))] 4,.cells [.arr 4 (fun ix=>(iv fun _=>F ix.den.toNat))] 154,.cells [.clo 110 [] []] 166]))∧(fQ c n i q=none→ua0 Try.prog 111 [(iv fun _=>zi i),(.agg [(.arr 4 (fun ix=>(iv fun _=>q ix.den.toNat)))]),.own 0 0,.own 1 0,.own 2 0,.own 3 0,.own 4 0] [.cells [(caS c.cs),(mvS c.mv),(gaS c.gs)] 36,.cells [.clo 111 [] [.own 0 0,.own 1 0,.own 2 0,.own 3 0,.own 4 0]] 177,.cells [(bv fun _=>T)] 4,.cells [.arr 4 (fun ix=>(iv fun _=>f ix.den.toNat))] 154,.cells [.clo 110 [] []] 166] (fun r bs=>r=(.bool (.lit false))∧bs=[.cells [(caS c.cs),(mvS c.mv),(gaS c.gs)] 36,.cells [.clo 111 [] [.own 0 0,.own 1 0,.own 2 0,.own 3 0,.own 4 0]] 177,.cells [(.bool (.lit true))] 4,.cells [.arr 4 (fun ix=>(iv fun _=>(uf8 c n i q) ix.den.toNat))] 154,.cells [.clo 110 [] []] 166])):=by
 intro n
 induction n with
 | zero=>
  intro i T f q hi hq hn
  rw [uom]
  constructor
  ·intro F h
   split at h
   ·rename_i ho;cases h;exact uuw c i T f q hC hq hn (by omega) ho
   ·cases h
  ·intro h
   split at h
   ·cases h
   ·rename_i ho;exact uve c i T f q hC hq hn (by omega) (by simpa using ho)
 | succ n ih=>
  intro i T f q hi hq hn
  exact⟨fun F h=>uuY c i T f q n F hC hq hn hi h fun T f q hq hn=>ih (i+1) T f q (by omega) hq hn,fun h=>uuD c i T f q n hC hq hn hi h fun T f q hq hn=>ih (i+1) T f q (by omega) hq hn⟩
theorem uk2 (f q:Nat→Int)(i:Nat):Nw false f q i:=fun h=>by cases h
theorem usX (c:Clr)(F:Nat→Int)(hC:COk c)(hF:fQ c c.mv.length 0 q0=some F):ua0 Try.prog 95 [(.agg [(caS c.cs),(mvS c.mv),(gaS c.gs)]),.clo 110 [] []] [] (fun r _=>r=(bv fun _=>udN c)):=by
 have hcan:=(by show(fQ c c.mv.length 0 q0).isSome=_;rw [hF];rfl:udN c=true)
 have cc:=(umQ c hC c.mv.length 0 false q0 q0 (by omega) (fun j=>by unfold q0;omega) (uk2 _ _ _)).1 F hF
 refine ua0.is fun R hR=>qY (sc:=ux9) uas mix Try.func95 rfl Try.call95 (by kernel_rfl) (by kernel_rfl) ?_
 generalize Try.prog=P at hcan cc⊢
 cbv
 repeat' (first|(refine⟨some [0,6,4,3,1],?_⟩;cbv;refine qR ?_ cc (by cbv;(exact qD (qE rfl) (qD (uem (fun ix _ _=>qE rfl) qA) (Fit.refl _)))) (by cbv;(repeat' (first|exact qH|refine qI ?_ ?_|exact qK _|exact qJ (uem (fun ix _ _=>qE rfl) qA)|refine qJ ?_|exact qA|exact qE (by rfl)|exact qF (by rfl)|exact Fit.refl _|refine qC ?_ rfl ?_)));(try cbv))|fail)
 all_goals first|(subst hR;exact qF hcan.symm;done)|skip
theorem uta (c:Clr)(hC:COk c)(hF:fQ c c.mv.length 0 q0=none):ua0 Try.prog 95 [(.agg [(caS c.cs),(mvS c.mv),(gaS c.gs)]),.clo 110 [] []] [] (fun r _=>r=(bv fun _=>udN c)):=by
 have hcan:=(by show(fQ c c.mv.length 0 q0).isSome=_;rw [hF];rfl:udN c=false)
 have cc:=(umQ c hC c.mv.length 0 false q0 q0 (by omega) (fun j=>by unfold q0;omega) (uk2 _ _ _)).2 hF
 refine ua0.is fun R hR=>qY (sc:=ux9) uas mix Try.func95 rfl Try.call95 (by kernel_rfl) (by kernel_rfl) ?_
 generalize Try.prog=P at hcan cc⊢
 cbv
 repeat' (first|(refine⟨some [0,6,4,3,1],?_⟩;cbv;refine qR ?_ cc (by cbv;(exact qD (qE rfl) (qD (uem (fun ix _ _=>qE rfl) qA) (Fit.refl _)))) (by cbv;(repeat' (first|exact qH|refine qI ?_ ?_|exact qK _|exact qJ (uem (fun ix _ _=>qE rfl) qA)|refine qJ ?_|exact qA|exact qE (by rfl)|exact qF (by rfl)|exact Fit.refl _|refine qC ?_ rfl ?_)));(try cbv))|fail)
 all_goals first|(subst hR;exact qF hcan.symm;done)|skip
theorem utI (c:Clr)(hC:COk c):ua0 Try.prog 95 [(.agg [(caS c.cs),(mvS c.mv),(gaS c.gs)]),.clo 110 [] []] [] (fun r _=>r=(bv fun _=>udN c)):=by
 cases h:fQ c c.mv.length 0 q0 with
 |none=>exact uta c hC h
 |some F=>exact usX c F hC h
theorem ud5 (c:Clr)(hC:COk c):ua0 Try.prog 85 [(.agg [(caS c.cs),(mvS c.mv),(gaS c.gs)])] [] (fun r _=>r=(bv fun _=>udN c)):=by
 have c95:=utI c hC
 refine ua0.is fun R hR=>qY (sc:=uyI) uas mix Try.func85 rfl Try.call85 (by kernel_rfl) (by kernel_rfl) ?_
 generalize Try.prog=P at c95⊢
 cbv
 repeat' (first|(refine qQ ?_ (c95) ?hfit;(case hfit=>((repeat' (first|exact qB|refine qD ?_ ?_|exact qE (by rfl)|exact qF (by rfl)|exact Fit.refl _|exact qA|refine qC ?_ rfl ?_));done));try cbv)|fail)
 all_goals first|(subst hR;exact Fit.refl _;done)|skip
theorem uiK (c:Clr)(gs:List Gau):ua0 Try.prog 84 [(.agg [(caS c.cs),(mvS c.mv),(gaS c.gs)]),(gaS gs)] [] (fun r _=>r=(.agg [(caS c.cs),(mvS c.mv),(gaS gs)])):=by
 refine ua0.is fun R hR=>qY (sc:=uyw) uas mix Try.func84 rfl Try.call84 (by kernel_rfl) (by kernel_rfl) ?_
 generalize Try.prog=P
 cbv
 repeat' (first|fail)
 all_goals first|(subst hR;exact Fit.refl _;done)|skip
end Go.Proofs.Ytpkgnhcfmpbidaa

namespace Go.Proofs.Ytpkgnhcfmpbidaa
open Go Go.Eng Go.Proofs Go.Eng.Ck Go.Eng.Few
set_option maxRecDepth 10000
def uru :SC:=[(7,[qa 0 [],qa 1 [],qa 2 [],qa 3 [],qa 4 [2,3],qa 5 [2,3,4],qa 6 (qs 2 4),qa 7 [],qa 8 [7],qa 9 (qs 2 7),qa 11 [],qa 12 [],qa 13 [11,12],qa 14 [11,12,13],qa 15 (qs 11 4),qa 16 [],qa 17 [16],qa 18 (qs 11 7),qa 10 (qs 2 8),qa 19 (qs 2 17),qb 20 (qr 20),qb 21 (qr 21)])]
def upM (f:Int→Int→Int)(A W:Nat→Int)(i e:Nat):Int:=if e<i then f (A e) (W e)else A e
theorem ulo {f:Int→Int→Int} {A W:Nat→Int} {e:Nat}:upM f A W 0 e=A e:=if_neg (by omega)
theorem upf {f:Int→Int→Int} {A W:Nat→Int} {i e:Nat}(h:e≠i):upM f A W (i+1) e=upM f A W i e:=by unfold upM;split<;>split<;>first|rfl|omega
theorem uoj {f:Int→Int→Int} {A W:Nat→Int} {i e:Nat}(h:e=i):upM f A W (i+1) e=f (upM f A W i e) (W e):=by
 unfold upM
 rw [if_pos (by omega),if_neg (by omega)]
theorem unz {f:Int→Int→Int} {A W:Nat→Int} {i e:Nat}(h:e<i):upM f A W i e=f (A e) (W e):=if_pos h
theorem unX (a:Int):mn a a=a:=by have:=uo2 (a:=a) (b:=a);omega
theorem up0 (a:Int):mx a a=a:=by have:=uoa (a:=a) (b:=a);omega
set_option maxHeartbeats 4000000 in
theorem uwC (fn:Nat)(c:Clr)(q:Nat→Int)(L:Nat)(W V:Nat→Int)(hL:1≤L∧L≤1000)(hF:ua0 Try.prog fn [(.pp 0 [(caS c.cs),(mvS c.mv),(gaS c.gs),(.arr 4 (fun ix=>(iv fun _=>q ix.den.toNat))),(.mapx 170 39 false 2 (inD c q c.cs.length 0) (stS c q))])] [] (fun r _=>r=(.sl 2 (.sym fun _=>zi L) (fun ix=>[(iv fun _=>W ix.den.toNat),(iv fun _=>V ix.den.toNat)])))):uaU Try.prog 122 [(.pp 0 [(caS c.cs),(mvS c.mv),(gaS c.gs),(.arr 4 (fun ix=>(iv fun _=>q ix.den.toNat))),(.mapx 170 39 false 2 (inD c q c.cs.length 0) (stS c q))]),.own 0 0,.own 1 0,.own 2 0] [.cells [.clo fn [] []] 138,.cells [(.bool (.lit false))] 4,.cells [.val (Value.slice none 0 0)] 59] (fun r bs=>r=(.bool (.lit false))∧bs=[.cells [.clo fn [] []] 138,.cells [(.bool (.lit true))] 4,.cells [.row 3] 59,.row 39 2 (.sym fun _=>zi L) (fun ix=>[(iv fun _=>W ix.den.toNat),(iv fun _=>V ix.den.toNat)])]):=by
 generalize inD c q c.cs.length 0=D at hF⊢
 generalize stS c q=Fs at hF⊢
 have cf:=hF
 have c106:= @udf
 refine uaU.is rfl rfl fun R B hR hB=>ud3 (sc:=uru) uas mix Try.func122 rfl Try.call122 (by kernel_rfl) (by kernel_rfl) ?_
 generalize Try.prog=P at cf c106⊢
 clear hF
 cbv
 repeat' (first|(refine qQ ?_ (cf) ?hfit;(case hfit=>((repeat' (first|exact qB|refine qD ?_ ?_|exact qE (by rfl)|exact qF (by rfl)|exact Fit.refl _|exact qA|refine qC ?_ rfl ?_));done));try cbv)|fail)
 all_goals first|skip
 refine⟨none,[⟨.cell 2 0,39,2⟩],{x:Nat // x≤L},fun x=>⟨[(1,.own 0 0),(2,.own 1 0),(3,.own 2 0),(13,(.sl 2 (.sym fun _=>zi L) (fun ix=>[(iv fun _=>W ix.den.toNat),(iv fun _=>V ix.den.toNat)]))),(14,(iv fun _=>zi L)),(15,(iv fun _=>zi x.1))],[(0,.cells [.clo fn [] []] 138),(1,.cells [(.bool (.lit false))] 4),(2,.cells [.row 12] 59),(12,.row 39 2 (.sym fun _=>zi x.1) (fun ix=>[(iv fun _=>W ix.den.toNat),(iv fun _=>V ix.den.toNat)]))],60⟩,fun x=>L-x.1,?_,?_⟩
 ·refine⟨⟨0,by omega⟩,?_⟩
  cbv
  repeat' (first|with_reducible refine ua3 ?_ ?_|with_reducible refine And.intro ?_ ?_)
  all_goals first|trivial|exact qN (qE (by rfl))|exact qN (Fit.refl _)|exact qL (qK _)|(refine qL (ua8 ?_ ?_)<;>first|rfl|((try simp only [qX]at *);(try simp only [zQ,zA,zB,zC,zD,zE,zF,zG,zH,zI,zJ,zK,zL,zM,zN,zO,zP,zR,zS]at *);omega)|(intro ix h0 h1;exact Fit.refl _))|skip
 ·rintro ⟨i,hi⟩
  cbv
  repeat' (first
   |with_reducible refine ua3 ?_ ?_
   |with_reducible refine And.intro ?_ ?_
   |(with_reducible intro hcd;(try simp only [zA,zB,zC,zD,zE,zF,zG,zH,zI,zJ,zK,zL,zM,zN,zO,zP]at hcd);try cbv)
   | ((first|(refine qS ?_ (c106 _ _) rfl (by cbv;(repeat' (first|exact qB|refine qD ?_ ?_|exact qE (by rfl)|exact qF (by rfl)|exact Fit.refl _|exact qA|refine qC ?_ rfl ?_))))|(refine⟨none,?_⟩;refine qS ?_ (c106 _ _) rfl (by cbv;(repeat' (first|exact qB|refine qD ?_ ?_|exact qE (by rfl)|exact qF (by rfl)|exact Fit.refl _|exact qA|refine qC ?_ rfl ?_)))))
      try cbv)
   | (refine⟨fun ix=>[(iv fun _=>W ix.den.toNat),(iv fun _=>V ix.den.toNat)],?_⟩
      cbv
      refine ua3 (uaH (by intro ix jx h0 h1 h2;simp only [h2];exact Fit.refl _) (by intro ix jx h0 h1 h2;(have h3:jx.den.toNat=i:=by((try simp only [qX]at *);(try simp only [zQ,zA,zB,zC,zD,zE,zF,zG,zH,zI,zJ,zK,zL,zM,zN,zO,zP,zR,zS]at *);omega));simp only [h3];exact Fit.refl _)  om) (Or.inl ?_)
      try cbv)
   | (refine⟨fun ix=>[(iv fun _=>W ix.den.toNat),(iv fun _=>V ix.den.toNat)],?_⟩
      cbv
      refine ua3 (ubx (o2:=0) (x:=_) ?g0 ?g1 ?g2) ?_
      case g0=>(skip;(try simp only [qX]at *);(try simp only [zQ,zA,zB,zC,zD,zE,zF,zG,zH,zI,zJ,zK,zL,zM,zN,zO,zP,zR,zS]at *);omega)
      case g1=>(intro jx h0 h1 h2;exact Fit.refl _)
      case g2=>(intro jx h0 h1 h2;refine⟨_,rfl,?_⟩;(have hj:jx.den.toNat=i:=by(try simp only [qX]at *);(try simp only [zQ,zA,zB,zC,zD,zE,zF,zG,zH,zI,zJ,zK,zL,zM,zN,zO,zP,zR,zS]at *);omega);rw [hj];exact qC (qE (unX _)) rfl (qC (qE (up0 _)) rfl qA))
      try cbv)
   |fail)
  all_goals first|((try simp only [qX]at *);(try simp only [zQ,zA,zB,zC,zD,zE,zF,zG,zH,zI,zJ,zK,zL,zM,zN,zO,zP,zR,zS]at *);first|(refine qO ?_;omega)|(simp only [uap];omega))|(refine⟨[],(12:Nat),?_⟩;cbv;subst hR;subst hB;refine⟨?_,?_⟩;(first|exact Fit.refl _|((repeat' (first|exact qA|exact qB|refine qC ?_ rfl ?_|refine qD ?_ ?_|exact qE (by rfl)|exact qF (by rfl)|exact Fit.refl _|exact qG _|(refine qE ?_;(try simp only [qX]at *);simp only [zQ,zA,zB,zC,zD,zE,zF,zG,zH,zI,zJ,zK,zL,zM,zN,zO,zP,zR,zS]at *;omega)));done));(repeat' (first|exact qH|refine qI ?_ ?_));(all_goals first|exact qK _|(refine qJ ?_;(repeat' (first|exact qA|exact qB|refine qC ?_ rfl ?_|refine qD ?_ ?_|exact qE (by rfl)|exact qF (by rfl)|exact Fit.refl _|exact qG _|(refine qE ?_;(try simp only [qX]at *);simp only [zQ,zA,zB,zC,zD,zE,zF,zG,zH,zI,zJ,zK,zL,zM,zN,zO,zP,zR,zS]at *;omega)));done)|(refine ua8 ?_ ?_;(first|rfl|((try simp only [qX]at *);(try simp only [zQ,zA,zB,zC,zD,zE,zF,zG,zH,zI,zJ,zK,zL,zM,zN,zO,zP,zR,zS]at *);omega));intro ix h0 h1;first|exact Fit.refl _|(exfalso;(try simp only [qX]at *);(try simp only [zQ,zA,zB,zC,zD,zE,zF,zG,zH,zI,zJ,zK,zL,zM,zN,zO,zP,zR,zS]at *);omega))))|((try simp only [zQ,zA,zB,zC,zD,zE,zF,zG,zH,zI,zJ,zK,zL,zM,zN,zO,zP,zR,zS]at *);refine⟨⟨i+1,by((try simp only [qX]at *);(try simp only [zQ,zA,zB,zC,zD,zE,zF,zG,zH,zI,zJ,zK,zL,zM,zN,zO,zP,zR,zS]at *);omega)⟩,by simp only [];omega,?_⟩;cbv;(repeat' (first|with_reducible refine ua3 ?_ ?_|with_reducible refine And.intro ?_ ?_));(all_goals first|trivial|exact qN (qE (by rfl))|exact qN (qF (by rfl))|exact qN (Fit.refl _)|exact qL (qK _)|(refine qN (qE ?_);(try simp only [qX]at *);simp only [zQ,zA,zB,zC,zD,zE,zF,zG,zH,zI,zJ,zK,zL,zM,zN,zO,zP,zR,zS]at *;omega)|(refine qL (qJ ?_);(repeat' (first|exact qA|exact qB|refine qC ?_ rfl ?_|refine qD ?_ ?_|exact qE (by rfl)|exact qF (by rfl)|exact Fit.refl _|exact qG _|(refine qE ?_;(try simp only [qX]at *);simp only [zQ,zA,zB,zC,zD,zE,zF,zG,zH,zI,zJ,zK,zL,zM,zN,zO,zP,zR,zS]at *;omega)));done)|(refine qL (ua8 ?_ ?_)<;>first|rfl|((try simp only [qX]at *);(try simp only [zQ,zA,zB,zC,zD,zE,zF,zG,zH,zI,zJ,zK,zL,zM,zN,zO,zP,zR,zS]at *);omega)|(intro ix h0 h1;exact Fit.refl _))|skip))|skip
set_option maxHeartbeats 4000000 in
theorem uxE (fn:Nat)(c:Clr)(q:Nat→Int)(L:Nat)(W V:Nat→Int)(A B:Nat→Int)(hL:1≤L∧L≤1000)(hF:ua0 Try.prog fn [(.pp 0 [(caS c.cs),(mvS c.mv),(gaS c.gs),(.arr 4 (fun ix=>(iv fun _=>q ix.den.toNat))),(.mapx 170 39 false 2 (inD c q c.cs.length 0) (stS c q))])] [] (fun r _=>r=(.sl 2 (.sym fun _=>zi L) (fun ix=>[(iv fun _=>W ix.den.toNat),(iv fun _=>V ix.den.toNat)])))):ua0 Try.prog 122 [(.pp 0 [(caS c.cs),(mvS c.mv),(gaS c.gs),(.arr 4 (fun ix=>(iv fun _=>q ix.den.toNat))),(.mapx 170 39 false 2 (inD c q c.cs.length 0) (stS c q))]),.own 0 0,.own 1 0,.own 2 0] [.cells [.clo fn [] []] 138,.cells [(.bool (.lit true))] 4,.cells [.row 3] 59,.row 39 2 (.sym fun _=>zi L) (fun ix=>[(iv fun _=>A ix.den.toNat),(iv fun _=>B ix.den.toNat)])] (fun r bs=>r=(.bool (.lit false))∧bs=[.cells [.clo fn [] []] 138,.cells [(.bool (.lit true))] 4,.cells [.row 3] 59,.row 39 2 (.sym fun _=>zi L) (fun ix=>[(iv fun _=>mn (A ix.den.toNat) (W ix.den.toNat)),(iv fun _=>mx (B ix.den.toNat) (V ix.den.toNat))])]):=by
 generalize inD c q c.cs.length 0=D at hF⊢
 generalize stS c q=Fs at hF⊢
 have cf:=hF
 have c106:= @udf
 obtain⟨a1,ha⟩:∃g,g=upM mn A W:=⟨_,rfl⟩
 obtain⟨b1,hb⟩:∃g,g=upM mx B V:=⟨_,rfl⟩
 have ha1:∀e,a1 0 e=A e:=fun e=>by rw [ha];exact ulo
 have hb1:∀e,b1 0 e=B e:=fun e=>by rw [hb];exact ulo
 have ha2:∀i e,e≠i→a1 (i+1) e=a1 i e:=fun i e h=>by rw [ha];exact upf h
 have hb2:∀i e,e≠i→b1 (i+1) e=b1 i e:=fun i e h=>by rw [hb];exact upf h
 have ha3:∀i,a1 (i+1) i=mn (a1 i i) (W i):=fun i=>by rw [ha];exact uoj rfl
 have hb3:∀i,b1 (i+1) i=mx (b1 i i) (V i):=fun i=>by rw [hb];exact uoj rfl
 have ha4:∀i e,e<L∧i=L→a1 i e=mn (A e) (W e):=fun i e h=>by rw [ha,h.2];exact unz h.1
 have hb4:∀i e,e<L∧i=L→b1 i e=mx (B e) (V e):=fun i e h=>by rw [hb,h.2];exact unz h.1
 clear ha hb
 refine ua0.isB rfl fun R B hR hB=>qY (sc:=uru) uas mix Try.func122 rfl Try.call122 (by kernel_rfl) (by kernel_rfl) ?_
 generalize Try.prog=P at cf c106⊢
 clear hF
 cbv
 repeat' (first|(refine qQ ?_ (cf) ?hfit;(case hfit=>((repeat' (first|exact qB|refine qD ?_ ?_|exact qE (by rfl)|exact qF (by rfl)|exact Fit.refl _|exact qA|refine qC ?_ rfl ?_));done));try cbv)|fail)
 all_goals first|skip
 refine⟨none,[],{x:Nat // x≤L},fun x=>⟨[(1,.own 0 0),(2,.own 1 0),(3,.own 2 0),(13,(.sl 2 (.sym fun _=>zi L) (fun ix=>[(iv fun _=>W ix.den.toNat),(iv fun _=>V ix.den.toNat)]))),(14,(iv fun _=>zi L)),(15,(iv fun _=>zi x.1))],[(0,.cells [.clo fn [] []] 138),(1,.cells [(.bool (.lit true))] 4),(2,.cells [.row 3] 59),(3,.row 39 2 (.sym fun _=>zi L) (fun ix=>[(iv fun _=>a1 x.1 ix.den.toNat),(iv fun _=>b1 x.1 ix.den.toNat)]))],60⟩,fun x=>L-x.1,?_,?_⟩
 ·refine⟨⟨0,by omega⟩,?_⟩
  cbv
  repeat' (first|with_reducible refine ua3 ?_ ?_|with_reducible refine And.intro ?_ ?_)
  all_goals first|trivial|exact qN (qE (by rfl))|exact qN (Fit.refl _)|exact qL (qK _)|(refine qL (ua8 rfl (fun ix h0 h1=>qC (qE (ha1 _).symm) rfl (qC (qE (hb1 _).symm) rfl qA))))|skip
 ·rintro ⟨i,hi⟩
  cbv
  repeat' (first
   |with_reducible refine ua3 ?_ ?_
   |with_reducible refine And.intro ?_ ?_
   |(with_reducible intro hcd;(try simp only [zA,zB,zC,zD,zE,zF,zG,zH,zI,zJ,zK,zL,zM,zN,zO,zP]at hcd);try cbv)
   | ((first|(refine qS ?_ (c106 _ _) rfl (by cbv;(repeat' (first|exact qB|refine qD ?_ ?_|exact qE (by rfl)|exact qF (by rfl)|exact Fit.refl _|exact qA|refine qC ?_ rfl ?_))))|(refine⟨none,?_⟩;refine qS ?_ (c106 _ _) rfl (by cbv;(repeat' (first|exact qB|refine qD ?_ ?_|exact qE (by rfl)|exact qF (by rfl)|exact Fit.refl _|exact qA|refine qC ?_ rfl ?_)))))
      try cbv)
   | (refine⟨fun ix=>[(iv fun _=>a1 (i+1) ix.den.toNat),(iv fun _=>b1 (i+1) ix.den.toNat)],?_⟩
      cbv
      refine ua3 (ubx (o2:=0) (x:=_) ?g0 ?g1 ?g2) ?_
      case g0=>(skip;(try simp only [qX]at *);(try simp only [zQ,zA,zB,zC,zD,zE,zF,zG,zH,zI,zJ,zK,zL,zM,zN,zO,zP,zR,zS]at *);omega)
      case g1=>(intro jx h0 h1 h2;exact qC (qE (ha2 i _  om).symm) rfl (qC (qE (hb2 i _  om).symm) rfl qA))
      case g2=>(intro jx h0 h1 h2;refine⟨_,rfl,?_⟩;(have hj:jx.den.toNat=i:=by(try simp only [qX]at *);(try simp only [zQ,zA,zB,zC,zD,zE,zF,zG,zH,zI,zJ,zK,zL,zM,zN,zO,zP,zR,zS]at *);omega);rw [hj];exact qC (qE (ha3 i).symm) rfl (qC (qE (hb3 i).symm) rfl qA))
      try cbv)
   |fail)
  all_goals first|trivial|((try simp only [qX]at *);(try simp only [zQ,zA,zB,zC,zD,zE,zF,zG,zH,zI,zJ,zK,zL,zM,zN,zO,zP,zR,zS]at *);first|(refine qO ?_;omega)|(simp only [uap];omega))|(subst hR;exact Fit.refl _;done)|(subst hB;refine qI (qK _) (qI (qK _) (qI (qK _) (qI (ua8 rfl (fun ix h0 h1=>qC (qE (ha4 i _ ?_)) rfl (qC (qE (hb4 i _ ?_)) rfl qA))) qH)))<;>((try simp only [qX]at *);(try simp only [zQ,zA,zB,zC,zD,zE,zF,zG,zH,zI,zJ,zK,zL,zM,zN,zO,zP,zR,zS]at *);omega))|((try simp only [zQ,zA,zB,zC,zD,zE,zF,zG,zH,zI,zJ,zK,zL,zM,zN,zO,zP,zR,zS]at *);refine⟨⟨i+1,by((try simp only [qX]at *);(try simp only [zQ,zA,zB,zC,zD,zE,zF,zG,zH,zI,zJ,zK,zL,zM,zN,zO,zP,zR,zS]at *);omega)⟩,by simp only [];omega,?_⟩;cbv;(repeat' (first|with_reducible refine ua3 ?_ ?_|with_reducible refine And.intro ?_ ?_));(all_goals first|trivial|exact qN (qE (by rfl))|exact qN (qF (by rfl))|exact qN (Fit.refl _)|exact qL (qK _)|(refine qN (qE ?_);(try simp only [qX]at *);simp only [zQ,zA,zB,zC,zD,zE,zF,zG,zH,zI,zJ,zK,zL,zM,zN,zO,zP,zR,zS]at *;omega)|(refine qL (qJ ?_);(repeat' (first|exact qA|exact qB|refine qC ?_ rfl ?_|refine qD ?_ ?_|exact qE (by rfl)|exact qF (by rfl)|exact Fit.refl _|exact qG _|(refine qE ?_;(try simp only [qX]at *);simp only [zQ,zA,zB,zC,zD,zE,zF,zG,zH,zI,zJ,zK,zL,zM,zN,zO,zP,zR,zS]at *;omega)));done)|(refine qL (ua8 ?_ ?_)<;>first|rfl|((try simp only [qX]at *);(try simp only [zQ,zA,zB,zC,zD,zE,zF,zG,zH,zI,zJ,zK,zL,zM,zN,zO,zP,zR,zS]at *);omega)|(intro ix h0 h1;exact Fit.refl _))|skip))|skip
end Go.Proofs.Ytpkgnhcfmpbidaa

namespace Go.Eng.Ck
def loE (c:Clr)(W:(Nat→Int)→Nat→Int)(A:Nat→Int)(l:List (Nat→Int)):Nat→Int:=fun e=>loF c (fun q=>W q e) (A e) l
def hiE (c:Clr)(V:(Nat→Int)→Nat→Int)(B:Nat→Int)(l:List (Nat→Int)):Nat→Int:=fun e=>hiF c (fun q=>V q e) (B e) l
theorem ujV {c:Clr} {W:(Nat→Int)→Nat→Int} {A:Nat→Int} {l m:List (Nat→Int)}:loE c W (loE c W A l) m=loE c W A (l++m):=by
 funext e;unfold loE;rw [unR]
theorem ujD {c:Clr} {W:(Nat→Int)→Nat→Int} {A:Nat→Int} {l m:List (Nat→Int)}:hiE c W (hiE c W A l) m=hiE c W A (l++m):=by
 funext e;unfold hiE;rw [uox]
theorem ukL {c:Clr} {W:(Nat→Int)→Nat→Int} {A:Nat→Int}:∀{l:List (Nat→Int)},l.find? (okQ c)=none→loE c W A l=A
 |[],_=>rfl
 | q ::l,h=>by
  rw [List.find?_cons]at h
  cases ho:okQ c q with
  |true=>rw [ho]at h;cases h
  | false=>
   rw [ho]at h
   have:=ukL (W:=W) (A:=A) (l:=l) h
   funext e
   have h2:=congrFun this e
   unfold loE at h2⊢
   simp only [loF]
   rw [if_neg (by rw [ho];simp)]
   exact h2
theorem ukv {c:Clr} {W:(Nat→Int)→Nat→Int} {A:Nat→Int}:∀{l:List (Nat→Int)},l.find? (okQ c)=none→hiE c W A l=A
 |[],_=>rfl
 | q ::l,h=>by
  rw [List.find?_cons]at h
  cases ho:okQ c q with
  |true=>rw [ho]at h;cases h
  | false=>
   rw [ho]at h
   have:=ukv (W:=W) (A:=A) (l:=l) h
   funext e
   have h2:=congrFun this e
   unfold hiE at h2⊢
   simp only [hiF]
   rw [if_neg (by rw [ho];simp)]
   exact h2
theorem uvk {c:Clr} {W:(Nat→Int)→Nat→Int} {A:Nat→Int} {q:Nat→Int}(h:okQ c q=true):loE c W A [q]=fun e=>mn (A e) (W q e):=by
 funext e;unfold loE;simp only [loF];rw [if_pos h]
theorem uwx {c:Clr} {W:(Nat→Int)→Nat→Int} {A:Nat→Int} {q:Nat→Int}(h:okQ c q=false):loE c W A [q]=A:=by
 funext e;unfold loE;simp only [loF];rw [if_neg (by rw [h];simp)]
theorem uui {c:Clr} {W:(Nat→Int)→Nat→Int} {A:Nat→Int} {q:Nat→Int}(h:okQ c q=true):hiE c W A [q]=fun e=>mx (A e) (W q e):=by
 funext e;unfold hiE;simp only [hiF];rw [if_pos h]
theorem uwG {c:Clr} {W:(Nat→Int)→Nat→Int} {A:Nat→Int} {q:Nat→Int}(h:okQ c q=false):hiE c W A [q]=A:=by
 funext e;unfold hiE;simp only [hiF];rw [if_neg (by rw [h];simp)]
def upO (c:Clr)(n i:Nat)(q:Nat→Int)(x:Nat):List (Nat→Int):=(List.range x).flatMap fun j=>ud2 c.mv n (i+1) (ucH c i q j)
theorem ucB (c:Clr)(n i:Nat)(q:Nat→Int)(x:Nat):upO c n i q (x+1)=upO c n i q x++ud2 c.mv n (i+1) (ucH c i q x):=by
 unfold upO
 rw [List.range_succ,List.flatMap_append]
 simp
structure EN (c:Clr)(n i:Nat)(q:Nat→Int)(x:Nat):Prop where
 no:(upO c n i q x).find? (okQ c)=none
structure ES (c:Clr)(W V:(Nat→Int)→Nat→Int)(n i:Nat)(q:Nat→Int)(x:Nat)(A B:Nat→Int):Prop where
 ex:∃F,(upO c n i q x).find? (okQ c)=some F∧A=loE c W (W F) (upO c n i q x)∧B=hiE c V (V F) (upO c n i q x)
theorem ut5 (c:Clr)(n i:Nat)(q:Nat→Int):EN c n i q 0:=⟨rfl⟩
theorem usD {c:Clr} {n i:Nat} {q:Nat→Int} {x:Nat}(h:EN c n i q x)(h':fQ c n (i+1) (ucH c i q x)=none):EN c n i q (x+1):=⟨by
 rw [ucB,List.find?_append,h.no];exact h'⟩
theorem usE {c:Clr} {W V:(Nat→Int)→Nat→Int} {n i:Nat} {q:Nat→Int} {x:Nat} {G:Nat→Int}(h:EN c n i q x)(h':fQ c n (i+1) (ucH c i q x)=some G):ES c W V n i q (x+1) (loE c W (W G) (ud2 c.mv n (i+1) (ucH c i q x))) (hiE c V (V G) (ud2 c.mv n (i+1) (ucH c i q x))):=⟨G,by
 rw [ucB,List.find?_append,h.no]
 refine⟨h',?_,?_⟩
 ·rw [←ujV,ukL h.no]
 ·rw [←ujD,ukv h.no]⟩
theorem utp {c:Clr} {W V:(Nat→Int)→Nat→Int} {n i:Nat} {q:Nat→Int} {x:Nat} {A B:Nat→Int}(h:ES c W V n i q x A B):ES c W V n i q (x+1) (loE c W A (ud2 c.mv n (i+1) (ucH c i q x))) (hiE c V B (ud2 c.mv n (i+1) (ucH c i q x))):=by
 obtain⟨F,h1,h2,h3⟩:=h.ex
 refine⟨F,?_,?_,?_⟩
 ·rw [ucB,List.find?_append,h1];rfl
 ·rw [ucB,←ujV,h2]
 ·rw [ucB,←ujD,h3]
theorem uu6 {c:Clr} {n i:Nat} {q:Nat→Int} {x:Nat}(h:EN c n i q x)(hx:x=cnt (c.mv.getD i v0)):fQ c (n+1) i q=none:=by
 subst hx;exact h.no
theorem uuj {c:Clr} {W V:(Nat→Int)→Nat→Int} {n i:Nat} {q:Nat→Int} {x:Nat} {A B:Nat→Int}(h:ES c W V n i q x A B)(hx:x=cnt (c.mv.getD i v0)):∃F,fQ c (n+1) i q=some F∧A=loE c W (W F) (ud2 c.mv (n+1) i q)∧B=hiE c V (V F) (ud2 c.mv (n+1) i q):=by
 subst hx;exact h.ex
structure EA (c:Clr)(W V:(Nat→Int)→Nat→Int)(n i:Nat)(q A0 B0:Nat→Int)(x:Nat)(A B:Nat→Int):Prop where
 a:A=loE c W A0 (upO c n i q x)
 b:B=hiE c V B0 (upO c n i q x)
theorem usq (c:Clr)(W V:(Nat→Int)→Nat→Int)(n i:Nat)(q A0 B0:Nat→Int):EA c W V n i q A0 B0 0 A0 B0:=⟨rfl,rfl⟩
theorem utk {c:Clr} {W V:(Nat→Int)→Nat→Int} {n i:Nat} {q A0 B0:Nat→Int} {x:Nat} {A B:Nat→Int}(h:EA c W V n i q A0 B0 x A B):EA c W V n i q A0 B0 (x+1) (loE c W A (ud2 c.mv n (i+1) (ucH c i q x))) (hiE c V B (ud2 c.mv n (i+1) (ucH c i q x))):=
 ⟨by rw [ucB,←ujV,h.a],by rw [ucB,←ujD,h.b]⟩
theorem uu9 {c:Clr} {W V:(Nat→Int)→Nat→Int} {n i:Nat} {q A0 B0:Nat→Int} {x:Nat} {A B:Nat→Int}(h:EA c W V n i q A0 B0 x A B)(hx:x=cnt (c.mv.getD i v0)):A=loE c W A0 (ud2 c.mv (n+1) i q)∧B=hiE c V B0 (ud2 c.mv (n+1) i q):=by
 subst hx;exact⟨h.a,h.b⟩
theorem upq {c:Clr} {f:(Nat→Int)→Int} {l:List (Nat→Int)} {F:Nat→Int}(h:l.find? (okQ c)=some F):IsMin (fun v=>∃q∈l,okQ c q=true∧f q=v) (loF c f (f F) l):=by
 have h0:=(uot (c:=c) (f:=f) (l:=l) (z:=f F) (b:=loF c f (f F) l)).1 (Int.le_refl _)
 refine⟨fun x ⟨q,h1,h2,h3⟩=>h3▸h0.2 q h1 h2,?_⟩
 rcases up2 (c:=c) (f:=f) (l:=l) (z:=f F)with e|⟨q,a,b,e⟩
 ·exact⟨F,List.mem_of_find?_eq_some h,List.find?_some h,e.symm⟩
 ·exact⟨q,a,b,e.symm⟩
theorem up9 {c:Clr} {f:(Nat→Int)→Int} {l:List (Nat→Int)} {F:Nat→Int}(h:l.find? (okQ c)=some F):IsMax (fun v=>∃q∈l,okQ c q=true∧f q=v) (hiF c f (f F) l):=by
 have h0:=(uoG (c:=c) (f:=f) (l:=l) (z:=f F) (b:=hiF c f (f F) l)).1 (Int.le_refl _)
 refine⟨fun x ⟨q,h1,h2,h3⟩=>h3▸h0.2 q h1 h2,?_⟩
 rcases uod (c:=c) (f:=f) (l:=l) (z:=f F)with e|⟨q,a,b,e⟩
 ·exact⟨F,List.mem_of_find?_eq_some h,List.find?_some h,e.symm⟩
 ·exact⟨q,a,b,e.symm⟩
end Go.Eng.Ck

namespace Go.Proofs.Ytpkgnhcfmpbidaa
open Go Go.Eng Go.Proofs Go.Eng.Ck Go.Eng.Few
set_option maxRecDepth 10000
set_option maxHeartbeats 4000000 in
theorem usM (fn:Nat)(c:Clr)(L:Nat)(W V:(Nat→Int)→Nat→Int)(i:Nat)(T:Bool)(f q:Nat→Int)(hC:COk c)(hL:1≤L∧L≤1000)(hF:∀q:Nat→Int,okQ c q=true→(∀j,0≤q j∧q j≤1000)→ua0 Try.prog fn [(.pp 0 [(caS c.cs),(mvS c.mv),(gaS c.gs),(.arr 4 (fun ix=>(iv fun _=>q ix.den.toNat))),(.mapx 170 39 false 2 (inD c q c.cs.length 0) (stS c q))])] [] (fun r _=>r=(.sl 2 (.sym fun _=>zi L) (fun ix=>[(iv fun _=>(W q) ix.den.toNat),(iv fun _=>(V q) ix.den.toNat)]))))(hq:∀j,0≤q j∧q j≤1000)(hn:Nw T f q i)(hi:i=c.mv.length)(ho:okQ c q=false):ua0 Try.prog 111 [(iv fun _=>zi i),(.agg [(.arr 4 (fun ix=>(iv fun _=>q ix.den.toNat)))]),.own 0 0,.own 1 0,.own 2 0,.own 3 0,.own 4 0] [.cells [(caS c.cs),(mvS c.mv),(gaS c.gs)] 36,.cells [.clo 111 [] [.own 0 0,.own 1 0,.own 2 0,.own 3 0,.own 4 0]] 177,.cells [(bv fun _=>T)] 4,.cells [.arr 4 (fun ix=>(iv fun _=>f ix.den.toNat))] 154,.cells [.clo 122 [] [.own 5 0,.own 6 0,.own 7 0]] 166,.cells [.clo fn [] []] 138,.cells [(.bool (.lit false))] 4,.cells [.val (Value.slice none 0 0)] 59] (fun r bs=>r=(.bool (.lit false))∧bs=[.cells [(caS c.cs),(mvS c.mv),(gaS c.gs)] 36,.cells [.clo 111 [] [.own 0 0,.own 1 0,.own 2 0,.own 3 0,.own 4 0]] 177,.cells [(.bool (.lit true))] 4,.cells [.arr 4 (fun ix=>(iv fun _=>q ix.den.toNat))] 154,.cells [.clo 122 [] [.own 5 0,.own 6 0,.own 7 0]] 166,.cells [.clo fn [] []] 138,.cells [(.bool (.lit false))] 4,.cells [.val (Value.slice none 0 0)] 59]):=by
 have h154:=ufi
 have c112:=unu c q hC hq ho
 refine ua0.isB rfl fun R B hR hB=>qY (sc:=udY) uas mix Try.func111 rfl Try.call111 (by kernel_rfl) (by kernel_rfl) ?_
 generalize Try.prog=P at h154 c112⊢
 cbv
 have hm4:=hC.m4
 repeat' (first
  |with_reducible refine ua3 ?_ ?_
  |with_reducible refine And.intro ?_ ?_
  |(with_reducible intro hcd;(try simp only [zA,zB,zC,zD,zE,zF,zG,zH,zI,zJ,zK,zL,zM,zN,zO,zP]at hcd);try cbv)
  | (refine Exists.intro (α:=Nat) 2 ?_
     cbv)
  |(refine qQ ?_ (c112) ?hfit;(case hfit=>((repeat' (first|exact qB|refine qD ?_ ?_|exact qE (by rfl)|exact qF (by rfl)|exact Fit.refl _|exact qA|refine qC ?_ rfl ?_));done));try cbv)
  |fail)
 all_goals first|trivial|((try simp only [qX]at *);(try simp only [zQ,zA,zB,zC,zD,zE,zF,zG,zH,zI,zJ,zK,zL,zM,zN,zO,zP,zR,zS]at *);first|(refine qO ?_;omega)|(simp only [uap];omega))|(subst hR;exact Fit.refl _;done)|(subst hB;(repeat' (first|exact qH|refine qI ?_ ?_|exact qK _|refine qJ ?_|exact qA|exact qE (by rfl)|exact qF (by rfl)|exact Fit.refl _|exact qG _|refine qC ?_ rfl ?_));done)|(exfalso;exact uhg hn (by assumption) (fun j hj=>eq4 (q:=q) (f:=f) (by assumption) j (by omega)))|(exfalso;(try simp only [qX]at *);(try simp only [zQ,zA,zB,zC,zD,zE,zF,zG,zH,zI,zJ,zK,zL,zM,zN,zO,zP,zR,zS]at *);omega)|skip
set_option maxHeartbeats 4000000 in
theorem urI (fn:Nat)(c:Clr)(L:Nat)(W V:(Nat→Int)→Nat→Int)(i:Nat)(T:Bool)(f q:Nat→Int)(A B:Nat→Int)(hC:COk c)(hL:1≤L∧L≤1000)(hF:∀q:Nat→Int,okQ c q=true→(∀j,0≤q j∧q j≤1000)→ua0 Try.prog fn [(.pp 0 [(caS c.cs),(mvS c.mv),(gaS c.gs),(.arr 4 (fun ix=>(iv fun _=>q ix.den.toNat))),(.mapx 170 39 false 2 (inD c q c.cs.length 0) (stS c q))])] [] (fun r _=>r=(.sl 2 (.sym fun _=>zi L) (fun ix=>[(iv fun _=>(W q) ix.den.toNat),(iv fun _=>(V q) ix.den.toNat)]))))(hq:∀j,0≤q j∧q j≤1000)(hn:Nw T f q i)(hi:i=c.mv.length)(ho:okQ c q=false):ua0 Try.prog 111 [(iv fun _=>zi i),(.agg [(.arr 4 (fun ix=>(iv fun _=>q ix.den.toNat)))]),.own 0 0,.own 1 0,.own 2 0,.own 3 0,.own 4 0] [.cells [(caS c.cs),(mvS c.mv),(gaS c.gs)] 36,.cells [.clo 111 [] [.own 0 0,.own 1 0,.own 2 0,.own 3 0,.own 4 0]] 177,.cells [(bv fun _=>T)] 4,.cells [.arr 4 (fun ix=>(iv fun _=>f ix.den.toNat))] 154,.cells [.clo 122 [] [.own 5 0,.own 6 0,.own 7 0]] 166,.cells [.clo fn [] []] 138,.cells [(.bool (.lit true))] 4,.cells [.row 8] 59,.row 39 2 (.sym fun _=>zi L) (fun ix=>[(iv fun _=>A ix.den.toNat),(iv fun _=>B ix.den.toNat)])] (fun r bs=>r=(.bool (.lit false))∧bs=[.cells [(caS c.cs),(mvS c.mv),(gaS c.gs)] 36,.cells [.clo 111 [] [.own 0 0,.own 1 0,.own 2 0,.own 3 0,.own 4 0]] 177,.cells [(.bool (.lit true))] 4,.cells [.arr 4 (fun ix=>(iv fun _=>q ix.den.toNat))] 154,.cells [.clo 122 [] [.own 5 0,.own 6 0,.own 7 0]] 166,.cells [.clo fn [] []] 138,.cells [(.bool (.lit true))] 4,.cells [.row 8] 59,.row 39 2 (.sym fun _=>zi L) (fun ix=>[(iv fun _=>A ix.den.toNat),(iv fun _=>B ix.den.toNat)])]):=by
 have h154:=ufi
 have c112:=unu c q hC hq ho
 refine ua0.isB rfl fun R B hR hB=>qY (sc:=udY) uas mix Try.func111 rfl Try.call111 (by kernel_rfl) (by kernel_rfl) ?_
 generalize Try.prog=P at h154 c112⊢
 cbv
 have hm4:=hC.m4
 repeat' (first
  |with_reducible refine ua3 ?_ ?_
  |with_reducible refine And.intro ?_ ?_
  |(with_reducible intro hcd;(try simp only [zA,zB,zC,zD,zE,zF,zG,zH,zI,zJ,zK,zL,zM,zN,zO,zP]at hcd);try cbv)
  | (refine Exists.intro (α:=Nat) 2 ?_
     cbv)
  |(refine qQ ?_ (c112) ?hfit;(case hfit=>((repeat' (first|exact qB|refine qD ?_ ?_|exact qE (by rfl)|exact qF (by rfl)|exact Fit.refl _|exact qA|refine qC ?_ rfl ?_));done));try cbv)
  |fail)
 all_goals first|trivial|((try simp only [qX]at *);(try simp only [zQ,zA,zB,zC,zD,zE,zF,zG,zH,zI,zJ,zK,zL,zM,zN,zO,zP,zR,zS]at *);first|(refine qO ?_;omega)|(simp only [uap];omega))|(subst hR;exact Fit.refl _;done)|(subst hB;(repeat' (first|exact qH|refine qI ?_ ?_|exact qK _|refine qJ ?_|exact qA|exact qE (by rfl)|exact qF (by rfl)|exact Fit.refl _|exact qG _|refine qC ?_ rfl ?_));done)|(exfalso;exact uhg hn (by assumption) (fun j hj=>eq4 (q:=q) (f:=f) (by assumption) j (by omega)))|(exfalso;(try simp only [qX]at *);(try simp only [zQ,zA,zB,zC,zD,zE,zF,zG,zH,zI,zJ,zK,zL,zM,zN,zO,zP,zR,zS]at *);omega)|skip
set_option maxHeartbeats 4000000 in
theorem usx (fn:Nat)(c:Clr)(L:Nat)(W V:(Nat→Int)→Nat→Int)(i:Nat)(T:Bool)(f q:Nat→Int)(hC:COk c)(hL:1≤L∧L≤1000)(hF:∀q:Nat→Int,okQ c q=true→(∀j,0≤q j∧q j≤1000)→ua0 Try.prog fn [(.pp 0 [(caS c.cs),(mvS c.mv),(gaS c.gs),(.arr 4 (fun ix=>(iv fun _=>q ix.den.toNat))),(.mapx 170 39 false 2 (inD c q c.cs.length 0) (stS c q))])] [] (fun r _=>r=(.sl 2 (.sym fun _=>zi L) (fun ix=>[(iv fun _=>(W q) ix.den.toNat),(iv fun _=>(V q) ix.den.toNat)]))))(hq:∀j,0≤q j∧q j≤1000)(hn:Nw T f q i)(hi:i=c.mv.length)(ho:okQ c q=true):uaU Try.prog 111 [(iv fun _=>zi i),(.agg [(.arr 4 (fun ix=>(iv fun _=>q ix.den.toNat)))]),.own 0 0,.own 1 0,.own 2 0,.own 3 0,.own 4 0] [.cells [(caS c.cs),(mvS c.mv),(gaS c.gs)] 36,.cells [.clo 111 [] [.own 0 0,.own 1 0,.own 2 0,.own 3 0,.own 4 0]] 177,.cells [(bv fun _=>T)] 4,.cells [.arr 4 (fun ix=>(iv fun _=>f ix.den.toNat))] 154,.cells [.clo 122 [] [.own 5 0,.own 6 0,.own 7 0]] 166,.cells [.clo fn [] []] 138,.cells [(.bool (.lit false))] 4,.cells [.val (Value.slice none 0 0)] 59] (fun r bs=>r=(.bool (.lit false))∧bs=[.cells [(caS c.cs),(mvS c.mv),(gaS c.gs)] 36,.cells [.clo 111 [] [.own 0 0,.own 1 0,.own 2 0,.own 3 0,.own 4 0]] 177,.cells [(.bool (.lit true))] 4,.cells [.arr 4 (fun ix=>(iv fun _=>q ix.den.toNat))] 154,.cells [.clo 122 [] [.own 5 0,.own 6 0,.own 7 0]] 166,.cells [.clo fn [] []] 138,.cells [(.bool (.lit true))] 4,.cells [.row 8] 59,.row 39 2 (.sym fun _=>zi L) (fun ix=>[(iv fun _=>(W q) ix.den.toNat),(iv fun _=>(V q) ix.den.toNat)])]):=by
 have h154:=ufi
 have c112:=uoH c q hC hq ho
 have ca:=uwC fn c q L (W q) (V q) hL (hF q ho hq)
 generalize inD c q c.cs.length 0=D at c112 ca
 generalize stS c q=Fs at c112 ca
 clear hF
 refine uaU.is rfl rfl fun R B hR hB=>ud3 (sc:=udY) uas mix Try.func111 rfl Try.call111 (by kernel_rfl) (by kernel_rfl) ?_
 generalize Try.prog=P at h154 c112 ca⊢
 cbv
 have hm4:=hC.m4
 repeat' (first
  |with_reducible refine ua3 ?_ ?_
  |with_reducible refine And.intro ?_ ?_
  |(with_reducible intro hcd;(try simp only [zA,zB,zC,zD,zE,zF,zG,zH,zI,zJ,zK,zL,zM,zN,zO,zP]at hcd);try cbv)
  | (refine Exists.intro (α:=Nat) 2 ?_
     cbv)
  |(refine qQ ?_ (c112) ?hfit;(case hfit=>((repeat' (first|exact qB|refine qD ?_ ?_|exact qE (by rfl)|exact qF (by rfl)|exact Fit.refl _|exact qA|refine qC ?_ rfl ?_));done));try cbv)
  | (refine⟨some [5,6,7],?_⟩
     cbv
     refine qW ?_ (ca) (by cbv;(repeat' (first|exact qB|refine qD ?_ ?_|exact qE (by rfl)|exact qF (by rfl)|exact Fit.refl _|exact qA|refine qC ?_ rfl ?_))) (by cbv;(repeat' (first|exact qH|refine qI ?_ ?_|exact qK _|refine qJ ?_|exact qA|exact qE (by rfl)|exact qF (by rfl)|exact Fit.refl _|exact qG _|refine qC ?_ rfl ?_)))
     try cbv)
  |fail)
 all_goals first|trivial|((try simp only [qX]at *);(try simp only [zQ,zA,zB,zC,zD,zE,zF,zG,zH,zI,zJ,zK,zL,zM,zN,zO,zP,zR,zS]at *);first|(refine qO ?_;omega)|(simp only [uap];omega))|(refine⟨[],(36:Nat),?_⟩;cbv;subst hR;subst hB;refine⟨?_,?_⟩;(first|exact Fit.refl _|((repeat' (first|exact qA|exact qB|refine qC ?_ rfl ?_|refine qD ?_ ?_|exact qE (by rfl)|exact qF (by rfl)|exact Fit.refl _|exact qG _|(refine qE ?_;(try simp only [qX]at *);simp only [zQ,zA,zB,zC,zD,zE,zF,zG,zH,zI,zJ,zK,zL,zM,zN,zO,zP,zR,zS]at *;omega)));done));(repeat' (first|exact qH|refine qI ?_ ?_));(all_goals first|exact qK _|(refine qJ ?_;(repeat' (first|exact qA|exact qB|refine qC ?_ rfl ?_|refine qD ?_ ?_|exact qE (by rfl)|exact qF (by rfl)|exact Fit.refl _|exact qG _|(refine qE ?_;(try simp only [qX]at *);simp only [zQ,zA,zB,zC,zD,zE,zF,zG,zH,zI,zJ,zK,zL,zM,zN,zO,zP,zR,zS]at *;omega)));done)|(refine ua8 ?_ ?_;(first|rfl|((try simp only [qX]at *);(try simp only [zQ,zA,zB,zC,zD,zE,zF,zG,zH,zI,zJ,zK,zL,zM,zN,zO,zP,zR,zS]at *);omega));intro ix h0 h1;first|exact Fit.refl _|(exfalso;(try simp only [qX]at *);(try simp only [zQ,zA,zB,zC,zD,zE,zF,zG,zH,zI,zJ,zK,zL,zM,zN,zO,zP,zR,zS]at *);omega))))|(exfalso;exact uhg hn (by assumption) (fun j hj=>eq4 (q:=q) (f:=f) (by assumption) j (by omega)))|(exfalso;(try simp only [qX]at *);(try simp only [zQ,zA,zB,zC,zD,zE,zF,zG,zH,zI,zJ,zK,zL,zM,zN,zO,zP,zR,zS]at *);omega)|skip
set_option maxHeartbeats 4000000 in
theorem uti (fn:Nat)(c:Clr)(L:Nat)(W V:(Nat→Int)→Nat→Int)(i:Nat)(T:Bool)(f q:Nat→Int)(A B:Nat→Int)(hC:COk c)(hL:1≤L∧L≤1000)(hF:∀q:Nat→Int,okQ c q=true→(∀j,0≤q j∧q j≤1000)→ua0 Try.prog fn [(.pp 0 [(caS c.cs),(mvS c.mv),(gaS c.gs),(.arr 4 (fun ix=>(iv fun _=>q ix.den.toNat))),(.mapx 170 39 false 2 (inD c q c.cs.length 0) (stS c q))])] [] (fun r _=>r=(.sl 2 (.sym fun _=>zi L) (fun ix=>[(iv fun _=>(W q) ix.den.toNat),(iv fun _=>(V q) ix.den.toNat)]))))(hq:∀j,0≤q j∧q j≤1000)(hn:Nw T f q i)(hi:i=c.mv.length)(ho:okQ c q=true):ua0 Try.prog 111 [(iv fun _=>zi i),(.agg [(.arr 4 (fun ix=>(iv fun _=>q ix.den.toNat)))]),.own 0 0,.own 1 0,.own 2 0,.own 3 0,.own 4 0] [.cells [(caS c.cs),(mvS c.mv),(gaS c.gs)] 36,.cells [.clo 111 [] [.own 0 0,.own 1 0,.own 2 0,.own 3 0,.own 4 0]] 177,.cells [(bv fun _=>T)] 4,.cells [.arr 4 (fun ix=>(iv fun _=>f ix.den.toNat))] 154,.cells [.clo 122 [] [.own 5 0,.own 6 0,.own 7 0]] 166,.cells [.clo fn [] []] 138,.cells [(.bool (.lit true))] 4,.cells [.row 8] 59,.row 39 2 (.sym fun _=>zi L) (fun ix=>[(iv fun _=>A ix.den.toNat),(iv fun _=>B ix.den.toNat)])] (fun r bs=>r=(.bool (.lit false))∧bs=[.cells [(caS c.cs),(mvS c.mv),(gaS c.gs)] 36,.cells [.clo 111 [] [.own 0 0,.own 1 0,.own 2 0,.own 3 0,.own 4 0]] 177,.cells [(.bool (.lit true))] 4,.cells [.arr 4 (fun ix=>(iv fun _=>q ix.den.toNat))] 154,.cells [.clo 122 [] [.own 5 0,.own 6 0,.own 7 0]] 166,.cells [.clo fn [] []] 138,.cells [(.bool (.lit true))] 4,.cells [.row 8] 59,.row 39 2 (.sym fun _=>zi L) (fun ix=>[(iv fun _=>(fun e=>mn (A e) (W q e)) ix.den.toNat),(iv fun _=>(fun e=>mx (B e) (V q e)) ix.den.toNat)])]):=by
 have h154:=ufi
 have c112:=uoH c q hC hq ho
 have ca:=uxE fn c q L (W q) (V q) A B hL (hF q ho hq)
 generalize inD c q c.cs.length 0=D at c112 ca
 generalize stS c q=Fs at c112 ca
 clear hF
 refine ua0.isB rfl fun R B hR hB=>qY (sc:=udY) uas mix Try.func111 rfl Try.call111 (by kernel_rfl) (by kernel_rfl) ?_
 generalize Try.prog=P at h154 c112 ca⊢
 cbv
 have hm4:=hC.m4
 repeat' (first
  |with_reducible refine ua3 ?_ ?_
  |with_reducible refine And.intro ?_ ?_
  |(with_reducible intro hcd;(try simp only [zA,zB,zC,zD,zE,zF,zG,zH,zI,zJ,zK,zL,zM,zN,zO,zP]at hcd);try cbv)
  | (refine Exists.intro (α:=Nat) 2 ?_
     cbv)
  |(refine qQ ?_ (c112) ?hfit;(case hfit=>((repeat' (first|exact qB|refine qD ?_ ?_|exact qE (by rfl)|exact qF (by rfl)|exact Fit.refl _|exact qA|refine qC ?_ rfl ?_));done));try cbv)
  | (refine⟨some [5,6,7,8],?_⟩
     cbv
     refine qR ?_ (ca) (by cbv;(repeat' (first|exact qB|refine qD ?_ ?_|exact qE (by rfl)|exact qF (by rfl)|exact Fit.refl _|exact qA|refine qC ?_ rfl ?_))) (by cbv;(repeat' (first|exact qH|refine qI ?_ ?_|exact qK _|refine qJ ?_|exact qA|exact qE (by rfl)|exact qF (by rfl)|exact Fit.refl _|exact qG _|refine qC ?_ rfl ?_)))
     try cbv)
  |fail)
 all_goals first|trivial|((try simp only [qX]at *);(try simp only [zQ,zA,zB,zC,zD,zE,zF,zG,zH,zI,zJ,zK,zL,zM,zN,zO,zP,zR,zS]at *);first|(refine qO ?_;omega)|(simp only [uap];omega))|(subst hR;exact Fit.refl _;done)|(subst hB;(repeat' (first|exact qH|refine qI ?_ ?_|exact qK _|refine qJ ?_|exact qA|exact qE (by rfl)|exact qF (by rfl)|exact Fit.refl _|exact qG _|refine qC ?_ rfl ?_));done)|(exfalso;exact uhg hn (by assumption) (fun j hj=>eq4 (q:=q) (f:=f) (by assumption) j (by omega)))|(exfalso;(try simp only [qX]at *);(try simp only [zQ,zA,zB,zC,zD,zE,zF,zG,zH,zI,zJ,zK,zL,zM,zN,zO,zP,zR,zS]at *);omega)|skip
set_option maxHeartbeats 4000000 in
theorem uuy (fn:Nat)(c:Clr)(L:Nat)(W V:(Nat→Int)→Nat→Int)(i:Nat)(T:Bool)(f q:Nat→Int)(n:Nat)(hC:COk c)(hL:1≤L∧L≤1000)(hF:∀q:Nat→Int,okQ c q=true→(∀j,0≤q j∧q j≤1000)→ua0 Try.prog fn [(.pp 0 [(caS c.cs),(mvS c.mv),(gaS c.gs),(.arr 4 (fun ix=>(iv fun _=>q ix.den.toNat))),(.mapx 170 39 false 2 (inD c q c.cs.length 0) (stS c q))])] [] (fun r _=>r=(.sl 2 (.sym fun _=>zi L) (fun ix=>[(iv fun _=>(W q) ix.den.toNat),(iv fun _=>(V q) ix.den.toNat)]))))(hq:∀j,0≤q j∧q j≤1000)(hn:Nw T f q i)(hi:i+(n+1)=c.mv.length)(hch:fQ c (n+1) i q=none)(ih0:∀(T:Bool) (f q:Nat→Int),(∀j,0≤q j∧q j≤1000)→Nw T f q (i+1)→fQ c n (i+1) q=none→ua0 Try.prog 111 [(iv fun _=>zi (i+1)),(.agg [(.arr 4 (fun ix=>(iv fun _=>q ix.den.toNat)))]),.own 0 0,.own 1 0,.own 2 0,.own 3 0,.own 4 0] [.cells [(caS c.cs),(mvS c.mv),(gaS c.gs)] 36,.cells [.clo 111 [] [.own 0 0,.own 1 0,.own 2 0,.own 3 0,.own 4 0]] 177,.cells [(bv fun _=>T)] 4,.cells [.arr 4 (fun ix=>(iv fun _=>f ix.den.toNat))] 154,.cells [.clo 122 [] [.own 5 0,.own 6 0,.own 7 0]] 166,.cells [.clo fn [] []] 138,.cells [(.bool (.lit false))] 4,.cells [.val (Value.slice none 0 0)] 59] (fun r bs=>r=(.bool (.lit false))∧bs=[.cells [(caS c.cs),(mvS c.mv),(gaS c.gs)] 36,.cells [.clo 111 [] [.own 0 0,.own 1 0,.own 2 0,.own 3 0,.own 4 0]] 177,.cells [(.bool (.lit true))] 4,.cells [.arr 4 (fun ix=>(iv fun _=>(uf8 c n (i+1) q) ix.den.toNat))] 154,.cells [.clo 122 [] [.own 5 0,.own 6 0,.own 7 0]] 166,.cells [.clo fn [] []] 138,.cells [(.bool (.lit false))] 4,.cells [.val (Value.slice none 0 0)] 59])):ua0 Try.prog 111 [(iv fun _=>zi i),(.agg [(.arr 4 (fun ix=>(iv fun _=>q ix.den.toNat)))]),.own 0 0,.own 1 0,.own 2 0,.own 3 0,.own 4 0] [.cells [(caS c.cs),(mvS c.mv),(gaS c.gs)] 36,.cells [.clo 111 [] [.own 0 0,.own 1 0,.own 2 0,.own 3 0,.own 4 0]] 177,.cells [(bv fun _=>T)] 4,.cells [.arr 4 (fun ix=>(iv fun _=>f ix.den.toNat))] 154,.cells [.clo 122 [] [.own 5 0,.own 6 0,.own 7 0]] 166,.cells [.clo fn [] []] 138,.cells [(.bool (.lit false))] 4,.cells [.val (Value.slice none 0 0)] 59] (fun r bs=>r=(.bool (.lit false))∧bs=[.cells [(caS c.cs),(mvS c.mv),(gaS c.gs)] 36,.cells [.clo 111 [] [.own 0 0,.own 1 0,.own 2 0,.own 3 0,.own 4 0]] 177,.cells [(.bool (.lit true))] 4,.cells [.arr 4 (fun ix=>(iv fun _=>(uf8 c (n+1) i q) ix.den.toNat))] 154,.cells [.clo 122 [] [.own 5 0,.own 6 0,.own 7 0]] 166,.cells [.clo fn [] []] 138,.cells [(.bool (.lit false))] 4,.cells [.val (Value.slice none 0 0)] 59]):=by
 have ih0':=ih0
 clear hF
 refine ua0.isB rfl fun R B hR hB=>qY (sc:=udY) uas mix Try.func111 rfl Try.call111 (by kernel_rfl) (by kernel_rfl) ?_
 generalize Try.prog=P at ih0'⊢
 cbv
 have hm4:=hC.m4
 have hv:=hC.v i (by omega)
 have hq1:=hv.q1
 have hq0:=hv.q0
 have hq2:=hv.q2
 have hct:zi (cnt (c.mv.getD i v0))=(c.mv.getD i v0).qh-(c.mv.getD i v0).ql+1:=by simp only [uaw];unfold cnt;omega
 have hc1:1≤cnt (c.mv.getD i v0):=by unfold cnt;omega
 repeat' (first|with_reducible refine ua3 ?_ ?_|with_reducible refine And.intro ?_ ?_|(with_reducible intro hcd;(try simp only [zA,zB,zC,zD,zE,zF,zG,zH,zI,zJ,zK,zL,zM,zN,zO,zP]at hcd);try cbv)|fail)
 all_goals first|((try simp only [qX]at *);(try simp only [zQ,zA,zB,zC,zD,zE,zF,zG,zH,zI,zJ,zK,zL,zM,zN,zO,zP,zR,zS]at *);first|(refine qO ?_;omega)|(simp only [uap];omega))|(exfalso;(try simp only [qX]at *);(try simp only [zQ,zA,zB,zC,zD,zE,zF,zG,zH,zI,zJ,zK,zL,zM,zN,zO,zP,zR,zS]at *);omega)|skip
 refine⟨none,[],{x:Nat×Bool×(Nat→Int)×(Nat→Int) // (x.1≤cnt (c.mv.getD i v0)∧frs (fun x=>fQ c n (i+1) (ucH c i q x)) (cnt (c.mv.getD i v0)-x.1) x.1=none)∧LpQ c n i q x.1 x.2.1 x.2.2.1 x.2.2.2},fun x=>⟨[(0,(iv fun _=>zi i)),(2,.own 0 0),(3,.own 1 0),(4,.own 2 0),(5,.own 3 0),(6,.own 4 0),(8,.own 8 0),(10,.own 21 0),(30,(iv fun _=>zi (cnt (c.mv.getD i v0)))),(31,(iv fun _=>zi x.1.1))],[(0,.cells [(caS c.cs),(mvS c.mv),(gaS c.gs)] 36),(1,.cells [.clo 111 [] [.own 0 0,.own 1 0,.own 2 0,.own 3 0,.own 4 0]] 177),(2,.cells [(bv fun _=>x.1.2.1)] 4),(3,.cells [.arr 4 (fun ix=>(iv fun _=>x.1.2.2.1 ix.den.toNat))] 154),(4,.cells [.clo 122 [] [.own 5 0,.own 6 0,.own 7 0]] 166),(5,.cells [.clo fn [] []] 138),(6,.cells [(.bool (.lit false))] 4),(7,.cells [.val (Value.slice none 0 0)] 59),(8,.cells [.arr 4 (fun ix=>(iv fun _=>x.1.2.2.2 ix.den.toNat))] 154),(21,.cells [(iv fun _=>(c.mv.getD i v0).ql),(iv fun _=>(c.mv.getD i v0).qh)] 39)],60⟩,fun x=>cnt (c.mv.getD i v0)-x.1.1,?_,?_⟩
 ·refine⟨⟨(0,T,f,q),⟨by simp only [];omega,by rw [ujZ]at hch;exact hch⟩,uf4 hn⟩,?_⟩
  cbv
  repeat' (first|with_reducible refine ua3 ?_ ?_|with_reducible refine And.intro ?_ ?_)
  all_goals first|trivial|exact qN (qE (by rfl))|exact qN (Fit.refl _)|exact qL (qK _)|(refine qN (qE ?_);(try simp only [qX]at *);simp only [zQ,zA,zB,zC,zD,zE,zF,zG,zH,zI,zJ,zK,zL,zM,zN,zO,zP,zR,zS]at *;omega)|skip
 ·rintro ⟨⟨x,T1,f1,Q⟩,⟨h1,h2⟩,h3⟩
  cbv
  dsimp only at h1 h2 h3
  obtain⟨Qn,hQe⟩:∃Q',Q'=ucH c i q x:=⟨_,rfl⟩
  obtain⟨Lq,hLq⟩:∃f,f=uf8 c n (i+1) Qn:=⟨_,rfl⟩
  have hQy:∀j,j=i→(c.mv.getD i v0).ql+zi x=Qn j:=fun j h=>by rw [hQe,h];exact udF.symm
  have hQn:∀j,j≠i→Q j=Qn j:=fun j h=>by rw [hQe,udU h];exact h3.qe j h
  have hqb:x<cnt (c.mv.getD i v0)→∀j,0≤Qn j∧Qn j≤1000:=fun hx j=>by
   by_cases h:j=i
   ·have h8:=hQy j h
    simp only [uaw]at h8 hct
    omega
   ·rw [←hQn j h,h3.qe j h];exact hq j
  have hnb:x<cnt (c.mv.getD i v0)→Nw T1 f1 Qn (i+1):=fun hx=>by rw [hQe];exact h3.nw hx
  have hQg:fQ c n (i+1) Qn=none→fQ c n (i+1) (ucH c i q x)=none:=fun h=>by rw [hQe]at h;exact h
  have hQf:∀{G},fQ c n (i+1) Qn=some G→fQ c n (i+1) (ucH c i q x)=some G:=fun h=>by rw [hQe]at h;exact h
  repeat' (first
   |with_reducible refine ua3 ?_ ?_
   |with_reducible refine And.intro ?_ ?_
   |(with_reducible intro hcd;(try simp only [zA,zB,zC,zD,zE,zF,zG,zH,zI,zJ,zK,zL,zM,zN,zO,zP]at hcd);try cbv)
   | (refine⟨fun ix=>(iv fun _=>Qn ix.den.toNat),?_⟩
      cbv
      refine ua3 (ubS (by intro jx h0 h1 h2;refine qE ?_;(try simp only [qX]at *);(try simp only [zQ,zA,zB,zC,zD,zE,zF,zG,zH,zI,zJ,zK,zL,zM,zN,zO,zP,zR,zS]at *);exact hQy _ (by omega)) (by intro jx h0 h1 h2;refine qE ?_;(try simp only [qX]at *);(try simp only [zQ,zA,zB,zC,zD,zE,zF,zG,zH,zI,zJ,zK,zL,zM,zN,zO,zP,zR,zS]at *);exact hQn _ (by omega))) ?_
      try cbv)
   |((have hx:x<cnt (c.mv.getD i v0):= om);(rcases hcj:fQ c n (i+1) Qn with _|G)<;>(first|(have c7:=ih0' T1 f1 Qn (hqb hx) (hnb hx) hcj;rw [←hLq]at c7;(refine⟨some [0,1,2,3,4,5,6,7],?_⟩;cbv;refine qR ?_ (c7) (by cbv;refine qD (qE (ueA i)) ?_;(repeat' (first|exact qB|refine qD ?_ ?_|exact qE (by rfl)|exact qF (by rfl)|exact Fit.refl _|exact qA|refine qC ?_ rfl ?_))) (by cbv;(repeat' (first|exact qH|refine qI ?_ ?_|exact qK _|refine qJ ?_|exact qA|exact qE (by rfl)|exact qF (by rfl)|exact Fit.refl _|exact qG _|refine qC ?_ rfl ?_)));(try cbv)))|(exfalso;cases (ujK (f:=fun x=>fQ c n (i+1) (ucH c i q x)) (k:=cnt (c.mv.getD i v0)-x) (i:=x) (by omega) (hQf hcj)).symm.trans h2;done)))
   |fail)
  all_goals first|((try simp only [qX]at *);(try simp only [zQ,zA,zB,zC,zD,zE,zF,zG,zH,zI,zJ,zK,zL,zM,zN,zO,zP,zR,zS]at *);first|(refine qO ?_;omega)|(simp only [uap];omega))|(subst hR;exact Fit.refl _;done)|((have hxe:x=cnt (c.mv.getD i v0):= om);(obtain⟨e1,e2⟩:=uhP h3 hxe (by omega));subst e1 e2;subst hB;(repeat' (first|exact qH|refine qI ?_ ?_|exact qK _|refine qJ ?_|exact qA|exact qE (by rfl)|exact qF (by rfl)|exact Fit.refl _|exact qG _|refine qC ?_ rfl ?_));done)|((have hx:x<cnt (c.mv.getD i v0):= om);refine⟨⟨(x+1,true,Lq,Qn),⟨by simp only [];omega,by simp only [];rw [show cnt (c.mv.getD i v0)-(x+1)=cnt (c.mv.getD i v0)-x-1 by omega];exact(upc (f:=fun x=>fQ c n (i+1) (ucH c i q x)) (k:=cnt (c.mv.getD i v0)-x) (i:=x) (by omega) (hQg hcj)).symm.trans h2⟩,by simp only [];rw [hLq,hQe];exact udr⟩,by simp only [];omega,?_⟩;cbv;(repeat' (first|with_reducible refine ua3 ?_ ?_|with_reducible refine And.intro ?_ ?_));(all_goals first|trivial|exact qN (qE (by rfl))|exact qN (qF (by rfl))|exact qN (Fit.refl _)|exact qL (qK _)|(refine qN (qE ?_);(try simp only [qX]at *);simp only [zQ,zA,zB,zC,zD,zE,zF,zG,zH,zI,zJ,zK,zL,zM,zN,zO,zP,zR,zS]at *;omega)|(refine qL (qJ ?_);(repeat' (first|exact qA|exact qB|refine qC ?_ rfl ?_|refine qD ?_ ?_|exact qE (by rfl)|exact qF (by rfl)|exact Fit.refl _|exact qG _|(refine qE ?_;(try simp only [qX]at *);simp only [zQ,zA,zB,zC,zD,zE,zF,zG,zH,zI,zJ,zK,zL,zM,zN,zO,zP,zR,zS]at *;omega)));done)|(refine qL ?_;first|exact qK _)|skip))|skip
set_option maxHeartbeats 4000000 in
theorem uuU (fn:Nat)(c:Clr)(L:Nat)(W V:(Nat→Int)→Nat→Int)(i:Nat)(T:Bool)(f q:Nat→Int)(n:Nat)(A0 B0:Nat→Int)(hC:COk c)(hL:1≤L∧L≤1000)(hF:∀q:Nat→Int,okQ c q=true→(∀j,0≤q j∧q j≤1000)→ua0 Try.prog fn [(.pp 0 [(caS c.cs),(mvS c.mv),(gaS c.gs),(.arr 4 (fun ix=>(iv fun _=>q ix.den.toNat))),(.mapx 170 39 false 2 (inD c q c.cs.length 0) (stS c q))])] [] (fun r _=>r=(.sl 2 (.sym fun _=>zi L) (fun ix=>[(iv fun _=>(W q) ix.den.toNat),(iv fun _=>(V q) ix.den.toNat)]))))(hq:∀j,0≤q j∧q j≤1000)(hn:Nw T f q i)(hi:i+(n+1)=c.mv.length)(ih2:∀(T:Bool) (f q A B:Nat→Int),(∀j,0≤q j∧q j≤1000)→Nw T f q (i+1)→ua0 Try.prog 111 [(iv fun _=>zi (i+1)),(.agg [(.arr 4 (fun ix=>(iv fun _=>q ix.den.toNat)))]),.own 0 0,.own 1 0,.own 2 0,.own 3 0,.own 4 0] [.cells [(caS c.cs),(mvS c.mv),(gaS c.gs)] 36,.cells [.clo 111 [] [.own 0 0,.own 1 0,.own 2 0,.own 3 0,.own 4 0]] 177,.cells [(bv fun _=>T)] 4,.cells [.arr 4 (fun ix=>(iv fun _=>f ix.den.toNat))] 154,.cells [.clo 122 [] [.own 5 0,.own 6 0,.own 7 0]] 166,.cells [.clo fn [] []] 138,.cells [(.bool (.lit true))] 4,.cells [.row 8] 59,.row 39 2 (.sym fun _=>zi L) (fun ix=>[(iv fun _=>A ix.den.toNat),(iv fun _=>B ix.den.toNat)])] (fun r bs=>r=(.bool (.lit false))∧bs=[.cells [(caS c.cs),(mvS c.mv),(gaS c.gs)] 36,.cells [.clo 111 [] [.own 0 0,.own 1 0,.own 2 0,.own 3 0,.own 4 0]] 177,.cells [(.bool (.lit true))] 4,.cells [.arr 4 (fun ix=>(iv fun _=>(uf8 c n (i+1) q) ix.den.toNat))] 154,.cells [.clo 122 [] [.own 5 0,.own 6 0,.own 7 0]] 166,.cells [.clo fn [] []] 138,.cells [(.bool (.lit true))] 4,.cells [.row 8] 59,.row 39 2 (.sym fun _=>zi L) (fun ix=>[(iv fun _=>(loE c W A (ud2 c.mv n (i+1) q)) ix.den.toNat),(iv fun _=>(hiE c V B (ud2 c.mv n (i+1) q)) ix.den.toNat)])])):ua0 Try.prog 111 [(iv fun _=>zi i),(.agg [(.arr 4 (fun ix=>(iv fun _=>q ix.den.toNat)))]),.own 0 0,.own 1 0,.own 2 0,.own 3 0,.own 4 0] [.cells [(caS c.cs),(mvS c.mv),(gaS c.gs)] 36,.cells [.clo 111 [] [.own 0 0,.own 1 0,.own 2 0,.own 3 0,.own 4 0]] 177,.cells [(bv fun _=>T)] 4,.cells [.arr 4 (fun ix=>(iv fun _=>f ix.den.toNat))] 154,.cells [.clo 122 [] [.own 5 0,.own 6 0,.own 7 0]] 166,.cells [.clo fn [] []] 138,.cells [(.bool (.lit true))] 4,.cells [.row 8] 59,.row 39 2 (.sym fun _=>zi L) (fun ix=>[(iv fun _=>A0 ix.den.toNat),(iv fun _=>B0 ix.den.toNat)])] (fun r bs=>r=(.bool (.lit false))∧bs=[.cells [(caS c.cs),(mvS c.mv),(gaS c.gs)] 36,.cells [.clo 111 [] [.own 0 0,.own 1 0,.own 2 0,.own 3 0,.own 4 0]] 177,.cells [(.bool (.lit true))] 4,.cells [.arr 4 (fun ix=>(iv fun _=>(uf8 c (n+1) i q) ix.den.toNat))] 154,.cells [.clo 122 [] [.own 5 0,.own 6 0,.own 7 0]] 166,.cells [.clo fn [] []] 138,.cells [(.bool (.lit true))] 4,.cells [.row 8] 59,.row 39 2 (.sym fun _=>zi L) (fun ix=>[(iv fun _=>(loE c W A0 (ud2 c.mv (n+1) i q)) ix.den.toNat),(iv fun _=>(hiE c V B0 (ud2 c.mv (n+1) i q)) ix.den.toNat)])]):=by
 have ih2':=ih2
 clear hF
 refine ua0.isB rfl fun R B hR hB=>qY (sc:=udY) uas mix Try.func111 rfl Try.call111 (by kernel_rfl) (by kernel_rfl) ?_
 generalize Try.prog=P at ih2'⊢
 cbv
 have hm4:=hC.m4
 have hv:=hC.v i (by omega)
 have hq1:=hv.q1
 have hq0:=hv.q0
 have hq2:=hv.q2
 have hct:zi (cnt (c.mv.getD i v0))=(c.mv.getD i v0).qh-(c.mv.getD i v0).ql+1:=by simp only [uaw];unfold cnt;omega
 have hc1:1≤cnt (c.mv.getD i v0):=by unfold cnt;omega
 repeat' (first|with_reducible refine ua3 ?_ ?_|with_reducible refine And.intro ?_ ?_|(with_reducible intro hcd;(try simp only [zA,zB,zC,zD,zE,zF,zG,zH,zI,zJ,zK,zL,zM,zN,zO,zP]at hcd);try cbv)|fail)
 all_goals first|((try simp only [qX]at *);(try simp only [zQ,zA,zB,zC,zD,zE,zF,zG,zH,zI,zJ,zK,zL,zM,zN,zO,zP,zR,zS]at *);first|(refine qO ?_;omega)|(simp only [uap];omega))|(exfalso;(try simp only [qX]at *);(try simp only [zQ,zA,zB,zC,zD,zE,zF,zG,zH,zI,zJ,zK,zL,zM,zN,zO,zP,zR,zS]at *);omega)|skip
 refine⟨none,[],{x:Nat×Bool×(Nat→Int)×(Nat→Int)×(Nat→Int)×(Nat→Int) // x.1≤cnt (c.mv.getD i v0)∧LpQ c n i q x.1 x.2.1 x.2.2.1 x.2.2.2.1∧EA c W V n i q A0 B0 x.1 x.2.2.2.2.1 x.2.2.2.2.2},fun x=>⟨[(0,(iv fun _=>zi i)),(2,.own 0 0),(3,.own 1 0),(4,.own 2 0),(5,.own 3 0),(6,.own 4 0),(8,.own 9 0),(10,.own 22 0),(30,(iv fun _=>zi (cnt (c.mv.getD i v0)))),(31,(iv fun _=>zi x.1.1))],[(0,.cells [(caS c.cs),(mvS c.mv),(gaS c.gs)] 36),(1,.cells [.clo 111 [] [.own 0 0,.own 1 0,.own 2 0,.own 3 0,.own 4 0]] 177),(2,.cells [(bv fun _=>x.1.2.1)] 4),(3,.cells [.arr 4 (fun ix=>(iv fun _=>x.1.2.2.1 ix.den.toNat))] 154),(4,.cells [.clo 122 [] [.own 5 0,.own 6 0,.own 7 0]] 166),(5,.cells [.clo fn [] []] 138),(6,.cells [(.bool (.lit true))] 4),(7,.cells [.row 8] 59),(8,.row 39 2 (.sym fun _=>zi L) (fun ix=>[(iv fun _=>x.1.2.2.2.2.1 ix.den.toNat),(iv fun _=>x.1.2.2.2.2.2 ix.den.toNat)])),(9,.cells [.arr 4 (fun ix=>(iv fun _=>x.1.2.2.2.1 ix.den.toNat))] 154),(22,.cells [(iv fun _=>(c.mv.getD i v0).ql),(iv fun _=>(c.mv.getD i v0).qh)] 39)],60⟩,fun x=>cnt (c.mv.getD i v0)-x.1.1,?_,?_⟩
 ·refine⟨⟨(0,T,f,q,A0,B0),by simp only [];omega,uf4 hn,usq _ _ _ _ _ _ _ _⟩,?_⟩
  cbv
  repeat' (first|with_reducible refine ua3 ?_ ?_|with_reducible refine And.intro ?_ ?_)
  all_goals first|trivial|exact qN (qE (by rfl))|exact qN (Fit.refl _)|exact qL (qK _)|(refine qN (qE ?_);(try simp only [qX]at *);simp only [zQ,zA,zB,zC,zD,zE,zF,zG,zH,zI,zJ,zK,zL,zM,zN,zO,zP,zR,zS]at *;omega)|skip
 ·rintro ⟨⟨x,T1,f1,Q,A,B⟩,h1,h3,h4⟩
  cbv
  dsimp only at h1 h3 h4
  obtain⟨Qn,hQe⟩:∃Q',Q'=ucH c i q x:=⟨_,rfl⟩
  obtain⟨Lq,hLq⟩:∃f,f=uf8 c n (i+1) Qn:=⟨_,rfl⟩
  have hQy:∀j,j=i→(c.mv.getD i v0).ql+zi x=Qn j:=fun j h=>by rw [hQe,h];exact udF.symm
  have hQn:∀j,j≠i→Q j=Qn j:=fun j h=>by rw [hQe,udU h];exact h3.qe j h
  have hqb:x<cnt (c.mv.getD i v0)→∀j,0≤Qn j∧Qn j≤1000:=fun hx j=>by
   by_cases h:j=i
   ·have h8:=hQy j h
    simp only [uaw]at h8 hct
    omega
   ·rw [←hQn j h,h3.qe j h];exact hq j
  have hnb:x<cnt (c.mv.getD i v0)→Nw T1 f1 Qn (i+1):=fun hx=>by rw [hQe];exact h3.nw hx
  have hQg:fQ c n (i+1) Qn=none→fQ c n (i+1) (ucH c i q x)=none:=fun h=>by rw [hQe]at h;exact h
  have hQf:∀{G},fQ c n (i+1) Qn=some G→fQ c n (i+1) (ucH c i q x)=some G:=fun h=>by rw [hQe]at h;exact h
  obtain⟨A2,hA2⟩:∃f,f=loE c W A (ud2 c.mv n (i+1) Qn):=⟨_,rfl⟩
  obtain⟨B2,hB2⟩:∃f,f=hiE c V B (ud2 c.mv n (i+1) Qn):=⟨_,rfl⟩
  repeat' (first
   |with_reducible refine ua3 ?_ ?_
   |with_reducible refine And.intro ?_ ?_
   |(with_reducible intro hcd;(try simp only [zA,zB,zC,zD,zE,zF,zG,zH,zI,zJ,zK,zL,zM,zN,zO,zP]at hcd);try cbv)
   | (refine⟨fun ix=>(iv fun _=>Qn ix.den.toNat),?_⟩
      cbv
      refine ua3 (ubS (by intro jx h0 h1 h2;refine qE ?_;(try simp only [qX]at *);(try simp only [zQ,zA,zB,zC,zD,zE,zF,zG,zH,zI,zJ,zK,zL,zM,zN,zO,zP,zR,zS]at *);exact hQy _ (by omega)) (by intro jx h0 h1 h2;refine qE ?_;(try simp only [qX]at *);(try simp only [zQ,zA,zB,zC,zD,zE,zF,zG,zH,zI,zJ,zK,zL,zM,zN,zO,zP,zR,zS]at *);exact hQn _ (by omega))) ?_
      try cbv)
   |((have hx:x<cnt (c.mv.getD i v0):= om);(have c7:=ih2' T1 f1 Qn A B (hqb hx) (hnb hx);rw [←hLq,←hA2,←hB2]at c7;(refine⟨some [0,1,2,3,4,5,6,7,8],?_⟩;cbv;refine qR ?_ (c7) (by cbv;refine qD (qE (ueA i)) ?_;(repeat' (first|exact qB|refine qD ?_ ?_|exact qE (by rfl)|exact qF (by rfl)|exact Fit.refl _|exact qA|refine qC ?_ rfl ?_))) (by cbv;(repeat' (first|exact qH|refine qI ?_ ?_|exact qK _|refine qJ ?_|exact qA|exact qE (by rfl)|exact qF (by rfl)|exact Fit.refl _|exact qG _|refine qC ?_ rfl ?_)));(try cbv))))
   |fail)
  all_goals first|((try simp only [qX]at *);(try simp only [zQ,zA,zB,zC,zD,zE,zF,zG,zH,zI,zJ,zK,zL,zM,zN,zO,zP,zR,zS]at *);first|(refine qO ?_;omega)|(simp only [uap];omega))|(subst hR;exact Fit.refl _;done)|((have hxe:x=cnt (c.mv.getD i v0):= om);(obtain⟨e1,e2⟩:=uhP h3 hxe (by omega));(obtain⟨e3,e4⟩:=uu9 h4 hxe);subst e1 e2 e3 e4;subst hB;(repeat' (first|exact qH|refine qI ?_ ?_|exact qK _|refine qJ ?_|exact qA|exact qE (by rfl)|exact qF (by rfl)|exact Fit.refl _|exact qG _|refine qC ?_ rfl ?_));done)|((have hx:x<cnt (c.mv.getD i v0):= om);refine⟨⟨(x+1,true,Lq,Qn,A2,B2),by simp only [];omega,by simp only [];rw [hLq,hQe];exact udr,by simp only [];rw [hA2,hB2,hQe];exact utk h4⟩,by simp only [];omega,?_⟩;cbv;(repeat' (first|with_reducible refine ua3 ?_ ?_|with_reducible refine And.intro ?_ ?_));(all_goals first|trivial|exact qN (qE (by rfl))|exact qN (qF (by rfl))|exact qN (Fit.refl _)|exact qL (qK _)|(refine qN (qE ?_);(try simp only [qX]at *);simp only [zQ,zA,zB,zC,zD,zE,zF,zG,zH,zI,zJ,zK,zL,zM,zN,zO,zP,zR,zS]at *;omega)|(refine qL (qJ ?_);(repeat' (first|exact qA|exact qB|refine qC ?_ rfl ?_|refine qD ?_ ?_|exact qE (by rfl)|exact qF (by rfl)|exact Fit.refl _|exact qG _|(refine qE ?_;(try simp only [qX]at *);simp only [zQ,zA,zB,zC,zD,zE,zF,zG,zH,zI,zJ,zK,zL,zM,zN,zO,zP,zR,zS]at *;omega)));done)|(refine qL ?_;first|exact qK _)|skip))|skip
set_option maxHeartbeats 4000000 in
theorem uux (fn:Nat)(c:Clr)(L:Nat)(W V:(Nat→Int)→Nat→Int)(i:Nat)(T:Bool)(f q:Nat→Int)(n:Nat)(F0:Nat→Int)(hC:COk c)(hL:1≤L∧L≤1000)(hF:∀q:Nat→Int,okQ c q=true→(∀j,0≤q j∧q j≤1000)→ua0 Try.prog fn [(.pp 0 [(caS c.cs),(mvS c.mv),(gaS c.gs),(.arr 4 (fun ix=>(iv fun _=>q ix.den.toNat))),(.mapx 170 39 false 2 (inD c q c.cs.length 0) (stS c q))])] [] (fun r _=>r=(.sl 2 (.sym fun _=>zi L) (fun ix=>[(iv fun _=>(W q) ix.den.toNat),(iv fun _=>(V q) ix.den.toNat)]))))(hq:∀j,0≤q j∧q j≤1000)(hn:Nw T f q i)(hi:i+(n+1)=c.mv.length)(hch:fQ c (n+1) i q=some F0)(ih0:∀(T:Bool) (f q:Nat→Int),(∀j,0≤q j∧q j≤1000)→Nw T f q (i+1)→fQ c n (i+1) q=none→ua0 Try.prog 111 [(iv fun _=>zi (i+1)),(.agg [(.arr 4 (fun ix=>(iv fun _=>q ix.den.toNat)))]),.own 0 0,.own 1 0,.own 2 0,.own 3 0,.own 4 0] [.cells [(caS c.cs),(mvS c.mv),(gaS c.gs)] 36,.cells [.clo 111 [] [.own 0 0,.own 1 0,.own 2 0,.own 3 0,.own 4 0]] 177,.cells [(bv fun _=>T)] 4,.cells [.arr 4 (fun ix=>(iv fun _=>f ix.den.toNat))] 154,.cells [.clo 122 [] [.own 5 0,.own 6 0,.own 7 0]] 166,.cells [.clo fn [] []] 138,.cells [(.bool (.lit false))] 4,.cells [.val (Value.slice none 0 0)] 59] (fun r bs=>r=(.bool (.lit false))∧bs=[.cells [(caS c.cs),(mvS c.mv),(gaS c.gs)] 36,.cells [.clo 111 [] [.own 0 0,.own 1 0,.own 2 0,.own 3 0,.own 4 0]] 177,.cells [(.bool (.lit true))] 4,.cells [.arr 4 (fun ix=>(iv fun _=>(uf8 c n (i+1) q) ix.den.toNat))] 154,.cells [.clo 122 [] [.own 5 0,.own 6 0,.own 7 0]] 166,.cells [.clo fn [] []] 138,.cells [(.bool (.lit false))] 4,.cells [.val (Value.slice none 0 0)] 59]))(ih1:∀(T:Bool) (f q F:Nat→Int),(∀j,0≤q j∧q j≤1000)→Nw T f q (i+1)→fQ c n (i+1) q=some F→uaU Try.prog 111 [(iv fun _=>zi (i+1)),(.agg [(.arr 4 (fun ix=>(iv fun _=>q ix.den.toNat)))]),.own 0 0,.own 1 0,.own 2 0,.own 3 0,.own 4 0] [.cells [(caS c.cs),(mvS c.mv),(gaS c.gs)] 36,.cells [.clo 111 [] [.own 0 0,.own 1 0,.own 2 0,.own 3 0,.own 4 0]] 177,.cells [(bv fun _=>T)] 4,.cells [.arr 4 (fun ix=>(iv fun _=>f ix.den.toNat))] 154,.cells [.clo 122 [] [.own 5 0,.own 6 0,.own 7 0]] 166,.cells [.clo fn [] []] 138,.cells [(.bool (.lit false))] 4,.cells [.val (Value.slice none 0 0)] 59] (fun r bs=>r=(.bool (.lit false))∧bs=[.cells [(caS c.cs),(mvS c.mv),(gaS c.gs)] 36,.cells [.clo 111 [] [.own 0 0,.own 1 0,.own 2 0,.own 3 0,.own 4 0]] 177,.cells [(.bool (.lit true))] 4,.cells [.arr 4 (fun ix=>(iv fun _=>(uf8 c n (i+1) q) ix.den.toNat))] 154,.cells [.clo 122 [] [.own 5 0,.own 6 0,.own 7 0]] 166,.cells [.clo fn [] []] 138,.cells [(.bool (.lit true))] 4,.cells [.row 8] 59,.row 39 2 (.sym fun _=>zi L) (fun ix=>[(iv fun _=>(loE c W (W F) (ud2 c.mv n (i+1) q)) ix.den.toNat),(iv fun _=>(hiE c V (V F) (ud2 c.mv n (i+1) q)) ix.den.toNat)])]))(ih2:∀(T:Bool) (f q A B:Nat→Int),(∀j,0≤q j∧q j≤1000)→Nw T f q (i+1)→ua0 Try.prog 111 [(iv fun _=>zi (i+1)),(.agg [(.arr 4 (fun ix=>(iv fun _=>q ix.den.toNat)))]),.own 0 0,.own 1 0,.own 2 0,.own 3 0,.own 4 0] [.cells [(caS c.cs),(mvS c.mv),(gaS c.gs)] 36,.cells [.clo 111 [] [.own 0 0,.own 1 0,.own 2 0,.own 3 0,.own 4 0]] 177,.cells [(bv fun _=>T)] 4,.cells [.arr 4 (fun ix=>(iv fun _=>f ix.den.toNat))] 154,.cells [.clo 122 [] [.own 5 0,.own 6 0,.own 7 0]] 166,.cells [.clo fn [] []] 138,.cells [(.bool (.lit true))] 4,.cells [.row 8] 59,.row 39 2 (.sym fun _=>zi L) (fun ix=>[(iv fun _=>A ix.den.toNat),(iv fun _=>B ix.den.toNat)])] (fun r bs=>r=(.bool (.lit false))∧bs=[.cells [(caS c.cs),(mvS c.mv),(gaS c.gs)] 36,.cells [.clo 111 [] [.own 0 0,.own 1 0,.own 2 0,.own 3 0,.own 4 0]] 177,.cells [(.bool (.lit true))] 4,.cells [.arr 4 (fun ix=>(iv fun _=>(uf8 c n (i+1) q) ix.den.toNat))] 154,.cells [.clo 122 [] [.own 5 0,.own 6 0,.own 7 0]] 166,.cells [.clo fn [] []] 138,.cells [(.bool (.lit true))] 4,.cells [.row 8] 59,.row 39 2 (.sym fun _=>zi L) (fun ix=>[(iv fun _=>(loE c W A (ud2 c.mv n (i+1) q)) ix.den.toNat),(iv fun _=>(hiE c V B (ud2 c.mv n (i+1) q)) ix.den.toNat)])])):uaU Try.prog 111 [(iv fun _=>zi i),(.agg [(.arr 4 (fun ix=>(iv fun _=>q ix.den.toNat)))]),.own 0 0,.own 1 0,.own 2 0,.own 3 0,.own 4 0] [.cells [(caS c.cs),(mvS c.mv),(gaS c.gs)] 36,.cells [.clo 111 [] [.own 0 0,.own 1 0,.own 2 0,.own 3 0,.own 4 0]] 177,.cells [(bv fun _=>T)] 4,.cells [.arr 4 (fun ix=>(iv fun _=>f ix.den.toNat))] 154,.cells [.clo 122 [] [.own 5 0,.own 6 0,.own 7 0]] 166,.cells [.clo fn [] []] 138,.cells [(.bool (.lit false))] 4,.cells [.val (Value.slice none 0 0)] 59] (fun r bs=>r=(.bool (.lit false))∧bs=[.cells [(caS c.cs),(mvS c.mv),(gaS c.gs)] 36,.cells [.clo 111 [] [.own 0 0,.own 1 0,.own 2 0,.own 3 0,.own 4 0]] 177,.cells [(.bool (.lit true))] 4,.cells [.arr 4 (fun ix=>(iv fun _=>(uf8 c (n+1) i q) ix.den.toNat))] 154,.cells [.clo 122 [] [.own 5 0,.own 6 0,.own 7 0]] 166,.cells [.clo fn [] []] 138,.cells [(.bool (.lit true))] 4,.cells [.row 8] 59,.row 39 2 (.sym fun _=>zi L) (fun ix=>[(iv fun _=>(loE c W (W F0) (ud2 c.mv (n+1) i q)) ix.den.toNat),(iv fun _=>(hiE c V (V F0) (ud2 c.mv (n+1) i q)) ix.den.toNat)])]):=by
 have ih0':=ih0
 have ih1':=ih1
 have ih2':=ih2
 clear hF
 refine uaU.is rfl rfl fun R B hR hB=>ud3 (sc:=udY) uas mix Try.func111 rfl Try.call111 (by kernel_rfl) (by kernel_rfl) ?_
 generalize Try.prog=P at ih0' ih1' ih2'⊢
 cbv
 have hm4:=hC.m4
 have hv:=hC.v i (by omega)
 have hq1:=hv.q1
 have hq0:=hv.q0
 have hq2:=hv.q2
 have hct:zi (cnt (c.mv.getD i v0))=(c.mv.getD i v0).qh-(c.mv.getD i v0).ql+1:=by simp only [uaw];unfold cnt;omega
 have hc1:1≤cnt (c.mv.getD i v0):=by unfold cnt;omega
 repeat' (first|with_reducible refine ua3 ?_ ?_|with_reducible refine And.intro ?_ ?_|(with_reducible intro hcd;(try simp only [zA,zB,zC,zD,zE,zF,zG,zH,zI,zJ,zK,zL,zM,zN,zO,zP]at hcd);try cbv)|fail)
 all_goals first|((try simp only [qX]at *);(try simp only [zQ,zA,zB,zC,zD,zE,zF,zG,zH,zI,zJ,zK,zL,zM,zN,zO,zP,zR,zS]at *);first|(refine qO ?_;omega)|(simp only [uap];omega))|(exfalso;(try simp only [qX]at *);(try simp only [zQ,zA,zB,zC,zD,zE,zF,zG,zH,zI,zJ,zK,zL,zM,zN,zO,zP,zR,zS]at *);omega)|skip
 refine⟨none,[],{x:Nat×Bool×(Nat→Int)×(Nat→Int)×Option ((Nat→Int)×(Nat→Int)) // x.1≤cnt (c.mv.getD i v0)∧LpQ c n i q x.1 x.2.1 x.2.2.1 x.2.2.2.1∧(match x.2.2.2.2 with|none=>EN c n i q x.1|some p=>ES c W V n i q x.1 p.1 p.2)},fun x=>(match x.1.2.2.2.2 with|none=>⟨[(0,(iv fun _=>zi i)),(2,.own 0 0),(3,.own 1 0),(4,.own 2 0),(5,.own 3 0),(6,.own 4 0),(8,.own 8 0),(10,.own 21 0),(30,(iv fun _=>zi (cnt (c.mv.getD i v0)))),(31,(iv fun _=>zi x.1.1))],[(0,.cells [(caS c.cs),(mvS c.mv),(gaS c.gs)] 36),(1,.cells [.clo 111 [] [.own 0 0,.own 1 0,.own 2 0,.own 3 0,.own 4 0]] 177),(2,.cells [(bv fun _=>x.1.2.1)] 4),(3,.cells [.arr 4 (fun ix=>(iv fun _=>x.1.2.2.1 ix.den.toNat))] 154),(4,.cells [.clo 122 [] [.own 5 0,.own 6 0,.own 7 0]] 166),(5,.cells [.clo fn [] []] 138),(6,.cells [(.bool (.lit false))] 4),(7,.cells [.val (Value.slice none 0 0)] 59),(8,.cells [.arr 4 (fun ix=>(iv fun _=>x.1.2.2.2.1 ix.den.toNat))] 154),(21,.cells [(iv fun _=>(c.mv.getD i v0).ql),(iv fun _=>(c.mv.getD i v0).qh)] 39)],60⟩|some p=>⟨[(0,(iv fun _=>zi i)),(2,.own 0 0),(3,.own 1 0),(4,.own 2 0),(5,.own 3 0),(6,.own 4 0),(8,.own 8 0),(10,.own 21 0),(30,(iv fun _=>zi (cnt (c.mv.getD i v0)))),(31,(iv fun _=>zi x.1.1))],[(0,.cells [(caS c.cs),(mvS c.mv),(gaS c.gs)] 36),(1,.cells [.clo 111 [] [.own 0 0,.own 1 0,.own 2 0,.own 3 0,.own 4 0]] 177),(2,.cells [(bv fun _=>x.1.2.1)] 4),(3,.cells [.arr 4 (fun ix=>(iv fun _=>x.1.2.2.1 ix.den.toNat))] 154),(4,.cells [.clo 122 [] [.own 5 0,.own 6 0,.own 7 0]] 166),(5,.cells [.clo fn [] []] 138),(6,.cells [(.bool (.lit true))] 4),(7,.cells [.row 74] 59),(74,.row 39 2 (.sym fun _=>zi L) (fun ix=>[(iv fun _=>p.1 ix.den.toNat),(iv fun _=>p.2 ix.den.toNat)])),(8,.cells [.arr 4 (fun ix=>(iv fun _=>x.1.2.2.2.1 ix.den.toNat))] 154),(21,.cells [(iv fun _=>(c.mv.getD i v0).ql),(iv fun _=>(c.mv.getD i v0).qh)] 39)],200⟩),fun x=>cnt (c.mv.getD i v0)-x.1.1,?_,?_⟩
 ·refine⟨⟨(0,T,f,q,none),by simp only [];omega,uf4 hn,ut5 _ _ _ _⟩,?_⟩
  cbv
  repeat' (first|with_reducible refine ua3 ?_ ?_|with_reducible refine And.intro ?_ ?_)
  all_goals first|trivial|exact qN (qE (by rfl))|exact qN (Fit.refl _)|exact qL (qK _)|(refine qN (qE ?_);(try simp only [qX]at *);simp only [zQ,zA,zB,zC,zD,zE,zF,zG,zH,zI,zJ,zK,zL,zM,zN,zO,zP,zR,zS]at *;omega)|skip
 ·rintro ⟨⟨x,T1,f1,Q,(_|⟨A,B⟩)⟩,h1,h3,he⟩
  ·cbv
   dsimp only at h1 h3 he
   obtain⟨Qn,hQe⟩:∃Q',Q'=ucH c i q x:=⟨_,rfl⟩
   obtain⟨Lq,hLq⟩:∃f,f=uf8 c n (i+1) Qn:=⟨_,rfl⟩
   have hQy:∀j,j=i→(c.mv.getD i v0).ql+zi x=Qn j:=fun j h=>by rw [hQe,h];exact udF.symm
   have hQn:∀j,j≠i→Q j=Qn j:=fun j h=>by rw [hQe,udU h];exact h3.qe j h
   have hqb:x<cnt (c.mv.getD i v0)→∀j,0≤Qn j∧Qn j≤1000:=fun hx j=>by
    by_cases h:j=i
    ·have h8:=hQy j h
     simp only [uaw]at h8 hct
     omega
    ·rw [←hQn j h,h3.qe j h];exact hq j
   have hnb:x<cnt (c.mv.getD i v0)→Nw T1 f1 Qn (i+1):=fun hx=>by rw [hQe];exact h3.nw hx
   have hQg:fQ c n (i+1) Qn=none→fQ c n (i+1) (ucH c i q x)=none:=fun h=>by rw [hQe]at h;exact h
   have hQf:∀{G},fQ c n (i+1) Qn=some G→fQ c n (i+1) (ucH c i q x)=some G:=fun h=>by rw [hQe]at h;exact h
   have hxn:=fun (h:fQ c n (i+1) Qn=none)=>usD he (hQg h)
   have hxs:=fun (G:Nat→Int) (h:fQ c n (i+1) Qn=some G)=>usE (W:=W) (V:=V) he (hQf h)
   repeat' (first
    |with_reducible refine ua3 ?_ ?_
    |with_reducible refine And.intro ?_ ?_
    |(with_reducible intro hcd;(try simp only [zA,zB,zC,zD,zE,zF,zG,zH,zI,zJ,zK,zL,zM,zN,zO,zP]at hcd);try cbv)
    | (refine⟨fun ix=>(iv fun _=>Qn ix.den.toNat),?_⟩
       cbv
       refine ua3 (ubS (by intro jx h0 h1 h2;refine qE ?_;(try simp only [qX]at *);(try simp only [zQ,zA,zB,zC,zD,zE,zF,zG,zH,zI,zJ,zK,zL,zM,zN,zO,zP,zR,zS]at *);exact hQy _ (by omega)) (by intro jx h0 h1 h2;refine qE ?_;(try simp only [qX]at *);(try simp only [zQ,zA,zB,zC,zD,zE,zF,zG,zH,zI,zJ,zK,zL,zM,zN,zO,zP,zR,zS]at *);exact hQn _ (by omega))) ?_
       try cbv)
    |((have hx:x<cnt (c.mv.getD i v0):= om);(rcases hcj:fQ c n (i+1) Qn with _|G)<;>(first|(have c7:=ih0' T1 f1 Qn (hqb hx) (hnb hx) hcj;rw [←hLq]at c7;(refine⟨some [0,1,2,3,4,5,6,7],?_⟩;cbv;refine qR ?_ (c7) (by cbv;refine qD (qE (ueA i)) ?_;(repeat' (first|exact qB|refine qD ?_ ?_|exact qE (by rfl)|exact qF (by rfl)|exact Fit.refl _|exact qA|refine qC ?_ rfl ?_))) (by cbv;(repeat' (first|exact qH|refine qI ?_ ?_|exact qK _|refine qJ ?_|exact qA|exact qE (by rfl)|exact qF (by rfl)|exact Fit.refl _|exact qG _|refine qC ?_ rfl ?_)));(try cbv)))|((have c7:=ih1' T1 f1 Qn G (hqb hx) (hnb hx) hcj);(have hS9:=hxs G hcj);(obtain⟨A2,hA2⟩:∃f,f=loE c W (W G) (ud2 c.mv n (i+1) Qn):=⟨_,rfl⟩);(obtain⟨B2,hB2⟩:∃f,f=hiE c V (V G) (ud2 c.mv n (i+1) Qn):=⟨_,rfl⟩);rw [←hLq,←hA2,←hB2]at c7;rw [←hQe,←hA2,←hB2]at hS9;clear hA2 hB2;(refine⟨some [0,1,2,3,4,5,6,7],?_⟩;cbv;refine qW ?_ (c7) (by cbv;refine qD (qE (ueA i)) ?_;(repeat' (first|exact qB|refine qD ?_ ?_|exact qE (by rfl)|exact qF (by rfl)|exact Fit.refl _|exact qA|refine qC ?_ rfl ?_))) (by cbv;(repeat' (first|exact qH|refine qI ?_ ?_|exact qK _|refine qJ ?_|exact qA|exact qE (by rfl)|exact qF (by rfl)|exact Fit.refl _|exact qG _|refine qC ?_ rfl ?_)));(try cbv)))))
    |fail)
   all_goals first|((try simp only [qX]at *);(try simp only [zQ,zA,zB,zC,zD,zE,zF,zG,zH,zI,zJ,zK,zL,zM,zN,zO,zP,zR,zS]at *);first|(refine qO ?_;omega)|(simp only [uap];omega))|(exfalso;(have hxe:x=cnt (c.mv.getD i v0):= om);(have e9:=uu6 he hxe);rw [hch]at e9;cases e9;done)|((have hx:x<cnt (c.mv.getD i v0):= om);refine⟨⟨(x+1,true,Lq,Qn,none),by simp only [];omega,by simp only [];rw [hLq,hQe];exact udr,by simp only [];exact hxn hcj⟩,by simp only [];omega,?_⟩;cbv;(repeat' (first|with_reducible refine ua3 ?_ ?_|with_reducible refine And.intro ?_ ?_));(all_goals first|trivial|exact qN (qE (by rfl))|exact qN (qF (by rfl))|exact qN (Fit.refl _)|exact qL (qK _)|(refine qN (qE ?_);(try simp only [qX]at *);simp only [zQ,zA,zB,zC,zD,zE,zF,zG,zH,zI,zJ,zK,zL,zM,zN,zO,zP,zR,zS]at *;omega)|(refine qL (qJ ?_);(repeat' (first|exact qA|exact qB|refine qC ?_ rfl ?_|refine qD ?_ ?_|exact qE (by rfl)|exact qF (by rfl)|exact Fit.refl _|exact qG _|(refine qE ?_;(try simp only [qX]at *);simp only [zQ,zA,zB,zC,zD,zE,zF,zG,zH,zI,zJ,zK,zL,zM,zN,zO,zP,zR,zS]at *;omega)));done)|(refine qL ?_;first|exact qK _)|skip))|((have hx:x<cnt (c.mv.getD i v0):= om);refine⟨⟨(x+1,true,Lq,Qn,some (A2,B2)),by simp only [];omega,by simp only [];rw [hLq,hQe];exact udr,by simp only [];exact hS9⟩,by simp only [];omega,?_⟩;cbv;(repeat' (first|with_reducible refine ua3 ?_ ?_|with_reducible refine And.intro ?_ ?_));(all_goals first|trivial|exact qN (qE (by rfl))|exact qN (qF (by rfl))|exact qN (Fit.refl _)|exact qL (qK _)|(refine qN (qE ?_);(try simp only [qX]at *);simp only [zQ,zA,zB,zC,zD,zE,zF,zG,zH,zI,zJ,zK,zL,zM,zN,zO,zP,zR,zS]at *;omega)|(refine qL (qJ ?_);(repeat' (first|exact qA|exact qB|refine qC ?_ rfl ?_|refine qD ?_ ?_|exact qE (by rfl)|exact qF (by rfl)|exact Fit.refl _|exact qG _|(refine qE ?_;(try simp only [qX]at *);simp only [zQ,zA,zB,zC,zD,zE,zF,zG,zH,zI,zJ,zK,zL,zM,zN,zO,zP,zR,zS]at *;omega)));done)|(refine qL ?_;first|exact qK _)|skip))|skip
  ·cbv
   dsimp only at h1 h3 he
   obtain⟨Qn,hQe⟩:∃Q',Q'=ucH c i q x:=⟨_,rfl⟩
   obtain⟨Lq,hLq⟩:∃f,f=uf8 c n (i+1) Qn:=⟨_,rfl⟩
   have hQy:∀j,j=i→(c.mv.getD i v0).ql+zi x=Qn j:=fun j h=>by rw [hQe,h];exact udF.symm
   have hQn:∀j,j≠i→Q j=Qn j:=fun j h=>by rw [hQe,udU h];exact h3.qe j h
   have hqb:x<cnt (c.mv.getD i v0)→∀j,0≤Qn j∧Qn j≤1000:=fun hx j=>by
    by_cases h:j=i
    ·have h8:=hQy j h
     simp only [uaw]at h8 hct
     omega
    ·rw [←hQn j h,h3.qe j h];exact hq j
   have hnb:x<cnt (c.mv.getD i v0)→Nw T1 f1 Qn (i+1):=fun hx=>by rw [hQe];exact h3.nw hx
   have hQg:fQ c n (i+1) Qn=none→fQ c n (i+1) (ucH c i q x)=none:=fun h=>by rw [hQe]at h;exact h
   have hQf:∀{G},fQ c n (i+1) Qn=some G→fQ c n (i+1) (ucH c i q x)=some G:=fun h=>by rw [hQe]at h;exact h
   obtain⟨A2,hA2⟩:∃f,f=loE c W A (ud2 c.mv n (i+1) Qn):=⟨_,rfl⟩
   obtain⟨B2,hB2⟩:∃f,f=hiE c V B (ud2 c.mv n (i+1) Qn):=⟨_,rfl⟩
   repeat' (first
    |with_reducible refine ua3 ?_ ?_
    |with_reducible refine And.intro ?_ ?_
    |(with_reducible intro hcd;(try simp only [zA,zB,zC,zD,zE,zF,zG,zH,zI,zJ,zK,zL,zM,zN,zO,zP]at hcd);try cbv)
    | (refine⟨fun ix=>(iv fun _=>Qn ix.den.toNat),?_⟩
       cbv
       refine ua3 (ubS (by intro jx h0 h1 h2;refine qE ?_;(try simp only [qX]at *);(try simp only [zQ,zA,zB,zC,zD,zE,zF,zG,zH,zI,zJ,zK,zL,zM,zN,zO,zP,zR,zS]at *);exact hQy _ (by omega)) (by intro jx h0 h1 h2;refine qE ?_;(try simp only [qX]at *);(try simp only [zQ,zA,zB,zC,zD,zE,zF,zG,zH,zI,zJ,zK,zL,zM,zN,zO,zP,zR,zS]at *);exact hQn _ (by omega))) ?_
       try cbv)
    |((have hx:x<cnt (c.mv.getD i v0):= om);(have c7:=ih2' T1 f1 Qn A B (hqb hx) (hnb hx);rw [←hLq,←hA2,←hB2]at c7;(refine⟨some [0,1,2,3,4,5,6,7,74],?_⟩;cbv;refine qR ?_ (c7) (by cbv;refine qD (qE (ueA i)) ?_;(repeat' (first|exact qB|refine qD ?_ ?_|exact qE (by rfl)|exact qF (by rfl)|exact Fit.refl _|exact qA|refine qC ?_ rfl ?_))) (by cbv;(repeat' (first|exact qH|refine qI ?_ ?_|exact qK _|refine qJ ?_|exact qA|exact qE (by rfl)|exact qF (by rfl)|exact Fit.refl _|exact qG _|refine qC ?_ rfl ?_)));(try cbv))))
    |fail)
   all_goals first|((try simp only [qX]at *);(try simp only [zQ,zA,zB,zC,zD,zE,zF,zG,zH,zI,zJ,zK,zL,zM,zN,zO,zP,zR,zS]at *);first|(refine qO ?_;omega)|(simp only [uap];omega))|((have hxe:x=cnt (c.mv.getD i v0):= om);(obtain⟨e1,e2⟩:=uhP h3 hxe (by omega));(obtain⟨F9,e5,e3,e4⟩:=uuj he hxe);rw [hch]at e5;cases e5;subst e1 e2 e3 e4;(refine⟨[],(74:Nat),?_⟩;cbv;subst hR;subst hB;refine⟨?_,?_⟩;(first|exact Fit.refl _|((repeat' (first|exact qA|exact qB|refine qC ?_ rfl ?_|refine qD ?_ ?_|exact qE (by rfl)|exact qF (by rfl)|exact Fit.refl _|exact qG _|(refine qE ?_;(try simp only [qX]at *);simp only [zQ,zA,zB,zC,zD,zE,zF,zG,zH,zI,zJ,zK,zL,zM,zN,zO,zP,zR,zS]at *;omega)));done));(repeat' (first|exact qH|refine qI ?_ ?_));(all_goals first|exact qK _|(refine qJ ?_;(repeat' (first|exact qA|exact qB|refine qC ?_ rfl ?_|refine qD ?_ ?_|exact qE (by rfl)|exact qF (by rfl)|exact Fit.refl _|exact qG _|(refine qE ?_;(try simp only [qX]at *);simp only [zQ,zA,zB,zC,zD,zE,zF,zG,zH,zI,zJ,zK,zL,zM,zN,zO,zP,zR,zS]at *;omega)));done)|(refine ua8 ?_ ?_;(first|rfl|((try simp only [qX]at *);(try simp only [zQ,zA,zB,zC,zD,zE,zF,zG,zH,zI,zJ,zK,zL,zM,zN,zO,zP,zR,zS]at *);omega));intro ix h0 h1;first|exact Fit.refl _|(exfalso;(try simp only [qX]at *);(try simp only [zQ,zA,zB,zC,zD,zE,zF,zG,zH,zI,zJ,zK,zL,zM,zN,zO,zP,zR,zS]at *);omega)))))|((have hx:x<cnt (c.mv.getD i v0):= om);refine⟨⟨(x+1,true,Lq,Qn,some (A2,B2)),by simp only [];omega,by simp only [];rw [hLq,hQe];exact udr,by simp only [];rw [hA2,hB2,hQe];exact utp he⟩,by simp only [];omega,?_⟩;cbv;(repeat' (first|with_reducible refine ua3 ?_ ?_|with_reducible refine And.intro ?_ ?_));(all_goals first|trivial|exact qN (qE (by rfl))|exact qN (qF (by rfl))|exact qN (Fit.refl _)|exact qL (qK _)|(refine qN (qE ?_);(try simp only [qX]at *);simp only [zQ,zA,zB,zC,zD,zE,zF,zG,zH,zI,zJ,zK,zL,zM,zN,zO,zP,zR,zS]at *;omega)|(refine qL (qJ ?_);(repeat' (first|exact qA|exact qB|refine qC ?_ rfl ?_|refine qD ?_ ?_|exact qE (by rfl)|exact qF (by rfl)|exact Fit.refl _|exact qG _|(refine qE ?_;(try simp only [qX]at *);simp only [zQ,zA,zB,zC,zD,zE,zF,zG,zH,zI,zJ,zK,zL,zM,zN,zO,zP,zR,zS]at *;omega)));done)|(refine qL ?_;first|exact qK _)|skip))|skip
theorem uwJ (fn:Nat)(c:Clr)(L:Nat)(W V:(Nat→Int)→Nat→Int)(hC:COk c)(hL:1≤L∧L≤1000)(hF:∀q:Nat→Int,okQ c q=true→(∀j,0≤q j∧q j≤1000)→ua0 Try.prog fn [(.pp 0 [(caS c.cs),(mvS c.mv),(gaS c.gs),(.arr 4 (fun ix=>(iv fun _=>q ix.den.toNat))),(.mapx 170 39 false 2 (inD c q c.cs.length 0) (stS c q))])] [] (fun r _=>r=(.sl 2 (.sym fun _=>zi L) (fun ix=>[(iv fun _=>(W q) ix.den.toNat),(iv fun _=>(V q) ix.den.toNat)])))):∀(n i:Nat) (T:Bool) (f q:Nat→Int),i+n=c.mv.length→(∀j,0≤q j∧q j≤1000)→Nw T f q i→(fQ c n i q=none→ua0 Try.prog 111 [(iv fun _=>zi i),(.agg [(.arr 4 (fun ix=>(iv fun _=>q ix.den.toNat)))]),.own 0 0,.own 1 0,.own 2 0,.own 3 0,.own 4 0] [.cells [(caS c.cs),(mvS c.mv),(gaS c.gs)] 36,.cells [.clo 111 [] [.own 0 0,.own 1 0,.own 2 0,.own 3 0,.own 4 0]] 177,.cells [(bv fun _=>T)] 4,.cells [.arr 4 (fun ix=>(iv fun _=>f ix.den.toNat))] 154,.cells [.clo 122 [] [.own 5 0,.own 6 0,.own 7 0]] 166,.cells [.clo fn [] []] 138,.cells [(.bool (.lit false))] 4,.cells [.val (Value.slice none 0 0)] 59] (fun r bs=>r=(.bool (.lit false))∧bs=[.cells [(caS c.cs),(mvS c.mv),(gaS c.gs)] 36,.cells [.clo 111 [] [.own 0 0,.own 1 0,.own 2 0,.own 3 0,.own 4 0]] 177,.cells [(.bool (.lit true))] 4,.cells [.arr 4 (fun ix=>(iv fun _=>(uf8 c n i q) ix.den.toNat))] 154,.cells [.clo 122 [] [.own 5 0,.own 6 0,.own 7 0]] 166,.cells [.clo fn [] []] 138,.cells [(.bool (.lit false))] 4,.cells [.val (Value.slice none 0 0)] 59]))∧(∀F,fQ c n i q=some F→uaU Try.prog 111 [(iv fun _=>zi i),(.agg [(.arr 4 (fun ix=>(iv fun _=>q ix.den.toNat)))]),.own 0 0,.own 1 0,.own 2 0,.own 3 0,.own 4 0] [.cells [(caS c.cs),(mvS c.mv),(gaS c.gs)] 36,.cells [.clo 111 [] [.own 0 0,.own 1 0,.own 2 0,.own 3 0,.own 4 0]] 177,.cells [(bv fun _=>T)] 4,.cells [.arr 4 (fun ix=>(iv fun _=>f ix.den.toNat))] 154,.cells [.clo 122 [] [.own 5 0,.own 6 0,.own 7 0]] 166,.cells [.clo fn [] []] 138,.cells [(.bool (.lit false))] 4,.cells [.val (Value.slice none 0 0)] 59] (fun r bs=>r=(.bool (.lit false))∧bs=[.cells [(caS c.cs),(mvS c.mv),(gaS c.gs)] 36,.cells [.clo 111 [] [.own 0 0,.own 1 0,.own 2 0,.own 3 0,.own 4 0]] 177,.cells [(.bool (.lit true))] 4,.cells [.arr 4 (fun ix=>(iv fun _=>(uf8 c n i q) ix.den.toNat))] 154,.cells [.clo 122 [] [.own 5 0,.own 6 0,.own 7 0]] 166,.cells [.clo fn [] []] 138,.cells [(.bool (.lit true))] 4,.cells [.row 8] 59,.row 39 2 (.sym fun _=>zi L) (fun ix=>[(iv fun _=>(loE c W (W F) (ud2 c.mv n i q)) ix.den.toNat),(iv fun _=>(hiE c V (V F) (ud2 c.mv n i q)) ix.den.toNat)])]))∧(∀A B:Nat→Int,ua0 Try.prog 111 [(iv fun _=>zi i),(.agg [(.arr 4 (fun ix=>(iv fun _=>q ix.den.toNat)))]),.own 0 0,.own 1 0,.own 2 0,.own 3 0,.own 4 0] [.cells [(caS c.cs),(mvS c.mv),(gaS c.gs)] 36,.cells [.clo 111 [] [.own 0 0,.own 1 0,.own 2 0,.own 3 0,.own 4 0]] 177,.cells [(bv fun _=>T)] 4,.cells [.arr 4 (fun ix=>(iv fun _=>f ix.den.toNat))] 154,.cells [.clo 122 [] [.own 5 0,.own 6 0,.own 7 0]] 166,.cells [.clo fn [] []] 138,.cells [(.bool (.lit true))] 4,.cells [.row 8] 59,.row 39 2 (.sym fun _=>zi L) (fun ix=>[(iv fun _=>A ix.den.toNat),(iv fun _=>B ix.den.toNat)])] (fun r bs=>r=(.bool (.lit false))∧bs=[.cells [(caS c.cs),(mvS c.mv),(gaS c.gs)] 36,.cells [.clo 111 [] [.own 0 0,.own 1 0,.own 2 0,.own 3 0,.own 4 0]] 177,.cells [(.bool (.lit true))] 4,.cells [.arr 4 (fun ix=>(iv fun _=>(uf8 c n i q) ix.den.toNat))] 154,.cells [.clo 122 [] [.own 5 0,.own 6 0,.own 7 0]] 166,.cells [.clo fn [] []] 138,.cells [(.bool (.lit true))] 4,.cells [.row 8] 59,.row 39 2 (.sym fun _=>zi L) (fun ix=>[(iv fun _=>(loE c W A (ud2 c.mv n i q)) ix.den.toNat),(iv fun _=>(hiE c V B (ud2 c.mv n i q)) ix.den.toNat)])])):=by
 intro n
 induction n with
 | zero=>
  intro i T f q hi hq hn
  rw [uom,show ud2 c.mv 0 i q=[q]from rfl]
  have hi':i=c.mv.length:=by omega
  cases ho:okQ c q with
  | true=>
   refine⟨fun h=>by simp at h,fun F h=> ?_,fun A B=> ?_⟩
   ·rw [if_pos rfl]at h
    cases h
    rw [uvk ho,uui ho,show(fun e=>mn (W q e) (W q e))=W q from funext fun e=>unX _,show(fun e=>mx (V q e) (V q e))=V q from funext fun e=>up0 _]
    exact usx fn c L W V i T f q hC hL hF hq hn hi' ho
   ·rw [uvk ho,uui ho]
    exact uti fn c L W V i T f q A B hC hL hF hq hn hi' ho
  | false=>
   refine⟨fun _=>usM fn c L W V i T f q hC hL hF hq hn hi' ho,fun F h=>by simp at h,fun A B=> ?_⟩
   rw [uwx ho,uwG ho]
   exact urI fn c L W V i T f q A B hC hL hF hq hn hi' ho
 | succ n ih=>
  intro i T f q hi hq hn
  have k0:=fun T f q hq hn=>(ih (i+1) T f q (by omega) hq hn).1
  have k1:=fun T f q F hq hn=>(ih (i+1) T f q (by omega) hq hn).2.1 F
  have k2:=fun T f q A B hq hn=>(ih (i+1) T f q (by omega) hq hn).2.2 A B
  exact⟨fun h=>uuy fn c L W V i T f q n hC hL hF hq hn hi h k0,fun F h=>uux fn c L W V i T f q n F hC hL hF hq hn hi h k0 k1 k2,fun A B=>uuU fn c L W V i T f q n A B hC hL hF hq hn hi k2⟩
end Go.Proofs.Ytpkgnhcfmpbidaa

namespace Go.Proofs.Ytpkgnhcfmpbidaa
open Go Go.Eng Go.Proofs Go.Eng.Ck Go.Eng.Few
set_option maxRecDepth 10000
theorem us5 (fn:Nat)(c:Clr)(L:Nat)(W V:(Nat→Int)→Nat→Int)(F:Nat→Int)(hC:COk c)(hL:1≤L∧L≤1000)(hF:∀q:Nat→Int,okQ c q=true→(∀j,0≤q j∧q j≤1000)→ua0 Try.prog fn [(.pp 0 [(caS c.cs),(mvS c.mv),(gaS c.gs),(.arr 4 (fun ix=>(iv fun _=>q ix.den.toNat))),(.mapx 170 39 false 2 (inD c q c.cs.length 0) (stS c q))])] [] (fun r _=>r=(.sl 2 (.sym fun _=>zi L) (fun ix=>[(iv fun _=>(W q) ix.den.toNat),(iv fun _=>(V q) ix.den.toNat)]))))(h:fQ c c.mv.length 0 q0=some F):uaU Try.prog 95 [(.agg [(caS c.cs),(mvS c.mv),(gaS c.gs)]),.clo 122 [] [.own 0 0,.own 1 0,.own 2 0]] [.cells [.clo fn [] []] 138,.cells [(.bool (.lit false))] 4,.cells [.val (Value.slice none 0 0)] 59] (fun r bs=>r=(.bool (.lit false))∧bs=[.cells [.clo fn [] []] 138,.cells [(.bool (.lit true))] 4,.cells [.row 3] 59,.row 39 2 (.sym fun _=>zi L) (fun ix=>[(iv fun _=>(loE c W (W F) (qsC c)) ix.den.toNat),(iv fun _=>(hiE c V (V F) (qsC c)) ix.den.toNat)])]):=by
 have cc:=(uwJ fn c L W V hC hL hF c.mv.length 0 false q0 q0 (by omega) (fun j=>by unfold q0;omega) (uk2 _ _ _)).2.1 F h
 clear hF
 obtain⟨Lz,hLz⟩:∃f,f=uf8 c c.mv.length 0 q0:=⟨_,rfl⟩
 rw [←hLz]at cc
 obtain⟨A1,hA1⟩:∃f,f=loE c W (W F) (qsC c):=⟨_,rfl⟩
 obtain⟨B1,hB1⟩:∃f,f=hiE c V (V F) (qsC c):=⟨_,rfl⟩
 rw [show ud2 c.mv c.mv.length 0 q0=qsC c from rfl,←hA1,←hB1]at cc
 rw [←hA1,←hB1]
 refine uaU.is rfl rfl fun R B hR hB=>ud3 (sc:=ux9) uas mix Try.func95 rfl Try.call95 (by kernel_rfl) (by kernel_rfl) ?_
 generalize Try.prog=P at cc⊢
 cbv
 repeat' (first|(refine⟨some [3,9,7,6,4,0,1,2],?_⟩;cbv;refine qW ?_ cc (by cbv;(exact qD (qE rfl) (qD (uem (fun ix _ _=>qE rfl) qA) (Fit.refl _)))) (by cbv;(repeat' (first|exact qH|refine qI ?_ ?_|exact qK _|exact qJ (uem (fun ix _ _=>qE rfl) qA)|refine qJ ?_|exact qA|exact qE (by rfl)|exact qF (by rfl)|exact Fit.refl _|refine qC ?_ rfl ?_)));(try cbv))|fail)
 all_goals first|(refine⟨[],(14:Nat),?_⟩;cbv;subst hR;subst hB;refine⟨?_,?_⟩;(first|exact Fit.refl _|((repeat' (first|exact qA|exact qB|refine qC ?_ rfl ?_|refine qD ?_ ?_|exact qE (by rfl)|exact qF (by rfl)|exact Fit.refl _|exact qG _|(refine qE ?_;(try simp only [qX]at *);simp only [zQ,zA,zB,zC,zD,zE,zF,zG,zH,zI,zJ,zK,zL,zM,zN,zO,zP,zR,zS]at *;omega)));done));(repeat' (first|exact qH|refine qI ?_ ?_));(all_goals first|exact qK _|(refine qJ ?_;(repeat' (first|exact qA|exact qB|refine qC ?_ rfl ?_|refine qD ?_ ?_|exact qE (by rfl)|exact qF (by rfl)|exact Fit.refl _|exact qG _|(refine qE ?_;(try simp only [qX]at *);simp only [zQ,zA,zB,zC,zD,zE,zF,zG,zH,zI,zJ,zK,zL,zM,zN,zO,zP,zR,zS]at *;omega)));done)|(refine ua8 ?_ ?_;(first|rfl|((try simp only [qX]at *);(try simp only [zQ,zA,zB,zC,zD,zE,zF,zG,zH,zI,zJ,zK,zL,zM,zN,zO,zP,zR,zS]at *);omega));intro ix h0 h1;first|exact Fit.refl _|(exfalso;(try simp only [qX]at *);(try simp only [zQ,zA,zB,zC,zD,zE,zF,zG,zH,zI,zJ,zK,zL,zM,zN,zO,zP,zR,zS]at *);omega))))|skip
set_option maxHeartbeats 4000000 in
theorem uy1 (fn:Nat)(c:Clr)(L:Nat)(W V:(Nat→Int)→Nat→Int)(F:Nat→Int)(hC:COk c)(hL:1≤L∧L≤1000)(hF:∀q:Nat→Int,okQ c q=true→(∀j,0≤q j∧q j≤1000)→ua0 Try.prog fn [(.pp 0 [(caS c.cs),(mvS c.mv),(gaS c.gs),(.arr 4 (fun ix=>(iv fun _=>q ix.den.toNat))),(.mapx 170 39 false 2 (inD c q c.cs.length 0) (stS c q))])] [] (fun r _=>r=(.sl 2 (.sym fun _=>zi L) (fun ix=>[(iv fun _=>(W q) ix.den.toNat),(iv fun _=>(V q) ix.den.toNat)]))))(h:fQ c c.mv.length 0 q0=some F):ua0 Try.prog 107 [(.agg [.clo fn [] []]),(.agg [(caS c.cs),(mvS c.mv),(gaS c.gs)])] [] (fun r _=>r=(.tup [(.sl 2 (.sym fun _=>zi L) (fun ix=>[(iv fun _=>(loE c W (W F) (qsC c)) ix.den.toNat),(iv fun _=>(hiE c V (V F) (qsC c)) ix.den.toNat)])),(.bool (.lit true))])):=by
 have c95:=us5 fn c L W V F hC hL hF h
 clear hF
 obtain⟨A1,hA1⟩:∃f,f=loE c W (W F) (qsC c):=⟨_,rfl⟩
 obtain⟨B1,hB1⟩:∃f,f=hiE c V (V F) (qsC c):=⟨_,rfl⟩
 rw [←hA1,←hB1]at c95⊢
 refine ua0.is fun R hR=>qY (sc:=uvR) uas mix Try.func107 rfl Try.call107 (by kernel_rfl) (by kernel_rfl) ?_
 generalize Try.prog=P at c95⊢
 cbv
 repeat' (first
  |(refine⟨some [0,3,2],?_⟩;cbv;refine qW ?_ c95 (by cbv;(repeat' (first|exact qB|refine qD ?_ ?_|exact qE (by rfl)|exact qF (by rfl)|exact Fit.refl _|exact qA|refine qC ?_ rfl ?_))) (by cbv;(repeat' (first|exact qH|refine qI ?_ ?_|exact qK _|refine qJ ?_|exact qA|exact qE (by rfl)|exact qF (by rfl)|exact Fit.refl _|exact qG _|refine qC ?_ rfl ?_)));(try cbv))
  | (refine Exists.intro (α:=Nat) 2 ?_
     cbv)
  |fail)
 all_goals first|(subst hR;exact Fit.refl _;done)|skip
end Go.Proofs.Ytpkgnhcfmpbidaa

namespace Go.Proofs.Ytpkgnhcfmpbidaa
open Go Go.Eng Go.Proofs Go.Eng.Ck Go.Eng.Few
set_option maxRecDepth 10000
theorem uhY {c:Clr} {F:Nat→Int}(h:fQ c c.mv.length 0 q0=some F):F∈qsC c∧okQ c F=true:=⟨List.mem_of_find?_eq_some h,List.find?_some h⟩
theorem usN {c:Clr}(hC:COk c) {F:Nat→Int}(h:fQ c c.mv.length 0 q0=some F) {x n:Nat}(hx:x<c.cs.length)(hn:n≤c.mv.length):loF c (fun q=>cLo c q x n) (cLo c F x n) (qsC c)=bLo c x n:=
 (upq (f:=fun q=>cLo c q x n) h).eq (uo7 ⟨F,uhY h⟩ fun q _ ho=>by have:=uxX hC ho hx hn;omega)
theorem usv {c:Clr}(hC:COk c) {F:Nat→Int}(h:fQ c c.mv.length 0 q0=some F) {x n:Nat}(hx:x<c.cs.length)(hn:n≤c.mv.length):hiF c (fun q=>cHi c q x n) (cHi c F x n) (qsC c)=bHi c x n:=
 (up9 (f:=fun q=>cHi c q x n) h).eq (umO ⟨F,uhY h⟩ fun q _ ho=>by have:=uxX hC ho hx hn;omega)
theorem usB {c:Clr}(hC:COk c) {F:Nat→Int}(h:fQ c c.mv.length 0 q0=some F) {x:Nat}(hx:x<c.cs.length):loF c (fun q=>eLo c q x) (eLo c F x) (qsC c)=lLo c x:=
 (upq (f:=fun q=>eLo c q x) h).eq (uo7 ⟨F,uhY h⟩ fun q _ ho=>by have:=uxO hC ho hx;omega)
theorem usk {c:Clr}(hC:COk c) {F:Nat→Int}(h:fQ c c.mv.length 0 q0=some F) {x:Nat}(hx:x<c.cs.length):hiF c (fun q=>eHi c q x) (eHi c F x) (qsC c)=lHi c x:=
 (up9 (f:=fun q=>eHi c q x) h).eq (umO ⟨F,uhY h⟩ fun q _ ho=>by have:=uxO hC ho hx;omega)
theorem ur8 {c:Clr}(h:udN c=true):∃F,fQ c c.mv.length 0 q0=some F:=Option.isSome_iff_exists.1 (show(fQ c c.mv.length 0 q0).isSome=true from h)
theorem uvg {c:Clr}(hC:COk c):1≤((c.mv.length+1)*c.cs.length)∧((c.mv.length+1)*c.cs.length)≤1000:=by
 have h1:=hC.c1
 have h3:=hC.c3
 have h4:=hC.m4
 have a:=Nat.mul_le_mul (show(c.mv.length+1)≤5 by omega) h3
 have b:=Nat.mul_le_mul (show 1≤(c.mv.length+1) by omega) h1
 omega
theorem uqm {c:Clr} {e:Nat}(h:e<((c.mv.length+1)*c.cs.length)):e/(c.mv.length+1)<c.cs.length∧e%(c.mv.length+1)≤c.mv.length:=by
 have h1:=Nat.mod_lt e (show 0<(c.mv.length+1) by omega)
 exact⟨Nat.div_lt_of_lt_mul h,by omega⟩
theorem uqz (c:Clr)(hf:ua6 c=0)(hc:udN c=true):ua0 Try.prog 75 [(.agg [.clo 74 [] []]),(.agg [(caS c.cs),(mvS c.mv),(gaS c.gs)])] [] (fun r _=>r=(.tup [(.sl 2 (.sym fun _=>zi ((c.mv.length+1)*c.cs.length)) (fun ix=>[(iv fun _=>bLo c (ix.den.toNat/(c.mv.length+1)) (ix.den.toNat%(c.mv.length+1))),(iv fun _=>bHi c (ix.den.toNat/(c.mv.length+1)) (ix.den.toNat%(c.mv.length+1)))])),(iv fun _=>0)])):=by
 have c22:=uaC c
 obtain⟨F,hF⟩:=ur8 hc
 have hC:=uaa.1 hf
 have c107:=uy1 74 c ((c.mv.length+1)*c.cs.length) (fun q e=>cLo c q (e/(c.mv.length+1)) (e%(c.mv.length+1))) (fun q e=>cHi c q (e/(c.mv.length+1)) (e%(c.mv.length+1))) F hC (uvg hC) (fun q ho hq=>ulK c q hC ho hq) hF
 obtain⟨A1,hA1⟩:∃f,f=loE c (fun q e=>cLo c q (e/(c.mv.length+1)) (e%(c.mv.length+1))) ((fun q e=>cLo c q (e/(c.mv.length+1)) (e%(c.mv.length+1))) F) (qsC c):=⟨_,rfl⟩
 obtain⟨B1,hB1⟩:∃f,f=hiE c (fun q e=>cHi c q (e/(c.mv.length+1)) (e%(c.mv.length+1))) ((fun q e=>cHi c q (e/(c.mv.length+1)) (e%(c.mv.length+1))) F) (qsC c):=⟨_,rfl⟩
 rw [←hA1,←hB1]at c107
 obtain⟨L0,hL0⟩:∃n,n=((c.mv.length+1)*c.cs.length):=⟨_,rfl⟩
 have hA:∀e,e<L0→A1 e=bLo c (e/(c.mv.length+1)) (e%(c.mv.length+1)):=fun e h=>by rw [hA1];rw [hL0]at h;exact usN hC hF (uqm h).1 (uqm h).2
 have hB:∀e,e<L0→B1 e=bHi c (e/(c.mv.length+1)) (e%(c.mv.length+1)):=fun e h=>by rw [hB1];rw [hL0]at h;exact usv hC hF (uqm h).1 (uqm h).2
 rw [←hL0]at c107⊢
 clear hA1 hB1 hF
 refine ua0.is fun R hR=>qY (sc:=uxW) uas mix Try.func75 rfl Try.call75 (by kernel_rfl) (by kernel_rfl) ?_
 generalize Try.prog=P at c22 c107⊢
 cbv
 repeat' (first|with_reducible refine And.intro ?_ ?_|(with_reducible intro hcd;(try simp only [zA,zB,zC,zD,zE,zF,zG,zH,zI,zJ,zK,zL,zM,zN,zO,zP]at hcd);try cbv)|(refine qQ ?_ (c22) ?hfit;(case hfit=>((repeat' (first|exact qB|refine qD ?_ ?_|exact qE (by rfl)|exact qF (by rfl)|exact Fit.refl _|exact qA|refine qC ?_ rfl ?_));done));try cbv)|(refine qQ ?_ (c107) ?hfit;(case hfit=>((repeat' (first|exact qB|refine qD ?_ ?_|exact qE (by rfl)|exact qF (by rfl)|exact Fit.refl _|exact qA|refine qC ?_ rfl ?_));done));try cbv)|fail)
 all_goals first|trivial|(subst hR;exact qD (ua1 rfl (fun ix h0 h1=>qC (qE (hA _  om)) rfl (qC (qE (hB _  om)) rfl qA))) (qD (qE rfl) qB);done)|skip
theorem uqF (c:Clr)(hf:ua6 c=0)(hc:udN c=true):ua0 Try.prog 75 [(.agg [.clo 78 [] []]),(.agg [(caS c.cs),(mvS c.mv),(gaS c.gs)])] [] (fun r _=>r=(.tup [(.sl 2 (.sym fun _=>zi c.cs.length) (fun ix=>[(iv fun _=>lLo c ix.den.toNat),(iv fun _=>lHi c ix.den.toNat)])),(iv fun _=>0)])):=by
 have c22:=uaC c
 obtain⟨F,hF⟩:=ur8 hc
 have hC:=uaa.1 hf
 have c107:=uy1 78 c c.cs.length (fun q e=>eLo c q e) (fun q e=>eHi c q e) F hC ⟨hC.c1,by have:=hC.c3;omega⟩ (fun q ho hq=>usQ c q hC ho) hF
 obtain⟨A1,hA1⟩:∃f,f=loE c (fun q e=>eLo c q e) ((fun q e=>eLo c q e) F) (qsC c):=⟨_,rfl⟩
 obtain⟨B1,hB1⟩:∃f,f=hiE c (fun q e=>eHi c q e) ((fun q e=>eHi c q e) F) (qsC c):=⟨_,rfl⟩
 rw [←hA1,←hB1]at c107
 obtain⟨L0,hL0⟩:∃n,n=c.cs.length:=⟨_,rfl⟩
 have hA:∀e,e<L0→A1 e=lLo c e:=fun e h=>by rw [hA1];rw [hL0]at h;exact usB hC hF h
 have hB:∀e,e<L0→B1 e=lHi c e:=fun e h=>by rw [hB1];rw [hL0]at h;exact usk hC hF h
 clear hA1 hB1 hF
 refine ua0.is fun R hR=>qY (sc:=uxW) uas mix Try.func75 rfl Try.call75 (by kernel_rfl) (by kernel_rfl) ?_
 generalize Try.prog=P at c22 c107⊢
 cbv
 repeat' (first|with_reducible refine And.intro ?_ ?_|(with_reducible intro hcd;(try simp only [zA,zB,zC,zD,zE,zF,zG,zH,zI,zJ,zK,zL,zM,zN,zO,zP]at hcd);try cbv)|(refine qQ ?_ (c22) ?hfit;(case hfit=>((repeat' (first|exact qB|refine qD ?_ ?_|exact qE (by rfl)|exact qF (by rfl)|exact Fit.refl _|exact qA|refine qC ?_ rfl ?_));done));try cbv)|(refine qQ ?_ (c107) ?hfit;(case hfit=>((repeat' (first|exact qB|refine qD ?_ ?_|exact qE (by rfl)|exact qF (by rfl)|exact Fit.refl _|exact qA|refine qC ?_ rfl ?_));done));try cbv)|fail)
 all_goals first|trivial|(subst hR;exact qD (ua1 rfl (fun ix h0 h1=>qC (qE (hA _  om)) rfl (qC (qE (hB _  om)) rfl qA))) (qD (qE rfl) qB);done)|skip
theorem uiu (c:Clr)(hf:ua6 c=0)(hc:udN c=true):ua0 Try.prog 31 [(.agg [(caS c.cs),(mvS c.mv),(gaS c.gs)])] [] (fun r _=>r=(.tup [(.sl 2 (.sym fun _=>zi c.cs.length) (fun ix=>[(iv fun _=>lLo c ix.den.toNat),(iv fun _=>lHi c ix.den.toNat)])),(iv fun _=>0)])):=by
 have c75:=uqF c hf hc
 refine ua0.is fun R hR=>qY (sc:=uz2) uas mix Try.func31 rfl Try.call31 (by kernel_rfl) (by kernel_rfl) ?_
 generalize Try.prog=P at c75⊢
 cbv
 repeat' (first|(refine qQ ?_ (c75) ?hfit;(case hfit=>((repeat' (first|exact qB|refine qD ?_ ?_|exact qE (by rfl)|exact qF (by rfl)|exact Fit.refl _|exact qA|refine qC ?_ rfl ?_));done));try cbv)|fail)
 all_goals first|(subst hR;exact Fit.refl _;done)|skip
end Go.Proofs.Ytpkgnhcfmpbidaa

namespace Go.Proofs.Ytpkgnhcfmpbidaa
open Go Go.Eng Go.Proofs Go.Eng.Ck Go.Eng.Few
set_option maxRecDepth 10000
theorem uvP (i:Nat):upG (zi i) 1-0=zi (i+1):=by unfold upG;simp only [uaw];omega
def ucP (c:Clr):Int:=if ua6 c=0 then(if udN (ubh c [])=true then 0 else 9)else ua6 c
theorem ust {c:Clr}(h:¬ua6 c=0):ucP c=ua6 c:=if_neg h
theorem usV {c:Clr}(h:ua6 c=0)(h':udN (ubh c [])=false):ucP c=9:=by unfold ucP;rw [if_pos h,if_neg (by rw [h'];simp)]
theorem umT {c:Clr}(h:ua6 c=0)(h':udN (ubh c [])=true):ucP c=0:=by unfold ucP;rw [if_pos h,if_pos h']
theorem ufT {c:Clr}(h:ucP c=0):COk c∧udN (ubh c [])=true:=by
 unfold ucP at h
 split at h
 ·rename_i hf
  split at h
  ·rename_i hc;exact⟨uaa.1 hf,hc⟩
  ·cases h
 ·rename_i hf;exact absurd h hf
theorem upJ {c:Clr} {i:Nat}(hi:i<c.gs.length) {e:Int} {el:IX→List SV}(he:e=zi (i+1))(hel:∀ix:IX,el ix=(fun ix:IX=>(gcS (c.gs.getD ix.den.toNat g0))) (.sym fun _=>0+ix.den)):Fit (.sl 5 (.sym fun _=>e) el) (gaS (c.gs.take (i+1))):=
 ua1 (by show e=zi _;rw [he,List.length_take];simp only [uaw];omega) fun ix h0 h1=>by
  have h2:ix.den<zi (i+1):=by rw [←he];exact h1
  simp only [uaw]at h2
  rw [hel]
  have e:(c.gs.take (i+1)).getD ix.den.toNat g0=c.gs.getD (0+ix.den).toNat g0:=by
   rw [show(0+ix.den).toNat=ix.den.toNat by omega,List.getD_eq_getElem?_getD,List.getD_eq_getElem?_getD,List.getElem?_take_of_lt (by omega)]
  simp only [e]
  exact Fit.refl _
theorem ur6 :Fit (.val (Value.slice none 0 0)) (gaS ([]:List Gau)):=qP rfl
theorem uqf (c:Clr)(hf:¬ua6 c=0):ua0 Try.prog 81 [(.agg [(caS c.cs),(mvS c.mv),(gaS c.gs)])] [] (fun r _=>r=(iv fun _=>ucP c)):=by
 have c22:=uaC c
 refine ua0.is fun R hR=>qY (sc:=uwm) uas mix Try.func81 rfl Try.call81 (by kernel_rfl) (by kernel_rfl) ?_
 generalize Try.prog=P at c22⊢
 cbv
 repeat' (first|with_reducible refine And.intro ?_ ?_|(with_reducible intro hcd;(try simp only [zA,zB,zC,zD,zE,zF,zG,zH,zI,zJ,zK,zL,zM,zN,zO,zP]at hcd);try cbv)|(refine qQ ?_ (c22) ?hfit;(case hfit=>((repeat' (first|exact qB|refine qD ?_ ?_|exact qE (by rfl)|exact qF (by rfl)|exact Fit.refl _|exact qA|refine qC ?_ rfl ?_));done));try cbv)|fail)
 all_goals first|trivial|(subst hR;exact qE (ust hf).symm;done)|skip
theorem uqN (c:Clr)(hf:ua6 c=0)(hc:udN (ubh c [])=false):ua0 Try.prog 81 [(.agg [(caS c.cs),(mvS c.mv),(gaS c.gs)])] [] (fun r _=>r=(iv fun _=>ucP c)):=by
 have c22:=uaC c
 have c84:=uiK c []
 have c85:=ud5 (ubh c []) (ury (uaa.1 hf))
 refine ua0.is fun R hR=>qY (sc:=uwm) uas mix Try.func81 rfl Try.call81 (by kernel_rfl) (by kernel_rfl) ?_
 generalize Try.prog=P at c22 c84 c85⊢
 cbv
 repeat' (first|with_reducible refine And.intro ?_ ?_|(with_reducible intro hcd;(try simp only [zA,zB,zC,zD,zE,zF,zG,zH,zI,zJ,zK,zL,zM,zN,zO,zP,hc]at hcd);try cbv)|(refine qQ ?_ (c22) ?hfit;(case hfit=>((repeat' (first|exact qB|refine qD ?_ ?_|exact qE (by rfl)|exact qF (by rfl)|exact Fit.refl _|exact qA|refine qC ?_ rfl ?_));done));try cbv)|(refine qQ ?_ (c84) ?hfit;(case hfit=>((exact qD (Fit.refl _) (qD ur6 qB));done));try cbv)|(refine qQ ?_ (c85) ?hfit;(case hfit=>((repeat' (first|exact qB|refine qD ?_ ?_|exact qE (by rfl)|exact qF (by rfl)|exact Fit.refl _|exact qA|refine qC ?_ rfl ?_));done));try cbv)|fail)
 all_goals first|trivial|(subst hR;exact qE (usV hf hc).symm;done)|skip
theorem ur0 (c:Clr)(hf:ua6 c=0)(hc:udN (ubh c [])=true):ua0 Try.prog 81 [(.agg [(caS c.cs),(mvS c.mv),(gaS c.gs)])] [] (fun r _=>r=(iv fun _=>ucP c)):=by
 have c22:=uaC c
 have c84:=uiK c []
 have c85:=ud5 (ubh c []) (ury (uaa.1 hf))
 refine ua0.is fun R hR=>qY (sc:=uwm) uas mix Try.func81 rfl Try.call81 (by kernel_rfl) (by kernel_rfl) ?_
 generalize Try.prog=P at c22 c84 c85⊢
 cbv
 repeat' (first|with_reducible refine And.intro ?_ ?_|(with_reducible intro hcd;(try simp only [zA,zB,zC,zD,zE,zF,zG,zH,zI,zJ,zK,zL,zM,zN,zO,zP,hc]at hcd);try cbv)|(refine qQ ?_ (c22) ?hfit;(case hfit=>((repeat' (first|exact qB|refine qD ?_ ?_|exact qE (by rfl)|exact qF (by rfl)|exact Fit.refl _|exact qA|refine qC ?_ rfl ?_));done));try cbv)|(refine qQ ?_ (c84) ?hfit;(case hfit=>((exact qD (Fit.refl _) (qD ur6 qB));done));try cbv)|(refine qQ ?_ (c85) ?hfit;(case hfit=>((repeat' (first|exact qB|refine qD ?_ ?_|exact qE (by rfl)|exact qF (by rfl)|exact Fit.refl _|exact qA|refine qC ?_ rfl ?_));done));try cbv)|fail)
 all_goals first|trivial|(subst hR;exact qE (umT hf hc).symm;done)|skip
theorem unB (c:Clr):ua0 Try.prog 81 [(.agg [(caS c.cs),(mvS c.mv),(gaS c.gs)])] [] (fun r _=>r=(iv fun _=>ucP c)):=by
 by_cases hf:ua6 c=0
 ·cases hc:udN (ubh c [])with
  |false=>exact uqN c hf hc
  |true=>exact ur0 c hf hc
 ·exact uqf c hf
theorem uqp (c:Clr)(r0:Nat)(hw:ucP c=0)(hch:upx c c.gs.length 0=some r0):ua0 Try.prog 52 [(.agg [(caS c.cs),(mvS c.mv),(gaS c.gs)])] [] (fun r _=>r=(.tup [(iv fun _=>zi r0),(iv fun _=>0)])):=by
 have c81:=unB c
 have c84:=uiK c
 have c85:=fun gs h=>ud5 (ubh c gs) h
 refine ua0.is fun R hR=>qY (sc:=uyo) uas mix Try.func52 rfl Try.call52 (by kernel_rfl) (by kernel_rfl) ?_
 generalize Try.prog=P at c81 c84 c85⊢
 cbv
 have hC:=(ufT hw).1
 have hg6:=hC.g6
 repeat' (first|with_reducible refine And.intro ?_ ?_|(with_reducible intro hcd;(try simp only [zA,zB,zC,zD,zE,zF,zG,zH,zI,zJ,zK,zL,zM,zN,zO,zP]at hcd);try cbv)|(refine qQ ?_ (c81) ?hfit;(case hfit=>((repeat' (first|exact qB|refine qD ?_ ?_|exact qE (by rfl)|exact qF (by rfl)|exact Fit.refl _|exact qA|refine qC ?_ rfl ?_));done));try cbv)|fail)
 all_goals first|trivial|skip
 refine⟨none,[],{x:Nat // x≤c.gs.length∧upx c (c.gs.length-x) x=some r0},fun x=>⟨[(1,.own 0 0),(12,(gaS c.gs)),(13,(iv fun _=>zi c.gs.length)),(14,(iv fun _=>zi x.1))],[(0,.cells [(caS c.cs),(mvS c.mv),(gaS c.gs)] 36)],40⟩,fun x=>c.gs.length-x.1,?_,?_⟩
 ·refine⟨⟨0,by omega,hch⟩,?_⟩
  cbv
  repeat' (first|with_reducible refine ua3 ?_ ?_|with_reducible refine And.intro ?_ ?_)
  all_goals first|trivial|exact qN (qE (by rfl))|exact qN (Fit.refl _)|exact qL (qK _)|skip
 ·rintro ⟨i,h1,h2⟩
  cbv
  try dsimp only at h1 h2
  repeat' (first|with_reducible refine ua3 ?_ ?_|with_reducible refine And.intro ?_ ?_|(with_reducible intro hcd;(try simp only [zA,zB,zC,zD,zE,zF,zG,zH,zI,zJ,zK,zL,zM,zN,zO,zP]at hcd);try cbv)|(refine qQ ?_ ((c84 (c.gs.take (i+1)))) ?hfit;(case hfit=>((exact qD (Fit.refl _) (qD (upJ  om (uvP _) (fun _=>rfl)) qB));done));try cbv)|(refine qQ ?_ ((c85 (c.gs.take (i+1)) (urW hC (i+1)))) ?hfit;(case hfit=>((repeat' (first|exact qB|refine qD ?_ ?_|exact qE (by rfl)|exact qF (by rfl)|exact Fit.refl _|exact qA|refine qC ?_ rfl ?_));done));try cbv)|fail)
  all_goals first|((try simp only [qX]at *);(try simp only [zQ,zA,zB,zC,zD,zE,zF,zG,zH,zI,zJ,zK,zL,zM,zN,zO,zP,zR,zS]at *);first|(refine qO ?_;omega)|(simp only [uap];omega))|((have h9:udN (ubh c (c.gs.take (i+1)))=true:=by assumption);(have hil:i<c.gs.length:=by(try simp only [qX]at *);(try simp only [zQ,zA,zB,zC,zD,zE,zF,zG,zH,zI,zJ,zK,zL,zM,zN,zO,zP,zR,zS]at *);omega);refine⟨⟨i+1,by((try simp only [qX]at *);(try simp only [zQ,zA,zB,zC,zD,zE,zF,zG,zH,zI,zJ,zK,zL,zM,zN,zO,zP,zR,zS]at *);omega),by show upx c (c.gs.length-(i+1)) (i+1)=_;rw [show c.gs.length-(i+1)=c.gs.length-i-1 by omega];exact(usr  om h9).symm.trans h2⟩,by simp only [];omega,?_⟩;cbv;(repeat' (first|with_reducible refine ua3 ?_ ?_|with_reducible refine And.intro ?_ ?_));(all_goals first|trivial|exact qN (qE (by rfl))|exact qN (qF (by rfl))|exact qN (Fit.refl _)|exact qL (qK _)|(refine qN (qE ?_);(try simp only [qX]at *);simp only [zQ,zA,zB,zC,zD,zE,zF,zG,zH,zI,zJ,zK,zL,zM,zN,zO,zP,zR,zS]at *;omega)|(refine qL (qJ ?_);(repeat' (first|exact qA|exact qB|refine qC ?_ rfl ?_|refine qD ?_ ?_|exact qE (by rfl)|exact qF (by rfl)|exact Fit.refl _|exact qG _|(refine qE ?_;(try simp only [qX]at *);simp only [zQ,zA,zB,zC,zD,zE,zF,zG,zH,zI,zJ,zK,zL,zM,zN,zO,zP,zR,zS]at *;omega)));done)|skip))|((have h9:udN (ubh c (c.gs.take (i+1)))=false:=by first|assumption|exact Bool.eq_false_iff.2 (by assumption)|(simp_all;done));(have e9:=(uoY (n:=c.gs.length-i)  om h9).symm.trans h2);cases e9;subst hR;exact qD (Fit.refl _) (qD (qE rfl) qB))|((have h9:c.gs.length-i=0:=by((try simp only [qX]at *);(try simp only [zQ,zA,zB,zC,zD,zE,zF,zG,zH,zI,zJ,zK,zL,zM,zN,zO,zP,zR,zS]at *);omega));rw [h9]at h2;cases h2;done)|skip
end Go.Proofs.Ytpkgnhcfmpbidaa

namespace Go.Proofs.Ytpkgnhcfmpbidaa
open Go Go.Eng Go.Proofs Go.Eng.Ck Go.Eng.Few
set_option maxRecDepth 10000
theorem ugr {L l:List Int} {x:Int}(h:L=l++[x]):zi l.length+1=zi L.length:=by
 subst h
 simp only [uaw,List.length_append,List.length_cons,List.length_nil]
 omega
def ovL (f:Nat→Int)(a:Int):Nat→List Int
 |0=>[]
 |n+1=>if a<f n then ovL f a n++[(n:Int)]else ovL f a n
theorem uko {f:Nat→Int} {a:Int}:∀n,(ovL f a n).length≤n
 |0=>Nat.le_refl _
 | n+1=>by
  have:=uko (f:=f) (a:=a) n
  simp only [ovL]
  split
  ·rw [List.length_append,List.length_cons,List.length_nil];omega
  ·omega
set_option maxHeartbeats 4000000 in
theorem usC (c:Clr)(al:Int)(hf:ua6 c=0)(hc:udN c=true):ua0 Try.prog 32 [(.agg [(caS c.cs),(mvS c.mv),(gaS c.gs)]),(iv fun _=>al)] [] (fun r _=>r=(.tup [(.sl 1 (.sym fun _=>zi ((ovL (lLo c) al c.cs.length)).length) (fun ix=>[(iv fun _=>((ovL (lLo c) al c.cs.length)).getD ix.den.toNat 0)])),(.sl 1 (.sym fun _=>zi ((ovL (lHi c) al c.cs.length)).length) (fun ix=>[(iv fun _=>((ovL (lHi c) al c.cs.length)).getD ix.den.toNat 0)])),(iv fun _=>0)])):=by
 have hC:=uaa.1 hf
 have hc3:=hC.c3
 obtain⟨P1,hP1⟩:∃f:Nat→List Int,f=ovL (lLo c) al:=⟨_,rfl⟩
 obtain⟨Q1,hQ1⟩:∃f:Nat→List Int,f=ovL (lHi c) al:=⟨_,rfl⟩
 obtain⟨lo,hlo⟩:∃f,f=lLo c:=⟨_,rfl⟩
 obtain⟨hi_,hhi⟩:∃f,f=lHi c:=⟨_,rfl⟩
 have hPl:∀i,(P1 i).length≤i:=fun i=>by rw [hP1];exact uko i
 have hQl:∀i,(Q1 i).length≤i:=fun i=>by rw [hQ1];exact uko i
 have hP0:P1 0=[]:=by rw [hP1];rfl
 have hQ0:Q1 0=[]:=by rw [hQ1];rfl
 have hPy:∀i:Nat,al<lo i→P1 (i+1)=P1 i++[(i:Int)]:=fun i h=>by rw [hP1];rw [hlo]at h;simp only [ovL];rw [if_pos h]
 have hPn:∀i:Nat,¬al<lo i→P1 (i+1)=P1 i:=fun i h=>by rw [hP1];rw [hlo]at h;simp only [ovL];rw [if_neg h]
 have hQy:∀i:Nat,al<hi_ i→Q1 (i+1)=Q1 i++[(i:Int)]:=fun i h=>by rw [hQ1];rw [hhi]at h;simp only [ovL];rw [if_pos h]
 have hQn:∀i:Nat,¬al<hi_ i→Q1 (i+1)=Q1 i:=fun i h=>by rw [hQ1];rw [hhi]at h;simp only [ovL];rw [if_neg h]
 have c31:=uiu c hf hc
 rw [←hP1,←hQ1]
 rw [←hlo,←hhi]at c31
 clear hP1 hQ1 hlo hhi hf hc hC
 refine ua0.is fun R hR=>qY (sc:=uyS) uas mix Try.func32 rfl Try.call32 (by kernel_rfl) (by kernel_rfl) ?_
 generalize Try.prog=P at c31⊢
 cbv
 repeat' (first|(refine qQ ?_ (c31) ?hfit;(case hfit=>((repeat' (first|exact qB|refine qD ?_ ?_|exact qE (by rfl)|exact qF (by rfl)|exact Fit.refl _|exact qA|refine qC ?_ rfl ?_));done));try cbv)|fail)
 all_goals first|skip
 refine⟨none,[⟨.tmp 4,3,1⟩,⟨.tmp 5,3,1⟩],{x:Nat // x≤c.cs.length},fun x=>⟨[(1,(iv fun _=>al)),(4,.row 14),(5,.row 15),(6,(iv fun _=>0)),(15,(.sl 2 (.sym fun _=>zi c.cs.length) (fun ix=>[(iv fun _=>lo ix.den.toNat),(iv fun _=>hi_ ix.den.toNat)]))),(16,(iv fun _=>zi c.cs.length)),(17,(iv fun _=>zi x.1))],[(14,.row 3 1 (.sym fun _=>zi (P1 x.1).length) (fun ix=>[(iv fun _=>(P1 x.1).getD ix.den.toNat 0)])),(15,.row 3 1 (.sym fun _=>zi (Q1 x.1).length) (fun ix=>[(iv fun _=>(Q1 x.1).getD ix.den.toNat 0)]))],60⟩,fun x=>c.cs.length-x.1,?_,?_⟩
 ·refine⟨⟨0,by omega⟩,?_⟩
  cbv
  repeat' (first|with_reducible refine ua3 ?_ ?_|with_reducible refine And.intro ?_ ?_)
  all_goals first|trivial|exact qN (qE (by rfl))|exact qN (Fit.refl _)|(refine qL ?_;rw [hP0];exact ua8 rfl (fun ix h0 h1=>by exfalso;(try simp only [qX]at *);(try simp only [zQ,zA,zB,zC,zD,zE,zF,zG,zH,zI,zJ,zK,zL,zM,zN,zO,zP,zR,zS]at *);omega))|(refine qL ?_;rw [hQ0];exact ua8 rfl (fun ix h0 h1=>by exfalso;(try simp only [qX]at *);(try simp only [zQ,zA,zB,zC,zD,zE,zF,zG,zH,zI,zJ,zK,zL,zM,zN,zO,zP,zR,zS]at *);omega))|skip
 ·rintro ⟨i,hi⟩
  cbv
  have hPi:=hPl i
  have hQi:=hQl i
  repeat' (first
   |with_reducible refine ua3 ?_ ?_
   |with_reducible refine And.intro ?_ ?_
   |(with_reducible intro hcd;(try simp only [zA,zB,zC,zD,zE,zF,zG,zH,zI,zJ,zK,zL,zM,zN,zO,zP]at hcd);try cbv)
   | (obtain⟨A2,eA2⟩:∃y:List Int,y=(P1 i)++[(i:Int)]:=⟨_,rfl⟩
      refine⟨ulF A2,?_⟩
      cbv
      refine ua3 (ucQ (L:=(P1 i)) eA2 (by(first|rfl|((try simp only [qX]at *);(try simp only [zQ,zA,zB,zC,zD,zE,zF,zG,zH,zI,zJ,zK,zL,zM,zN,zO,zP,zR,zS]at *);done)|((try simp only [qX]at *);(try simp only [zQ,zA,zB,zC,zD,zE,zF,zG,zH,zI,zJ,zK,zL,zM,zN,zO,zP,zR,zS]at *);omega))) (by rfl) (fun ix=>Fit.refl _) (fun ix h=>qC (qE (by rfl)) rfl qA)  om) (Or.inl ?_)
      try cbv)
   | (obtain⟨B2,eB2⟩:∃y:List Int,y=(Q1 i)++[(i:Int)]:=⟨_,rfl⟩
      refine⟨ulF B2,?_⟩
      cbv
      refine ua3 (ucQ (L:=(Q1 i)) eB2 (by(first|rfl|((try simp only [qX]at *);(try simp only [zQ,zA,zB,zC,zD,zE,zF,zG,zH,zI,zJ,zK,zL,zM,zN,zO,zP,zR,zS]at *);done)|((try simp only [qX]at *);(try simp only [zQ,zA,zB,zC,zD,zE,zF,zG,zH,zI,zJ,zK,zL,zM,zN,zO,zP,zR,zS]at *);omega))) (by rfl) (fun ix=>Fit.refl _) (fun ix h=>qC (qE (by rfl)) rfl qA)  om) (Or.inl ?_)
      try cbv)
   |fail)
  all_goals first|((try simp only [qX]at *);(try simp only [zQ,zA,zB,zC,zD,zE,zF,zG,zH,zI,zJ,zK,zL,zM,zN,zO,zP,zR,zS]at *);first|(refine qO ?_;omega)|(simp only [uap];omega))|((have e9:i=c.cs.length:= om);subst e9;subst hR;exact Fit.refl _)|((try simp only [zQ,zA,zB,zC,zD,zE,zF,zG,zH,zI,zJ,zK,zL,zM,zN,zO,zP,zR,zS]at *);refine⟨⟨i+1,by((try simp only [qX]at *);(try simp only [zQ,zA,zB,zC,zD,zE,zF,zG,zH,zI,zJ,zK,zL,zM,zN,zO,zP,zR,zS]at *);omega)⟩,by simp only [];omega,?_⟩;cbv;(repeat' (first|with_reducible refine ua3 ?_ ?_|with_reducible refine And.intro ?_ ?_));(all_goals first|trivial|exact qN (qE (by rfl))|exact qN (qF (by rfl))|exact qN (Fit.refl _)|exact qL (qK _)|(refine qN (qE ?_);(try simp only [qX]at *);simp only [zQ,zA,zB,zC,zD,zE,zF,zG,zH,zI,zJ,zK,zL,zM,zN,zO,zP,zR,zS]at *;omega)|(refine qL (qJ ?_);(repeat' (first|exact qA|exact qB|refine qC ?_ rfl ?_|refine qD ?_ ?_|exact qE (by rfl)|exact qF (by rfl)|exact Fit.refl _|exact qG _|(refine qE ?_;(try simp only [qX]at *);simp only [zQ,zA,zB,zC,zD,zE,zF,zG,zH,zI,zJ,zK,zL,zM,zN,zO,zP,zR,zS]at *;omega)));done)|(refine qL ?_;rw [hPy i  om,←eA2];exact ua8 (ugr eA2) (fun ix _ _=>Fit.refl _))|(refine qL ?_;rw [hQy i  om,←eB2];exact ua8 (ugr eB2) (fun ix _ _=>Fit.refl _))|(refine qL ?_;rw [hPn i  om];exact qK _)|(refine qL ?_;rw [hQn i  om];exact qK _)|skip))|skip
end Go.Proofs.Ytpkgnhcfmpbidaa

namespace Go.Proofs.Ytpkgnhcfmpbidaa
open Go Go.Eng Go.Proofs Go.Eng.Ck Go.Eng.Few
set_option maxRecDepth 10000
theorem usi (o:List Int)(v:Int):decide (0≤ue6 (fun j=> !(decide (o.getD j 0=v))) o.length 0)=o.contains v:=by
 rw [Bool.eq_iff_iff,decide_eq_true_eq,ulp,List.contains_iff_mem]
 constructor
 ·rintro⟨j,_,h2,h3⟩
  have h4:o.getD j 0=v:=by simpa using h3
  rw [List.getD_eq_getElem?_getD,List.getElem?_eq_getElem (show j<o.length by omega)]at h4
  exact h4▸List.getElem_mem _
 ·intro h
  obtain⟨j,h1,h2⟩:=List.getElem_of_mem h
  exact⟨j,by omega,by omega,by
   have h4:o.getD j 0=v:=by rw [List.getD_eq_getElem?_getD,List.getElem?_eq_getElem h1];exact h2
   simpa using h4⟩
theorem uqU (o:List Int)(v:Int)(hfew:o.length≤1000):ua0 Try.prog 109 [(iS o),(iv fun _=>v)] [] (fun r _=>r=(iv fun _=>ue6 (fun j=> !(decide (o.getD j 0=v))) o.length 0)):=by
 refine ua0.is fun R hR=>qY (sc:=uvQ) uas mix Try.func109 rfl Try.call109 (by kernel_rfl) (by kernel_rfl) ?_
 generalize Try.prog=P
 cbv
 repeat' (first|fail)
 all_goals first|skip
 refine⟨none,[],{i:Nat // i≤o.length∧ue6 (fun j=> !(decide (o.getD j 0=v))) o.length 0=ue6 (fun j=> !(decide (o.getD j 0=v))) (o.length-i) i},fun x=>⟨[(0,(iS o)),(1,(iv fun _=>v)),(7,(iv fun _=>zi o.length)),(8,(iv fun _=>zi x.1))],[],20⟩,fun x=>o.length-x.1,?_,?_⟩
 ·refine⟨⟨0,by omega,rfl⟩,?_⟩
  cbv
  repeat' (first|with_reducible refine ua3 ?_ ?_|with_reducible refine And.intro ?_ ?_)
  all_goals first|trivial|exact qN (qE (by rfl))|exact qN (Fit.refl _)|skip
 ·rintro⟨i,hi,hr⟩
  cbv
  repeat' (first|with_reducible refine ua3 ?_ ?_|with_reducible refine And.intro ?_ ?_|(with_reducible intro hcd;(try simp only [zA,zB,zC,zD,zE,zF,zG,zH,zI,zJ,zK,zL,zM,zN,zO,zP]at hcd);try cbv)|fail)
  all_goals first|((try simp only [qX]at *);(try simp only [zQ,zA,zB,zC,zD,zE,zF,zG,zH,zI,zJ,zK,zL,zM,zN,zO,zP,zR,zS]at *);first|(refine qO ?_;omega)|(simp only [uap];omega))|(subst hR;(refine qE ?_;(try simp only [qX]at *);(try simp only [zQ,zA,zB,zC,zD,zE,zF,zG,zH,zI,zJ,zK,zL,zM,zN,zO,zP,zR,zS]at *);rw [hr,ucr (by omega) (by simp only [Bool.not_eq_false',decide_eq_true_eq];omega)]);done)|(subst hR;(refine qE ?_;(try simp only [qX]at *);(try simp only [zQ,zA,zB,zC,zD,zE,zF,zG,zH,zI,zJ,zK,zL,zM,zN,zO,zP,zR,zS]at *);rw [hr,show o.length-i=0 by omega];rfl);done)|((try simp only [zQ,zA,zB,zC,zD,zE,zF,zG,zH,zI,zJ,zK,zL,zM,zN,zO,zP,zR,zS]at *);refine⟨⟨i+1,by omega,by rw [hr,uet (by omega) (by simp only [Bool.not_eq_true',decide_eq_false_iff_not];omega)];(try congr 1)<;>omega⟩,by simp only [];omega,?_⟩;cbv;(repeat' (first|with_reducible refine ua3 ?_ ?_|with_reducible refine And.intro ?_ ?_));(all_goals first|trivial|exact qN (qE (by rfl))|exact qN (qF (by rfl))|exact qN (Fit.refl _)|exact qL (qK _)|(refine qN (qE ?_);(try simp only [qX]at *);simp only [zQ,zA,zB,zC,zD,zE,zF,zG,zH,zI,zJ,zK,zL,zM,zN,zO,zP,zR,zS]at *;omega)|skip))|skip
theorem uh3 (o:List Int)(v:Int)(hfew:o.length≤1000):ua0 Try.prog 83 [(iS o),(iv fun _=>v)] [] (fun r _=>r=(bv fun _=>o.contains v)):=by
 have c109:=uqU o v hfew
 refine ua0.is fun R hR=>qY (sc:=uyX) uas mix Try.func83 rfl Try.call83 (by kernel_rfl) (by kernel_rfl) ?_
 generalize Try.prog=P at c109⊢
 cbv
 repeat' (first|(refine qQ ?_ (c109) ?hfit;(case hfit=>((repeat' (first|exact qB|refine qD ?_ ?_|exact qE (by rfl)|exact qF (by rfl)|exact Fit.refl _|exact qA|refine qC ?_ rfl ?_));done));try cbv)|fail)
 all_goals first|(subst hR;(refine qF ?_;exact usi o v);done)|skip
theorem unx (l:List Int)(hl:l.length≤1000):uaU Try.prog 86 [(iS l)] [] (fun r bs=>r = .row 0∧bs=[.row 3 1 (.sym fun _=>zi (l).length) (fun ix=>[(iv fun _=>(l).getD ix.den.toNat 0)])]):=by
 refine uaU.is rfl rfl fun R B hR hB=>ud3 (sc:=uyA) uas mix Try.func86 rfl Try.call86 (by kernel_rfl) (by kernel_rfl) ?_
 generalize Try.prog=P
 cbv
 repeat' (first|with_reducible refine ua3 ?_ ?_|with_reducible refine And.intro ?_ ?_|(with_reducible intro hcd;(try simp only [zA,zB,zC,zD,zE,zF,zG,zH,zI,zJ,zK,zL,zM,zN,zO,zP]at hcd);try cbv)|fail)
 all_goals first|((try simp only [qX]at *);(try simp only [zQ,zA,zB,zC,zD,zE,zF,zG,zH,zI,zJ,zK,zL,zM,zN,zO,zP,zR,zS]at *);first|(refine qO ?_;omega)|(simp only [uap];omega))|(refine⟨[⟨.tmp 2,3,1⟩],(4:Nat),?_⟩;cbv;subst hR;subst hB;refine⟨?_,?_⟩;(first|exact Fit.refl _|((repeat' (first|exact qA|exact qB|refine qC ?_ rfl ?_|refine qD ?_ ?_|exact qE (by rfl)|exact qF (by rfl)|exact Fit.refl _|exact qG _|(refine qE ?_;(try simp only [qX]at *);simp only [zQ,zA,zB,zC,zD,zE,zF,zG,zH,zI,zJ,zK,zL,zM,zN,zO,zP,zR,zS]at *;omega)));done));(repeat' (first|exact qH|refine qI ?_ ?_));(all_goals first|exact qK _|(refine qJ ?_;(repeat' (first|exact qA|exact qB|refine qC ?_ rfl ?_|refine qD ?_ ?_|exact qE (by rfl)|exact qF (by rfl)|exact Fit.refl _|exact qG _|(refine qE ?_;(try simp only [qX]at *);simp only [zQ,zA,zB,zC,zD,zE,zF,zG,zH,zI,zJ,zK,zL,zM,zN,zO,zP,zR,zS]at *;omega)));done)|(refine ua8 ?_ ?_;(first|rfl|((try simp only [qX]at *);(try simp only [zQ,zA,zB,zC,zD,zE,zF,zG,zH,zI,zJ,zK,zL,zM,zN,zO,zP,zR,zS]at *);omega));intro ix h0 h1;first|exact Fit.refl _|(exfalso;(try simp only [qX]at *);(try simp only [zQ,zA,zB,zC,zD,zE,zF,zG,zH,zI,zJ,zK,zL,zM,zN,zO,zP,zR,zS]at *);omega))))|(refine⟨[],(5:Nat),?_⟩;cbv;subst hR;subst hB;refine⟨?_,?_⟩;(first|exact Fit.refl _|((repeat' (first|exact qA|exact qB|refine qC ?_ rfl ?_|refine qD ?_ ?_|exact qE (by rfl)|exact qF (by rfl)|exact Fit.refl _|exact qG _|(refine qE ?_;(try simp only [qX]at *);simp only [zQ,zA,zB,zC,zD,zE,zF,zG,zH,zI,zJ,zK,zL,zM,zN,zO,zP,zR,zS]at *;omega)));done));(repeat' (first|exact qH|refine qI ?_ ?_));(all_goals first|exact qK _|(refine qJ ?_;(repeat' (first|exact qA|exact qB|refine qC ?_ rfl ?_|refine qD ?_ ?_|exact qE (by rfl)|exact qF (by rfl)|exact Fit.refl _|exact qG _|(refine qE ?_;(try simp only [qX]at *);simp only [zQ,zA,zB,zC,zD,zE,zF,zG,zH,zI,zJ,zK,zL,zM,zN,zO,zP,zR,zS]at *;omega)));done)|(refine ua8 ?_ ?_;(first|rfl|((try simp only [qX]at *);(try simp only [zQ,zA,zB,zC,zD,zE,zF,zG,zH,zI,zJ,zK,zL,zM,zN,zO,zP,zR,zS]at *);omega));intro ix h0 h1;first|exact Fit.refl _|(exfalso;(try simp only [qX]at *);(try simp only [zQ,zA,zB,zC,zD,zE,zF,zG,zH,zI,zJ,zK,zL,zM,zN,zO,zP,zR,zS]at *);omega))))|skip
end Go.Proofs.Ytpkgnhcfmpbidaa

namespace Go.Proofs.Ytpkgnhcfmpbidaa
open Go Go.Eng Go.Proofs Go.Eng.Ck Go.Eng.Few
set_option maxRecDepth 10000
theorem urj {P:Program} {f:FuncId} {args args':List SV} {K:SV→Prop} {R:SV}(h:K R)(hF:ua0 P f args' [] fun r _=>r=R)(ha:Fit (.tup args) (.tup args')):
 ∃post:SV→Prop,ua0 P f args [] (fun r _=>post r)∧∀r,post r→K r:=⟨fun r=>r=R,hF.pre ha,fun r hr=>hr▸h⟩
theorem up5 {l m:List Gau} {j:Nat}(h:j<l.length):(l++m).getD j g0=l.getD j g0:=by
 rw [List.getD_eq_getElem?_getD,List.getD_eq_getElem?_getD,List.getElem?_append_left h]
theorem uoq {l:List Gau} {g:Gau} {j:Nat}(h:j=l.length):(l++[g]).getD j g0=g:=by
 subst h
 rw [List.getD_eq_getElem?_getD,List.getElem?_append_right (Nat.le_refl _),Nat.sub_self]
 rfl
theorem upp {L l:List Gau} {x:Gau}(h:L=l++[x]):zi l.length+1=zi L.length:=by
 subst h
 simp only [uaw,List.length_append,List.length_cons,List.length_nil]
 omega
set_option maxHeartbeats 4000000 in
theorem uwl (c:Clr)(o:List Int)(i0:Int)(hc:COk c)(ho:o.length≤1000)(hok:okG c o=true):ua0 Try.prog 82 [(iS o),(iv fun _=>i0),(iv fun _=>0),.own 0 0,.own 1 0,.own 2 0] [.cells [(caS c.cs),(mvS c.mv),(gaS c.gs)] 36,.cells [.any] 62,.cells [.clo 82 [] [.own 0 0,.own 1 0,.own 2 0]] 148] (fun r bs=>r=(bv fun _=>true)∧bs=[.cells [(caS c.cs),(mvS c.mv),(gaS c.gs)] 36,.cells [(iS o)] 62,.cells [.clo 82 [] [.own 0 0,.own 1 0,.own 2 0]] 148]):=by
 have hg6:=hc.g6
 obtain⟨K,hK⟩:∃f:Nat→List Gau,f=kpG c.gs (upv o):=⟨_,rfl⟩
 have hK0:K 0=[]:=by rw [hK];rfl
 have hKy:∀i:Nat,o.contains (i:Int)=false→K (i+1)=K i++[c.gs.getD i g0]:=fun i h=>by rw [hK];exact uu1 (by unfold upv;rw [h];rfl)
 have hKn:∀i:Nat,o.contains (i:Int)=true→K (i+1)=K i:=fun i h=>by rw [hK];exact uu7 (by unfold upv;rw [h];rfl)
 have hKl:∀i,(K i).length≤i:=fun i=>by rw [hK];exact ugz i
 have hcan:udN (ubh c (K c.gs.length))=okG c o:=by rw [hK];rfl
 have c85:=fun (i:Nat) (h:i≤c.gs.length)=>ud5 (ubh c (K i)) (ufQ hc (by have:=ugz (gs:=c.gs) (p:=upv o) i;rw [hK];omega) fun g hg=>hc.gm g (by rw [hK]at hg;exact umN h hg))
 have c84:=uiK c
 have c83:=fun i=>uh3 o i ho
 clear hK
 refine ua0.isB rfl fun R B hR hB=>qY (sc:=uvK) uas mix Try.func82 rfl Try.call82 (by kernel_rfl) (by kernel_rfl) ?_
 generalize Try.prog=P at c83 c84 c85⊢
 cbv
 repeat' (first|with_reducible refine And.intro ?_ ?_|(with_reducible intro hcd;(try simp only [zA,zB,zC,zD,zE,zF,zG,zH,zI,zJ,zK,zL,zM,zN,zO,zP]at hcd);try cbv)|fail)
 all_goals first|trivial|skip
 refine⟨none,[⟨.tmp 10,111,5⟩],{x:Nat // x≤c.gs.length},fun x=>⟨[(0,(iS o)),(3,.own 0 0),(4,.own 1 0),(5,.own 2 0),(10,.row 11),(17,(gaS c.gs)),(18,(iv fun _=>zi c.gs.length)),(19,(iv fun _=>zi x.1))],[(0,.cells [(caS c.cs),(mvS c.mv),(gaS c.gs)] 36),(1,.cells [.any] 62),(2,.cells [.clo 82 [] [.own 0 0,.own 1 0,.own 2 0]] 148),(11,.row 111 5 (.sym fun _=>zi ((K x.1)).length) (fun ix=>(gcS (((K x.1)).getD ix.den.toNat g0))))],60⟩,fun x=>c.gs.length-x.1,?_,?_⟩
 ·refine⟨⟨0,by omega⟩,?_⟩
  cbv
  repeat' (first|with_reducible refine ua3 ?_ ?_|with_reducible refine And.intro ?_ ?_)
  all_goals first|trivial|exact qN (qE (by rfl))|exact qN (Fit.refl _)|exact qL (qK _)|(refine qL ?_;rw [hK0];exact ua8 rfl (fun ix h0 h1=>by exfalso;(try simp only [qX]at *);(try simp only [zQ,zA,zB,zC,zD,zE,zF,zG,zH,zI,zJ,zK,zL,zM,zN,zO,zP,zR,zS]at *);omega))|skip
 ·rintro ⟨i,hi⟩
  cbv
  have hKi:=hKl i
  repeat' (first
   |with_reducible refine ua3 ?_ ?_
   |with_reducible refine And.intro ?_ ?_
   |(with_reducible intro hcd;(try simp only [zA,zB,zC,zD,zE,zF,zG,zH,zI,zJ,zK,zL,zM,zN,zO,zP]at hcd);try cbv)
   |(refine qQ ?_ ((c83 (zi i))) ?hfit;(case hfit=>((repeat' (first|exact qB|refine qD ?_ ?_|exact qE (by rfl)|exact qF (by rfl)|exact Fit.refl _|exact qA|refine qC ?_ rfl ?_));done));try cbv)
   | (obtain⟨K2,eK2⟩:∃y,y=K i++[c.gs.getD i g0]:=⟨_,rfl⟩
      refine⟨fun ix=>(gcS ((K2).getD ix.den.toNat g0)),?_⟩
      cbv
      refine ua3 (uaH ?p1 ?p2 ?p3) (Or.inl ?_)
      case p1=>(intro ix jx h0 h1 h2;(have e:K2.getD jx.den.toNat g0=(K i).getD ix.den.toNat g0:=by rw [eK2,h2];exact up5  om);simp only [e];exact Fit.refl _)
      case p2=>(intro ix jx h0 h1 h2;(have e:K2.getD jx.den.toNat g0=c.gs.getD i g0:=by rw [eK2];exact uoq  om);simp only [e];exact Fit.refl _)
      case p3=>((try simp only [qX]at *);(try simp only [zQ,zA,zB,zC,zD,zE,zF,zG,zH,zI,zJ,zK,zL,zM,zN,zO,zP,zR,zS]at *);omega)
      try cbv)
   | (refine⟨some [],(11:Nat),?_⟩
      cbv
      refine urj ?_ ((c84 (K i))) (by cbv;(repeat' (first|exact qB|refine qD ?_ ?_|exact qE (by rfl)|exact qF (by rfl)|exact Fit.refl _|exact qA|refine qC ?_ rfl ?_)))
      try cbv)
   |(refine qQ ?_ ((c85 i hi)) ?hfit;(case hfit=>((repeat' (first|exact qB|refine qD ?_ ?_|exact qE (by rfl)|exact qF (by rfl)|exact Fit.refl _|exact qA|refine qC ?_ rfl ?_));done));try cbv)
   |fail)
  all_goals first|((try simp only [qX]at *);(try simp only [zQ,zA,zB,zC,zD,zE,zF,zG,zH,zI,zJ,zK,zL,zM,zN,zO,zP,zR,zS]at *);first|(refine qO ?_;omega)|(simp only [uap];omega))|(subst hR;((have e9:i=c.gs.length:=by(try simp only [qX]at *);(try simp only [zQ,zA,zB,zC,zD,zE,zF,zG,zH,zI,zJ,zK,zL,zM,zN,zO,zP,zR,zS]at *);omega);subst e9;exact qF (by rw [hcan,hok]));done)|(subst hB;(repeat' (first|exact qH|refine qI ?_ ?_|exact qK _|refine qJ ?_|exact qA|exact qE (by rfl)|exact qF (by rfl)|exact Fit.refl _|exact qG _|refine qC ?_ rfl ?_));done)|((try simp only [zQ,zA,zB,zC,zD,zE,zF,zG,zH,zI,zJ,zK,zL,zM,zN,zO,zP,zR,zS]at *);refine⟨⟨i+1,by((try simp only [qX]at *);(try simp only [zQ,zA,zB,zC,zD,zE,zF,zG,zH,zI,zJ,zK,zL,zM,zN,zO,zP,zR,zS]at *);omega)⟩,by simp only [];omega,?_⟩;cbv;(repeat' (first|with_reducible refine ua3 ?_ ?_|with_reducible refine And.intro ?_ ?_));(all_goals first|trivial|exact qN (qE (by rfl))|exact qN (qF (by rfl))|exact qN (Fit.refl _)|exact qL (qK _)|(refine qN (qE ?_);(try simp only [qX]at *);simp only [zQ,zA,zB,zC,zD,zE,zF,zG,zH,zI,zJ,zK,zL,zM,zN,zO,zP,zR,zS]at *;omega)|(refine qL (qJ ?_);(repeat' (first|exact qA|exact qB|refine qC ?_ rfl ?_|refine qD ?_ ?_|exact qE (by rfl)|exact qF (by rfl)|exact Fit.refl _|exact qG _|(refine qE ?_;(try simp only [qX]at *);simp only [zQ,zA,zB,zC,zD,zE,zF,zG,zH,zI,zJ,zK,zL,zM,zN,zO,zP,zR,zS]at *;omega)));done)|(refine qL ?_;(have e9:=hKy i (by first|assumption|(simp_all;done)));rw [e9,←eK2];exact ua8 (upp eK2) (fun ix _ _=>Fit.refl _))|(refine qL ?_;(have e9:=hKn i (by first|assumption|(simp_all;done)));rw [e9];exact qK _)|skip))|skip
set_option maxHeartbeats 4000000 in
theorem uxB (c:Clr)(o:List Int)(i0:Int)(hc:COk c)(ho:o.length≤1000)(hok:okG c o=false):ua0 Try.prog 82 [(iS o),(iv fun _=>i0),(iv fun _=>0),.own 0 0,.own 1 0,.own 2 0] [.cells [(caS c.cs),(mvS c.mv),(gaS c.gs)] 36,.cells [.any] 62,.cells [.clo 82 [] [.own 0 0,.own 1 0,.own 2 0]] 148] (fun r bs=>r=(bv fun _=>false)∧bs=[.cells [(caS c.cs),(mvS c.mv),(gaS c.gs)] 36,.cells [.any] 62,.cells [.clo 82 [] [.own 0 0,.own 1 0,.own 2 0]] 148]):=by
 have hg6:=hc.g6
 obtain⟨K,hK⟩:∃f:Nat→List Gau,f=kpG c.gs (upv o):=⟨_,rfl⟩
 have hK0:K 0=[]:=by rw [hK];rfl
 have hKy:∀i:Nat,o.contains (i:Int)=false→K (i+1)=K i++[c.gs.getD i g0]:=fun i h=>by rw [hK];exact uu1 (by unfold upv;rw [h];rfl)
 have hKn:∀i:Nat,o.contains (i:Int)=true→K (i+1)=K i:=fun i h=>by rw [hK];exact uu7 (by unfold upv;rw [h];rfl)
 have hKl:∀i,(K i).length≤i:=fun i=>by rw [hK];exact ugz i
 have hcan:udN (ubh c (K c.gs.length))=okG c o:=by rw [hK];rfl
 have c85:=fun (i:Nat) (h:i≤c.gs.length)=>ud5 (ubh c (K i)) (ufQ hc (by have:=ugz (gs:=c.gs) (p:=upv o) i;rw [hK];omega) fun g hg=>hc.gm g (by rw [hK]at hg;exact umN h hg))
 have c84:=uiK c
 have c83:=fun i=>uh3 o i ho
 clear hK
 refine ua0.isB rfl fun R B hR hB=>qY (sc:=uvK) uas mix Try.func82 rfl Try.call82 (by kernel_rfl) (by kernel_rfl) ?_
 generalize Try.prog=P at c83 c84 c85⊢
 cbv
 repeat' (first|with_reducible refine And.intro ?_ ?_|(with_reducible intro hcd;(try simp only [zA,zB,zC,zD,zE,zF,zG,zH,zI,zJ,zK,zL,zM,zN,zO,zP]at hcd);try cbv)|fail)
 all_goals first|trivial|skip
 refine⟨none,[⟨.tmp 10,111,5⟩],{x:Nat // x≤c.gs.length},fun x=>⟨[(0,(iS o)),(3,.own 0 0),(4,.own 1 0),(5,.own 2 0),(10,.row 11),(17,(gaS c.gs)),(18,(iv fun _=>zi c.gs.length)),(19,(iv fun _=>zi x.1))],[(0,.cells [(caS c.cs),(mvS c.mv),(gaS c.gs)] 36),(1,.cells [.any] 62),(2,.cells [.clo 82 [] [.own 0 0,.own 1 0,.own 2 0]] 148),(11,.row 111 5 (.sym fun _=>zi ((K x.1)).length) (fun ix=>(gcS (((K x.1)).getD ix.den.toNat g0))))],60⟩,fun x=>c.gs.length-x.1,?_,?_⟩
 ·refine⟨⟨0,by omega⟩,?_⟩
  cbv
  repeat' (first|with_reducible refine ua3 ?_ ?_|with_reducible refine And.intro ?_ ?_)
  all_goals first|trivial|exact qN (qE (by rfl))|exact qN (Fit.refl _)|exact qL (qK _)|(refine qL ?_;rw [hK0];exact ua8 rfl (fun ix h0 h1=>by exfalso;(try simp only [qX]at *);(try simp only [zQ,zA,zB,zC,zD,zE,zF,zG,zH,zI,zJ,zK,zL,zM,zN,zO,zP,zR,zS]at *);omega))|skip
 ·rintro ⟨i,hi⟩
  cbv
  have hKi:=hKl i
  repeat' (first
   |with_reducible refine ua3 ?_ ?_
   |with_reducible refine And.intro ?_ ?_
   |(with_reducible intro hcd;(try simp only [zA,zB,zC,zD,zE,zF,zG,zH,zI,zJ,zK,zL,zM,zN,zO,zP]at hcd);try cbv)
   |(refine qQ ?_ ((c83 (zi i))) ?hfit;(case hfit=>((repeat' (first|exact qB|refine qD ?_ ?_|exact qE (by rfl)|exact qF (by rfl)|exact Fit.refl _|exact qA|refine qC ?_ rfl ?_));done));try cbv)
   | (obtain⟨K2,eK2⟩:∃y,y=K i++[c.gs.getD i g0]:=⟨_,rfl⟩
      refine⟨fun ix=>(gcS ((K2).getD ix.den.toNat g0)),?_⟩
      cbv
      refine ua3 (uaH ?p1 ?p2 ?p3) (Or.inl ?_)
      case p1=>(intro ix jx h0 h1 h2;(have e:K2.getD jx.den.toNat g0=(K i).getD ix.den.toNat g0:=by rw [eK2,h2];exact up5  om);simp only [e];exact Fit.refl _)
      case p2=>(intro ix jx h0 h1 h2;(have e:K2.getD jx.den.toNat g0=c.gs.getD i g0:=by rw [eK2];exact uoq  om);simp only [e];exact Fit.refl _)
      case p3=>((try simp only [qX]at *);(try simp only [zQ,zA,zB,zC,zD,zE,zF,zG,zH,zI,zJ,zK,zL,zM,zN,zO,zP,zR,zS]at *);omega)
      try cbv)
   | (refine⟨some [],(11:Nat),?_⟩
      cbv
      refine urj ?_ ((c84 (K i))) (by cbv;(repeat' (first|exact qB|refine qD ?_ ?_|exact qE (by rfl)|exact qF (by rfl)|exact Fit.refl _|exact qA|refine qC ?_ rfl ?_)))
      try cbv)
   |(refine qQ ?_ ((c85 i hi)) ?hfit;(case hfit=>((repeat' (first|exact qB|refine qD ?_ ?_|exact qE (by rfl)|exact qF (by rfl)|exact Fit.refl _|exact qA|refine qC ?_ rfl ?_));done));try cbv)
   |fail)
  all_goals first|((try simp only [qX]at *);(try simp only [zQ,zA,zB,zC,zD,zE,zF,zG,zH,zI,zJ,zK,zL,zM,zN,zO,zP,zR,zS]at *);first|(refine qO ?_;omega)|(simp only [uap];omega))|(subst hR;((have e9:i=c.gs.length:=by(try simp only [qX]at *);(try simp only [zQ,zA,zB,zC,zD,zE,zF,zG,zH,zI,zJ,zK,zL,zM,zN,zO,zP,zR,zS]at *);omega);subst e9;exact qF (by rw [hcan,hok]));done)|(subst hB;(repeat' (first|exact qH|refine qI ?_ ?_|exact qK _|refine qJ ?_|exact qA|exact qE (by rfl)|exact qF (by rfl)|exact Fit.refl _|exact qG _|refine qC ?_ rfl ?_));done)|((try simp only [zQ,zA,zB,zC,zD,zE,zF,zG,zH,zI,zJ,zK,zL,zM,zN,zO,zP,zR,zS]at *);refine⟨⟨i+1,by((try simp only [qX]at *);(try simp only [zQ,zA,zB,zC,zD,zE,zF,zG,zH,zI,zJ,zK,zL,zM,zN,zO,zP,zR,zS]at *);omega)⟩,by simp only [];omega,?_⟩;cbv;(repeat' (first|with_reducible refine ua3 ?_ ?_|with_reducible refine And.intro ?_ ?_));(all_goals first|trivial|exact qN (qE (by rfl))|exact qN (qF (by rfl))|exact qN (Fit.refl _)|exact qL (qK _)|(refine qN (qE ?_);(try simp only [qX]at *);simp only [zQ,zA,zB,zC,zD,zE,zF,zG,zH,zI,zJ,zK,zL,zM,zN,zO,zP,zR,zS]at *;omega)|(refine qL (qJ ?_);(repeat' (first|exact qA|exact qB|refine qC ?_ rfl ?_|refine qD ?_ ?_|exact qE (by rfl)|exact qF (by rfl)|exact Fit.refl _|exact qG _|(refine qE ?_;(try simp only [qX]at *);simp only [zQ,zA,zB,zC,zD,zE,zF,zG,zH,zI,zJ,zK,zL,zM,zN,zO,zP,zR,zS]at *;omega)));done)|(refine qL ?_;(have e9:=hKy i (by first|assumption|(simp_all;done)));rw [e9,←eK2];exact ua8 (upp eK2) (fun ix _ _=>Fit.refl _))|(refine qL ?_;(have e9:=hKn i (by first|assumption|(simp_all;done)));rw [e9];exact qK _)|skip))|skip
set_option maxHeartbeats 1000000 in
theorem umb (c:Clr)(o:List Int)(i k M:Nat)(F:List Int)(hc:COk c)(ho:o.length≤i)(hM:M=k+1)(him:i+M≤c.gs.length)(hch:ubL (fun j=>uay c.gs.length (okG c) k (o++[(j:Int)]) (j+1)) (c.gs.length+1-M-i) i=some F)(ih:∀(j:Nat),i≤j→j+M≤c.gs.length→(∀F L:List Int,L=o++[(j:Int)]→uay c.gs.length (okG c) k (o++[(j:Int)]) (j+1)=some F→ua0 Try.prog 82 [(iS L),(iv fun _=>zi j+1),(iv fun _=>zi M-1),.own 0 0,.own 1 0,.own 2 0] [.cells [(caS c.cs),(mvS c.mv),(gaS c.gs)] 36,.cells [.any] 62,.cells [.clo 82 [] [.own 0 0,.own 1 0,.own 2 0]] 148] (fun r bs=>r=(bv fun _=>true)∧bs=[.cells [(caS c.cs),(mvS c.mv),(gaS c.gs)] 36,.cells [(iS F)] 62,.cells [.clo 82 [] [.own 0 0,.own 1 0,.own 2 0]] 148]))∧(∀L:List Int,L=o++[(j:Int)]→uay c.gs.length (okG c) k (o++[(j:Int)]) (j+1)=none→ua0 Try.prog 82 [(iS L),(iv fun _=>zi j+1),(iv fun _=>zi M-1),.own 0 0,.own 1 0,.own 2 0] [.cells [(caS c.cs),(mvS c.mv),(gaS c.gs)] 36,.cells [.any] 62,.cells [.clo 82 [] [.own 0 0,.own 1 0,.own 2 0]] 148] (fun r bs=>r=(bv fun _=>false)∧bs=[.cells [(caS c.cs),(mvS c.mv),(gaS c.gs)] 36,.cells [.any] 62,.cells [.clo 82 [] [.own 0 0,.own 1 0,.own 2 0]] 148]))):ua0 Try.prog 82 [(iS o),(iv fun _=>zi i),(iv fun _=>zi M),.own 0 0,.own 1 0,.own 2 0] [.cells [(caS c.cs),(mvS c.mv),(gaS c.gs)] 36,.cells [.any] 62,.cells [.clo 82 [] [.own 0 0,.own 1 0,.own 2 0]] 148] (fun r bs=>r=(bv fun _=>true)∧bs=[.cells [(caS c.cs),(mvS c.mv),(gaS c.gs)] 36,.cells [(iS F)] 62,.cells [.clo 82 [] [.own 0 0,.own 1 0,.own 2 0]] 148]):=by
 have c86:=unx o (by have:=hc.g6;omega)
 have ihY:=fun (j:Nat) h h1=>(ih j h h1).1
 have ihN:=fun (j:Nat) h h1=>(ih j h h1).2
 refine ua0.isB rfl fun R B hR hB=>qY (sc:=uvK) uas mix Try.func82 rfl Try.call82 (by kernel_rfl) (by kernel_rfl) ?_
 generalize Try.prog=P at c86 ihY ihN⊢
 cbv
 have hfew:=hc.g6
 repeat' (first|with_reducible refine And.intro ?_ ?_|(with_reducible intro hcd;(try simp only [zA,zB,zC,zD,zE,zF,zG,zH,zI,zJ,zK,zL,zM,zN,zO,zP]at hcd);try cbv)|fail)
 all_goals first|(exfalso;(try simp only [qX]at *);(try simp only [zQ,zA,zB,zC,zD,zE,zF,zG,zH,zI,zJ,zK,zL,zM,zN,zO,zP,zR,zS]at *);omega)|skip
 refine⟨none,[],{x:Nat // i≤x∧x+M≤c.gs.length+1∧ubL (fun j=>uay c.gs.length (okG c) k (o++[(j:Int)]) (j+1)) (c.gs.length+1-M-x) x=some F},fun x=>⟨[(0,(iS o)),(2,(iv fun _=>zi M)),(3,.own 0 0),(4,.own 1 0),(5,.own 2 0),(13,(iv fun _=>zi x.1))],[(0,.cells [(caS c.cs),(mvS c.mv),(gaS c.gs)] 36),(1,.cells [.any] 62),(2,.cells [.clo 82 [] [.own 0 0,.own 1 0,.own 2 0]] 148)],40⟩,fun x=>c.gs.length+1-x.1,?_,?_⟩
 ·refine⟨⟨i,by omega,by omega,hch⟩,?_⟩
  cbv
  repeat' (first|with_reducible refine ua3 ?_ ?_|with_reducible refine And.intro ?_ ?_)
  all_goals first|trivial|exact qN (qE (by rfl))|exact qN (Fit.refl _)|exact qL (qK _)|skip
 ·rintro ⟨x,h1,h2,h3⟩
  cbv
  repeat' (first
   |with_reducible refine ua3 ?_ ?_
   |with_reducible refine And.intro ?_ ?_
   |(with_reducible intro hcd;(try simp only [zA,zB,zC,zD,zE,zF,zG,zH,zI,zJ,zK,zL,zM,zN,zO,zP]at hcd);try cbv)
   | (refine Or.inr ⟨true,?_⟩
      cbv
      refine qW ?_ (c86) (by cbv;(repeat' (first|exact qB|refine qD ?_ ?_|exact qE (by rfl)|exact qF (by rfl)|exact Fit.refl _|exact qA|refine qC ?_ rfl ?_))) (by cbv;(repeat' (first|exact qH|refine qI ?_ ?_|exact qK _|refine qJ ?_|exact qA|exact qE (by rfl)|exact qF (by rfl)|exact Fit.refl _|exact qG _|refine qC ?_ rfl ?_)))
      try cbv)
   | (obtain⟨L2,eL2⟩:∃y:List Int,y=o++[(x:Int)]:=⟨_,rfl⟩
      refine⟨ulF L2,?_⟩
      cbv
      refine ua3 (ucQ (L:=o) eL2 (by(first|rfl|((try simp only [qX]at *);(try simp only [zQ,zA,zB,zC,zD,zE,zF,zG,zH,zI,zJ,zK,zL,zM,zN,zO,zP,zR,zS]at *);done)|((try simp only [qX]at *);(try simp only [zQ,zA,zB,zC,zD,zE,zF,zG,zH,zI,zJ,zK,zL,zM,zN,zO,zP,zR,zS]at *);omega))) (by rfl) (fun ix=>Fit.refl _) (fun ix h=>qC (qE (by rfl)) rfl qA)  om) (Or.inr ⟨true,?_⟩)
      try cbv)
   |((rcases hcj:uay c.gs.length (okG c) k (o++[(x:Int)]) (x+1)with _|G)<;>(first|(refine⟨some [0,1,2],?_⟩;cbv;refine qR ?_ (ihN x  om  om L2 eL2 hcj) (by cbv;refine qD (ua1 (ugr eL2) (fun _ _ _=>Fit.refl _)) ?_;(repeat' (first|exact qB|refine qD ?_ ?_|exact qE (by rfl)|exact qF (by rfl)|exact Fit.refl _|exact qA|refine qC ?_ rfl ?_))) (by cbv;(repeat' (first|exact qH|refine qI ?_ ?_|exact qK _|refine qJ ?_|exact qA|exact qE (by rfl)|exact qF (by rfl)|exact Fit.refl _|exact qG _|refine qC ?_ rfl ?_)));(try cbv))|(refine⟨some [0,1,2],?_⟩;cbv;refine qR ?_ (ihY x  om  om G L2 eL2 hcj) (by cbv;refine qD (ua1 (ugr eL2) (fun _ _ _=>Fit.refl _)) ?_;(repeat' (first|exact qB|refine qD ?_ ?_|exact qE (by rfl)|exact qF (by rfl)|exact Fit.refl _|exact qA|refine qC ?_ rfl ?_))) (by cbv;(repeat' (first|exact qH|refine qI ?_ ?_|exact qK _|refine qJ ?_|exact qA|exact qE (by rfl)|exact qF (by rfl)|exact Fit.refl _|exact qG _|refine qC ?_ rfl ?_)));(try cbv))))
   |fail)
  all_goals first|trivial|((try simp only [qX]at *);(try simp only [zQ,zA,zB,zC,zD,zE,zF,zG,zH,zI,zJ,zK,zL,zM,zN,zO,zP,zR,zS]at *);first|(refine qO ?_;omega)|(simp only [uap];omega))|(subst hR;(repeat' (first|exact qA|exact qB|refine qC ?_ rfl ?_|refine qD ?_ ?_|exact qE (by rfl)|exact qF (by rfl)|exact Fit.refl _|exact qG _|(refine qE ?_;(try simp only [qX]at *);simp only [zQ,zA,zB,zC,zD,zE,zF,zG,zH,zI,zJ,zK,zL,zM,zN,zO,zP,zR,zS]at *;omega)));done)|(cases (uct (f:=(fun j=>uay c.gs.length (okG c) k (o++[(j:Int)]) (j+1))) (k:=c.gs.length+1-M-x) (i:=x)  om hcj).symm.trans h3;subst hB;(repeat' (first|exact qH|refine qI ?_ ?_|exact qK _|refine qJ ?_|exact qA|exact qE (by rfl)|exact qF (by rfl)|exact Fit.refl _|exact qG _|refine qC ?_ rfl ?_));done)|((have hz:c.gs.length+1-M-x=0:=by((try simp only [qX]at *);(try simp only [zQ,zA,zB,zC,zD,zE,zF,zG,zH,zI,zJ,zK,zL,zM,zN,zO,zP,zR,zS]at *);omega));rw [hz]at h3;cases h3;done)|((try simp only [zQ,zA,zB,zC,zD,zE,zF,zG,zH,zI,zJ,zK,zL,zM,zN,zO,zP,zR,zS]at *);refine⟨⟨x+1,by omega,by omega,by rw [show c.gs.length+1-M-(x+1)=c.gs.length+1-M-x-1 by omega];exact(udZ (f:=(fun j=>uay c.gs.length (okG c) k (o++[(j:Int)]) (j+1))) (k:=c.gs.length+1-M-x) (i:=x) (by omega) hcj).symm.trans h3⟩,by simp only [];omega,?_⟩;cbv;(repeat' (first|with_reducible refine ua3 ?_ ?_|with_reducible refine And.intro ?_ ?_));(all_goals first|trivial|exact qN (qE (by rfl))|exact qN (qF (by rfl))|exact qN (Fit.refl _)|exact qL (qK _)|(refine qN (qE ?_);(try simp only [qX]at *);simp only [zQ,zA,zB,zC,zD,zE,zF,zG,zH,zI,zJ,zK,zL,zM,zN,zO,zP,zR,zS]at *;omega)|(refine qL (qJ ?_);(repeat' (first|exact qA|exact qB|refine qC ?_ rfl ?_|refine qD ?_ ?_|exact qE (by rfl)|exact qF (by rfl)|exact Fit.refl _|exact qG _|(refine qE ?_;(try simp only [qX]at *);simp only [zQ,zA,zB,zC,zD,zE,zF,zG,zH,zI,zJ,zK,zL,zM,zN,zO,zP,zR,zS]at *;omega)));done)|skip))|skip
set_option maxHeartbeats 1000000 in
theorem uxp (c:Clr)(o:List Int)(i k M:Nat)(hc:COk c)(ho:o.length≤i)(hM:M=k+1)(him:i+M≤c.gs.length)(hch:ubL (fun j=>uay c.gs.length (okG c) k (o++[(j:Int)]) (j+1)) (c.gs.length+1-M-i) i=none)(ih:∀(j:Nat),i≤j→j+M≤c.gs.length→(∀F L:List Int,L=o++[(j:Int)]→uay c.gs.length (okG c) k (o++[(j:Int)]) (j+1)=some F→ua0 Try.prog 82 [(iS L),(iv fun _=>zi j+1),(iv fun _=>zi M-1),.own 0 0,.own 1 0,.own 2 0] [.cells [(caS c.cs),(mvS c.mv),(gaS c.gs)] 36,.cells [.any] 62,.cells [.clo 82 [] [.own 0 0,.own 1 0,.own 2 0]] 148] (fun r bs=>r=(bv fun _=>true)∧bs=[.cells [(caS c.cs),(mvS c.mv),(gaS c.gs)] 36,.cells [(iS F)] 62,.cells [.clo 82 [] [.own 0 0,.own 1 0,.own 2 0]] 148]))∧(∀L:List Int,L=o++[(j:Int)]→uay c.gs.length (okG c) k (o++[(j:Int)]) (j+1)=none→ua0 Try.prog 82 [(iS L),(iv fun _=>zi j+1),(iv fun _=>zi M-1),.own 0 0,.own 1 0,.own 2 0] [.cells [(caS c.cs),(mvS c.mv),(gaS c.gs)] 36,.cells [.any] 62,.cells [.clo 82 [] [.own 0 0,.own 1 0,.own 2 0]] 148] (fun r bs=>r=(bv fun _=>false)∧bs=[.cells [(caS c.cs),(mvS c.mv),(gaS c.gs)] 36,.cells [.any] 62,.cells [.clo 82 [] [.own 0 0,.own 1 0,.own 2 0]] 148]))):ua0 Try.prog 82 [(iS o),(iv fun _=>zi i),(iv fun _=>zi M),.own 0 0,.own 1 0,.own 2 0] [.cells [(caS c.cs),(mvS c.mv),(gaS c.gs)] 36,.cells [.any] 62,.cells [.clo 82 [] [.own 0 0,.own 1 0,.own 2 0]] 148] (fun r bs=>r=(bv fun _=>false)∧bs=[.cells [(caS c.cs),(mvS c.mv),(gaS c.gs)] 36,.cells [.any] 62,.cells [.clo 82 [] [.own 0 0,.own 1 0,.own 2 0]] 148]):=by
 have c86:=unx o (by have:=hc.g6;omega)
 have ihY:=fun (j:Nat) h h1=>(ih j h h1).1
 have ihN:=fun (j:Nat) h h1=>(ih j h h1).2
 refine ua0.isB rfl fun R B hR hB=>qY (sc:=uvK) uas mix Try.func82 rfl Try.call82 (by kernel_rfl) (by kernel_rfl) ?_
 generalize Try.prog=P at c86 ihY ihN⊢
 cbv
 have hfew:=hc.g6
 repeat' (first|with_reducible refine And.intro ?_ ?_|(with_reducible intro hcd;(try simp only [zA,zB,zC,zD,zE,zF,zG,zH,zI,zJ,zK,zL,zM,zN,zO,zP]at hcd);try cbv)|fail)
 all_goals first|(exfalso;(try simp only [qX]at *);(try simp only [zQ,zA,zB,zC,zD,zE,zF,zG,zH,zI,zJ,zK,zL,zM,zN,zO,zP,zR,zS]at *);omega)|skip
 refine⟨none,[],{x:Nat // i≤x∧x+M≤c.gs.length+1∧ubL (fun j=>uay c.gs.length (okG c) k (o++[(j:Int)]) (j+1)) (c.gs.length+1-M-x) x=none},fun x=>⟨[(0,(iS o)),(2,(iv fun _=>zi M)),(3,.own 0 0),(4,.own 1 0),(5,.own 2 0),(13,(iv fun _=>zi x.1))],[(0,.cells [(caS c.cs),(mvS c.mv),(gaS c.gs)] 36),(1,.cells [.any] 62),(2,.cells [.clo 82 [] [.own 0 0,.own 1 0,.own 2 0]] 148)],40⟩,fun x=>c.gs.length+1-x.1,?_,?_⟩
 ·refine⟨⟨i,by omega,by omega,hch⟩,?_⟩
  cbv
  repeat' (first|with_reducible refine ua3 ?_ ?_|with_reducible refine And.intro ?_ ?_)
  all_goals first|trivial|exact qN (qE (by rfl))|exact qN (Fit.refl _)|exact qL (qK _)|skip
 ·rintro ⟨x,h1,h2,h3⟩
  cbv
  repeat' (first
   |with_reducible refine ua3 ?_ ?_
   |with_reducible refine And.intro ?_ ?_
   |(with_reducible intro hcd;(try simp only [zA,zB,zC,zD,zE,zF,zG,zH,zI,zJ,zK,zL,zM,zN,zO,zP]at hcd);try cbv)
   | (refine Or.inr ⟨true,?_⟩
      cbv
      refine qW ?_ (c86) (by cbv;(repeat' (first|exact qB|refine qD ?_ ?_|exact qE (by rfl)|exact qF (by rfl)|exact Fit.refl _|exact qA|refine qC ?_ rfl ?_))) (by cbv;(repeat' (first|exact qH|refine qI ?_ ?_|exact qK _|refine qJ ?_|exact qA|exact qE (by rfl)|exact qF (by rfl)|exact Fit.refl _|exact qG _|refine qC ?_ rfl ?_)))
      try cbv)
   | (obtain⟨L2,eL2⟩:∃y:List Int,y=o++[(x:Int)]:=⟨_,rfl⟩
      refine⟨ulF L2,?_⟩
      cbv
      refine ua3 (ucQ (L:=o) eL2 (by(first|rfl|((try simp only [qX]at *);(try simp only [zQ,zA,zB,zC,zD,zE,zF,zG,zH,zI,zJ,zK,zL,zM,zN,zO,zP,zR,zS]at *);done)|((try simp only [qX]at *);(try simp only [zQ,zA,zB,zC,zD,zE,zF,zG,zH,zI,zJ,zK,zL,zM,zN,zO,zP,zR,zS]at *);omega))) (by rfl) (fun ix=>Fit.refl _) (fun ix h=>qC (qE (by rfl)) rfl qA)  om) (Or.inr ⟨true,?_⟩)
      try cbv)
   |((rcases hcj:uay c.gs.length (okG c) k (o++[(x:Int)]) (x+1)with _|G)<;>(first|(refine⟨some [0,1,2],?_⟩;cbv;refine qR ?_ (ihN x  om  om L2 eL2 hcj) (by cbv;refine qD (ua1 (ugr eL2) (fun _ _ _=>Fit.refl _)) ?_;(repeat' (first|exact qB|refine qD ?_ ?_|exact qE (by rfl)|exact qF (by rfl)|exact Fit.refl _|exact qA|refine qC ?_ rfl ?_))) (by cbv;(repeat' (first|exact qH|refine qI ?_ ?_|exact qK _|refine qJ ?_|exact qA|exact qE (by rfl)|exact qF (by rfl)|exact Fit.refl _|exact qG _|refine qC ?_ rfl ?_)));(try cbv))|(refine⟨some [0,1,2],?_⟩;cbv;refine qR ?_ (ihY x  om  om G L2 eL2 hcj) (by cbv;refine qD (ua1 (ugr eL2) (fun _ _ _=>Fit.refl _)) ?_;(repeat' (first|exact qB|refine qD ?_ ?_|exact qE (by rfl)|exact qF (by rfl)|exact Fit.refl _|exact qA|refine qC ?_ rfl ?_))) (by cbv;(repeat' (first|exact qH|refine qI ?_ ?_|exact qK _|refine qJ ?_|exact qA|exact qE (by rfl)|exact qF (by rfl)|exact Fit.refl _|exact qG _|refine qC ?_ rfl ?_)));(try cbv))))
   |fail)
  all_goals first|trivial|((try simp only [qX]at *);(try simp only [zQ,zA,zB,zC,zD,zE,zF,zG,zH,zI,zJ,zK,zL,zM,zN,zO,zP,zR,zS]at *);first|(refine qO ?_;omega)|(simp only [uap];omega))|(subst hR;(repeat' (first|exact qA|exact qB|refine qC ?_ rfl ?_|refine qD ?_ ?_|exact qE (by rfl)|exact qF (by rfl)|exact Fit.refl _|exact qG _|(refine qE ?_;(try simp only [qX]at *);simp only [zQ,zA,zB,zC,zD,zE,zF,zG,zH,zI,zJ,zK,zL,zM,zN,zO,zP,zR,zS]at *;omega)));done)|(subst hB;(repeat' (first|exact qH|refine qI ?_ ?_|exact qK _|refine qJ ?_|exact qA|exact qE (by rfl)|exact qF (by rfl)|exact Fit.refl _|exact qG _|refine qC ?_ rfl ?_));done)|(cases (uct (f:=(fun j=>uay c.gs.length (okG c) k (o++[(j:Int)]) (j+1))) (k:=c.gs.length+1-M-x) (i:=x)  om hcj).symm.trans h3;done)|((try simp only [zQ,zA,zB,zC,zD,zE,zF,zG,zH,zI,zJ,zK,zL,zM,zN,zO,zP,zR,zS]at *);refine⟨⟨x+1,by omega,by omega,by rw [show c.gs.length+1-M-(x+1)=c.gs.length+1-M-x-1 by omega];exact(udZ (f:=(fun j=>uay c.gs.length (okG c) k (o++[(j:Int)]) (j+1))) (k:=c.gs.length+1-M-x) (i:=x) (by omega) hcj).symm.trans h3⟩,by simp only [];omega,?_⟩;cbv;(repeat' (first|with_reducible refine ua3 ?_ ?_|with_reducible refine And.intro ?_ ?_));(all_goals first|trivial|exact qN (qE (by rfl))|exact qN (qF (by rfl))|exact qN (Fit.refl _)|exact qL (qK _)|(refine qN (qE ?_);(try simp only [qX]at *);simp only [zQ,zA,zB,zC,zD,zE,zF,zG,zH,zI,zJ,zK,zL,zM,zN,zO,zP,zR,zS]at *;omega)|(refine qL (qJ ?_);(repeat' (first|exact qA|exact qB|refine qC ?_ rfl ?_|refine qD ?_ ?_|exact qE (by rfl)|exact qF (by rfl)|exact Fit.refl _|exact qG _|(refine qE ?_;(try simp only [qX]at *);simp only [zQ,zA,zB,zC,zD,zE,zF,zG,zH,zI,zJ,zK,zL,zM,zN,zO,zP,zR,zS]at *;omega)));done)|skip))|skip
theorem uqq (c:Clr)(hc:COk c):∀(m:Nat) (o:List Int) (i:Nat) (ie me:Int),ie=(i:Int)→me=(m:Int)→o.length≤i→i+m≤c.gs.length →
 (∀F:List Int,uay c.gs.length (okG c) m o i=some F→ua0 Try.prog 82 [(iS o),(iv fun _=>ie),(iv fun _=>me),.own 0 0,.own 1 0,.own 2 0] [.cells [(caS c.cs),(mvS c.mv),(gaS c.gs)] 36,.cells [.any] 62,.cells [.clo 82 [] [.own 0 0,.own 1 0,.own 2 0]] 148] (fun r bs=>r=(bv fun _=>true)∧bs=[.cells [(caS c.cs),(mvS c.mv),(gaS c.gs)] 36,.cells [(iS F)] 62,.cells [.clo 82 [] [.own 0 0,.own 1 0,.own 2 0]] 148]))∧(uay c.gs.length (okG c) m o i=none→ua0 Try.prog 82 [(iS o),(iv fun _=>ie),(iv fun _=>me),.own 0 0,.own 1 0,.own 2 0] [.cells [(caS c.cs),(mvS c.mv),(gaS c.gs)] 36,.cells [.any] 62,.cells [.clo 82 [] [.own 0 0,.own 1 0,.own 2 0]] 148] (fun r bs=>r=(bv fun _=>false)∧bs=[.cells [(caS c.cs),(mvS c.mv),(gaS c.gs)] 36,.cells [.any] 62,.cells [.clo 82 [] [.own 0 0,.own 1 0,.own 2 0]] 148])):=by
 intro m
 induction m with
 | zero=>
  intro o i ie me hie hme ho him
  have hn:=hc.g6
  have hm0:me=0:=by omega
  subst hm0
  constructor
  ·intro F hF
   simp only [uay]at hF
   split at hF
   ·rename_i h;cases hF;exact uwl c o ie hc (by omega) h
   ·cases hF
  ·intro hF
   simp only [uay]at hF
   split at hF
   ·cases hF
   ·rename_i h;exact uxB c o ie hc (by omega) (by simpa using h)
 | succ k ih=>
  intro o i ie me hie hme ho him
  have ih':∀(j:Nat) (L:List Int),L=o++[(j:Int)]→i≤j→j+(k+1)≤c.gs.length→_:=fun j L hL hj hjm=>ih L (j+1) (zi j+1) (zi (k+1)-1) (by simp only [uaw];omega) (by simp only [uaw];omega) (by subst hL;simp only [List.length_append,List.length_cons,List.length_nil];omega) (by omega)
  subst hie
  subst hme
  constructor
  ·intro F hF
   exact umb c o i k (k+1) F hc ho rfl him (by rw [show c.gs.length+1-(k+1)-i=c.gs.length-k-i by omega];exact hF) fun j h1 h2=>⟨fun F L hL hc=>(ih' j L hL h1 h2).1 F (by rw [hL];exact hc),fun L hL hc=>(ih' j L hL h1 h2).2 (by rw [hL];exact hc)⟩
  ·intro hF
   exact uxp c o i k (k+1) hc ho rfl him (by rw [show c.gs.length+1-(k+1)-i=c.gs.length-k-i by omega];exact hF) fun j h1 h2=>⟨fun F L hL hc=>(ih' j L hL h1 h2).1 F (by rw [hL];exact hc),fun L hL hc=>(ih' j L hL h1 h2).2 (by rw [hL];exact hc)⟩
end Go.Proofs.Ytpkgnhcfmpbidaa

namespace Go.Proofs.Ytpkgnhcfmpbidaa
open Go Go.Eng Go.Proofs Go.Eng.Ck Go.Eng.Few
set_option maxRecDepth 10000
theorem upF (c:Clr)(hw:ucP c=0):ua0 Try.prog 40 [(.agg [(caS c.cs),(mvS c.mv),(gaS c.gs)])] [] (fun r _=>r=(.tup [(iS (uvp c)),(iv fun _=>0)])):=by
 have c81:=unB c
 have c82:=uqq c (ufT hw).1
 have hC:=(ufT hw).1
 have hg6:=hC.g6
 have hch:utJ c.gs.length (okG c)=some (uvp c):=uqC (by rw [usO hC];exact(ufT hw).2)
 unfold utJ at hch
 obtain⟨L9,hL9⟩:∃l,l=uvp c:=⟨_,rfl⟩
 rw [←hL9]at hch⊢
 clear hL9
 refine ua0.is fun R hR=>qY (sc:=uyt) uas mix Try.func40 rfl Try.call40 (by kernel_rfl) (by kernel_rfl) ?_
 generalize Try.prog=P at c81 c82⊢
 cbv
 repeat' (first|with_reducible refine ua3 ?_ ?_|with_reducible refine And.intro ?_ ?_|(with_reducible intro hcd;(try simp only [zA,zB,zC,zD,zE,zF,zG,zH,zI,zJ,zK,zL,zM,zN,zO,zP]at hcd);try cbv)|(refine qQ ?_ (c81) ?hfit;(case hfit=>((repeat' (first|exact qB|refine qD ?_ ?_|exact qE (by rfl)|exact qF (by rfl)|exact Fit.refl _|exact qA|refine qC ?_ rfl ?_));done));try cbv)|fail)
 all_goals first|trivial|((try simp only [qX]at *);(try simp only [zQ,zA,zB,zC,zD,zE,zF,zG,zH,zI,zJ,zK,zL,zM,zN,zO,zP,zR,zS]at *);first|(refine qO ?_;omega)|(simp only [uap];omega))|skip
 refine⟨none,[],{x:Nat // x≤c.gs.length+1∧ubL (fun m=>uay c.gs.length (okG c) m [] 0) (c.gs.length+1-x) x=some L9},fun x=>⟨[(1,.own 0 0),(5,.own 8 0),(6,.own 9 0),(17,(iv fun _=>zi c.gs.length+1)),(18,(iv fun _=>zi x.1))],[(0,.cells [(caS c.cs),(mvS c.mv),(gaS c.gs)] 36),(8,.cells [.any] 62),(9,.cells [.clo 82 [] [.own 0 0,.own 8 0,.own 9 0]] 148)],60⟩,fun x=>c.gs.length+1-x.1,?_,?_⟩
 ·refine⟨⟨0,by omega,hch⟩,?_⟩
  cbv
  repeat' (first|with_reducible refine ua3 ?_ ?_|with_reducible refine And.intro ?_ ?_)
  all_goals first|trivial|exact qN (qE (by rfl))|exact qN (Fit.refl _)|exact qL (qK _)|(refine qL (qJ ?_);(repeat' (first|exact qA|exact qB|refine qC ?_ rfl ?_|refine qD ?_ ?_|exact qE (by rfl)|exact qF (by rfl)|exact Fit.refl _|exact qG _|(refine qE ?_;(try simp only [qX]at *);simp only [zQ,zA,zB,zC,zD,zE,zF,zG,zH,zI,zJ,zK,zL,zM,zN,zO,zP,zR,zS]at *;omega)));done)|skip
 ·rintro⟨x,h2,h3⟩
  cbv
  repeat' (first|with_reducible refine ua3 ?_ ?_|with_reducible refine And.intro ?_ ?_|(with_reducible intro hcd;(try simp only [zA,zB,zC,zD,zE,zF,zG,zH,zI,zJ,zK,zL,zM,zN,zO,zP]at hcd);try cbv)|((rcases hcj:uay c.gs.length (okG c) x [] 0 with _|G)<;>(first|(refine⟨some [0,8,9],?_⟩;cbv;refine qR ?_ ((c82 x [] 0 0 (zi x) rfl (by simp only [uaw]) (by simp)  om).2 hcj) (by cbv;refine qD (qP rfl) ?_;(repeat' (first|exact qB|refine qD ?_ ?_|exact qE (by rfl)|exact qF (by rfl)|exact Fit.refl _|exact qA|refine qC ?_ rfl ?_))) (by cbv;(repeat' (first|exact qH|refine qI ?_ ?_|exact qK _|refine qJ ?_|exact qA|exact qE (by rfl)|exact qF (by rfl)|exact Fit.refl _|exact qG _|refine qC ?_ rfl ?_)));(try cbv))|(refine⟨some [0,8,9],?_⟩;cbv;refine qR ?_ ((c82 x [] 0 0 (zi x) rfl (by simp only [uaw]) (by simp)  om).1 G hcj) (by cbv;refine qD (qP rfl) ?_;(repeat' (first|exact qB|refine qD ?_ ?_|exact qE (by rfl)|exact qF (by rfl)|exact Fit.refl _|exact qA|refine qC ?_ rfl ?_))) (by cbv;(repeat' (first|exact qH|refine qI ?_ ?_|exact qK _|refine qJ ?_|exact qA|exact qE (by rfl)|exact qF (by rfl)|exact Fit.refl _|exact qG _|refine qC ?_ rfl ?_)));(try cbv))))|fail)
  all_goals first|trivial|((try simp only [qX]at *);(try simp only [zQ,zA,zB,zC,zD,zE,zF,zG,zH,zI,zJ,zK,zL,zM,zN,zO,zP,zR,zS]at *);first|(refine qO ?_;omega)|(simp only [uap];omega))|((have e:=Option.some.inj ((uct (f:=fun m=>uay c.gs.length (okG c) m [] 0) (k:=c.gs.length+1-x) (i:=x)  om hcj).symm.trans h3));subst hR;rw [←e];exact qD (Fit.refl _) (qD (qE rfl) qB))|((have hz:c.gs.length+1-x=0:=by((try simp only [qX]at *);(try simp only [zQ,zA,zB,zC,zD,zE,zF,zG,zH,zI,zJ,zK,zL,zM,zN,zO,zP,zR,zS]at *);omega));rw [hz]at h3;cases h3;done)|((try simp only [zQ,zA,zB,zC,zD,zE,zF,zG,zH,zI,zJ,zK,zL,zM,zN,zO,zP,zR,zS]at *);refine⟨⟨x+1,by omega,by rw [show c.gs.length+1-(x+1)=c.gs.length+1-x-1 by omega];exact(udZ (f:=fun m=>uay c.gs.length (okG c) m [] 0) (k:=c.gs.length+1-x) (i:=x) (by omega) hcj).symm.trans h3⟩,by simp only [];omega,?_⟩;cbv;(repeat' (first|with_reducible refine ua3 ?_ ?_|with_reducible refine And.intro ?_ ?_));(all_goals first|trivial|exact qN (qE (by rfl))|exact qN (qF (by rfl))|exact qN (Fit.refl _)|exact qL (qK _)|(refine qN (qE ?_);(try simp only [qX]at *);simp only [zQ,zA,zB,zC,zD,zE,zF,zG,zH,zI,zJ,zK,zL,zM,zN,zO,zP,zR,zS]at *;omega)|(refine qL (qJ ?_);(repeat' (first|exact qA|exact qB|refine qC ?_ rfl ?_|refine qD ?_ ?_|exact qE (by rfl)|exact qF (by rfl)|exact Fit.refl _|exact qG _|(refine qE ?_;(try simp only [qX]at *);simp only [zQ,zA,zB,zC,zD,zE,zF,zG,zH,zI,zJ,zK,zL,zM,zN,zO,zP,zR,zS]at *;omega)));done)|skip))|skip
end Go.Proofs.Ytpkgnhcfmpbidaa

namespace Go.Proofs.Ytpkgnhcfmpbidaa
open Go Go.Eng Go.Proofs Go.Eng.Ck Go.Eng.Few
set_option maxRecDepth 10000
def ofK (c:Clr)(s k:List Int)(i:Nat):Bool:=inB (c.cs.getD i k0).sl (s.getD i 0) (c.cs.getD i k0).sh&&inB (c.cs.getD i k0).kl (k.getD i 0) (c.cs.getD i k0).kh
def ofM (c:Clr)(m:List Int)(i:Nat):Bool:=inB (c.mv.getD i v0).ql (m.getD i 0) (c.mv.getD i v0).qh
def ofP (c:Clr)(s k m:List Int):Prop:=(s.length=c.cs.length∧k.length=c.cs.length∧m.length=c.mv.length)∧(∀i,i<c.cs.length→ofK c s k i=true)∧∀i,i<c.mv.length→ofM c m i=true
open Classical in
noncomputable def ofT (c:Clr) (s k m:List Int):Bool:=decide (ofP c s k m)
theorem urG {c:Clr} {s k m:List Int}:ofT c s k m=true↔ofP c s k m:=by unfold ofT;exact @decide_eq_true_iff _ (Classical.propDecidable _)
theorem utn {c:Clr} {s k m:List Int}(h:¬ofP c s k m):ofT c s k m=false:=by unfold ofT;exact @decide_eq_false _ (Classical.propDecidable _) h
set_option maxHeartbeats 4000000 in
theorem uyW (c:Clr)(s k m:List Int)(hC:COk c):ua0 Try.prog 88 [(.agg [(caS c.cs),(mvS c.mv),(gaS c.gs)]),(.agg [(iS s),(iS k),(iS m)])] [] (fun r _=>r=(bv fun _=>ofT c s k m)):=by
 have c92:= @uwy
 have hc3:=hC.c3
 have hm4:=hC.m4
 refine ua0.is fun R hR=>qY (sc:=uz7) uas mix Try.func88 rfl Try.call88 (by kernel_rfl) (by kernel_rfl) ?_
 generalize Try.prog=P at c92 hc3 hm4⊢
 cbv
 repeat' (first|with_reducible refine And.intro ?_ ?_|(with_reducible intro hcd;(try simp only [zA,zB,zC,zD,zE,zF,zG,zH,zI,zJ,zK,zL,zM,zN,zO,zP]at hcd);try cbv)|fail)
 all_goals first|(subst hR;refine qF ?_;refine(utn (fun q=> ?_)).symm;(have q1:=q.1);(try simp only [qX]at *);(try simp only [zQ,zA,zB,zC,zD,zE,zF,zG,zH,zI,zJ,zK,zL,zM,zN,zO,zP,zR,zS]at *);omega)|skip
 have hlen:s.length=c.cs.length∧k.length=c.cs.length∧m.length=c.mv.length:=by((try simp only [qX]at *);(try simp only [zQ,zA,zB,zC,zD,zE,zF,zG,zH,zI,zJ,zK,zL,zM,zN,zO,zP,zR,zS]at *);omega)
 refine⟨none,[],{x:Nat // x≤c.cs.length∧∀y,y<x→ofK c s k y=true},fun x=>⟨[(2,.own 0 0),(3,.own 1 0),(35,(caS c.cs)),(36,(iv fun _=>zi c.cs.length)),(37,(iv fun _=>zi x.1))],[(0,.cells [(caS c.cs),(mvS c.mv),(gaS c.gs)] 36),(1,.cells [(iS s),(iS k),(iS m)] 93)],60⟩,fun x=>c.cs.length-x.1,?_,?_⟩
 ·refine⟨⟨0,by omega,fun y hy=>by omega⟩,?_⟩
  cbv
  repeat' (first|with_reducible refine ua3 ?_ ?_|with_reducible refine And.intro ?_ ?_)
  all_goals first|trivial|exact qN (qE (by rfl))|exact qN (Fit.refl _)|exact qL (qK _)|skip
 ·rintro ⟨i,hi,hk0⟩
  cbv
  try dsimp only at hi hk0
  repeat' (first|with_reducible refine ua3 ?_ ?_|with_reducible refine And.intro ?_ ?_|(with_reducible intro hcd;(try simp only [zA,zB,zC,zD,zE,zF,zG,zH,zI,zJ,zK,zL,zM,zN,zO,zP]at hcd);try cbv)|(refine qQ ?_ ((c92 (c.cs.getD i k0).sl (c.cs.getD i k0).sh (s.getD i 0))) ?hfit;(case hfit=>((repeat' (first|exact qB|refine qD ?_ ?_|exact qE (by rfl)|exact qF (by rfl)|exact Fit.refl _|exact qA|refine qC ?_ rfl ?_));done));try cbv)|(refine qQ ?_ ((c92 (c.cs.getD i k0).kl (c.cs.getD i k0).kh (k.getD i 0))) ?hfit;(case hfit=>((repeat' (first|exact qB|refine qD ?_ ?_|exact qE (by rfl)|exact qF (by rfl)|exact Fit.refl _|exact qA|refine qC ?_ rfl ?_));done));try cbv)|fail)
  all_goals first|((try simp only [qX]at *);(try simp only [zQ,zA,zB,zC,zD,zE,zF,zG,zH,zI,zJ,zK,zL,zM,zN,zO,zP,zR,zS]at *);first|(refine qO ?_;omega)|(simp only [uap];omega))|((have hi9:i<c.cs.length:=by(try simp only [qX]at *);(try simp only [zQ,zA,zB,zC,zD,zE,zF,zG,zH,zI,zJ,zK,zL,zM,zN,zO,zP,zR,zS]at *);omega);subst hR;refine qF ?_;refine(utn (fun q=> ?_)).symm;(have e9:=q.2.1 i hi9);unfold ofK at e9;simp_all;done)|((try simp only [zQ,zA,zB,zC,zD,zE,zF,zG,zH,zI,zJ,zK,zL,zM,zN,zO,zP,zR,zS]at *);refine⟨⟨i+1,by((try simp only [qX]at *);(try simp only [zQ,zA,zB,zC,zD,zE,zF,zG,zH,zI,zJ,zK,zL,zM,zN,zO,zP,zR,zS]at *);omega),fun y hy=>by(rcases Nat.lt_or_ge y i with r|r;exact hk0 y r;(have e9:y=i:=by omega);subst e9;unfold ofK;simp_all)⟩,by simp only [];omega,?_⟩;cbv;(repeat' (first|with_reducible refine ua3 ?_ ?_|with_reducible refine And.intro ?_ ?_));(all_goals first|trivial|exact qN (qE (by rfl))|exact qN (qF (by rfl))|exact qN (Fit.refl _)|exact qL (qK _)|(refine qN (qE ?_);(try simp only [qX]at *);simp only [zQ,zA,zB,zC,zD,zE,zF,zG,zH,zI,zJ,zK,zL,zM,zN,zO,zP,zR,zS]at *;omega)|(refine qL (qJ ?_);(repeat' (first|exact qA|exact qB|refine qC ?_ rfl ?_|refine qD ?_ ?_|exact qE (by rfl)|exact qF (by rfl)|exact Fit.refl _|exact qG _|(refine qE ?_;(try simp only [qX]at *);simp only [zQ,zA,zB,zC,zD,zE,zF,zG,zH,zI,zJ,zK,zL,zM,zN,zO,zP,zR,zS]at *;omega)));done)|skip))|skip
  have hk:∀y,y<c.cs.length→ofK c s k y=true:=fun y hy=>hk0 y  om
  refine⟨none,[],{x:Nat // x≤c.mv.length∧∀y,y<x→ofM c m y=true},fun x=>⟨[(2,.own 0 0),(3,.own 1 0),(64,(mvS c.mv)),(65,(iv fun _=>zi c.mv.length)),(66,(iv fun _=>zi x.1))],[(0,.cells [(caS c.cs),(mvS c.mv),(gaS c.gs)] 36),(1,.cells [(iS s),(iS k),(iS m)] 93)],90⟩,fun x=>c.mv.length-x.1,?_,?_⟩
  ·refine⟨⟨0,by omega,fun y hy=>by omega⟩,?_⟩
   cbv
   repeat' (first|with_reducible refine ua3 ?_ ?_|with_reducible refine And.intro ?_ ?_)
   all_goals first|trivial|exact qN (qE (by rfl))|exact qN (Fit.refl _)|exact qL (qK _)|skip
  ·rintro ⟨i,hi,hm⟩
   cbv
   try dsimp only at hi hm
   repeat' (first|with_reducible refine ua3 ?_ ?_|with_reducible refine And.intro ?_ ?_|(with_reducible intro hcd;(try simp only [zA,zB,zC,zD,zE,zF,zG,zH,zI,zJ,zK,zL,zM,zN,zO,zP]at hcd);try cbv)|(refine qQ ?_ ((c92 (c.mv.getD i v0).ql (c.mv.getD i v0).qh (m.getD i 0))) ?hfit;(case hfit=>((repeat' (first|exact qB|refine qD ?_ ?_|exact qE (by rfl)|exact qF (by rfl)|exact Fit.refl _|exact qA|refine qC ?_ rfl ?_));done));try cbv)|fail)
   all_goals first|((try simp only [qX]at *);(try simp only [zQ,zA,zB,zC,zD,zE,zF,zG,zH,zI,zJ,zK,zL,zM,zN,zO,zP,zR,zS]at *);first|(refine qO ?_;omega)|(simp only [uap];omega))|((have hi9:i<c.mv.length:=by(try simp only [qX]at *);(try simp only [zQ,zA,zB,zC,zD,zE,zF,zG,zH,zI,zJ,zK,zL,zM,zN,zO,zP,zR,zS]at *);omega);subst hR;refine qF ?_;refine(utn (fun q=> ?_)).symm;(have e9:=q.2.2 i hi9);unfold ofM at e9;simp_all;done)|((have hi9:i=c.mv.length:=by(try simp only [qX]at *);(try simp only [zQ,zA,zB,zC,zD,zE,zF,zG,zH,zI,zJ,zK,zL,zM,zN,zO,zP,zR,zS]at *);omega);subst hR;refine qF ?_;exact(urG.2 ⟨hlen,hk,fun y hy=>hm y (by omega)⟩).symm)|((try simp only [zQ,zA,zB,zC,zD,zE,zF,zG,zH,zI,zJ,zK,zL,zM,zN,zO,zP,zR,zS]at *);refine⟨⟨i+1,by((try simp only [qX]at *);(try simp only [zQ,zA,zB,zC,zD,zE,zF,zG,zH,zI,zJ,zK,zL,zM,zN,zO,zP,zR,zS]at *);omega),fun y hy=>by(rcases Nat.lt_or_ge y i with r|r;exact hm y r;(have e9:y=i:=by omega);subst e9;unfold ofM;assumption)⟩,by simp only [];omega,?_⟩;cbv;(repeat' (first|with_reducible refine ua3 ?_ ?_|with_reducible refine And.intro ?_ ?_));(all_goals first|trivial|exact qN (qE (by rfl))|exact qN (qF (by rfl))|exact qN (Fit.refl _)|exact qL (qK _)|(refine qN (qE ?_);(try simp only [qX]at *);simp only [zQ,zA,zB,zC,zD,zE,zF,zG,zH,zI,zJ,zK,zL,zM,zN,zO,zP,zR,zS]at *;omega)|(refine qL (qJ ?_);(repeat' (first|exact qA|exact qB|refine qC ?_ rfl ?_|refine qD ?_ ?_|exact qE (by rfl)|exact qF (by rfl)|exact Fit.refl _|exact qG _|(refine qE ?_;(try simp only [qX]at *);simp only [zQ,zA,zB,zC,zD,zE,zF,zG,zH,zI,zJ,zK,zL,zM,zN,zO,zP,zR,zS]at *;omega)));done)|skip))|skip
end Go.Proofs.Ytpkgnhcfmpbidaa

namespace Go.Proofs.Ytpkgnhcfmpbidaa
open Go Go.Eng Go.Proofs Go.Eng.Ck Go.Eng.Few
set_option maxRecDepth 10000
theorem utf (T N:Nat)(a b:Nat→Int)(hN:1≤N):ua0 Try.prog 76 [(.sl 2 (.sym fun _=>zi T) (fun ix=>[(iv fun _=>a ix.den.toNat),(iv fun _=>b ix.den.toNat)])),(iv fun _=>zi N)] [] (fun r _=>r = .clo 108 [] [.pp 0 [(.sl 2 (.sym fun _=>zi T) (fun ix=>[(iv fun _=>a ix.den.toNat),(iv fun _=>b ix.den.toNat)]))],.pp 0 [(iv fun _=>zi N)]]):=by
 refine ua0.is fun R hR=>qY (sc:=uyU) uas mix Try.func76 rfl Try.call76 (by kernel_rfl) (by kernel_rfl) ?_
 generalize Try.prog=P
 cbv
 repeat' (first|with_reducible refine And.intro ?_ ?_|(with_reducible intro hcd;(try simp only [zA,zB,zC,zD,zE,zF,zG,zH,zI,zJ,zK,zL,zM,zN,zO,zP]at hcd);try cbv)|fail)
 all_goals first|(subst hR;(repeat' (first|exact qA|exact qB|refine qC ?_ rfl ?_|refine qD ?_ ?_|exact qE (by rfl)|exact qF (by rfl)|exact Fit.refl _|exact qG _|(refine qE ?_;(try simp only [qX]at *);simp only [zQ,zA,zB,zC,zD,zE,zF,zG,zH,zI,zJ,zK,zL,zM,zN,zO,zP,zR,zS]at *;omega)));done)|(exfalso;(try simp only [qX]at *);(try simp only [zQ,zA,zB,zC,zD,zE,zF,zG,zH,zI,zJ,zK,zL,zM,zN,zO,zP,zR,zS]at *);omega)|skip
end Go.Proofs.Ytpkgnhcfmpbidaa

namespace Go.Proofs.Ytpkgnhcfmpbidaa
open Go Go.Eng Go.Proofs Go.Eng.Ck Go.Eng.Few
set_option maxRecDepth 10000
theorem uqn (c:Clr)(w lk:Int)(q:Nat→Int)(hm:c.mv.length≤4)(hq:∀j,0≤q j∧q j≤1000)(hl:0≤lk∧lk≤4):uaU Try.prog 89 [(.agg [(caS c.cs),(mvS c.mv),(gaS c.gs)]),(iv fun _=>w),(iv fun _=>lk),(.agg [(.arr 4 (fun ix=>(iv fun _=>q ix.den.toNat)))])] [] (fun r bs=>r = .row 0∧bs=[.row 3 1 (.sym fun _=>zi (c.mv.length+1)) (fun ix=>[(iv fun _=>gN c.mv q w lk ix.den.toNat)])]):=by
 refine uaU.is rfl rfl fun R B hR hB=>ud3 (sc:=uxJ) uas mix Try.func89 rfl Try.call89 (by kernel_rfl) (by kernel_rfl) ?_
 generalize Try.prog=P
 cbv
 repeat' (first|fail)
 all_goals first|skip
 refine⟨none,[],{i:Nat // i≤c.mv.length},fun x=>⟨[(1,(iv fun _=>w)),(2,(iv fun _=>lk)),(4,.own 0 0),(7,.own 1 0),(9,.row 3),(15,(mvS c.mv)),(16,(iv fun _=>zi c.mv.length)),(17,(iv fun _=>zi x.1))],[(0,.cells [(caS c.cs),(mvS c.mv),(gaS c.gs)] 36),(1,.cells [(.arr 4 (fun ix=>(iv fun _=>q ix.den.toNat)))] 154),(3,.row 3 1 (.sym fun _=>zi (x.1+1)) (fun ix=>[(iv fun _=>gN c.mv q w lk ix.den.toNat)]))],60⟩,fun x=>c.mv.length-x.1,?_,?_⟩
 ·refine⟨⟨0,by omega⟩,?_⟩
  cbv
  repeat' (first|with_reducible refine ua3 ?_ ?_|with_reducible refine And.intro ?_ ?_)
  all_goals first|trivial|exact qN (qE (by rfl))|exact qN (Fit.refl _)|exact qL (qK _)|(refine qL (ua8 ?_ ?_)<;>first|rfl|((try simp only [qX]at *);(try simp only [zQ,zA,zB,zC,zD,zE,zF,zG,zH,zI,zJ,zK,zL,zM,zN,zO,zP,zR,zS]at *);omega)|(intro ix h0 h1;refine qC (qE ?_) rfl qA;(have h3:ix.den.toNat=0:= om);simp only [h3];rfl))|skip
 ·rintro ⟨i,hi⟩
  cbv
  have hg:=utw (mv:=c.mv) (c:=w) hq hl (n:=i) (by omega)
  have hg2:=utw (mv:=c.mv) (c:=w) hq hl (n:=i+1)
  have hqi:=hq i
  repeat' (first
   |with_reducible refine ua3 ?_ ?_
   |with_reducible refine And.intro ?_ ?_
   |(with_reducible intro hcd;(try simp only [zA,zB,zC,zD,zE,zF,zG,zH,zI,zJ,zK,zL,zM,zN,zO,zP]at hcd);try cbv)
   | (refine⟨fun ix=>[(iv fun _=>gN c.mv q w lk ix.den.toNat)],?_⟩
      cbv
      refine ua3 (uaH (by intro ix jx h0 h1 h2;simp only [h2];exact Fit.refl _) (by intro ix jx h0 h1 h2;(have h3:jx.den.toNat=(i+1):=by((try simp only [qX]at *);(try simp only [zQ,zA,zB,zC,zD,zE,zF,zG,zH,zI,zJ,zK,zL,zM,zN,zO,zP,zR,zS]at *);omega));simp only [h3];(refine qC (qE ?_) rfl qA;(try simp only [qX]at *);simp only [zQ,zA,zB,zC,zD,zE,zF,zG,zH,zI,zJ,zK,zL,zM,zN,zO,zP,zR,zS]at *;(try simp only [utu,utx,uts,Int.toNat_natCast]at *);first|rfl|exact uy3 (by omega)|exact uxR (by omega) (by omega)|exact uxV (by omega) (by omega)))  om) (Or.inl ?_)
      try cbv)
   |fail)
  all_goals first|((try simp only [qX]at *);(try simp only [zQ,zA,zB,zC,zD,zE,zF,zG,zH,zI,zJ,zK,zL,zM,zN,zO,zP,zR,zS]at *);first|(refine qO ?_;omega)|(simp only [uap];omega))|((try simp only [utu,utx,uts]at *);(try simp only [qX]at *);(try simp only [zQ,zA,zB,zC,zD,zE,zF,zG,zH,zI,zJ,zK,zL,zM,zN,zO,zP,zR,zS]at *);(try simp only [utu,utx,uts,Int.toNat_natCast]at *);first|(refine qO ?_;omega)|(simp only [uap];first|omega|exact⟨by omega,by omega⟩))|(refine⟨[],(3:Nat),?_⟩;cbv;subst hR;subst hB;refine⟨?_,?_⟩;(first|exact Fit.refl _|((repeat' (first|exact qA|exact qB|refine qC ?_ rfl ?_|refine qD ?_ ?_|exact qE (by rfl)|exact qF (by rfl)|exact Fit.refl _|exact qG _|(refine qE ?_;(try simp only [qX]at *);simp only [zQ,zA,zB,zC,zD,zE,zF,zG,zH,zI,zJ,zK,zL,zM,zN,zO,zP,zR,zS]at *;omega)));done));(repeat' (first|exact qH|refine qI ?_ ?_));(all_goals first|exact qK _|(refine qJ ?_;(repeat' (first|exact qA|exact qB|refine qC ?_ rfl ?_|refine qD ?_ ?_|exact qE (by rfl)|exact qF (by rfl)|exact Fit.refl _|exact qG _|(refine qE ?_;(try simp only [qX]at *);simp only [zQ,zA,zB,zC,zD,zE,zF,zG,zH,zI,zJ,zK,zL,zM,zN,zO,zP,zR,zS]at *;omega)));done)|(refine ua8 ?_ ?_;(first|rfl|((try simp only [qX]at *);(try simp only [zQ,zA,zB,zC,zD,zE,zF,zG,zH,zI,zJ,zK,zL,zM,zN,zO,zP,zR,zS]at *);omega));intro ix h0 h1;first|exact Fit.refl _|(exfalso;(try simp only [qX]at *);(try simp only [zQ,zA,zB,zC,zD,zE,zF,zG,zH,zI,zJ,zK,zL,zM,zN,zO,zP,zR,zS]at *);omega))|(refine ua8 ?_ ?_;(first|rfl|((try simp only [qX]at *);(try simp only [zQ,zA,zB,zC,zD,zE,zF,zG,zH,zI,zJ,zK,zL,zM,zN,zO,zP,zR,zS]at *);omega));intro ix h0 h1;exact Fit.refl _)))|((try simp only [zQ,zA,zB,zC,zD,zE,zF,zG,zH,zI,zJ,zK,zL,zM,zN,zO,zP,zR,zS]at *);refine⟨⟨i+1,by omega⟩,by simp only [];omega,?_⟩;cbv;(repeat' (first|with_reducible refine ua3 ?_ ?_|with_reducible refine And.intro ?_ ?_));(all_goals first|trivial|exact qN (qE (by rfl))|exact qN (qF (by rfl))|exact qN (Fit.refl _)|exact qL (qK _)|(refine qN (qE ?_);(try simp only [qX]at *);simp only [zQ,zA,zB,zC,zD,zE,zF,zG,zH,zI,zJ,zK,zL,zM,zN,zO,zP,zR,zS]at *;omega)|(refine qL (qJ ?_);(repeat' (first|exact qA|exact qB|refine qC ?_ rfl ?_|refine qD ?_ ?_|exact qE (by rfl)|exact qF (by rfl)|exact Fit.refl _|exact qG _|(refine qE ?_;(try simp only [qX]at *);simp only [zQ,zA,zB,zC,zD,zE,zF,zG,zH,zI,zJ,zK,zL,zM,zN,zO,zP,zR,zS]at *;omega)));done)|(refine qL (ua8 ?_ ?_)<;>first|rfl|((try simp only [qX]at *);(try simp only [zQ,zA,zB,zC,zD,zE,zF,zG,zH,zI,zJ,zK,zL,zM,zN,zO,zP,zR,zS]at *);omega)|(intro ix h0 h1;exact Fit.refl _))|skip))|skip
end Go.Proofs.Ytpkgnhcfmpbidaa

namespace Go.Proofs.Ytpkgnhcfmpbidaa
open Go Go.Eng Go.Proofs Go.Eng.Ck Go.Eng.Few
set_option maxRecDepth 10000
def usL (c:Clr):Prop:=(∀i,i<c.cs.length→(c.cs.getD i k0).ms.length≤8)∧c.cs.length≤5∧c.mv.length≤7∧c.gs.length≤9
open Classical in
noncomputable def udE (c:Clr):Bool:=decide (usL c)
theorem uc8 {c:Clr}:udE c=true↔usL c:=by unfold udE;exact @decide_eq_true_iff _ (Classical.propDecidable _)
theorem umU {c:Clr}(h:¬usL c):udE c=false:=by unfold udE;exact @decide_eq_false _ (Classical.propDecidable _) h
set_option maxHeartbeats 4000000 in
theorem udx (c:Clr):ua0 Try.prog 15 [(.agg [(caS c.cs),(mvS c.mv),(gaS c.gs)])] [] (fun r _=>r=(bv fun _=>udE c)):=by
 refine ua0.is fun R hR=>qY (sc:=uyy) uas mix Try.func15 rfl Try.call15 (by kernel_rfl) (by kernel_rfl) ?_
 generalize Try.prog=P
 cbv
 repeat' (first|fail)
 all_goals first|skip
 refine⟨none,[],{x:Nat // x≤c.cs.length∧x≤6∧∀y,y<x→(c.cs.getD y k0).ms.length≤8},fun x=>⟨[(1,.own 0 0),(3,(iv fun _=>zi x.1))],[(0,.cells [(caS c.cs),(mvS c.mv),(gaS c.gs)] 26)],40⟩,fun x=>c.cs.length-x.1,?_,?_⟩
 ·refine⟨⟨0,by omega,by omega,fun y hy=>by omega⟩,?_⟩
  cbv
  repeat' (first|with_reducible refine ua3 ?_ ?_|with_reducible refine And.intro ?_ ?_)
  all_goals first|trivial|exact qN (qE (by rfl))|exact qN (Fit.refl _)|exact qL (qK _)|skip
 ·rintro⟨i,hi,hi6,hk⟩
  cbv
  repeat' (first|with_reducible refine ua3 ?_ ?_|with_reducible refine And.intro ?_ ?_|(with_reducible intro hcd;(try simp only [zA,zB,zC,zD,zE,zF,zG,zH,zI,zJ,zK,zL,zM,zN,zO,zP]at hcd);try cbv)|fail)
  all_goals first|((try simp only [qX]at *);(try simp only [zQ,zA,zB,zC,zD,zE,zF,zG,zH,zI,zJ,zK,zL,zM,zN,zO,zP,zR,zS]at *);first|(refine qO ?_;omega)|(simp only [uap];omega))|(subst hR;refine qF ?_;refine(umU (fun q=> ?_)).symm;(have q2:=q.2);(try simp only [qX]at *);(try simp only [zQ,zA,zB,zC,zD,zE,zF,zG,zH,zI,zJ,zK,zL,zM,zN,zO,zP,zR,zS]at *);omega)|(subst hR;refine qF ?_;refine(umU (fun q=> ?_)).symm;(have q2:=q.1 i  om);(try simp only [qX]at *);(try simp only [zQ,zA,zB,zC,zD,zE,zF,zG,zH,zI,zJ,zK,zL,zM,zN,zO,zP,zR,zS]at *);omega)|(subst hR;refine qF ?_;(try simp only [qX]at *);(try simp only [zQ,zA,zB,zC,zD,zE,zF,zG,zH,zI,zJ,zK,zL,zM,zN,zO,zP,zR,zS]at *);apply Bool.eq_iff_iff.2;rw [uc8];simp only [decide_eq_true_eq];constructor;(intro h9;exact⟨fun y hy=>hk y (by omega),by omega⟩);(intro q;have q2:=q.2;omega))|((try simp only [zQ,zA,zB,zC,zD,zE,zF,zG,zH,zI,zJ,zK,zL,zM,zN,zO,zP,zR,zS]at *);refine⟨⟨i+1,by((try simp only [qX]at *);(try simp only [zQ,zA,zB,zC,zD,zE,zF,zG,zH,zI,zJ,zK,zL,zM,zN,zO,zP,zR,zS]at *);omega),by((try simp only [qX]at *);(try simp only [zQ,zA,zB,zC,zD,zE,zF,zG,zH,zI,zJ,zK,zL,zM,zN,zO,zP,zR,zS]at *);omega),fun y hy=>by(rcases Nat.lt_or_ge y i with r|r;exact hk y r;(have e9:y=i:=by omega);subst e9;(try simp only [qX]at *);(try simp only [zQ,zA,zB,zC,zD,zE,zF,zG,zH,zI,zJ,zK,zL,zM,zN,zO,zP,zR,zS]at *);omega)⟩,by simp only [];omega,?_⟩;cbv;(repeat' (first|with_reducible refine ua3 ?_ ?_|with_reducible refine And.intro ?_ ?_));(all_goals first|trivial|exact qN (qE (by rfl))|exact qN (qF (by rfl))|exact qN (Fit.refl _)|exact qL (qK _)|(refine qN (qE ?_);(try simp only [qX]at *);simp only [zQ,zA,zB,zC,zD,zE,zF,zG,zH,zI,zJ,zK,zL,zM,zN,zO,zP,zR,zS]at *;omega)|(refine qL (qJ ?_);(repeat' (first|exact qA|exact qB|refine qC ?_ rfl ?_|refine qD ?_ ?_|exact qE (by rfl)|exact qF (by rfl)|exact Fit.refl _|exact qG _|(refine qE ?_;(try simp only [qX]at *);simp only [zQ,zA,zB,zC,zD,zE,zF,zG,zH,zI,zJ,zK,zL,zM,zN,zO,zP,zR,zS]at *;omega)));done)|skip))|skip
end Go.Proofs.Ytpkgnhcfmpbidaa

namespace Go.Proofs.Ytpkgnhcfmpbidaa
open Go Go.Eng Go.Proofs Go.Eng.Ck Go.Eng.Few
set_option maxRecDepth 10000
theorem ucm (c:Clr):ua0 Try.prog 21 [(.agg [(caS c.cs),(mvS c.mv),(gaS c.gs)])] [] (fun r _=>r=(iv fun _=>ua6 c)):=by
 have c42:=uth c
 refine ua0.is fun R hR=>qY (sc:=uyJ) uas mix Try.func21 rfl Try.call21 (by kernel_rfl) (by kernel_rfl) ?_
 generalize Try.prog=P at c42⊢
 cbv
 repeat' (first|(refine qQ ?_ (c42) ?hfit;(case hfit=>((repeat' (first|exact qB|refine qD ?_ ?_|exact qE (by rfl)|exact qF (by rfl)|exact Fit.refl _|exact qA|refine qC ?_ rfl ?_));done));try cbv)|fail)
 all_goals first|(subst hR;exact Fit.refl _;done)|skip
end Go.Proofs.Ytpkgnhcfmpbidaa

namespace Go.Proofs.Ytpkgnhcfmpbidaa
open Go Go.Eng Go.Proofs Go.Eng.Ck Go.Eng.Few
set_option maxRecDepth 10000
def uwL :SC:=[(10,[qa 0 []]),(5,[qa 0 [],qa 1 [0],qa 2 [],qa 3 [0,1,2],qa 4 (qr 4),qa 5 (qr 5),qa 7 [],qa 8 [7],qa 9 [],qa 10 [7,8,9],qa 11 (qs 7 4),qa 12 (qs 7 5),qa 15 [],qa 6 (qr 6),qa 13 (qr 13),qa 14 (qr 14),qb 16 (qr 16)]),(9,[qa 0 [],qa 1 [0],qa 2 [],qa 3 [2],qa 4 [],qa 5 [2,3,4],qa 6 (qs 2 4),qa 7 (qs 2 5),qa 8 [],qa 9 (qs 2 7),qa 10 (qs 2 8),qa 11 (qs 2 9),qa 12 [],qa 13 [12],qa 14 [],qa 15 [12,13,14],qa 16 (qs 12 4),qa 17 (qs 12 5),qa 18 [],qa 19 (qs 12 7),qa 20 (qs 12 8),qa 21 (qs 12 9),qa 22 (qs 2 20),qa 23 (qs 2 21),qb 24 (qr 24),qb 25 (qr 25),qb 26 (qr 26)]),(14,[qa 0 [],qa 1 [0],qa 2 [],qa 3 [2],qa 4 [],qa 5 [2,3,4],qa 6 (qs 2 4),qa 7 (qs 2 5),qa 8 [],qa 9 [8],qa 10 [],qa 11 [8,9,10],qa 12 (qs 8 4),qa 13 (qs 8 5),qa 14 [],qa 15 [14],qa 16 [],qa 17 [14,15,16],qa 18 (qs 14 4),qa 19 (qs 14 5),qa 20 (qs 14 6),qa 21 (qs 2 19),qa 22 (qs 2 20),qb 23 (qr 23),qb 24 (qr 24),qb 25 (qr 25)]),(19,[qa 0 [],qa 1 [0],qa 2 [],qa 3 [2],qa 4 [],qa 5 [4],qa 6 [],qa 7 [6],qa 9 [],qa 10 [9],qa 8 [6,7],qa 11 (qs 2 9),qa 12 (qs 2 10),qb 13 (qr 13),qb 14 (qr 14),qb 15 (qr 15)])]
set_option maxHeartbeats 4000000 in
theorem ubJ (c:Clr)(h1:c.cs.length≤1000∧c.mv.length≤1000∧c.gs.length≤1000)(hp:∀i,i<c.cs.length→(c.cs.getD i k0).ms.length≤1000):ua0 Try.prog 18 [(.agg [(caS c.cs),(mvS c.mv),(gaS c.gs)])] [] (fun r _=>r=(.agg [(caS c.cs),(mvS c.mv),(gaS c.gs)])):=by
 have c24:= @umL
 refine ua0.is fun R hR=>qY (sc:=uwL) uas mix Try.func18 rfl Try.call18 (by kernel_rfl) (by kernel_rfl) ?_
 generalize Try.prog=P at c24⊢
 cbv
 repeat' (first|fail)
 all_goals first|skip
 refine⟨none,[⟨.cell 2 0,115,5⟩],{i:Nat // i≤c.cs.length},fun x=>⟨[(1,.own 0 0),(2,.own 1 0),(3,.own 2 0),(4,(iv fun _=>zi x.1))],[(0,.cells [(caS c.cs),(mvS c.mv),(gaS c.gs)] 26),(1,.cells [.val (Value.slice none 0 0),.val (Value.slice none 0 0),.val (Value.slice none 0 0)] 36),(2,.cells [.row 4,.val (Value.slice none 0 0),.val (Value.slice none 0 0)] 36),(4,.row 115 5 (.sym fun _=>zi x.1) (fun ix=>[(.sl 2 (.sym fun _=>zi (((c.cs).getD ix.den.toNat k0).ms).length) (fun jx=>[(iv fun _=>mD (((c.cs).getD ix.den.toNat k0).ms) jx.den.toNat),(iv fun _=>mC (((c.cs).getD ix.den.toNat k0).ms) jx.den.toNat)])),(iv fun _=>((c.cs).getD ix.den.toNat k0).sl),(iv fun _=>((c.cs).getD ix.den.toNat k0).sh),(iv fun _=>((c.cs).getD ix.den.toNat k0).kl),(iv fun _=>((c.cs).getD ix.den.toNat k0).kh)]))],60⟩,fun x=>c.cs.length-x.1,?_,?_⟩
 ·refine⟨⟨0,by omega⟩,?_⟩
  cbv
  repeat' (first|with_reducible refine ua3 ?_ ?_|with_reducible refine And.intro ?_ ?_)
  all_goals first|trivial|exact qN (qE (by rfl))|exact qN (Fit.refl _)|exact qL (qK _)|(refine qL (ua8 ?_ ?_);(first|rfl|((try simp only [qX]at *);(try simp only [zQ,zA,zB,zC,zD,zE,zF,zG,zH,zI,zJ,zK,zL,zM,zN,zO,zP,zR,zS]at *);omega));intro ix h0 h1;exfalso;(try simp only [qX]at *);(try simp only [zQ,zA,zB,zC,zD,zE,zF,zG,zH,zI,zJ,zK,zL,zM,zN,zO,zP,zR,zS]at *);omega)|skip
 ·rintro ⟨i, hi⟩
  cbv
  have hp7:=hp i
  repeat' (first|with_reducible refine ua3 ?_ ?_|with_reducible refine And.intro ?_ ?_|(with_reducible intro hcd;(try simp only [zA,zB,zC,zD,zE,zF,zG,zH,zI,zJ,zK,zL,zM,zN,zO,zP]at hcd);try cbv)|(refine uaj ?_ (c24 _ _);try cbv)|fail)
  all_goals first|((try simp only [qX]at *);(try simp only [zQ,zA,zB,zC,zD,zE,zF,zG,zH,zI,zJ,zK,zL,zM,zN,zO,zP,zR,zS]at *);first|(refine qO ?_;omega)|(simp only [uap];omega))|skip
  refine⟨none,[⟨.cell 80 0,117,2⟩],{m:Nat // m≤(c.cs.getD i k0).ms.length},fun x=>⟨[(1,.own 0 0),(2,.own 1 0),(3,.own 2 0),(4,(iv fun _=>zi i)),(5,.own 80 0),(6,(iv fun _=>zi x.1))],[(0,.cells [(caS c.cs),(mvS c.mv),(gaS c.gs)] 26),(1,.cells [.val (Value.slice none 0 0),.val (Value.slice none 0 0),.val (Value.slice none 0 0)] 36),(2,.cells [.row 4,.val (Value.slice none 0 0),.val (Value.slice none 0 0)] 36),(4,.row 115 5 (.sym fun _=>zi i) (fun ix=>[(.sl 2 (.sym fun _=>zi (((c.cs).getD ix.den.toNat k0).ms).length) (fun jx=>[(iv fun _=>mD (((c.cs).getD ix.den.toNat k0).ms) jx.den.toNat),(iv fun _=>mC (((c.cs).getD ix.den.toNat k0).ms) jx.den.toNat)])),(iv fun _=>((c.cs).getD ix.den.toNat k0).sl),(iv fun _=>((c.cs).getD ix.den.toNat k0).sh),(iv fun _=>((c.cs).getD ix.den.toNat k0).kl),(iv fun _=>((c.cs).getD ix.den.toNat k0).kh)])),(80,.cells [.row 83,(iv fun _=>(c.cs.getD i k0).sl),(iv fun _=>(c.cs.getD i k0).sh),(iv fun _=>(c.cs.getD i k0).kl),(iv fun _=>(c.cs.getD i k0).kh)] 115),(83,.row 117 2 (.sym fun _=>zi x.1) (fun ix=>[(iv fun _=>mD ((c.cs.getD i k0).ms) ix.den.toNat),(iv fun _=>mC ((c.cs.getD i k0).ms) ix.den.toNat)]))],120⟩,fun x=>(c.cs.getD i k0).ms.length-x.1,?_,?_⟩
  ·refine⟨⟨0,by omega⟩,?_⟩
   cbv
   repeat' (first|with_reducible refine ua3 ?_ ?_|with_reducible refine And.intro ?_ ?_)
   all_goals first|trivial|exact qN (qE (by rfl))|exact qN (Fit.refl _)|exact qL (qK _)|(refine qL (ua8 ?_ ?_);(first|rfl|((try simp only [qX]at *);(try simp only [zQ,zA,zB,zC,zD,zE,zF,zG,zH,zI,zJ,zK,zL,zM,zN,zO,zP,zR,zS]at *);omega));intro ix h0 h1;exfalso;(try simp only [qX]at *);(try simp only [zQ,zA,zB,zC,zD,zE,zF,zG,zH,zI,zJ,zK,zL,zM,zN,zO,zP,zR,zS]at *);omega)|skip
  ·rintro ⟨m,hm⟩
   cbv
   repeat' (first
    |with_reducible refine ua3 ?_ ?_
    |with_reducible refine And.intro ?_ ?_
    |(with_reducible intro hcd;(try simp only [zA,zB,zC,zD,zE,zF,zG,zH,zI,zJ,zK,zL,zM,zN,zO,zP]at hcd);try cbv)
    | (refine⟨fun ix=>[(iv fun _=>mD ((c.cs.getD i k0).ms) ix.den.toNat),(iv fun _=>mC ((c.cs.getD i k0).ms) ix.den.toNat)],?_⟩
       cbv
       refine ua3 (uaH (by intro ix jx h0 h1 h2;simp only [h2];exact Fit.refl _) (by intro ix jx h0 h1 h2;(have h3:jx.den.toNat=m:=by((try simp only [qX]at *);(try simp only [zQ,zA,zB,zC,zD,zE,zF,zG,zH,zI,zJ,zK,zL,zM,zN,zO,zP,zR,zS]at *);omega));simp only [h3];exact(qC (qE rfl) rfl (qC (qE rfl) rfl qA)))  om) (Or.inl ?_)
       try cbv)
    | (refine Exists.intro (α:=List Nat) [83] ?_
       cbv
       fail_if_success (show False))
    | (refine⟨fun ix=>[(.sl 2 (.sym fun _=>zi (((c.cs).getD ix.den.toNat k0).ms).length) (fun jx=>[(iv fun _=>mD (((c.cs).getD ix.den.toNat k0).ms) jx.den.toNat),(iv fun _=>mC (((c.cs).getD ix.den.toNat k0).ms) jx.den.toNat)])),(iv fun _=>((c.cs).getD ix.den.toNat k0).sl),(iv fun _=>((c.cs).getD ix.den.toNat k0).sh),(iv fun _=>((c.cs).getD ix.den.toNat k0).kl),(iv fun _=>((c.cs).getD ix.den.toNat k0).kh)],?_⟩
       cbv
       refine ua3 (uaH (by intro ix jx h0 h1 h2;simp only [h2];exact Fit.refl _) (by intro ix jx h0 h1 h2;(have h3:jx.den.toNat=i:=by((try simp only [qX]at *);(try simp only [zQ,zA,zB,zC,zD,zE,zF,zG,zH,zI,zJ,zK,zL,zM,zN,zO,zP,zR,zS]at *);omega));simp only [h3];(have hm2:m=(c.cs.getD i k0).ms.length:= om);subst hm2;exact Fit.refl _)  om) (Or.inl ?_)
       try cbv)
    |fail)
   all_goals first|((try simp only [qX]at *);(try simp only [zQ,zA,zB,zC,zD,zE,zF,zG,zH,zI,zJ,zK,zL,zM,zN,zO,zP,zR,zS]at *);first|(refine qO ?_;omega)|(simp only [uap];omega))|((try simp only [zQ,zA,zB,zC,zD,zE,zF,zG,zH,zI,zJ,zK,zL,zM,zN,zO,zP,zR,zS]at *);refine⟨⟨m+1,by omega⟩,by simp only [];omega,?_⟩;cbv;(repeat' (first|with_reducible refine ua3 ?_ ?_|with_reducible refine And.intro ?_ ?_));(all_goals first|trivial|exact qN (qE (by rfl))|exact qN (qF (by rfl))|exact qN (Fit.refl _)|exact qL (qK _)|(refine qN (qE ?_);(try simp only [qX]at *);simp only [zQ,zA,zB,zC,zD,zE,zF,zG,zH,zI,zJ,zK,zL,zM,zN,zO,zP,zR,zS]at *;omega)|(refine qL (qJ ?_);(repeat' (first|exact qA|exact qB|refine qC ?_ rfl ?_|refine qD ?_ ?_|exact qE (by rfl)|exact qF (by rfl)|exact Fit.refl _|exact qG _|(refine qE ?_;(try simp only [qX]at *);simp only [zQ,zA,zB,zC,zD,zE,zF,zG,zH,zI,zJ,zK,zL,zM,zN,zO,zP,zR,zS]at *;omega)));done)|(refine qL (ua8 ?_ ?_)<;>first|rfl|((try simp only [qX]at *);(try simp only [zQ,zA,zB,zC,zD,zE,zF,zG,zH,zI,zJ,zK,zL,zM,zN,zO,zP,zR,zS]at *);omega)|(intro ix h0 h1;exact Fit.refl _))|(refine qL (ua8 ?_ ?_);(first|rfl|((try simp only [qX]at *);(try simp only [zQ,zA,zB,zC,zD,zE,zF,zG,zH,zI,zJ,zK,zL,zM,zN,zO,zP,zR,zS]at *);omega));intro ix h0 h1;exfalso;(try simp only [qX]at *);(try simp only [zQ,zA,zB,zC,zD,zE,zF,zG,zH,zI,zJ,zK,zL,zM,zN,zO,zP,zR,zS]at *);omega)|skip))|((try simp only [zQ,zA,zB,zC,zD,zE,zF,zG,zH,zI,zJ,zK,zL,zM,zN,zO,zP,zR,zS]at *);refine⟨⟨i+1,by omega⟩,by simp only [];omega,?_⟩;cbv;(repeat' (first|with_reducible refine ua3 ?_ ?_|with_reducible refine And.intro ?_ ?_));(all_goals first|trivial|exact qN (qE (by rfl))|exact qN (qF (by rfl))|exact qN (Fit.refl _)|exact qL (qK _)|(refine qN (qE ?_);(try simp only [qX]at *);simp only [zQ,zA,zB,zC,zD,zE,zF,zG,zH,zI,zJ,zK,zL,zM,zN,zO,zP,zR,zS]at *;omega)|(refine qL (qJ ?_);(repeat' (first|exact qA|exact qB|refine qC ?_ rfl ?_|refine qD ?_ ?_|exact qE (by rfl)|exact qF (by rfl)|exact Fit.refl _|exact qG _|(refine qE ?_;(try simp only [qX]at *);simp only [zQ,zA,zB,zC,zD,zE,zF,zG,zH,zI,zJ,zK,zL,zM,zN,zO,zP,zR,zS]at *;omega)));done)|(refine qL (ua8 ?_ ?_)<;>first|rfl|((try simp only [qX]at *);(try simp only [zQ,zA,zB,zC,zD,zE,zF,zG,zH,zI,zJ,zK,zL,zM,zN,zO,zP,zR,zS]at *);omega)|(intro ix h0 h1;exact Fit.refl _))|(refine qL (ua8 ?_ ?_);(first|rfl|((try simp only [qX]at *);(try simp only [zQ,zA,zB,zC,zD,zE,zF,zG,zH,zI,zJ,zK,zL,zM,zN,zO,zP,zR,zS]at *);omega));intro ix h0 h1;exfalso;(try simp only [qX]at *);(try simp only [zQ,zA,zB,zC,zD,zE,zF,zG,zH,zI,zJ,zK,zL,zM,zN,zO,zP,zR,zS]at *);omega)|skip))|skip
  have hie:i=c.cs.length:=by((try simp only [qX]at *);(try simp only [zQ,zA,zB,zC,zD,zE,zF,zG,zH,zI,zJ,zK,zL,zM,zN,zO,zP,zR,zS]at *);omega)
  subst hie
  refine⟨none,[⟨.cell 2 1,119,4⟩],{m:Nat // m≤c.mv.length},fun x=>⟨[(1,.own 0 0),(2,.own 1 0),(3,.own 2 0),(7,(iv fun _=>zi x.1))],[(0,.cells [(caS c.cs),(mvS c.mv),(gaS c.gs)] 26),(1,.cells [.val (Value.slice none 0 0),.val (Value.slice none 0 0),.val (Value.slice none 0 0)] 36),(2,.cells [.row 4,.row 66,.val (Value.slice none 0 0)] 36),(4,.row 115 5 (.sym fun _=>zi c.cs.length) (fun ix=>[(.sl 2 (.sym fun _=>zi (((c.cs).getD ix.den.toNat k0).ms).length) (fun jx=>[(iv fun _=>mD (((c.cs).getD ix.den.toNat k0).ms) jx.den.toNat),(iv fun _=>mC (((c.cs).getD ix.den.toNat k0).ms) jx.den.toNat)])),(iv fun _=>((c.cs).getD ix.den.toNat k0).sl),(iv fun _=>((c.cs).getD ix.den.toNat k0).sh),(iv fun _=>((c.cs).getD ix.den.toNat k0).kl),(iv fun _=>((c.cs).getD ix.den.toNat k0).kh)])),(66,.row 119 4 (.sym fun _=>zi x.1) (fun ix=>(vcS ((c.mv).getD ix.den.toNat v0))))],120⟩,fun x=>c.mv.length-x.1,?_,?_⟩
  ·refine⟨⟨0,by omega⟩,?_⟩
   cbv
   repeat' (first|with_reducible refine ua3 ?_ ?_|with_reducible refine And.intro ?_ ?_)
   all_goals first|trivial|exact qN (qE (by rfl))|exact qN (Fit.refl _)|exact qL (qK _)|(refine qL (ua8 ?_ ?_);(first|rfl|((try simp only [qX]at *);(try simp only [zQ,zA,zB,zC,zD,zE,zF,zG,zH,zI,zJ,zK,zL,zM,zN,zO,zP,zR,zS]at *);omega));intro ix h0 h1;exfalso;(try simp only [qX]at *);(try simp only [zQ,zA,zB,zC,zD,zE,zF,zG,zH,zI,zJ,zK,zL,zM,zN,zO,zP,zR,zS]at *);omega)|skip
  ·rintro ⟨m,hm⟩
   cbv
   repeat' (first
    |with_reducible refine ua3 ?_ ?_
    |with_reducible refine And.intro ?_ ?_
    |(with_reducible intro hcd;(try simp only [zA,zB,zC,zD,zE,zF,zG,zH,zI,zJ,zK,zL,zM,zN,zO,zP]at hcd);try cbv)
    |(refine uaj ?_ (c24 _ _);try cbv)
    | (refine⟨fun ix=>(vcS ((c.mv).getD ix.den.toNat v0)),?_⟩
       cbv
       refine ua3 (uaH (by intro ix jx h0 h1 h2;simp only [h2];exact Fit.refl _) (by intro ix jx h0 h1 h2;(have h3:jx.den.toNat=m:=by((try simp only [qX]at *);(try simp only [zQ,zA,zB,zC,zD,zE,zF,zG,zH,zI,zJ,zK,zL,zM,zN,zO,zP,zR,zS]at *);omega));simp only [h3];exact(qC (qE rfl) rfl (qC (qE rfl) rfl (qC (qE rfl) rfl (qC (qE rfl) rfl qA)))))  om) (Or.inl ?_)
       try cbv)
    |fail)
   all_goals first|((try simp only [qX]at *);(try simp only [zQ,zA,zB,zC,zD,zE,zF,zG,zH,zI,zJ,zK,zL,zM,zN,zO,zP,zR,zS]at *);first|(refine qO ?_;omega)|(simp only [uap];omega))|((try simp only [zQ,zA,zB,zC,zD,zE,zF,zG,zH,zI,zJ,zK,zL,zM,zN,zO,zP,zR,zS]at *);refine⟨⟨m+1,by omega⟩,by simp only [];omega,?_⟩;cbv;(repeat' (first|with_reducible refine ua3 ?_ ?_|with_reducible refine And.intro ?_ ?_));(all_goals first|trivial|exact qN (qE (by rfl))|exact qN (qF (by rfl))|exact qN (Fit.refl _)|exact qL (qK _)|(refine qN (qE ?_);(try simp only [qX]at *);simp only [zQ,zA,zB,zC,zD,zE,zF,zG,zH,zI,zJ,zK,zL,zM,zN,zO,zP,zR,zS]at *;omega)|(refine qL (qJ ?_);(repeat' (first|exact qA|exact qB|refine qC ?_ rfl ?_|refine qD ?_ ?_|exact qE (by rfl)|exact qF (by rfl)|exact Fit.refl _|exact qG _|(refine qE ?_;(try simp only [qX]at *);simp only [zQ,zA,zB,zC,zD,zE,zF,zG,zH,zI,zJ,zK,zL,zM,zN,zO,zP,zR,zS]at *;omega)));done)|(refine qL (ua8 ?_ ?_)<;>first|rfl|((try simp only [qX]at *);(try simp only [zQ,zA,zB,zC,zD,zE,zF,zG,zH,zI,zJ,zK,zL,zM,zN,zO,zP,zR,zS]at *);omega)|(intro ix h0 h1;exact Fit.refl _))|(refine qL (ua8 ?_ ?_);(first|rfl|((try simp only [qX]at *);(try simp only [zQ,zA,zB,zC,zD,zE,zF,zG,zH,zI,zJ,zK,zL,zM,zN,zO,zP,zR,zS]at *);omega));intro ix h0 h1;exfalso;(try simp only [qX]at *);(try simp only [zQ,zA,zB,zC,zD,zE,zF,zG,zH,zI,zJ,zK,zL,zM,zN,zO,zP,zR,zS]at *);omega)|skip))|skip
   have hme:m=c.mv.length:=by((try simp only [qX]at *);(try simp only [zQ,zA,zB,zC,zD,zE,zF,zG,zH,zI,zJ,zK,zL,zM,zN,zO,zP,zR,zS]at *);omega)
   subst hme
   refine⟨none,[⟨.cell 2 2,111,5⟩],{g:Nat // g≤c.gs.length},fun x=>⟨[(1,.own 0 0),(2,.own 1 0),(3,.own 2 0),(8,(iv fun _=>zi x.1))],[(0,.cells [(caS c.cs),(mvS c.mv),(gaS c.gs)] 26),(1,.cells [.val (Value.slice none 0 0),.val (Value.slice none 0 0),.val (Value.slice none 0 0)] 36),(2,.cells [.row 4,.row 66,.row 126] 36),(4,.row 115 5 (.sym fun _=>zi c.cs.length) (fun ix=>[(.sl 2 (.sym fun _=>zi (((c.cs).getD ix.den.toNat k0).ms).length) (fun jx=>[(iv fun _=>mD (((c.cs).getD ix.den.toNat k0).ms) jx.den.toNat),(iv fun _=>mC (((c.cs).getD ix.den.toNat k0).ms) jx.den.toNat)])),(iv fun _=>((c.cs).getD ix.den.toNat k0).sl),(iv fun _=>((c.cs).getD ix.den.toNat k0).sh),(iv fun _=>((c.cs).getD ix.den.toNat k0).kl),(iv fun _=>((c.cs).getD ix.den.toNat k0).kh)])),(66,.row 119 4 (.sym fun _=>zi c.mv.length) (fun ix=>(vcS ((c.mv).getD ix.den.toNat v0)))),(126,.row 111 5 (.sym fun _=>zi x.1) (fun ix=>(gcS ((c.gs).getD ix.den.toNat g0))))],400⟩,fun x=>c.gs.length-x.1,?_,?_⟩
   ·refine⟨⟨0,by omega⟩,?_⟩
    cbv
    repeat' (first|with_reducible refine ua3 ?_ ?_|with_reducible refine And.intro ?_ ?_)
    all_goals first|trivial|exact qN (qE (by rfl))|exact qN (Fit.refl _)|exact qL (qK _)|(refine qL (ua8 ?_ ?_);(first|rfl|((try simp only [qX]at *);(try simp only [zQ,zA,zB,zC,zD,zE,zF,zG,zH,zI,zJ,zK,zL,zM,zN,zO,zP,zR,zS]at *);omega));intro ix h0 h1;exfalso;(try simp only [qX]at *);(try simp only [zQ,zA,zB,zC,zD,zE,zF,zG,zH,zI,zJ,zK,zL,zM,zN,zO,zP,zR,zS]at *);omega)|skip
   ·rintro ⟨g,hg⟩
    cbv
    repeat' (first
     |with_reducible refine ua3 ?_ ?_
     |with_reducible refine And.intro ?_ ?_
     |(with_reducible intro hcd;(try simp only [zA,zB,zC,zD,zE,zF,zG,zH,zI,zJ,zK,zL,zM,zN,zO,zP]at hcd);try cbv)
     |(refine uaj ?_ (c24 _ _);try cbv)
     | (refine⟨fun ix=>(gcS ((c.gs).getD ix.den.toNat g0)),?_⟩
        cbv
        refine ua3 (uaH (by intro ix jx h0 h1 h2;simp only [h2];exact Fit.refl _) (by intro ix jx h0 h1 h2;(have h3:jx.den.toNat=g:=by((try simp only [qX]at *);(try simp only [zQ,zA,zB,zC,zD,zE,zF,zG,zH,zI,zJ,zK,zL,zM,zN,zO,zP,zR,zS]at *);omega));simp only [h3];exact(qC (qE rfl) rfl (qC (qE rfl) rfl (qC (qE rfl) rfl (qC (qE rfl) rfl (qC (qF rfl) rfl qA))))))  om) (Or.inl ?_)
        try cbv)
     |fail)
    all_goals first|((try simp only [qX]at *);(try simp only [zQ,zA,zB,zC,zD,zE,zF,zG,zH,zI,zJ,zK,zL,zM,zN,zO,zP,zR,zS]at *);first|(refine qO ?_;omega)|(simp only [uap];omega))|((have hie:g=c.gs.length:= om);subst hie;subst hR;exact Fit.refl _)|((try simp only [zQ,zA,zB,zC,zD,zE,zF,zG,zH,zI,zJ,zK,zL,zM,zN,zO,zP,zR,zS]at *);refine⟨⟨g+1,by omega⟩,by simp only [];omega,?_⟩;cbv;(repeat' (first|with_reducible refine ua3 ?_ ?_|with_reducible refine And.intro ?_ ?_));(all_goals first|trivial|exact qN (qE (by rfl))|exact qN (qF (by rfl))|exact qN (Fit.refl _)|exact qL (qK _)|(refine qN (qE ?_);(try simp only [qX]at *);simp only [zQ,zA,zB,zC,zD,zE,zF,zG,zH,zI,zJ,zK,zL,zM,zN,zO,zP,zR,zS]at *;omega)|(refine qL (qJ ?_);(repeat' (first|exact qA|exact qB|refine qC ?_ rfl ?_|refine qD ?_ ?_|exact qE (by rfl)|exact qF (by rfl)|exact Fit.refl _|exact qG _|(refine qE ?_;(try simp only [qX]at *);simp only [zQ,zA,zB,zC,zD,zE,zF,zG,zH,zI,zJ,zK,zL,zM,zN,zO,zP,zR,zS]at *;omega)));done)|(refine qL (ua8 ?_ ?_)<;>first|rfl|((try simp only [qX]at *);(try simp only [zQ,zA,zB,zC,zD,zE,zF,zG,zH,zI,zJ,zK,zL,zM,zN,zO,zP,zR,zS]at *);omega)|(intro ix h0 h1;exact Fit.refl _))|(refine qL (ua8 ?_ ?_);(first|rfl|((try simp only [qX]at *);(try simp only [zQ,zA,zB,zC,zD,zE,zF,zG,zH,zI,zJ,zK,zL,zM,zN,zO,zP,zR,zS]at *);omega));intro ix h0 h1;exfalso;(try simp only [qX]at *);(try simp only [zQ,zA,zB,zC,zD,zE,zF,zG,zH,zI,zJ,zK,zL,zM,zN,zO,zP,zR,zS]at *);omega)|skip))|skip
end Go.Proofs.Ytpkgnhcfmpbidaa

namespace Go.Proofs.Ytpkgnhcfmpbidaa
open Go Go.Eng Go.Proofs Go.Eng.Ck Go.Eng.Few
set_option maxRecDepth 10000
theorem uuP {b o o' n n' c c':Nat}(h1:o=o')(h2:n=n')(h3:c=c'):Value.slice (some (Addr.mk b o none)) n c=Value.slice (some (Addr.mk b o' none)) n' c':=by subst h1 h2 h3;rfl
set_option maxHeartbeats 4000000 in
theorem uv9 (T N k b0 o0 cap:Nat)(hN:1≤N)(hT:T=N*k)(hT2:T≤1000)(hc1:T≤cap)(hc2:cap≤maxLen):ugj Try.prog 108 [.pp 0 [.val (Value.slice (some (Addr.mk b0 o0 none)) T cap)],.pp 0 [(iv fun _=>zi N)]] k (fun i=>[.val (Value.slice (some (Addr.mk b0 (o0+(N*i)*2) none)) N N)]):=by
 obtain⟨V,hV⟩:∃V:Nat→Value,V=fun i=>Value.slice (some (Addr.mk b0 (o0+(N*i)*2) none)) N N:=⟨_,rfl⟩
 have hVe:∀i,V i=Value.slice (some (Addr.mk b0 (o0+(N*i)*2) none)) N N:=fun i=>by rw [hV]
 obtain⟨el,hel⟩:∃el:Nat→List SV,el=fun i=>[.val (V i)]:=⟨_,rfl⟩
 have hpl:∀i,ubf (.tup (el i))=true:=fun i=>by rw [hel];rfl
 have help:∀n,el n=[.val (V n)]:=fun n=>by rw [hel]
 have he:(fun i=>[SV.val (Value.slice (some (Addr.mk b0 (o0+(N*i)*2) none)) N N)])=el:=by rw [hel,hV]
 rw [he]
 clear hel hV he
 obtain⟨P0,hP0⟩:∃P0:Nat→Nat,P0=fun x=>N*x:=⟨_,rfl⟩
 have hp0:P0 0=0:=by rw [hP0];exact Nat.mul_zero N
 have hps:∀x,P0 (x+1)=P0 x+N:=fun x=>by rw [hP0];exact Nat.mul_succ N x
 have hpk:P0 k=T:=by rw [hP0,hT]
 have hpl2:∀x,x<k→P0 x+N≤T:=fun x h=>by rw [←hps,←hpk,hP0];exact Nat.mul_le_mul_left N h
 have hpm:∀x,x≤k→P0 x≤T:=fun x h=>by rw [←hpk,hP0];exact Nat.mul_le_mul_left N h
 have hplt:∀x,x≤k→P0 x<T→x<k:=fun x h h'=>(Nat.lt_or_ge x k).elim id fun q=>by(have e:x=k:=by omega);rw [e,hpk]at h';omega
 have hpe:∀x,P0 x=N*x:=fun x=>by rw [hP0]
 clear hP0 hT
 refine ufX (sc:=uxi) uas mix Try.func108 rfl Try.call108 (by kernel_rfl) (by kernel_rfl) fun y=> ?_
 generalize Try.prog=P
 refine⟨rfl,rfl,hpl,?_⟩
 cbv
 repeat' (first|fail)
 all_goals first|skip
 refine⟨none,[],{x:Nat // x≤k},fun x=>.atg fun _=>x.1,fun x=>⟨[(0,.val (Value.func (Fn.yield y) ⟨[]⟩ ⟨[]⟩)),(1,.pp 0 [.val (Value.slice (some (Addr.mk b0 o0 none)) T cap)]),(2,.pp 0 [(iv fun _=>zi N)]),(4,(iv fun _=>zi (P0 x.1)))],[],40⟩,fun x=>k-x.1,?_,?_⟩
 ·refine⟨⟨0,by omega⟩,?_⟩
  cbv
  repeat' (first|with_reducible refine ua3 ?_ ?_|with_reducible refine And.intro ?_ ?_)
  all_goals first|trivial|exact qN (Fit.refl _)|(refine qN (qE ?_);(try simp only [qX]at *);simp only [zQ,zA,zB,zC,zD,zE,zF,zG,zH,zI,zJ,zK,zL,zM,zN,zO,zP,zR,zS]at *;omega)|skip
 ·rintro ⟨x,hx⟩
  cbv
  have hxl:=hpl2 x
  have hxs:=hps x
  have hxm:=hpm x hx
  have hxt:=hplt x hx
  repeat' (first
   |with_reducible refine un2 ?_
   |with_reducible refine ua3 ?_ ?_
   |with_reducible refine And.intro ?_ ?_
   |(with_reducible intro hcd;(try simp only [zA,zB,zC,zD,zE,zF,zG,zH,zI,zJ,zK,zL,zM,zN,zO,zP]at hcd);try cbv)
   | ((have _h:=hn1)
      refine Exists.intro (V x) ?_
      cbv
      refine ua3 ?_ ?_)
   | (obtain⟨n1,hn1⟩:∃n1,n1=T-P0 x:=⟨_,rfl⟩
      obtain⟨c1,hc1'⟩:∃c1,c1=cap-P0 x:=⟨_,rfl⟩
      obtain⟨a1,ha1⟩:∃a1:Addr,a1=Addr.mk b0 (o0+P0 x*2) none:=⟨_,rfl⟩
      refine Exists.intro (Value.slice (some a1) n1 c1) ?_
      cbv
      refine ua3 ?_ ?_)
   |fail)
  all_goals first|trivial|((try simp only [qX]at *);(try simp only [zQ,zA,zB,zC,zD,zE,zF,zG,zH,zI,zJ,zK,zL,zM,zN,zO,zP,zR,zS]at *);first|(refine qO ?_;omega)|(simp only [uap];omega))|(subst ha1 hn1 hc1';(try simp only [qX]at *);(try simp only [zQ,zA,zB,zC,zD,zE,zF,zG,zH,zI,zJ,zK,zL,zM,zN,zO,zP,zR,zS]at *);simp only [uap,Addr.add_mid,IX.den,Int.ofNat_eq_natCast,Option.isSome_none,Option.isSome_some];(try simp only [zi]at *);refine⟨fun q=>q,?_,?_,?_,?_,?_,?_⟩;omega;omega;omega;omega;omega;(refine uuP ?_ ?_ ?_<;>omega))|((try simp only [qX]at *);(try simp only [zQ,zA,zB,zC,zD,zE,zF,zG,zH,zI,zJ,zK,zL,zM,zN,zO,zP,zR,zS]at *);simp only [uap,Addr.add_mid,IX.den,Int.ofNat_eq_natCast,Option.isSome_none,Option.isSome_some];(try simp only [zi]at *);refine⟨fun _=>trivial,?_,?_,?_,?_,?_,?_⟩;omega;omega;omega;omega;omega;(rw [hVe,←hpe];refine uuP ?_ ?_ ?_<;>omega))|(refine⟨rfl,?_,?_⟩;((try simp only [qX]at *);(try simp only [zQ,zA,zB,zC,zD,zE,zF,zG,zH,zI,zJ,zK,zL,zM,zN,zO,zP,zR,zS]at *);omega);(simp only [];rw [help];exact fun _ _ _ h=>h))|((have hxk:x<k:=by((try simp only [qX]at *);(try simp only [zQ,zA,zB,zC,zD,zE,zF,zG,zH,zI,zJ,zK,zL,zM,zN,zO,zP,zR,zS]at *);omega));refine⟨⟨x+1,hxk⟩,(by simp only [];omega),?_,?_⟩;(intro _;rfl);cbv;(repeat' (first|with_reducible refine ua3 ?_ ?_|with_reducible refine And.intro ?_ ?_));(all_goals first|trivial|exact qN (Fit.refl _)|(refine qN (qE ?_);simp only [IX.den,upG,zi];rw [hxs];omega)))|skip
theorem uxa (T N k:Nat)(a b:Nat→Int)(A B:Nat→Nat→Int)(hN:1≤N)(hT:T=N*k)(hT1:1≤T)(hT2:T≤1000)(hA:∀i n,i<k→n<N→a (N*i+n)=A i n)(hB:∀i n,i<k→n<N→b (N*i+n)=B i n):
 ugj Try.prog 108 [.pp 0 [(.sl 2 (.sym fun _=>zi T) (fun ix=>[(iv fun _=>a ix.den.toNat),(iv fun _=>b ix.den.toNat)]))],.pp 0 [(iv fun _=>zi N)]] k (fun i=>[(.sl 2 (.sym fun _=>zi N) (fun ix=>[(iv fun _=>A i ix.den.toNat),(iv fun _=>B i ix.den.toNat)]))]):=by
 refine ujr (T:=T) (N:=N) (nn:=fun _=>.sym fun _=>zi N) rfl hT1 (by simp only [maxLen];omega) hN (by omega) (fun _=>rfl) (fun i hi ix h0 h1=> ?_) (fun b0 o0 cap h1 h2=>uv9 T N k b0 o0 cap hN hT hT2 h1 h2)
 have e1:a (N*i+ix.den.toNat)=A i ix.den.toNat:=hA i _ hi (by omega)
 have e2:b (N*i+ix.den.toNat)=B i ix.den.toNat:=hB i _ hi (by omega)
 exact(qC (qE (show IX.den (.sym fun _=>a (N*i+ix.den.toNat))=IX.den (.sym fun _=>A i ix.den.toNat)from e1)) rfl (qC (qE (show IX.den (.sym fun _=>b (N*i+ix.den.toNat))=IX.den (.sym fun _=>B i ix.den.toNat)from e2)) rfl qA)).le
end Go.Proofs.Ytpkgnhcfmpbidaa

namespace Go.Proofs.Ytpkgnhcfmpbidaa
open Go Go.Eng Go.Proofs Go.Eng.Ck Go.Eng.Few
set_option maxRecDepth 10000
theorem uqb (n:Nat)(a b:Nat→Int)(hl:n≤1000):ua0 Try.prog 77 [(.sl 2 (.sym fun _=>zi n) (fun ix=>[(iv fun _=>a ix.den.toNat),(iv fun _=>b ix.den.toNat)]))] [] (fun r _=>r=(.sl 2 (.sym fun _=>zi n) (fun ix=>[(iv fun _=>a ix.den.toNat),(iv fun _=>b ix.den.toNat)]))):=by
 refine ua0.is fun R hR=>qY (sc:=uy8) uas mix Try.func77 rfl Try.call77 (by kernel_rfl) (by kernel_rfl) ?_
 generalize Try.prog=P
 cbv
 repeat' (first|with_reducible refine ua3 ?_ ?_|with_reducible refine And.intro ?_ ?_|(with_reducible intro hcd;(try simp only [zA,zB,zC,zD,zE,zF,zG,zH,zI,zJ,zK,zL,zM,zN,zO,zP]at hcd);try cbv)|fail)
 all_goals first|((try simp only [qX]at *);(try simp only [zQ,zA,zB,zC,zD,zE,zF,zG,zH,zI,zJ,zK,zL,zM,zN,zO,zP,zR,zS]at *);first|(refine qO ?_;omega)|(simp only [uap];omega))|(subst hR;(refine ua1 ?_ (fun _ _ _=>Fit.refl _);first|rfl|((try simp only [qX]at *);(try simp only [zQ,zA,zB,zC,zD,zE,zF,zG,zH,zI,zJ,zK,zL,zM,zN,zO,zP,zR,zS]at *);omega));done)|(subst hR;(exact qP (by first|assumption|((try simp only [qX]at *);(try simp only [zQ,zA,zB,zC,zD,zE,zF,zG,zH,zI,zJ,zK,zL,zM,zN,zO,zP,zR,zS]at *);omega)));done)|skip
theorem unA (c:Clr)(hf:ua6 c=0)(hc:udN c=true):ua0 Try.prog 30 [(.agg [(caS c.cs),(mvS c.mv),(gaS c.gs)])] [] (fun r _=>r=(.tup [(.sl 1 (.sym fun _=>zi c.cs.length) (fun ix=>[(.sl 2 (.sym fun _=>zi (c.mv.length+1)) (fun jx=>[(iv fun _=>bLo c ix.den.toNat jx.den.toNat),(iv fun _=>bHi c ix.den.toNat jx.den.toNat)]))])),(iv fun _=>0)])):=by
 have hC:=uaa.1 hf
 have hl:=uvg hC
 have hm4:=hC.m4
 have hc3:=hC.c3
 obtain⟨N,hN⟩:∃N,N=(c.mv.length+1):=⟨_,rfl⟩
 obtain⟨T,hT⟩:∃T,T=N*c.cs.length:=⟨_,rfl⟩
 have c75:=uqz c hf hc
 rw [←hN,←hT]at c75 hl
 rw [←hN]
 have c76:=(show ua0 Try.prog 76 [(.sl 2 (.sym fun _=>zi T) (fun ix=>[(iv fun _=>bLo c (ix.den.toNat/N) (ix.den.toNat%N)),(iv fun _=>bHi c (ix.den.toNat/N) (ix.den.toNat%N))])),(iv fun _=>zi N)] [] (fun r _=>r = .clo 108 [] [.pp 0 [(.sl 2 (.sym fun _=>zi T) (fun ix=>[(iv fun _=>bLo c (ix.den.toNat/N) (ix.den.toNat%N)),(iv fun _=>bHi c (ix.den.toNat/N) (ix.den.toNat%N))]))],.pp 0 [(iv fun _=>zi N)]])from utf T N (fun e=>bLo c (e/N) (e%N)) (fun e=>bHi c (e/N) (e%N)) (by omega))
 obtain⟨el,hel⟩:∃el:Nat→List SV,el=fun i=>[(.sl 2 (.sym fun _=>zi N) (fun jx=>[(iv fun _=>bLo c i jx.den.toNat),(iv fun _=>bHi c i jx.den.toNat)]))]:=⟨_,rfl⟩
 have cI:ugj Try.prog 108 [.pp 0 [(.sl 2 (.sym fun _=>zi T) (fun ix=>[(iv fun _=>bLo c (ix.den.toNat/N) (ix.den.toNat%N)),(iv fun _=>bHi c (ix.den.toNat/N) (ix.den.toNat%N))]))],.pp 0 [(iv fun _=>zi N)]] c.cs.length el:=by
  rw [hel]
  refine uxa T N c.cs.length (fun e=>bLo c (e/N) (e%N)) (fun e=>bHi c (e/N) (e%N)) (fun i n=>bLo c i n) (fun i n=>bHi c i n) (by omega) hT (by omega) (by omega) (fun i n hi hn=> ?_) (fun i n hi hn=> ?_)
  ·show bLo c ((N*i+n)/N) ((N*i+n)%N)=bLo c i n
   rw [Nat.mul_add_div (by omega),Nat.mul_add_mod,Nat.mod_eq_of_lt hn,Nat.div_eq_of_lt hn,Nat.add_zero]
  ·show bHi c ((N*i+n)/N) ((N*i+n)%N)=bHi c i n
   rw [Nat.mul_add_div (by omega),Nat.mul_add_mod,Nat.mod_eq_of_lt hn,Nat.div_eq_of_lt hn,Nat.add_zero]
 have elen:∀i,(el i).length=1∧SV.idsL (el i)=[]:=fun i=>by rw [hel];exact⟨rfl,rfl⟩
 have ei:∀i,el i=[(.sl 2 (.sym fun _=>zi N) (fun jx=>[(iv fun _=>bLo c i jx.den.toNat),(iv fun _=>bHi c i jx.den.toNat)]))]:=fun i=>by rw [hel]
 have c77:∀i,ua0 Try.prog 77 [(.sl 2 (.sym fun _=>zi N) (fun jx=>[(iv fun _=>bLo c i jx.den.toNat),(iv fun _=>bHi c i jx.den.toNat)]))] [] (fun r _=>r=(.sl 2 (.sym fun _=>zi N) (fun jx=>[(iv fun _=>bLo c i jx.den.toNat),(iv fun _=>bHi c i jx.den.toNat)]))):=fun i=>uqb N (fun n=>bLo c i n) (fun n=>bHi c i n) (by omega)
 obtain⟨L,hL⟩:∃L,L=c.cs.length:=⟨_,rfl⟩
 rw [←hL]at cI
 clear hel hT hc hf
 refine ua0.is fun R hR=>qY (sc:=uyj) uas mix Try.func30 rfl Try.call30 (by kernel_rfl) (by kernel_rfl) ?_
 generalize Try.prog=P at c75 c76 c77 cI⊢
 cbv
 repeat' (first|with_reducible refine ua3 ?_ ?_|with_reducible refine And.intro ?_ ?_|(with_reducible intro hcd;(try simp only [zA,zB,zC,zD,zE,zF,zG,zH,zI,zJ,zK,zL,zM,zN,zO,zP]at hcd);try cbv)|(refine qQ ?_ (c75) ?hfit;(case hfit=>((repeat' (first|exact qB|refine qD ?_ ?_|exact qE (by rfl)|exact qF (by rfl)|exact Fit.refl _|exact qA|refine qC ?_ rfl ?_));done));try cbv)|(refine qQ ?_ (c76) ?hfit;(case hfit=>((repeat' (first|exact qA|exact qB|refine qC ?_ rfl ?_|refine qD ?_ ?_|exact qE (by rfl)|exact qF (by rfl)|exact Fit.refl _|exact qG _|(refine qE ?_;(try simp only [qX]at *);simp only [zQ,zA,zB,zC,zD,zE,zF,zG,zH,zI,zJ,zK,zL,zM,zN,zO,zP,zR,zS]at *;omega)));done));try cbv)|fail)
 all_goals first|trivial|((try simp only [qX]at *);(try simp only [zQ,zA,zB,zC,zD,zE,zF,zG,zH,zI,zJ,zK,zL,zM,zN,zO,zP,zR,zS]at *);first|(refine qO ?_;omega)|(simp only [uap];omega))|skip
 refine⟨[⟨.cell 13 0,59,1⟩],L,el,fun _=>Unit,fun i _=>([(0,.cells [(caS c.cs),(mvS c.mv),(gaS c.gs)] 36),(13,.cells [.row 20] 56),(20,.row 59 1 (.sym fun _=>zi i) (fun ix=>[(.sl 2 (.sym fun _=>zi N) (fun jx=>[(iv fun _=>bLo c ix.den.toNat jx.den.toNat),(iv fun _=>bHi c ix.den.toNat jx.den.toNat)]))]))],60),?_⟩
 cbv
 refine⟨fun _=>⟨cI,elen⟩,⟨(),?_⟩,?_,?_⟩
 ·cbv
  repeat' (first|with_reducible refine ua3 ?_ ?_|with_reducible refine And.intro ?_ ?_)
  all_goals first|trivial|exact qL (qK _)|(refine qL (ua8 ?_ ?_);(first|rfl|((try simp only [qX]at *);(try simp only [zQ,zA,zB,zC,zD,zE,zF,zG,zH,zI,zJ,zK,zL,zM,zN,zO,zP,zR,zS]at *);omega));intro ix h0 h1;exfalso;(try simp only [qX]at *);(try simp only [zQ,zA,zB,zC,zD,zE,zF,zG,zH,zI,zJ,zK,zL,zM,zN,zO,zP,zR,zS]at *);omega)|skip
 ·intro i _ hil
  simp only [ei]
  cbv
  repeat' (first
   |(refine qQ ?_ ((c77 i)) ?hfit;(case hfit=>((repeat' (first|exact qB|refine qD ?_ ?_|exact qE (by rfl)|exact qF (by rfl)|exact Fit.refl _|exact qA|refine qC ?_ rfl ?_));done));try cbv)
   | (refine⟨fun ix=>[(.sl 2 (.sym fun _=>zi N) (fun jx=>[(iv fun _=>bLo c ix.den.toNat jx.den.toNat),(iv fun _=>bHi c ix.den.toNat jx.den.toNat)]))],?_⟩
      cbv
      refine ua3 (uaH (by intro ix jx h0 h1 h2;simp only [h2];exact Fit.refl _) (by intro ix jx h0 h1 h2;(have h3:jx.den.toNat=i:=by((try simp only [qX]at *);(try simp only [zQ,zA,zB,zC,zD,zE,zF,zG,zH,zI,zJ,zK,zL,zM,zN,zO,zP,zR,zS]at *);omega));simp only [h3];exact Fit.refl _)  om) (Or.inl ?_)
      try cbv)
   |fail)
  all_goals first|(refine⟨(),?_⟩;cbv;(repeat' (first|with_reducible refine ua3 ?_ ?_|with_reducible refine And.intro ?_ ?_));(all_goals first|trivial|exact qN (qE (by rfl))|exact qN (qF (by rfl))|exact qN (Fit.refl _)|exact qL (qK _)|(refine qN (qE ?_);(try simp only [qX]at *);simp only [zQ,zA,zB,zC,zD,zE,zF,zG,zH,zI,zJ,zK,zL,zM,zN,zO,zP,zR,zS]at *;omega)|(refine qL (qJ ?_);(repeat' (first|exact qA|exact qB|refine qC ?_ rfl ?_|refine qD ?_ ?_|exact qE (by rfl)|exact qF (by rfl)|exact Fit.refl _|exact qG _|(refine qE ?_;(try simp only [qX]at *);simp only [zQ,zA,zB,zC,zD,zE,zF,zG,zH,zI,zJ,zK,zL,zM,zN,zO,zP,zR,zS]at *;omega)));done)|(refine qL (ua8 ?_ ?_)<;>first|rfl|((try simp only [qX]at *);(try simp only [zQ,zA,zB,zC,zD,zE,zF,zG,zH,zI,zJ,zK,zL,zM,zN,zO,zP,zR,zS]at *);omega)|(intro ix h0 h1;exact Fit.refl _))|skip))|skip
 ·intro _
  cbv
  repeat' (first|fail)
  all_goals first|(subst hR;(subst hL;exact qD (Fit.refl _) (qD (qE rfl) qB));done)|skip
end Go.Proofs.Ytpkgnhcfmpbidaa
