/- Contracts of the functions that the laws come to. No condition. -/
import Derived.Test.YtkdggbfknlcdaaaGreatT4
set_option linter.unusedVariables false
set_option linter.unusedSimpArgs false
set_option linter.deprecated false

namespace Go.Proofs.YtkdggbfknlcdaaaGreat
open Go Go.Eng Go.Proofs Go.Eng.Dif Go.Eng.Few
set_option maxRecDepth 10000
theorem uwO {f i:Nat}(h:f=4)(hi:i<16):iN (f*4) i=mS 0 i:=by subst h;exact uvR hi
theorem uwE {f t i:Nat}(h:t=4):iN (f*4+t) i=iN ((f+1)*4) i:=by
 subst h
 rw [show f*4+4=(f+1)*4 by omega]
theorem uwD {f t i:Nat}(h:i=f*4+t)(ht:t<4)(hd:f≠t):2000=iN (f*4+(t+1)) i:=uws (k:=f*4+t) h (by omega)
theorem uwS {f t i:Nat}(h:i≠f*4+t):iN (f*4+t) i=iN (f*4+(t+1)) i:=usJ h
theorem uu1 {f t i:Nat}(ht:t<4)(hd:f=t):iN (f*4+t) i=iN (f*4+(t+1)) i:=ux9 (k:=f*4+t) (by omega)
theorem uyp (s i:Nat):ugd (mS s) ⟨(0:Int).toNat,(zi s+1).toNat,0,2000⟩ i=mS (s+1) i:=by rw [uAZ];rfl
theorem uwp {d:Dsp} {s i:Nat}(h:s=SN d):mS s i=mL d 0 i:=by subst h;rfl
theorem uyu {d:Dsp} {k:Nat}(hd:DOk d)(h:k<d.ls.length)(i:Nat):ugd (mL d k) ⟨((d.ls.getD k l0T).a+1).toNat,((d.ls.getD k l0T).b+1).toNat,(d.ls.getD k l0T).lo,(d.ls.getD k l0T).hi⟩ i=mL d (k+1) i:=by
 have:=hd.l k h
 unfold ud3 at this
 rw [uzY h (by omega) (by omega)]
theorem uvy {d:Dsp} {K:List FaT} {k i:Nat}(h:k=d.ls.length):mL d k i=mF d K 0 i:=by subst h;rfl
theorem uy9 {d:Dsp} {K:List FaT} {k:Nat}(hK:FOk d K)(h:k<K.length)(i:Nat):ugd (mF d K k) ⟨(0:Int).toNat,((K.getD k f0T).s+1).toNat,mLo d (K.getD k f0T),mHi d (K.getD k f0T)⟩ i=mF d K (k+1) i:=by
 have:=hK k h
 unfold uca at this
 rw [uzT h (by omega)]
 rfl
set_option maxHeartbeats 4000000 in
theorem ubA (d:Dsp)(o:List Int)(hd:DOk d)(ho:o.length≤1000):ua0 Tryz.prog 42 [(wpS d),(iS o)] [] (fun r _=>r=(.tup [(.agg [(.arr 16 (fun ix=>(iv fun _=>(clo (ufq d d.fs o)) ix.den.toNat)))]),(bv fun _=>ud7 d d.fs o)])):=by
 have c67:= @ugH
 have c87:=ux7 d o
 have c68:= @ul1
 obtain⟨K,hKd⟩:∃K,K=ubQ d.fs o:=⟨_,rfl⟩
 have hK:FOk d K:=by rw [hKd];exact ukL hd.f o
 obtain⟨L,hL⟩:∃L,L=K.length:=⟨_,rfl⟩
 obtain⟨el,hel⟩:∃el:Nat→List SV,el=(fun n:Nat=>[(.agg [(iv fun _=>(K.getD n f0T).p),(iv fun _=>(K.getD n f0T).s),(iv fun _=>(K.getD n f0T).wl),(iv fun _=>(K.getD n f0T).wh),(iv fun _=>(K.getD n f0T).ml),(iv fun _=>(K.getD n f0T).mh)])]):=⟨_,rfl⟩
 have cI:uln Tryz.prog 107 [(.pp 0 [(wpS d)]),.pp 0 [(iS o)]] L el:=by rw [hel,hL,hKd];exact uuo d o (by have:=hd.f6;omega) ho
 have elen:∀i,(el i).length=1∧SV.idsL (el i)=[]:=fun i=>by rw [hel];exact⟨rfl,rfl⟩
 have ei:∀i,el i=[(.agg [(iv fun _=>(K.getD i f0T).p),(iv fun _=>(K.getD i f0T).s),(iv fun _=>(K.getD i f0T).wl),(iv fun _=>(K.getD i f0T).wh),(iv fun _=>(K.getD i f0T).ml),(iv fun _=>(K.getD i f0T).mh)])]:=fun i=>by rw [hel]
 have hbd:∀i,-2000≤mF d K L i∧mF d K L i≤2000:=fun i=>by rw [hL,usy];exact ut5 hd hK i
 have hend:mF d K L=ufq d d.fs o:=by rw [hL,usy,hKd];rfl
 have hKb:∀i,i<L→(0≤(K.getD i f0T).s∧(K.getD i f0T).s≤d.sn-1)∧0≤mLo d (K.getD i f0T)∧mLo d (K.getD i f0T)≤mHi d (K.getD i f0T)∧mHi d (K.getD i f0T)≤2000:=fun i hi=>by
  have q:=hK i (by rw [←hL];exact hi)
  have b:=uov hd.t q
  unfold uca at q
  exact⟨q.2.1,b⟩
 have c45:=fun (i:Nat) (hi:i<L)=>upc d (K.getD i f0T) hd.t (hK i (by rw [←hL];exact hi))
 have s1:=hd.s1
 have s3:=hd.s3
 have l4:=hd.l4
 rw [show ud7 d d.fs o=okD (clo (ufq d d.fs o))from rfl]
 clear hel hKd
 refine ua0.is fun R hR=>qW (sc:=uAn) uaj mix Tryz.func42 rfl Tryz.call42 (by kernel_rfl) (by kernel_rfl) ?_
 generalize Tryz.prog=P at c67 c87 c68 c45 cI⊢
 cbv
 repeat' (first|fail)
 all_goals first|skip
 refine⟨none,[],{f:Nat // f≤4},fun x=>⟨[(1,(iS o)),(2,.own 0 0),(4,.own 1 0),(12,(iv fun _=>zi x.1))],[(0,.cells [(wpS d)] 87),(1,.cells [(.arr 16 (fun ix=>(iv fun _=>(iN (x.1*4)) ix.den.toNat)))] 95)],100⟩,fun x=>4-x.1,?_,?_⟩
 ·refine⟨⟨0,by omega⟩,?_⟩
  cbv
  repeat' (first|with_reducible refine ua4 ?_ ?_|with_reducible refine And.intro ?_ ?_)
  all_goals first|trivial|exact qM (qE (by rfl))|exact qM (Fit.refl _)|exact qL (qK _)|(refine qL (qJ (ub1 (fun ix h0 h1=>qE (uA0 _).symm) qA)))|skip
 ·rintro ⟨f, hf⟩
  cbv
  repeat' (first|with_reducible refine And.intro ?_ ?_|(with_reducible intro hcd;(try simp only [zA,zB,zC,zD,zE,zF,zG,zH,zI,zJ,zK,zL,zM,zN,zO,zP]at hcd);try cbv)|fail)
  all_goals first|skip
  refine⟨none,[],{t:Nat // t≤4},fun x=>⟨[(1,(iS o)),(2,.own 0 0),(4,.own 1 0),(12,(iv fun _=>zi f)),(6,(iv fun _=>zi f)),(15,(iv fun _=>zi x.1))],[(0,.cells [(wpS d)] 87),(1,.cells [(.arr 16 (fun ix=>(iv fun _=>(iN (f*4+x.1)) ix.den.toNat)))] 95)],200⟩,fun x=>4-x.1,?_,?_⟩
  ·refine⟨⟨0,by omega⟩,?_⟩
   cbv
   repeat' (first|with_reducible refine ua4 ?_ ?_|with_reducible refine And.intro ?_ ?_)
   all_goals first|trivial|exact qM (qE (by rfl))|exact qM (Fit.refl _)|exact qL (qK _)|skip
  ·rintro ⟨t,ht⟩
   cbv
   repeat' (first
    |with_reducible refine ua4 ?_ ?_
    |with_reducible refine And.intro ?_ ?_
    |(with_reducible intro hcd;(try simp only [zA,zB,zC,zD,zE,zF,zG,zH,zI,zJ,zK,zL,zM,zN,zO,zP]at hcd);try cbv)
    | (refine⟨fun ix=>(iv fun _=>iN (f*4+(t+1)) ix.den.toNat),?_⟩
       cbv
       refine ua4 (ugU (by intro jx h0 h1 h2;refine qE ?_;(try simp only [qV]at *);(try simp only [zQ,zA,zB,zC,zD,zE,zF,zG,zH,zI,zJ,zK,zL,zM,zN,zO,zP,zR,zS]at *);exact uwD (by omega) (by omega) (by omega)) (by intro jx h0 h1 h2;refine qE ?_;(try simp only [qV]at *);(try simp only [zQ,zA,zB,zC,zD,zE,zF,zG,zH,zI,zJ,zK,zL,zM,zN,zO,zP,zR,zS]at *);exact uwS (by omega))) ?_
       try cbv)
    |fail)
   all_goals first|((try simp only [qV]at *);(try simp only [zQ,zA,zB,zC,zD,zE,zF,zG,zH,zI,zJ,zK,zL,zM,zN,zO,zP,zR,zS]at *);first|(refine qN ?_;omega)|(simp only [uam];omega))|((try simp only [zQ,zA,zB,zC,zD,zE,zF,zG,zH,zI,zJ,zK,zL,zM,zN,zO,zP,zR,zS]at *);refine⟨⟨t+1,by omega⟩,by simp only [];omega,?_⟩;cbv;(repeat' (first|with_reducible refine ua4 ?_ ?_|with_reducible refine And.intro ?_ ?_));(all_goals first|trivial|exact qM (qE (by rfl))|exact qM (qF (by rfl))|exact qM (Fit.refl _)|exact qL (qK _)|(refine qM (qE ?_);(try simp only [qV]at *);simp only [zQ,zA,zB,zC,zD,zE,zF,zG,zH,zI,zJ,zK,zL,zM,zN,zO,zP,zR,zS]at *;omega)|(refine qL (qJ ?_);(repeat' (first|exact qA|exact qB|refine qC ?_ rfl ?_|refine qD ?_ ?_|exact qE (by rfl)|exact qF (by rfl)|exact Fit.refl _|exact qG _|(refine qE ?_;(try simp only [qV]at *);simp only [zQ,zA,zB,zC,zD,zE,zF,zG,zH,zI,zJ,zK,zL,zM,zN,zO,zP,zR,zS]at *;omega)));done)|(refine qL (qJ (ub1 (fun ix h0 h1=>qE rfl) qA)))|(refine qL (qJ (ub1 (fun ix h0 h1=>qE (uu1 (by((try simp only [qV]at *);(try simp only [zQ,zA,zB,zC,zD,zE,zF,zG,zH,zI,zJ,zK,zL,zM,zN,zO,zP,zR,zS]at *);omega)) (by((try simp only [qV]at *);(try simp only [zQ,zA,zB,zC,zD,zE,zF,zG,zH,zI,zJ,zK,zL,zM,zN,zO,zP,zR,zS]at *);omega)))) qA)))|skip))|((try simp only [zQ,zA,zB,zC,zD,zE,zF,zG,zH,zI,zJ,zK,zL,zM,zN,zO,zP,zR,zS]at *);refine⟨⟨f+1,by omega⟩,by simp only [];omega,?_⟩;cbv;(repeat' (first|with_reducible refine ua4 ?_ ?_|with_reducible refine And.intro ?_ ?_));(all_goals first|trivial|exact qM (qE (by rfl))|exact qM (qF (by rfl))|exact qM (Fit.refl _)|exact qL (qK _)|(refine qM (qE ?_);(try simp only [qV]at *);simp only [zQ,zA,zB,zC,zD,zE,zF,zG,zH,zI,zJ,zK,zL,zM,zN,zO,zP,zR,zS]at *;omega)|(refine qL (qJ ?_);(repeat' (first|exact qA|exact qB|refine qC ?_ rfl ?_|refine qD ?_ ?_|exact qE (by rfl)|exact qF (by rfl)|exact Fit.refl _|exact qG _|(refine qE ?_;(try simp only [qV]at *);simp only [zQ,zA,zB,zC,zD,zE,zF,zG,zH,zI,zJ,zK,zL,zM,zN,zO,zP,zR,zS]at *;omega)));done)|(refine qL (qJ (ub1 (fun ix h0 h1=>qE (uwE (by((try simp only [qV]at *);(try simp only [zQ,zA,zB,zC,zD,zE,zF,zG,zH,zI,zJ,zK,zL,zM,zN,zO,zP,zR,zS]at *);omega)))) qA)))|skip))|skip
  refine⟨none,[],{s:Nat // s≤d.sn.toNat},fun x=>⟨[(1,(iS o)),(2,.own 0 0),(4,.own 1 0),(31,(iv fun _=>d.sn)),(32,(iv fun _=>zi x.1))],[(0,.cells [(wpS d)] 87),(1,.cells [(.arr 16 (fun ix=>(iv fun _=>(mS x.1) ix.den.toNat)))] 95)],300⟩,fun x=>d.sn.toNat-x.1,?_,?_⟩
  ·refine⟨⟨0,by omega⟩,?_⟩
   cbv
   repeat' (first|with_reducible refine ua4 ?_ ?_|with_reducible refine And.intro ?_ ?_)
   all_goals first|trivial|exact qM (qE (by rfl))|exact qM (Fit.refl _)|exact qL (qK _)|(refine qL (qJ (ub1 (fun ix h0 h1=>qE (uwO (by((try simp only [qV]at *);(try simp only [zQ,zA,zB,zC,zD,zE,zF,zG,zH,zI,zJ,zK,zL,zM,zN,zO,zP,zR,zS]at *);omega)) (by omega))) qA)))|skip
  ·rintro ⟨s, hs⟩
   cbv
   repeat' (first
    |with_reducible refine ua4 ?_ ?_
    |with_reducible refine And.intro ?_ ?_
    |(with_reducible intro hcd;(try simp only [zA,zB,zC,zD,zE,zF,zG,zH,zI,zJ,zK,zL,zM,zN,zO,zP]at hcd);try cbv)
    | (refine⟨some [1],?_⟩
       cbv
       refine qQ ?_ (c67 (mS s) 0 (zi s+1) 0 2000 (by omega) ⟨(by((try simp only [qV]at *);(try simp only [zQ,zA,zB,zC,zD,zE,zF,zG,zH,zI,zJ,zK,zL,zM,zN,zO,zP,zR,zS]at *);omega)),(by((try simp only [qV]at *);(try simp only [zQ,zA,zB,zC,zD,zE,zF,zG,zH,zI,zJ,zK,zL,zM,zN,zO,zP,zR,zS]at *);omega))⟩ (by omega)) ?hfit ?hbo
       case hfit=>(cbv;(repeat' (first|exact qB|refine qD ?_ ?_|exact qE (by rfl)|exact qF (by rfl)|exact Fit.refl _|exact qA|refine qC ?_ rfl ?_));done)
       case hbo=>(cbv;(repeat' (first|exact qH|refine qI ?_ ?_|exact qK _|refine qJ ?_|exact qA|exact qE (by rfl)|exact qF (by rfl)|exact Fit.refl _|exact qG _|refine qC ?_ rfl ?_));done)
       try cbv)
    |fail)
   all_goals first|((try simp only [qV]at *);(try simp only [zQ,zA,zB,zC,zD,zE,zF,zG,zH,zI,zJ,zK,zL,zM,zN,zO,zP,zR,zS]at *);first|(refine qN ?_;omega)|(simp only [uam];omega))|((try simp only [zQ,zA,zB,zC,zD,zE,zF,zG,zH,zI,zJ,zK,zL,zM,zN,zO,zP,zR,zS]at *);refine⟨⟨s+1,by((try simp only [qV]at *);(try simp only [zQ,zA,zB,zC,zD,zE,zF,zG,zH,zI,zJ,zK,zL,zM,zN,zO,zP,zR,zS]at *);omega)⟩,by simp only [];omega,?_⟩;cbv;(repeat' (first|with_reducible refine ua4 ?_ ?_|with_reducible refine And.intro ?_ ?_));(all_goals first|trivial|exact qM (qE (by rfl))|exact qM (qF (by rfl))|exact qM (Fit.refl _)|exact qL (qK _)|(refine qM (qE ?_);(try simp only [qV]at *);simp only [zQ,zA,zB,zC,zD,zE,zF,zG,zH,zI,zJ,zK,zL,zM,zN,zO,zP,zR,zS]at *;omega)|(refine qL (qJ ?_);(repeat' (first|exact qA|exact qB|refine qC ?_ rfl ?_|refine qD ?_ ?_|exact qE (by rfl)|exact qF (by rfl)|exact Fit.refl _|exact qG _|(refine qE ?_;(try simp only [qV]at *);simp only [zQ,zA,zB,zC,zD,zE,zF,zG,zH,zI,zJ,zK,zL,zM,zN,zO,zP,zR,zS]at *;omega)));done)|(refine qL (qJ (ub1 (fun ix h0 h1=>qE (uyp s _)) qA)))|skip))|skip
   refine⟨none,[],{k:Nat // k≤d.ls.length},fun x=>⟨[(1,(iS o)),(2,.own 0 0),(4,.own 1 0),(44,(.sl 4 (.sym fun _=>zi (d.ls).length) (fun ix=>[(iv fun _=>((d.ls).getD ix.den.toNat l0T).a),(iv fun _=>((d.ls).getD ix.den.toNat l0T).b),(iv fun _=>((d.ls).getD ix.den.toNat l0T).lo),(iv fun _=>((d.ls).getD ix.den.toNat l0T).hi)]))),(45,(iv fun _=>zi d.ls.length)),(46,(iv fun _=>zi x.1))],[(0,.cells [(wpS d)] 87),(1,.cells [(.arr 16 (fun ix=>(iv fun _=>(mL d x.1) ix.den.toNat)))] 95)],400⟩,fun x=>d.ls.length-x.1,?_,?_⟩
   ·refine⟨⟨0,by omega⟩,?_⟩
    cbv
    repeat' (first|with_reducible refine ua4 ?_ ?_|with_reducible refine And.intro ?_ ?_)
    all_goals first|trivial|exact qM (qE (by rfl))|exact qM (Fit.refl _)|exact qL (qK _)|(refine qL (qJ (ub1 (fun ix h0 h1=>qE (uwp (by unfold SN;(try simp only [qV]at *);(try simp only [zQ,zA,zB,zC,zD,zE,zF,zG,zH,zI,zJ,zK,zL,zM,zN,zO,zP,zR,zS]at *);omega))) qA)))|skip
   ·rintro ⟨k,hk⟩
    cbv
    have hlk:k<d.ls.length→ud3 d.sn (d.ls.getD k l0T):=hd.l k
    unfold ud3 at hlk
    repeat' (first
     |with_reducible refine ua4 ?_ ?_
     |with_reducible refine And.intro ?_ ?_
     |(with_reducible intro hcd;(try simp only [zA,zB,zC,zD,zE,zF,zG,zH,zI,zJ,zK,zL,zM,zN,zO,zP]at hcd);try cbv)
     | ((have hk9:=hlk (by((try simp only [qV]at *);(try simp only [zQ,zA,zB,zC,zD,zE,zF,zG,zH,zI,zJ,zK,zL,zM,zN,zO,zP,zR,zS]at *);omega)))
        refine⟨some [1],?_⟩
        cbv
        refine qQ ?_ (c67 (mL d k) ((d.ls.getD k l0T).a+1) ((d.ls.getD k l0T).b+1) (d.ls.getD k l0T).lo (d.ls.getD k l0T).hi ⟨by omega,by omega⟩ ⟨by omega,by omega⟩ (by omega)) ?hfit ?hbo
        case hfit=>(cbv;(repeat' (first|exact qB|refine qD ?_ ?_|exact qE (by rfl)|exact qF (by rfl)|exact Fit.refl _|exact qA|refine qC ?_ rfl ?_));done)
        case hbo=>(cbv;(repeat' (first|exact qH|refine qI ?_ ?_|exact qK _|refine qJ ?_|exact qA|exact qE (by rfl)|exact qF (by rfl)|exact Fit.refl _|exact qG _|refine qC ?_ rfl ?_));done)
        try cbv)
     |(refine qP ?_ (c87) ?hfit;(case hfit=>((repeat' (first|exact qB|refine qD ?_ ?_|exact qE (by rfl)|exact qF (by rfl)|exact Fit.refl _|exact qA|refine qC ?_ rfl ?_));done));try cbv)
     |fail)
    all_goals first|((try simp only [qV]at *);(try simp only [zQ,zA,zB,zC,zD,zE,zF,zG,zH,zI,zJ,zK,zL,zM,zN,zO,zP,zR,zS]at *);first|(refine qN ?_;omega)|(simp only [uam];omega))|((try simp only [zQ,zA,zB,zC,zD,zE,zF,zG,zH,zI,zJ,zK,zL,zM,zN,zO,zP,zR,zS]at *);refine⟨⟨k+1,by((try simp only [qV]at *);(try simp only [zQ,zA,zB,zC,zD,zE,zF,zG,zH,zI,zJ,zK,zL,zM,zN,zO,zP,zR,zS]at *);omega)⟩,by simp only [];omega,?_⟩;cbv;(repeat' (first|with_reducible refine ua4 ?_ ?_|with_reducible refine And.intro ?_ ?_));(all_goals first|trivial|exact qM (qE (by rfl))|exact qM (qF (by rfl))|exact qM (Fit.refl _)|exact qL (qK _)|(refine qM (qE ?_);(try simp only [qV]at *);simp only [zQ,zA,zB,zC,zD,zE,zF,zG,zH,zI,zJ,zK,zL,zM,zN,zO,zP,zR,zS]at *;omega)|(refine qL (qJ ?_);(repeat' (first|exact qA|exact qB|refine qC ?_ rfl ?_|refine qD ?_ ?_|exact qE (by rfl)|exact qF (by rfl)|exact Fit.refl _|exact qG _|(refine qE ?_;(try simp only [qV]at *);simp only [zQ,zA,zB,zC,zD,zE,zF,zG,zH,zI,zJ,zK,zL,zM,zN,zO,zP,zR,zS]at *;omega)));done)|(refine qL (qJ (ub1 (fun ix h0 h1=>qE (uyu hd (by((try simp only [qV]at *);(try simp only [zQ,zA,zB,zC,zD,zE,zF,zG,zH,zI,zJ,zK,zL,zM,zN,zO,zP,zR,zS]at *);omega)) _)) qA)))|skip))|skip
    refine⟨[],L,el,fun _=>Unit,fun i _=>([(0,.cells [(wpS d)] 87),(1,.cells [(.arr 16 (fun ix=>(iv fun _=>(mF d K i) ix.den.toNat)))] 95)],500),?_⟩
    cbv
    refine⟨fun _=>⟨cI,elen⟩,⟨(),?_⟩,?_,?_⟩
    ·cbv
     repeat' (first|with_reducible refine ua4 ?_ ?_|with_reducible refine And.intro ?_ ?_)
     all_goals first|trivial|exact qL (qK _)|(refine qL (qJ (ub1 (fun ix h0 h1=>qE (uvy (by((try simp only [qV]at *);(try simp only [zQ,zA,zB,zC,zD,zE,zF,zG,zH,zI,zJ,zK,zL,zM,zN,zO,zP,zR,zS]at *);omega)))) qA)))|skip
    ·intro i _ hil
     have hil':i<L:=hil
     simp only [ei]
     cbv
     repeat' (first
      |with_reducible refine ua4 ?_ ?_
      |(refine qP ?_ (c45 i hil) ?hfit;(case hfit=>((repeat' (first|exact qB|refine qD ?_ ?_|exact qE (by rfl)|exact qF (by rfl)|exact Fit.refl _|exact qA|refine qC ?_ rfl ?_));done));try cbv)
      | ((have hk9:=hKb i hil)
         refine⟨some [1],?_⟩
         cbv
         refine qQ ?_ (c67 (mF d K i) 0 ((K.getD i f0T).s+1) (mLo d (K.getD i f0T)) (mHi d (K.getD i f0T)) (by omega) ⟨by omega,by omega⟩ (by omega)) ?hfit ?hbo
         case hfit=>(cbv;(repeat' (first|exact qB|refine qD ?_ ?_|exact qE (by rfl)|exact qF (by rfl)|exact Fit.refl _|exact qA|refine qC ?_ rfl ?_));done)
         case hbo=>(cbv;(repeat' (first|exact qH|refine qI ?_ ?_|exact qK _|refine qJ ?_|exact qA|exact qE (by rfl)|exact qF (by rfl)|exact Fit.refl _|exact qG _|refine qC ?_ rfl ?_));done)
         try cbv)
      |fail)
     all_goals first|((have hk9:=hKb i hil);(try simp only [qV]at *);(try simp only [zQ,zA,zB,zC,zD,zE,zF,zG,zH,zI,zJ,zK,zL,zM,zN,zO,zP,zR,zS]at *);simp only [uam];first|omega|exact⟨by omega,by omega⟩)|(refine⟨(),?_⟩;cbv;(repeat' (first|with_reducible refine ua4 ?_ ?_|with_reducible refine And.intro ?_ ?_));(all_goals first|trivial|exact qM (qE (by rfl))|exact qM (qF (by rfl))|exact qM (Fit.refl _)|exact qL (qK _)|(refine qM (qE ?_);(try simp only [qV]at *);simp only [zQ,zA,zB,zC,zD,zE,zF,zG,zH,zI,zJ,zK,zL,zM,zN,zO,zP,zR,zS]at *;omega)|(refine qL (qJ ?_);(repeat' (first|exact qA|exact qB|refine qC ?_ rfl ?_|refine qD ?_ ?_|exact qE (by rfl)|exact qF (by rfl)|exact Fit.refl _|exact qG _|(refine qE ?_;(try simp only [qV]at *);simp only [zQ,zA,zB,zC,zD,zE,zF,zG,zH,zI,zJ,zK,zL,zM,zN,zO,zP,zR,zS]at *;omega)));done)|(refine qL (qJ (ub1 (fun ix h0 h1=>qE (uy9 hK (by rw [←hL];exact hil) _)) qA)))|skip))|skip
    ·intro _
     cbv
     repeat' (first
      | (refine⟨some [1],?_⟩
         cbv
         refine qQ ?_ (c68 (mF d K L) (fun i _=>(hbd i).1) (fun i _=>(hbd i).2)) ?hfit ?hbo
         case hfit=>(cbv;(repeat' (first|exact qB|refine qD ?_ ?_|exact qE (by rfl)|exact qF (by rfl)|exact Fit.refl _|exact qA|refine qC ?_ rfl ?_));done)
         case hbo=>(cbv;(repeat' (first|exact qH|refine qI ?_ ?_|exact qK _|refine qJ ?_|exact qA|exact qE (by rfl)|exact qF (by rfl)|exact Fit.refl _|exact qG _|refine qC ?_ rfl ?_));done)
         try cbv)
      |fail)
     all_goals first|(subst hR;(rw [hend];exact Fit.refl _);done)|skip
end Go.Proofs.YtkdggbfknlcdaaaGreat
namespace Go.Proofs.YtkdggbfknlcdaaaGreat
open Go.Eng.Dif
theorem uir (fs:List FaT):ubQ fs []=fs:=by
 have h:∀n,n≤fs.length→kpT fs (ukq []) n=fs.take n:=by
  intro n
  induction n with
  |zero=>intro _;rfl
  | succ n ih=>
   intro hn
   rw [uoE (show ukq [] n=true from rfl),ih (by omega),ui6 (by omega),List.getD_eq_getElem?_getD,List.getElem?_eq_getElem (by omega)]
   rfl
 unfold ubQ
 rw [h _ (Nat.le_refl _),List.take_of_length_le (Nat.le_refl _)]
theorem ukn {d:Dsp}(h:DOk d) {o:List Int}(hc:ud7 d d.fs o=true) {i:Nat}(hi:i<16): -2000≤clo (ufq d d.fs o) i∧clo (ufq d d.fs o) i≤2000:=by
 have hk:=ukL h.f o
 exact⟨upP (okk h hk) hc hi,Int.le_trans (uhM _ _) (ut5 h hk i).2⟩
def ufw (d:Dsp)(n:Int):Int:=if ua5 d=0 then(if inB 0 n ((d.fs.length:Int)-1)=true then 0 else 2)else ua5 d
def ujG (d:Dsp)(n:Int):Int:=if ufw d n=0 then mLo d (d.fs.getD n.toNat f0T)else 0
def uk2 (d:Dsp)(n:Int):Int:=if ufw d n=0 then mHi d (d.fs.getD n.toNat f0T)else 0
theorem upf {d:Dsp} {n:Int}(h:¬ua5 d=0):ufw d n=ua5 d∧ujG d n=0∧uk2 d n=0:=by
 have e:ufw d n=ua5 d:=by unfold ufw;rw [if_neg h]
 exact⟨e,by unfold ujG;rw [e,if_neg h],by unfold uk2;rw [e,if_neg h]⟩
theorem usw {d:Dsp} {n:Int}(h:ua5 d=0)(hn:¬(0≤n∧n≤(d.fs.length:Int)-1)):ufw d n=2∧ujG d n=0∧uk2 d n=0:=by
 have e:ufw d n=2:=by unfold ufw;rw [if_pos h,if_neg (by rw [uax];exact hn)]
 exact⟨e,by unfold ujG;rw [e];rfl,by unfold uk2;rw [e];rfl⟩
theorem ujk {d:Dsp} {n:Int}(h:ua5 d=0)(hn:0≤n∧n≤(d.fs.length:Int)-1):ufw d n=0∧ujG d n=mLo d (d.fs.getD n.toNat f0T)∧uk2 d n=mHi d (d.fs.getD n.toNat f0T):=by
 have e:ufw d n=0:=by unfold ufw;rw [if_pos h,if_pos (by rw [uax];exact hn)]
 exact⟨e,by unfold ujG;rw [e];rfl,by unfold uk2;rw [e];rfl⟩
def ui2 (d:Dsp):Int:=if ua5 d=0 then(if ud7 d d.fs []=true then 0 else 11)else ua5 d
def uof (d:Dsp):Int:=if ui2 d=0 then d.sn else 0
def loT (d:Dsp)(o:List Int)(s:Nat):Int:= -clo (ufq d d.fs o) (at4 (s+1) 0)
def hiT (d:Dsp)(o:List Int)(s:Nat):Int:=clo (ufq d d.fs o) (at4 0 (s+1))
theorem umC {d:Dsp}(h:¬ua5 d=0):ui2 d=ua5 d∧uof d=0:=by
 have e:ui2 d=ua5 d:=by unfold ui2;rw [if_neg h]
 exact⟨e,by unfold uof;rw [e,if_neg h]⟩
theorem ukI {d:Dsp}(h:ua5 d=0)(hc:ud7 d d.fs []=false):ui2 d=11∧uof d=0:=by
 have e:ui2 d=11:=by unfold ui2;rw [if_pos h,if_neg (by rw [hc];simp)]
 exact⟨e,by unfold uof;rw [e];rfl⟩
theorem udv {d:Dsp}(h:ua5 d=0)(hc:ud7 d d.fs []=true):ui2 d=0∧uof d=d.sn:=by
 have e:ui2 d=0:=by unfold ui2;rw [if_pos h,if_pos hc]
 exact⟨e,by unfold uof;rw [e];rfl⟩
theorem uqt {d:Dsp}(h:ui2 d=0):ua5 d=0∧ud7 d d.fs []=true:=by
 by_cases hF:ua5 d=0
 ·refine⟨hF,?_⟩
  cases hC:ud7 d d.fs []with
  |true=>rfl
  |false=>rw [(ukI hF hC).1]at h;omega
 ·rw [(umC hF).1]at h;exact absurd h hF
theorem uqK {d:Dsp}(h:¬ui2 d=0):uof d=0:=by unfold uof;rw [if_neg h]
end Go.Proofs.YtkdggbfknlcdaaaGreat
namespace Go.Proofs.YtkdggbfknlcdaaaGreat
open Go Go.Eng Go.Proofs Go.Eng.Dif Go.Eng.Few
set_option maxRecDepth 10000
theorem uw7 (d:Dsp)(n:Int)(hl:d.fs.length≤1000):ua0 Tryz.prog 38 [(ub5 d),(iv fun _=>n)] [] (fun r _=>r=(.tup [(.agg [(iv fun _=>ujG d n),(iv fun _=>uk2 d n)]),(iv fun _=>ufw d n)])):=by
 have c16:=ubB d
 have c43:= @ucW
 have c44:=ucB d
 have c45:=fun (i:Nat) (h:ua5 d=0∧i<d.fs.length)=>upc d (d.fs.getD i f0T) (ua2.1 h.1).t ((ua2.1 h.1).f i h.2)
 refine ua0.is fun R hR=>qW (sc:=uzN) uaj mix Tryz.func38 rfl Tryz.call38 (by kernel_rfl) (by kernel_rfl) ?_
 generalize Tryz.prog=P at c16 c43 c44 c45⊢
 cbv
 repeat' (first
  |with_reducible refine ua4 ?_ ?_
  |with_reducible refine And.intro ?_ ?_
  |(with_reducible intro hcd;(try simp only [zA,zB,zC,zD,zE,zF,zG,zH,zI,zJ,zK,zL,zM,zN,zO,zP]at hcd);try cbv)
  |(refine qP ?_ (c16) ?hfit;(case hfit=>((repeat' (first|exact qB|refine qD ?_ ?_|exact qE (by rfl)|exact qF (by rfl)|exact Fit.refl _|exact qA|refine qC ?_ rfl ?_));done));try cbv)
  |(refine qP ?_ (c43 _ _ _) (by(repeat' (first|exact qB|refine qD ?_ ?_|exact qE (by rfl)|exact qF (by rfl)|exact Fit.refl _|exact qA|refine qC ?_ rfl ?_)));try cbv)
  |(refine qP ?_ (c44) ?hfit;(case hfit=>((repeat' (first|exact qB|refine qD ?_ ?_|exact qE (by rfl)|exact qF (by rfl)|exact Fit.refl _|exact qA|refine qC ?_ rfl ?_));done));try cbv)
  | ((have hn9:0≤n∧n≤(d.fs.length:Int)-1:=(by((try simp only [qV]at *);(try simp only [zQ,zA,zB,zC,zD,zE,zF,zG,zH,zI,zJ,zK,zL,zM,zN,zO,zP,zR,zS]at *);(try simp only [uag,uai,uax,uaO,uaK,uaN,ua9,uaa,ua8,uab]at *);omega)))
     refine qP ?_ (c45 n.toNat ⟨by first|assumption|omega,by omega⟩) ?hfit
     case hfit=>((repeat' (first|exact qB|refine qD ?_ ?_|exact qE (by rfl)|exact qF (by rfl)|exact Fit.refl _|exact qA|refine qC ?_ rfl ?_));done)
     try cbv)
  |fail)
 all_goals first|((try simp only [qV]at *);(try simp only [zQ,zA,zB,zC,zD,zE,zF,zG,zH,zI,zJ,zK,zL,zM,zN,zO,zP,zR,zS,uag,uai,uax,uaO,uaK,uaN,ua9,uaa,ua8,uab]at *);first|(refine qN ?_;omega)|(simp only [uam];omega))|(subst hR;(refine qD (qC (qE ?_) rfl (qC (qE ?_) rfl qA)) (qD (qE ?_) qB)<;>((try simp only [qV]at *);(try simp only [zQ,zA,zB,zC,zD,zE,zF,zG,zH,zI,zJ,zK,zL,zM,zN,zO,zP,zR,zS]at *);(try simp only [uag,uai,uax,uaO,uaK,uaN,ua9,uaa,ua8,uab]at *);(have h0:=upf (d:=d) (n:=n) (by first|assumption|omega));first|exact h0.2.1.symm|exact h0.2.2.symm|exact h0.1.symm));done)|(subst hR;(refine qD (qC (qE ?_) rfl (qC (qE ?_) rfl qA)) (qD (qE ?_) qB)<;>((try simp only [qV]at *);(try simp only [zQ,zA,zB,zC,zD,zE,zF,zG,zH,zI,zJ,zK,zL,zM,zN,zO,zP,zR,zS]at *);(try simp only [uag,uai,uax,uaO,uaK,uaN,ua9,uaa,ua8,uab]at *);(have h0:=usw (d:=d) (n:=n) (by first|assumption|omega) (by first|assumption|omega));first|exact h0.2.1.symm|exact h0.2.2.symm|exact h0.1.symm));done)|(subst hR;(refine qD (qC (qE ?_) rfl (qC (qE ?_) rfl qA)) (qD (qE ?_) qB)<;>((try simp only [qV]at *);(try simp only [zQ,zA,zB,zC,zD,zE,zF,zG,zH,zI,zJ,zK,zL,zM,zN,zO,zP,zR,zS]at *);(try simp only [uag,uai,uax,uaO,uaK,uaN,ua9,uaa,ua8,uab]at *);(have h0:=ujk (d:=d) (n:=n) (by first|assumption|omega) (by omega));first|exact h0.2.1.symm|exact h0.2.2.symm|exact h0.1.symm));done)|skip
theorem ups (d:Dsp)(h:ui2 d=0):ua0 Tryz.prog 30 [(ub5 d)] [] (fun r _=>r=(.tup [(.sl 2 (.sym fun _=>uof d) (fun ix=>[(iv fun _=>loT d [] ix.den.toNat),(iv fun _=>hiT d [] ix.den.toNat)])),(iv fun _=>ui2 d)])):=by
 have c16:=ubB d
 have c44:=ucB d
 have hF:=(uqt h).1
 have hC:=(uqt h).2
 have s1:=(ua2.1 hF).s1
 have s3:=(ua2.1 hF).s3
 have c54:=ubA d [] (ua2.1 hF) (by simp)
 have hbd:=fun (i:Nat) (hi:i<16)=>ukn (ua2.1 hF) hC hi
 have c55:=fun (s:Int) (hs:0≤s∧s<3)=>uep (clo (ufq d d.fs [])) s hs (fun i hi=>⟨by have:=hbd i hi;omega,by have:=hbd i hi;omega⟩)
 refine ua0.is fun R hR=>qW (sc:=uzy) uaj mix Tryz.func30 rfl Tryz.call30 (by kernel_rfl) (by kernel_rfl) ?_
 generalize Tryz.prog=P at c16 c44 c54 c55⊢
 cbv
 repeat' (first|with_reducible refine And.intro ?_ ?_|(with_reducible intro hcd;(try simp only [zA,zB,zC,zD,zE,zF,zG,zH,zI,zJ,zK,zL,zM,zN,zO,zP]at hcd);try cbv)|(refine qP ?_ (c16) ?hfit;(case hfit=>((repeat' (first|exact qB|refine qD ?_ ?_|exact qE (by rfl)|exact qF (by rfl)|exact Fit.refl _|exact qA|refine qC ?_ rfl ?_));done));try cbv)|(refine qP ?_ (c44) ?hfit;(case hfit=>((repeat' (first|exact qB|refine qD ?_ ?_|exact qE (by rfl)|exact qF (by rfl)|exact Fit.refl _|exact qA|refine qC ?_ rfl ?_));done));try cbv)|(refine qP ?_ (c54) ?hfit;(case hfit=>((refine qD (Fit.refl _) (qD (qO rfl) qB));done));try cbv)|fail)
 all_goals first|trivial|(exfalso;rw [hC]at hcd;cases hcd;done)|skip
 refine⟨none,[⟨.tmp 7,59,2⟩],{s:Nat // s≤d.sn.toNat},fun x=>⟨[(1,.own 0 0),(5,.own 14 0),(7,.row 23),(23,(iv fun _=>d.sn)),(24,(iv fun _=>zi x.1))],[(0,.cells [(iS d.tw),(iS d.tm),(.sl 1 (.sym fun _=>zi (d.tv).length) (fun ix=>[(.sl 1 (.sym fun _=>zi ((d.tv).getD ix.den.toNat []).length) (fun jx=>[(iv fun _=>((d.tv).getD ix.den.toNat []).getD jx.den.toNat 0)]))])),(iv fun _=>d.sn),(iv fun _=>d.pn),(.sl 4 (.sym fun _=>zi (d.ls).length) (fun ix=>[(iv fun _=>((d.ls).getD ix.den.toNat l0T).a),(iv fun _=>((d.ls).getD ix.den.toNat l0T).b),(iv fun _=>((d.ls).getD ix.den.toNat l0T).lo),(iv fun _=>((d.ls).getD ix.den.toNat l0T).hi)])),(.sl 6 (.sym fun _=>zi (d.fs).length) (fun ix=>[(iv fun _=>((d.fs).getD ix.den.toNat f0T).p),(iv fun _=>((d.fs).getD ix.den.toNat f0T).s),(iv fun _=>((d.fs).getD ix.den.toNat f0T).wl),(iv fun _=>((d.fs).getD ix.den.toNat f0T).wh),(iv fun _=>((d.fs).getD ix.den.toNat f0T).ml),(iv fun _=>((d.fs).getD ix.den.toNat f0T).mh)]))] 39),(14,.cells [(.arr 16 (fun ix=>(iv fun _=>(clo (ufq d d.fs [])) ix.den.toNat)))] 95),(23,.row 59 2 (.sym fun _=>zi x.1) (fun ix=>[(iv fun _=>loT d [] ix.den.toNat),(iv fun _=>hiT d [] ix.den.toNat)]))],100⟩,fun x=>d.sn.toNat-x.1,?_,?_⟩
 ·refine⟨⟨0,by omega⟩,?_⟩
  cbv
  repeat' (first|with_reducible refine ua4 ?_ ?_|with_reducible refine And.intro ?_ ?_)
  all_goals first|trivial|exact qM (qE (by rfl))|exact qM (Fit.refl _)|exact qL (qK _)|(refine qL (uae ?_ ?_);(first|rfl|((try simp only [qV]at *);(try simp only [zQ,zA,zB,zC,zD,zE,zF,zG,zH,zI,zJ,zK,zL,zM,zN,zO,zP,zR,zS]at *);omega));intro ix h0 h1;exfalso;(try simp only [qV]at *);(try simp only [zQ,zA,zB,zC,zD,zE,zF,zG,zH,zI,zJ,zK,zL,zM,zN,zO,zP,zR,zS]at *);omega)|skip
 ·rintro ⟨s,hs⟩
  cbv
  repeat' (first
   |with_reducible refine ua4 ?_ ?_
   |with_reducible refine And.intro ?_ ?_
   |(with_reducible intro hcd;(try simp only [zA,zB,zC,zD,zE,zF,zG,zH,zI,zJ,zK,zL,zM,zN,zO,zP]at hcd);try cbv)
   | (refine⟨some [14],?_⟩
      cbv
      refine qQ ?_ (c55 (zi s) ⟨(by((try simp only [qV]at *);(try simp only [zQ,zA,zB,zC,zD,zE,zF,zG,zH,zI,zJ,zK,zL,zM,zN,zO,zP,zR,zS]at *);omega)),(by((try simp only [qV]at *);(try simp only [zQ,zA,zB,zC,zD,zE,zF,zG,zH,zI,zJ,zK,zL,zM,zN,zO,zP,zR,zS]at *);omega))⟩) ?hfit ?hbo
      case hfit=>(cbv;(repeat' (first|exact qB|refine qD ?_ ?_|exact qE (by rfl)|exact qF (by rfl)|exact Fit.refl _|exact qA|refine qC ?_ rfl ?_));done)
      case hbo=>(cbv;(repeat' (first|exact qH|refine qI ?_ ?_|exact qK _|refine qJ ?_|exact qA|exact qE (by rfl)|exact qF (by rfl)|exact Fit.refl _|exact qG _|refine qC ?_ rfl ?_));done)
      try cbv)
   | (refine⟨fun ix=>[(iv fun _=>loT d [] ix.den.toNat),(iv fun _=>hiT d [] ix.den.toNat)],?_⟩
      cbv
      refine ua4 (ubj (by intro ix jx h0 h1 h2;simp only [h2];exact Fit.refl _) (by intro ix jx h0 h1 h2;(have h3:jx.den.toNat=s:=by((try simp only [qV]at *);(try simp only [zQ,zA,zB,zC,zD,zE,zF,zG,zH,zI,zJ,zK,zL,zM,zN,zO,zP,zR,zS]at *);omega));simp only [h3];exact qC (qE rfl) rfl (qC (qE rfl) rfl qA)) (by(try simp only [qV]at *);(try simp only [zQ,zA,zB,zC,zD,zE,zF,zG,zH,zI,zJ,zK,zL,zM,zN,zO,zP,zR,zS]at *);omega)) (Or.inl ?_)
      try cbv)
   |fail)
  all_goals first|((try simp only [qV]at *);(try simp only [zQ,zA,zB,zC,zD,zE,zF,zG,zH,zI,zJ,zK,zL,zM,zN,zO,zP,zR,zS]at *);first|(refine qN ?_;omega)|(simp only [uam];omega))|((have hse:(s:Int)=d.sn:=(by((try simp only [qV]at *);(try simp only [zQ,zA,zB,zC,zD,zE,zF,zG,zH,zI,zJ,zK,zL,zM,zN,zO,zP,zR,zS]at *);omega)));subst hR;exact qD (ua1 (hse.trans (udv hF hC).2.symm) (fun _ _ _=>Fit.refl _)) (qD (qE h.symm) qB))|((try simp only [zQ,zA,zB,zC,zD,zE,zF,zG,zH,zI,zJ,zK,zL,zM,zN,zO,zP,zR,zS]at *);refine⟨⟨s+1,by((try simp only [qV]at *);(try simp only [zQ,zA,zB,zC,zD,zE,zF,zG,zH,zI,zJ,zK,zL,zM,zN,zO,zP,zR,zS]at *);omega)⟩,by simp only [];omega,?_⟩;cbv;(repeat' (first|with_reducible refine ua4 ?_ ?_|with_reducible refine And.intro ?_ ?_));(all_goals first|trivial|exact qM (qE (by rfl))|exact qM (qF (by rfl))|exact qM (Fit.refl _)|exact qL (qK _)|(refine qM (qE ?_);(try simp only [qV]at *);simp only [zQ,zA,zB,zC,zD,zE,zF,zG,zH,zI,zJ,zK,zL,zM,zN,zO,zP,zR,zS]at *;omega)|(refine qL (qJ ?_);(repeat' (first|exact qA|exact qB|refine qC ?_ rfl ?_|refine qD ?_ ?_|exact qE (by rfl)|exact qF (by rfl)|exact Fit.refl _|exact qG _|(refine qE ?_;(try simp only [qV]at *);simp only [zQ,zA,zB,zC,zD,zE,zF,zG,zH,zI,zJ,zK,zL,zM,zN,zO,zP,zR,zS]at *;omega)));done)|(refine qL (uae ?_ ?_)<;>first|rfl|((try simp only [qV]at *);(try simp only [zQ,zA,zB,zC,zD,zE,zF,zG,zH,zI,zJ,zK,zL,zM,zN,zO,zP,zR,zS]at *);omega)|(intro ix h0 h1;exact Fit.refl _))|skip))|skip
theorem uoV (d:Dsp)(h:¬ui2 d=0):ua0 Tryz.prog 30 [(ub5 d)] [] (fun r _=>r=(.tup [(.sl 2 (.sym fun _=>uof d) (fun ix=>[(iv fun _=>loT d [] ix.den.toNat),(iv fun _=>hiT d [] ix.den.toNat)])),(iv fun _=>ui2 d)])):=by
 have c16:=ubB d
 have c44:=ucB d
 have c54:=fun h:ua5 d=0=>ubA d [] (ua2.1 h) (by simp)
 refine ua0.is fun R hR=>qW (sc:=uzy) uaj mix Tryz.func30 rfl Tryz.call30 (by kernel_rfl) (by kernel_rfl) ?_
 generalize Tryz.prog=P at c16 c44 c54⊢
 cbv
 repeat' (first|with_reducible refine And.intro ?_ ?_|(with_reducible intro hcd;(try simp only [zA,zB,zC,zD,zE,zF,zG,zH,zI,zJ,zK,zL,zM,zN,zO,zP]at hcd);try cbv)|(refine qP ?_ (c16) ?hfit;(case hfit=>((repeat' (first|exact qB|refine qD ?_ ?_|exact qE (by rfl)|exact qF (by rfl)|exact Fit.refl _|exact qA|refine qC ?_ rfl ?_));done));try cbv)|(refine qP ?_ (c44) ?hfit;(case hfit=>((repeat' (first|exact qB|refine qD ?_ ?_|exact qE (by rfl)|exact qF (by rfl)|exact Fit.refl _|exact qA|refine qC ?_ rfl ?_));done));try cbv)|(refine qP ?_ (c54 (show uam _ from ?_)) ?hfit;(case hfit=>((refine qD (Fit.refl _) (qD (qO rfl) qB));done));try cbv)|fail)
 all_goals first|trivial|(subst hR;((try simp only [qV]at *);(try simp only [zQ,zA,zB,zC,zD,zE,zF,zG,zH,zI,zJ,zK,zL,zM,zN,zO,zP,zR,zS]at *);(exact qD (qO (uqK h)) (qD (qE (umC (d:=d) (by first|assumption|omega)).1.symm) qB)));done)|(subst hR;((try simp only [qV]at *);(try simp only [zQ,zA,zB,zC,zD,zE,zF,zG,zH,zI,zJ,zK,zL,zM,zN,zO,zP,zR,zS]at *);(exact qD (qO (uqK h)) (qD (qE (ukI (d:=d) (by first|assumption|omega) (by assumption)).1.symm) qB)));done)|(exfalso;exact h (udv (by((try simp only [qV]at *);(try simp only [zQ,zA,zB,zC,zD,zE,zF,zG,zH,zI,zJ,zK,zL,zM,zN,zO,zP,zR,zS]at *);first|assumption|omega)) (by assumption)).1)|skip
theorem uet (d:Dsp):ua0 Tryz.prog 30 [(ub5 d)] [] (fun r _=>r=(.tup [(.sl 2 (.sym fun _=>uof d) (fun ix=>[(iv fun _=>loT d [] ix.den.toNat),(iv fun _=>hiT d [] ix.den.toNat)])),(iv fun _=>ui2 d)])):=by
 by_cases h:ui2 d=0
 ·exact ups d h
 ·exact uoV d h
theorem upj (l:List Int)(hl:l.length≤1000):ube Tryz.prog 89 [(iS l)] [] (fun r bs=>r = .row 0∧bs=[.row 3 1 (.sym fun _=>zi l.length) (fun ix=>[(iv fun _=>l.getD ix.den.toNat 0)])]):=by
 refine ube.is rfl rfl fun R B hR hB=>uf3 (sc:=uB8) uaj mix Tryz.func89 rfl Tryz.call89 (by kernel_rfl) (by kernel_rfl) ?_
 generalize Tryz.prog=P
 cbv
 repeat' (first|with_reducible refine ua4 ?_ ?_|with_reducible refine And.intro ?_ ?_|(with_reducible intro hcd;(try simp only [zA,zB,zC,zD,zE,zF,zG,zH,zI,zJ,zK,zL,zM,zN,zO,zP]at hcd);try cbv)|fail)
 all_goals first|((try simp only [qV]at *);(try simp only [zQ,zA,zB,zC,zD,zE,zF,zG,zH,zI,zJ,zK,zL,zM,zN,zO,zP,zR,zS]at *);first|(refine qN ?_;omega)|(simp only [uam];omega))|(refine⟨[⟨.tmp 2,3,1⟩],(4:Nat),?_⟩;cbv;subst hR;subst hB;refine⟨?_,?_⟩;(first|exact Fit.refl _|((repeat' (first|exact qA|exact qB|refine qC ?_ rfl ?_|refine qD ?_ ?_|exact qE (by rfl)|exact qF (by rfl)|exact Fit.refl _|exact qG _|(refine qE ?_;(try simp only [qV]at *);simp only [zQ,zA,zB,zC,zD,zE,zF,zG,zH,zI,zJ,zK,zL,zM,zN,zO,zP,zR,zS]at *;omega)));done));(repeat' (first|exact qH|refine qI ?_ ?_));(all_goals first|exact qK _|(refine qJ ?_;(repeat' (first|exact qA|exact qB|refine qC ?_ rfl ?_|refine qD ?_ ?_|exact qE (by rfl)|exact qF (by rfl)|exact Fit.refl _|exact qG _|(refine qE ?_;(try simp only [qV]at *);simp only [zQ,zA,zB,zC,zD,zE,zF,zG,zH,zI,zJ,zK,zL,zM,zN,zO,zP,zR,zS]at *;omega)));done)|(refine uae ?_ ?_;(first|rfl|((try simp only [qV]at *);(try simp only [zQ,zA,zB,zC,zD,zE,zF,zG,zH,zI,zJ,zK,zL,zM,zN,zO,zP,zR,zS]at *);omega));intro ix h0 h1;first|exact Fit.refl _|(exfalso;(try simp only [qV]at *);(try simp only [zQ,zA,zB,zC,zD,zE,zF,zG,zH,zI,zJ,zK,zL,zM,zN,zO,zP,zR,zS]at *);omega))))|(refine⟨[],(5:Nat),?_⟩;cbv;subst hR;subst hB;refine⟨?_,?_⟩;(first|exact Fit.refl _|((repeat' (first|exact qA|exact qB|refine qC ?_ rfl ?_|refine qD ?_ ?_|exact qE (by rfl)|exact qF (by rfl)|exact Fit.refl _|exact qG _|(refine qE ?_;(try simp only [qV]at *);simp only [zQ,zA,zB,zC,zD,zE,zF,zG,zH,zI,zJ,zK,zL,zM,zN,zO,zP,zR,zS]at *;omega)));done));(repeat' (first|exact qH|refine qI ?_ ?_));(all_goals first|exact qK _|(refine qJ ?_;(repeat' (first|exact qA|exact qB|refine qC ?_ rfl ?_|refine qD ?_ ?_|exact qE (by rfl)|exact qF (by rfl)|exact Fit.refl _|exact qG _|(refine qE ?_;(try simp only [qV]at *);simp only [zQ,zA,zB,zC,zD,zE,zF,zG,zH,zI,zJ,zK,zL,zM,zN,zO,zP,zR,zS]at *;omega)));done)|(refine uae ?_ ?_;(first|rfl|((try simp only [qV]at *);(try simp only [zQ,zA,zB,zC,zD,zE,zF,zG,zH,zI,zJ,zK,zL,zM,zN,zO,zP,zR,zS]at *);omega));intro ix h0 h1;first|exact Fit.refl _|(exfalso;(try simp only [qV]at *);(try simp only [zQ,zA,zB,zC,zD,zE,zF,zG,zH,zI,zJ,zK,zL,zM,zN,zO,zP,zR,zS]at *);omega))))|skip
theorem ull (l:List FaT)(hl:l.length≤1000):ua0 Tryz.prog 81 [(.sl 6 (.sym fun _=>zi (l).length) (fun ix=>[(iv fun _=>((l).getD ix.den.toNat f0T).p),(iv fun _=>((l).getD ix.den.toNat f0T).s),(iv fun _=>((l).getD ix.den.toNat f0T).wl),(iv fun _=>((l).getD ix.den.toNat f0T).wh),(iv fun _=>((l).getD ix.den.toNat f0T).ml),(iv fun _=>((l).getD ix.den.toNat f0T).mh)]))] [] (fun r _=>r=(.sl 6 (.sym fun _=>zi (l).length) (fun ix=>[(iv fun _=>((l).getD ix.den.toNat f0T).p),(iv fun _=>((l).getD ix.den.toNat f0T).s),(iv fun _=>((l).getD ix.den.toNat f0T).wl),(iv fun _=>((l).getD ix.den.toNat f0T).wh),(iv fun _=>((l).getD ix.den.toNat f0T).ml),(iv fun _=>((l).getD ix.den.toNat f0T).mh)]))):=by
 refine ua0.is fun R hR=>qW (sc:=uAF) uaj mix Tryz.func81 rfl Tryz.call81 (by kernel_rfl) (by kernel_rfl) ?_
 generalize Tryz.prog=P
 cbv
 repeat' (first|with_reducible refine ua4 ?_ ?_|with_reducible refine And.intro ?_ ?_|(with_reducible intro hcd;(try simp only [zA,zB,zC,zD,zE,zF,zG,zH,zI,zJ,zK,zL,zM,zN,zO,zP]at hcd);try cbv)|fail)
 all_goals first|((try simp only [qV]at *);(try simp only [zQ,zA,zB,zC,zD,zE,zF,zG,zH,zI,zJ,zK,zL,zM,zN,zO,zP,zR,zS]at *);first|(refine qN ?_;omega)|(simp only [uam];omega))|(subst hR;exact qO (by((try simp only [qV]at *);(try simp only [zQ,zA,zB,zC,zD,zE,zF,zG,zH,zI,zJ,zK,zL,zM,zN,zO,zP,zR,zS]at *);omega));done)|(subst hR;exact Fit.refl _;done)|skip
end Go.Proofs.YtkdggbfknlcdaaaGreat
namespace Go.Proofs.YtkdggbfknlcdaaaGreat
open Go.Eng.Dif
def noF (d:Dsp):Dsp:=⟨d.tw,d.tm,d.tv,d.sn,d.pn,d.ls,[]⟩
def ucl (d:Dsp)(fs:List FaT):Dsp:=⟨d.tw,d.tm,d.tv,d.sn,d.pn,d.ls,fs⟩
theorem umh {d:Dsp}(h:DOk d) {fs:List FaT}(hl:fs.length≤6)(hf:∀f∈fs,uca d f):DOk (ucl d fs):=
 ⟨h.t,h.s1,h.s3,h.p1,h.p4,h.l4,hl,h.l,FOk.of (d:=d) hf⟩
theorem uph {d:Dsp}(h:DOk d):DOk (noF d):=umh h (fs:=[]) (by simp) (fun f hf=>by cases hf)
def udT (d:Dsp):Bool:=ud7 (noF d) [] []
def ual (d:Dsp):Int:=if ua5 d=0 then(if udT d=true then 0 else 9)else ua5 d
theorem uji {d:Dsp}(h:¬ua5 d=0):ual d=ua5 d:=by unfold ual;rw [if_neg h]
theorem umO {d:Dsp}(h:ua5 d=0)(hc:udT d=false):ual d=9:=by unfold ual;rw [if_pos h,if_neg (by rw [hc];simp)]
theorem ugu {d:Dsp}(h:ua5 d=0)(hc:udT d=true):ual d=0:=by unfold ual;rw [if_pos h,if_pos hc]
theorem uaF {d:Dsp}(h:ual d=0):ua5 d=0∧udT d=true:=by
 by_cases hF:ua5 d=0
 ·refine⟨hF,?_⟩
  cases hC:udT d with
  |true=>rfl
  |false=>rw [umO hF hC]at h;omega
 ·rw [uji hF]at h;exact absurd h hF
theorem umn (d:Dsp):udT d=ueJ (SN d) (LO d) []:=rfl
end Go.Proofs.YtkdggbfknlcdaaaGreat
namespace Go.Proofs.YtkdggbfknlcdaaaGreat
open Go Go.Eng Go.Proofs Go.Eng.Dif Go.Eng.Few
set_option maxRecDepth 10000
theorem uux (d:Dsp):ube Tryz.prog 62 [(ub5 d)] [] (fun r bs=>r = .own 0 0∧bs=[.cells [(iS d.tw),(iS d.tm),(.sl 1 (.sym fun _=>zi (d.tv).length) (fun ix=>[(.sl 1 (.sym fun _=>zi ((d.tv).getD ix.den.toNat []).length) (fun jx=>[(iv fun _=>((d.tv).getD ix.den.toNat []).getD jx.den.toNat 0)]))])),(iv fun _=>d.sn),(iv fun _=>d.pn),(.sl 4 (.sym fun _=>zi (d.ls).length) (fun ix=>[(iv fun _=>((d.ls).getD ix.den.toNat l0T).a),(iv fun _=>((d.ls).getD ix.den.toNat l0T).b),(iv fun _=>((d.ls).getD ix.den.toNat l0T).lo),(iv fun _=>((d.ls).getD ix.den.toNat l0T).hi)])),(.sl 6 (.sym fun _=>zi (d.fs).length) (fun ix=>[(iv fun _=>((d.fs).getD ix.den.toNat f0T).p),(iv fun _=>((d.fs).getD ix.den.toNat f0T).s),(iv fun _=>((d.fs).getD ix.den.toNat f0T).wl),(iv fun _=>((d.fs).getD ix.den.toNat f0T).wh),(iv fun _=>((d.fs).getD ix.den.toNat f0T).ml),(iv fun _=>((d.fs).getD ix.den.toNat f0T).mh)])),(.memo 106 59 false 6 (fun ks=>.agg [(iv fun _=>kLo d ks),(iv fun _=>kHi d ks)]))] 92]):=by
 have hmt:=uer
 refine ube.is rfl rfl fun R B hR hB=>uf3 (sc:=uzo) uaj mix Tryz.func62 rfl Tryz.call62 (by kernel_rfl) (by kernel_rfl) ?_
 generalize Tryz.prog=P at hmt⊢
 cbv
 repeat' (first
  | (refine⟨106,59,false,6,?_⟩
     cbv
     refine ua4 ⟨hmt,fun h=>by cases h⟩ ?_
     refine Or.inr ⟨(fun ks=>.agg [(iv fun _=>kLo d ks),(iv fun _=>kHi d ks)]),?_⟩
     cbv)
  |fail)
 all_goals first|(refine⟨[],(5:Nat),?_⟩;cbv;subst hR;subst hB;refine⟨?_,?_⟩;(first|exact Fit.refl _|((repeat' (first|exact qA|exact qB|refine qC ?_ rfl ?_|refine qD ?_ ?_|exact qE (by rfl)|exact qF (by rfl)|exact Fit.refl _|exact qG _|(refine qE ?_;(try simp only [qV]at *);simp only [zQ,zA,zB,zC,zD,zE,zF,zG,zH,zI,zJ,zK,zL,zM,zN,zO,zP,zR,zS]at *;omega)));done));(repeat' (first|exact qH|refine qI ?_ ?_));(all_goals first|exact qK _|(refine qJ ?_;(repeat' (first|exact qA|exact qB|refine qC ?_ rfl ?_|refine qD ?_ ?_|exact qE (by rfl)|exact qF (by rfl)|exact Fit.refl _|exact qG _|(refine qE ?_;(try simp only [qV]at *);simp only [zQ,zA,zB,zC,zD,zE,zF,zG,zH,zI,zJ,zK,zL,zM,zN,zO,zP,zR,zS]at *;omega)));done)|(refine uae ?_ ?_;(first|rfl|((try simp only [qV]at *);(try simp only [zQ,zA,zB,zC,zD,zE,zF,zG,zH,zI,zJ,zK,zL,zM,zN,zO,zP,zR,zS]at *);omega));intro ix h0 h1;first|exact Fit.refl _|(exfalso;(try simp only [qV]at *);(try simp only [zQ,zA,zB,zC,zD,zE,zF,zG,zH,zI,zJ,zK,zL,zM,zN,zO,zP,zR,zS]at *);omega))))|skip
theorem umg (d:Dsp)(h:ual d=0):ua0 Tryz.prog 41 [(ub5 d)] [] (fun r _=>r=(.tup [(wpS d),(iv fun _=>0)])):=by
 have c16:=ubB d
 have c44:=ucB d
 have c44n:=ucB (noF d)
 have c92:=ull d.fs
 have hmt:=uer
 have hF:=(uaF h).1
 have hC:=(uaF h).2
 have f6:=(ua2.1 hF).f6
 have c54:=ubA (noF d) [] (uph (ua2.1 hF)) (by simp)
 have hLn:ud7 (noF d) (noF d).fs []=true:=hC
 rw [hLn]at c54
 refine ua0.is fun R hR=>qW (sc:=uz2) uaj mix Tryz.func41 rfl Tryz.call41 (by kernel_rfl) (by kernel_rfl) ?_
 generalize Tryz.prog=P at c16 c44 c44n c92 hmt c54⊢
 cbv
 repeat' (first|with_reducible refine And.intro ?_ ?_|(with_reducible intro hcd;(try simp only [zA,zB,zC,zD,zE,zF,zG,zH,zI,zJ,zK,zL,zM,zN,zO,zP]at hcd);try cbv)|(refine qP ?_ (c16) ?hfit;(case hfit=>((repeat' (first|exact qB|refine qD ?_ ?_|exact qE (by rfl)|exact qF (by rfl)|exact Fit.refl _|exact qA|refine qC ?_ rfl ?_));done));try cbv)|(refine qP ?_ (c44) ?hfit;(case hfit=>((repeat' (first|exact qB|refine qD ?_ ?_|exact qE (by rfl)|exact qF (by rfl)|exact Fit.refl _|exact qA|refine qC ?_ rfl ?_));done));try cbv)|(refine qP ?_ (c92 (by((try simp only [qV]at *);(try simp only [zQ,zA,zB,zC,zD,zE,zF,zG,zH,zI,zJ,zK,zL,zM,zN,zO,zP,zR,zS]at *);omega))) ?hfit;(case hfit=>((repeat' (first|exact qB|refine qD ?_ ?_|exact qE (by rfl)|exact qF (by rfl)|exact Fit.refl _|exact qA|refine qC ?_ rfl ?_));done));try cbv)|(refine qP ?_ (c44n) ?hfit;(case hfit=>((refine qD ((qC (Fit.refl _) rfl (qC (Fit.refl _) rfl (qC (Fit.refl _) rfl (qC (Fit.refl _) rfl (qC (Fit.refl _) rfl (qC (Fit.refl _) rfl (qC (qO rfl) rfl qA)))))))) qB);done));try cbv)|(refine qP ?_ (c54) ?hfit;(case hfit=>((refine qD (Fit.refl _) (qD (qO rfl) qB));done));try cbv)|fail)
 all_goals first|trivial|(subst hR;(repeat' (first|exact qA|exact qB|refine qC ?_ rfl ?_|refine qD ?_ ?_|exact qE (by rfl)|exact qF (by rfl)|exact Fit.refl _|exact qG _|(refine qE ?_;(try simp only [qV]at *);simp only [zQ,zA,zB,zC,zD,zE,zF,zG,zH,zI,zJ,zK,zL,zM,zN,zO,zP,zR,zS]at *;omega)));done)|skip
theorem uvl (d:Dsp)(h:ual d=0):ube Tryz.prog 41 [(ub5 d)] [] (fun r bs=>r=(.tup [.own 0 0,(iv fun _=>0)])∧bs=[.cells [(iS d.tw),(iS d.tm),(.sl 1 (.sym fun _=>zi (d.tv).length) (fun ix=>[(.sl 1 (.sym fun _=>zi ((d.tv).getD ix.den.toNat []).length) (fun jx=>[(iv fun _=>((d.tv).getD ix.den.toNat []).getD jx.den.toNat 0)]))])),(iv fun _=>d.sn),(iv fun _=>d.pn),(.sl 4 (.sym fun _=>zi (d.ls).length) (fun ix=>[(iv fun _=>((d.ls).getD ix.den.toNat l0T).a),(iv fun _=>((d.ls).getD ix.den.toNat l0T).b),(iv fun _=>((d.ls).getD ix.den.toNat l0T).lo),(iv fun _=>((d.ls).getD ix.den.toNat l0T).hi)])),(.sl 6 (.sym fun _=>zi (d.fs).length) (fun ix=>[(iv fun _=>((d.fs).getD ix.den.toNat f0T).p),(iv fun _=>((d.fs).getD ix.den.toNat f0T).s),(iv fun _=>((d.fs).getD ix.den.toNat f0T).wl),(iv fun _=>((d.fs).getD ix.den.toNat f0T).wh),(iv fun _=>((d.fs).getD ix.den.toNat f0T).ml),(iv fun _=>((d.fs).getD ix.den.toNat f0T).mh)])),(.memo 106 59 false 6 (fun ks=>.agg [(iv fun _=>kLo d ks),(iv fun _=>kHi d ks)]))] 92]):=by
 have c16:=ubB d
 have c44:=ucB d
 have c44n:=ucB (noF d)
 have c92:=ull d.fs
 have hmt:=uer
 have hF:=(uaF h).1
 have hC:=(uaF h).2
 have f6:=(ua2.1 hF).f6
 have c54:=ubA (noF d) [] (uph (ua2.1 hF)) (by simp)
 have hLn:ud7 (noF d) (noF d).fs []=true:=hC
 rw [hLn]at c54
 have c44o:=uux d
 refine ube.is rfl rfl fun R B hR hB=>uf3 (sc:=uz2) uaj mix Tryz.func41 rfl Tryz.call41 (by kernel_rfl) (by kernel_rfl) ?_
 generalize Tryz.prog=P at c16 c44 c44n c92 hmt c54 c44o⊢
 cbv
 repeat' (first
  |with_reducible refine And.intro ?_ ?_
  |(with_reducible intro hcd;(try simp only [zA,zB,zC,zD,zE,zF,zG,zH,zI,zJ,zK,zL,zM,zN,zO,zP]at hcd);try cbv)
  |(refine qP ?_ (c16) ?hfit;(case hfit=>((repeat' (first|exact qB|refine qD ?_ ?_|exact qE (by rfl)|exact qF (by rfl)|exact Fit.refl _|exact qA|refine qC ?_ rfl ?_));done));try cbv)
  |(refine qP ?_ (c92 (by((try simp only [qV]at *);(try simp only [zQ,zA,zB,zC,zD,zE,zF,zG,zH,zI,zJ,zK,zL,zM,zN,zO,zP,zR,zS]at *);omega))) ?hfit;(case hfit=>((repeat' (first|exact qB|refine qD ?_ ?_|exact qE (by rfl)|exact qF (by rfl)|exact Fit.refl _|exact qA|refine qC ?_ rfl ?_));done));try cbv)
  |(refine qP ?_ (c44n) ?hfit;(case hfit=>((refine qD ((qC (Fit.refl _) rfl (qC (Fit.refl _) rfl (qC (Fit.refl _) rfl (qC (Fit.refl _) rfl (qC (Fit.refl _) rfl (qC (Fit.refl _) rfl (qC (qO rfl) rfl qA)))))))) qB);done));try cbv)
  |(refine qP ?_ (c54) ?hfit;(case hfit=>((refine qD (Fit.refl _) (qD (qO rfl) qB));done));try cbv)
  | (refine Or.inr ⟨true,?_⟩
     cbv
     refine qU ?_ (c44o) (by cbv;(repeat' (first|exact qB|refine qD ?_ ?_|exact qE (by rfl)|exact qF (by rfl)|exact Fit.refl _|exact qA|refine qC ?_ rfl ?_))) (by cbv;(repeat' (first|exact qH|refine qI ?_ ?_|exact qK _|refine qJ ?_|exact qA|exact qE (by rfl)|exact qF (by rfl)|exact Fit.refl _|exact qG _|refine qC ?_ rfl ?_)))
     try cbv)
  |fail)
 all_goals first|trivial|(refine⟨[],(30:Nat),?_⟩;cbv;subst hR;subst hB;refine⟨qD (Fit.refl _) (qD (qE rfl) qB),?_⟩;(repeat' (first|exact qH|refine qI ?_ ?_));(all_goals first|exact qK _|(refine qJ ?_;(repeat' (first|exact qA|exact qB|refine qC ?_ rfl ?_|refine qD ?_ ?_|exact qE (by rfl)|exact qF (by rfl)|exact Fit.refl _|exact qG _|(refine qE ?_;(try simp only [qV]at *);simp only [zQ,zA,zB,zC,zD,zE,zF,zG,zH,zI,zJ,zK,zL,zM,zN,zO,zP,zR,zS]at *;omega)));done)))|skip
theorem uim (d:Dsp)(h:¬ual d=0):ua0 Tryz.prog 41 [(ub5 d)] [] (fun r _=>r=(.tup [.val (Value.pointer none),(iv fun _=>ual d)])):=by
 have c16:=ubB d
 have c44:=ucB d
 have c44n:=ucB (noF d)
 have c92:=ull d.fs
 have hmt:=uer
 have c54:=fun h:ua5 d=0=>(show ua0 Tryz.prog 42 [(wpS (noF d)),(iS (([]:List Int)))] [] (fun r _=>r=(.tup [(.agg [(.arr 16 (fun ix=>(iv fun _=>(clo (ufq (noF d) (noF d).fs [])) ix.den.toNat)))]),(bv fun _=>udT d)]))from ubA (noF d) [] (uph (ua2.1 h)) (by simp))
 have hf6:=fun h:ua5 d=0=>(ua2.1 h).f6
 refine ua0.is fun R hR=>qW (sc:=uz2) uaj mix Tryz.func41 rfl Tryz.call41 (by kernel_rfl) (by kernel_rfl) ?_
 generalize Tryz.prog=P at c16 c44 c44n c92 hmt c54⊢
 cbv
 repeat' (first
  |with_reducible refine And.intro ?_ ?_
  |(with_reducible intro hcd;(try simp only [zA,zB,zC,zD,zE,zF,zG,zH,zI,zJ,zK,zL,zM,zN,zO,zP]at hcd);try cbv)
  |(refine qP ?_ (c16) ?hfit;(case hfit=>((repeat' (first|exact qB|refine qD ?_ ?_|exact qE (by rfl)|exact qF (by rfl)|exact Fit.refl _|exact qA|refine qC ?_ rfl ?_));done));try cbv)
  |(refine qP ?_ (c44) ?hfit;(case hfit=>((repeat' (first|exact qB|refine qD ?_ ?_|exact qE (by rfl)|exact qF (by rfl)|exact Fit.refl _|exact qA|refine qC ?_ rfl ?_));done));try cbv)
  | ((have hF9:ua5 d=0:=(by((try simp only [qV]at *);(try simp only [zQ,zA,zB,zC,zD,zE,zF,zG,zH,zI,zJ,zK,zL,zM,zN,zO,zP,zR,zS]at *);omega)))
     (have f6:=hf6 hF9)
     refine qP ?_ (c92 (by((try simp only [qV]at *);(try simp only [zQ,zA,zB,zC,zD,zE,zF,zG,zH,zI,zJ,zK,zL,zM,zN,zO,zP,zR,zS]at *);omega))) ?hfit
     case hfit=>((repeat' (first|exact qB|refine qD ?_ ?_|exact qE (by rfl)|exact qF (by rfl)|exact Fit.refl _|exact qA|refine qC ?_ rfl ?_));done)
     try cbv)
  |(refine qP ?_ (c44n) ?hfit;(case hfit=>((refine qD ((qC (Fit.refl _) rfl (qC (Fit.refl _) rfl (qC (Fit.refl _) rfl (qC (Fit.refl _) rfl (qC (Fit.refl _) rfl (qC (Fit.refl _) rfl (qC (qO rfl) rfl qA)))))))) qB);done));try cbv)
  |(refine qP ?_ (c54 (by((try simp only [qV]at *);(try simp only [zQ,zA,zB,zC,zD,zE,zF,zG,zH,zI,zJ,zK,zL,zM,zN,zO,zP,zR,zS]at *);omega))) ?hfit;(case hfit=>((refine qD (Fit.refl _) (qD (qO rfl) qB));done));try cbv)
  |fail)
 all_goals first|(subst hR;(refine qD (Fit.refl _) (qD (qE ?_) qB);(try simp only [qV]at *);(try simp only [zQ,zA,zB,zC,zD,zE,zF,zG,zH,zI,zJ,zK,zL,zM,zN,zO,zP,zR,zS]at *);first|exact(uji (by first|assumption|omega)).symm|exact(umO (by first|assumption|omega) (by assumption)).symm);done)|(exfalso;exact h (ugu (by((try simp only [qV]at *);(try simp only [zQ,zA,zB,zC,zD,zE,zF,zG,zH,zI,zJ,zK,zL,zM,zN,zO,zP,zR,zS]at *);first|assumption|omega)) (by assumption)))|skip
end Go.Proofs.YtkdggbfknlcdaaaGreat
namespace Go.Proofs.YtkdggbfknlcdaaaGreat
open Go.Eng.Dif
theorem uiu {d:Dsp}:ud7 d d.fs []=ueJ (SN d) (LO d) (FO d d.fs):=by
 unfold ud7 ufq ueJ
 rw [uir]
theorem uuu (d:Dsp)(n:Nat):FO d (d.fs.take n)=(FO d d.fs).take n:=List.map_take ..
theorem urY (d:Dsp)(n:Nat):ud7 (ucl d (d.fs.take n)) (ucl d (d.fs.take n)).fs []=ueJ (SN d) (LO d) ((FO d d.fs).take n):=by
 rw [uiu,←uuu]
 rfl
theorem uuf {d:Dsp}(h:DOk d)(n:Nat):DOk (ucl d (d.fs.take n)):=
 umh h (by have:=h.f6;rw [List.length_take];omega) fun f hf=>FOk.mem h.f (List.mem_of_mem_take hf)
def utD (d:Dsp):Option Nat:=utB (SN d) (LO d) (FO d d.fs) d.fs.length 0
def uqQ (d:Dsp):Int:=if ual d=0 then(match utD d with|some _=>0|none=>7)else ual d
def uqN (d:Dsp):Int:=if ual d=0 then(match utD d with|some r=>(r:Int)|none=>0)else 0
theorem uqW {d:Dsp}(h:¬ual d=0):uqQ d=ual d∧uqN d=0:=by unfold uqQ uqN;rw [if_neg h,if_neg h];exact⟨rfl,rfl⟩
theorem uq4 {d:Dsp}(h:ual d=0)(h':utD d=none):uqQ d=7∧uqN d=0:=by unfold uqQ uqN;rw [if_pos h,if_pos h,h'];exact⟨rfl,rfl⟩
theorem ujU {d:Dsp} {r:Nat}(h:ual d=0)(h':utD d=some r):uqQ d=0∧uqN d=(r:Int):=by unfold uqQ uqN;rw [if_pos h,if_pos h,h'];exact⟨rfl,rfl⟩
def uvo (d:Dsp)(k i:Nat):Option Nat:=utB (SN d) (LO d) (FO d d.fs) k i
def okI (d:Dsp)(i:Nat):Bool:=ueJ (SN d) (LO d) ((FO d d.fs).take (i+1))
theorem uqC {d:Dsp} {k i:Nat}(hk:0<k)(h:okI d i=false):uvo d k i=some i:=by
 cases k with
 |zero=>omega
 |succ k=>unfold uvo utB;rw [show ueJ (SN d) (LO d) ((FO d d.fs).take (i+1))=false from h];rfl
theorem uvi {d:Dsp} {k i:Nat}(hk:0<k)(h:okI d i=true):uvo d k i=uvo d (k-1) (i+1):=by
 cases k with
 |zero=>omega
 |succ k=>unfold uvo;rw [utB,show ueJ (SN d) (LO d) ((FO d d.fs).take (i+1))=true from h];rfl
end Go.Proofs.YtkdggbfknlcdaaaGreat
namespace Go.Proofs.YtkdggbfknlcdaaaGreat
open Go Go.Eng Go.Proofs Go.Eng.Dif Go.Eng.Few
set_option maxRecDepth 10000
theorem urC (fs:List FaT) {n i:Nat}(h:i<n):(fs.take n).getD i f0T=fs.getD i f0T:=by simp [List.getD_eq_getElem?_getD,List.getElem?_take,h]
theorem um0 (fs:List FaT) {i:Nat}(h:i<fs.length):(fs.take (i+1)).length=i+1:=by rw [List.length_take];omega
theorem ujw (fs:List FaT) {n i j:Nat}(hj:j=i)(h:i<n):Fit (.agg [(iv fun _=>(fs.getD j f0T).p),(iv fun _=>(fs.getD j f0T).s),(iv fun _=>(fs.getD j f0T).wl),(iv fun _=>(fs.getD j f0T).wh),(iv fun _=>(fs.getD j f0T).ml),(iv fun _=>(fs.getD j f0T).mh)]) (.agg [(iv fun _=>((fs.take n).getD i f0T).p),(iv fun _=>((fs.take n).getD i f0T).s),(iv fun _=>((fs.take n).getD i f0T).wl),(iv fun _=>((fs.take n).getD i f0T).wh),(iv fun _=>((fs.take n).getD i f0T).ml),(iv fun _=>((fs.take n).getD i f0T).mh)]):=by subst hj;rw [urC fs h];exact Fit.refl _
theorem ur3 (d:Dsp)(h:ual d=0):ua0 Tryz.prog 11 [(ub5 d)] [] (fun r _=>r=(.tup [(iv fun _=>uqN d),(iv fun _=>uqQ d)])):=by
 have hf:=h
 have hF:=(uaF h).1
 have f6:=(ua2.1 hF).f6
 have c54:=fun i:Nat=>(show ua0 Tryz.prog 42 [(.pp 0 [(.sl 1 (.sym fun _=>zi ((ucl d (d.fs.take (i+1))).tw).length) (fun ix=>[(iv fun _=>((ucl d (d.fs.take (i+1))).tw).getD ix.den.toNat 0)])),(.sl 1 (.sym fun _=>zi ((ucl d (d.fs.take (i+1))).tm).length) (fun ix=>[(iv fun _=>((ucl d (d.fs.take (i+1))).tm).getD ix.den.toNat 0)])),(.sl 1 (.sym fun _=>zi ((ucl d (d.fs.take (i+1))).tv).length) (fun ix=>[(.sl 1 (.sym fun _=>zi (((ucl d (d.fs.take (i+1))).tv).getD ix.den.toNat []).length) (fun jx=>[(iv fun _=>(((ucl d (d.fs.take (i+1))).tv).getD ix.den.toNat []).getD jx.den.toNat 0)]))])),(iv fun _=>(ucl d (d.fs.take (i+1))).sn),(iv fun _=>(ucl d (d.fs.take (i+1))).pn),(.sl 4 (.sym fun _=>zi ((ucl d (d.fs.take (i+1))).ls).length) (fun ix=>[(iv fun _=>(((ucl d (d.fs.take (i+1))).ls).getD ix.den.toNat l0T).a),(iv fun _=>(((ucl d (d.fs.take (i+1))).ls).getD ix.den.toNat l0T).b),(iv fun _=>(((ucl d (d.fs.take (i+1))).ls).getD ix.den.toNat l0T).lo),(iv fun _=>(((ucl d (d.fs.take (i+1))).ls).getD ix.den.toNat l0T).hi)])),(.sl 6 (.sym fun _=>zi ((d.fs.take (i+1))).length) (fun ix=>[(iv fun _=>(((d.fs.take (i+1))).getD ix.den.toNat f0T).p),(iv fun _=>(((d.fs.take (i+1))).getD ix.den.toNat f0T).s),(iv fun _=>(((d.fs.take (i+1))).getD ix.den.toNat f0T).wl),(iv fun _=>(((d.fs.take (i+1))).getD ix.den.toNat f0T).wh),(iv fun _=>(((d.fs.take (i+1))).getD ix.den.toNat f0T).ml),(iv fun _=>(((d.fs.take (i+1))).getD ix.den.toNat f0T).mh)])),(.memo 106 59 false 6 (fun ks=>.agg [(iv fun _=>kLo (ucl d (d.fs.take (i+1))) ks),(iv fun _=>kHi (ucl d (d.fs.take (i+1))) ks)]))]),(iS (([]:List Int)))] [] (fun r _=>r=(.tup [(.agg [(.arr 16 (fun ix=>(iv fun _=>(clo (ufq (ucl d (d.fs.take (i+1))) (ucl d (d.fs.take (i+1))).fs [])) ix.den.toNat)))]),(bv fun _=>okI d i)]))from(show ud7 (ucl d (d.fs.take (i+1))) (ucl d (d.fs.take (i+1))).fs []=okI d i from urY d (i+1))▸ubA (ucl d (d.fs.take (i+1))) [] (uuf (ua2.1 hF) (i+1)) (by simp))
 have c59:=uvl d h
 refine ua0.is fun R hR=>qW (sc:=uzq) uaj mix Tryz.func11 rfl Tryz.call11 (by kernel_rfl) (by kernel_rfl) ?_
 generalize Tryz.prog=P at c54 c59⊢
 cbv
 repeat' (first
  |with_reducible refine And.intro ?_ ?_
  |(with_reducible intro hcd;(try simp only [zA,zB,zC,zD,zE,zF,zG,zH,zI,zJ,zK,zL,zM,zN,zO,zP]at hcd);try cbv)
  | (refine Or.inr ⟨true,?_⟩
     cbv
     refine qU ?_ (c59) (by cbv;(repeat' (first|exact qB|refine qD ?_ ?_|exact qE (by rfl)|exact qF (by rfl)|exact Fit.refl _|exact qA|refine qC ?_ rfl ?_))) (by cbv;(repeat' (first|exact qH|refine qI ?_ ?_|exact qK _|refine qJ ?_|exact qA|exact qE (by rfl)|exact qF (by rfl)|exact Fit.refl _|exact qG _|refine qC ?_ rfl ?_)))
     try cbv)
  |fail)
 all_goals first|trivial|skip
 refine⟨none,[],{i:Nat // i≤d.fs.length∧utD d=uvo d (d.fs.length-i) i},fun x=>⟨[(1,.own 0 0),(4,.own 4 0),(19,(iv fun _=>zi d.fs.length)),(20,(iv fun _=>zi x.1))],[(0,.cells [(iS d.tw),(iS d.tm),(.sl 1 (.sym fun _=>zi (d.tv).length) (fun ix=>[(.sl 1 (.sym fun _=>zi ((d.tv).getD ix.den.toNat []).length) (fun jx=>[(iv fun _=>((d.tv).getD ix.den.toNat []).getD jx.den.toNat 0)]))])),(iv fun _=>d.sn),(iv fun _=>d.pn),(.sl 4 (.sym fun _=>zi (d.ls).length) (fun ix=>[(iv fun _=>((d.ls).getD ix.den.toNat l0T).a),(iv fun _=>((d.ls).getD ix.den.toNat l0T).b),(iv fun _=>((d.ls).getD ix.den.toNat l0T).lo),(iv fun _=>((d.ls).getD ix.den.toNat l0T).hi)])),(.sl 6 (.sym fun _=>zi (d.fs).length) (fun ix=>[(iv fun _=>((d.fs).getD ix.den.toNat f0T).p),(iv fun _=>((d.fs).getD ix.den.toNat f0T).s),(iv fun _=>((d.fs).getD ix.den.toNat f0T).wl),(iv fun _=>((d.fs).getD ix.den.toNat f0T).wh),(iv fun _=>((d.fs).getD ix.den.toNat f0T).ml),(iv fun _=>((d.fs).getD ix.den.toNat f0T).mh)]))] 39),(4,.cells [(iS d.tw),(iS d.tm),(.sl 1 (.sym fun _=>zi (d.tv).length) (fun ix=>[(.sl 1 (.sym fun _=>zi ((d.tv).getD ix.den.toNat []).length) (fun jx=>[(iv fun _=>((d.tv).getD ix.den.toNat []).getD jx.den.toNat 0)]))])),(iv fun _=>d.sn),(iv fun _=>d.pn),(.sl 4 (.sym fun _=>zi (d.ls).length) (fun ix=>[(iv fun _=>((d.ls).getD ix.den.toNat l0T).a),(iv fun _=>((d.ls).getD ix.den.toNat l0T).b),(iv fun _=>((d.ls).getD ix.den.toNat l0T).lo),(iv fun _=>((d.ls).getD ix.den.toNat l0T).hi)])),.any,(.memo 106 59 false 6 (fun ks=>.agg [(iv fun _=>kLo d ks),(iv fun _=>kHi d ks)]))] 92)],100⟩,fun x=>d.fs.length-x.1,?_,?_⟩
 ·refine⟨⟨0,by omega,rfl⟩,?_⟩
  cbv
  repeat' (first|with_reducible refine ua4 ?_ ?_|with_reducible refine And.intro ?_ ?_)
  all_goals first|trivial|exact qM (qE (by rfl))|exact qM (Fit.refl _)|exact qL (qK _)|(refine qL (qJ ?_);(repeat' (first|exact qA|exact qB|refine qC ?_ rfl ?_|refine qD ?_ ?_|exact qE (by rfl)|exact qF (by rfl)|exact Fit.refl _|exact qG _|(refine qE ?_;(try simp only [qV]at *);simp only [zQ,zA,zB,zC,zD,zE,zF,zG,zH,zI,zJ,zK,zL,zM,zN,zO,zP,zR,zS]at *;omega)));done)|skip
 ·rintro ⟨i,hi,h3⟩
  cbv
  repeat' (first
   |with_reducible refine ua4 ?_ ?_
   |with_reducible refine And.intro ?_ ?_
   |(with_reducible intro hcd;(try simp only [zA,zB,zC,zD,zE,zF,zG,zH,zI,zJ,zK,zL,zM,zN,zO,zP]at hcd);try cbv)
   | ((first|(refine up6 ?_ (c54 i) ⟨⟨fun _=>rfl,trivial⟩,rfl,trivial⟩ ?hfit;case hfit=>(cbv;(refine qD (usU (qC (Fit.refl _) rfl (qC (Fit.refl _) rfl (qC (Fit.refl _) rfl (qC (Fit.refl _) rfl (qC (Fit.refl _) rfl (qC (Fit.refl _) rfl (qC ?_ rfl (qC (Fit.refl _) rfl qA))))))))) (qD (qO rfl) qB);refine ua1 ?_ (fun ix h0 h1=>ujw _ ?_ ?_)<;>((try simp only [qV]at *);(try simp only [zQ,zA,zB,zC,zD,zE,zF,zG,zH,zI,zJ,zK,zL,zM,zN,zO,zP,zR,zS]at *);first|omega|(rw [um0 _ (by omega)];(try simp only [uah]);omega)));done))|(refine⟨none,?_⟩;refine up6 ?_ (c54 i) ⟨⟨fun _=>rfl,trivial⟩,rfl,trivial⟩ ?hfit;case hfit=>(cbv;(refine qD (usU (qC (Fit.refl _) rfl (qC (Fit.refl _) rfl (qC (Fit.refl _) rfl (qC (Fit.refl _) rfl (qC (Fit.refl _) rfl (qC (Fit.refl _) rfl (qC ?_ rfl (qC (Fit.refl _) rfl qA))))))))) (qD (qO rfl) qB);refine ua1 ?_ (fun ix h0 h1=>ujw _ ?_ ?_)<;>((try simp only [qV]at *);(try simp only [zQ,zA,zB,zC,zD,zE,zF,zG,zH,zI,zJ,zK,zL,zM,zN,zO,zP,zR,zS]at *);first|omega|(rw [um0 _ (by omega)];(try simp only [uah]);omega)));done)))
      try cbv)
   |fail)
  all_goals first|((try simp only [qV]at *);(try simp only [zQ,zA,zB,zC,zD,zE,zF,zG,zH,zI,zJ,zK,zL,zM,zN,zO,zP,zR,zS]at *);first|(refine qN ?_;omega)|(simp only [uam];omega))|(subst hR;(have h9:=ujU hf (h3.trans (uqC (by((try simp only [qV]at *);(try simp only [zQ,zA,zB,zC,zD,zE,zF,zG,zH,zI,zJ,zK,zL,zM,zN,zO,zP,zR,zS]at *);omega)) hcd)));exact qD (qE h9.2.symm) (qD (qE h9.1.symm) qB))|(subst hR;(have hz:d.fs.length-i=0:=by((try simp only [qV]at *);(try simp only [zQ,zA,zB,zC,zD,zE,zF,zG,zH,zI,zJ,zK,zL,zM,zN,zO,zP,zR,zS]at *);omega));rw [hz]at h3;(have h9:=uq4 hf h3);exact qD (qE h9.2.symm) (qD (qE h9.1.symm) qB))|((try simp only [zQ,zA,zB,zC,zD,zE,zF,zG,zH,zI,zJ,zK,zL,zM,zN,zO,zP,zR,zS]at *);refine⟨⟨i+1,by((try simp only [qV]at *);(try simp only [zQ,zA,zB,zC,zD,zE,zF,zG,zH,zI,zJ,zK,zL,zM,zN,zO,zP,zR,zS]at *);omega),by rw [show d.fs.length-(i+1)=d.fs.length-i-1 by omega,←uvi (by((try simp only [qV]at *);(try simp only [zQ,zA,zB,zC,zD,zE,zF,zG,zH,zI,zJ,zK,zL,zM,zN,zO,zP,zR,zS]at *);omega)) hcd];exact h3⟩,by simp only [];omega,?_⟩;cbv;(repeat' (first|with_reducible refine ua4 ?_ ?_|with_reducible refine And.intro ?_ ?_));(all_goals first|trivial|exact qM (qE (by rfl))|exact qM (qF (by rfl))|exact qM (Fit.refl _)|exact qL (qK _)|(refine qM (qE ?_);(try simp only [qV]at *);simp only [zQ,zA,zB,zC,zD,zE,zF,zG,zH,zI,zJ,zK,zL,zM,zN,zO,zP,zR,zS]at *;omega)|(refine qL (qJ ?_);(repeat' (first|exact qA|exact qB|refine qC ?_ rfl ?_|refine qD ?_ ?_|exact qE (by rfl)|exact qF (by rfl)|exact Fit.refl _|exact qG _|(refine qE ?_;(try simp only [qV]at *);simp only [zQ,zA,zB,zC,zD,zE,zF,zG,zH,zI,zJ,zK,zL,zM,zN,zO,zP,zR,zS]at *;omega)));done)|skip))|skip
theorem urJ (d:Dsp)(h:¬ual d=0):ua0 Tryz.prog 11 [(ub5 d)] [] (fun r _=>r=(.tup [(iv fun _=>uqN d),(iv fun _=>uqQ d)])):=by
 have c59:=uim d h
 refine ua0.is fun R hR=>qW (sc:=uzq) uaj mix Tryz.func11 rfl Tryz.call11 (by kernel_rfl) (by kernel_rfl) ?_
 generalize Tryz.prog=P at c59⊢
 cbv
 repeat' (first|with_reducible refine And.intro ?_ ?_|(with_reducible intro hcd;(try simp only [zA,zB,zC,zD,zE,zF,zG,zH,zI,zJ,zK,zL,zM,zN,zO,zP]at hcd);try cbv)|(refine qP ?_ (c59) ?hfit;(case hfit=>((repeat' (first|exact qB|refine qD ?_ ?_|exact qE (by rfl)|exact qF (by rfl)|exact Fit.refl _|exact qA|refine qC ?_ rfl ?_));done));try cbv)|fail)
 all_goals first|trivial|(subst hR;((have h9:=uqW h);exact qD (qE h9.2.symm) (qD (qE h9.1.symm) qB));done)|skip
theorem uvd (d:Dsp):ua0 Tryz.prog 11 [(ub5 d)] [] (fun r _=>r=(.tup [(iv fun _=>uqN d),(iv fun _=>uqQ d)])):=by
 by_cases h:ual d=0
 ·exact ur3 d h
 ·exact urJ d h
theorem uoZ (d:Dsp):ua0 Tryz.prog 84 [(wpS d)] [] (fun r _=>r=(iv fun _=>zi d.fs.length)):=by
 refine ua0.is fun R hR=>qW (sc:=uAg) uaj mix Tryz.func84 rfl Tryz.call84 (by kernel_rfl) (by kernel_rfl) ?_
 generalize Tryz.prog=P
 cbv
 repeat' (first|fail)
 all_goals first|(subst hR;(repeat' (first|exact qA|exact qB|refine qC ?_ rfl ?_|refine qD ?_ ?_|exact qE (by rfl)|exact qF (by rfl)|exact Fit.refl _|exact qG _|(refine qE ?_;(try simp only [qV]at *);simp only [zQ,zA,zB,zC,zD,zE,zF,zG,zH,zI,zJ,zK,zL,zM,zN,zO,zP,zR,zS]at *;omega)));done)|skip
theorem up9 (d:Dsp)(o:List Int):ua0 Tryz.prog 85 [(wpS d),(iS o)] [] (fun r _=>r=(iS o)):=by
 refine ua0.is fun R hR=>qW (sc:=uAK) uaj mix Tryz.func85 rfl Tryz.call85 (by kernel_rfl) (by kernel_rfl) ?_
 generalize Tryz.prog=P
 cbv
 repeat' (first|fail)
 all_goals first|(subst hR;(repeat' (first|exact qA|exact qB|refine qC ?_ rfl ?_|refine qD ?_ ?_|exact qE (by rfl)|exact qF (by rfl)|exact Fit.refl _|exact qG _|(refine qE ?_;(try simp only [qV]at *);simp only [zQ,zA,zB,zC,zD,zE,zF,zG,zH,zI,zJ,zK,zL,zM,zN,zO,zP,zR,zS]at *;omega)));done)|skip
theorem ukk (d:Dsp):ua0 Tryz.prog 86 [(wpS d)] [] (fun r _=>r=(iv fun _=>d.pn)):=by
 refine ua0.is fun R hR=>qW (sc:=uB5) uaj mix Tryz.func86 rfl Tryz.call86 (by kernel_rfl) (by kernel_rfl) ?_
 generalize Tryz.prog=P
 cbv
 repeat' (first|fail)
 all_goals first|(subst hR;(repeat' (first|exact qA|exact qB|refine qC ?_ rfl ?_|refine qD ?_ ?_|exact qE (by rfl)|exact qF (by rfl)|exact Fit.refl _|exact qG _|(refine qE ?_;(try simp only [qV]at *);simp only [zQ,zA,zB,zC,zD,zE,zF,zG,zH,zI,zJ,zK,zL,zM,zN,zO,zP,zR,zS]at *;omega)));done)|skip
theorem ur4 :ua0 Tryz.prog 44 [] [] (fun r _=>r=(.agg [.clo 84 [] [],.clo 85 [] []])):=by
 refine ua0.is fun R hR=>qW (sc:=uAH) uaj mix Tryz.func44 rfl Tryz.call44 (by kernel_rfl) (by kernel_rfl) ?_
 generalize Tryz.prog=P
 cbv
 repeat' (first|fail)
 all_goals first|(subst hR;(repeat' (first|exact qA|exact qB|refine qC ?_ rfl ?_|refine qD ?_ ?_|exact qE (by rfl)|exact qF (by rfl)|exact Fit.refl _|exact qG _|(refine qE ?_;(try simp only [qV]at *);simp only [zQ,zA,zB,zC,zD,zE,zF,zG,zH,zI,zJ,zK,zL,zM,zN,zO,zP,zR,zS]at *;omega)));done)|skip
theorem uh9 :ua0 Tryz.prog 50 [] [] (fun r _=>r=(.agg [.clo 86 [] [],.clo 87 [] []])):=by
 refine ua0.is fun R hR=>qW (sc:=uAL) uaj mix Tryz.func50 rfl Tryz.call50 (by kernel_rfl) (by kernel_rfl) ?_
 generalize Tryz.prog=P
 cbv
 repeat' (first|fail)
 all_goals first|(subst hR;(repeat' (first|exact qA|exact qB|refine qC ?_ rfl ?_|refine qD ?_ ?_|exact qE (by rfl)|exact qF (by rfl)|exact Fit.refl _|exact qG _|(refine qE ?_;(try simp only [qV]at *);simp only [zQ,zA,zB,zC,zD,zE,zF,zG,zH,zI,zJ,zK,zL,zM,zN,zO,zP,zR,zS]at *;omega)));done)|skip
def thN (d:Dsp)(o:List Int)(n:Nat):List Int:=ubU (fun i=>inL o (d.fs.getD i f0T).p) n
theorem uwi {d:Dsp} {o:List Int} {i:Nat}(h:inL o (d.fs.getD i f0T).p=true):thN d o (i+1)=thN d o i++[(i:Int)]:=by
 unfold thN
 simp only [ubU,h,if_true]
theorem uvx {d:Dsp} {o:List Int} {i:Nat}(h:inL o (d.fs.getD i f0T).p=false):thN d o (i+1)=thN d o i:=by
 unfold thN
 simp only [ubU,h,Bool.false_eq_true,if_false]
theorem ulP (d:Dsp)(o:List Int):∀n,(thN d o n).length≤n:=by
 intro n
 induction n with
 |zero=>exact Nat.le_refl _
 | succ n ih=>
  cases h:inL o (d.fs.getD n f0T).p with
  |true=>rw [uwi h,List.length_append];simp only [List.length_cons,List.length_nil];omega
  |false=>rw [uvx h];omega
theorem ulV (d:Dsp)(o:List Int)(hf:d.fs.length≤1000)(ho:o.length≤1000):ua0 Tryz.prog 87 [(wpS d),(iS o)] [] (fun r _=>r=(iS ((thN d o d.fs.length)))):=by
 have c63:=fun (i:Nat)=>ufD o (d.fs.getD i f0T).p ho
 refine ua0.is fun R hR=>qW (sc:=uB9) uaj mix Tryz.func87 rfl Tryz.call87 (by kernel_rfl) (by kernel_rfl) ?_
 generalize Tryz.prog=P at c63⊢
 cbv
 repeat' (first|fail)
 all_goals first|skip
 refine⟨none,[⟨.tmp 4,3,1⟩],{i:Nat // i≤d.fs.length},fun x=>⟨[(1,(iS o)),(4,.row 8),(11,(.sl 6 (.sym fun _=>zi (d.fs).length) (fun ix=>[(iv fun _=>((d.fs).getD ix.den.toNat f0T).p),(iv fun _=>((d.fs).getD ix.den.toNat f0T).s),(iv fun _=>((d.fs).getD ix.den.toNat f0T).wl),(iv fun _=>((d.fs).getD ix.den.toNat f0T).wh),(iv fun _=>((d.fs).getD ix.den.toNat f0T).ml),(iv fun _=>((d.fs).getD ix.den.toNat f0T).mh)]))),(12,(iv fun _=>zi d.fs.length)),(13,(iv fun _=>zi x.1))],[(8,.row 3 1 (.sym fun _=>zi ((thN d o (x.1))).length) (fun ix=>[(iv fun _=>((thN d o (x.1))).getD ix.den.toNat 0)]))],90⟩,fun x=>d.fs.length-x.1,?_,?_⟩
 ·refine⟨⟨0,by omega⟩,?_⟩
  cbv
  repeat' (first|with_reducible refine ua4 ?_ ?_|with_reducible refine And.intro ?_ ?_)
  all_goals first|trivial|exact qM (qE (by rfl))|exact qM (Fit.refl _)|(refine qL (uae ?_ ?_);(first|rfl|((try simp only [qV]at *);(try simp only [zQ,zA,zB,zC,zD,zE,zF,zG,zH,zI,zJ,zK,zL,zM,zN,zO,zP,zR,zS]at *);omega));intro ix h0 h1;exfalso;(try simp only [qV]at *);(try simp only [zQ,zA,zB,zC,zD,zE,zF,zG,zH,zI,zJ,zK,zL,zM,zN,zO,zP,zR,zS]at *);omega)|skip
 ·rintro ⟨i,hi⟩
  cbv
  have hlen:=ulP d o i
  have hY:inL o (d.fs.getD i f0T).p=true→thN d o (i+1)=thN d o i++[zi i]:=uwi
  have hZ:inL o (d.fs.getD i f0T).p=false→thN d o (i+1)=thN d o i:=uvx
  obtain⟨M,hM⟩:∃M,M=thN d o i:=⟨_,rfl⟩
  rw [←hM]at hlen hY hZ⊢
  cbv
  repeat' (first
   |with_reducible refine ua4 ?_ ?_
   |with_reducible refine And.intro ?_ ?_
   |(with_reducible intro hcd;(try simp only [zA,zB,zC,zD,zE,zF,zG,zH,zI,zJ,zK,zL,zM,zN,zO,zP]at hcd);try cbv)
   |(refine qP ?_ (c63 i) ?hfit;(case hfit=>((repeat' (first|exact qB|refine qD ?_ ?_|exact qE (by rfl)|exact qF (by rfl)|exact Fit.refl _|exact qA|refine qC ?_ rfl ?_));done));try cbv)
   | (obtain⟨L2,eL2⟩:∃y:List Int,y=M++[zi i]:=⟨_,rfl⟩
      refine⟨uev L2,?_⟩
      cbv
      refine ua4 (uaq (L:=M) eL2 (by(first|rfl|((try simp only [qV]at *);(try simp only [zQ,zA,zB,zC,zD,zE,zF,zG,zH,zI,zJ,zK,zL,zM,zN,zO,zP,zR,zS]at *);done)|((try simp only [qV]at *);(try simp only [zQ,zA,zB,zC,zD,zE,zF,zG,zH,zI,zJ,zK,zL,zM,zN,zO,zP,zR,zS]at *);omega))) (by rfl) (fun ix=>Fit.refl _) (fun ix h=>qC (qE (by rfl)) rfl qA) (by(try simp only [qV]at *);(try simp only [zQ,zA,zB,zC,zD,zE,zF,zG,zH,zI,zJ,zK,zL,zM,zN,zO,zP,zR,zS]at *);omega)) (Or.inl ?_)
      try cbv)
   |fail)
  all_goals first|((try simp only [qV]at *);(try simp only [zQ,zA,zB,zC,zD,zE,zF,zG,zH,zI,zJ,zK,zL,zM,zN,zO,zP,zR,zS]at *);first|(refine qN ?_;omega)|(simp only [uam];omega))|((have hie:i=d.fs.length:=(by((try simp only [qV]at *);(try simp only [zQ,zA,zB,zC,zD,zE,zF,zG,zH,zI,zJ,zK,zL,zM,zN,zO,zP,zR,zS]at *);omega)));subst hR;rw [←hie,←hM];exact Fit.refl _)|((try simp only [zQ,zA,zB,zC,zD,zE,zF,zG,zH,zI,zJ,zK,zL,zM,zN,zO,zP,zR,zS]at *);(have hx:thN d o (i+1)=L2:=(hY hcd).trans eL2.symm);refine⟨⟨i+1,by omega⟩,by simp only [];omega,?_⟩;cbv;(repeat' (first|with_reducible refine ua4 ?_ ?_|with_reducible refine And.intro ?_ ?_));(all_goals first|trivial|exact qM (qE (by rfl))|exact qM (qF (by rfl))|exact qM (Fit.refl _)|exact qL (qK _)|(refine qM (qE ?_);(try simp only [qV]at *);simp only [zQ,zA,zB,zC,zD,zE,zF,zG,zH,zI,zJ,zK,zL,zM,zN,zO,zP,zR,zS]at *;omega)|(simp only [hx];first|exact qL (qK _)|(refine qL (uae ?_ ?_)<;>first|rfl|(rw [eL2,List.length_append];rfl)|((try simp only [qV]at *);(try simp only [zQ,zA,zB,zC,zD,zE,zF,zG,zH,zI,zJ,zK,zL,zM,zN,zO,zP,zR,zS]at *);(try simp only [eL2,List.length_append,List.length_cons,List.length_nil]at *);omega)|(intro ix h0 h1;exact Fit.refl _)))|skip))|((try simp only [zQ,zA,zB,zC,zD,zE,zF,zG,zH,zI,zJ,zK,zL,zM,zN,zO,zP,zR,zS]at *);(have hx:thN d o (i+1)=M:=hZ hcd);refine⟨⟨i+1,by omega⟩,by simp only [];omega,?_⟩;cbv;(repeat' (first|with_reducible refine ua4 ?_ ?_|with_reducible refine And.intro ?_ ?_));(all_goals first|trivial|exact qM (qE (by rfl))|exact qM (qF (by rfl))|exact qM (Fit.refl _)|exact qL (qK _)|(refine qM (qE ?_);(try simp only [qV]at *);simp only [zQ,zA,zB,zC,zD,zE,zF,zG,zH,zI,zJ,zK,zL,zM,zN,zO,zP,zR,zS]at *;omega)|(simp only [hx];first|exact qL (qK _)|(refine qL (uae ?_ ?_)<;>first|rfl|(rw [eL2,List.length_append];rfl)|((try simp only [qV]at *);(try simp only [zQ,zA,zB,zC,zD,zE,zF,zG,zH,zI,zJ,zK,zL,zM,zN,zO,zP,zR,zS]at *);(try simp only [eL2,List.length_append,List.length_cons,List.length_nil]at *);omega)|(intro ix h0 h1;exact Fit.refl _)))|skip))|skip
end Go.Proofs.YtkdggbfknlcdaaaGreat
namespace Go.Proofs.YtkdggbfknlcdaaaGreat
open Go Go.Eng Go.Eng.Dif Go.Eng.Few
def uuV (F:List (List Int)):IX→List SV:=fun ix=>[.sl 1 (.sym fun _=>zi (F.getD ix.den.toNat []).length) (fun jx=>[(iv fun _=>(F.getD ix.den.toNat []).getD jx.den.toNat 0)])]
def uzr (o:List Int):SV:=.sl 1 (.sym fun _=>zi o.length) (fun jx=>[(iv fun _=>o.getD jx.den.toNat 0)])
theorem ul3 {F:List (List Int)} {ix:IX} {o:List Int}(h:F.getD ix.den.toNat []=o):uuV F ix=[uzr o]:=by
 subst h
 rfl
theorem ucx {n m b:Int} {F F2:List (List Int)} {o:List Int} {e new:IX→List SV}(h2:F2=F++[o])(hn:n=(F.length:Int))(hm:m=1)(he:∀ix,Fit (.agg (e ix)) (.agg (uuV F ix)))(hx:∀ix:IX,Fit (.agg (new ix)) (.agg [uzr o]))(hb:(n+1)*b≤140737488355328):
 uam (udL n e m new (uuV F2)∧0≤n∧0≤m∧(n+m)*b≤140737488355328):=by
 subst hm
 subst h2
 refine ubj (fun ix jx h0 h1 h2=>(he ix).trans ?_) (fun ix jx h0 h1 h2=>(hx ix).trans ?_) ⟨by omega,by omega,hb⟩
 ·rw [ul3 (F:=F) rfl,ul3 (F:=F++[o]) (o:=F.getD ix.den.toNat []) (by
   rw [h2]
   simp only [List.getD_eq_getElem?_getD]
   rw [List.getElem?_append_left (by omega)])]
  exact Fit.refl _
 ·rw [ul3 (F:=F++[o]) (o:=o) (by
   rw [show jx.den.toNat=F.length by omega]
   simp [List.getD_eq_getElem?_getD])]
  exact Fit.refl _
def ueM (n:Nat)(ok:List Int→Bool)(m:Nat)(o:List Int)(i:Nat):Nat→List (List Int)
 |0=>[]
 |k+1=>ueM n ok m o i k++ubL n ok m (o++[((i+k:Nat):Int)]) (i+k+1)
theorem uic {n:Nat} {ok:List Int→Bool} {m:Nat} {o:List Int} {i:Nat}:ubL n ok (m+1) o i=ueM n ok m o i (n-m-i):=by
 have h:∀k,((List.range k).flatMap fun j=>ubL n ok m (o++[((i+j:Nat):Int)]) (i+j+1))=ueM n ok m o i k:=by
  intro k
  induction k with
  |zero=>rfl
  |succ k ih=>rw [List.range_succ,List.flatMap_append,ih];simp [ueM]
 simp only [ubL]
 exact h _
theorem usA {n:Nat} {ok:List Int→Bool} {m:Nat} {o:List Int} {i:Nat}:∀{k k':Nat},k≤k'→(ueM n ok m o i k).length≤(ueM n ok m o i k').length:=by
 intro k k'
 induction k' with
 |zero=>intro h;rw [show k=0 by omega];exact Nat.le_refl _
 | succ k' ih=>
  intro h
  rcases Nat.lt_or_ge k' k with q|q
  ·rw [show k=k'+1 by omega];exact Nat.le_refl _
  ·have:=ih q
   simp only [ueM,List.length_append];omega
theorem um9 {n:Nat} {ok:List Int→Bool}:∀{m:Nat} {o:List Int} {i:Nat},(ubL n ok m o i).length≤n^m:=by
 intro m
 induction m with
 | zero=>
  intro o i
  simp only [ubL]
  split<;>simp
 | succ m ih=>
  intro o i
  rw [uic]
  have h:∀k,(ueM n ok m o i k).length≤k*n^m:=by
   intro k
   induction k with
   |zero=>simp [ueM]
   | succ k ik=>
    have:=ih (o:=o++[((i+k:Nat):Int)]) (i:=i+k+1)
    simp only [ueM,List.length_append,Nat.add_mul,Nat.one_mul];omega
  refine Nat.le_trans (h _) ?_
  rw [Nat.pow_succ,Nat.mul_comm]
  exact Nat.mul_le_mul_left _ (by omega)
theorem umv {F G:List (List Int)} {n:Nat} {ok:List Int→Bool} {m:Nat} {o L:List Int} {i k:Nat}(hL:L=o++[((i+k:Nat):Int)])(hG:G=F++ueM n ok m o i k):F++ueM n ok m o i (k+1)=G++ubL n ok m L (i+k+1):=by
 subst hL
 subst hG
 rw [ueM,List.append_assoc]
def udx (d:Dsp)(o:List Int):Bool:=ud7 d d.fs o
def uc4 (d:Dsp)(o:List Int):Bool:=ud7 d d.fs (thN d o d.fs.length)
end Go.Proofs.YtkdggbfknlcdaaaGreat
namespace Go.Proofs.YtkdggbfknlcdaaaGreat
open Go Go.Eng Go.Proofs Go.Eng.Dif Go.Eng.Few
set_option maxRecDepth 10000
theorem uvG (d:Dsp)(F:List (List Int))(o:List Int)(i:Int)(hd:DOk d)(ho:o.length≤100)(hF:F.length≤1000000)(hok:(udx d) o=true):ua0 Tryz.prog 88 [(iS o),(iv fun _=>i),(iv fun _=>0),.own 0 0,.own 1 0,.own 2 0,.own 3 0] [.cells [(wpS d)] 87,.cells [.clo 84 [] [],.clo 85 [] []] 110,.cells [.row 4] 23,.cells [.clo 88 [] [.own 0 0,.own 1 0,.own 2 0,.own 3 0]] 144,.row 22 1 (.sym fun _=>zi (F).length) (fun ix=>[.sl 1 (.sym fun _=>zi ((F).getD ix.den.toNat []).length) (fun jx=>[(iv fun _=>((F).getD ix.den.toNat []).getD jx.den.toNat 0)])])] (fun r bs=>r = .tup []∧bs=[.cells [(wpS d)] 87,.cells [.clo 84 [] [],.clo 85 [] []] 110,.cells [.row 4] 23,.cells [.clo 88 [] [.own 0 0,.own 1 0,.own 2 0,.own 3 0]] 144,.row 22 1 (.sym fun _=>zi ((F++[o])).length) (fun ix=>[.sl 1 (.sym fun _=>zi (((F++[o])).getD ix.den.toNat []).length) (fun jx=>[(iv fun _=>(((F++[o])).getD ix.den.toNat []).getD jx.den.toNat 0)])])]):=by
 have c89:=up9 d o
 have hl:o.length≤1000:=by omega
 have c54:=ubA d o hd hl
 rw [show ud7 d d.fs o=true from hok]at c54
 refine ua0.isB rfl fun R B hR hB=>qW (sc:=uvp) uaj mix Tryz.func88 rfl Tryz.call88 (by kernel_rfl) (by kernel_rfl) ?_
 generalize Tryz.prog=P at c89 c54⊢
 cbv
 repeat' (first
  |with_reducible refine And.intro ?_ ?_
  |(with_reducible intro hcd;(try simp only [zA,zB,zC,zD,zE,zF,zG,zH,zI,zJ,zK,zL,zM,zN,zO,zP]at hcd);try cbv)
  |(refine qP ?_ (c89) ?hfit;(case hfit=>((repeat' (first|exact qB|refine qD ?_ ?_|exact qE (by rfl)|exact qF (by rfl)|exact Fit.refl _|exact qA|refine qC ?_ rfl ?_));done));try cbv)
  |(refine qP ?_ (c54) ?hfit;(case hfit=>((repeat' (first|exact qB|refine qD ?_ ?_|exact qE (by rfl)|exact qF (by rfl)|exact Fit.refl _|exact qA|refine qC ?_ rfl ?_));done));try cbv)
  | (obtain⟨F2,eF2⟩:∃y:List (List Int),y=F++[o]:=⟨_,rfl⟩
     refine⟨uuV F2,?_⟩
     cbv
     refine ua4 (ucx (F:=F) (o:=o) eF2 (by first|rfl|((try simp only [qV]at *);(try simp only [zQ,zA,zB,zC,zD,zE,zF,zG,zH,zI,zJ,zK,zL,zM,zN,zO,zP,zR,zS]at *);omega)) rfl (fun ix=>Fit.refl _) (fun ix=>Fit.refl _) (by(try simp only [qV]at *);(try simp only [zQ,zA,zB,zC,zD,zE,zF,zG,zH,zI,zJ,zK,zL,zM,zN,zO,zP,zR,zS]at *);omega)) (Or.inl ?_)
     try cbv)
  |fail)
 all_goals first|trivial|(subst hR;exact Fit.refl _;done)|(rw [←eF2]at hB;subst hB;refine qI (qK _) (qI (qK _) (qI (qK _) (qI (qK _) (qI (uae ?_ (fun ix h0 h1=>Fit.refl _)) qH))));(try simp only [qV]at *);(try simp only [zQ,zA,zB,zC,zD,zE,zF,zG,zH,zI,zJ,zK,zL,zM,zN,zO,zP,zR,zS]at *);simp only [eF2,List.length_append,List.length_cons,List.length_nil];omega)|skip
theorem uwK (d:Dsp)(F:List (List Int))(o:List Int)(i:Int)(hd:DOk d)(ho:o.length≤100)(hF:F.length≤1000000)(hok:(udx d) o=false):ua0 Tryz.prog 88 [(iS o),(iv fun _=>i),(iv fun _=>0),.own 0 0,.own 1 0,.own 2 0,.own 3 0] [.cells [(wpS d)] 87,.cells [.clo 84 [] [],.clo 85 [] []] 110,.cells [.row 4] 23,.cells [.clo 88 [] [.own 0 0,.own 1 0,.own 2 0,.own 3 0]] 144,.row 22 1 (.sym fun _=>zi (F).length) (fun ix=>[.sl 1 (.sym fun _=>zi ((F).getD ix.den.toNat []).length) (fun jx=>[(iv fun _=>((F).getD ix.den.toNat []).getD jx.den.toNat 0)])])] (fun r bs=>r = .tup []∧bs=[.cells [(wpS d)] 87,.cells [.clo 84 [] [],.clo 85 [] []] 110,.cells [.row 4] 23,.cells [.clo 88 [] [.own 0 0,.own 1 0,.own 2 0,.own 3 0]] 144,.row 22 1 (.sym fun _=>zi (F).length) (fun ix=>[.sl 1 (.sym fun _=>zi ((F).getD ix.den.toNat []).length) (fun jx=>[(iv fun _=>((F).getD ix.den.toNat []).getD jx.den.toNat 0)])])]):=by
 have c89:=up9 d o
 have hl:o.length≤1000:=by omega
 have c54:=ubA d o hd hl
 rw [show ud7 d d.fs o=false from hok]at c54
 refine ua0.isB rfl fun R B hR hB=>qW (sc:=uvp) uaj mix Tryz.func88 rfl Tryz.call88 (by kernel_rfl) (by kernel_rfl) ?_
 generalize Tryz.prog=P at c89 c54⊢
 cbv
 repeat' (first
  |with_reducible refine And.intro ?_ ?_
  |(with_reducible intro hcd;(try simp only [zA,zB,zC,zD,zE,zF,zG,zH,zI,zJ,zK,zL,zM,zN,zO,zP]at hcd);try cbv)
  |(refine qP ?_ (c89) ?hfit;(case hfit=>((repeat' (first|exact qB|refine qD ?_ ?_|exact qE (by rfl)|exact qF (by rfl)|exact Fit.refl _|exact qA|refine qC ?_ rfl ?_));done));try cbv)
  |(refine qP ?_ (c54) ?hfit;(case hfit=>((repeat' (first|exact qB|refine qD ?_ ?_|exact qE (by rfl)|exact qF (by rfl)|exact Fit.refl _|exact qA|refine qC ?_ rfl ?_));done));try cbv)
  | (obtain⟨F2,eF2⟩:∃y:List (List Int),y=F++[o]:=⟨_,rfl⟩
     refine⟨uuV F2,?_⟩
     cbv
     refine ua4 (ucx (F:=F) (o:=o) eF2 (by first|rfl|((try simp only [qV]at *);(try simp only [zQ,zA,zB,zC,zD,zE,zF,zG,zH,zI,zJ,zK,zL,zM,zN,zO,zP,zR,zS]at *);omega)) rfl (fun ix=>Fit.refl _) (fun ix=>Fit.refl _) (by(try simp only [qV]at *);(try simp only [zQ,zA,zB,zC,zD,zE,zF,zG,zH,zI,zJ,zK,zL,zM,zN,zO,zP,zR,zS]at *);omega)) (Or.inl ?_)
     try cbv)
  |fail)
 all_goals first|trivial|(subst hR;exact Fit.refl _;done)|(subst hB;(repeat' (first|exact qH|refine qI ?_ ?_|exact qK _|refine qJ ?_|exact qA|exact qE (by rfl)|exact qF (by rfl)|exact Fit.refl _|exact qG _|refine qC ?_ rfl ?_));done)|skip
theorem uwU (d:Dsp)(F:List (List Int))(o:List Int)(i:Int)(hd:DOk d)(ho:o.length≤100)(hF:F.length≤1000000)(hok:(uc4 d) o=true):ua0 Tryz.prog 88 [(iS o),(iv fun _=>i),(iv fun _=>0),.own 0 0,.own 1 0,.own 2 0,.own 3 0] [.cells [(wpS d)] 87,.cells [.clo 86 [] [],.clo 87 [] []] 110,.cells [.row 4] 23,.cells [.clo 88 [] [.own 0 0,.own 1 0,.own 2 0,.own 3 0]] 144,.row 22 1 (.sym fun _=>zi (F).length) (fun ix=>[.sl 1 (.sym fun _=>zi ((F).getD ix.den.toNat []).length) (fun jx=>[(iv fun _=>((F).getD ix.den.toNat []).getD jx.den.toNat 0)])])] (fun r bs=>r = .tup []∧bs=[.cells [(wpS d)] 87,.cells [.clo 86 [] [],.clo 87 [] []] 110,.cells [.row 4] 23,.cells [.clo 88 [] [.own 0 0,.own 1 0,.own 2 0,.own 3 0]] 144,.row 22 1 (.sym fun _=>zi ((F++[o])).length) (fun ix=>[.sl 1 (.sym fun _=>zi (((F++[o])).getD ix.den.toNat []).length) (fun jx=>[(iv fun _=>(((F++[o])).getD ix.den.toNat []).getD jx.den.toNat 0)])])]):=by
 have c91:=ulV d o (by have:=hd.f6;omega) (by omega)
 have hl:(thN d o d.fs.length).length≤1000:=by have h1:=ulP d o d.fs.length;have h2:=hd.f6;omega
 have c54:=ubA d (thN d o d.fs.length) hd hl
 rw [show ud7 d d.fs (thN d o d.fs.length)=true from hok]at c54
 refine ua0.isB rfl fun R B hR hB=>qW (sc:=uvp) uaj mix Tryz.func88 rfl Tryz.call88 (by kernel_rfl) (by kernel_rfl) ?_
 generalize Tryz.prog=P at c91 c54⊢
 cbv
 repeat' (first
  |with_reducible refine And.intro ?_ ?_
  |(with_reducible intro hcd;(try simp only [zA,zB,zC,zD,zE,zF,zG,zH,zI,zJ,zK,zL,zM,zN,zO,zP]at hcd);try cbv)
  |(refine qP ?_ (c91) ?hfit;(case hfit=>((repeat' (first|exact qB|refine qD ?_ ?_|exact qE (by rfl)|exact qF (by rfl)|exact Fit.refl _|exact qA|refine qC ?_ rfl ?_));done));try cbv)
  |(refine qP ?_ (c54) ?hfit;(case hfit=>((repeat' (first|exact qB|refine qD ?_ ?_|exact qE (by rfl)|exact qF (by rfl)|exact Fit.refl _|exact qA|refine qC ?_ rfl ?_));done));try cbv)
  | (obtain⟨F2,eF2⟩:∃y:List (List Int),y=F++[o]:=⟨_,rfl⟩
     refine⟨uuV F2,?_⟩
     cbv
     refine ua4 (ucx (F:=F) (o:=o) eF2 (by first|rfl|((try simp only [qV]at *);(try simp only [zQ,zA,zB,zC,zD,zE,zF,zG,zH,zI,zJ,zK,zL,zM,zN,zO,zP,zR,zS]at *);omega)) rfl (fun ix=>Fit.refl _) (fun ix=>Fit.refl _) (by(try simp only [qV]at *);(try simp only [zQ,zA,zB,zC,zD,zE,zF,zG,zH,zI,zJ,zK,zL,zM,zN,zO,zP,zR,zS]at *);omega)) (Or.inl ?_)
     try cbv)
  |fail)
 all_goals first|trivial|(subst hR;exact Fit.refl _;done)|(rw [←eF2]at hB;subst hB;refine qI (qK _) (qI (qK _) (qI (qK _) (qI (qK _) (qI (uae ?_ (fun ix h0 h1=>Fit.refl _)) qH))));(try simp only [qV]at *);(try simp only [zQ,zA,zB,zC,zD,zE,zF,zG,zH,zI,zJ,zK,zL,zM,zN,zO,zP,zR,zS]at *);simp only [eF2,List.length_append,List.length_cons,List.length_nil];omega)|skip
theorem uwl (d:Dsp)(F:List (List Int))(o:List Int)(i:Int)(hd:DOk d)(ho:o.length≤100)(hF:F.length≤1000000)(hok:(uc4 d) o=false):ua0 Tryz.prog 88 [(iS o),(iv fun _=>i),(iv fun _=>0),.own 0 0,.own 1 0,.own 2 0,.own 3 0] [.cells [(wpS d)] 87,.cells [.clo 86 [] [],.clo 87 [] []] 110,.cells [.row 4] 23,.cells [.clo 88 [] [.own 0 0,.own 1 0,.own 2 0,.own 3 0]] 144,.row 22 1 (.sym fun _=>zi (F).length) (fun ix=>[.sl 1 (.sym fun _=>zi ((F).getD ix.den.toNat []).length) (fun jx=>[(iv fun _=>((F).getD ix.den.toNat []).getD jx.den.toNat 0)])])] (fun r bs=>r = .tup []∧bs=[.cells [(wpS d)] 87,.cells [.clo 86 [] [],.clo 87 [] []] 110,.cells [.row 4] 23,.cells [.clo 88 [] [.own 0 0,.own 1 0,.own 2 0,.own 3 0]] 144,.row 22 1 (.sym fun _=>zi (F).length) (fun ix=>[.sl 1 (.sym fun _=>zi ((F).getD ix.den.toNat []).length) (fun jx=>[(iv fun _=>((F).getD ix.den.toNat []).getD jx.den.toNat 0)])])]):=by
 have c91:=ulV d o (by have:=hd.f6;omega) (by omega)
 have hl:(thN d o d.fs.length).length≤1000:=by have h1:=ulP d o d.fs.length;have h2:=hd.f6;omega
 have c54:=ubA d (thN d o d.fs.length) hd hl
 rw [show ud7 d d.fs (thN d o d.fs.length)=false from hok]at c54
 refine ua0.isB rfl fun R B hR hB=>qW (sc:=uvp) uaj mix Tryz.func88 rfl Tryz.call88 (by kernel_rfl) (by kernel_rfl) ?_
 generalize Tryz.prog=P at c91 c54⊢
 cbv
 repeat' (first
  |with_reducible refine And.intro ?_ ?_
  |(with_reducible intro hcd;(try simp only [zA,zB,zC,zD,zE,zF,zG,zH,zI,zJ,zK,zL,zM,zN,zO,zP]at hcd);try cbv)
  |(refine qP ?_ (c91) ?hfit;(case hfit=>((repeat' (first|exact qB|refine qD ?_ ?_|exact qE (by rfl)|exact qF (by rfl)|exact Fit.refl _|exact qA|refine qC ?_ rfl ?_));done));try cbv)
  |(refine qP ?_ (c54) ?hfit;(case hfit=>((repeat' (first|exact qB|refine qD ?_ ?_|exact qE (by rfl)|exact qF (by rfl)|exact Fit.refl _|exact qA|refine qC ?_ rfl ?_));done));try cbv)
  | (obtain⟨F2,eF2⟩:∃y:List (List Int),y=F++[o]:=⟨_,rfl⟩
     refine⟨uuV F2,?_⟩
     cbv
     refine ua4 (ucx (F:=F) (o:=o) eF2 (by first|rfl|((try simp only [qV]at *);(try simp only [zQ,zA,zB,zC,zD,zE,zF,zG,zH,zI,zJ,zK,zL,zM,zN,zO,zP,zR,zS]at *);omega)) rfl (fun ix=>Fit.refl _) (fun ix=>Fit.refl _) (by(try simp only [qV]at *);(try simp only [zQ,zA,zB,zC,zD,zE,zF,zG,zH,zI,zJ,zK,zL,zM,zN,zO,zP,zR,zS]at *);omega)) (Or.inl ?_)
     try cbv)
  |fail)
 all_goals first|trivial|(subst hR;exact Fit.refl _;done)|(subst hB;(repeat' (first|exact qH|refine qI ?_ ?_|exact qK _|refine qJ ?_|exact qA|exact qE (by rfl)|exact qF (by rfl)|exact Fit.refl _|exact qG _|refine qC ?_ rfl ?_));done)|skip
set_option maxHeartbeats 2000000 in
theorem uya (d:Dsp)(F:List (List Int))(o:List Int)(i m M:Nat)(hd:DOk d)(ho:o.length≤100)(hM:M=m+1)(hi:i+M≤d.fs.length)(ih:∀k:Nat,k<d.fs.length-m-i→∀(G:List (List Int)) (L:List Int),G=(F++ueM d.fs.length (udx d) m o i k)→L=o++[((i+k:Nat):Int)]→ua0 Tryz.prog 88 [(iS L),(iv fun _=>zi (i+k)+1),(iv fun _=>zi M-1),.own 0 0,.own 1 0,.own 2 0,.own 3 0] [.cells [(wpS d)] 87,.cells [.clo 84 [] [],.clo 85 [] []] 110,.cells [.row 4] 23,.cells [.clo 88 [] [.own 0 0,.own 1 0,.own 2 0,.own 3 0]] 144,.row 22 1 (.sym fun _=>zi (G).length) (fun ix=>[.sl 1 (.sym fun _=>zi ((G).getD ix.den.toNat []).length) (fun jx=>[(iv fun _=>((G).getD ix.den.toNat []).getD jx.den.toNat 0)])])] (fun r bs=>r = .tup []∧bs=[.cells [(wpS d)] 87,.cells [.clo 84 [] [],.clo 85 [] []] 110,.cells [.row 4] 23,.cells [.clo 88 [] [.own 0 0,.own 1 0,.own 2 0,.own 3 0]] 144,.row 22 1 (.sym fun _=>zi ((G++ubL d.fs.length (udx d) m L (i+k+1))).length) (fun ix=>[.sl 1 (.sym fun _=>zi (((G++ubL d.fs.length (udx d) m L (i+k+1))).getD ix.den.toNat []).length) (fun jx=>[(iv fun _=>(((G++ubL d.fs.length (udx d) m L (i+k+1))).getD ix.den.toNat []).getD jx.den.toNat 0)])])])):ua0 Tryz.prog 88 [(iS o),(iv fun _=>zi i),(iv fun _=>zi M),.own 0 0,.own 1 0,.own 2 0,.own 3 0] [.cells [(wpS d)] 87,.cells [.clo 84 [] [],.clo 85 [] []] 110,.cells [.row 4] 23,.cells [.clo 88 [] [.own 0 0,.own 1 0,.own 2 0,.own 3 0]] 144,.row 22 1 (.sym fun _=>zi (F).length) (fun ix=>[.sl 1 (.sym fun _=>zi ((F).getD ix.den.toNat []).length) (fun jx=>[(iv fun _=>((F).getD ix.den.toNat []).getD jx.den.toNat 0)])])] (fun r bs=>r = .tup []∧bs=[.cells [(wpS d)] 87,.cells [.clo 84 [] [],.clo 85 [] []] 110,.cells [.row 4] 23,.cells [.clo 88 [] [.own 0 0,.own 1 0,.own 2 0,.own 3 0]] 144,.row 22 1 (.sym fun _=>zi ((F++ueM d.fs.length (udx d) m o i (d.fs.length-m-i))).length) (fun ix=>[.sl 1 (.sym fun _=>zi (((F++ueM d.fs.length (udx d) m o i (d.fs.length-m-i))).getD ix.den.toNat []).length) (fun jx=>[(iv fun _=>(((F++ueM d.fs.length (udx d) m o i (d.fs.length-m-i))).getD ix.den.toNat []).getD jx.den.toNat 0)])])]):=by
 have c88:=uoZ d
 have c94:=upj o (by omega)
 refine ua0.isB rfl fun R B hR hB=>qW (sc:=uvp) uaj mix Tryz.func88 rfl Tryz.call88 (by kernel_rfl) (by kernel_rfl) ?_
 generalize Tryz.prog=P at c88 c94 ih⊢
 cbv
 have s3:=hd.p4
 have f6:=hd.f6
 have p1:=hd.p1
 repeat' (first|with_reducible refine And.intro ?_ ?_|(with_reducible intro hcd;(try simp only [zA,zB,zC,zD,zE,zF,zG,zH,zI,zJ,zK,zL,zM,zN,zO,zP]at hcd);try cbv)|fail)
 all_goals first|(exfalso;(try simp only [qV]at *);(try simp only [zQ,zA,zB,zC,zD,zE,zF,zG,zH,zI,zJ,zK,zL,zM,zN,zO,zP,zR,zS]at *);omega)|skip
 refine⟨none,[],{k:Nat // k≤d.fs.length-m-i},fun x=>⟨[(0,(iS o)),(2,(iv fun _=>zi M)),(3,.own 0 0),(4,.own 1 0),(5,.own 2 0),(6,.own 3 0),(12,(iv fun _=>zi (i+x.1)))],[(0,.cells [(wpS d)] 87),(1,.cells [.clo 84 [] [],.clo 85 [] []] 110),(2,.cells [.row 4] 23),(3,.cells [.clo 88 [] [.own 0 0,.own 1 0,.own 2 0,.own 3 0]] 144),(4,.row 22 1 (.sym fun _=>zi ((F++ueM d.fs.length (udx d) m o i x.1)).length) (fun ix=>[.sl 1 (.sym fun _=>zi (((F++ueM d.fs.length (udx d) m o i x.1)).getD ix.den.toNat []).length) (fun jx=>[(iv fun _=>(((F++ueM d.fs.length (udx d) m o i x.1)).getD ix.den.toNat []).getD jx.den.toNat 0)])]))],60⟩,fun x=>d.fs.length-m-i-x.1,?_,?_⟩
 ·refine⟨⟨0,by omega⟩,?_⟩
  cbv
  repeat' (first|with_reducible refine ua4 ?_ ?_|with_reducible refine And.intro ?_ ?_)
  all_goals first|trivial|exact qM (qE (by rfl))|exact qM (Fit.refl _)|exact qL (qK _)|(simp only [ueM,List.append_nil];exact qL (qK _))|skip
 ·rintro ⟨k,hk⟩
  cbv
  obtain⟨G,hG⟩:∃G,G=(F++ueM d.fs.length (udx d) m o i k):=⟨_,rfl⟩
  rw [←hG]
  cbv
  repeat' (first
   |with_reducible refine ua4 ?_ ?_
   |with_reducible refine And.intro ?_ ?_
   |(with_reducible intro hcd;(try simp only [zA,zB,zC,zD,zE,zF,zG,zH,zI,zJ,zK,zL,zM,zN,zO,zP]at hcd);try cbv)
   |(refine qP ?_ (c88) ?hfit;(case hfit=>((repeat' (first|exact qB|refine qD ?_ ?_|exact qE (by rfl)|exact qF (by rfl)|exact Fit.refl _|exact qA|refine qC ?_ rfl ?_));done));try cbv)
   | (refine Or.inr ⟨true,?_⟩
      cbv
      refine qU ?_ (c94) (by cbv;(repeat' (first|exact qB|refine qD ?_ ?_|exact qE (by rfl)|exact qF (by rfl)|exact Fit.refl _|exact qA|refine qC ?_ rfl ?_))) (by cbv;(repeat' (first|exact qH|refine qI ?_ ?_|exact qK _|refine qJ ?_|exact qA|exact qE (by rfl)|exact qF (by rfl)|exact Fit.refl _|exact qG _|refine qC ?_ rfl ?_)))
      try cbv)
   | (obtain⟨L2,eL2⟩:∃y:List Int,y=o++[((i+k:Nat):Int)]:=⟨_,rfl⟩
      refine⟨uev L2,?_⟩
      cbv
      refine ua4 (uaq (L:=o) eL2 (by(first|rfl|((try simp only [qV]at *);(try simp only [zQ,zA,zB,zC,zD,zE,zF,zG,zH,zI,zJ,zK,zL,zM,zN,zO,zP,zR,zS]at *);done)|((try simp only [qV]at *);(try simp only [zQ,zA,zB,zC,zD,zE,zF,zG,zH,zI,zJ,zK,zL,zM,zN,zO,zP,zR,zS]at *);omega))) (by rfl) (fun ix=>Fit.refl _) (fun ix h=>qC (qE (by rfl)) rfl qA) (by(try simp only [qV]at *);(try simp only [zQ,zA,zB,zC,zD,zE,zF,zG,zH,zI,zJ,zK,zL,zM,zN,zO,zP,zR,zS]at *);omega)) (Or.inr ⟨true,?_⟩)
      try cbv)
   | (refine⟨some [0,1,2,3,4],?_⟩
      cbv
      refine qQ ?_ (ih k (by((try simp only [qV]at *);(try simp only [zQ,zA,zB,zC,zD,zE,zF,zG,zH,zI,zJ,zK,zL,zM,zN,zO,zP,zR,zS]at *);omega)) G L2 hG eL2) ?hfit ?hbo
      case hfit=>(cbv;refine qD (ua1 (usE eL2) (fun _ _ _=>Fit.refl _)) ?_;(repeat' (first|exact qB|refine qD ?_ ?_|exact qE (by rfl)|exact qF (by rfl)|exact Fit.refl _|exact qA|refine qC ?_ rfl ?_));done)
      case hbo=>(cbv;(repeat' (first|exact qH|refine qI ?_ ?_|exact qK _|refine qJ ?_|exact qA|exact qE (by rfl)|exact qF (by rfl)|exact Fit.refl _|exact qG _|refine qC ?_ rfl ?_));done)
      try cbv)
   |fail)
  all_goals first|((try simp only [qV]at *);(try simp only [zQ,zA,zB,zC,zD,zE,zF,zG,zH,zI,zJ,zK,zL,zM,zN,zO,zP,zR,zS]at *);first|(refine qN ?_;omega)|(simp only [uam];omega))|(subst hR;exact Fit.refl _;done)|((have hke:k=d.fs.length-m-i:=(by((try simp only [qV]at *);(try simp only [zQ,zA,zB,zC,zD,zE,zF,zG,zH,zI,zJ,zK,zL,zM,zN,zO,zP,zR,zS]at *);omega)));rw [hke]at hG;rw [←hG]at hB;subst hB;(repeat' (first|exact qH|refine qI ?_ ?_|exact qK _|refine qJ ?_|exact qA|exact qE (by rfl)|exact qF (by rfl)|exact Fit.refl _|exact qG _|refine qC ?_ rfl ?_));done)|((try simp only [zQ,zA,zB,zC,zD,zE,zF,zG,zH,zI,zJ,zK,zL,zM,zN,zO,zP,zR,zS]at *);(have hx:=umv eL2 hG);refine⟨⟨k+1,by((try simp only [qV]at *);(try simp only [zQ,zA,zB,zC,zD,zE,zF,zG,zH,zI,zJ,zK,zL,zM,zN,zO,zP,zR,zS]at *);omega)⟩,by simp only [];omega,?_⟩;cbv;(repeat' (first|with_reducible refine ua4 ?_ ?_|with_reducible refine And.intro ?_ ?_));(all_goals first|trivial|exact qM (qE (by rfl))|exact qM (qF (by rfl))|exact qM (Fit.refl _)|exact qL (qK _)|(refine qM (qE ?_);(try simp only [qV]at *);simp only [zQ,zA,zB,zC,zD,zE,zF,zG,zH,zI,zJ,zK,zL,zM,zN,zO,zP,zR,zS]at *;omega)|(refine qL (qJ ?_);(repeat' (first|exact qA|exact qB|refine qC ?_ rfl ?_|refine qD ?_ ?_|exact qE (by rfl)|exact qF (by rfl)|exact Fit.refl _|exact qG _|(refine qE ?_;(try simp only [qV]at *);simp only [zQ,zA,zB,zC,zD,zE,zF,zG,zH,zI,zJ,zK,zL,zM,zN,zO,zP,zR,zS]at *;omega)));done)|(simp only [hx];exact qL (qK _))|(refine qM (qE ?_);(try simp only [qV]at *);(try simp only [zQ,zA,zB,zC,zD,zE,zF,zG,zH,zI,zJ,zK,zL,zM,zN,zO,zP,zR,zS]at *);omega)|skip))|skip
set_option maxHeartbeats 2000000 in
theorem uyS (d:Dsp)(F:List (List Int))(o:List Int)(i m M:Nat)(hd:DOk d)(ho:o.length≤100)(hM:M=m+1)(hi:i+M≤d.pn.toNat)(ih:∀k:Nat,k<d.pn.toNat-m-i→∀(G:List (List Int)) (L:List Int),G=(F++ueM d.pn.toNat (uc4 d) m o i k)→L=o++[((i+k:Nat):Int)]→ua0 Tryz.prog 88 [(iS L),(iv fun _=>zi (i+k)+1),(iv fun _=>zi M-1),.own 0 0,.own 1 0,.own 2 0,.own 3 0] [.cells [(wpS d)] 87,.cells [.clo 86 [] [],.clo 87 [] []] 110,.cells [.row 4] 23,.cells [.clo 88 [] [.own 0 0,.own 1 0,.own 2 0,.own 3 0]] 144,.row 22 1 (.sym fun _=>zi (G).length) (fun ix=>[.sl 1 (.sym fun _=>zi ((G).getD ix.den.toNat []).length) (fun jx=>[(iv fun _=>((G).getD ix.den.toNat []).getD jx.den.toNat 0)])])] (fun r bs=>r = .tup []∧bs=[.cells [(wpS d)] 87,.cells [.clo 86 [] [],.clo 87 [] []] 110,.cells [.row 4] 23,.cells [.clo 88 [] [.own 0 0,.own 1 0,.own 2 0,.own 3 0]] 144,.row 22 1 (.sym fun _=>zi ((G++ubL d.pn.toNat (uc4 d) m L (i+k+1))).length) (fun ix=>[.sl 1 (.sym fun _=>zi (((G++ubL d.pn.toNat (uc4 d) m L (i+k+1))).getD ix.den.toNat []).length) (fun jx=>[(iv fun _=>(((G++ubL d.pn.toNat (uc4 d) m L (i+k+1))).getD ix.den.toNat []).getD jx.den.toNat 0)])])])):ua0 Tryz.prog 88 [(iS o),(iv fun _=>zi i),(iv fun _=>zi M),.own 0 0,.own 1 0,.own 2 0,.own 3 0] [.cells [(wpS d)] 87,.cells [.clo 86 [] [],.clo 87 [] []] 110,.cells [.row 4] 23,.cells [.clo 88 [] [.own 0 0,.own 1 0,.own 2 0,.own 3 0]] 144,.row 22 1 (.sym fun _=>zi (F).length) (fun ix=>[.sl 1 (.sym fun _=>zi ((F).getD ix.den.toNat []).length) (fun jx=>[(iv fun _=>((F).getD ix.den.toNat []).getD jx.den.toNat 0)])])] (fun r bs=>r = .tup []∧bs=[.cells [(wpS d)] 87,.cells [.clo 86 [] [],.clo 87 [] []] 110,.cells [.row 4] 23,.cells [.clo 88 [] [.own 0 0,.own 1 0,.own 2 0,.own 3 0]] 144,.row 22 1 (.sym fun _=>zi ((F++ueM d.pn.toNat (uc4 d) m o i (d.pn.toNat-m-i))).length) (fun ix=>[.sl 1 (.sym fun _=>zi (((F++ueM d.pn.toNat (uc4 d) m o i (d.pn.toNat-m-i))).getD ix.den.toNat []).length) (fun jx=>[(iv fun _=>(((F++ueM d.pn.toNat (uc4 d) m o i (d.pn.toNat-m-i))).getD ix.den.toNat []).getD jx.den.toNat 0)])])]):=by
 have c90:=ukk d
 have c94:=upj o (by omega)
 refine ua0.isB rfl fun R B hR hB=>qW (sc:=uvp) uaj mix Tryz.func88 rfl Tryz.call88 (by kernel_rfl) (by kernel_rfl) ?_
 generalize Tryz.prog=P at c90 c94 ih⊢
 cbv
 have s3:=hd.p4
 have f6:=hd.f6
 have p1:=hd.p1
 repeat' (first|with_reducible refine And.intro ?_ ?_|(with_reducible intro hcd;(try simp only [zA,zB,zC,zD,zE,zF,zG,zH,zI,zJ,zK,zL,zM,zN,zO,zP]at hcd);try cbv)|fail)
 all_goals first|(exfalso;(try simp only [qV]at *);(try simp only [zQ,zA,zB,zC,zD,zE,zF,zG,zH,zI,zJ,zK,zL,zM,zN,zO,zP,zR,zS]at *);omega)|skip
 refine⟨none,[],{k:Nat // k≤d.pn.toNat-m-i},fun x=>⟨[(0,(iS o)),(2,(iv fun _=>zi M)),(3,.own 0 0),(4,.own 1 0),(5,.own 2 0),(6,.own 3 0),(12,(iv fun _=>zi (i+x.1)))],[(0,.cells [(wpS d)] 87),(1,.cells [.clo 86 [] [],.clo 87 [] []] 110),(2,.cells [.row 4] 23),(3,.cells [.clo 88 [] [.own 0 0,.own 1 0,.own 2 0,.own 3 0]] 144),(4,.row 22 1 (.sym fun _=>zi ((F++ueM d.pn.toNat (uc4 d) m o i x.1)).length) (fun ix=>[.sl 1 (.sym fun _=>zi (((F++ueM d.pn.toNat (uc4 d) m o i x.1)).getD ix.den.toNat []).length) (fun jx=>[(iv fun _=>(((F++ueM d.pn.toNat (uc4 d) m o i x.1)).getD ix.den.toNat []).getD jx.den.toNat 0)])]))],60⟩,fun x=>d.pn.toNat-m-i-x.1,?_,?_⟩
 ·refine⟨⟨0,by omega⟩,?_⟩
  cbv
  repeat' (first|with_reducible refine ua4 ?_ ?_|with_reducible refine And.intro ?_ ?_)
  all_goals first|trivial|exact qM (qE (by rfl))|exact qM (Fit.refl _)|exact qL (qK _)|(simp only [ueM,List.append_nil];exact qL (qK _))|skip
 ·rintro ⟨k,hk⟩
  cbv
  obtain⟨G,hG⟩:∃G,G=(F++ueM d.pn.toNat (uc4 d) m o i k):=⟨_,rfl⟩
  rw [←hG]
  cbv
  repeat' (first
   |with_reducible refine ua4 ?_ ?_
   |with_reducible refine And.intro ?_ ?_
   |(with_reducible intro hcd;(try simp only [zA,zB,zC,zD,zE,zF,zG,zH,zI,zJ,zK,zL,zM,zN,zO,zP]at hcd);try cbv)
   |(refine qP ?_ (c90) ?hfit;(case hfit=>((repeat' (first|exact qB|refine qD ?_ ?_|exact qE (by rfl)|exact qF (by rfl)|exact Fit.refl _|exact qA|refine qC ?_ rfl ?_));done));try cbv)
   | (refine Or.inr ⟨true,?_⟩
      cbv
      refine qU ?_ (c94) (by cbv;(repeat' (first|exact qB|refine qD ?_ ?_|exact qE (by rfl)|exact qF (by rfl)|exact Fit.refl _|exact qA|refine qC ?_ rfl ?_))) (by cbv;(repeat' (first|exact qH|refine qI ?_ ?_|exact qK _|refine qJ ?_|exact qA|exact qE (by rfl)|exact qF (by rfl)|exact Fit.refl _|exact qG _|refine qC ?_ rfl ?_)))
      try cbv)
   | (obtain⟨L2,eL2⟩:∃y:List Int,y=o++[((i+k:Nat):Int)]:=⟨_,rfl⟩
      refine⟨uev L2,?_⟩
      cbv
      refine ua4 (uaq (L:=o) eL2 (by(first|rfl|((try simp only [qV]at *);(try simp only [zQ,zA,zB,zC,zD,zE,zF,zG,zH,zI,zJ,zK,zL,zM,zN,zO,zP,zR,zS]at *);done)|((try simp only [qV]at *);(try simp only [zQ,zA,zB,zC,zD,zE,zF,zG,zH,zI,zJ,zK,zL,zM,zN,zO,zP,zR,zS]at *);omega))) (by rfl) (fun ix=>Fit.refl _) (fun ix h=>qC (qE (by rfl)) rfl qA) (by(try simp only [qV]at *);(try simp only [zQ,zA,zB,zC,zD,zE,zF,zG,zH,zI,zJ,zK,zL,zM,zN,zO,zP,zR,zS]at *);omega)) (Or.inr ⟨true,?_⟩)
      try cbv)
   | (refine⟨some [0,1,2,3,4],?_⟩
      cbv
      refine qQ ?_ (ih k (by((try simp only [qV]at *);(try simp only [zQ,zA,zB,zC,zD,zE,zF,zG,zH,zI,zJ,zK,zL,zM,zN,zO,zP,zR,zS]at *);omega)) G L2 hG eL2) ?hfit ?hbo
      case hfit=>(cbv;refine qD (ua1 (usE eL2) (fun _ _ _=>Fit.refl _)) ?_;(repeat' (first|exact qB|refine qD ?_ ?_|exact qE (by rfl)|exact qF (by rfl)|exact Fit.refl _|exact qA|refine qC ?_ rfl ?_));done)
      case hbo=>(cbv;(repeat' (first|exact qH|refine qI ?_ ?_|exact qK _|refine qJ ?_|exact qA|exact qE (by rfl)|exact qF (by rfl)|exact Fit.refl _|exact qG _|refine qC ?_ rfl ?_));done)
      try cbv)
   |fail)
  all_goals first|((try simp only [qV]at *);(try simp only [zQ,zA,zB,zC,zD,zE,zF,zG,zH,zI,zJ,zK,zL,zM,zN,zO,zP,zR,zS]at *);first|(refine qN ?_;omega)|(simp only [uam];omega))|(subst hR;exact Fit.refl _;done)|((have hke:k=d.pn.toNat-m-i:=(by((try simp only [qV]at *);(try simp only [zQ,zA,zB,zC,zD,zE,zF,zG,zH,zI,zJ,zK,zL,zM,zN,zO,zP,zR,zS]at *);omega)));rw [hke]at hG;rw [←hG]at hB;subst hB;(repeat' (first|exact qH|refine qI ?_ ?_|exact qK _|refine qJ ?_|exact qA|exact qE (by rfl)|exact qF (by rfl)|exact Fit.refl _|exact qG _|refine qC ?_ rfl ?_));done)|((try simp only [zQ,zA,zB,zC,zD,zE,zF,zG,zH,zI,zJ,zK,zL,zM,zN,zO,zP,zR,zS]at *);(have hx:=umv eL2 hG);refine⟨⟨k+1,by((try simp only [qV]at *);(try simp only [zQ,zA,zB,zC,zD,zE,zF,zG,zH,zI,zJ,zK,zL,zM,zN,zO,zP,zR,zS]at *);omega)⟩,by simp only [];omega,?_⟩;cbv;(repeat' (first|with_reducible refine ua4 ?_ ?_|with_reducible refine And.intro ?_ ?_));(all_goals first|trivial|exact qM (qE (by rfl))|exact qM (qF (by rfl))|exact qM (Fit.refl _)|exact qL (qK _)|(refine qM (qE ?_);(try simp only [qV]at *);simp only [zQ,zA,zB,zC,zD,zE,zF,zG,zH,zI,zJ,zK,zL,zM,zN,zO,zP,zR,zS]at *;omega)|(refine qL (qJ ?_);(repeat' (first|exact qA|exact qB|refine qC ?_ rfl ?_|refine qD ?_ ?_|exact qE (by rfl)|exact qF (by rfl)|exact Fit.refl _|exact qG _|(refine qE ?_;(try simp only [qV]at *);simp only [zQ,zA,zB,zC,zD,zE,zF,zG,zH,zI,zJ,zK,zL,zM,zN,zO,zP,zR,zS]at *;omega)));done)|(simp only [hx];exact qL (qK _))|(refine qM (qE ?_);(try simp only [qV]at *);(try simp only [zQ,zA,zB,zC,zD,zE,zF,zG,zH,zI,zJ,zK,zL,zM,zN,zO,zP,zR,zS]at *);omega)|skip))|skip
theorem uAa (d:Dsp)(hd:DOk d):∀(m:Nat) (F:List (List Int)) (o:List Int) (i:Nat) (ie me:Int),ie=(i:Int)→me=(m:Int)→o.length≤i→i+m≤d.fs.length→F.length+(ubL d.fs.length (udx d) m o i).length≤1000000→ua0 Tryz.prog 88 [(iS o),(iv fun _=>ie),(iv fun _=>me),.own 0 0,.own 1 0,.own 2 0,.own 3 0] [.cells [(wpS d)] 87,.cells [.clo 84 [] [],.clo 85 [] []] 110,.cells [.row 4] 23,.cells [.clo 88 [] [.own 0 0,.own 1 0,.own 2 0,.own 3 0]] 144,.row 22 1 (.sym fun _=>zi (F).length) (fun ix=>[.sl 1 (.sym fun _=>zi ((F).getD ix.den.toNat []).length) (fun jx=>[(iv fun _=>((F).getD ix.den.toNat []).getD jx.den.toNat 0)])])] (fun r bs=>r = .tup []∧bs=[.cells [(wpS d)] 87,.cells [.clo 84 [] [],.clo 85 [] []] 110,.cells [.row 4] 23,.cells [.clo 88 [] [.own 0 0,.own 1 0,.own 2 0,.own 3 0]] 144,.row 22 1 (.sym fun _=>zi ((F++ubL d.fs.length (udx d) m o i)).length) (fun ix=>[.sl 1 (.sym fun _=>zi (((F++ubL d.fs.length (udx d) m o i)).getD ix.den.toNat []).length) (fun jx=>[(iv fun _=>(((F++ubL d.fs.length (udx d) m o i)).getD ix.den.toNat []).getD jx.den.toNat 0)])])]):=by
 have hf6:=hd.f6
 have hp4:=hd.p4
 intro m
 induction m with
 | zero=>
  intro F o i ie me hie hme ho him hB
  have hm0:me=0:=by omega
  subst hm0
  cases hok:(udx d) o with
  | true=>
   rw [show ubL d.fs.length (udx d) 0 o i=[o] by simp only [ubL,hok,if_true]]
   exact uvG d F o ie hd (by omega) (by omega) hok
  | false=>
   rw [show ubL d.fs.length (udx d) 0 o i=[] by simp only [ubL,hok,Bool.false_eq_true,if_false],List.append_nil]
   exact uwK d F o ie hd (by omega) (by omega) hok
 | succ m ih=>
  intro F o i ie me hie hme ho him hB
  subst hie
  subst hme
  rw [uic]at hB⊢
  refine uya d F o i m (m+1) hd (by omega) rfl him fun k hk G L hG hL=> ?_
  refine ih G L (i+k+1) (zi (i+k)+1) (zi (m+1)-1) (by simp only [uah];omega) (by simp only [uah];omega) (by rw [hL,List.length_append];simp only [List.length_cons,List.length_nil];omega) (by omega) ?_
  have h1:=usA (n:=d.fs.length) (ok:=(udx d)) (m:=m) (o:=o) (i:=i) (show k+1≤d.fs.length-m-i by omega)
  have h2:=congrArg List.length (umv (F:=F) hL hG)
  rw [List.length_append,List.length_append]at h2
  omega
theorem uAV (d:Dsp)(hd:DOk d):∀(m:Nat) (F:List (List Int)) (o:List Int) (i:Nat) (ie me:Int),ie=(i:Int)→me=(m:Int)→o.length≤i→i+m≤d.pn.toNat→F.length+(ubL d.pn.toNat (uc4 d) m o i).length≤1000000→ua0 Tryz.prog 88 [(iS o),(iv fun _=>ie),(iv fun _=>me),.own 0 0,.own 1 0,.own 2 0,.own 3 0] [.cells [(wpS d)] 87,.cells [.clo 86 [] [],.clo 87 [] []] 110,.cells [.row 4] 23,.cells [.clo 88 [] [.own 0 0,.own 1 0,.own 2 0,.own 3 0]] 144,.row 22 1 (.sym fun _=>zi (F).length) (fun ix=>[.sl 1 (.sym fun _=>zi ((F).getD ix.den.toNat []).length) (fun jx=>[(iv fun _=>((F).getD ix.den.toNat []).getD jx.den.toNat 0)])])] (fun r bs=>r = .tup []∧bs=[.cells [(wpS d)] 87,.cells [.clo 86 [] [],.clo 87 [] []] 110,.cells [.row 4] 23,.cells [.clo 88 [] [.own 0 0,.own 1 0,.own 2 0,.own 3 0]] 144,.row 22 1 (.sym fun _=>zi ((F++ubL d.pn.toNat (uc4 d) m o i)).length) (fun ix=>[.sl 1 (.sym fun _=>zi (((F++ubL d.pn.toNat (uc4 d) m o i)).getD ix.den.toNat []).length) (fun jx=>[(iv fun _=>(((F++ubL d.pn.toNat (uc4 d) m o i)).getD ix.den.toNat []).getD jx.den.toNat 0)])])]):=by
 have hf6:=hd.f6
 have hp4:=hd.p4
 intro m
 induction m with
 | zero=>
  intro F o i ie me hie hme ho him hB
  have hm0:me=0:=by omega
  subst hm0
  cases hok:(uc4 d) o with
  | true=>
   rw [show ubL d.pn.toNat (uc4 d) 0 o i=[o] by simp only [ubL,hok,if_true]]
   exact uwU d F o ie hd (by omega) (by omega) hok
  | false=>
   rw [show ubL d.pn.toNat (uc4 d) 0 o i=[] by simp only [ubL,hok,Bool.false_eq_true,if_false],List.append_nil]
   exact uwl d F o ie hd (by omega) (by omega) hok
 | succ m ih=>
  intro F o i ie me hie hme ho him hB
  subst hie
  subst hme
  rw [uic]at hB⊢
  refine uyS d F o i m (m+1) hd (by omega) rfl him fun k hk G L hG hL=> ?_
  refine ih G L (i+k+1) (zi (i+k)+1) (zi (m+1)-1) (by simp only [uah];omega) (by simp only [uah];omega) (by rw [hL,List.length_append];simp only [List.length_cons,List.length_nil];omega) (by omega) ?_
  have h1:=usA (n:=d.pn.toNat) (ok:=(uc4 d)) (m:=m) (o:=o) (i:=i) (show k+1≤d.pn.toNat-m-i by omega)
  have h2:=congrArg List.length (umv (F:=F) hL hG)
  rw [List.length_append,List.length_append]at h2
  omega
theorem usD {n:Nat} {ok:List Int→Bool} {m k:Nat}(hk:0<k)(h:ubL n ok m [] 0=[]):uqj n ok k m=uqj n ok (k-1) (m+1):=by
 cases k with
 |zero=>omega
 |succ k=>simp only [uqj,h,List.isEmpty_nil,if_true,Nat.add_sub_cancel]
theorem umx {n:Nat} {ok:List Int→Bool} {m k:Nat}(hk:0<k)(h:ubL n ok m [] 0≠[]):uqj n ok k m=ubL n ok m [] 0:=by
 cases k with
 |zero=>omega
 | succ k=>
  simp only [uqj]
  rw [if_neg (by simpa using h)]
theorem umK {d:Dsp} {n:Nat} {ok:List Int→Bool} {m:Nat}(hn:n≤6)(hm:m≤n):(ubL n ok m [] 0).length≤1000000:=by
 refine Nat.le_trans um9 (Nat.le_trans (Nat.pow_le_pow_left hn m) (Nat.le_trans (Nat.pow_le_pow_right (by omega) (show m≤6 by omega)) (by decide)))
theorem upb (d:Dsp)(hd:DOk d):ua0 Tryz.prog 51 [(.agg [.clo 84 [] [],.clo 85 [] []]),(wpS d)] [] (fun r _=>r=(.sl 1 (.sym fun _=>zi ((uaB d.fs.length (udx d))).length) (fun ix=>[(.sl 1 (.sym fun _=>zi (((uaB d.fs.length (udx d))).getD ix.den.toNat []).length) (fun jx=>[(iv fun _=>(((uaB d.fs.length (udx d))).getD ix.den.toNat []).getD jx.den.toNat 0)]))]))):=by
 have c88:=uoZ d
 have f6:=hd.f6
 have p4:=hd.p4
 have p1:=hd.p1
 have cadd:=fun (x:Nat) (h:x≤d.fs.length)=>(show ua0 Tryz.prog 88 [(iS (([]:List Int))),(iv fun _=>0),(iv fun _=>zi x),.own 0 0,.own 1 0,.own 2 0,.own 3 0] [.cells [(wpS d)] 87,.cells [.clo 84 [] [],.clo 85 [] []] 110,.cells [.row 4] 23,.cells [.clo 88 [] [.own 0 0,.own 1 0,.own 2 0,.own 3 0]] 144,.row 22 1 (.sym fun _=>zi (([]:List (List Int))).length) (fun ix=>[.sl 1 (.sym fun _=>zi ((([]:List (List Int))).getD ix.den.toNat []).length) (fun jx=>[(iv fun _=>((([]:List (List Int))).getD ix.den.toNat []).getD jx.den.toNat 0)])])] (fun r bs=>r = .tup []∧bs=[.cells [(wpS d)] 87,.cells [.clo 84 [] [],.clo 85 [] []] 110,.cells [.row 4] 23,.cells [.clo 88 [] [.own 0 0,.own 1 0,.own 2 0,.own 3 0]] 144,.row 22 1 (.sym fun _=>zi ((ubL d.fs.length (udx d) x [] 0)).length) (fun ix=>[.sl 1 (.sym fun _=>zi (((ubL d.fs.length (udx d) x [] 0)).getD ix.den.toNat []).length) (fun jx=>[(iv fun _=>(((ubL d.fs.length (udx d) x [] 0)).getD ix.den.toNat []).getD jx.den.toNat 0)])])])from uAa d hd x [] [] 0 0 (zi x) rfl (by simp only [uah]) (Nat.le_refl _) (by omega) (by have:=umK (d:=d) (n:=d.fs.length) (ok:=(udx d)) (m:=x) (by omega) h;simp only [List.length_nil];omega))
 refine ua0.is fun R hR=>qW (sc:=uzn) uaj mix Tryz.func51 rfl Tryz.call51 (by kernel_rfl) (by kernel_rfl) ?_
 generalize Tryz.prog=P at c88 cadd⊢
 cbv
 repeat' (first|with_reducible refine ua4 ?_ ?_|(refine qP ?_ (c88) ?hfit;(case hfit=>((repeat' (first|exact qB|refine qD ?_ ?_|exact qE (by rfl)|exact qF (by rfl)|exact Fit.refl _|exact qA|refine qC ?_ rfl ?_));done));try cbv)|fail)
 all_goals first|((try simp only [qV]at *);(try simp only [zQ,zA,zB,zC,zD,zE,zF,zG,zH,zI,zJ,zK,zL,zM,zN,zO,zP,zR,zS]at *);first|(refine qN ?_;omega)|(simp only [uam];omega))|skip
 refine⟨none,[⟨.cell 2 0,22,1⟩],{x:Nat // x≤d.fs.length+1∧uaB d.fs.length (udx d)=uqj d.fs.length (udx d) (d.fs.length+1-x) x},fun x=>⟨[(2,.own 0 0),(3,.own 1 0),(4,.own 2 0),(5,.own 3 0),(12,(iv fun _=>zi d.fs.length+1)),(13,(iv fun _=>zi x.1))],[(0,.cells [.clo 84 [] [],.clo 85 [] []] 110),(1,.cells [(wpS d)] 87),(2,.cells [.row 12] 23),(3,.cells [.clo 88 [] [.own 1 0,.own 0 0,.own 2 0,.own 3 0]] 144),(12,.row 22 1 (.sym fun _=>zi (([]:List (List Int))).length) (fun ix=>[.sl 1 (.sym fun _=>zi ((([]:List (List Int))).getD ix.den.toNat []).length) (fun jx=>[(iv fun _=>((([]:List (List Int))).getD ix.den.toNat []).getD jx.den.toNat 0)])]))],60⟩,fun x=>d.fs.length+1-x.1,?_,?_⟩
 ·refine⟨⟨0,by omega,rfl⟩,?_⟩
  cbv
  repeat' (first|with_reducible refine ua4 ?_ ?_|with_reducible refine And.intro ?_ ?_)
  all_goals first|trivial|exact qM (qE (by rfl))|exact qM (Fit.refl _)|exact qL (qK _)|(refine qL (uae ?_ ?_);(first|rfl|((try simp only [qV]at *);(try simp only [zQ,zA,zB,zC,zD,zE,zF,zG,zH,zI,zJ,zK,zL,zM,zN,zO,zP,zR,zS]at *);omega));intro ix h0 h1;exfalso;(try simp only [qV]at *);(try simp only [zQ,zA,zB,zC,zD,zE,zF,zG,zH,zI,zJ,zK,zL,zM,zN,zO,zP,zR,zS]at *);omega)|skip
 ·rintro ⟨x,hx,h3⟩
  cbv
  obtain⟨A,hA⟩:∃A,A=ubL d.fs.length (udx d) x [] 0:=⟨_,rfl⟩
  have caddx:=fun h=>cadd x h
  rw [←hA]at caddx
  cbv
  repeat' (first
   |with_reducible refine ua4 ?_ ?_
   |with_reducible refine And.intro ?_ ?_
   |(with_reducible intro hcd;(try simp only [zA,zB,zC,zD,zE,zF,zG,zH,zI,zJ,zK,zL,zM,zN,zO,zP]at hcd);try cbv)
   | (refine⟨some [1,0,2,3,12],?_⟩
      cbv
      refine qQ ?_ (caddx (by((try simp only [qV]at *);(try simp only [zQ,zA,zB,zC,zD,zE,zF,zG,zH,zI,zJ,zK,zL,zM,zN,zO,zP,zR,zS]at *);omega))) ?hfit ?hbo
      case hfit=>(cbv;refine qD (qO rfl) ?_;(repeat' (first|exact qB|refine qD ?_ ?_|exact qE (by rfl)|exact qF (by rfl)|exact Fit.refl _|exact qA|refine qC ?_ rfl ?_));done)
      case hbo=>(cbv;(repeat' (first|exact qH|refine qI ?_ ?_|exact qK _|refine qJ ?_|exact qA|exact qE (by rfl)|exact qF (by rfl)|exact Fit.refl _|exact qG _|refine qC ?_ rfl ?_));done)
      try cbv)
   |fail)
  all_goals first|((try simp only [qV]at *);(try simp only [zQ,zA,zB,zC,zD,zE,zF,zG,zH,zI,zJ,zK,zL,zM,zN,zO,zP,zR,zS]at *);first|(refine qN ?_;omega)|(simp only [uam];omega))|(subst hR;((have hne:A≠[]:=fun q=>by(rw [q]at hcd;(try simp only [qV]at *);(try simp only [zQ,zA,zB,zC,zD,zE,zF,zG,zH,zI,zJ,zK,zL,zM,zN,zO,zP,zR,zS]at *);simp only [List.length_nil]at hcd;omega));(have e9:=h3.trans (umx (by((try simp only [qV]at *);(try simp only [zQ,zA,zB,zC,zD,zE,zF,zG,zH,zI,zJ,zK,zL,zM,zN,zO,zP,zR,zS]at *);omega)) (by rw [←hA];exact hne)));rw [←hA]at e9;rw [e9];exact Fit.refl _);done)|(subst hR;((have hz:d.fs.length+1-x=0:=by((try simp only [qV]at *);(try simp only [zQ,zA,zB,zC,zD,zE,zF,zG,zH,zI,zJ,zK,zL,zM,zN,zO,zP,zR,zS]at *);omega));rw [hz]at h3;rw [show uaB d.fs.length (udx d)=[]from h3];exact Fit.refl _);done)|((try simp only [zQ,zA,zB,zC,zD,zE,zF,zG,zH,zI,zJ,zK,zL,zM,zN,zO,zP,zR,zS]at *);(have hAe:A=[]:=List.length_eq_zero_iff.1 (by((try simp only [qV]at *);(try simp only [zQ,zA,zB,zC,zD,zE,zF,zG,zH,zI,zJ,zK,zL,zM,zN,zO,zP,zR,zS]at *);omega)));refine⟨⟨x+1,by((try simp only [qV]at *);(try simp only [zQ,zA,zB,zC,zD,zE,zF,zG,zH,zI,zJ,zK,zL,zM,zN,zO,zP,zR,zS]at *);omega),by rw [show d.fs.length+1-(x+1)=d.fs.length+1-x-1 by omega,←usD (by((try simp only [qV]at *);(try simp only [zQ,zA,zB,zC,zD,zE,zF,zG,zH,zI,zJ,zK,zL,zM,zN,zO,zP,zR,zS]at *);omega)) (hA.symm.trans hAe)];exact h3⟩,by simp only [];omega,?_⟩;cbv;(repeat' (first|with_reducible refine ua4 ?_ ?_|with_reducible refine And.intro ?_ ?_));(all_goals first|trivial|exact qM (qE (by rfl))|exact qM (qF (by rfl))|exact qM (Fit.refl _)|exact qL (qK _)|(refine qM (qE ?_);(try simp only [qV]at *);simp only [zQ,zA,zB,zC,zD,zE,zF,zG,zH,zI,zJ,zK,zL,zM,zN,zO,zP,zR,zS]at *;omega)|(refine qL (qJ ?_);(repeat' (first|exact qA|exact qB|refine qC ?_ rfl ?_|refine qD ?_ ?_|exact qE (by rfl)|exact qF (by rfl)|exact Fit.refl _|exact qG _|(refine qE ?_;(try simp only [qV]at *);simp only [zQ,zA,zB,zC,zD,zE,zF,zG,zH,zI,zJ,zK,zL,zM,zN,zO,zP,zR,zS]at *;omega)));done)|(simp only [hAe];exact qL (qK _))|(refine qL (uae ?_ ?_);(first|rfl|(simp only [hAe];rfl));intro ix h0 h1;exfalso;simp only [hAe]at h1;(try simp only [qV]at *);(try simp only [zQ,zA,zB,zC,zD,zE,zF,zG,zH,zI,zJ,zK,zL,zM,zN,zO,zP,zR,zS]at *);omega)|skip))|skip
theorem ugE (d:Dsp)(hd:DOk d):ua0 Tryz.prog 51 [(.agg [.clo 86 [] [],.clo 87 [] []]),(wpS d)] [] (fun r _=>r=(.sl 1 (.sym fun _=>zi ((uaB d.pn.toNat (uc4 d))).length) (fun ix=>[(.sl 1 (.sym fun _=>zi (((uaB d.pn.toNat (uc4 d))).getD ix.den.toNat []).length) (fun jx=>[(iv fun _=>(((uaB d.pn.toNat (uc4 d))).getD ix.den.toNat []).getD jx.den.toNat 0)]))]))):=by
 have c90:=ukk d
 have f6:=hd.f6
 have p4:=hd.p4
 have p1:=hd.p1
 have cadd:=fun (x:Nat) (h:x≤d.pn.toNat)=>(show ua0 Tryz.prog 88 [(iS (([]:List Int))),(iv fun _=>0),(iv fun _=>zi x),.own 0 0,.own 1 0,.own 2 0,.own 3 0] [.cells [(wpS d)] 87,.cells [.clo 86 [] [],.clo 87 [] []] 110,.cells [.row 4] 23,.cells [.clo 88 [] [.own 0 0,.own 1 0,.own 2 0,.own 3 0]] 144,.row 22 1 (.sym fun _=>zi (([]:List (List Int))).length) (fun ix=>[.sl 1 (.sym fun _=>zi ((([]:List (List Int))).getD ix.den.toNat []).length) (fun jx=>[(iv fun _=>((([]:List (List Int))).getD ix.den.toNat []).getD jx.den.toNat 0)])])] (fun r bs=>r = .tup []∧bs=[.cells [(wpS d)] 87,.cells [.clo 86 [] [],.clo 87 [] []] 110,.cells [.row 4] 23,.cells [.clo 88 [] [.own 0 0,.own 1 0,.own 2 0,.own 3 0]] 144,.row 22 1 (.sym fun _=>zi ((ubL d.pn.toNat (uc4 d) x [] 0)).length) (fun ix=>[.sl 1 (.sym fun _=>zi (((ubL d.pn.toNat (uc4 d) x [] 0)).getD ix.den.toNat []).length) (fun jx=>[(iv fun _=>(((ubL d.pn.toNat (uc4 d) x [] 0)).getD ix.den.toNat []).getD jx.den.toNat 0)])])])from uAV d hd x [] [] 0 0 (zi x) rfl (by simp only [uah]) (Nat.le_refl _) (by omega) (by have:=umK (d:=d) (n:=d.pn.toNat) (ok:=(uc4 d)) (m:=x) (by omega) h;simp only [List.length_nil];omega))
 refine ua0.is fun R hR=>qW (sc:=uzn) uaj mix Tryz.func51 rfl Tryz.call51 (by kernel_rfl) (by kernel_rfl) ?_
 generalize Tryz.prog=P at c90 cadd⊢
 cbv
 repeat' (first|with_reducible refine ua4 ?_ ?_|(refine qP ?_ (c90) ?hfit;(case hfit=>((repeat' (first|exact qB|refine qD ?_ ?_|exact qE (by rfl)|exact qF (by rfl)|exact Fit.refl _|exact qA|refine qC ?_ rfl ?_));done));try cbv)|fail)
 all_goals first|((try simp only [qV]at *);(try simp only [zQ,zA,zB,zC,zD,zE,zF,zG,zH,zI,zJ,zK,zL,zM,zN,zO,zP,zR,zS]at *);first|(refine qN ?_;omega)|(simp only [uam];omega))|skip
 refine⟨none,[⟨.cell 2 0,22,1⟩],{x:Nat // x≤d.pn.toNat+1∧uaB d.pn.toNat (uc4 d)=uqj d.pn.toNat (uc4 d) (d.pn.toNat+1-x) x},fun x=>⟨[(2,.own 0 0),(3,.own 1 0),(4,.own 2 0),(5,.own 3 0),(12,(iv fun _=>d.pn+1)),(13,(iv fun _=>zi x.1))],[(0,.cells [.clo 86 [] [],.clo 87 [] []] 110),(1,.cells [(wpS d)] 87),(2,.cells [.row 12] 23),(3,.cells [.clo 88 [] [.own 1 0,.own 0 0,.own 2 0,.own 3 0]] 144),(12,.row 22 1 (.sym fun _=>zi (([]:List (List Int))).length) (fun ix=>[.sl 1 (.sym fun _=>zi ((([]:List (List Int))).getD ix.den.toNat []).length) (fun jx=>[(iv fun _=>((([]:List (List Int))).getD ix.den.toNat []).getD jx.den.toNat 0)])]))],60⟩,fun x=>d.pn.toNat+1-x.1,?_,?_⟩
 ·refine⟨⟨0,by omega,rfl⟩,?_⟩
  cbv
  repeat' (first|with_reducible refine ua4 ?_ ?_|with_reducible refine And.intro ?_ ?_)
  all_goals first|trivial|exact qM (qE (by rfl))|exact qM (Fit.refl _)|exact qL (qK _)|(refine qL (uae ?_ ?_);(first|rfl|((try simp only [qV]at *);(try simp only [zQ,zA,zB,zC,zD,zE,zF,zG,zH,zI,zJ,zK,zL,zM,zN,zO,zP,zR,zS]at *);omega));intro ix h0 h1;exfalso;(try simp only [qV]at *);(try simp only [zQ,zA,zB,zC,zD,zE,zF,zG,zH,zI,zJ,zK,zL,zM,zN,zO,zP,zR,zS]at *);omega)|skip
 ·rintro ⟨x,hx,h3⟩
  cbv
  obtain⟨A,hA⟩:∃A,A=ubL d.pn.toNat (uc4 d) x [] 0:=⟨_,rfl⟩
  have caddx:=fun h=>cadd x h
  rw [←hA]at caddx
  cbv
  repeat' (first
   |with_reducible refine ua4 ?_ ?_
   |with_reducible refine And.intro ?_ ?_
   |(with_reducible intro hcd;(try simp only [zA,zB,zC,zD,zE,zF,zG,zH,zI,zJ,zK,zL,zM,zN,zO,zP]at hcd);try cbv)
   | (refine⟨some [1,0,2,3,12],?_⟩
      cbv
      refine qQ ?_ (caddx (by((try simp only [qV]at *);(try simp only [zQ,zA,zB,zC,zD,zE,zF,zG,zH,zI,zJ,zK,zL,zM,zN,zO,zP,zR,zS]at *);omega))) ?hfit ?hbo
      case hfit=>(cbv;refine qD (qO rfl) ?_;(repeat' (first|exact qB|refine qD ?_ ?_|exact qE (by rfl)|exact qF (by rfl)|exact Fit.refl _|exact qA|refine qC ?_ rfl ?_));done)
      case hbo=>(cbv;(repeat' (first|exact qH|refine qI ?_ ?_|exact qK _|refine qJ ?_|exact qA|exact qE (by rfl)|exact qF (by rfl)|exact Fit.refl _|exact qG _|refine qC ?_ rfl ?_));done)
      try cbv)
   |fail)
  all_goals first|((try simp only [qV]at *);(try simp only [zQ,zA,zB,zC,zD,zE,zF,zG,zH,zI,zJ,zK,zL,zM,zN,zO,zP,zR,zS]at *);first|(refine qN ?_;omega)|(simp only [uam];omega))|(subst hR;((have hne:A≠[]:=fun q=>by(rw [q]at hcd;(try simp only [qV]at *);(try simp only [zQ,zA,zB,zC,zD,zE,zF,zG,zH,zI,zJ,zK,zL,zM,zN,zO,zP,zR,zS]at *);simp only [List.length_nil]at hcd;omega));(have e9:=h3.trans (umx (by((try simp only [qV]at *);(try simp only [zQ,zA,zB,zC,zD,zE,zF,zG,zH,zI,zJ,zK,zL,zM,zN,zO,zP,zR,zS]at *);omega)) (by rw [←hA];exact hne)));rw [←hA]at e9;rw [e9];exact Fit.refl _);done)|(subst hR;((have hz:d.pn.toNat+1-x=0:=by((try simp only [qV]at *);(try simp only [zQ,zA,zB,zC,zD,zE,zF,zG,zH,zI,zJ,zK,zL,zM,zN,zO,zP,zR,zS]at *);omega));rw [hz]at h3;rw [show uaB d.pn.toNat (uc4 d)=[]from h3];exact Fit.refl _);done)|((try simp only [zQ,zA,zB,zC,zD,zE,zF,zG,zH,zI,zJ,zK,zL,zM,zN,zO,zP,zR,zS]at *);(have hAe:A=[]:=List.length_eq_zero_iff.1 (by((try simp only [qV]at *);(try simp only [zQ,zA,zB,zC,zD,zE,zF,zG,zH,zI,zJ,zK,zL,zM,zN,zO,zP,zR,zS]at *);omega)));refine⟨⟨x+1,by((try simp only [qV]at *);(try simp only [zQ,zA,zB,zC,zD,zE,zF,zG,zH,zI,zJ,zK,zL,zM,zN,zO,zP,zR,zS]at *);omega),by rw [show d.pn.toNat+1-(x+1)=d.pn.toNat+1-x-1 by omega,←usD (by((try simp only [qV]at *);(try simp only [zQ,zA,zB,zC,zD,zE,zF,zG,zH,zI,zJ,zK,zL,zM,zN,zO,zP,zR,zS]at *);omega)) (hA.symm.trans hAe)];exact h3⟩,by simp only [];omega,?_⟩;cbv;(repeat' (first|with_reducible refine ua4 ?_ ?_|with_reducible refine And.intro ?_ ?_));(all_goals first|trivial|exact qM (qE (by rfl))|exact qM (qF (by rfl))|exact qM (Fit.refl _)|exact qL (qK _)|(refine qM (qE ?_);(try simp only [qV]at *);simp only [zQ,zA,zB,zC,zD,zE,zF,zG,zH,zI,zJ,zK,zL,zM,zN,zO,zP,zR,zS]at *;omega)|(refine qL (qJ ?_);(repeat' (first|exact qA|exact qB|refine qC ?_ rfl ?_|refine qD ?_ ?_|exact qE (by rfl)|exact qF (by rfl)|exact Fit.refl _|exact qG _|(refine qE ?_;(try simp only [qV]at *);simp only [zQ,zA,zB,zC,zD,zE,zF,zG,zH,zI,zJ,zK,zL,zM,zN,zO,zP,zR,zS]at *;omega)));done)|(simp only [hAe];exact qL (qK _))|(refine qL (uae ?_ ?_);(first|rfl|(simp only [hAe];rfl));intro ix h0 h1;exfalso;simp only [hAe]at h1;(try simp only [qV]at *);(try simp only [zQ,zA,zB,zC,zD,zE,zF,zG,zH,zI,zJ,zK,zL,zM,zN,zO,zP,zR,zS]at *);omega)|skip))|skip
end Go.Proofs.YtkdggbfknlcdaaaGreat
namespace Go.Proofs.YtkdggbfknlcdaaaGreat
open Go.Eng.Dif Go.Eng.Few
def ptD (d:Dsp)(i:Nat):Int:=(d.fs.getD i f0T).p
theorem upW (d:Dsp):udx d=okF (SN d) (LO d) (FO d d.fs):=funext fun o=>upt
theorem ul8 {d:Dsp}(h:DOk d):uc4 d=okP (SN d) (LO d) (FO d d.fs) (ptD d):=by
 funext o
 unfold uc4 okP
 rw [upt]
 unfold okF
 refine uj4 (okk h h.f) fun i hi=> ?_
 rw [ufX]at hi
 unfold uxB ukq
 have e:(thN d o d.fs.length).contains (i:Int)=inL o (d.fs.getD i f0T).p:=uv1 hi
 rw [e,uhz]
 rfl
theorem uxR {d:Dsp}(h:DOk d):∀i,i<(FO d d.fs).length→0≤ptD d i∧ptD d i<(d.pn.toNat:Int):=by
 intro i hi
 rw [ufX]at hi
 have q:=h.f i hi
 have:=h.p1
 unfold uca at q
 unfold ptD
 omega
theorem uyY {d:Dsp}(h:DOk d)(hl:udT d=true):udx d (ub0 d.fs.length)=true:=by
 rw [upW]
 have:=upv (okk h h.f)
 rw [ufX]at this
 rw [this,←umn];exact hl
theorem uy5 {d:Dsp}(h:DOk d)(hl:udT d=true):uc4 d (ub0 d.pn.toNat)=true:=by
 rw [ul8 h,upY (okk h h.f) (uxR h),←umn];exact hl
theorem ufM {d:Dsp}(h:ual d=0):udx d (ub0 d.fs.length)=true:=uyY (ua2.1 (uaF h).1) (uaF h).2
theorem ufL {d:Dsp}(h:ual d=0):uc4 d (ub0 d.pn.toNat)=true:=uy5 (ua2.1 (uaF h).1) (uaF h).2
theorem ugS {n:Nat} {ok:List Int→Bool}(h:ok (ub0 n)=true):0<(uaB n ok).length∧(uaB n ok).getD 0 []=udB n ok:=by
 have:=un8 h
 cases hs:uaB n ok with
 |nil=>rw [hs]at this;cases this
 | cons a l=>
  rw [hs]at this
  refine⟨by simp,?_⟩
  have e:some a=some (udB n ok):=this
  show a=_
  exact Option.some.inj e
def ufY (d:Dsp):List Int:=if ual d=0 then udB d.fs.length (udx d)else []
def usT (d:Dsp):List Int:=if ual d=0 then udB d.pn.toNat (uc4 d)else []
end Go.Proofs.YtkdggbfknlcdaaaGreat
namespace Go.Proofs.YtkdggbfknlcdaaaGreat
open Go Go.Eng Go.Proofs Go.Eng.Dif Go.Eng.Few
set_option maxRecDepth 10000
theorem un4 (d:Dsp)(h:ual d=0):ua0 Tryz.prog 45 [(.agg [.clo 84 [] [],.clo 85 [] []]),(ub5 d)] [] (fun r _=>r=(.tup [(iS ((ufY d))),(iv fun _=>ual d)])):=by
 have c59:=umg d h
 have hd:=ua2.1 (uaF h).1
 have hs:=ugS (ufM h)
 have hsm:ufY d=udB d.fs.length (udx d):=if_pos h
 rw [hsm,h,←hs.2]
 have hs1:=hs.1
 have c61:=upb d hd
 obtain⟨Q,hQ⟩:∃Q,Q=uaB d.fs.length (udx d):=⟨_,rfl⟩
 rw [←hQ]at c61 hs1⊢
 refine ua0.is fun R hR=>qW (sc:=uxv) uaj mix Tryz.func45 rfl Tryz.call45 (by kernel_rfl) (by kernel_rfl) ?_
 generalize Tryz.prog=P at c59 c61⊢
 cbv
 repeat' (first|with_reducible refine ua4 ?_ ?_|with_reducible refine And.intro ?_ ?_|(with_reducible intro hcd;(try simp only [zA,zB,zC,zD,zE,zF,zG,zH,zI,zJ,zK,zL,zM,zN,zO,zP]at hcd);try cbv)|(refine qP ?_ (c59) ?hfit;(case hfit=>((repeat' (first|exact qB|refine qD ?_ ?_|exact qE (by rfl)|exact qF (by rfl)|exact Fit.refl _|exact qA|refine qC ?_ rfl ?_));done));try cbv)|(refine qP ?_ (c61) ?hfit;(case hfit=>((repeat' (first|exact qB|refine qD ?_ ?_|exact qE (by rfl)|exact qF (by rfl)|exact Fit.refl _|exact qA|refine qC ?_ rfl ?_));done));try cbv)|fail)
 all_goals first|trivial|((try simp only [qV]at *);(try simp only [zQ,zA,zB,zC,zD,zE,zF,zG,zH,zI,zJ,zK,zL,zM,zN,zO,zP,zR,zS]at *);first|(refine qN ?_;omega)|(simp only [uam];omega))|(subst hR;(repeat' (first|exact qA|exact qB|refine qC ?_ rfl ?_|refine qD ?_ ?_|exact qE (by rfl)|exact qF (by rfl)|exact Fit.refl _|exact qG _|(refine qE ?_;(try simp only [qV]at *);simp only [zQ,zA,zB,zC,zD,zE,zF,zG,zH,zI,zJ,zK,zL,zM,zN,zO,zP,zR,zS]at *;omega)));done)|skip
theorem un5 (d:Dsp)(h:¬ual d=0):ua0 Tryz.prog 45 [(.agg [.clo 84 [] [],.clo 85 [] []]),(ub5 d)] [] (fun r _=>r=(.tup [(iS ((ufY d))),(iv fun _=>ual d)])):=by
 have c59:=uim d h
 refine ua0.is fun R hR=>qW (sc:=uxv) uaj mix Tryz.func45 rfl Tryz.call45 (by kernel_rfl) (by kernel_rfl) ?_
 generalize Tryz.prog=P at c59⊢
 cbv
 repeat' (first|with_reducible refine And.intro ?_ ?_|(with_reducible intro hcd;(try simp only [zA,zB,zC,zD,zE,zF,zG,zH,zI,zJ,zK,zL,zM,zN,zO,zP]at hcd);try cbv)|(refine qP ?_ (c59) ?hfit;(case hfit=>((repeat' (first|exact qB|refine qD ?_ ?_|exact qE (by rfl)|exact qF (by rfl)|exact Fit.refl _|exact qA|refine qC ?_ rfl ?_));done));try cbv)|fail)
 all_goals first|trivial|(subst hR;(exact qD (qO (by(have e:ufY d=[]:=if_neg h);rw [e];rfl)) (qD (Fit.refl _) qB));done)|skip
theorem uoM (d:Dsp):ua0 Tryz.prog 45 [(.agg [.clo 84 [] [],.clo 85 [] []]),(ub5 d)] [] (fun r _=>r=(.tup [(iS ((ufY d))),(iv fun _=>ual d)])):=by
 by_cases h:ual d=0
 ·exact un4 d h
 ·exact un5 d h
theorem upz (d:Dsp):ua0 Tryz.prog 13 [(ub5 d)] [] (fun r _=>r=(.tup [(iS ((ufY d))),(iv fun _=>ual d)])):=by
 have cb:=ur4
 have c57:=uoM d
 refine ua0.is fun R hR=>qW (sc:=uA1) uaj mix Tryz.func13 rfl Tryz.call13 (by kernel_rfl) (by kernel_rfl) ?_
 generalize Tryz.prog=P at cb c57⊢
 cbv
 repeat' (first|(refine qP ?_ (cb) ?hfit;(case hfit=>((repeat' (first|exact qB|refine qD ?_ ?_|exact qE (by rfl)|exact qF (by rfl)|exact Fit.refl _|exact qA|refine qC ?_ rfl ?_));done));try cbv)|(refine qP ?_ (c57) ?hfit;(case hfit=>((repeat' (first|exact qB|refine qD ?_ ?_|exact qE (by rfl)|exact qF (by rfl)|exact Fit.refl _|exact qA|refine qC ?_ rfl ?_));done));try cbv)|fail)
 all_goals first|(subst hR;(repeat' (first|exact qA|exact qB|refine qC ?_ rfl ?_|refine qD ?_ ?_|exact qE (by rfl)|exact qF (by rfl)|exact Fit.refl _|exact qG _|(refine qE ?_;(try simp only [qV]at *);simp only [zQ,zA,zB,zC,zD,zE,zF,zG,zH,zI,zJ,zK,zL,zM,zN,zO,zP,zR,zS]at *;omega)));done)|skip
theorem unt (d:Dsp)(h:ual d=0):ua0 Tryz.prog 45 [(.agg [.clo 86 [] [],.clo 87 [] []]),(ub5 d)] [] (fun r _=>r=(.tup [(iS ((usT d))),(iv fun _=>ual d)])):=by
 have c59:=umg d h
 have hd:=ua2.1 (uaF h).1
 have hs:=ugS (ufL h)
 have hsm:usT d=udB d.pn.toNat (uc4 d):=if_pos h
 rw [hsm,h,←hs.2]
 have hs1:=hs.1
 have c61:=ugE d hd
 obtain⟨Q,hQ⟩:∃Q,Q=uaB d.pn.toNat (uc4 d):=⟨_,rfl⟩
 rw [←hQ]at c61 hs1⊢
 refine ua0.is fun R hR=>qW (sc:=uxv) uaj mix Tryz.func45 rfl Tryz.call45 (by kernel_rfl) (by kernel_rfl) ?_
 generalize Tryz.prog=P at c59 c61⊢
 cbv
 repeat' (first|with_reducible refine ua4 ?_ ?_|with_reducible refine And.intro ?_ ?_|(with_reducible intro hcd;(try simp only [zA,zB,zC,zD,zE,zF,zG,zH,zI,zJ,zK,zL,zM,zN,zO,zP]at hcd);try cbv)|(refine qP ?_ (c59) ?hfit;(case hfit=>((repeat' (first|exact qB|refine qD ?_ ?_|exact qE (by rfl)|exact qF (by rfl)|exact Fit.refl _|exact qA|refine qC ?_ rfl ?_));done));try cbv)|(refine qP ?_ (c61) ?hfit;(case hfit=>((repeat' (first|exact qB|refine qD ?_ ?_|exact qE (by rfl)|exact qF (by rfl)|exact Fit.refl _|exact qA|refine qC ?_ rfl ?_));done));try cbv)|fail)
 all_goals first|trivial|((try simp only [qV]at *);(try simp only [zQ,zA,zB,zC,zD,zE,zF,zG,zH,zI,zJ,zK,zL,zM,zN,zO,zP,zR,zS]at *);first|(refine qN ?_;omega)|(simp only [uam];omega))|(subst hR;(repeat' (first|exact qA|exact qB|refine qC ?_ rfl ?_|refine qD ?_ ?_|exact qE (by rfl)|exact qF (by rfl)|exact Fit.refl _|exact qG _|(refine qE ?_;(try simp only [qV]at *);simp only [zQ,zA,zB,zC,zD,zE,zF,zG,zH,zI,zJ,zK,zL,zM,zN,zO,zP,zR,zS]at *;omega)));done)|skip
theorem unM (d:Dsp)(h:¬ual d=0):ua0 Tryz.prog 45 [(.agg [.clo 86 [] [],.clo 87 [] []]),(ub5 d)] [] (fun r _=>r=(.tup [(iS ((usT d))),(iv fun _=>ual d)])):=by
 have c59:=uim d h
 refine ua0.is fun R hR=>qW (sc:=uxv) uaj mix Tryz.func45 rfl Tryz.call45 (by kernel_rfl) (by kernel_rfl) ?_
 generalize Tryz.prog=P at c59⊢
 cbv
 repeat' (first|with_reducible refine And.intro ?_ ?_|(with_reducible intro hcd;(try simp only [zA,zB,zC,zD,zE,zF,zG,zH,zI,zJ,zK,zL,zM,zN,zO,zP]at hcd);try cbv)|(refine qP ?_ (c59) ?hfit;(case hfit=>((repeat' (first|exact qB|refine qD ?_ ?_|exact qE (by rfl)|exact qF (by rfl)|exact Fit.refl _|exact qA|refine qC ?_ rfl ?_));done));try cbv)|fail)
 all_goals first|trivial|(subst hR;(exact qD (qO (by(have e:usT d=[]:=if_neg h);rw [e];rfl)) (qD (Fit.refl _) qB));done)|skip
theorem uqu (d:Dsp):ua0 Tryz.prog 45 [(.agg [.clo 86 [] [],.clo 87 [] []]),(ub5 d)] [] (fun r _=>r=(.tup [(iS ((usT d))),(iv fun _=>ual d)])):=by
 by_cases h:ual d=0
 ·exact unt d h
 ·exact unM d h
theorem upq (d:Dsp):ua0 Tryz.prog 18 [(ub5 d)] [] (fun r _=>r=(.tup [(iS ((usT d))),(iv fun _=>ual d)])):=by
 have cb:=uh9
 have c57:=uqu d
 refine ua0.is fun R hR=>qW (sc:=uAr) uaj mix Tryz.func18 rfl Tryz.call18 (by kernel_rfl) (by kernel_rfl) ?_
 generalize Tryz.prog=P at cb c57⊢
 cbv
 repeat' (first|(refine qP ?_ (cb) ?hfit;(case hfit=>((repeat' (first|exact qB|refine qD ?_ ?_|exact qE (by rfl)|exact qF (by rfl)|exact Fit.refl _|exact qA|refine qC ?_ rfl ?_));done));try cbv)|(refine qP ?_ (c57) ?hfit;(case hfit=>((repeat' (first|exact qB|refine qD ?_ ?_|exact qE (by rfl)|exact qF (by rfl)|exact Fit.refl _|exact qA|refine qC ?_ rfl ?_));done));try cbv)|fail)
 all_goals first|(subst hR;(repeat' (first|exact qA|exact qB|refine qC ?_ rfl ?_|refine qD ?_ ?_|exact qE (by rfl)|exact qF (by rfl)|exact Fit.refl _|exact qG _|(refine qE ?_;(try simp only [qV]at *);simp only [zQ,zA,zB,zC,zD,zE,zF,zG,zH,zI,zJ,zK,zL,zM,zN,zO,zP,zR,zS]at *;omega)));done)|skip
end Go.Proofs.YtkdggbfknlcdaaaGreat
namespace Go.Proofs.YtkdggbfknlcdaaaGreat
open Go.Eng.Dif Go.Eng.Few
theorem ulw {L:List (List Int)} {i:Nat}(h:i<L.length):L.getD i []∈L:=by
 rw [List.getD_eq_getElem?_getD,List.getElem?_eq_getElem h];exact List.getElem_mem h
theorem upx {L:List (List Int)} {x:List Int}(h:x∈L):∃i,i<L.length∧L.getD i []=x:=by
 obtain⟨i,h1,h2⟩:=List.getElem_of_mem h
 exact⟨i,h1,by rw [List.getD_eq_getElem?_getD,List.getElem?_eq_getElem h1];exact h2⟩
theorem usW (L:List (List Int))(p:Int):uhl (fun i=>inL (L.getD i []) p) L.length=L.all fun F=>F.contains p:=by
 apply Bool.eq_iff_iff.2
 rw [uag,List.all_eq_true]
 constructor
 ·intro h x hx
  obtain⟨i,h1,h2⟩:=upx hx
  rw [←h2,←uhz];exact h i h1
 ·intro h i hi
  rw [uhz];exact h _ (ulw hi)
theorem utn (L:List (List Int))(p:Int):decide (0≤ubK (fun i=> !(inL (L.getD i []) p)) L.length 0)=L.any fun F=>F.contains p:=by
 apply Bool.eq_iff_iff.2
 rw [decide_eq_true_eq,uiI,List.any_eq_true]
 constructor
 ·rintro⟨j,_,h2,h3⟩
  refine⟨L.getD j [],ulw (by omega),?_⟩
  rw [←uhz]
  simpa using h3
 ·rintro⟨x,hx,hp⟩
  obtain⟨i,h1,h2⟩:=upx hx
  refine⟨i,by omega,by omega,?_⟩
  rw [h2,uhz,hp];rfl
def uld (d:Dsp):Nat→Bool:=ulu d.pn.toNat (uc4 d)
def uqP (d:Dsp):Nat→Bool:=ulx d.pn.toNat (uc4 d)
def uhv (d:Dsp):List Int:=if ual d=0 then ubU (uld d) d.pn.toNat else []
def us9 (d:Dsp):List Int:=if ual d=0 then ubU (uqP d) d.pn.toNat else []
theorem uqA {f:Nat→Bool} {k:Nat}(h:f k=true):ubU f (k+1)=ubU f k++[(k:Int)]:=by simp only [ubU,h,if_true]
theorem uoG {f:Nat→Bool} {k:Nat}(h:f k=false):ubU f (k+1)=ubU f k:=by simp only [ubU,h,Bool.false_eq_true,if_false]
theorem ui4 (f:Nat→Bool):∀n,(ubU f n).length≤n:=by
 intro n
 induction n with
 |zero=>exact Nat.le_refl _
 | succ n ih=>
  cases h:f n with
  |true=>rw [uqA h,List.length_append];simp only [List.length_cons,List.length_nil];omega
  |false=>rw [uoG h];omega
theorem ujJ {n:Nat} {ok:List Int→Bool}(hn:n≤4)(h:ok (ub0 n)=true):(uaB n ok).length≤1000∧∀i,((uaB n ok).getD i []).length≤1000:=by
 have hl:∀F∈uaB n ok,F.length≤4:=fun F hF=>by
  have q:=(ufh h).1 hF
  have:=ule h
  omega
 constructor
 ·obtain⟨j,h1,h2,_,_⟩:=uiP h
  rw [h2]
  exact Nat.le_trans um9 (Nat.le_trans (Nat.pow_le_pow_left hn j) (Nat.le_trans (Nat.pow_le_pow_right (by omega) (show j≤4 by omega)) (by decide)))
 ·intro i
  rcases Nat.lt_or_ge i (uaB n ok).length with q|q
  ·have:=hl _ (ulw q);omega
  ·rw [List.getD_eq_getElem?_getD,List.getElem?_eq_none q];simp
end Go.Proofs.YtkdggbfknlcdaaaGreat
namespace Go.Proofs.YtkdggbfknlcdaaaGreat
open Go Go.Eng Go.Proofs Go.Eng.Dif Go.Eng.Few
set_option maxRecDepth 10000
theorem upR (x:List Int)(p:Int)(hx:x.length≤1000):ua0 Tryz.prog 52 [(iS x),.own 0 0] [.cells [(iv fun _=>p)] 3] (fun r bs=>r=(bv fun _=>inL x p)∧bs=[.cells [(iv fun _=>p)] 3]):=by
 have c63:=ufD x p hx
 refine ua0.isB rfl fun R B hR hB=>qW (sc:=uAe) uaj mix Tryz.func52 rfl Tryz.call52 (by kernel_rfl) (by kernel_rfl) ?_
 generalize Tryz.prog=P at c63⊢
 cbv
 repeat' (first|with_reducible refine And.intro ?_ ?_|(refine qP ?_ (c63) ?hfit;(case hfit=>((repeat' (first|exact qB|refine qD ?_ ?_|exact qE (by rfl)|exact qF (by rfl)|exact Fit.refl _|exact qA|refine qC ?_ rfl ?_));done));try cbv)|fail)
 all_goals first|(subst hR;(repeat' (first|exact qA|exact qB|refine qC ?_ rfl ?_|refine qD ?_ ?_|exact qE (by rfl)|exact qF (by rfl)|exact Fit.refl _|exact qG _|(refine qE ?_;(try simp only [qV]at *);simp only [zQ,zA,zB,zC,zD,zE,zF,zG,zH,zI,zJ,zK,zL,zM,zN,zO,zP,zR,zS]at *;omega)));done)|(subst hB;(repeat' (first|exact qH|refine qI ?_ ?_|exact qK _|refine qJ ?_|exact qA|exact qE (by rfl)|exact qF (by rfl)|exact Fit.refl _|exact qG _|refine qC ?_ rfl ?_));done)|skip
theorem una (L:List (List Int))(p:Int)(hL:∀i,(L.getD i []).length≤1000)(hfew:L.length≤1000)(i:Nat)(hi:i<L.length∧∀j,j<i→(inL (L.getD (j) []) p)=true):ua0 Tryz.prog 91 [(.sl 1 (.sym fun _=>zi ((L.getD (i) [])).length) (fun ix=>[(iv fun _=>((L.getD (i) [])).getD ix.den.toNat 0)])),.own 0 0] [.cells [.clo 52 [] [.own 1 0]] 117,.cells [(iv fun _=>p)] 3] (fun r bs=>r=(bv fun _=> !(inL (L.getD (i) []) p))∧bs=[.cells [.clo 52 [] [.own 1 0]] 117,.cells [(iv fun _=>p)] 3]):=by
 have cf:=upR (L.getD i []) p (hL i)
 refine ua0.isB rfl fun R B hR hB=>qW (sc:=uAD) uaj mix Tryz.func91 rfl Tryz.call91 (by kernel_rfl) (by kernel_rfl) ?_
 generalize Tryz.prog=P at cf⊢
 cbv
 repeat' (first
  |with_reducible refine And.intro ?_ ?_
  | (refine⟨some [1],?_⟩
     cbv
     refine qQ ?_ (cf) (by cbv;(repeat' (first|exact qB|refine qD ?_ ?_|exact qE (by rfl)|exact qF (by rfl)|exact Fit.refl _|exact qA|refine qC ?_ rfl ?_))) (by cbv;(repeat' (first|exact qH|refine qI ?_ ?_|exact qK _|refine qJ ?_|exact qA|exact qE (by rfl)|exact qF (by rfl)|exact Fit.refl _|exact qG _|refine qC ?_ rfl ?_)))
     try cbv)
  |fail)
 all_goals first|(subst hR;(repeat' (first|exact qA|exact qB|refine qC ?_ rfl ?_|refine qD ?_ ?_|exact qE (by rfl)|exact qF (by rfl)|exact Fit.refl _|exact qG _|(refine qE ?_;(try simp only [qV]at *);simp only [zQ,zA,zB,zC,zD,zE,zF,zG,zH,zI,zJ,zK,zL,zM,zN,zO,zP,zR,zS]at *;omega)));done)|(subst hB;(repeat' (first|exact qH|refine qI ?_ ?_|exact qK _|refine qJ ?_|exact qA|exact qE (by rfl)|exact qF (by rfl)|exact Fit.refl _|exact qG _|refine qC ?_ rfl ?_));done)|skip
theorem unF (L:List (List Int))(p:Int)(hL:∀i,(L.getD i []).length≤1000)(hfew:L.length≤1000):ua0 Tryz.prog 92 [(.sl 1 (.sym fun _=>zi (L).length) (fun ix=>[(.sl 1 (.sym fun _=>zi ((L).getD ix.den.toNat []).length) (fun jx=>[(iv fun _=>((L).getD ix.den.toNat []).getD jx.den.toNat 0)]))])),.clo 91 [] [.own 0 0]] [.cells [.clo 52 [] [.own 1 0]] 117,.cells [(iv fun _=>p)] 3] (fun r bs=>r=(iv fun _=>ubK (fun i=>inL (L.getD (i) []) p) (L.length) 0)∧bs=[.cells [.clo 52 [] [.own 1 0]] 117,.cells [(iv fun _=>p)] 3]):=by
 have cl:=una L p hL hfew
 refine ua0.isB rfl fun R B hR hB=>qW (sc:=uxQ) uaj mix Tryz.func92 rfl Tryz.call92 (by kernel_rfl) (by kernel_rfl) ?_
 generalize Tryz.prog=P at cl⊢
 cbv
 repeat' (first|fail)
 all_goals first|skip
 refine⟨none,[],{i:Nat // i≤L.length∧ubK (fun i=>inL (L.getD (i) []) p) (L.length) 0=ubK (fun i=>inL (L.getD (i) []) p) (L.length-i) i∧∀j,j<i→(inL (L.getD (j) []) p)=true},fun x=>⟨[(0,(.sl 1 (.sym fun _=>zi (L).length) (fun ix=>[(.sl 1 (.sym fun _=>zi ((L).getD ix.den.toNat []).length) (fun jx=>[(iv fun _=>((L).getD ix.den.toNat []).getD jx.den.toNat 0)]))]))),(1,.clo 91 [] [.own 0 0]),(7,(iv fun _=>zi (L.length))),(8,(iv fun _=>zi x.1))],[(0,.cells [.clo 52 [] [.own 1 0]] 117),(1,.cells [(iv fun _=>p)] 3)],20⟩,fun x=>L.length-x.1,?_,?_⟩
 ·refine⟨⟨0,by omega,rfl,fun j hj=>by omega⟩,?_⟩
  cbv
  repeat' (first|with_reducible refine ua4 ?_ ?_|with_reducible refine And.intro ?_ ?_)
  all_goals first|trivial|exact qM (qE (by rfl))|exact qM (Fit.refl _)|exact qL (qK _)|skip
 ·rintro ⟨i,hi,hr,hq⟩
  cbv
  repeat' (first
   |with_reducible refine ua4 ?_ ?_
   |with_reducible refine And.intro ?_ ?_
   |(with_reducible intro hcd;(try simp only [zA,zB,zC,zD,zE,zF,zG,zH,zI,zJ,zK,zL,zM,zN,zO,zP]at hcd);try cbv)
   | (refine⟨some [0,1],?_⟩
      cbv
      refine qQ ?_ (cl i ⟨by(try simp only [qV]at *);simp only [uah]at *;omega,hq⟩) (by cbv;(repeat' (first|exact qB|refine qD ?_ ?_|exact qE (by rfl)|exact qF (by rfl)|exact Fit.refl _|exact qA|refine qC ?_ rfl ?_))) (by cbv;(repeat' (first|exact qH|refine qI ?_ ?_|exact qK _|refine qJ ?_|exact qA|exact qE (by rfl)|exact qF (by rfl)|exact Fit.refl _|exact qG _|refine qC ?_ rfl ?_)))
      try cbv)
   |fail)
  all_goals first|((try simp only [qV]at *);(try simp only [zQ,zA,zB,zC,zD,zE,zF,zG,zH,zI,zJ,zK,zL,zM,zN,zO,zP,zR,zS]at *);first|(refine qN ?_;omega)|(simp only [uam];omega))|(subst hR;(refine qE ?_;simp only [zQ,zA,zB,zC,zD,zE,zF,zG,zH,zI,zJ,zK,zL,zM,zN,zO,zP,zR,zS]at *;rw [hr,ub9 (by omega) hcd]);done)|(subst hR;(refine qE ?_;simp only [zQ,zA,zB,zC,zD,zE,zF,zG,zH,zI,zJ,zK,zL,zM,zN,zO,zP,zR,zS]at *;rw [hr,show L.length-i=0 by omega];rfl);done)|(subst hB;(repeat' (first|exact qH|refine qI ?_ ?_|exact qK _|refine qJ ?_|exact qA|exact qE (by rfl)|exact qF (by rfl)|exact Fit.refl _|exact qG _|refine qC ?_ rfl ?_));done)|((try simp only [zQ,zA,zB,zC,zD,zE,zF,zG,zH,zI,zJ,zK,zL,zM,zN,zO,zP,zR,zS]at *);refine⟨⟨i+1,by omega,by rw [hr,ucn (by omega) hcd];(try congr 1)<;>omega,fun j hj=>(Nat.lt_or_ge j i).elim (hq j) (fun q=>by rw [show j=i by omega];exact hcd)⟩,by simp only [];omega,?_⟩;cbv;(repeat' (first|with_reducible refine ua4 ?_ ?_|with_reducible refine And.intro ?_ ?_));(all_goals first|trivial|exact qM (qE (by rfl))|exact qM (qF (by rfl))|exact qM (Fit.refl _)|exact qL (qK _)|(refine qM (qE ?_);(try simp only [qV]at *);simp only [zQ,zA,zB,zC,zD,zE,zF,zG,zH,zI,zJ,zK,zL,zM,zN,zO,zP,zR,zS]at *;omega)|(refine qL (qJ ?_);(repeat' (first|exact qA|exact qB|refine qC ?_ rfl ?_|refine qD ?_ ?_|exact qE (by rfl)|exact qF (by rfl)|exact Fit.refl _|exact qG _|(refine qE ?_;(try simp only [qV]at *);simp only [zQ,zA,zB,zC,zD,zE,zF,zG,zH,zI,zJ,zK,zL,zM,zN,zO,zP,zR,zS]at *;omega)));done)|skip))|skip
theorem ulJ (L:List (List Int))(p:Int)(hL:∀i,(L.getD i []).length≤1000)(hfew:L.length≤1000):ua0 Tryz.prog 55 [(.sl 1 (.sym fun _=>zi (L).length) (fun ix=>[(.sl 1 (.sym fun _=>zi ((L).getD ix.den.toNat []).length) (fun jx=>[(iv fun _=>((L).getD ix.den.toNat []).getD jx.den.toNat 0)]))])),.clo 91 [] [.own 0 0]] [.cells [.clo 52 [] [.own 1 0]] 117,.cells [(iv fun _=>p)] 3] (fun r bs=>r=(bv fun _=>decide (0≤ubK (fun i=>inL (L.getD (i) []) p) (L.length) 0))∧bs=[.cells [.clo 52 [] [.own 1 0]] 117,.cells [(iv fun _=>p)] 3]):=by
 have ci:=unF L p hL hfew
 refine ua0.isB rfl fun R B hR hB=>qW (sc:=uxE) uaj mix Tryz.func55 rfl Tryz.call55 (by kernel_rfl) (by kernel_rfl) ?_
 generalize Tryz.prog=P at ci⊢
 cbv
 repeat' (first
  |with_reducible refine And.intro ?_ ?_
  | (refine⟨some [0,1],?_⟩
     cbv
     refine qQ ?_ (ci) (by cbv;(repeat' (first|exact qB|refine qD ?_ ?_|exact qE (by rfl)|exact qF (by rfl)|exact Fit.refl _|exact qA|refine qC ?_ rfl ?_))) (by cbv;(repeat' (first|exact qH|refine qI ?_ ?_|exact qK _|refine qJ ?_|exact qA|exact qE (by rfl)|exact qF (by rfl)|exact Fit.refl _|exact qG _|refine qC ?_ rfl ?_)))
     try cbv)
  |fail)
 all_goals first|(subst hR;(repeat' (first|exact qA|exact qB|refine qC ?_ rfl ?_|refine qD ?_ ?_|exact qE (by rfl)|exact qF (by rfl)|exact Fit.refl _|exact qG _|(refine qE ?_;(try simp only [qV]at *);simp only [zQ,zA,zB,zC,zD,zE,zF,zG,zH,zI,zJ,zK,zL,zM,zN,zO,zP,zR,zS]at *;omega)));done)|(subst hB;(repeat' (first|exact qH|refine qI ?_ ?_|exact qK _|refine qJ ?_|exact qA|exact qE (by rfl)|exact qF (by rfl)|exact Fit.refl _|exact qG _|refine qC ?_ rfl ?_));done)|skip
theorem uhr (L:List (List Int))(p:Int)(hL:∀i,(L.getD i []).length≤1000)(hfew:L.length≤1000):ua0 Tryz.prog 54 [(.sl 1 (.sym fun _=>zi (L).length) (fun ix=>[(.sl 1 (.sym fun _=>zi ((L).getD ix.den.toNat []).length) (fun jx=>[(iv fun _=>((L).getD ix.den.toNat []).getD jx.den.toNat 0)]))])),.clo 52 [] [.own 0 0]] [.cells [(iv fun _=>p)] 3] (fun r bs=>r=(bv fun _=>uhl (fun i=>inL (L.getD (i) []) p) (L.length))∧bs=[.cells [(iv fun _=>p)] 3]):=by
 have cc:=ulJ L p hL hfew
 refine ua0.isB rfl fun R B hR hB=>qW (sc:=uAi) uaj mix Tryz.func54 rfl Tryz.call54 (by kernel_rfl) (by kernel_rfl) ?_
 generalize Tryz.prog=P at cc⊢
 cbv
 repeat' (first
  |with_reducible refine And.intro ?_ ?_
  | (refine⟨some [1,0],?_⟩
     cbv
     refine qQ ?_ (cc) (by cbv;(repeat' (first|exact qB|refine qD ?_ ?_|exact qE (by rfl)|exact qF (by rfl)|exact Fit.refl _|exact qA|refine qC ?_ rfl ?_))) (by cbv;(repeat' (first|exact qH|refine qI ?_ ?_|exact qK _|refine qJ ?_|exact qA|exact qE (by rfl)|exact qF (by rfl)|exact Fit.refl _|exact qG _|refine qC ?_ rfl ?_)))
     try cbv)
  |fail)
 all_goals first|(subst hR;(repeat' (first|exact qA|exact qB|refine qC ?_ rfl ?_|refine qD ?_ ?_|exact qE (by rfl)|exact qF (by rfl)|exact Fit.refl _|exact qG _|(refine qE ?_;(try simp only [qV]at *);simp only [zQ,zA,zB,zC,zD,zE,zF,zG,zH,zI,zJ,zK,zL,zM,zN,zO,zP,zR,zS]at *;omega)));done)|(subst hB;(repeat' (first|exact qH|refine qI ?_ ?_|exact qK _|refine qJ ?_|exact qA|exact qE (by rfl)|exact qF (by rfl)|exact Fit.refl _|exact qG _|refine qC ?_ rfl ?_));done)|skip
theorem uqo (L:List (List Int))(p:Int)(hL:∀i,(L.getD i []).length≤1000)(hfew:L.length≤1000):ua0 Tryz.prog 92 [(.sl 1 (.sym fun _=>zi (L).length) (fun ix=>[(.sl 1 (.sym fun _=>zi ((L).getD ix.den.toNat []).length) (fun jx=>[(iv fun _=>((L).getD ix.den.toNat []).getD jx.den.toNat 0)]))])),.clo 52 [] [.own 0 0]] [.cells [(iv fun _=>p)] 3] (fun r bs=>r=(iv fun _=>ubK (fun i=> !(inL (L.getD i []) p)) L.length 0)∧bs=[.cells [(iv fun _=>p)] 3]):=by
 have c62:=fun (i:Nat)=>upR (L.getD i []) p (hL i)
 refine ua0.isB rfl fun R B hR hB=>qW (sc:=uxQ) uaj mix Tryz.func92 rfl Tryz.call92 (by kernel_rfl) (by kernel_rfl) ?_
 generalize Tryz.prog=P at c62⊢
 cbv
 repeat' (first|fail)
 all_goals first|skip
 refine⟨none,[],{i:Nat // i≤L.length∧ubK (fun i=> !(inL (L.getD i []) p)) L.length 0=ubK (fun i=> !(inL (L.getD i []) p)) (L.length-i) i},fun x=>⟨[(0,(.sl 1 (.sym fun _=>zi (L).length) (fun ix=>[(.sl 1 (.sym fun _=>zi ((L).getD ix.den.toNat []).length) (fun jx=>[(iv fun _=>((L).getD ix.den.toNat []).getD jx.den.toNat 0)]))]))),(1,.clo 52 [] [.own 0 0]),(7,(iv fun _=>zi L.length)),(8,(iv fun _=>zi x.1))],[(0,.cells [(iv fun _=>p)] 3)],20⟩,fun x=>L.length-x.1,?_,?_⟩
 ·refine⟨⟨0,by omega,rfl⟩,?_⟩
  cbv
  repeat' (first|with_reducible refine ua4 ?_ ?_|with_reducible refine And.intro ?_ ?_)
  all_goals first|trivial|exact qM (qE (by rfl))|exact qM (Fit.refl _)|exact qL (qK _)|skip
 ·rintro ⟨i,hi,hr⟩
  cbv
  repeat' (first
   |with_reducible refine ua4 ?_ ?_
   |with_reducible refine And.intro ?_ ?_
   |(with_reducible intro hcd;(try simp only [zA,zB,zC,zD,zE,zF,zG,zH,zI,zJ,zK,zL,zM,zN,zO,zP]at hcd);try cbv)
   | (refine⟨some [0],?_⟩
      cbv
      refine qQ ?_ (c62 i) ?hfit ?hbo
      case hfit=>(cbv;(repeat' (first|exact qB|refine qD ?_ ?_|exact qE (by rfl)|exact qF (by rfl)|exact Fit.refl _|exact qA|refine qC ?_ rfl ?_));done)
      case hbo=>(cbv;(repeat' (first|exact qH|refine qI ?_ ?_|exact qK _|refine qJ ?_|exact qA|exact qE (by rfl)|exact qF (by rfl)|exact Fit.refl _|exact qG _|refine qC ?_ rfl ?_));done)
      try cbv)
   |fail)
  all_goals first|((try simp only [qV]at *);(try simp only [zQ,zA,zB,zC,zD,zE,zF,zG,zH,zI,zJ,zK,zL,zM,zN,zO,zP,zR,zS]at *);first|(refine qN ?_;omega)|(simp only [uam];omega))|(subst hR;(refine qE ?_;(try simp only [qV]at *);(try simp only [zQ,zA,zB,zC,zD,zE,zF,zG,zH,zI,zJ,zK,zL,zM,zN,zO,zP,zR,zS]at *);rw [hr,ub9 (by omega) (by rw [hcd];rfl)]);done)|(subst hR;(refine qE ?_;(try simp only [qV]at *);(try simp only [zQ,zA,zB,zC,zD,zE,zF,zG,zH,zI,zJ,zK,zL,zM,zN,zO,zP,zR,zS]at *);rw [hr,show L.length-i=0 by omega];rfl);done)|(subst hB;(repeat' (first|exact qH|refine qI ?_ ?_|exact qK _|refine qJ ?_|exact qA|exact qE (by rfl)|exact qF (by rfl)|exact Fit.refl _|exact qG _|refine qC ?_ rfl ?_));done)|((try simp only [zQ,zA,zB,zC,zD,zE,zF,zG,zH,zI,zJ,zK,zL,zM,zN,zO,zP,zR,zS]at *);refine⟨⟨i+1,by omega,by rw [hr,ucn (by omega) (by rw [hcd];rfl)];(try congr 1)<;>omega⟩,by simp only [];omega,?_⟩;cbv;(repeat' (first|with_reducible refine ua4 ?_ ?_|with_reducible refine And.intro ?_ ?_));(all_goals first|trivial|exact qM (qE (by rfl))|exact qM (qF (by rfl))|exact qM (Fit.refl _)|exact qL (qK _)|(refine qM (qE ?_);(try simp only [qV]at *);simp only [zQ,zA,zB,zC,zD,zE,zF,zG,zH,zI,zJ,zK,zL,zM,zN,zO,zP,zR,zS]at *;omega)|(refine qL (qJ ?_);(repeat' (first|exact qA|exact qB|refine qC ?_ rfl ?_|refine qD ?_ ?_|exact qE (by rfl)|exact qF (by rfl)|exact Fit.refl _|exact qG _|(refine qE ?_;(try simp only [qV]at *);simp only [zQ,zA,zB,zC,zD,zE,zF,zG,zH,zI,zJ,zK,zL,zM,zN,zO,zP,zR,zS]at *;omega)));done)|skip))|skip
theorem uht (L:List (List Int))(p:Int)(hL:∀i,(L.getD i []).length≤1000)(hfew:L.length≤1000):ua0 Tryz.prog 55 [(.sl 1 (.sym fun _=>zi (L).length) (fun ix=>[(.sl 1 (.sym fun _=>zi ((L).getD ix.den.toNat []).length) (fun jx=>[(iv fun _=>((L).getD ix.den.toNat []).getD jx.den.toNat 0)]))])),.clo 52 [] [.own 0 0]] [.cells [(iv fun _=>p)] 3] (fun r bs=>r=(bv fun _=>decide (0≤ubK (fun i=> !(inL (L.getD i []) p)) L.length 0))∧bs=[.cells [(iv fun _=>p)] 3]):=by
 have c97:=uqo L p hL hfew
 refine ua0.isB rfl fun R B hR hB=>qW (sc:=uxE) uaj mix Tryz.func55 rfl Tryz.call55 (by kernel_rfl) (by kernel_rfl) ?_
 generalize Tryz.prog=P at c97⊢
 cbv
 repeat' (first
  |with_reducible refine And.intro ?_ ?_
  | (refine⟨some [0],?_⟩
     cbv
     refine qQ ?_ (c97) ?hfit ?hbo
     case hfit=>(cbv;(repeat' (first|exact qB|refine qD ?_ ?_|exact qE (by rfl)|exact qF (by rfl)|exact Fit.refl _|exact qA|refine qC ?_ rfl ?_));done)
     case hbo=>(cbv;(repeat' (first|exact qH|refine qI ?_ ?_|exact qK _|refine qJ ?_|exact qA|exact qE (by rfl)|exact qF (by rfl)|exact Fit.refl _|exact qG _|refine qC ?_ rfl ?_));done)
     try cbv)
  |fail)
 all_goals first|(subst hR;(repeat' (first|exact qA|exact qB|refine qC ?_ rfl ?_|refine qD ?_ ?_|exact qE (by rfl)|exact qF (by rfl)|exact Fit.refl _|exact qG _|(refine qE ?_;(try simp only [qV]at *);simp only [zQ,zA,zB,zC,zD,zE,zF,zG,zH,zI,zJ,zK,zL,zM,zN,zO,zP,zR,zS]at *;omega)));done)|(subst hB;(repeat' (first|exact qH|refine qI ?_ ?_|exact qK _|refine qJ ?_|exact qA|exact qE (by rfl)|exact qF (by rfl)|exact Fit.refl _|exact qG _|refine qC ?_ rfl ?_));done)|skip
set_option maxHeartbeats 2000000 in
theorem usb (d:Dsp)(h:ual d=0):ua0 Tryz.prog 19 [(ub5 d)] [] (fun r _=>r=(.tup [(iS ((uhv d))),(iS ((us9 d))),(iv fun _=>ual d)])):=by
 have c59:=umg d h
 have c58:=uh9
 have hF:=(uaF h).1
 have hd:=ua2.1 hF
 have p1:=hd.p1
 have p4:=hd.p4
 have c61:=ugE d hd
 have hsf:=ujJ (n:=d.pn.toNat) (ok:=uc4 d) (by omega) (ufL h)
 rw [show uhv d=ubU (uld d) d.pn.toNat from if_pos h,show us9 d=ubU (uqP d) d.pn.toNat from if_pos h,h]
 have hA:∀k:Nat,uhl (fun i=>inL ((uaB d.pn.toNat (uc4 d)).getD i []) (zi k)) (uaB d.pn.toNat (uc4 d)).length=uld d k:=fun k=>usW _ _
 have hB:∀k:Nat,decide (0≤ubK (fun i=> !(inL ((uaB d.pn.toNat (uc4 d)).getD i []) (zi k))) (uaB d.pn.toNat (uc4 d)).length 0)=uqP d k:=fun k=>utn _ _
 obtain⟨L,hL⟩:∃L,L=uaB d.pn.toNat (uc4 d):=⟨_,rfl⟩
 rw [←hL]at c61 hsf
 simp only [←hL]at hA hB
 have c64:=fun k:Nat=>(show ua0 Tryz.prog 54 [(.sl 1 (.sym fun _=>zi (L).length) (fun ix=>[(.sl 1 (.sym fun _=>zi ((L).getD ix.den.toNat []).length) (fun jx=>[(iv fun _=>((L).getD ix.den.toNat []).getD jx.den.toNat 0)]))])),.clo 52 [] [.own 0 0]] [.cells [(iv fun _=>zi k)] 3] (fun r bs=>r=(bv fun _=>uld d k)∧bs=[.cells [(iv fun _=>zi k)] 3])from hA k▸uhr L (zi k) hsf.2 hsf.1)
 have c65:=fun k:Nat=>(show ua0 Tryz.prog 55 [(.sl 1 (.sym fun _=>zi (L).length) (fun ix=>[(.sl 1 (.sym fun _=>zi ((L).getD ix.den.toNat []).length) (fun jx=>[(iv fun _=>((L).getD ix.den.toNat []).getD jx.den.toNat 0)]))])),.clo 52 [] [.own 0 0]] [.cells [(iv fun _=>zi k)] 3] (fun r bs=>r=(bv fun _=>uqP d k)∧bs=[.cells [(iv fun _=>zi k)] 3])from hB k▸uht L (zi k) hsf.2 hsf.1)
 obtain⟨fA,hfA⟩:∃f,f=uld d:=⟨_,rfl⟩
 obtain⟨fB,hfB⟩:∃f,f=uqP d:=⟨_,rfl⟩
 rw [←hfA]at c64⊢
 rw [←hfB]at c65⊢
 clear hA hB hL hfA hfB
 refine ua0.is fun R hR=>qW (sc:=uxM) uaj mix Tryz.func19 rfl Tryz.call19 (by kernel_rfl) (by kernel_rfl) ?_
 generalize Tryz.prog=P at c59 c58 c61 c64 c65⊢
 cbv
 repeat' (first|with_reducible refine And.intro ?_ ?_|(with_reducible intro hcd;(try simp only [zA,zB,zC,zD,zE,zF,zG,zH,zI,zJ,zK,zL,zM,zN,zO,zP]at hcd);try cbv)|(refine qP ?_ (c59) ?hfit;(case hfit=>((repeat' (first|exact qB|refine qD ?_ ?_|exact qE (by rfl)|exact qF (by rfl)|exact Fit.refl _|exact qA|refine qC ?_ rfl ?_));done));try cbv)|(refine qP ?_ (c58) ?hfit;(case hfit=>((repeat' (first|exact qB|refine qD ?_ ?_|exact qE (by rfl)|exact qF (by rfl)|exact Fit.refl _|exact qA|refine qC ?_ rfl ?_));done));try cbv)|(refine qP ?_ (c61) ?hfit;(case hfit=>((repeat' (first|exact qB|refine qD ?_ ?_|exact qE (by rfl)|exact qF (by rfl)|exact Fit.refl _|exact qA|refine qC ?_ rfl ?_));done));try cbv)|fail)
 all_goals first|trivial|skip
 refine⟨none,[⟨.tmp 2,3,1⟩,⟨.tmp 3,3,1⟩],{k:Nat // k≤d.pn.toNat},fun x=>⟨[(1,.own 0 0),(6,(.sl 1 (.sym fun _=>zi (L).length) (fun ix=>[(.sl 1 (.sym fun _=>zi ((L).getD ix.den.toNat []).length) (fun jx=>[(iv fun _=>((L).getD ix.den.toNat []).getD jx.den.toNat 0)]))]))),(2,.row 20),(3,.row 21),(21,(iv fun _=>d.pn)),(22,(iv fun _=>zi x.1))],[(0,.cells [(iS d.tw),(iS d.tm),(.sl 1 (.sym fun _=>zi (d.tv).length) (fun ix=>[(.sl 1 (.sym fun _=>zi ((d.tv).getD ix.den.toNat []).length) (fun jx=>[(iv fun _=>((d.tv).getD ix.den.toNat []).getD jx.den.toNat 0)]))])),(iv fun _=>d.sn),(iv fun _=>d.pn),(.sl 4 (.sym fun _=>zi (d.ls).length) (fun ix=>[(iv fun _=>((d.ls).getD ix.den.toNat l0T).a),(iv fun _=>((d.ls).getD ix.den.toNat l0T).b),(iv fun _=>((d.ls).getD ix.den.toNat l0T).lo),(iv fun _=>((d.ls).getD ix.den.toNat l0T).hi)])),(.sl 6 (.sym fun _=>zi (d.fs).length) (fun ix=>[(iv fun _=>((d.fs).getD ix.den.toNat f0T).p),(iv fun _=>((d.fs).getD ix.den.toNat f0T).s),(iv fun _=>((d.fs).getD ix.den.toNat f0T).wl),(iv fun _=>((d.fs).getD ix.den.toNat f0T).wh),(iv fun _=>((d.fs).getD ix.den.toNat f0T).ml),(iv fun _=>((d.fs).getD ix.den.toNat f0T).mh)]))] 39),(20,.row 3 1 (.sym fun _=>zi ((ubU fA x.1)).length) (fun ix=>[(iv fun _=>((ubU fA x.1)).getD ix.den.toNat 0)])),(21,.row 3 1 (.sym fun _=>zi ((ubU fB x.1)).length) (fun ix=>[(iv fun _=>((ubU fB x.1)).getD ix.den.toNat 0)]))],100⟩,fun x=>d.pn.toNat-x.1,?_,?_⟩
 ·refine⟨⟨0,by omega⟩,?_⟩
  cbv
  repeat' (first|with_reducible refine ua4 ?_ ?_|with_reducible refine And.intro ?_ ?_)
  all_goals first|trivial|exact qM (qE (by rfl))|exact qM (Fit.refl _)|exact qL (qK _)|(refine qL (uae ?_ ?_);(first|rfl|((try simp only [qV]at *);(try simp only [zQ,zA,zB,zC,zD,zE,zF,zG,zH,zI,zJ,zK,zL,zM,zN,zO,zP,zR,zS]at *);omega));intro ix h0 h1;exfalso;(try simp only [qV]at *);(try simp only [zQ,zA,zB,zC,zD,zE,zF,zG,zH,zI,zJ,zK,zL,zM,zN,zO,zP,zR,zS]at *);omega)|skip
 ·rintro ⟨k,hk⟩
  cbv
  have hl1:=ui4 fA k
  have hl2:=ui4 fB k
  have hyA:=uqA (f:=fA) (k:=k)
  have hnA:=uoG (f:=fA) (k:=k)
  have hyB:=uqA (f:=fB) (k:=k)
  have hnB:=uoG (f:=fB) (k:=k)
  obtain⟨M1,hM1⟩:∃M,M=ubU fA k:=⟨_,rfl⟩
  obtain⟨M2,hM2⟩:∃M,M=ubU fB k:=⟨_,rfl⟩
  rw [←hM1]at hl1 hyA hnA⊢
  rw [←hM2]at hl2 hyB hnB⊢
  have c64k:=c64 k
  have c65k:=c65 k
  rcases hfa:fA k with _|_<;>rcases hfb:fB k with _|_
  ·rw [hfa]at c64k
   rw [hfb]at c65k
   cbv
   repeat' (first
    |with_reducible refine ua4 ?_ ?_
    |with_reducible refine And.intro ?_ ?_
    |(with_reducible intro hcd;(try simp only [zA,zB,zC,zD,zE,zF,zG,zH,zI,zJ,zK,zL,zM,zN,zO,zP]at hcd);try cbv)
    | (refine⟨some [102],?_⟩
       cbv
       refine qQ ?_ (c64k) ?hfit ?hbo
       case hfit=>(cbv;(repeat' (first|exact qB|refine qD ?_ ?_|exact qE (by rfl)|exact qF (by rfl)|exact Fit.refl _|exact qA|refine qC ?_ rfl ?_));done)
       case hbo=>(cbv;(repeat' (first|exact qH|refine qI ?_ ?_|exact qK _|refine qJ ?_|exact qA|exact qE (by rfl)|exact qF (by rfl)|exact Fit.refl _|exact qG _|refine qC ?_ rfl ?_));done)
       try cbv)
    | (refine⟨some [102],?_⟩
       cbv
       refine qQ ?_ (c65k) ?hfit ?hbo
       case hfit=>(cbv;(repeat' (first|exact qB|refine qD ?_ ?_|exact qE (by rfl)|exact qF (by rfl)|exact Fit.refl _|exact qA|refine qC ?_ rfl ?_));done)
       case hbo=>(cbv;(repeat' (first|exact qH|refine qI ?_ ?_|exact qK _|refine qJ ?_|exact qA|exact qE (by rfl)|exact qF (by rfl)|exact Fit.refl _|exact qG _|refine qC ?_ rfl ?_));done)
       try cbv)
    | (obtain⟨L3,eL3⟩:∃y:List Int,y=M1++[zi k]:=⟨_,rfl⟩
       refine⟨uev L3,?_⟩
       cbv
       refine ua4 (uaq (L:=M1) eL3 (by(first|rfl|((try simp only [qV]at *);(try simp only [zQ,zA,zB,zC,zD,zE,zF,zG,zH,zI,zJ,zK,zL,zM,zN,zO,zP,zR,zS]at *);done)|((try simp only [qV]at *);(try simp only [zQ,zA,zB,zC,zD,zE,zF,zG,zH,zI,zJ,zK,zL,zM,zN,zO,zP,zR,zS]at *);omega))) (by rfl) (fun ix=>Fit.refl _) (fun ix h=>qC (qE (by rfl)) rfl qA) (by(try simp only [qV]at *);(try simp only [zQ,zA,zB,zC,zD,zE,zF,zG,zH,zI,zJ,zK,zL,zM,zN,zO,zP,zR,zS]at *);omega)) (Or.inl ?_)
       try cbv)
    | (obtain⟨L4,eL4⟩:∃y:List Int,y=M2++[zi k]:=⟨_,rfl⟩
       refine⟨uev L4,?_⟩
       cbv
       refine ua4 (uaq (L:=M2) eL4 (by(first|rfl|((try simp only [qV]at *);(try simp only [zQ,zA,zB,zC,zD,zE,zF,zG,zH,zI,zJ,zK,zL,zM,zN,zO,zP,zR,zS]at *);done)|((try simp only [qV]at *);(try simp only [zQ,zA,zB,zC,zD,zE,zF,zG,zH,zI,zJ,zK,zL,zM,zN,zO,zP,zR,zS]at *);omega))) (by rfl) (fun ix=>Fit.refl _) (fun ix h=>qC (qE (by rfl)) rfl qA) (by(try simp only [qV]at *);(try simp only [zQ,zA,zB,zC,zD,zE,zF,zG,zH,zI,zJ,zK,zL,zM,zN,zO,zP,zR,zS]at *);omega)) (Or.inl ?_)
       try cbv)
    |fail)
   all_goals first|trivial|((try simp only [qV]at *);(try simp only [zQ,zA,zB,zC,zD,zE,zF,zG,zH,zI,zJ,zK,zL,zM,zN,zO,zP,zR,zS]at *);first|(refine qN ?_;omega)|(simp only [uam];omega))|((have hke:k=d.pn.toNat:=(by((try simp only [qV]at *);(try simp only [zQ,zA,zB,zC,zD,zE,zF,zG,zH,zI,zJ,zK,zL,zM,zN,zO,zP,zR,zS]at *);omega)));subst hR;rw [←hke,←hM1,←hM2];exact qD (Fit.refl _) (qD (Fit.refl _) (qD (qE rfl) qB)))|((try simp only [zQ,zA,zB,zC,zD,zE,zF,zG,zH,zI,zJ,zK,zL,zM,zN,zO,zP,zR,zS]at *);(have hx1:ubU fA (k+1)=M1:=hnA hfa);(have hx2:ubU fB (k+1)=M2:=hnB hfb);refine⟨⟨k+1,by((try simp only [qV]at *);(try simp only [zQ,zA,zB,zC,zD,zE,zF,zG,zH,zI,zJ,zK,zL,zM,zN,zO,zP,zR,zS]at *);omega)⟩,by simp only [];omega,?_⟩;cbv;(repeat' (first|with_reducible refine ua4 ?_ ?_|with_reducible refine And.intro ?_ ?_));(all_goals first|trivial|exact qM (qE (by rfl))|exact qM (qF (by rfl))|exact qM (Fit.refl _)|exact qL (qK _)|(refine qM (qE ?_);(try simp only [qV]at *);simp only [zQ,zA,zB,zC,zD,zE,zF,zG,zH,zI,zJ,zK,zL,zM,zN,zO,zP,zR,zS]at *;omega)|(refine qL (qJ ?_);(repeat' (first|exact qA|exact qB|refine qC ?_ rfl ?_|refine qD ?_ ?_|exact qE (by rfl)|exact qF (by rfl)|exact Fit.refl _|exact qG _|(refine qE ?_;(try simp only [qV]at *);simp only [zQ,zA,zB,zC,zD,zE,zF,zG,zH,zI,zJ,zK,zL,zM,zN,zO,zP,zR,zS]at *;omega)));done)|(simp only [hx1];first|exact qL (qK _)|(refine qL (uae ?_ ?_)<;>first|rfl|(rw [hM1,List.length_append];rfl)|((try simp only [qV]at *);(try simp only [zQ,zA,zB,zC,zD,zE,zF,zG,zH,zI,zJ,zK,zL,zM,zN,zO,zP,zR,zS]at *);(try simp only [hM1,List.length_append,List.length_cons,List.length_nil]at *);omega)|(intro ix h0 h1;exact Fit.refl _)))|(simp only [hx2];first|exact qL (qK _)|(refine qL (uae ?_ ?_)<;>first|rfl|(rw [hM2,List.length_append];rfl)|((try simp only [qV]at *);(try simp only [zQ,zA,zB,zC,zD,zE,zF,zG,zH,zI,zJ,zK,zL,zM,zN,zO,zP,zR,zS]at *);(try simp only [hM2,List.length_append,List.length_cons,List.length_nil]at *);omega)|(intro ix h0 h1;exact Fit.refl _)))|skip))|skip
  ·rw [hfa]at c64k
   rw [hfb]at c65k
   cbv
   repeat' (first
    |with_reducible refine ua4 ?_ ?_
    |with_reducible refine And.intro ?_ ?_
    |(with_reducible intro hcd;(try simp only [zA,zB,zC,zD,zE,zF,zG,zH,zI,zJ,zK,zL,zM,zN,zO,zP]at hcd);try cbv)
    | (refine⟨some [102],?_⟩
       cbv
       refine qQ ?_ (c64k) ?hfit ?hbo
       case hfit=>(cbv;(repeat' (first|exact qB|refine qD ?_ ?_|exact qE (by rfl)|exact qF (by rfl)|exact Fit.refl _|exact qA|refine qC ?_ rfl ?_));done)
       case hbo=>(cbv;(repeat' (first|exact qH|refine qI ?_ ?_|exact qK _|refine qJ ?_|exact qA|exact qE (by rfl)|exact qF (by rfl)|exact Fit.refl _|exact qG _|refine qC ?_ rfl ?_));done)
       try cbv)
    | (refine⟨some [102],?_⟩
       cbv
       refine qQ ?_ (c65k) ?hfit ?hbo
       case hfit=>(cbv;(repeat' (first|exact qB|refine qD ?_ ?_|exact qE (by rfl)|exact qF (by rfl)|exact Fit.refl _|exact qA|refine qC ?_ rfl ?_));done)
       case hbo=>(cbv;(repeat' (first|exact qH|refine qI ?_ ?_|exact qK _|refine qJ ?_|exact qA|exact qE (by rfl)|exact qF (by rfl)|exact Fit.refl _|exact qG _|refine qC ?_ rfl ?_));done)
       try cbv)
    | (obtain⟨L3,eL3⟩:∃y:List Int,y=M1++[zi k]:=⟨_,rfl⟩
       refine⟨uev L3,?_⟩
       cbv
       refine ua4 (uaq (L:=M1) eL3 (by(first|rfl|((try simp only [qV]at *);(try simp only [zQ,zA,zB,zC,zD,zE,zF,zG,zH,zI,zJ,zK,zL,zM,zN,zO,zP,zR,zS]at *);done)|((try simp only [qV]at *);(try simp only [zQ,zA,zB,zC,zD,zE,zF,zG,zH,zI,zJ,zK,zL,zM,zN,zO,zP,zR,zS]at *);omega))) (by rfl) (fun ix=>Fit.refl _) (fun ix h=>qC (qE (by rfl)) rfl qA) (by(try simp only [qV]at *);(try simp only [zQ,zA,zB,zC,zD,zE,zF,zG,zH,zI,zJ,zK,zL,zM,zN,zO,zP,zR,zS]at *);omega)) (Or.inl ?_)
       try cbv)
    | (obtain⟨L4,eL4⟩:∃y:List Int,y=M2++[zi k]:=⟨_,rfl⟩
       refine⟨uev L4,?_⟩
       cbv
       refine ua4 (uaq (L:=M2) eL4 (by(first|rfl|((try simp only [qV]at *);(try simp only [zQ,zA,zB,zC,zD,zE,zF,zG,zH,zI,zJ,zK,zL,zM,zN,zO,zP,zR,zS]at *);done)|((try simp only [qV]at *);(try simp only [zQ,zA,zB,zC,zD,zE,zF,zG,zH,zI,zJ,zK,zL,zM,zN,zO,zP,zR,zS]at *);omega))) (by rfl) (fun ix=>Fit.refl _) (fun ix h=>qC (qE (by rfl)) rfl qA) (by(try simp only [qV]at *);(try simp only [zQ,zA,zB,zC,zD,zE,zF,zG,zH,zI,zJ,zK,zL,zM,zN,zO,zP,zR,zS]at *);omega)) (Or.inl ?_)
       try cbv)
    |fail)
   all_goals first|trivial|((try simp only [qV]at *);(try simp only [zQ,zA,zB,zC,zD,zE,zF,zG,zH,zI,zJ,zK,zL,zM,zN,zO,zP,zR,zS]at *);first|(refine qN ?_;omega)|(simp only [uam];omega))|((have hke:k=d.pn.toNat:=(by((try simp only [qV]at *);(try simp only [zQ,zA,zB,zC,zD,zE,zF,zG,zH,zI,zJ,zK,zL,zM,zN,zO,zP,zR,zS]at *);omega)));subst hR;rw [←hke,←hM1,←hM2];exact qD (Fit.refl _) (qD (Fit.refl _) (qD (qE rfl) qB)))|((try simp only [zQ,zA,zB,zC,zD,zE,zF,zG,zH,zI,zJ,zK,zL,zM,zN,zO,zP,zR,zS]at *);(have hx1:ubU fA (k+1)=M1:=hnA hfa);(have hx2:ubU fB (k+1)=L4:=(hyB hfb).trans eL4.symm);refine⟨⟨k+1,by((try simp only [qV]at *);(try simp only [zQ,zA,zB,zC,zD,zE,zF,zG,zH,zI,zJ,zK,zL,zM,zN,zO,zP,zR,zS]at *);omega)⟩,by simp only [];omega,?_⟩;cbv;(repeat' (first|with_reducible refine ua4 ?_ ?_|with_reducible refine And.intro ?_ ?_));(all_goals first|trivial|exact qM (qE (by rfl))|exact qM (qF (by rfl))|exact qM (Fit.refl _)|exact qL (qK _)|(refine qM (qE ?_);(try simp only [qV]at *);simp only [zQ,zA,zB,zC,zD,zE,zF,zG,zH,zI,zJ,zK,zL,zM,zN,zO,zP,zR,zS]at *;omega)|(refine qL (qJ ?_);(repeat' (first|exact qA|exact qB|refine qC ?_ rfl ?_|refine qD ?_ ?_|exact qE (by rfl)|exact qF (by rfl)|exact Fit.refl _|exact qG _|(refine qE ?_;(try simp only [qV]at *);simp only [zQ,zA,zB,zC,zD,zE,zF,zG,zH,zI,zJ,zK,zL,zM,zN,zO,zP,zR,zS]at *;omega)));done)|(simp only [hx1];first|exact qL (qK _)|(refine qL (uae ?_ ?_)<;>first|rfl|(rw [hM1,List.length_append];rfl)|((try simp only [qV]at *);(try simp only [zQ,zA,zB,zC,zD,zE,zF,zG,zH,zI,zJ,zK,zL,zM,zN,zO,zP,zR,zS]at *);(try simp only [hM1,List.length_append,List.length_cons,List.length_nil]at *);omega)|(intro ix h0 h1;exact Fit.refl _)))|(simp only [hx2];first|exact qL (qK _)|(refine qL (uae ?_ ?_)<;>first|rfl|(rw [eL4,List.length_append];rfl)|((try simp only [qV]at *);(try simp only [zQ,zA,zB,zC,zD,zE,zF,zG,zH,zI,zJ,zK,zL,zM,zN,zO,zP,zR,zS]at *);(try simp only [eL4,List.length_append,List.length_cons,List.length_nil]at *);omega)|(intro ix h0 h1;exact Fit.refl _)))|skip))|skip
  ·rw [hfa]at c64k
   rw [hfb]at c65k
   cbv
   repeat' (first
    |with_reducible refine ua4 ?_ ?_
    |with_reducible refine And.intro ?_ ?_
    |(with_reducible intro hcd;(try simp only [zA,zB,zC,zD,zE,zF,zG,zH,zI,zJ,zK,zL,zM,zN,zO,zP]at hcd);try cbv)
    | (refine⟨some [102],?_⟩
       cbv
       refine qQ ?_ (c64k) ?hfit ?hbo
       case hfit=>(cbv;(repeat' (first|exact qB|refine qD ?_ ?_|exact qE (by rfl)|exact qF (by rfl)|exact Fit.refl _|exact qA|refine qC ?_ rfl ?_));done)
       case hbo=>(cbv;(repeat' (first|exact qH|refine qI ?_ ?_|exact qK _|refine qJ ?_|exact qA|exact qE (by rfl)|exact qF (by rfl)|exact Fit.refl _|exact qG _|refine qC ?_ rfl ?_));done)
       try cbv)
    | (refine⟨some [102],?_⟩
       cbv
       refine qQ ?_ (c65k) ?hfit ?hbo
       case hfit=>(cbv;(repeat' (first|exact qB|refine qD ?_ ?_|exact qE (by rfl)|exact qF (by rfl)|exact Fit.refl _|exact qA|refine qC ?_ rfl ?_));done)
       case hbo=>(cbv;(repeat' (first|exact qH|refine qI ?_ ?_|exact qK _|refine qJ ?_|exact qA|exact qE (by rfl)|exact qF (by rfl)|exact Fit.refl _|exact qG _|refine qC ?_ rfl ?_));done)
       try cbv)
    | (obtain⟨L3,eL3⟩:∃y:List Int,y=M1++[zi k]:=⟨_,rfl⟩
       refine⟨uev L3,?_⟩
       cbv
       refine ua4 (uaq (L:=M1) eL3 (by(first|rfl|((try simp only [qV]at *);(try simp only [zQ,zA,zB,zC,zD,zE,zF,zG,zH,zI,zJ,zK,zL,zM,zN,zO,zP,zR,zS]at *);done)|((try simp only [qV]at *);(try simp only [zQ,zA,zB,zC,zD,zE,zF,zG,zH,zI,zJ,zK,zL,zM,zN,zO,zP,zR,zS]at *);omega))) (by rfl) (fun ix=>Fit.refl _) (fun ix h=>qC (qE (by rfl)) rfl qA) (by(try simp only [qV]at *);(try simp only [zQ,zA,zB,zC,zD,zE,zF,zG,zH,zI,zJ,zK,zL,zM,zN,zO,zP,zR,zS]at *);omega)) (Or.inl ?_)
       try cbv)
    | (obtain⟨L4,eL4⟩:∃y:List Int,y=M2++[zi k]:=⟨_,rfl⟩
       refine⟨uev L4,?_⟩
       cbv
       refine ua4 (uaq (L:=M2) eL4 (by(first|rfl|((try simp only [qV]at *);(try simp only [zQ,zA,zB,zC,zD,zE,zF,zG,zH,zI,zJ,zK,zL,zM,zN,zO,zP,zR,zS]at *);done)|((try simp only [qV]at *);(try simp only [zQ,zA,zB,zC,zD,zE,zF,zG,zH,zI,zJ,zK,zL,zM,zN,zO,zP,zR,zS]at *);omega))) (by rfl) (fun ix=>Fit.refl _) (fun ix h=>qC (qE (by rfl)) rfl qA) (by(try simp only [qV]at *);(try simp only [zQ,zA,zB,zC,zD,zE,zF,zG,zH,zI,zJ,zK,zL,zM,zN,zO,zP,zR,zS]at *);omega)) (Or.inl ?_)
       try cbv)
    |fail)
   all_goals first|trivial|((try simp only [qV]at *);(try simp only [zQ,zA,zB,zC,zD,zE,zF,zG,zH,zI,zJ,zK,zL,zM,zN,zO,zP,zR,zS]at *);first|(refine qN ?_;omega)|(simp only [uam];omega))|((have hke:k=d.pn.toNat:=(by((try simp only [qV]at *);(try simp only [zQ,zA,zB,zC,zD,zE,zF,zG,zH,zI,zJ,zK,zL,zM,zN,zO,zP,zR,zS]at *);omega)));subst hR;rw [←hke,←hM1,←hM2];exact qD (Fit.refl _) (qD (Fit.refl _) (qD (qE rfl) qB)))|((try simp only [zQ,zA,zB,zC,zD,zE,zF,zG,zH,zI,zJ,zK,zL,zM,zN,zO,zP,zR,zS]at *);(have hx1:ubU fA (k+1)=L3:=(hyA hfa).trans eL3.symm);(have hx2:ubU fB (k+1)=M2:=hnB hfb);refine⟨⟨k+1,by((try simp only [qV]at *);(try simp only [zQ,zA,zB,zC,zD,zE,zF,zG,zH,zI,zJ,zK,zL,zM,zN,zO,zP,zR,zS]at *);omega)⟩,by simp only [];omega,?_⟩;cbv;(repeat' (first|with_reducible refine ua4 ?_ ?_|with_reducible refine And.intro ?_ ?_));(all_goals first|trivial|exact qM (qE (by rfl))|exact qM (qF (by rfl))|exact qM (Fit.refl _)|exact qL (qK _)|(refine qM (qE ?_);(try simp only [qV]at *);simp only [zQ,zA,zB,zC,zD,zE,zF,zG,zH,zI,zJ,zK,zL,zM,zN,zO,zP,zR,zS]at *;omega)|(refine qL (qJ ?_);(repeat' (first|exact qA|exact qB|refine qC ?_ rfl ?_|refine qD ?_ ?_|exact qE (by rfl)|exact qF (by rfl)|exact Fit.refl _|exact qG _|(refine qE ?_;(try simp only [qV]at *);simp only [zQ,zA,zB,zC,zD,zE,zF,zG,zH,zI,zJ,zK,zL,zM,zN,zO,zP,zR,zS]at *;omega)));done)|(simp only [hx1];first|exact qL (qK _)|(refine qL (uae ?_ ?_)<;>first|rfl|(rw [eL3,List.length_append];rfl)|((try simp only [qV]at *);(try simp only [zQ,zA,zB,zC,zD,zE,zF,zG,zH,zI,zJ,zK,zL,zM,zN,zO,zP,zR,zS]at *);(try simp only [eL3,List.length_append,List.length_cons,List.length_nil]at *);omega)|(intro ix h0 h1;exact Fit.refl _)))|(simp only [hx2];first|exact qL (qK _)|(refine qL (uae ?_ ?_)<;>first|rfl|(rw [hM2,List.length_append];rfl)|((try simp only [qV]at *);(try simp only [zQ,zA,zB,zC,zD,zE,zF,zG,zH,zI,zJ,zK,zL,zM,zN,zO,zP,zR,zS]at *);(try simp only [hM2,List.length_append,List.length_cons,List.length_nil]at *);omega)|(intro ix h0 h1;exact Fit.refl _)))|skip))|skip
  ·rw [hfa]at c64k
   rw [hfb]at c65k
   cbv
   repeat' (first
    |with_reducible refine ua4 ?_ ?_
    |with_reducible refine And.intro ?_ ?_
    |(with_reducible intro hcd;(try simp only [zA,zB,zC,zD,zE,zF,zG,zH,zI,zJ,zK,zL,zM,zN,zO,zP]at hcd);try cbv)
    | (refine⟨some [102],?_⟩
       cbv
       refine qQ ?_ (c64k) ?hfit ?hbo
       case hfit=>(cbv;(repeat' (first|exact qB|refine qD ?_ ?_|exact qE (by rfl)|exact qF (by rfl)|exact Fit.refl _|exact qA|refine qC ?_ rfl ?_));done)
       case hbo=>(cbv;(repeat' (first|exact qH|refine qI ?_ ?_|exact qK _|refine qJ ?_|exact qA|exact qE (by rfl)|exact qF (by rfl)|exact Fit.refl _|exact qG _|refine qC ?_ rfl ?_));done)
       try cbv)
    | (refine⟨some [102],?_⟩
       cbv
       refine qQ ?_ (c65k) ?hfit ?hbo
       case hfit=>(cbv;(repeat' (first|exact qB|refine qD ?_ ?_|exact qE (by rfl)|exact qF (by rfl)|exact Fit.refl _|exact qA|refine qC ?_ rfl ?_));done)
       case hbo=>(cbv;(repeat' (first|exact qH|refine qI ?_ ?_|exact qK _|refine qJ ?_|exact qA|exact qE (by rfl)|exact qF (by rfl)|exact Fit.refl _|exact qG _|refine qC ?_ rfl ?_));done)
       try cbv)
    | (obtain⟨L3,eL3⟩:∃y:List Int,y=M1++[zi k]:=⟨_,rfl⟩
       refine⟨uev L3,?_⟩
       cbv
       refine ua4 (uaq (L:=M1) eL3 (by(first|rfl|((try simp only [qV]at *);(try simp only [zQ,zA,zB,zC,zD,zE,zF,zG,zH,zI,zJ,zK,zL,zM,zN,zO,zP,zR,zS]at *);done)|((try simp only [qV]at *);(try simp only [zQ,zA,zB,zC,zD,zE,zF,zG,zH,zI,zJ,zK,zL,zM,zN,zO,zP,zR,zS]at *);omega))) (by rfl) (fun ix=>Fit.refl _) (fun ix h=>qC (qE (by rfl)) rfl qA) (by(try simp only [qV]at *);(try simp only [zQ,zA,zB,zC,zD,zE,zF,zG,zH,zI,zJ,zK,zL,zM,zN,zO,zP,zR,zS]at *);omega)) (Or.inl ?_)
       try cbv)
    | (obtain⟨L4,eL4⟩:∃y:List Int,y=M2++[zi k]:=⟨_,rfl⟩
       refine⟨uev L4,?_⟩
       cbv
       refine ua4 (uaq (L:=M2) eL4 (by(first|rfl|((try simp only [qV]at *);(try simp only [zQ,zA,zB,zC,zD,zE,zF,zG,zH,zI,zJ,zK,zL,zM,zN,zO,zP,zR,zS]at *);done)|((try simp only [qV]at *);(try simp only [zQ,zA,zB,zC,zD,zE,zF,zG,zH,zI,zJ,zK,zL,zM,zN,zO,zP,zR,zS]at *);omega))) (by rfl) (fun ix=>Fit.refl _) (fun ix h=>qC (qE (by rfl)) rfl qA) (by(try simp only [qV]at *);(try simp only [zQ,zA,zB,zC,zD,zE,zF,zG,zH,zI,zJ,zK,zL,zM,zN,zO,zP,zR,zS]at *);omega)) (Or.inl ?_)
       try cbv)
    |fail)
   all_goals first|trivial|((try simp only [qV]at *);(try simp only [zQ,zA,zB,zC,zD,zE,zF,zG,zH,zI,zJ,zK,zL,zM,zN,zO,zP,zR,zS]at *);first|(refine qN ?_;omega)|(simp only [uam];omega))|((have hke:k=d.pn.toNat:=(by((try simp only [qV]at *);(try simp only [zQ,zA,zB,zC,zD,zE,zF,zG,zH,zI,zJ,zK,zL,zM,zN,zO,zP,zR,zS]at *);omega)));subst hR;rw [←hke,←hM1,←hM2];exact qD (Fit.refl _) (qD (Fit.refl _) (qD (qE rfl) qB)))|((try simp only [zQ,zA,zB,zC,zD,zE,zF,zG,zH,zI,zJ,zK,zL,zM,zN,zO,zP,zR,zS]at *);(have hx1:ubU fA (k+1)=L3:=(hyA hfa).trans eL3.symm);(have hx2:ubU fB (k+1)=L4:=(hyB hfb).trans eL4.symm);refine⟨⟨k+1,by((try simp only [qV]at *);(try simp only [zQ,zA,zB,zC,zD,zE,zF,zG,zH,zI,zJ,zK,zL,zM,zN,zO,zP,zR,zS]at *);omega)⟩,by simp only [];omega,?_⟩;cbv;(repeat' (first|with_reducible refine ua4 ?_ ?_|with_reducible refine And.intro ?_ ?_));(all_goals first|trivial|exact qM (qE (by rfl))|exact qM (qF (by rfl))|exact qM (Fit.refl _)|exact qL (qK _)|(refine qM (qE ?_);(try simp only [qV]at *);simp only [zQ,zA,zB,zC,zD,zE,zF,zG,zH,zI,zJ,zK,zL,zM,zN,zO,zP,zR,zS]at *;omega)|(refine qL (qJ ?_);(repeat' (first|exact qA|exact qB|refine qC ?_ rfl ?_|refine qD ?_ ?_|exact qE (by rfl)|exact qF (by rfl)|exact Fit.refl _|exact qG _|(refine qE ?_;(try simp only [qV]at *);simp only [zQ,zA,zB,zC,zD,zE,zF,zG,zH,zI,zJ,zK,zL,zM,zN,zO,zP,zR,zS]at *;omega)));done)|(simp only [hx1];first|exact qL (qK _)|(refine qL (uae ?_ ?_)<;>first|rfl|(rw [eL3,List.length_append];rfl)|((try simp only [qV]at *);(try simp only [zQ,zA,zB,zC,zD,zE,zF,zG,zH,zI,zJ,zK,zL,zM,zN,zO,zP,zR,zS]at *);(try simp only [eL3,List.length_append,List.length_cons,List.length_nil]at *);omega)|(intro ix h0 h1;exact Fit.refl _)))|(simp only [hx2];first|exact qL (qK _)|(refine qL (uae ?_ ?_)<;>first|rfl|(rw [eL4,List.length_append];rfl)|((try simp only [qV]at *);(try simp only [zQ,zA,zB,zC,zD,zE,zF,zG,zH,zI,zJ,zK,zL,zM,zN,zO,zP,zR,zS]at *);(try simp only [eL4,List.length_append,List.length_cons,List.length_nil]at *);omega)|(intro ix h0 h1;exact Fit.refl _)))|skip))|skip
theorem uqT (d:Dsp)(h:¬ual d=0):ua0 Tryz.prog 19 [(ub5 d)] [] (fun r _=>r=(.tup [(iS ((uhv d))),(iS ((us9 d))),(iv fun _=>ual d)])):=by
 have c59:=uim d h
 refine ua0.is fun R hR=>qW (sc:=uxM) uaj mix Tryz.func19 rfl Tryz.call19 (by kernel_rfl) (by kernel_rfl) ?_
 generalize Tryz.prog=P at c59⊢
 cbv
 repeat' (first|with_reducible refine And.intro ?_ ?_|(with_reducible intro hcd;(try simp only [zA,zB,zC,zD,zE,zF,zG,zH,zI,zJ,zK,zL,zM,zN,zO,zP]at hcd);try cbv)|(refine qP ?_ (c59) ?hfit;(case hfit=>((repeat' (first|exact qB|refine qD ?_ ?_|exact qE (by rfl)|exact qF (by rfl)|exact Fit.refl _|exact qA|refine qC ?_ rfl ?_));done));try cbv)|fail)
 all_goals first|trivial|(subst hR;(exact qD (qO (by(have e:uhv d=[]:=if_neg h);rw [e];rfl)) (qD (qO (by(have e:us9 d=[]:=if_neg h);rw [e];rfl)) (qD (Fit.refl _) qB)));done)|skip
theorem ulK (d:Dsp):ua0 Tryz.prog 19 [(ub5 d)] [] (fun r _=>r=(.tup [(iS ((uhv d))),(iS ((us9 d))),(iv fun _=>ual d)])):=by
 by_cases h:ual d=0
 ·exact usb d h
 ·exact uqT d h
end Go.Proofs.YtkdggbfknlcdaaaGreat
namespace Go.Proofs.YtkdggbfknlcdaaaGreat
open Go.Eng.Dif Go.Eng.Few
theorem utH {d:Dsp}(h:ual d=0):ud7 d d.fs (ufY d)=true:=by
 have e:ufY d=udB d.fs.length (udx d):=if_pos h
 rw [e]
 exact(ud0 (ufM h)).2.1
theorem utu (d:Dsp)(h:ua5 d=0):(ufY d).length≤6:=by
 unfold ufY
 split
 ·rename_i q
  have:=ule (ufM q)
  have:=(ua2.1 h).f6
  omega
 ·simp
theorem ujI {g x:Int}(h0:0≤g)(h1:g≤100000)(a0: -2000≤x)(a1:x≤2000): -200000000≤g*x∧g*x≤200000000:=by
 have e1:g*x≤g*2000:=Int.mul_le_mul_of_nonneg_left a1 h0
 have e2:g*(-2000)≤g*x:=Int.mul_le_mul_of_nonneg_left a0 h0
 omega
def urt (d:Dsp)(s g:Int):Prop:=(0≤s∧s≤d.sn-1)∧0≤g∧g≤100000
instance (d:Dsp) (s g:Int):Decidable (urt d s g):=by unfold urt;infer_instance
def chE (d:Dsp)(s g:Int):Int:=if ua5 d=0 then(if urt d s g then ual d else 2)else ua5 d
def chL (d:Dsp)(s g:Int):Int:=if chE d s g=0 then(g*loT d (ufY d) s.toNat).tdiv 1000 else 0
def chH (d:Dsp)(s g:Int):Int:=if chE d s g=0 then(g*hiT d (ufY d) s.toNat).tdiv 1000 else 0
theorem utW {d:Dsp} {s g:Int}(h:¬ua5 d=0):chE d s g=ua5 d∧chL d s g=0∧chH d s g=0:=by
 have e:chE d s g=ua5 d:=by unfold chE;rw [if_neg h]
 exact⟨e,by unfold chL;rw [e,if_neg h],by unfold chH;rw [e,if_neg h]⟩
theorem uwH {d:Dsp} {s g:Int}(h:ua5 d=0)(h':¬urt d s g):chE d s g=2∧chL d s g=0∧chH d s g=0:=by
 have e:chE d s g=2:=by unfold chE;rw [if_pos h,if_neg h']
 exact⟨e,by unfold chL;rw [e];rfl,by unfold chH;rw [e];rfl⟩
theorem ur7 {d:Dsp} {s g:Int}(h:ua5 d=0)(h':urt d s g)(hf:¬ual d=0):chE d s g=ual d∧chL d s g=0∧chH d s g=0:=by
 have e:chE d s g=ual d:=by unfold chE;rw [if_pos h,if_pos h']
 exact⟨e,by unfold chL;rw [e,if_neg hf],by unfold chH;rw [e,if_neg hf]⟩
theorem uq2 {d:Dsp} {s g:Int}(h:ua5 d=0)(h':urt d s g)(hf:ual d=0):chE d s g=0∧chL d s g=(g*loT d (ufY d) s.toNat).tdiv 1000∧chH d s g=(g*hiT d (ufY d) s.toNat).tdiv 1000:=by
 have e:chE d s g=0:=by unfold chE;rw [if_pos h,if_pos h',hf]
 exact⟨e,by unfold chL;rw [e];rfl,by unfold chH;rw [e];rfl⟩
def uod (n:Int):Prop:=0≤n∧n≤1000000
instance (n:Int):Decidable (uod n):=by unfold uod;infer_instance
def coE (d:Dsp)(n:Int):Int:=if ua5 d=0 then(if uod n then ual d else 2)else ua5 d
def coN (d:Dsp)(n:Int):Int:=if coE d n=0 then d.pn else 0
def ufj (d:Dsp):List Int:=ukU d.pn.toNat (uhv d)
def ukr (d:Dsp)(n:Int)(p:Nat):Int:=ucm n.toNat (ufj d) (ufj d).length (ufj d).length p
theorem uqh {d:Dsp} {n:Int}(h:¬ua5 d=0):coE d n=ua5 d∧coN d n=0:=by
 have e:coE d n=ua5 d:=by unfold coE;rw [if_neg h]
 exact⟨e,by unfold coN;rw [e,if_neg h]⟩
theorem utr {d:Dsp} {n:Int}(h:ua5 d=0)(h':¬uod n):coE d n=2∧coN d n=0:=by
 have e:coE d n=2:=by unfold coE;rw [if_pos h,if_neg h']
 exact⟨e,by unfold coN;rw [e];rfl⟩
theorem umD {d:Dsp} {n:Int}(h:ua5 d=0)(h':uod n)(hf:¬ual d=0):coE d n=ual d∧coN d n=0:=by
 have e:coE d n=ual d:=by unfold coE;rw [if_pos h,if_pos h']
 exact⟨e,by unfold coN;rw [e,if_neg hf]⟩
theorem ugK {d:Dsp} {n:Int}(h:ua5 d=0)(h':uod n)(hf:ual d=0):coE d n=0∧coN d n=d.pn:=by
 have e:coE d n=0:=by unfold coE;rw [if_pos h,if_pos h',hf]
 exact⟨e,by unfold coN;rw [e];rfl⟩
end Go.Proofs.YtkdggbfknlcdaaaGreat
namespace Go.Proofs.YtkdggbfknlcdaaaGreat
open Go Go.Eng Go.Proofs Go.Eng.Dif Go.Eng.Few
set_option maxRecDepth 10000
theorem uhZ {a:Int}(h: -200000000≤a∧a≤200000000): -200000000≤a.tdiv 1000∧a.tdiv 1000≤200000000:=by
 rcases Int.le_total 0 a with q|q
 ·rw [Int.tdiv_eq_ediv_of_nonneg q];omega
 ·obtain⟨b,rfl⟩:∃b,a = -b:=⟨-a,by omega⟩
  rw [Int.neg_tdiv,Int.tdiv_eq_ediv_of_nonneg (by omega)];omega
set_option maxHeartbeats 2000000 in
theorem us4 (d:Dsp)(s g:Int):ua0 Tryz.prog 25 [(ub5 d),(iv fun _=>s),(iv fun _=>g)] [] (fun r _=>r=(.tup [(.agg [(iv fun _=>chL d s g),(iv fun _=>chH d s g)]),(iv fun _=>chE d s g)])):=by
 have c16:=ubB d
 have c43:= @ucW
 have c22:=upz d
 have c44:=ucB d
 have c66:=fun h:ua5 d=0=>udy d s ⟨(ua2.1 h).s1,by have:=(ua2.1 h).s3;omega⟩
 have c54:=fun h:ua5 d=0=>ubA d (ufY d) (ua2.1 h) (by have:=utu d h;omega)
 have hbd:=fun (h:ual d=0) (i:Nat) (hi:i<16)=>ukn (ua2.1 (uaF h).1) (utH h) hi
 have hsn:=fun h:ual d=0=>(ua2.1 (uaF h).1).s3
 have c55:=fun (s:Int) (h:ual d=0∧0≤s∧s≤d.sn-1)=>(show ua0 Tryz.prog 63 [.own 0 0,(iv fun _=>s)] [.cells [(.arr 16 (fun ix=>(iv fun _=>(clo (ufq d d.fs (ufY d))) ix.den.toNat)))] 95] (fun r bs=>r=(.agg [(iv fun _=>loT d (ufY d) s.toNat),(iv fun _=>hiT d (ufY d) s.toNat)])∧bs=[.cells [(.arr 16 (fun ix=>(iv fun _=>(clo (ufq d d.fs (ufY d))) ix.den.toNat)))] 95])from uep (clo (ufq d d.fs (ufY d))) s ⟨h.2.1,by have:=hsn h.1;omega⟩ (fun i hi=>⟨by have:=hbd h.1 i hi;omega,by have:=hbd h.1 i hi;omega⟩))
 have hmul:0≤g→g≤100000→0≤s∧s≤d.sn-1→ual d=0→(-200000000≤g*loT d (ufY d) s.toNat∧g*loT d (ufY d) s.toNat≤200000000)∧ -200000000≤g*hiT d (ufY d) s.toNat∧g*hiT d (ufY d) s.toNat≤200000000:=fun h0 h1 hs hf=>by
  have s3:=hsn hf
  have b1:=hbd hf (at4 (s.toNat+1) 0) (uf8 (by omega) (by omega))
  have b2:=hbd hf (at4 0 (s.toNat+1)) (uf8 (by omega) (by omega))
  exact⟨ujI h0 h1 (by unfold loT;omega) (by unfold loT;omega),ujI h0 h1 (by unfold hiT;omega) (by unfold hiT;omega)⟩
 refine ua0.is fun R hR=>qW (sc:=uB1) uaj mix Tryz.func25 rfl Tryz.call25 (by kernel_rfl) (by kernel_rfl) ?_
 generalize Tryz.prog=P at c16 c43 c22 c44 c66 c54 c55⊢
 cbv
 repeat' (first
  |with_reducible refine ua4 ?_ ?_
  |with_reducible refine And.intro ?_ ?_
  |(with_reducible refine qS ?_ ?_ ?_;try cbv)
  |(with_reducible intro hcd;(try simp only [zA,zB,zC,zD,zE,zF,zG,zH,zI,zJ,zK,zL,zM,zN,zO,zP]at hcd);try cbv)
  |(refine qP ?_ (c16) ?hfit;(case hfit=>((repeat' (first|exact qB|refine qD ?_ ?_|exact qE (by rfl)|exact qF (by rfl)|exact Fit.refl _|exact qA|refine qC ?_ rfl ?_));done));try cbv)
  |(refine qP ?_ (c43 _ _ _) (by(repeat' (first|exact qB|refine qD ?_ ?_|exact qE (by rfl)|exact qF (by rfl)|exact Fit.refl _|exact qA|refine qC ?_ rfl ?_)));try cbv)
  |(refine qP ?_ (c22) ?hfit;(case hfit=>((repeat' (first|exact qB|refine qD ?_ ?_|exact qE (by rfl)|exact qF (by rfl)|exact Fit.refl _|exact qA|refine qC ?_ rfl ?_));done));try cbv)
  |(refine qP ?_ (c44) ?hfit;(case hfit=>((repeat' (first|exact qB|refine qD ?_ ?_|exact qE (by rfl)|exact qF (by rfl)|exact Fit.refl _|exact qA|refine qC ?_ rfl ?_));done));try cbv)
  |(refine qP ?_ (c66 (by((try simp only [qV]at *);(try simp only [zQ,zA,zB,zC,zD,zE,zF,zG,zH,zI,zJ,zK,zL,zM,zN,zO,zP,zR,zS]at *);first|assumption|omega))) ?hfit;(case hfit=>((repeat' (first|exact qB|refine qD ?_ ?_|exact qE (by rfl)|exact qF (by rfl)|exact Fit.refl _|exact qA|refine qC ?_ rfl ?_));done));try cbv)
  |(refine qP ?_ (c54 (by((try simp only [qV]at *);(try simp only [zQ,zA,zB,zC,zD,zE,zF,zG,zH,zI,zJ,zK,zL,zM,zN,zO,zP,zR,zS]at *);first|assumption|omega))) ?hfit;(case hfit=>((repeat' (first|exact qB|refine qD ?_ ?_|exact qE (by rfl)|exact qF (by rfl)|exact Fit.refl _|exact qA|refine qC ?_ rfl ?_));done));try cbv)
  | ((have hf9:ual d=0:=(by((try simp only [qV]at *);(try simp only [zQ,zA,zB,zC,zD,zE,zF,zG,zH,zI,zJ,zK,zL,zM,zN,zO,zP,zR,zS]at *);omega)))
     refine⟨some [33],?_⟩
     cbv
     refine qQ ?_ (c55 s ⟨hf9,by((try simp only [qV]at *);(try simp only [zQ,zA,zB,zC,zD,zE,zF,zG,zH,zI,zJ,zK,zL,zM,zN,zO,zP,zR,zS]at *);(try simp only [uag,uai,uax,uaO,uaK,uaN,ua9,uaa,ua8,uab]at *);omega)⟩) ?hfit ?hbo
     case hfit=>(cbv;(repeat' (first|exact qB|refine qD ?_ ?_|exact qE (by rfl)|exact qF (by rfl)|exact Fit.refl _|exact qA|refine qC ?_ rfl ?_));done)
     case hbo=>(cbv;(repeat' (first|exact qH|refine qI ?_ ?_|exact qK _|refine qJ ?_|exact qA|exact qE (by rfl)|exact qF (by rfl)|exact Fit.refl _|exact qG _|refine qC ?_ rfl ?_));done)
     try cbv)
  |fail)
 all_goals first|((try simp only [qV]at *);(try simp only [zQ,zA,zB,zC,zD,zE,zF,zG,zH,zI,zJ,zK,zL,zM,zN,zO,zP,zR,zS,uag,uai,uax,uaO,uaK,uaN,ua9,uaa,ua8,uab]at *);first|(refine qN ?_;omega)|(simp only [uam];omega))|(subst hR;(refine qD (qC (qE ?_) rfl (qC (qE ?_) rfl qA)) (qD (qE ?_) qB)<;>((try simp only [qV]at *);(try simp only [zQ,zA,zB,zC,zD,zE,zF,zG,zH,zI,zJ,zK,zL,zM,zN,zO,zP,zR,zS]at *);(try simp only [uag,uai,uax,uaO,uaK,uaN,ua9,uaa,ua8,uab]at *);(have h0:=utW (d:=d) (s:=s) (g:=g) (by first|assumption|omega));first|exact h0.2.1.symm|exact h0.2.2.symm|exact h0.1.symm));done)|(subst hR;(refine qD (qC (qE ?_) rfl (qC (qE ?_) rfl qA)) (qD (qE ?_) qB)<;>((try simp only [qV]at *);(try simp only [zQ,zA,zB,zC,zD,zE,zF,zG,zH,zI,zJ,zK,zL,zM,zN,zO,zP,zR,zS]at *);(try simp only [uag,uai,uax,uaO,uaK,uaN,ua9,uaa,ua8,uab]at *);(have h0:=uwH (d:=d) (s:=s) (g:=g) (by first|assumption|omega) (by unfold urt;omega));first|exact h0.2.1.symm|exact h0.2.2.symm|exact h0.1.symm));done)|(subst hR;(refine qD (qC (qE ?_) rfl (qC (qE ?_) rfl qA)) (qD (qE ?_) qB)<;>((try simp only [qV]at *);(try simp only [zQ,zA,zB,zC,zD,zE,zF,zG,zH,zI,zJ,zK,zL,zM,zN,zO,zP,zR,zS]at *);(try simp only [uag,uai,uax,uaO,uaK,uaN,ua9,uaa,ua8,uab]at *);(have h0:=ur7 (d:=d) (s:=s) (g:=g) (by first|assumption|omega) (by unfold urt;omega) (by first|assumption|omega));first|exact h0.2.1.symm|exact h0.2.2.symm|exact h0.1.symm));done)|(subst hR;(refine qD (qC (qE ?_) rfl (qC (qE ?_) rfl qA)) (qD (qE ?_) qB)<;>((try simp only [qV]at *);(try simp only [zQ,zA,zB,zC,zD,zE,zF,zG,zH,zI,zJ,zK,zL,zM,zN,zO,zP,zR,zS]at *);(try simp only [uag,uai,uax,uaO,uaK,uaN,ua9,uaa,ua8,uab]at *);(have h0:=uq2 (d:=d) (s:=s) (g:=g) (by first|assumption|omega) (by unfold urt;omega) (by first|assumption|omega));first|exact h0.2.1.symm|exact h0.2.2.symm|exact h0.1.symm));done)|((have hf9:ual d=0:=(by((try simp only [qV]at *);(try simp only [zQ,zA,zB,zC,zD,zE,zF,zG,zH,zI,zJ,zK,zL,zM,zN,zO,zP,zR,zS]at *);omega)));(have hb9:=hmul (by((try simp only [qV]at *);(try simp only [zQ,zA,zB,zC,zD,zE,zF,zG,zH,zI,zJ,zK,zL,zM,zN,zO,zP,zR,zS]at *);(try simp only [uag,uai,uax,uaO,uaK,uaN,ua9,uaa,ua8,uab]at *);omega)) (by((try simp only [qV]at *);(try simp only [zQ,zA,zB,zC,zD,zE,zF,zG,zH,zI,zJ,zK,zL,zM,zN,zO,zP,zR,zS]at *);(try simp only [uag,uai,uax,uaO,uaK,uaN,ua9,uaa,ua8,uab]at *);omega)) (by((try simp only [qV]at *);(try simp only [zQ,zA,zB,zC,zD,zE,zF,zG,zH,zI,zJ,zK,zL,zM,zN,zO,zP,zR,zS]at *);(try simp only [uag,uai,uax,uaO,uaK,uaN,ua9,uaa,ua8,uab]at *);omega)) hf9);(have t1:=uhZ hb9.1);(have t2:=uhZ hb9.2);(try simp only [qV]at *);(try simp only [zQ,zA,zB,zC,zD,zE,zF,zG,zH,zI,zJ,zK,zL,zM,zN,zO,zP,zR,zS]at *);(try simp only [uag,uai,uax,uaO,uaK,uaN,ua9,uaa,ua8,uab]at *);first|(refine qN ?_;omega)|(simp only [uam];omega))|skip
theorem urA {f:Nat→Bool}:∀{n:Nat},ubU f n=[]→∀{k:Nat},k<n→f k=false:=by
 intro n
 induction n with
 |zero=>intro _ k hk;omega
 | succ n ih=>
  intro h k hk
  cases hf:f n with
  |true=>rw [uqA hf]at h;simp at h
  | false=>
   rw [uoG hf]at h
   by_cases e:k=n
   ·rw [e];exact hf
   ·exact ih h (by omega)
set_option maxHeartbeats 2000000 in
theorem uri (d:Dsp)(h:ual d=0)(he:uhv d=[]):ua0 Tryz.prog 19 [(ub5 d)] [] (fun r _=>r=(.tup [.val (Value.slice none 0 0),(iS ((us9 d))),(iv fun _=>ual d)])):=by
 have c59:=umg d h
 have c58:=uh9
 have hF:=(uaF h).1
 have hd:=ua2.1 hF
 have p1:=hd.p1
 have p4:=hd.p4
 have c61:=ugE d hd
 have hsf:=ujJ (n:=d.pn.toNat) (ok:=uc4 d) (by omega) (ufL h)
 have hm0:ubU (uld d) d.pn.toNat=[]:=(if_pos h:uhv d=_).symm.trans he
 have hAf:∀k:Nat,k<d.pn.toNat→uld d k=false:=fun k hk=>urA hm0 hk
 rw [show us9 d=ubU (uqP d) d.pn.toNat from if_pos h,h]
 have hA:∀k:Nat,uhl (fun i=>inL ((uaB d.pn.toNat (uc4 d)).getD i []) (zi k)) (uaB d.pn.toNat (uc4 d)).length=uld d k:=fun k=>usW _ _
 have hB:∀k:Nat,decide (0≤ubK (fun i=> !(inL ((uaB d.pn.toNat (uc4 d)).getD i []) (zi k))) (uaB d.pn.toNat (uc4 d)).length 0)=uqP d k:=fun k=>utn _ _
 obtain⟨L,hL⟩:∃L,L=uaB d.pn.toNat (uc4 d):=⟨_,rfl⟩
 rw [←hL]at c61 hsf
 simp only [←hL]at hA hB
 have c64:=fun k:Nat=>(show ua0 Tryz.prog 54 [(.sl 1 (.sym fun _=>zi (L).length) (fun ix=>[(.sl 1 (.sym fun _=>zi ((L).getD ix.den.toNat []).length) (fun jx=>[(iv fun _=>((L).getD ix.den.toNat []).getD jx.den.toNat 0)]))])),.clo 52 [] [.own 0 0]] [.cells [(iv fun _=>zi k)] 3] (fun r bs=>r=(bv fun _=>uld d k)∧bs=[.cells [(iv fun _=>zi k)] 3])from hA k▸uhr L (zi k) hsf.2 hsf.1)
 have c65:=fun k:Nat=>(show ua0 Tryz.prog 55 [(.sl 1 (.sym fun _=>zi (L).length) (fun ix=>[(.sl 1 (.sym fun _=>zi ((L).getD ix.den.toNat []).length) (fun jx=>[(iv fun _=>((L).getD ix.den.toNat []).getD jx.den.toNat 0)]))])),.clo 52 [] [.own 0 0]] [.cells [(iv fun _=>zi k)] 3] (fun r bs=>r=(bv fun _=>uqP d k)∧bs=[.cells [(iv fun _=>zi k)] 3])from hB k▸uht L (zi k) hsf.2 hsf.1)
 obtain⟨fA,hfA⟩:∃f,f=uld d:=⟨_,rfl⟩
 obtain⟨fB,hfB⟩:∃f,f=uqP d:=⟨_,rfl⟩
 rw [←hfA]at c64 hAf
 rw [←hfB]at c65⊢
 clear hA hB hL hfA hfB hm0
 refine ua0.is fun R hR=>qW (sc:=uxM) uaj mix Tryz.func19 rfl Tryz.call19 (by kernel_rfl) (by kernel_rfl) ?_
 generalize Tryz.prog=P at c59 c58 c61 c64 c65⊢
 cbv
 repeat' (first|with_reducible refine And.intro ?_ ?_|(with_reducible intro hcd;(try simp only [zA,zB,zC,zD,zE,zF,zG,zH,zI,zJ,zK,zL,zM,zN,zO,zP]at hcd);try cbv)|(refine qP ?_ (c59) ?hfit;(case hfit=>((repeat' (first|exact qB|refine qD ?_ ?_|exact qE (by rfl)|exact qF (by rfl)|exact Fit.refl _|exact qA|refine qC ?_ rfl ?_));done));try cbv)|(refine qP ?_ (c58) ?hfit;(case hfit=>((repeat' (first|exact qB|refine qD ?_ ?_|exact qE (by rfl)|exact qF (by rfl)|exact Fit.refl _|exact qA|refine qC ?_ rfl ?_));done));try cbv)|(refine qP ?_ (c61) ?hfit;(case hfit=>((repeat' (first|exact qB|refine qD ?_ ?_|exact qE (by rfl)|exact qF (by rfl)|exact Fit.refl _|exact qA|refine qC ?_ rfl ?_));done));try cbv)|fail)
 all_goals first|trivial|skip
 refine⟨none,[⟨.tmp 3,3,1⟩],{k:Nat // k≤d.pn.toNat},fun x=>⟨[(1,.own 0 0),(6,(.sl 1 (.sym fun _=>zi (L).length) (fun ix=>[(.sl 1 (.sym fun _=>zi ((L).getD ix.den.toNat []).length) (fun jx=>[(iv fun _=>((L).getD ix.den.toNat []).getD jx.den.toNat 0)]))]))),(2,.val (Value.slice none 0 0)),(3,.row 20),(21,(iv fun _=>d.pn)),(22,(iv fun _=>zi x.1))],[(0,.cells [(iS d.tw),(iS d.tm),(.sl 1 (.sym fun _=>zi (d.tv).length) (fun ix=>[(.sl 1 (.sym fun _=>zi ((d.tv).getD ix.den.toNat []).length) (fun jx=>[(iv fun _=>((d.tv).getD ix.den.toNat []).getD jx.den.toNat 0)]))])),(iv fun _=>d.sn),(iv fun _=>d.pn),(.sl 4 (.sym fun _=>zi (d.ls).length) (fun ix=>[(iv fun _=>((d.ls).getD ix.den.toNat l0T).a),(iv fun _=>((d.ls).getD ix.den.toNat l0T).b),(iv fun _=>((d.ls).getD ix.den.toNat l0T).lo),(iv fun _=>((d.ls).getD ix.den.toNat l0T).hi)])),(.sl 6 (.sym fun _=>zi (d.fs).length) (fun ix=>[(iv fun _=>((d.fs).getD ix.den.toNat f0T).p),(iv fun _=>((d.fs).getD ix.den.toNat f0T).s),(iv fun _=>((d.fs).getD ix.den.toNat f0T).wl),(iv fun _=>((d.fs).getD ix.den.toNat f0T).wh),(iv fun _=>((d.fs).getD ix.den.toNat f0T).ml),(iv fun _=>((d.fs).getD ix.den.toNat f0T).mh)]))] 39),(20,.row 3 1 (.sym fun _=>zi ((ubU fB x.1)).length) (fun ix=>[(iv fun _=>((ubU fB x.1)).getD ix.den.toNat 0)]))],100⟩,fun x=>d.pn.toNat-x.1,?_,?_⟩
 ·refine⟨⟨0,by omega⟩,?_⟩
  cbv
  repeat' (first|with_reducible refine ua4 ?_ ?_|with_reducible refine And.intro ?_ ?_)
  all_goals first|trivial|exact qM (qE (by rfl))|exact qM (Fit.refl _)|exact qL (qK _)|(refine qL (uae ?_ ?_);(first|rfl|((try simp only [qV]at *);(try simp only [zQ,zA,zB,zC,zD,zE,zF,zG,zH,zI,zJ,zK,zL,zM,zN,zO,zP,zR,zS]at *);omega));intro ix h0 h1;exfalso;(try simp only [qV]at *);(try simp only [zQ,zA,zB,zC,zD,zE,zF,zG,zH,zI,zJ,zK,zL,zM,zN,zO,zP,zR,zS]at *);omega)|skip
 ·rintro ⟨k, hk⟩
  cbv
  have hl2:=ui4 fB k
  have hyB:=uqA (f:=fB) (k:=k)
  have hnB:=uoG (f:=fB) (k:=k)
  obtain⟨M2,hM2⟩:∃M,M=ubU fB k:=⟨_,rfl⟩
  rw [←hM2]at hl2 hyB hnB⊢
  have c64k:=c64 k
  have c65k:=c65 k
  rcases Nat.lt_or_ge k d.pn.toNat with hlt|hge
  ·have hfa :=hAf k hlt
   rw [hfa]at c64k
   rcases hfb:fB k with _|_
   ·rw [hfb]at c65k
    cbv
    repeat' (first
     |with_reducible refine ua4 ?_ ?_
     |with_reducible refine And.intro ?_ ?_
     |(with_reducible intro hcd;(try simp only [zA,zB,zC,zD,zE,zF,zG,zH,zI,zJ,zK,zL,zM,zN,zO,zP]at hcd);try cbv)
     | (refine⟨some [102],?_⟩
        cbv
        refine qQ ?_ (c64k) ?hfit ?hbo
        case hfit=>(cbv;(repeat' (first|exact qB|refine qD ?_ ?_|exact qE (by rfl)|exact qF (by rfl)|exact Fit.refl _|exact qA|refine qC ?_ rfl ?_));done)
        case hbo=>(cbv;(repeat' (first|exact qH|refine qI ?_ ?_|exact qK _|refine qJ ?_|exact qA|exact qE (by rfl)|exact qF (by rfl)|exact Fit.refl _|exact qG _|refine qC ?_ rfl ?_));done)
        try cbv)
     | (refine⟨some [102],?_⟩
        cbv
        refine qQ ?_ (c65k) ?hfit ?hbo
        case hfit=>(cbv;(repeat' (first|exact qB|refine qD ?_ ?_|exact qE (by rfl)|exact qF (by rfl)|exact Fit.refl _|exact qA|refine qC ?_ rfl ?_));done)
        case hbo=>(cbv;(repeat' (first|exact qH|refine qI ?_ ?_|exact qK _|refine qJ ?_|exact qA|exact qE (by rfl)|exact qF (by rfl)|exact Fit.refl _|exact qG _|refine qC ?_ rfl ?_));done)
        try cbv)
     | (obtain⟨L4,eL4⟩:∃y:List Int,y=M2++[zi k]:=⟨_,rfl⟩
        refine⟨uev L4,?_⟩
        cbv
        refine ua4 (uaq (L:=M2) eL4 (by(first|rfl|((try simp only [qV]at *);(try simp only [zQ,zA,zB,zC,zD,zE,zF,zG,zH,zI,zJ,zK,zL,zM,zN,zO,zP,zR,zS]at *);done)|((try simp only [qV]at *);(try simp only [zQ,zA,zB,zC,zD,zE,zF,zG,zH,zI,zJ,zK,zL,zM,zN,zO,zP,zR,zS]at *);omega))) (by rfl) (fun ix=>Fit.refl _) (fun ix h=>qC (qE (by rfl)) rfl qA) (by(try simp only [qV]at *);(try simp only [zQ,zA,zB,zC,zD,zE,zF,zG,zH,zI,zJ,zK,zL,zM,zN,zO,zP,zR,zS]at *);omega)) (Or.inl ?_)
        try cbv)
     |fail)
    all_goals first|trivial|((try simp only [qV]at *);(try simp only [zQ,zA,zB,zC,zD,zE,zF,zG,zH,zI,zJ,zK,zL,zM,zN,zO,zP,zR,zS]at *);first|(refine qN ?_;omega)|(simp only [uam];omega))|((have hke:k=d.pn.toNat:=(by((try simp only [qV]at *);(try simp only [zQ,zA,zB,zC,zD,zE,zF,zG,zH,zI,zJ,zK,zL,zM,zN,zO,zP,zR,zS]at *);omega)));subst hR;rw [←hke,←hM2];exact qD (Fit.refl _) (qD (Fit.refl _) (qD (qE rfl) qB)))|((try simp only [zQ,zA,zB,zC,zD,zE,zF,zG,zH,zI,zJ,zK,zL,zM,zN,zO,zP,zR,zS]at *);(have hx2:ubU fB (k+1)=M2:=hnB hfb);refine⟨⟨k+1,by((try simp only [qV]at *);(try simp only [zQ,zA,zB,zC,zD,zE,zF,zG,zH,zI,zJ,zK,zL,zM,zN,zO,zP,zR,zS]at *);omega)⟩,by simp only [];omega,?_⟩;cbv;(repeat' (first|with_reducible refine ua4 ?_ ?_|with_reducible refine And.intro ?_ ?_));(all_goals first|trivial|exact qM (qE (by rfl))|exact qM (qF (by rfl))|exact qM (Fit.refl _)|exact qL (qK _)|(refine qM (qE ?_);(try simp only [qV]at *);simp only [zQ,zA,zB,zC,zD,zE,zF,zG,zH,zI,zJ,zK,zL,zM,zN,zO,zP,zR,zS]at *;omega)|(refine qL (qJ ?_);(repeat' (first|exact qA|exact qB|refine qC ?_ rfl ?_|refine qD ?_ ?_|exact qE (by rfl)|exact qF (by rfl)|exact Fit.refl _|exact qG _|(refine qE ?_;(try simp only [qV]at *);simp only [zQ,zA,zB,zC,zD,zE,zF,zG,zH,zI,zJ,zK,zL,zM,zN,zO,zP,zR,zS]at *;omega)));done)|(simp only [hx2];first|exact qL (qK _)|(refine qL (uae ?_ ?_)<;>first|rfl|(rw [hM2,List.length_append];rfl)|((try simp only [qV]at *);(try simp only [zQ,zA,zB,zC,zD,zE,zF,zG,zH,zI,zJ,zK,zL,zM,zN,zO,zP,zR,zS]at *);(try simp only [hM2,List.length_append,List.length_cons,List.length_nil]at *);omega)|(intro ix h0 h1;exact Fit.refl _)))|skip))|skip
   ·rw [hfb]at c65k
    cbv
    repeat' (first
     |with_reducible refine ua4 ?_ ?_
     |with_reducible refine And.intro ?_ ?_
     |(with_reducible intro hcd;(try simp only [zA,zB,zC,zD,zE,zF,zG,zH,zI,zJ,zK,zL,zM,zN,zO,zP]at hcd);try cbv)
     | (refine⟨some [102],?_⟩
        cbv
        refine qQ ?_ (c64k) ?hfit ?hbo
        case hfit=>(cbv;(repeat' (first|exact qB|refine qD ?_ ?_|exact qE (by rfl)|exact qF (by rfl)|exact Fit.refl _|exact qA|refine qC ?_ rfl ?_));done)
        case hbo=>(cbv;(repeat' (first|exact qH|refine qI ?_ ?_|exact qK _|refine qJ ?_|exact qA|exact qE (by rfl)|exact qF (by rfl)|exact Fit.refl _|exact qG _|refine qC ?_ rfl ?_));done)
        try cbv)
     | (refine⟨some [102],?_⟩
        cbv
        refine qQ ?_ (c65k) ?hfit ?hbo
        case hfit=>(cbv;(repeat' (first|exact qB|refine qD ?_ ?_|exact qE (by rfl)|exact qF (by rfl)|exact Fit.refl _|exact qA|refine qC ?_ rfl ?_));done)
        case hbo=>(cbv;(repeat' (first|exact qH|refine qI ?_ ?_|exact qK _|refine qJ ?_|exact qA|exact qE (by rfl)|exact qF (by rfl)|exact Fit.refl _|exact qG _|refine qC ?_ rfl ?_));done)
        try cbv)
     | (obtain⟨L4,eL4⟩:∃y:List Int,y=M2++[zi k]:=⟨_,rfl⟩
        refine⟨uev L4,?_⟩
        cbv
        refine ua4 (uaq (L:=M2) eL4 (by(first|rfl|((try simp only [qV]at *);(try simp only [zQ,zA,zB,zC,zD,zE,zF,zG,zH,zI,zJ,zK,zL,zM,zN,zO,zP,zR,zS]at *);done)|((try simp only [qV]at *);(try simp only [zQ,zA,zB,zC,zD,zE,zF,zG,zH,zI,zJ,zK,zL,zM,zN,zO,zP,zR,zS]at *);omega))) (by rfl) (fun ix=>Fit.refl _) (fun ix h=>qC (qE (by rfl)) rfl qA) (by(try simp only [qV]at *);(try simp only [zQ,zA,zB,zC,zD,zE,zF,zG,zH,zI,zJ,zK,zL,zM,zN,zO,zP,zR,zS]at *);omega)) (Or.inl ?_)
        try cbv)
     |fail)
    all_goals first|trivial|((try simp only [qV]at *);(try simp only [zQ,zA,zB,zC,zD,zE,zF,zG,zH,zI,zJ,zK,zL,zM,zN,zO,zP,zR,zS]at *);first|(refine qN ?_;omega)|(simp only [uam];omega))|((have hke:k=d.pn.toNat:=(by((try simp only [qV]at *);(try simp only [zQ,zA,zB,zC,zD,zE,zF,zG,zH,zI,zJ,zK,zL,zM,zN,zO,zP,zR,zS]at *);omega)));subst hR;rw [←hke,←hM2];exact qD (Fit.refl _) (qD (Fit.refl _) (qD (qE rfl) qB)))|((try simp only [zQ,zA,zB,zC,zD,zE,zF,zG,zH,zI,zJ,zK,zL,zM,zN,zO,zP,zR,zS]at *);(have hx2:ubU fB (k+1)=L4:=(hyB hfb).trans eL4.symm);refine⟨⟨k+1,by((try simp only [qV]at *);(try simp only [zQ,zA,zB,zC,zD,zE,zF,zG,zH,zI,zJ,zK,zL,zM,zN,zO,zP,zR,zS]at *);omega)⟩,by simp only [];omega,?_⟩;cbv;(repeat' (first|with_reducible refine ua4 ?_ ?_|with_reducible refine And.intro ?_ ?_));(all_goals first|trivial|exact qM (qE (by rfl))|exact qM (qF (by rfl))|exact qM (Fit.refl _)|exact qL (qK _)|(refine qM (qE ?_);(try simp only [qV]at *);simp only [zQ,zA,zB,zC,zD,zE,zF,zG,zH,zI,zJ,zK,zL,zM,zN,zO,zP,zR,zS]at *;omega)|(refine qL (qJ ?_);(repeat' (first|exact qA|exact qB|refine qC ?_ rfl ?_|refine qD ?_ ?_|exact qE (by rfl)|exact qF (by rfl)|exact Fit.refl _|exact qG _|(refine qE ?_;(try simp only [qV]at *);simp only [zQ,zA,zB,zC,zD,zE,zF,zG,zH,zI,zJ,zK,zL,zM,zN,zO,zP,zR,zS]at *;omega)));done)|(simp only [hx2];first|exact qL (qK _)|(refine qL (uae ?_ ?_)<;>first|rfl|(rw [eL4,List.length_append];rfl)|((try simp only [qV]at *);(try simp only [zQ,zA,zB,zC,zD,zE,zF,zG,zH,zI,zJ,zK,zL,zM,zN,zO,zP,zR,zS]at *);(try simp only [eL4,List.length_append,List.length_cons,List.length_nil]at *);omega)|(intro ix h0 h1;exact Fit.refl _)))|skip))|skip
  ·cbv
   repeat' (first|with_reducible refine And.intro ?_ ?_|(with_reducible intro hcd;(try simp only [zA,zB,zC,zD,zE,zF,zG,zH,zI,zJ,zK,zL,zM,zN,zO,zP]at hcd);try cbv)|fail)
   all_goals first|((have hke:k=d.pn.toNat:=(by((try simp only [qV]at *);(try simp only [zQ,zA,zB,zC,zD,zE,zF,zG,zH,zI,zJ,zK,zL,zM,zN,zO,zP,zR,zS]at *);omega)));subst hR;rw [←hke,←hM2];exact qD (Fit.refl _) (qD (Fit.refl _) (qD (qE rfl) qB)))|(exfalso;(try simp only [qV]at *);(try simp only [zQ,zA,zB,zC,zD,zE,zF,zG,zH,zI,zJ,zK,zL,zM,zN,zO,zP,zR,zS]at *);omega)|skip
end Go.Proofs.YtkdggbfknlcdaaaGreat
namespace Go.Proofs.YtkdggbfknlcdaaaGreat
open Go Go.Eng Go.Eng.Dif Go.Eng.Few
theorem udo {n ix:Int} {o2:Nat} {e e':IX→List SV} {x:List SV}(h0:ix<n)(h1:∀jx:IX,0≤jx.den→jx.den<n→jx.den≠ix→Fit (.agg (e jx)) (.agg (e' jx)))
 (h2:∀jx:IX,0≤jx.den→jx.den<n→jx.den=ix→∃l,ukw (e jx) o2 x=some l∧Fit (.agg l) (.agg (e' jx))):uam (ix<n∧ut7 n e ix o2 x e'):=
 ⟨h0,fun jx a b c=>(h1 jx a b c).le,fun jx a b c=>by obtain⟨l,p,q⟩:=h2 jx a b c;exact⟨l,p,q.le⟩⟩
def uid (f:Nat→Int)(p:Nat)(v:Int):Nat→Int:=fun i=>if i=p then v else f i
theorem ufB {f:Nat→Int} {p i:Nat} {v:Int}(h:i=p):v=uid f p v i:=by unfold uid;rw [if_pos h]
theorem uiE {f:Nat→Int} {p i:Nat} {v:Int}(h:i≠p):f i=uid f p v i:=by unfold uid;rw [if_neg h]
theorem uuF {n:Int} {m k:Nat}(hn:0≤n)(h:(k:Int)<n.tmod (m:Int)):(ux4 n.toNat m k:Int)=n.tdiv (m:Int)+1:=by
 obtain⟨N,rfl⟩:∃N:Nat,n=(N:Int):=⟨n.toNat,by omega⟩
 have h1:(N:Int).tmod (m:Int)=((N%m:Nat):Int):=rfl
 have h2:(N:Int).tdiv (m:Int)=((N/m:Nat):Int):=rfl
 rw [h1]at h
 rw [h2]
 unfold ux4
 rw [Int.toNat_natCast,if_pos (by omega)]
 omega
theorem uuD {n:Int} {m k:Nat}(hn:0≤n)(h:¬(k:Int)<n.tmod (m:Int)):(ux4 n.toNat m k:Int)=n.tdiv (m:Int):=by
 obtain⟨N,rfl⟩:∃N:Nat,n=(N:Int):=⟨n.toNat,by omega⟩
 have h1:(N:Int).tmod (m:Int)=((N%m:Nat):Int):=rfl
 have h2:(N:Int).tdiv (m:Int)=((N/m:Nat):Int):=rfl
 rw [h1]at h
 rw [h2]
 unfold ux4
 rw [Int.toNat_natCast,if_neg (by omega)]
 omega
theorem utb {n:Int} {m:Nat}(h0:0≤n)(h1:n≤1000000):0≤n.tdiv (m:Int)∧n.tdiv (m:Int)≤1000000:=by
 obtain⟨N,rfl⟩:∃N:Nat,n=(N:Int):=⟨n.toNat,by omega⟩
 have h2:(N:Int).tdiv (m:Int)=((N/m:Nat):Int):=rfl
 have:=Nat.div_le_self N m
 rw [h2]
 exact⟨Int.natCast_nonneg _,Int.le_trans (Int.ofNat_le.2 this) h1⟩
theorem uiy {n:Int} {L:List Int} {m k i:Nat}(hn:0≤n)(h0:0≤L.getD k 0)(h:¬(k:Int)<n.tmod (m:Int)):uid (ucm n.toNat L m k) (L.getD k 0).toNat (n.tdiv (m:Int)) i=ucm n.toNat L m (k+1) i:=by
 unfold uid ucm
 rw [uuD hn h]
 by_cases e:i=(L.getD k 0).toNat
 ·rw [if_pos e,if_pos (by omega)]
 ·rw [if_neg e,if_neg (by omega)]
  cases k<;>rfl
theorem uiO {n:Int} {L:List Int} {m k i a:Nat}(hn:0≤n)(h0:0≤L.getD k 0)(h:(k:Int)<n.tmod (m:Int))(ha:a=(L.getD k 0).toNat):uid (uid (ucm n.toNat L m k) (L.getD k 0).toNat (n.tdiv (m:Int))) (L.getD k 0).toNat (uid (ucm n.toNat L m k) (L.getD k 0).toNat (n.tdiv (m:Int)) a+1) i=ucm n.toNat L m (k+1) i:=by
 rw [←ufB ha]
 unfold uid ucm
 rw [uuF hn h]
 by_cases e:i=(L.getD k 0).toNat
 ·rw [if_pos e,if_pos (by omega)]
 ·rw [if_neg e,if_neg e,if_neg (by omega)]
  cases k<;>rfl
theorem upG {d:Dsp}(h:ual d=0):Asc d.pn.toNat 0 (ufj d)∧0<(ufj d).length:=by
 have e:uhv d=ubU (uld d) d.pn.toNat:=if_pos h
 have p1:=(ua2.1 (uaF h).1).p1
 unfold ufj
 rw [e]
 exact uro (by omega) upJ
theorem usC {d:Dsp}(h:ual d=0) {k:Nat}(hk:k<(ufj d).length):0≤(ufj d).getD k 0∧(ufj d).getD k 0<d.pn:=by
 have:=uw0 (upG h).1 k hk
 have p1:=(ua2.1 (uaF h).1).p1
 omega
theorem uoQ {d:Dsp}(h:ual d=0):(ufj d).length≤4:=by
 have p4:=(ua2.1 (uaF h).1).p4
 have e:uhv d=ubU (uld d) d.pn.toNat:=if_pos h
 unfold ufj ukU
 split
 ·rw [uit];omega
 ·rw [e];have:=ui4 (uld d) d.pn.toNat;omega
theorem uu0 {d:Dsp}(h:uhv d=[]):ufj d=ub0 d.pn.toNat:=by unfold ufj ukU;rw [h];rfl
theorem ux8 {d:Dsp}(h:uhv d≠[]):ufj d=uhv d:=by
 unfold ufj ukU
 rw [if_neg (by rw [List.length_eq_zero_iff];exact h)]
theorem uwj (k:Nat):ub0 (k+1)=ub0 k++[(k:Int)]:=rfl
theorem uhK {d:Dsp} {n:Int}(h:coE d n=0):ual d=0∧0≤n∧n≤1000000:=by
 by_cases hF:ua5 d=0
 ·by_cases hn:uod n
  ·by_cases hf:ual d=0
   ·exact⟨hf,hn.1,hn.2⟩
   ·rw [(umD hF hn hf).1]at h;exact absurd h hf
  ·rw [(utr hF hn).1]at h;omega
 ·rw [(uqh hF).1]at h;exact absurd h hF
theorem uoy {d:Dsp} {n:Int}(h:¬coE d n=0):coN d n=0:=by unfold coN;rw [if_neg h]
end Go.Proofs.YtkdggbfknlcdaaaGreat
namespace Go.Proofs.YtkdggbfknlcdaaaGreat
open Go Go.Eng Go.Proofs Go.Eng.Dif Go.Eng.Few
set_option maxRecDepth 10000
theorem us1 (d:Dsp)(n:Int)(h:¬coE d n=0):ua0 Tryz.prog 20 [(ub5 d),(iv fun _=>n)] [] (fun r _=>r=(.tup [(.sl 1 (.sym fun _=>coN d n) (fun ix=>[(iv fun _=>ukr d n ix.den.toNat)])),(iv fun _=>coE d n)])):=by
 have c16:=ubB d
 have c43:= @ucW
 have c33:=ulK d
 refine ua0.is fun R hR=>qW (sc:=uxF) uaj mix Tryz.func20 rfl Tryz.call20 (by kernel_rfl) (by kernel_rfl) ?_
 generalize Tryz.prog=P at c16 c43 c33⊢
 cbv
 repeat' (first|with_reducible refine ua4 ?_ ?_|with_reducible refine And.intro ?_ ?_|(with_reducible intro hcd;(try simp only [zA,zB,zC,zD,zE,zF,zG,zH,zI,zJ,zK,zL,zM,zN,zO,zP]at hcd);try cbv)|(refine qP ?_ (c16) ?hfit;(case hfit=>((repeat' (first|exact qB|refine qD ?_ ?_|exact qE (by rfl)|exact qF (by rfl)|exact Fit.refl _|exact qA|refine qC ?_ rfl ?_));done));try cbv)|(refine qP ?_ (c43 _ _ _) (by(repeat' (first|exact qB|refine qD ?_ ?_|exact qE (by rfl)|exact qF (by rfl)|exact Fit.refl _|exact qA|refine qC ?_ rfl ?_)));try cbv)|(refine qP ?_ (c33) ?hfit;(case hfit=>((repeat' (first|exact qB|refine qD ?_ ?_|exact qE (by rfl)|exact qF (by rfl)|exact Fit.refl _|exact qA|refine qC ?_ rfl ?_));done));try cbv)|fail)
 all_goals first|(subst hR;((try simp only [qV]at *);(try simp only [zQ,zA,zB,zC,zD,zE,zF,zG,zH,zI,zJ,zK,zL,zM,zN,zO,zP,zR,zS]at *);(try simp only [uag,uai,uax,uaO,uaK,uaN,ua9,uaa,ua8,uab]at *);(exact qD (qO (uoy h)) (qD (qE (uqh (d:=d) (n:=n) (by first|assumption|omega)).1.symm) qB)));done)|(subst hR;((try simp only [qV]at *);(try simp only [zQ,zA,zB,zC,zD,zE,zF,zG,zH,zI,zJ,zK,zL,zM,zN,zO,zP,zR,zS]at *);(try simp only [uag,uai,uax,uaO,uaK,uaN,ua9,uaa,ua8,uab]at *);(exact qD (qO (uoy h)) (qD (qE (utr (d:=d) (n:=n) (by first|assumption|omega) (by unfold uod;omega)).1.symm) qB)));done)|(subst hR;((try simp only [qV]at *);(try simp only [zQ,zA,zB,zC,zD,zE,zF,zG,zH,zI,zJ,zK,zL,zM,zN,zO,zP,zR,zS]at *);(try simp only [uag,uai,uax,uaO,uaK,uaN,ua9,uaa,ua8,uab]at *);(exact qD (qO (uoy h)) (qD (qE (umD (d:=d) (n:=n) (by first|assumption|omega) (by unfold uod;omega) (by first|assumption|omega)).1.symm) qB)));done)|(exfalso;(try simp only [qV]at *);(try simp only [zQ,zA,zB,zC,zD,zE,zF,zG,zH,zI,zJ,zK,zL,zM,zN,zO,zP,zR,zS]at *);(try simp only [uag,uai,uax,uaO,uaK,uaN,ua9,uaa,ua8,uab]at *);exact h (ugK (by first|assumption|omega) (by unfold uod;omega) (by first|assumption|omega)).1)|skip
theorem usF {f:Nat→Int} {p i a:Nat}(ha:a=p)(h:i=p):f a+1=uid f p (f p+1) i:=by
 subst ha
 exact ufB h
set_option maxHeartbeats 2000000 in
theorem urS (d:Dsp)(n:Int)(h:coE d n=0)(he:uhv d=[]):ua0 Tryz.prog 20 [(ub5 d),(iv fun _=>n)] [] (fun r _=>r=(.tup [(.sl 1 (.sym fun _=>coN d n) (fun ix=>[(iv fun _=>ukr d n ix.den.toNat)])),(iv fun _=>coE d n)])):=by
 have c16:=ubB d
 have c43:= @ucW
 have hf:=(uhK h).1
 have hn0:=(uhK h).2.1
 have hn1:=(uhK h).2.2
 have hF:=(uaF hf).1
 have p1:=(ua2.1 hF).p1
 have p4:=(ua2.1 hF).p4
 have hco:=ugK (n:=n) hF (show uod n from⟨hn0,hn1⟩) hf
 have hbl:=uoQ hf
 have hb0:=(upG hf).2
 have hbe:=fun (k:Nat) (hk:k<(ufj d).length)=>usC hf hk
 have hend:∀{k:Nat},k=(ufj d).length→∀p,ucm n.toNat (ufj d) (ufj d).length k p=ukr d n p:=fun hk p=>by subst hk;rfl
 have c33:=uri d hf he
 have hbn:=uu0 he
 obtain⟨Lb,hLb⟩:∃L,L=ufj d:=⟨_,rfl⟩
 rw [←hLb]at hbl hb0 hbe hend hbn
 clear hLb
 refine ua0.is fun R hR=>qW (sc:=uxF) uaj mix Tryz.func20 rfl Tryz.call20 (by kernel_rfl) (by kernel_rfl) ?_
 generalize Tryz.prog=P at c16 c43 c33⊢
 cbv
 repeat' (first|with_reducible refine And.intro ?_ ?_|(with_reducible intro hcd;(try simp only [zA,zB,zC,zD,zE,zF,zG,zH,zI,zJ,zK,zL,zM,zN,zO,zP]at hcd);try cbv)|(refine qP ?_ (c16) ?hfit;(case hfit=>((repeat' (first|exact qB|refine qD ?_ ?_|exact qE (by rfl)|exact qF (by rfl)|exact Fit.refl _|exact qA|refine qC ?_ rfl ?_));done));try cbv)|(refine qP ?_ (c43 _ _ _) (by(repeat' (first|exact qB|refine qD ?_ ?_|exact qE (by rfl)|exact qF (by rfl)|exact Fit.refl _|exact qA|refine qC ?_ rfl ?_)));try cbv)|(refine qP ?_ (c33) ?hfit;(case hfit=>((repeat' (first|exact qB|refine qD ?_ ?_|exact qE (by rfl)|exact qF (by rfl)|exact Fit.refl _|exact qA|refine qC ?_ rfl ?_));done));try cbv)|fail)
 all_goals first|trivial|(exfalso;(try simp only [qV]at *);(try simp only [zQ,zA,zB,zC,zD,zE,zF,zG,zH,zI,zJ,zK,zL,zM,zN,zO,zP,zR,zS]at *);(try simp only [uag,uai,uax,uaO,uaK,uaN,ua9,uaa,ua8,uab]at *);omega)|skip
 refine⟨none,[⟨.tmp 7,3,1⟩],{k:Nat // k≤d.pn.toNat},fun x=>⟨[(1,(iv fun _=>n)),(2,.own 0 0),(7,.row 28),(35,(iv fun _=>d.pn)),(36,(iv fun _=>zi x.1))],[(0,.cells [(iS d.tw),(iS d.tm),(.sl 1 (.sym fun _=>zi (d.tv).length) (fun ix=>[(.sl 1 (.sym fun _=>zi ((d.tv).getD ix.den.toNat []).length) (fun jx=>[(iv fun _=>((d.tv).getD ix.den.toNat []).getD jx.den.toNat 0)]))])),(iv fun _=>d.sn),(iv fun _=>d.pn),(.sl 4 (.sym fun _=>zi (d.ls).length) (fun ix=>[(iv fun _=>((d.ls).getD ix.den.toNat l0T).a),(iv fun _=>((d.ls).getD ix.den.toNat l0T).b),(iv fun _=>((d.ls).getD ix.den.toNat l0T).lo),(iv fun _=>((d.ls).getD ix.den.toNat l0T).hi)])),(.sl 6 (.sym fun _=>zi (d.fs).length) (fun ix=>[(iv fun _=>((d.fs).getD ix.den.toNat f0T).p),(iv fun _=>((d.fs).getD ix.den.toNat f0T).s),(iv fun _=>((d.fs).getD ix.den.toNat f0T).wl),(iv fun _=>((d.fs).getD ix.den.toNat f0T).wh),(iv fun _=>((d.fs).getD ix.den.toNat f0T).ml),(iv fun _=>((d.fs).getD ix.den.toNat f0T).mh)]))] 39),(28,.row 3 1 (.sym fun _=>zi ((ub0 x.1)).length) (fun ix=>[(iv fun _=>((ub0 x.1)).getD ix.den.toNat 0)]))],100⟩,fun x=>d.pn.toNat-x.1,?_,?_⟩
 ·refine⟨⟨0,by omega⟩,?_⟩
  cbv
  repeat' (first|with_reducible refine ua4 ?_ ?_|with_reducible refine And.intro ?_ ?_)
  all_goals first|trivial|exact qM (qE (by rfl))|exact qM (Fit.refl _)|exact qL (qK _)|(refine qL (uae ?_ ?_);(first|rfl|((try simp only [qV]at *);(try simp only [zQ,zA,zB,zC,zD,zE,zF,zG,zH,zI,zJ,zK,zL,zM,zN,zO,zP,zR,zS]at *);omega));intro ix h0 h1;exfalso;(try simp only [qV]at *);(try simp only [zQ,zA,zB,zC,zD,zE,zF,zG,zH,zI,zJ,zK,zL,zM,zN,zO,zP,zR,zS]at *);omega)|skip
 ·rintro ⟨k,hk⟩
  cbv
  have hlen:=uit k
  obtain⟨M,hM⟩:∃M,M=ub0 k:=⟨_,rfl⟩
  have hx0:=uwj k
  rw [←hM]at hlen hx0⊢
  cbv
  repeat' (first
   |with_reducible refine ua4 ?_ ?_
   |with_reducible refine And.intro ?_ ?_
   |(with_reducible intro hcd;(try simp only [zA,zB,zC,zD,zE,zF,zG,zH,zI,zJ,zK,zL,zM,zN,zO,zP]at hcd);try cbv)
   | (obtain⟨L2,eL2⟩:∃y:List Int,y=M++[zi k]:=⟨_,rfl⟩
      refine⟨uev L2,?_⟩
      cbv
      refine ua4 (uaq (L:=M) eL2 (by(first|rfl|((try simp only [qV]at *);(try simp only [zQ,zA,zB,zC,zD,zE,zF,zG,zH,zI,zJ,zK,zL,zM,zN,zO,zP,zR,zS]at *);done)|((try simp only [qV]at *);(try simp only [zQ,zA,zB,zC,zD,zE,zF,zG,zH,zI,zJ,zK,zL,zM,zN,zO,zP,zR,zS]at *);omega))) (by rfl) (fun ix=>Fit.refl _) (fun ix h=>qC (qE (by rfl)) rfl qA) (by(try simp only [qV]at *);(try simp only [zQ,zA,zB,zC,zD,zE,zF,zG,zH,zI,zJ,zK,zL,zM,zN,zO,zP,zR,zS]at *);omega)) (Or.inl ?_)
      try cbv)
   |fail)
  all_goals first|((try simp only [qV]at *);(try simp only [zQ,zA,zB,zC,zD,zE,zF,zG,zH,zI,zJ,zK,zL,zM,zN,zO,zP,zR,zS]at *);first|(refine qN ?_;omega)|(simp only [uam];omega))|(unfold uam;exact⟨show(0:Int)≤d.pn by omega,rfl,show d.pn*((1:Nat):Int)≤16777216 by omega,show d.pn*((8:Nat):Int)≤16777216 by omega,show d.pn≤16777216 by omega⟩)|((try simp only [zQ,zA,zB,zC,zD,zE,zF,zG,zH,zI,zJ,zK,zL,zM,zN,zO,zP,zR,zS]at *);(have hx:ub0 (k+1)=L2:=hx0.trans eL2.symm);refine⟨⟨k+1,by((try simp only [qV]at *);(try simp only [zQ,zA,zB,zC,zD,zE,zF,zG,zH,zI,zJ,zK,zL,zM,zN,zO,zP,zR,zS]at *);omega)⟩,by simp only [];omega,?_⟩;cbv;(repeat' (first|with_reducible refine ua4 ?_ ?_|with_reducible refine And.intro ?_ ?_));(all_goals first|trivial|exact qM (qE (by rfl))|exact qM (qF (by rfl))|exact qM (Fit.refl _)|exact qL (qK _)|(refine qM (qE ?_);(try simp only [qV]at *);simp only [zQ,zA,zB,zC,zD,zE,zF,zG,zH,zI,zJ,zK,zL,zM,zN,zO,zP,zR,zS]at *;omega)|(refine qL (qJ ?_);(repeat' (first|exact qA|exact qB|refine qC ?_ rfl ?_|refine qD ?_ ?_|exact qE (by rfl)|exact qF (by rfl)|exact Fit.refl _|exact qG _|(refine qE ?_;(try simp only [qV]at *);simp only [zQ,zA,zB,zC,zD,zE,zF,zG,zH,zI,zJ,zK,zL,zM,zN,zO,zP,zR,zS]at *;omega)));done)|(simp only [hx];first|exact qL (qK _)|(refine qL (uae ?_ ?_)<;>first|rfl|(rw [eL2,List.length_append];rfl)|((try simp only [qV]at *);(try simp only [zQ,zA,zB,zC,zD,zE,zF,zG,zH,zI,zJ,zK,zL,zM,zN,zO,zP,zR,zS]at *);(try simp only [eL2,List.length_append,List.length_cons,List.length_nil]at *);omega)|(intro ix h0 h1;exact Fit.refl _)))|skip))|skip
  have hkP:k=d.pn.toNat:=(by((try simp only [qV]at *);(try simp only [zQ,zA,zB,zC,zD,zE,zF,zG,zH,zI,zJ,zK,zL,zM,zN,zO,zP,zR,zS]at *);omega))
  have hML:M=Lb:=by rw [hM,hkP,←hbn]
  rw [hML]
  refine⟨none,[],{k:Nat // k≤Lb.length},fun x=>⟨[(1,(iv fun _=>n)),(7,.row 28),(11,.row 103),(47,.row 28),(48,(iv fun _=>zi Lb.length)),(49,(iv fun _=>zi x.1))],[(0,.cells [(iS d.tw),(iS d.tm),(.sl 1 (.sym fun _=>zi (d.tv).length) (fun ix=>[(.sl 1 (.sym fun _=>zi ((d.tv).getD ix.den.toNat []).length) (fun jx=>[(iv fun _=>((d.tv).getD ix.den.toNat []).getD jx.den.toNat 0)]))])),(iv fun _=>d.sn),(iv fun _=>d.pn),(.sl 4 (.sym fun _=>zi (d.ls).length) (fun ix=>[(iv fun _=>((d.ls).getD ix.den.toNat l0T).a),(iv fun _=>((d.ls).getD ix.den.toNat l0T).b),(iv fun _=>((d.ls).getD ix.den.toNat l0T).lo),(iv fun _=>((d.ls).getD ix.den.toNat l0T).hi)])),(.sl 6 (.sym fun _=>zi (d.fs).length) (fun ix=>[(iv fun _=>((d.fs).getD ix.den.toNat f0T).p),(iv fun _=>((d.fs).getD ix.den.toNat f0T).s),(iv fun _=>((d.fs).getD ix.den.toNat f0T).wl),(iv fun _=>((d.fs).getD ix.den.toNat f0T).wh),(iv fun _=>((d.fs).getD ix.den.toNat f0T).ml),(iv fun _=>((d.fs).getD ix.den.toNat f0T).mh)]))] 39),(28,.row 3 1 (.sym fun _=>zi (Lb).length) (fun ix=>[(iv fun _=>(Lb).getD ix.den.toNat 0)])),(103,.row 3 1 (.sym fun _=>d.pn) (fun ix=>[(iv fun _=>(ucm n.toNat Lb Lb.length x.1) ix.den.toNat)]))],300⟩,fun x=>Lb.length-x.1,?_,?_⟩
  ·refine⟨⟨0,by omega⟩,?_⟩
   cbv
   repeat' (first|with_reducible refine ua4 ?_ ?_|with_reducible refine And.intro ?_ ?_)
   all_goals first|trivial|exact qM (qE (by rfl))|exact qM (Fit.refl _)|exact qL (qK _)|(refine qL (uae ?_ ?_)<;>first|rfl|((try simp only [qV]at *);(try simp only [zQ,zA,zB,zC,zD,zE,zF,zG,zH,zI,zJ,zK,zL,zM,zN,zO,zP,zR,zS]at *);omega)|(intro ix h0 h1;first|exact Fit.refl _|exact qC (qE rfl) rfl qA))|skip
  ·rintro ⟨k,hk⟩
   cbv
   repeat' (first
    |with_reducible refine ua4 ?_ ?_
    |with_reducible refine And.intro ?_ ?_
    |(with_reducible refine qS ?_ ?_ ?_;try cbv)
    |(with_reducible refine qT ?_ ?_;try cbv)
    |(with_reducible intro hcd;(try simp only [zA,zB,zC,zD,zE,zF,zG,zH,zI,zJ,zK,zL,zM,zN,zO,zP]at hcd);try cbv)
    | ((have hk9:=hbe k (by((try simp only [qV]at *);(try simp only [zQ,zA,zB,zC,zD,zE,zF,zG,zH,zI,zJ,zK,zL,zM,zN,zO,zP,zR,zS]at *);omega)))
       refine⟨fun ix=>[(iv fun _=>(uid (ucm n.toNat Lb Lb.length k) (Lb.getD k 0).toNat (n.tdiv (zi Lb.length))) ix.den.toNat)],?_⟩
       cbv
       refine ua4 (udo (o2:=0) (x:=[_]) (by((try simp only [qV]at *);(try simp only [zQ,zA,zB,zC,zD,zE,zF,zG,zH,zI,zJ,zK,zL,zM,zN,zO,zP,zR,zS]at *);omega)) (by intro jx h0 h1 h2;refine qC (qE ?_) rfl qA;(try simp only [qV]at *);(try simp only [zQ,zA,zB,zC,zD,zE,zF,zG,zH,zI,zJ,zK,zL,zM,zN,zO,zP,zR,zS]at *);exact uiE (by omega)) (by intro jx h0 h1 h2;refine⟨_,rfl,qC (qE ?_) rfl qA⟩;(try simp only [qV]at *);(try simp only [zQ,zA,zB,zC,zD,zE,zF,zG,zH,zI,zJ,zK,zL,zM,zN,zO,zP,zR,zS]at *);exact ufB (by omega))) ?_
       try cbv)
    | ((have hk9:=hbe k (by((try simp only [qV]at *);(try simp only [zQ,zA,zB,zC,zD,zE,zF,zG,zH,zI,zJ,zK,zL,zM,zN,zO,zP,zR,zS]at *);omega)))
       refine⟨fun ix=>[(iv fun _=>(uid (uid (ucm n.toNat Lb Lb.length k) (Lb.getD k 0).toNat (n.tdiv (zi Lb.length))) (Lb.getD k 0).toNat ((uid (ucm n.toNat Lb Lb.length k) (Lb.getD k 0).toNat (n.tdiv (zi Lb.length))) (Lb.getD k 0).toNat+1)) ix.den.toNat)],?_⟩
       cbv
       refine ua4 (udo (o2:=0) (x:=[_]) (by((try simp only [qV]at *);(try simp only [zQ,zA,zB,zC,zD,zE,zF,zG,zH,zI,zJ,zK,zL,zM,zN,zO,zP,zR,zS]at *);omega)) (by intro jx h0 h1 h2;refine qC (qE ?_) rfl qA;(try simp only [qV]at *);(try simp only [zQ,zA,zB,zC,zD,zE,zF,zG,zH,zI,zJ,zK,zL,zM,zN,zO,zP,zR,zS]at *);exact uiE (by omega)) (by intro jx h0 h1 h2;refine⟨_,rfl,qC (qE ?_) rfl qA⟩;(try simp only [qV]at *);(try simp only [zQ,zA,zB,zC,zD,zE,zF,zG,zH,zI,zJ,zK,zL,zM,zN,zO,zP,zR,zS]at *);exact usF (by omega) (by omega))) ?_
       try cbv)
    |fail)
   all_goals first|trivial|((try simp only [qV]at *);(try simp only [zQ,zA,zB,zC,zD,zE,zF,zG,zH,zI,zJ,zK,zL,zM,zN,zO,zP,zR,zS]at *);first|(refine qN ?_;omega)|(simp only [uam];omega))|((have hk9:=hbe k (by((try simp only [qV]at *);(try simp only [zQ,zA,zB,zC,zD,zE,zF,zG,zH,zI,zJ,zK,zL,zM,zN,zO,zP,zR,zS]at *);omega)));(try simp only [qV]at *);(try simp only [zQ,zA,zB,zC,zD,zE,zF,zG,zH,zI,zJ,zK,zL,zM,zN,zO,zP,zR,zS]at *);simp only [uam];first|omega|exact⟨by omega,by omega⟩)|((have hk9:=hbe k (by((try simp only [qV]at *);(try simp only [zQ,zA,zB,zC,zD,zE,zF,zG,zH,zI,zJ,zK,zL,zM,zN,zO,zP,zR,zS]at *);omega)));(have hq9:=utb (m:=Lb.length) hn0 hn1);(try simp only [qV]at *);(try simp only [zQ,zA,zB,zC,zD,zE,zF,zG,zH,zI,zJ,zK,zL,zM,zN,zO,zP,zR,zS]at *);first|(refine qN ?_;omega)|(rw [←ufB (by omega)];refine qN ?_;omega))|((have hke:k=Lb.length:=(by((try simp only [qV]at *);(try simp only [zQ,zA,zB,zC,zD,zE,zF,zG,zH,zI,zJ,zK,zL,zM,zN,zO,zP,zR,zS]at *);omega)));subst hR;exact qD (ua1 hco.2.symm (fun ix h0 h1=>qC (qE (hend hke _)) rfl qA)) (qD (qE hco.1.symm) qB))|((try simp only [zQ,zA,zB,zC,zD,zE,zF,zG,zH,zI,zJ,zK,zL,zM,zN,zO,zP,zR,zS]at *);(have hk9:=hbe k (by((try simp only [qV]at *);(try simp only [zQ,zA,zB,zC,zD,zE,zF,zG,zH,zI,zJ,zK,zL,zM,zN,zO,zP,zR,zS]at *);omega)));(have hlo:¬(k:Int)<n.tmod (Lb.length:Int):=hcd);refine⟨⟨k+1,by((try simp only [qV]at *);(try simp only [zQ,zA,zB,zC,zD,zE,zF,zG,zH,zI,zJ,zK,zL,zM,zN,zO,zP,zR,zS]at *);omega)⟩,by simp only [];omega,?_⟩;cbv;(repeat' (first|with_reducible refine ua4 ?_ ?_|with_reducible refine And.intro ?_ ?_));(all_goals first|trivial|exact qM (qE (by rfl))|exact qM (qF (by rfl))|exact qM (Fit.refl _)|exact qL (qK _)|(refine qM (qE ?_);(try simp only [qV]at *);simp only [zQ,zA,zB,zC,zD,zE,zF,zG,zH,zI,zJ,zK,zL,zM,zN,zO,zP,zR,zS]at *;omega)|(refine qL (qJ ?_);(repeat' (first|exact qA|exact qB|refine qC ?_ rfl ?_|refine qD ?_ ?_|exact qE (by rfl)|exact qF (by rfl)|exact Fit.refl _|exact qG _|(refine qE ?_;(try simp only [qV]at *);simp only [zQ,zA,zB,zC,zD,zE,zF,zG,zH,zI,zJ,zK,zL,zM,zN,zO,zP,zR,zS]at *;omega)));done)|(refine qL (uae ?_ ?_)<;>first|rfl|(intro ix h0 h1;first|exact Fit.refl _|exact qC (qE (uiy hn0 hk9.1 hlo)) rfl qA|exact qC (qE (uiO hn0 hk9.1 hhi rfl)) rfl qA))|skip))|((try simp only [zQ,zA,zB,zC,zD,zE,zF,zG,zH,zI,zJ,zK,zL,zM,zN,zO,zP,zR,zS]at *);(have hk9:=hbe k (by((try simp only [qV]at *);(try simp only [zQ,zA,zB,zC,zD,zE,zF,zG,zH,zI,zJ,zK,zL,zM,zN,zO,zP,zR,zS]at *);omega)));(have hhi:(k:Int)<n.tmod (Lb.length:Int):=hcd);refine⟨⟨k+1,by((try simp only [qV]at *);(try simp only [zQ,zA,zB,zC,zD,zE,zF,zG,zH,zI,zJ,zK,zL,zM,zN,zO,zP,zR,zS]at *);omega)⟩,by simp only [];omega,?_⟩;cbv;(repeat' (first|with_reducible refine ua4 ?_ ?_|with_reducible refine And.intro ?_ ?_));(all_goals first|trivial|exact qM (qE (by rfl))|exact qM (qF (by rfl))|exact qM (Fit.refl _)|exact qL (qK _)|(refine qM (qE ?_);(try simp only [qV]at *);simp only [zQ,zA,zB,zC,zD,zE,zF,zG,zH,zI,zJ,zK,zL,zM,zN,zO,zP,zR,zS]at *;omega)|(refine qL (qJ ?_);(repeat' (first|exact qA|exact qB|refine qC ?_ rfl ?_|refine qD ?_ ?_|exact qE (by rfl)|exact qF (by rfl)|exact Fit.refl _|exact qG _|(refine qE ?_;(try simp only [qV]at *);simp only [zQ,zA,zB,zC,zD,zE,zF,zG,zH,zI,zJ,zK,zL,zM,zN,zO,zP,zR,zS]at *;omega)));done)|(refine qL (uae ?_ ?_)<;>first|rfl|(intro ix h0 h1;first|exact Fit.refl _|exact qC (qE (uiy hn0 hk9.1 hlo)) rfl qA|exact qC (qE (uiO hn0 hk9.1 hhi rfl)) rfl qA))|skip))|skip
set_option maxHeartbeats 2000000 in
theorem urP (d:Dsp)(n:Int)(h:coE d n=0)(he:uhv d≠[]):ua0 Tryz.prog 20 [(ub5 d),(iv fun _=>n)] [] (fun r _=>r=(.tup [(.sl 1 (.sym fun _=>coN d n) (fun ix=>[(iv fun _=>ukr d n ix.den.toNat)])),(iv fun _=>coE d n)])):=by
 have c16:=ubB d
 have c43:= @ucW
 have hf:=(uhK h).1
 have hn0:=(uhK h).2.1
 have hn1:=(uhK h).2.2
 have hF:=(uaF hf).1
 have p1:=(ua2.1 hF).p1
 have p4:=(ua2.1 hF).p4
 have hco:=ugK (n:=n) hF (show uod n from⟨hn0,hn1⟩) hf
 have hbl:=uoQ hf
 have hb0:=(upG hf).2
 have hbe:=fun (k:Nat) (hk:k<(ufj d).length)=>usC hf hk
 have hend:∀{k:Nat},k=(ufj d).length→∀p,ucm n.toNat (ufj d) (ufj d).length k p=ukr d n p:=fun hk p=>by subst hk;rfl
 have c33:=ulK d
 have hbn:=ux8 he
 rw [←hbn]at c33
 obtain⟨Lb,hLb⟩:∃L,L=ufj d:=⟨_,rfl⟩
 rw [←hLb]at hbl hb0 hbe hend c33
 clear hLb hbn
 refine ua0.is fun R hR=>qW (sc:=uxF) uaj mix Tryz.func20 rfl Tryz.call20 (by kernel_rfl) (by kernel_rfl) ?_
 generalize Tryz.prog=P at c16 c43 c33⊢
 cbv
 repeat' (first|with_reducible refine ua4 ?_ ?_|with_reducible refine And.intro ?_ ?_|(with_reducible intro hcd;(try simp only [zA,zB,zC,zD,zE,zF,zG,zH,zI,zJ,zK,zL,zM,zN,zO,zP]at hcd);try cbv)|(refine qP ?_ (c16) ?hfit;(case hfit=>((repeat' (first|exact qB|refine qD ?_ ?_|exact qE (by rfl)|exact qF (by rfl)|exact Fit.refl _|exact qA|refine qC ?_ rfl ?_));done));try cbv)|(refine qP ?_ (c43 _ _ _) (by(repeat' (first|exact qB|refine qD ?_ ?_|exact qE (by rfl)|exact qF (by rfl)|exact Fit.refl _|exact qA|refine qC ?_ rfl ?_)));try cbv)|(refine qP ?_ (c33) ?hfit;(case hfit=>((repeat' (first|exact qB|refine qD ?_ ?_|exact qE (by rfl)|exact qF (by rfl)|exact Fit.refl _|exact qA|refine qC ?_ rfl ?_));done));try cbv)|fail)
 all_goals first|trivial|(unfold uam;exact⟨show(0:Int)≤d.pn by omega,rfl,show d.pn*((1:Nat):Int)≤16777216 by omega,show d.pn*((8:Nat):Int)≤16777216 by omega,show d.pn≤16777216 by omega⟩)|(exfalso;(try simp only [qV]at *);(try simp only [zQ,zA,zB,zC,zD,zE,zF,zG,zH,zI,zJ,zK,zL,zM,zN,zO,zP,zR,zS]at *);omega)|(exfalso;(try simp only [qV]at *);(try simp only [zQ,zA,zB,zC,zD,zE,zF,zG,zH,zI,zJ,zK,zL,zM,zN,zO,zP,zR,zS]at *);(try simp only [uag,uai,uax,uaO,uaK,uaN,ua9,uaa,ua8,uab]at *);omega)|skip
 refine⟨none,[],{k:Nat // k≤Lb.length},fun x=>⟨[(1,(iv fun _=>n)),(7,(iS Lb)),(11,.row 27),(47,(iS Lb)),(48,(iv fun _=>zi Lb.length)),(49,(iv fun _=>zi x.1))],[(0,.cells [(iS d.tw),(iS d.tm),(.sl 1 (.sym fun _=>zi (d.tv).length) (fun ix=>[(.sl 1 (.sym fun _=>zi ((d.tv).getD ix.den.toNat []).length) (fun jx=>[(iv fun _=>((d.tv).getD ix.den.toNat []).getD jx.den.toNat 0)]))])),(iv fun _=>d.sn),(iv fun _=>d.pn),(.sl 4 (.sym fun _=>zi (d.ls).length) (fun ix=>[(iv fun _=>((d.ls).getD ix.den.toNat l0T).a),(iv fun _=>((d.ls).getD ix.den.toNat l0T).b),(iv fun _=>((d.ls).getD ix.den.toNat l0T).lo),(iv fun _=>((d.ls).getD ix.den.toNat l0T).hi)])),(.sl 6 (.sym fun _=>zi (d.fs).length) (fun ix=>[(iv fun _=>((d.fs).getD ix.den.toNat f0T).p),(iv fun _=>((d.fs).getD ix.den.toNat f0T).s),(iv fun _=>((d.fs).getD ix.den.toNat f0T).wl),(iv fun _=>((d.fs).getD ix.den.toNat f0T).wh),(iv fun _=>((d.fs).getD ix.den.toNat f0T).ml),(iv fun _=>((d.fs).getD ix.den.toNat f0T).mh)]))] 39),(27,.row 3 1 (.sym fun _=>d.pn) (fun ix=>[(iv fun _=>(ucm n.toNat Lb Lb.length x.1) ix.den.toNat)]))],300⟩,fun x=>Lb.length-x.1,?_,?_⟩
 ·refine⟨⟨0,by omega⟩,?_⟩
  cbv
  repeat' (first|with_reducible refine ua4 ?_ ?_|with_reducible refine And.intro ?_ ?_)
  all_goals first|trivial|exact qM (qE (by rfl))|exact qM (Fit.refl _)|exact qL (qK _)|(refine qL (uae ?_ ?_)<;>first|rfl|((try simp only [qV]at *);(try simp only [zQ,zA,zB,zC,zD,zE,zF,zG,zH,zI,zJ,zK,zL,zM,zN,zO,zP,zR,zS]at *);omega)|(intro ix h0 h1;first|exact Fit.refl _|exact qC (qE rfl) rfl qA))|skip
 ·rintro ⟨k,hk⟩
  cbv
  repeat' (first
   |with_reducible refine ua4 ?_ ?_
   |with_reducible refine And.intro ?_ ?_
   |(with_reducible refine qS ?_ ?_ ?_;try cbv)
   |(with_reducible refine qT ?_ ?_;try cbv)
   |(with_reducible intro hcd;(try simp only [zA,zB,zC,zD,zE,zF,zG,zH,zI,zJ,zK,zL,zM,zN,zO,zP]at hcd);try cbv)
   | ((have hk9:=hbe k (by((try simp only [qV]at *);(try simp only [zQ,zA,zB,zC,zD,zE,zF,zG,zH,zI,zJ,zK,zL,zM,zN,zO,zP,zR,zS]at *);omega)))
      refine⟨fun ix=>[(iv fun _=>(uid (ucm n.toNat Lb Lb.length k) (Lb.getD k 0).toNat (n.tdiv (zi Lb.length))) ix.den.toNat)],?_⟩
      cbv
      refine ua4 (udo (o2:=0) (x:=[_]) (by((try simp only [qV]at *);(try simp only [zQ,zA,zB,zC,zD,zE,zF,zG,zH,zI,zJ,zK,zL,zM,zN,zO,zP,zR,zS]at *);omega)) (by intro jx h0 h1 h2;refine qC (qE ?_) rfl qA;(try simp only [qV]at *);(try simp only [zQ,zA,zB,zC,zD,zE,zF,zG,zH,zI,zJ,zK,zL,zM,zN,zO,zP,zR,zS]at *);exact uiE (by omega)) (by intro jx h0 h1 h2;refine⟨_,rfl,qC (qE ?_) rfl qA⟩;(try simp only [qV]at *);(try simp only [zQ,zA,zB,zC,zD,zE,zF,zG,zH,zI,zJ,zK,zL,zM,zN,zO,zP,zR,zS]at *);exact ufB (by omega))) ?_
      try cbv)
   | ((have hk9:=hbe k (by((try simp only [qV]at *);(try simp only [zQ,zA,zB,zC,zD,zE,zF,zG,zH,zI,zJ,zK,zL,zM,zN,zO,zP,zR,zS]at *);omega)))
      refine⟨fun ix=>[(iv fun _=>(uid (uid (ucm n.toNat Lb Lb.length k) (Lb.getD k 0).toNat (n.tdiv (zi Lb.length))) (Lb.getD k 0).toNat ((uid (ucm n.toNat Lb Lb.length k) (Lb.getD k 0).toNat (n.tdiv (zi Lb.length))) (Lb.getD k 0).toNat+1)) ix.den.toNat)],?_⟩
      cbv
      refine ua4 (udo (o2:=0) (x:=[_]) (by((try simp only [qV]at *);(try simp only [zQ,zA,zB,zC,zD,zE,zF,zG,zH,zI,zJ,zK,zL,zM,zN,zO,zP,zR,zS]at *);omega)) (by intro jx h0 h1 h2;refine qC (qE ?_) rfl qA;(try simp only [qV]at *);(try simp only [zQ,zA,zB,zC,zD,zE,zF,zG,zH,zI,zJ,zK,zL,zM,zN,zO,zP,zR,zS]at *);exact uiE (by omega)) (by intro jx h0 h1 h2;refine⟨_,rfl,qC (qE ?_) rfl qA⟩;(try simp only [qV]at *);(try simp only [zQ,zA,zB,zC,zD,zE,zF,zG,zH,zI,zJ,zK,zL,zM,zN,zO,zP,zR,zS]at *);exact usF (by omega) (by omega))) ?_
      try cbv)
   |fail)
  all_goals first|trivial|((try simp only [qV]at *);(try simp only [zQ,zA,zB,zC,zD,zE,zF,zG,zH,zI,zJ,zK,zL,zM,zN,zO,zP,zR,zS]at *);first|(refine qN ?_;omega)|(simp only [uam];omega))|((have hk9:=hbe k (by((try simp only [qV]at *);(try simp only [zQ,zA,zB,zC,zD,zE,zF,zG,zH,zI,zJ,zK,zL,zM,zN,zO,zP,zR,zS]at *);omega)));(try simp only [qV]at *);(try simp only [zQ,zA,zB,zC,zD,zE,zF,zG,zH,zI,zJ,zK,zL,zM,zN,zO,zP,zR,zS]at *);simp only [uam];first|omega|exact⟨by omega,by omega⟩)|((have hk9:=hbe k (by((try simp only [qV]at *);(try simp only [zQ,zA,zB,zC,zD,zE,zF,zG,zH,zI,zJ,zK,zL,zM,zN,zO,zP,zR,zS]at *);omega)));(have hq9:=utb (m:=Lb.length) hn0 hn1);(try simp only [qV]at *);(try simp only [zQ,zA,zB,zC,zD,zE,zF,zG,zH,zI,zJ,zK,zL,zM,zN,zO,zP,zR,zS]at *);first|(refine qN ?_;omega)|(rw [←ufB (by omega)];refine qN ?_;omega))|((have hke:k=Lb.length:=(by((try simp only [qV]at *);(try simp only [zQ,zA,zB,zC,zD,zE,zF,zG,zH,zI,zJ,zK,zL,zM,zN,zO,zP,zR,zS]at *);omega)));subst hR;exact qD (ua1 hco.2.symm (fun ix h0 h1=>qC (qE (hend hke _)) rfl qA)) (qD (qE hco.1.symm) qB))|((try simp only [zQ,zA,zB,zC,zD,zE,zF,zG,zH,zI,zJ,zK,zL,zM,zN,zO,zP,zR,zS]at *);(have hk9:=hbe k (by((try simp only [qV]at *);(try simp only [zQ,zA,zB,zC,zD,zE,zF,zG,zH,zI,zJ,zK,zL,zM,zN,zO,zP,zR,zS]at *);omega)));(have hlo:¬(k:Int)<n.tmod (Lb.length:Int):=hcd);refine⟨⟨k+1,by((try simp only [qV]at *);(try simp only [zQ,zA,zB,zC,zD,zE,zF,zG,zH,zI,zJ,zK,zL,zM,zN,zO,zP,zR,zS]at *);omega)⟩,by simp only [];omega,?_⟩;cbv;(repeat' (first|with_reducible refine ua4 ?_ ?_|with_reducible refine And.intro ?_ ?_));(all_goals first|trivial|exact qM (qE (by rfl))|exact qM (qF (by rfl))|exact qM (Fit.refl _)|exact qL (qK _)|(refine qM (qE ?_);(try simp only [qV]at *);simp only [zQ,zA,zB,zC,zD,zE,zF,zG,zH,zI,zJ,zK,zL,zM,zN,zO,zP,zR,zS]at *;omega)|(refine qL (qJ ?_);(repeat' (first|exact qA|exact qB|refine qC ?_ rfl ?_|refine qD ?_ ?_|exact qE (by rfl)|exact qF (by rfl)|exact Fit.refl _|exact qG _|(refine qE ?_;(try simp only [qV]at *);simp only [zQ,zA,zB,zC,zD,zE,zF,zG,zH,zI,zJ,zK,zL,zM,zN,zO,zP,zR,zS]at *;omega)));done)|(refine qL (uae ?_ ?_)<;>first|rfl|(intro ix h0 h1;first|exact Fit.refl _|exact qC (qE (uiy hn0 hk9.1 hlo)) rfl qA|exact qC (qE (uiO hn0 hk9.1 hhi rfl)) rfl qA))|skip))|((try simp only [zQ,zA,zB,zC,zD,zE,zF,zG,zH,zI,zJ,zK,zL,zM,zN,zO,zP,zR,zS]at *);(have hk9:=hbe k (by((try simp only [qV]at *);(try simp only [zQ,zA,zB,zC,zD,zE,zF,zG,zH,zI,zJ,zK,zL,zM,zN,zO,zP,zR,zS]at *);omega)));(have hhi:(k:Int)<n.tmod (Lb.length:Int):=hcd);refine⟨⟨k+1,by((try simp only [qV]at *);(try simp only [zQ,zA,zB,zC,zD,zE,zF,zG,zH,zI,zJ,zK,zL,zM,zN,zO,zP,zR,zS]at *);omega)⟩,by simp only [];omega,?_⟩;cbv;(repeat' (first|with_reducible refine ua4 ?_ ?_|with_reducible refine And.intro ?_ ?_));(all_goals first|trivial|exact qM (qE (by rfl))|exact qM (qF (by rfl))|exact qM (Fit.refl _)|exact qL (qK _)|(refine qM (qE ?_);(try simp only [qV]at *);simp only [zQ,zA,zB,zC,zD,zE,zF,zG,zH,zI,zJ,zK,zL,zM,zN,zO,zP,zR,zS]at *;omega)|(refine qL (qJ ?_);(repeat' (first|exact qA|exact qB|refine qC ?_ rfl ?_|refine qD ?_ ?_|exact qE (by rfl)|exact qF (by rfl)|exact Fit.refl _|exact qG _|(refine qE ?_;(try simp only [qV]at *);simp only [zQ,zA,zB,zC,zD,zE,zF,zG,zH,zI,zJ,zK,zL,zM,zN,zO,zP,zR,zS]at *;omega)));done)|(refine qL (uae ?_ ?_)<;>first|rfl|(intro ix h0 h1;first|exact Fit.refl _|exact qC (qE (uiy hn0 hk9.1 hlo)) rfl qA|exact qC (qE (uiO hn0 hk9.1 hhi rfl)) rfl qA))|skip))|skip
theorem uq6 (d:Dsp)(n:Int):ua0 Tryz.prog 20 [(ub5 d),(iv fun _=>n)] [] (fun r _=>r=(.tup [(.sl 1 (.sym fun _=>coN d n) (fun ix=>[(iv fun _=>ukr d n ix.den.toNat)])),(iv fun _=>coE d n)])):=by
 by_cases h:coE d n=0
 ·by_cases he:uhv d=[]
  ·exact urS d n h he
  ·exact urP d n h he
 ·exact us1 d n h
end Go.Proofs.YtkdggbfknlcdaaaGreat
namespace Go.Proofs.YtkdggbfknlcdaaaGreat
open Go Go.Eng Go.Eng.Dif Go.Eng.Few
def d3 :Dsp:=⟨[10,14,20],[0,10,20],[[100,140,200],[90,131,192],[80,120,170]],2,3,[⟨0,1,-3,0⟩],[⟨0,0,12,12,5,6⟩,⟨1,0,14,14,2,3⟩,⟨2,1,10,10,4,4⟩]⟩
def d2 :Dsp:=⟨[10,14,20],[0,10,20],[[100,140,200],[90,131,192],[80,120,170]],2,3,[⟨0,1,-3,0⟩],[⟨0,0,12,12,5,6⟩,⟨2,1,10,10,4,4⟩]⟩
theorem uj5 :ua5 d3=0:=by decide +kernel
theorem ulX :ua5 d2=0:=by decide +kernel
theorem uhF :mLo d3 ⟨0,0,12,12,5,6⟩=115∧mHi d3 ⟨0,0,12,12,5,6⟩=119:=by decide +kernel
theorem utd :mLo d3 ⟨1,0,14,14,2,3⟩=98∧mHi d3 ⟨1,0,14,14,2,3⟩=102:=by decide +kernel
theorem uma :mLo d3 ⟨2,1,10,10,4,4⟩=116∧mHi d3 ⟨2,1,10,10,4,4⟩=116:=by decide +kernel
theorem FO3 :FO d3 d3.fs=xF3:=by
 have e:FO d3 d3.fs=[⟨0,mLo d3 ⟨0,0,12,12,5,6⟩,mHi d3 ⟨0,0,12,12,5,6⟩⟩,⟨0,mLo d3 ⟨1,0,14,14,2,3⟩,mHi d3 ⟨1,0,14,14,2,3⟩⟩,⟨1,mLo d3 ⟨2,1,10,10,4,4⟩,mHi d3 ⟨2,1,10,10,4,4⟩⟩]:=rfl
 rw [e,uhF.1,uhF.2,utd.1,utd.2,uma.1,uma.2]
 rfl
theorem FO2 :FO d2 d2.fs=xF2:=by
 have e:FO d2 d2.fs=[⟨0,mLo d3 ⟨0,0,12,12,5,6⟩,mHi d3 ⟨0,0,12,12,5,6⟩⟩,⟨1,mLo d3 ⟨2,1,10,10,4,4⟩,mHi d3 ⟨2,1,10,10,4,4⟩⟩]:=rfl
 rw [e,uhF.1,uhF.2,uma.1,uma.2]
 rfl
theorem uAh :DOk d3:=ua2.1 uj5
theorem uAd :DOk d2:=ua2.1 ulX
theorem uwr :udT d3=true:=urp
theorem uww :udT d2=true:=urp
theorem uhf :ual d3=0:=ugu uj5 uwr
theorem uvA :ual d2=0:=ugu ulX uww
theorem up0 :ufw d3 0=0∧ujG d3 0=115∧uk2 d3 0=119:=by
 have h:=ujk (d:=d3) (n:=0) uj5 (by decide)
 exact⟨h.1,h.2.1.trans uhF.1,h.2.2.trans uhF.2⟩
theorem uAv :utD d3=some 1:=by
 unfold utD
 rw [FO3]
 exact uyb
theorem ux2 :uqQ d3=0∧uqN d3=1:=ujU uhf uAv
theorem uzs :ufY d3=[1]:=by
 unfold ufY
 rw [if_pos uhf,upW,FO3]
 exact uyf
theorem umQ {S:Nat} {ls:List Lk} {fs:List Fa}(h:Okk S ls fs) {p q:Nat→Int}(e:∀i,i<fs.length→p i=q i):okP S ls fs p=okP S ls fs q:=by
 funext o
 unfold okP
 exact uj4 h fun i hi=>by unfold uxB;rw [e i hi]
theorem uui :uc4 d3=okP 2 xL3 xF3 xP3:=by
 rw [ul8 uAh,FO3]
 refine umQ uxt fun i hi=> ?_
 have hi:i<3:=hi
 rcases(show i=0∨i=1∨i=2 by omega)with e|e|e<;>subst e<;>rfl
theorem uxG :uc4 d2=okP 2 xL3 xF2 xP2:=by
 rw [ul8 uAd,FO2]
 refine umQ uqR fun i hi=> ?_
 have hi:i<2:=hi
 rcases(show i=0∨i=1 by omega)with e|e<;>subst e<;>rfl
theorem uzV :usT d3=[1]:=by
 unfold usT
 rw [if_pos uhf,uui]
 exact uut.1
theorem uzl :uhv d3=[1]:=by
 unfold uhv uld
 rw [if_pos uhf,uui]
 exact uut.2.1
theorem uA3 :us9 d3=[1]:=by
 unfold us9 uqP
 rw [if_pos uhf,uui]
 exact uut.2.2
theorem uAq :uhv d2=[]:=by
 unfold uhv uld
 rw [if_pos uvA,uxG]
 exact uyV.2.2.1
theorem uA7 :ud7 d2 d2.fs []=true:=by
 rw [uiu,FO2]
 exact urK.1
theorem uzA :ui2 d2=0∧uof d2=2:=udv ulX uA7
theorem ufT (d:Dsp)(s:Nat):loT d [] s=loD (SN d) (LO d) (FO d d.fs) s∧hiT d [] s=hiD (SN d) (LO d) (FO d d.fs) s:=by
 unfold loT hiT ufq
 rw [uir]
 exact⟨rfl,rfl⟩
theorem bd2 :(loT d2 [] 0=116∧hiT d2 [] 0=119)∧loT d2 [] 1=116∧hiT d2 [] 1=116:=by
 rw [(ufT d2 0).1,(ufT d2 0).2,(ufT d2 1).1,(ufT d2 1).2,FO2]
 exact⟨⟨urK.2.1,urK.2.2.1⟩,urK.2.2.2.1,urK.2.2.2.2⟩
theorem usZ (d:Dsp)(o:List Int)(s:Nat):loT d o s=loD (SN d) (LO d) (kpN (FO d d.fs) (ukq o) d.fs.length) s∧hiT d o s=hiD (SN d) (LO d) (kpN (FO d d.fs) (ukq o) d.fs.length) s:=by
 unfold loT hiT ufq ubQ
 rw [uwA (Nat.le_refl _)]
 exact⟨rfl,rfl⟩
theorem bd3 :loT d3 [1] 0=116∧hiT d3 [1] 0=119:=by
 have e:kpN (FO d3 d3.fs) (ukq [1]) d3.fs.length=xF2:=by rw [FO3];exact uzZ
 rw [(usZ d3 [1] 0).1,(usZ d3 [1] 0).2,e]
 exact⟨urK.2.1,urK.2.2.1⟩
theorem ch3 :chE d3 0 1000=0∧chL d3 0 1000=116∧chH d3 0 1000=119:=by
 have h:=uq2 (d:=d3) (s:=0) (g:=1000) uj5 (by decide) uhf
 rw [uzs]at h
 refine⟨h.1,h.2.1.trans ?_,h.2.2.trans ?_⟩
 ·show(1000*loT d3 [1] 0).tdiv 1000=116
  rw [bd3.1];rfl
 ·show(1000*hiT d3 [1] 0).tdiv 1000=119
  rw [bd3.2];rfl
theorem co3 :coE d3 100=0∧coN d3 100=3:=ugK uj5 (by decide) uhf
theorem co2 :coE d2 100=0∧coN d2 100=3:=ugK ulX (by decide) uvA
theorem uxP :ukr d3 100 0=0∧ukr d3 100 1=100∧ukr d3 100 2=0:=by
 have e:ufj d3=[1]:=by unfold ufj;rw [uzl];rfl
 unfold ukr
 rw [e]
 exact uvP
theorem uxH :ukr d2 100 0=34∧ukr d2 100 1=33∧ukr d2 100 2=33:=by
 have e:ufj d2=[0,1,2]:=by unfold ufj;rw [uAq];rfl
 unfold ukr
 rw [e]
 exact uwJ
end Go.Proofs.YtkdggbfknlcdaaaGreat
namespace Go.Proofs.YtkdggbfknlcdaaaGreat
open Go Go.Eng Go.Proofs Go.Eng.Dif Go.Eng.Few
set_option maxRecDepth 10000
theorem uik {p:Nat→Bool} {n i:Nat}(hi:i<n)(h:p i=false):uhl p n=false:=by
 rw [uai]
 intro q
 rw [q i hi]at h;cases h
theorem ugf {p:Nat→Bool} {n:Nat}(h:∀i,i<n→p i=true):uhl p n=true:=by rw [uag];exact h
def eqI (na:Nat)(fa:Nat→Int)(nb:Nat)(fb:Nat→Int):Bool:=decide (na=nb)&&uhl (fun i=>decide (fa i=fb i)) na
theorem uu6 {na nb:Nat} {fa fb:Nat→Int}(h:¬na=nb):eqI na fa nb fb=false:=by unfold eqI;rw [decide_eq_false h];rfl
theorem uwG {na nb:Nat} {fa fb:Nat→Int} {i:Nat}(hi:i<na)(h:¬fa i=fb i):eqI na fa nb fb=false:=by
 unfold eqI
 rw [uik (i:=i) hi (decide_eq_false h)];simp
theorem uu8 {na nb:Nat} {fa fb:Nat→Int}(h:na=nb)(h':∀i,i<na→fa i=fb i):eqI na fa nb fb=true:=by
 unfold eqI
 rw [decide_eq_true h,ugf fun i hi=>decide_eq_true (h' i hi)];rfl
theorem uw9 :uoc Tryz.prog 59 2:=upZ (by kernel_rfl)
theorem ulk {m b:Int} {c:List SV} {new e':IX→List SV}(h0:∀jx:IX,jx.den=0→Fit (.agg c) (.agg (e' jx)))(h1:∀ix jx:IX,0≤ix.den→ix.den<m→jx.den=1+ix.den→Fit (.agg (new ix)) (.agg (e' jx)))(hb:0<m∧(1+m)*b≤140737488355328):
 uam (udL 1 (fun _=>c) m new e'∧0<m∧(1+m)*b≤140737488355328):=
 ⟨⟨fun μ ν ix v i0 i1 q jx hj=>(h0 jx (by omega)).le _ _ _ q,fun μ ν ix v i0 i1 q jx hj=>(h1 ix jx i0 i1 hj).le _ _ _ q⟩,hb⟩
theorem ugr (a b:Int):ua0 Tryz.prog 27 [(iv fun _=>a),(iv fun _=>b)] [] (fun r _=>r=(.agg [(iv fun _=>a),(iv fun _=>b)])):=by
 refine ua0.is fun R hR=>qW (sc:=uAC) uaj mix Tryz.func27 rfl Tryz.call27 (by kernel_rfl) (by kernel_rfl) ?_
 generalize Tryz.prog=P
 cbv
 repeat' (first|fail)
 all_goals first|(subst hR;(repeat' (first|exact qA|exact qB|refine qC ?_ rfl ?_|refine qD ?_ ?_|exact qE (by rfl)|exact qF (by rfl)|exact Fit.refl _|exact qG _|(refine qE ?_;(try simp only [qV]at *);simp only [zQ,zA,zB,zC,zD,zE,zF,zG,zH,zI,zJ,zK,zL,zM,zN,zO,zP,zR,zS]at *;omega)));done)|skip
theorem uBb (a b:Int):ua0 Tryz.prog 36 [(.agg [(iv fun _=>a),(iv fun _=>b)])] [] (fun r _=>r=(.agg [(iv fun _=>a),(iv fun _=>b)])):=by
 refine ua0.is fun R hR=>qW (sc:=uAx) uaj mix Tryz.func36 rfl Tryz.call36 (by kernel_rfl) (by kernel_rfl) ?_
 generalize Tryz.prog=P
 cbv
 repeat' (first|fail)
 all_goals first|(subst hR;(repeat' (first|exact qA|exact qB|refine qC ?_ rfl ?_|refine qD ?_ ?_|exact qE (by rfl)|exact qF (by rfl)|exact Fit.refl _|exact qG _|(refine qE ?_;(try simp only [qV]at *);simp only [zQ,zA,zB,zC,zD,zE,zF,zG,zH,zI,zJ,zK,zL,zM,zN,zO,zP,zR,zS]at *;omega)));done)|skip
theorem uoI (na nb:Nat)(fa fb:Nat→Int)(ha:na≤1000)(hb:nb≤1000):ua0 Tryz.prog 15 [(.sl 1 (.sym fun _=>zi na) (fun ix=>[(iv fun _=>fa ix.den.toNat)])),(.sl 1 (.sym fun _=>zi nb) (fun ix=>[(iv fun _=>fb ix.den.toNat)]))] [] (fun r _=>r=(bv fun _=>eqI na fa nb fb)):=by
 refine ua0.is fun R hR=>qW (sc:=uAw) uaj mix Tryz.func15 rfl Tryz.call15 (by kernel_rfl) (by kernel_rfl) ?_
 generalize Tryz.prog=P
 cbv
 repeat' (first|with_reducible refine And.intro ?_ ?_|(with_reducible intro hcd;(try simp only [zA,zB,zC,zD,zE,zF,zG,zH,zI,zJ,zK,zL,zM,zN,zO,zP]at hcd);try cbv)|fail)
 all_goals first|(subst hR;(refine qF ?_;(try simp only [qV]at *);(try simp only [zQ,zA,zB,zC,zD,zE,zF,zG,zH,zI,zJ,zK,zL,zM,zN,zO,zP,zR,zS]at *);exact(uu6 (by omega)).symm);done)|skip
 refine⟨none,[],{i:Nat // i≤na∧∀j,j<i→fa j=fb j},fun x=>⟨[(0,(.sl 1 (.sym fun _=>zi na) (fun ix=>[(iv fun _=>fa ix.den.toNat)]))),(1,(.sl 1 (.sym fun _=>zi nb) (fun ix=>[(iv fun _=>fb ix.den.toNat)]))),(5,(iv fun _=>zi x.1))],[],40⟩,fun x=>na-x.1,?_,?_⟩
 ·refine⟨⟨0,by omega,fun j hj=>by omega⟩,?_⟩
  cbv
  repeat' (first|with_reducible refine ua4 ?_ ?_|with_reducible refine And.intro ?_ ?_)
  all_goals first|trivial|exact qM (qE (by rfl))|exact qM (Fit.refl _)|skip
 ·rintro⟨i,hi,hq⟩
  cbv
  repeat' (first|with_reducible refine ua4 ?_ ?_|with_reducible refine And.intro ?_ ?_|(with_reducible intro hcd;(try simp only [zA,zB,zC,zD,zE,zF,zG,zH,zI,zJ,zK,zL,zM,zN,zO,zP]at hcd);try cbv)|fail)
  all_goals first|((try simp only [qV]at *);(try simp only [zQ,zA,zB,zC,zD,zE,zF,zG,zH,zI,zJ,zK,zL,zM,zN,zO,zP,zR,zS]at *);first|(refine qN ?_;omega)|(simp only [uam];omega))|(subst hR;(refine qF ?_;(try simp only [qV]at *);(try simp only [zQ,zA,zB,zC,zD,zE,zF,zG,zH,zI,zJ,zK,zL,zM,zN,zO,zP,zR,zS]at *);exact(uwG (i:=i) (by omega) (by assumption)).symm);done)|(subst hR;(refine qF ?_;(try simp only [qV]at *);(try simp only [zQ,zA,zB,zC,zD,zE,zF,zG,zH,zI,zJ,zK,zL,zM,zN,zO,zP,zR,zS]at *);exact(uu8 (by omega) fun j hj=>hq j (by omega)).symm);done)|((try simp only [zQ,zA,zB,zC,zD,zE,zF,zG,zH,zI,zJ,zK,zL,zM,zN,zO,zP,zR,zS]at *);refine⟨⟨i+1,by omega,fun j hj=>(Nat.lt_or_ge j i).elim (hq j) fun q=>by rw [show j=i by omega];first|assumption|omega⟩,by simp only [];omega,?_⟩;cbv;(repeat' (first|with_reducible refine ua4 ?_ ?_|with_reducible refine And.intro ?_ ?_));(all_goals first|trivial|exact qM (qE (by rfl))|exact qM (qF (by rfl))|exact qM (Fit.refl _)|exact qL (qK _)|(refine qM (qE ?_);(try simp only [qV]at *);simp only [zQ,zA,zB,zC,zD,zE,zF,zG,zH,zI,zJ,zK,zL,zM,zN,zO,zP,zR,zS]at *;omega)|skip))|skip
theorem uua :ua0 Tryz.prog 39 [] [] (fun r _=>r=(ub5 d3)):=by
 have c40:= @ugr
 refine ua0.is fun R hR=>qW (sc:=uzt) uaj mix Tryz.func39 rfl Tryz.call39 (by kernel_rfl) (by kernel_rfl) ?_
 generalize Tryz.prog=P at c40⊢
 cbv
 repeat' (first|(refine qP ?_ (c40 _ _) (by(repeat' (first|exact qB|refine qD ?_ ?_|exact qE (by rfl)|exact qF (by rfl)|exact Fit.refl _|exact qA|refine qC ?_ rfl ?_)));try cbv)|fail)
 all_goals first|(subst hR;(repeat' (first|exact qA|exact qB|refine qC ?_ rfl ?_|refine qD ?_ ?_|exact qE (by rfl)|exact qF (by rfl)|exact qE (by kernel_rfl)|exact qF (by kernel_rfl)|exact Fit.refl _|(exact qO (by rfl))|(first|(refine ua1 (by rfl) (fun ix h0 h1=> ?_);(have h2:ix.den<2:=h1);(have hx:ix.den.toNat=0∨ix.den.toNat=1:=by omega);(rcases hx with hx|hx<;>simp only [hx]))|(refine ua1 (by rfl) (fun ix h0 h1=> ?_);(have h2:ix.den<3:=h1);(have hx:ix.den.toNat=0∨ix.den.toNat=1∨ix.den.toNat=2:=by omega);(rcases hx with hx|hx|hx<;>simp only [hx]))|(refine ua1 (by rfl) (fun ix h0 h1=> ?_);(have h2:ix.den<4:=h1);(have hx:ix.den.toNat=0∨ix.den.toNat=1∨ix.den.toNat=2∨ix.den.toNat=3:=by omega);(rcases hx with hx|hx|hx|hx<;>simp only [hx]))|(refine ua1 (by rfl) (fun ix h0 h1=> ?_);(have h2:ix.den<1:=h1);(have hx:ix.den.toNat=0:=by omega);(rcases hx with hx<;>simp only [hx]))|(refine ua1 (by rfl) (fun ix h0 h1=> ?_);(have h2:ix.den<5:=h1);(have hx:ix.den.toNat=0∨ix.den.toNat=1∨ix.den.toNat=2∨ix.den.toNat=3∨ix.den.toNat=4:=by omega);(rcases hx with hx|hx|hx|hx|hx<;>simp only [hx])))));done)|skip
theorem usa :ube Tryz.prog 39 [] [] (fun r bs=>r=(.agg [(iS d3.tw),(iS d3.tm),(.sl 1 (.sym fun _=>zi (d3.tv).length) (fun ix=>[(.sl 1 (.sym fun _=>zi ((d3.tv).getD ix.den.toNat []).length) (fun jx=>[(iv fun _=>((d3.tv).getD ix.den.toNat []).getD jx.den.toNat 0)]))])),(iv fun _=>d3.sn),(iv fun _=>d3.pn),(.sl 4 (.sym fun _=>zi (d3.ls).length) (fun ix=>[(iv fun _=>((d3.ls).getD ix.den.toNat l0T).a),(iv fun _=>((d3.ls).getD ix.den.toNat l0T).b),(iv fun _=>((d3.ls).getD ix.den.toNat l0T).lo),(iv fun _=>((d3.ls).getD ix.den.toNat l0T).hi)])),.ows 0 0 3 3 6])∧bs=[.cells [(.int .i64 (.lit (0))),(.int .i64 (.lit (0))),(.int .i64 (.lit (12))),(.int .i64 (.lit (12))),(.int .i64 (.lit (5))),(.int .i64 (.lit (6))),(.int .i64 (.lit (1))),(.int .i64 (.lit (0))),(.int .i64 (.lit (14))),(.int .i64 (.lit (14))),(.int .i64 (.lit (2))),(.int .i64 (.lit (3))),(.int .i64 (.lit (2))),(.int .i64 (.lit (1))),(.int .i64 (.lit (10))),(.int .i64 (.lit (10))),(.int .i64 (.lit (4))),(.int .i64 (.lit (4)))] 106]):=by
 have c40:= @ugr
 refine ube.is rfl rfl fun R B hR hB=>uf3 (sc:=uzt) uaj mix Tryz.func39 rfl Tryz.call39 (by kernel_rfl) (by kernel_rfl) ?_
 generalize Tryz.prog=P at c40⊢
 cbv
 repeat' (first|(refine qP ?_ (c40 _ _) (by(repeat' (first|exact qB|refine qD ?_ ?_|exact qE (by rfl)|exact qF (by rfl)|exact Fit.refl _|exact qA|refine qC ?_ rfl ?_)));try cbv)|fail)
 all_goals first|trivial|skip
 refine⟨[],(20:Nat),?_⟩
 cbv
 subst hR
 subst hB
 refine⟨?_,?_⟩
 ·(repeat' (first|exact qA|exact qB|refine qC ?_ rfl ?_|refine qD ?_ ?_|exact qE (by rfl)|exact qF (by rfl)|exact qE (by kernel_rfl)|exact qF (by kernel_rfl)|exact Fit.refl _|(exact qO (by rfl))|(first|(refine ua1 (by rfl) (fun ix h0 h1=> ?_);(have h2:ix.den<2:=h1);(have hx:ix.den.toNat=0∨ix.den.toNat=1:=by omega);(rcases hx with hx|hx<;>simp only [hx]))|(refine ua1 (by rfl) (fun ix h0 h1=> ?_);(have h2:ix.den<3:=h1);(have hx:ix.den.toNat=0∨ix.den.toNat=1∨ix.den.toNat=2:=by omega);(rcases hx with hx|hx|hx<;>simp only [hx]))|(refine ua1 (by rfl) (fun ix h0 h1=> ?_);(have h2:ix.den<4:=h1);(have hx:ix.den.toNat=0∨ix.den.toNat=1∨ix.den.toNat=2∨ix.den.toNat=3:=by omega);(rcases hx with hx|hx|hx|hx<;>simp only [hx]))|(refine ua1 (by rfl) (fun ix h0 h1=> ?_);(have h2:ix.den<1:=h1);(have hx:ix.den.toNat=0:=by omega);(rcases hx with hx<;>simp only [hx]))|(refine ua1 (by rfl) (fun ix h0 h1=> ?_);(have h2:ix.den<5:=h1);(have hx:ix.den.toNat=0∨ix.den.toNat=1∨ix.den.toNat=2∨ix.den.toNat=3∨ix.den.toNat=4:=by omega);(rcases hx with hx|hx|hx|hx|hx<;>simp only [hx])))))
 ·(repeat' (first|exact qH|refine qI ?_ ?_))
  refine qJ ?_
  (repeat' (first|exact qA|exact qB|refine qC ?_ rfl ?_|refine qD ?_ ?_|exact qE (by rfl)|exact qF (by rfl)|exact qE (by kernel_rfl)|exact qF (by kernel_rfl)|exact Fit.refl _|(exact qO (by rfl))|(first|(refine ua1 (by rfl) (fun ix h0 h1=> ?_);(have h2:ix.den<2:=h1);(have hx:ix.den.toNat=0∨ix.den.toNat=1:=by omega);(rcases hx with hx|hx<;>simp only [hx]))|(refine ua1 (by rfl) (fun ix h0 h1=> ?_);(have h2:ix.den<3:=h1);(have hx:ix.den.toNat=0∨ix.den.toNat=1∨ix.den.toNat=2:=by omega);(rcases hx with hx|hx|hx<;>simp only [hx]))|(refine ua1 (by rfl) (fun ix h0 h1=> ?_);(have h2:ix.den<4:=h1);(have hx:ix.den.toNat=0∨ix.den.toNat=1∨ix.den.toNat=2∨ix.den.toNat=3:=by omega);(rcases hx with hx|hx|hx|hx<;>simp only [hx]))|(refine ua1 (by rfl) (fun ix h0 h1=> ?_);(have h2:ix.den<1:=h1);(have hx:ix.den.toNat=0:=by omega);(rcases hx with hx<;>simp only [hx]))|(refine ua1 (by rfl) (fun ix h0 h1=> ?_);(have h2:ix.den<5:=h1);(have hx:ix.den.toNat=0∨ix.den.toNat=1∨ix.den.toNat=2∨ix.den.toNat=3∨ix.den.toNat=4:=by omega);(rcases hx with hx|hx|hx|hx|hx<;>simp only [hx])))))
theorem uxT :ua0 Tryz.prog 40 [] [] (fun r _=>r=(ub5 d2)):=by
 have c37:=usa
 refine ua0.is fun R hR=>qW (sc:=uB2) uaj mix Tryz.func40 rfl Tryz.call40 (by kernel_rfl) (by kernel_rfl) ?_
 generalize Tryz.prog=P at c37⊢
 cbv
 repeat' (first
  | (refine Or.inr ⟨true,?_⟩
     cbv
     refine qU ?_ (c37) (by cbv;(repeat' (first|exact qB|refine qD ?_ ?_|exact qE (by rfl)|exact qF (by rfl)|exact Fit.refl _|exact qA|refine qC ?_ rfl ?_))) (by cbv;(repeat' (first|exact qH|refine qI ?_ ?_|exact qK _|refine qJ ?_|exact qA|exact qE (by rfl)|exact qF (by rfl)|exact Fit.refl _|exact qG _|refine qC ?_ rfl ?_)))
     try cbv)
  | (refine⟨fun ix=>[(iv fun _=>(d2.fs.getD ix.den.toNat f0T).p),(iv fun _=>(d2.fs.getD ix.den.toNat f0T).s),(iv fun _=>(d2.fs.getD ix.den.toNat f0T).wl),(iv fun _=>(d2.fs.getD ix.den.toNat f0T).wh),(iv fun _=>(d2.fs.getD ix.den.toNat f0T).ml),(iv fun _=>(d2.fs.getD ix.den.toNat f0T).mh)],?_⟩
     cbv
     refine ua4 (ulk (fun jx h0=>(by(have h3:jx.den.toNat=0:=by omega);simp only [h3];(repeat' (first|exact qA|exact qB|refine qC ?_ rfl ?_|refine qD ?_ ?_|exact qE (by rfl)|exact qF (by rfl)|exact qE (by kernel_rfl)|exact qF (by kernel_rfl)|exact Fit.refl _|(exact qO (by rfl))|(first|(refine ua1 (by rfl) (fun ix h0 h1=> ?_);(have h2:ix.den<2:=h1);(have hx:ix.den.toNat=0∨ix.den.toNat=1:=by omega);(rcases hx with hx|hx<;>simp only [hx]))|(refine ua1 (by rfl) (fun ix h0 h1=> ?_);(have h2:ix.den<3:=h1);(have hx:ix.den.toNat=0∨ix.den.toNat=1∨ix.den.toNat=2:=by omega);(rcases hx with hx|hx|hx<;>simp only [hx]))|(refine ua1 (by rfl) (fun ix h0 h1=> ?_);(have h2:ix.den<4:=h1);(have hx:ix.den.toNat=0∨ix.den.toNat=1∨ix.den.toNat=2∨ix.den.toNat=3:=by omega);(rcases hx with hx|hx|hx|hx<;>simp only [hx]))|(refine ua1 (by rfl) (fun ix h0 h1=> ?_);(have h2:ix.den<1:=h1);(have hx:ix.den.toNat=0:=by omega);(rcases hx with hx<;>simp only [hx]))|(refine ua1 (by rfl) (fun ix h0 h1=> ?_);(have h2:ix.den<5:=h1);(have hx:ix.den.toNat=0∨ix.den.toNat=1∨ix.den.toNat=2∨ix.den.toNat=3∨ix.den.toNat=4:=by omega);(rcases hx with hx|hx|hx|hx|hx<;>simp only [hx]))))))) (fun ix jx h0 h1 h2=>(by(have h3:jx.den.toNat=1:=by(have h4:ix.den<1:=h1;omega));simp only [h3];(repeat' (first|exact qA|exact qB|refine qC ?_ rfl ?_|refine qD ?_ ?_|exact qE (by rfl)|exact qF (by rfl)|exact qE (by kernel_rfl)|exact qF (by kernel_rfl)|exact Fit.refl _|(exact qO (by rfl))|(first|(refine ua1 (by rfl) (fun ix h0 h1=> ?_);(have h2:ix.den<2:=h1);(have hx:ix.den.toNat=0∨ix.den.toNat=1:=by omega);(rcases hx with hx|hx<;>simp only [hx]))|(refine ua1 (by rfl) (fun ix h0 h1=> ?_);(have h2:ix.den<3:=h1);(have hx:ix.den.toNat=0∨ix.den.toNat=1∨ix.den.toNat=2:=by omega);(rcases hx with hx|hx|hx<;>simp only [hx]))|(refine ua1 (by rfl) (fun ix h0 h1=> ?_);(have h2:ix.den<4:=h1);(have hx:ix.den.toNat=0∨ix.den.toNat=1∨ix.den.toNat=2∨ix.den.toNat=3:=by omega);(rcases hx with hx|hx|hx|hx<;>simp only [hx]))|(refine ua1 (by rfl) (fun ix h0 h1=> ?_);(have h2:ix.den<1:=h1);(have hx:ix.den.toNat=0:=by omega);(rcases hx with hx<;>simp only [hx]))|(refine ua1 (by rfl) (fun ix h0 h1=> ?_);(have h2:ix.den<5:=h1);(have hx:ix.den.toNat=0∨ix.den.toNat=1∨ix.den.toNat=2∨ix.den.toNat=3∨ix.den.toNat=4:=by omega);(rcases hx with hx|hx|hx|hx|hx<;>simp only [hx]))))))) ⟨by decide,by decide⟩) ?_
     try cbv)
  |fail)
 all_goals first|(subst hR;(repeat' (first|exact qA|exact qB|refine qC ?_ rfl ?_|refine qD ?_ ?_|exact qE (by rfl)|exact qF (by rfl)|exact qE (by kernel_rfl)|exact qF (by kernel_rfl)|exact Fit.refl _|(exact qO (by rfl))|(first|(refine ua1 (by rfl) (fun ix h0 h1=> ?_);(have h2:ix.den<2:=h1);(have hx:ix.den.toNat=0∨ix.den.toNat=1:=by omega);(rcases hx with hx|hx<;>simp only [hx]))|(refine ua1 (by rfl) (fun ix h0 h1=> ?_);(have h2:ix.den<3:=h1);(have hx:ix.den.toNat=0∨ix.den.toNat=1∨ix.den.toNat=2:=by omega);(rcases hx with hx|hx|hx<;>simp only [hx]))|(refine ua1 (by rfl) (fun ix h0 h1=> ?_);(have h2:ix.den<4:=h1);(have hx:ix.den.toNat=0∨ix.den.toNat=1∨ix.den.toNat=2∨ix.den.toNat=3:=by omega);(rcases hx with hx|hx|hx|hx<;>simp only [hx]))|(refine ua1 (by rfl) (fun ix h0 h1=> ?_);(have h2:ix.den<1:=h1);(have hx:ix.den.toNat=0:=by omega);(rcases hx with hx<;>simp only [hx]))|(refine ua1 (by rfl) (fun ix h0 h1=> ?_);(have h2:ix.den<5:=h1);(have hx:ix.den.toNat=0∨ix.den.toNat=1∨ix.den.toNat=2∨ix.den.toNat=3∨ix.den.toNat=4:=by omega);(rcases hx with hx|hx|hx|hx|hx<;>simp only [hx])))));done)|skip
end Go.Proofs.YtkdggbfknlcdaaaGreat
