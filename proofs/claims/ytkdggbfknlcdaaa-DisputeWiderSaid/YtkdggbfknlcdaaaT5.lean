/- Contracts of the functions that the laws come to. No condition. -/
import Derived.Test.YtkdggbfknlcdaaaT4
set_option linter.unusedVariables false
set_option linter.unusedSimpArgs false
set_option linter.deprecated false

namespace Go.Proofs.Ytkdggbfknlcdaaa
open Go Go.Eng Go.Proofs Go.Eng.Dif Go.Eng.Few
set_option maxRecDepth 10000
theorem uu8 {f i:Nat}(h:f=4)(hi:i<16):iN (f*4) i=mS 0 i:=by subst h;exact utO hi
theorem uuE {f t i:Nat}(h:t=4):iN (f*4+t) i=iN ((f+1)*4) i:=by
  subst h
  rw [show f*4+4=(f+1)*4 by omega]
theorem uu3 {f t i:Nat}(h:i=f*4+t)(ht:t<4)(hd:f≠t):2000=iN (f*4+(t+1)) i:=uuJ (k:=f*4+t) h (by omega)
theorem utR {f t i:Nat}(h:i≠f*4+t):iN (f*4+t) i=iN (f*4+(t+1)) i:=urx h
theorem usw {f t i:Nat}(ht:t<4)(hd:f=t):iN (f*4+t) i=iN (f*4+(t+1)) i:=uuM (k:=f*4+t) (by omega)
theorem uw2 (s i:Nat):addB (mS s) ⟨(0:Int).toNat,(zi s+1).toNat,0,2000⟩ i=mS (s+1) i:=by rw [mS_s];rfl
theorem utX {d:Dsp} {s i:Nat}(h:s=SN d):mS s i=mL d 0 i:=by subst h;rfl
theorem uvK {d:Dsp} {k:Nat}(hd:DOk d)(h:k<d.ls.length)(i:Nat):addB (mL d k) ⟨((d.ls.getD k l0T).a+1).toNat,((d.ls.getD k l0T).b+1).toNat,(d.ls.getD k l0T).lo,(d.ls.getD k l0T).hi⟩ i=mL d (k+1) i:=by
  have:=hd.l k h
  unfold ubP at this
  rw [mL_s h (by omega) (by omega)]
theorem uve {d:Dsp} {K:List FaT} {k i:Nat}(h:k=d.ls.length):mL d k i=mF d K 0 i:=by subst h;rfl
theorem uvn {d:Dsp} {K:List FaT} {k:Nat}(hK:FOk d K)(h:k<K.length)(i:Nat):addB (mF d K k) ⟨(0:Int).toNat,((K.getD k f0T).s+1).toNat,mLo d (K.getD k f0T),mHi d (K.getD k f0T)⟩ i=mF d K (k+1) i:=by
  have:=hK k h
  unfold ubo at this
  rw [mF_s h (by omega)]
  rfl
set_option maxHeartbeats 4000000 in
theorem uco (d:Dsp)(o:List Int)(hd:DOk d)(ho:o.length≤1000):ua0 Try.prog 54 [(wpS d),(iS o)] [] (fun r _=>r=(.tup [(.agg [(.arr 16 (fun ix=>(iv fun _=>(clo (matO d d.fs o)) ix.den.toNat)))]),(.bool (.sym fun _=>canT d d.fs o))])):=by
  have c67:= @uoy
  have c87:=uub d o
  have c68:= @usr
  obtain⟨K,hKd⟩:∃K,K=ubO d.fs o:=⟨_,rfl⟩
  have hK:FOk d K:=by rw [hKd];exact uoF hd.f o
  obtain⟨L,hL⟩:∃L,L=K.length:=⟨_,rfl⟩
  obtain⟨el,hel⟩:∃el:Nat→List SV,el=(fun n:Nat=>[(.agg [(iv fun _=>(K.getD n f0T).p),(iv fun _=>(K.getD n f0T).s),(iv fun _=>(K.getD n f0T).wl),(iv fun _=>(K.getD n f0T).wh),(iv fun _=>(K.getD n f0T).ml),(iv fun _=>(K.getD n f0T).mh)])]):=⟨_,rfl⟩
  have cI:ukT Try.prog 113 [(.pp 0 [(wpS d)]),.pp 0 [(iS o)]] L el:=by rw [hel,hL,hKd];exact usK d o (by have:=hd.f6;omega) ho
  have elen:∀i,(el i).length=1∧SV.idsL (el i)=[]:=fun i=>by rw [hel];exact⟨rfl,rfl⟩
  have ei:∀i,el i=[(.agg [(iv fun _=>(K.getD i f0T).p),(iv fun _=>(K.getD i f0T).s),(iv fun _=>(K.getD i f0T).wl),(iv fun _=>(K.getD i f0T).wh),(iv fun _=>(K.getD i f0T).ml),(iv fun _=>(K.getD i f0T).mh)])]:=fun i=>by rw [hel]
  have hbd:∀i,-2000≤mF d K L i∧mF d K L i≤2000:=fun i=>by rw [hL,urz];exact urh hd hK i
  have hend:mF d K L=matO d d.fs o:=by rw [hL,urz,hKd];rfl
  have hKb:∀i,i<L→(0≤(K.getD i f0T).s∧(K.getD i f0T).s≤d.sn-1)∧0≤mLo d (K.getD i f0T)∧mLo d (K.getD i f0T)≤mHi d (K.getD i f0T)∧mHi d (K.getD i f0T)≤2000:=fun i hi=>by
    have q:=hK i (by rw [←hL];exact hi)
    have b:=unz hd.t q
    unfold ubo at q
    exact⟨q.2.1,b⟩
  have c45:=fun (i:Nat) (hi:i<L)=>urr d (K.getD i f0T) hd.t (hK i (by rw [←hL];exact hi))
  have s1:=hd.s1
  have s3:=hd.s3
  have l4:=hd.l4
  rw [show canT d d.fs o=okD (clo (matO d d.fs o))from rfl]
  clear hel hKd
  refine ua0.is fun R hR=>qW (sc:=sc54) tyok mix Try.func54 rfl Try.call54 (by kernel_rfl) (by kernel_rfl) ?_
  generalize Try.prog=P at c67 c87 c68 c45 cI⊢
  cbv
  repeat' (first
      |fail)
  all_goals first
    |skip
  refine⟨none,[],{f:Nat // f≤4},fun x=>⟨[(1,(iS o)),(2,.own 0 0),(4,.own 1 0),(12,(iv fun _=>zi x.1))],[(0,.cells [(wpS d)] 91),(1,.cells [(.arr 16 (fun ix=>(iv fun _=>(iN (x.1*4)) ix.den.toNat)))] 104)],100⟩,fun x=>4-x.1,?_,?_⟩
  · refine⟨⟨0,by omega⟩,?_⟩
    cbv
    repeat' (first
      |with_reducible refine hold ?_ ?_
      |with_reducible refine And.intro ?_ ?_)
    all_goals first
      |trivial
      |exact qM (qE (by rfl))
      |exact qM (Fit.refl _)
      |exact qL (qK _)
      |(refine qL (qJ (uaT (fun ix h0 h1=>qE (iN_0 _).symm) qA)))
      |skip
  · rintro ⟨f, hf⟩
    cbv
    repeat' (first
        |with_reducible refine And.intro ?_ ?_
        |(with_reducible intro hcd;(try simp only [zA,zB,zC,zD,zE,zF,zG,zH,zI,zJ,zK,zL,zM,zN,zO,zP]at hcd);try cbv)
        |fail)
    all_goals first
      |skip
    refine⟨none,[],{t:Nat // t≤4},fun x=>⟨[(1,(iS o)),(2,.own 0 0),(4,.own 1 0),(12,(iv fun _=>zi f)),(6,(iv fun _=>zi f)),(15,(iv fun _=>zi x.1))],[(0,.cells [(wpS d)] 91),(1,.cells [(.arr 16 (fun ix=>(iv fun _=>(iN (f*4+x.1)) ix.den.toNat)))] 104)],200⟩,fun x=>4-x.1,?_,?_⟩
    · refine⟨⟨0,by omega⟩,?_⟩
      cbv
      repeat' (first
        |with_reducible refine hold ?_ ?_
        |with_reducible refine And.intro ?_ ?_)
      all_goals first
        |trivial
        |exact qM (qE (by rfl))
        |exact qM (Fit.refl _)
        |exact qL (qK _)
        |skip
    · rintro ⟨t,ht⟩
      cbv
      repeat' (first
          |with_reducible refine hold ?_ ?_
          |with_reducible refine And.intro ?_ ?_
          |(with_reducible intro hcd;(try simp only [zA,zB,zC,zD,zE,zF,zG,zH,zI,zJ,zK,zL,zM,zN,zO,zP]at hcd);try cbv)
          | (refine⟨fun ix=>(iv fun _=>iN (f*4+(t+1)) ix.den.toNat),?_⟩
             cbv
             refine hold (ug2 (by intro jx h0 h1 h2;refine qE ?_;(try simp only [qV]at *);(try simp only [zQ,zA,zB,zC,zD,zE,zF,zG,zH,zI,zJ,zK,zL,zM,zN,zO,zP,zR,zS]at *);exact uu3 (by omega) (by omega) (by omega)) (by intro jx h0 h1 h2;refine qE ?_;(try simp only [qV]at *);(try simp only [zQ,zA,zB,zC,zD,zE,zF,zG,zH,zI,zJ,zK,zL,zM,zN,zO,zP,zR,zS]at *);exact utR (by omega))) ?_
             try cbv)
          |fail)
      all_goals first
        |((try simp only [qV]at *);(try simp only [zQ,zA,zB,zC,zD,zE,zF,zG,zH,zI,zJ,zK,zL,zM,zN,zO,zP,zR,zS]at *);first|(refine qN ?_;omega)|(simp only [Hold];omega))
        |((try simp only [zQ,zA,zB,zC,zD,zE,zF,zG,zH,zI,zJ,zK,zL,zM,zN,zO,zP,zR,zS]at *);refine⟨⟨t+1,by omega⟩,by simp only [];omega,?_⟩;cbv;(repeat' (first|with_reducible refine hold ?_ ?_|with_reducible refine And.intro ?_ ?_));(all_goals first|trivial|exact qM (qE (by rfl))|exact qM (qF (by rfl))|exact qM (Fit.refl _)|exact qL (qK _)|(refine qM (qE ?_);(try simp only [qV]at *);simp only [zQ,zA,zB,zC,zD,zE,zF,zG,zH,zI,zJ,zK,zL,zM,zN,zO,zP,zR,zS]at *;omega)|(refine qL (qJ ?_);(repeat' (first|exact qA|exact qB|refine qC ?_ rfl ?_|refine qD ?_ ?_|exact qE (by rfl)|exact qF (by rfl)|exact Fit.refl _|exact qG _|(refine qE ?_;(try simp only [qV]at *);simp only [zQ,zA,zB,zC,zD,zE,zF,zG,zH,zI,zJ,zK,zL,zM,zN,zO,zP,zR,zS]at *;omega)));done)|(refine qL (qJ (uaT (fun ix h0 h1=>qE rfl) qA)))|(refine qL (qJ (uaT (fun ix h0 h1=>qE (usw (by((try simp only [qV]at *);(try simp only [zQ,zA,zB,zC,zD,zE,zF,zG,zH,zI,zJ,zK,zL,zM,zN,zO,zP,zR,zS]at *);omega)) (by((try simp only [qV]at *);(try simp only [zQ,zA,zB,zC,zD,zE,zF,zG,zH,zI,zJ,zK,zL,zM,zN,zO,zP,zR,zS]at *);omega)))) qA)))|skip))
        |((try simp only [zQ,zA,zB,zC,zD,zE,zF,zG,zH,zI,zJ,zK,zL,zM,zN,zO,zP,zR,zS]at *);refine⟨⟨f+1,by omega⟩,by simp only [];omega,?_⟩;cbv;(repeat' (first|with_reducible refine hold ?_ ?_|with_reducible refine And.intro ?_ ?_));(all_goals first|trivial|exact qM (qE (by rfl))|exact qM (qF (by rfl))|exact qM (Fit.refl _)|exact qL (qK _)|(refine qM (qE ?_);(try simp only [qV]at *);simp only [zQ,zA,zB,zC,zD,zE,zF,zG,zH,zI,zJ,zK,zL,zM,zN,zO,zP,zR,zS]at *;omega)|(refine qL (qJ ?_);(repeat' (first|exact qA|exact qB|refine qC ?_ rfl ?_|refine qD ?_ ?_|exact qE (by rfl)|exact qF (by rfl)|exact Fit.refl _|exact qG _|(refine qE ?_;(try simp only [qV]at *);simp only [zQ,zA,zB,zC,zD,zE,zF,zG,zH,zI,zJ,zK,zL,zM,zN,zO,zP,zR,zS]at *;omega)));done)|(refine qL (qJ (uaT (fun ix h0 h1=>qE (uuE (by((try simp only [qV]at *);(try simp only [zQ,zA,zB,zC,zD,zE,zF,zG,zH,zI,zJ,zK,zL,zM,zN,zO,zP,zR,zS]at *);omega)))) qA)))|skip))
        |skip
    refine⟨none,[],{s:Nat // s≤d.sn.toNat},fun x=>⟨[(1,(iS o)),(2,.own 0 0),(4,.own 1 0),(31,(iv fun _=>d.sn)),(32,(iv fun _=>zi x.1))],[(0,.cells [(wpS d)] 91),(1,.cells [(.arr 16 (fun ix=>(iv fun _=>(mS x.1) ix.den.toNat)))] 104)],300⟩,fun x=>d.sn.toNat-x.1,?_,?_⟩
    · refine⟨⟨0,by omega⟩,?_⟩
      cbv
      repeat' (first
        |with_reducible refine hold ?_ ?_
        |with_reducible refine And.intro ?_ ?_)
      all_goals first
        |trivial
        |exact qM (qE (by rfl))
        |exact qM (Fit.refl _)
        |exact qL (qK _)
        |(refine qL (qJ (uaT (fun ix h0 h1=>qE (uu8 (by((try simp only [qV]at *);(try simp only [zQ,zA,zB,zC,zD,zE,zF,zG,zH,zI,zJ,zK,zL,zM,zN,zO,zP,zR,zS]at *);omega)) (by omega))) qA)))
        |skip
    · rintro ⟨s, hs⟩
      cbv
      repeat' (first
          |with_reducible refine hold ?_ ?_
          |with_reducible refine And.intro ?_ ?_
          |(with_reducible intro hcd;(try simp only [zA,zB,zC,zD,zE,zF,zG,zH,zI,zJ,zK,zL,zM,zN,zO,zP]at hcd);try cbv)
          | (refine⟨some [1],?_⟩
             cbv
             refine qQ ?_ (c67 (mS s) 0 (zi s+1) 0 2000 (by omega) ⟨(by((try simp only [qV]at *);(try simp only [zQ,zA,zB,zC,zD,zE,zF,zG,zH,zI,zJ,zK,zL,zM,zN,zO,zP,zR,zS]at *);omega)),(by((try simp only [qV]at *);(try simp only [zQ,zA,zB,zC,zD,zE,zF,zG,zH,zI,zJ,zK,zL,zM,zN,zO,zP,zR,zS]at *);omega))⟩ (by omega)) ?hfit ?hbo
             case hfit=>(cbv;(repeat' (first|exact qB|refine qD ?_ ?_|exact qE (by rfl)|exact qF (by rfl)|exact Fit.refl _|exact qA|refine qC ?_ rfl ?_));done)
             case hbo=>(cbv;(repeat' (first|exact qH|refine qI ?_ ?_|exact qK _|refine qJ ?_|exact qA|exact qE (by rfl)|exact qF (by rfl)|exact Fit.refl _|exact qG _|refine qC ?_ rfl ?_));done)
             try cbv)
          |fail)
      all_goals first
        |((try simp only [qV]at *);(try simp only [zQ,zA,zB,zC,zD,zE,zF,zG,zH,zI,zJ,zK,zL,zM,zN,zO,zP,zR,zS]at *);first|(refine qN ?_;omega)|(simp only [Hold];omega))
        |((try simp only [zQ,zA,zB,zC,zD,zE,zF,zG,zH,zI,zJ,zK,zL,zM,zN,zO,zP,zR,zS]at *);refine⟨⟨s+1,by((try simp only [qV]at *);(try simp only [zQ,zA,zB,zC,zD,zE,zF,zG,zH,zI,zJ,zK,zL,zM,zN,zO,zP,zR,zS]at *);omega)⟩,by simp only [];omega,?_⟩;cbv;(repeat' (first|with_reducible refine hold ?_ ?_|with_reducible refine And.intro ?_ ?_));(all_goals first|trivial|exact qM (qE (by rfl))|exact qM (qF (by rfl))|exact qM (Fit.refl _)|exact qL (qK _)|(refine qM (qE ?_);(try simp only [qV]at *);simp only [zQ,zA,zB,zC,zD,zE,zF,zG,zH,zI,zJ,zK,zL,zM,zN,zO,zP,zR,zS]at *;omega)|(refine qL (qJ ?_);(repeat' (first|exact qA|exact qB|refine qC ?_ rfl ?_|refine qD ?_ ?_|exact qE (by rfl)|exact qF (by rfl)|exact Fit.refl _|exact qG _|(refine qE ?_;(try simp only [qV]at *);simp only [zQ,zA,zB,zC,zD,zE,zF,zG,zH,zI,zJ,zK,zL,zM,zN,zO,zP,zR,zS]at *;omega)));done)|(refine qL (qJ (uaT (fun ix h0 h1=>qE (uw2 s _)) qA)))|skip))
        |skip
      refine⟨none,[],{k:Nat // k≤d.ls.length},fun x=>⟨[(1,(iS o)),(2,.own 0 0),(4,.own 1 0),(44,(.sl 4 (.sym fun _=>zi (d.ls).length) (fun ix=>[(iv fun _=>((d.ls).getD ix.den.toNat l0T).a),(iv fun _=>((d.ls).getD ix.den.toNat l0T).b),(iv fun _=>((d.ls).getD ix.den.toNat l0T).lo),(iv fun _=>((d.ls).getD ix.den.toNat l0T).hi)]))),(45,(iv fun _=>zi d.ls.length)),(46,(iv fun _=>zi x.1))],[(0,.cells [(wpS d)] 91),(1,.cells [(.arr 16 (fun ix=>(iv fun _=>(mL d x.1) ix.den.toNat)))] 104)],400⟩,fun x=>d.ls.length-x.1,?_,?_⟩
      · refine⟨⟨0,by omega⟩,?_⟩
        cbv
        repeat' (first
          |with_reducible refine hold ?_ ?_
          |with_reducible refine And.intro ?_ ?_)
        all_goals first
          |trivial
          |exact qM (qE (by rfl))
          |exact qM (Fit.refl _)
          |exact qL (qK _)
          |(refine qL (qJ (uaT (fun ix h0 h1=>qE (utX (by unfold SN;(try simp only [qV]at *);(try simp only [zQ,zA,zB,zC,zD,zE,zF,zG,zH,zI,zJ,zK,zL,zM,zN,zO,zP,zR,zS]at *);omega))) qA)))
          |skip
      · rintro ⟨k,hk⟩
        cbv
        have hlk:k<d.ls.length→ubP d.sn (d.ls.getD k l0T):=hd.l k
        unfold ubP at hlk
        repeat' (first
            |with_reducible refine hold ?_ ?_
            |with_reducible refine And.intro ?_ ?_
            |(with_reducible intro hcd;(try simp only [zA,zB,zC,zD,zE,zF,zG,zH,zI,zJ,zK,zL,zM,zN,zO,zP]at hcd);try cbv)
            | ((have hk9:=hlk (by((try simp only [qV]at *);(try simp only [zQ,zA,zB,zC,zD,zE,zF,zG,zH,zI,zJ,zK,zL,zM,zN,zO,zP,zR,zS]at *);omega)))
               refine⟨some [1],?_⟩
               cbv
               refine qQ ?_ (c67 (mL d k) ((d.ls.getD k l0T).a+1) ((d.ls.getD k l0T).b+1) (d.ls.getD k l0T).lo (d.ls.getD k l0T).hi ⟨by omega,by omega⟩ ⟨by omega,by omega⟩ (by omega)) ?hfit ?hbo
               case hfit=>(cbv;(repeat' (first|exact qB|refine qD ?_ ?_|exact qE (by rfl)|exact qF (by rfl)|exact Fit.refl _|exact qA|refine qC ?_ rfl ?_));done)
               case hbo=>(cbv;(repeat' (first|exact qH|refine qI ?_ ?_|exact qK _|refine qJ ?_|exact qA|exact qE (by rfl)|exact qF (by rfl)|exact Fit.refl _|exact qG _|refine qC ?_ rfl ?_));done)
               try cbv)
            | (refine qP ?_ (c87) ?hfit
               case hfit=>((repeat' (first|exact qB|refine qD ?_ ?_|exact qE (by rfl)|exact qF (by rfl)|exact Fit.refl _|exact qA|refine qC ?_ rfl ?_));done)
               try cbv)
            |fail)
        all_goals first
          |((try simp only [qV]at *);(try simp only [zQ,zA,zB,zC,zD,zE,zF,zG,zH,zI,zJ,zK,zL,zM,zN,zO,zP,zR,zS]at *);first|(refine qN ?_;omega)|(simp only [Hold];omega))
          |((try simp only [zQ,zA,zB,zC,zD,zE,zF,zG,zH,zI,zJ,zK,zL,zM,zN,zO,zP,zR,zS]at *);refine⟨⟨k+1,by((try simp only [qV]at *);(try simp only [zQ,zA,zB,zC,zD,zE,zF,zG,zH,zI,zJ,zK,zL,zM,zN,zO,zP,zR,zS]at *);omega)⟩,by simp only [];omega,?_⟩;cbv;(repeat' (first|with_reducible refine hold ?_ ?_|with_reducible refine And.intro ?_ ?_));(all_goals first|trivial|exact qM (qE (by rfl))|exact qM (qF (by rfl))|exact qM (Fit.refl _)|exact qL (qK _)|(refine qM (qE ?_);(try simp only [qV]at *);simp only [zQ,zA,zB,zC,zD,zE,zF,zG,zH,zI,zJ,zK,zL,zM,zN,zO,zP,zR,zS]at *;omega)|(refine qL (qJ ?_);(repeat' (first|exact qA|exact qB|refine qC ?_ rfl ?_|refine qD ?_ ?_|exact qE (by rfl)|exact qF (by rfl)|exact Fit.refl _|exact qG _|(refine qE ?_;(try simp only [qV]at *);simp only [zQ,zA,zB,zC,zD,zE,zF,zG,zH,zI,zJ,zK,zL,zM,zN,zO,zP,zR,zS]at *;omega)));done)|(refine qL (qJ (uaT (fun ix h0 h1=>qE (uvK hd (by((try simp only [qV]at *);(try simp only [zQ,zA,zB,zC,zD,zE,zF,zG,zH,zI,zJ,zK,zL,zM,zN,zO,zP,zR,zS]at *);omega)) _)) qA)))|skip))
          |skip
        refine⟨[],L,el,fun _=>Unit,fun i _=>([(0,.cells [(wpS d)] 91),(1,.cells [(.arr 16 (fun ix=>(iv fun _=>(mF d K i) ix.den.toNat)))] 104)],500),?_⟩
        cbv
        refine⟨fun _=>⟨cI,elen⟩,⟨(),?_⟩,?_,?_⟩
        · cbv
          repeat' (first
            |with_reducible refine hold ?_ ?_
            |with_reducible refine And.intro ?_ ?_)
          all_goals first
            |trivial
            |exact qL (qK _)
            |(refine qL (qJ (uaT (fun ix h0 h1=>qE (uve (by((try simp only [qV]at *);(try simp only [zQ,zA,zB,zC,zD,zE,zF,zG,zH,zI,zJ,zK,zL,zM,zN,zO,zP,zR,zS]at *);omega)))) qA)))
            |skip
        · intro i _ hil
          have hil':i<L:=hil
          simp only [ei]
          cbv
          repeat' (first
              |with_reducible refine hold ?_ ?_
              | (refine qP ?_ (c45 i hil) ?hfit
                 case hfit=>((repeat' (first|exact qB|refine qD ?_ ?_|exact qE (by rfl)|exact qF (by rfl)|exact Fit.refl _|exact qA|refine qC ?_ rfl ?_));done)
                 try cbv)
              | ((have hk9:=hKb i hil)
                 refine⟨some [1],?_⟩
                 cbv
                 refine qQ ?_ (c67 (mF d K i) 0 ((K.getD i f0T).s+1) (mLo d (K.getD i f0T)) (mHi d (K.getD i f0T)) (by omega) ⟨by omega,by omega⟩ (by omega)) ?hfit ?hbo
                 case hfit=>(cbv;(repeat' (first|exact qB|refine qD ?_ ?_|exact qE (by rfl)|exact qF (by rfl)|exact Fit.refl _|exact qA|refine qC ?_ rfl ?_));done)
                 case hbo=>(cbv;(repeat' (first|exact qH|refine qI ?_ ?_|exact qK _|refine qJ ?_|exact qA|exact qE (by rfl)|exact qF (by rfl)|exact Fit.refl _|exact qG _|refine qC ?_ rfl ?_));done)
                 try cbv)
              |fail)
          all_goals first
            |((have hk9:=hKb i hil);(try simp only [qV]at *);(try simp only [zQ,zA,zB,zC,zD,zE,zF,zG,zH,zI,zJ,zK,zL,zM,zN,zO,zP,zR,zS]at *);simp only [Hold];first|omega|exact⟨by omega,by omega⟩)
            |(refine⟨(),?_⟩;cbv;(repeat' (first|with_reducible refine hold ?_ ?_|with_reducible refine And.intro ?_ ?_));(all_goals first|trivial|exact qM (qE (by rfl))|exact qM (qF (by rfl))|exact qM (Fit.refl _)|exact qL (qK _)|(refine qM (qE ?_);(try simp only [qV]at *);simp only [zQ,zA,zB,zC,zD,zE,zF,zG,zH,zI,zJ,zK,zL,zM,zN,zO,zP,zR,zS]at *;omega)|(refine qL (qJ ?_);(repeat' (first|exact qA|exact qB|refine qC ?_ rfl ?_|refine qD ?_ ?_|exact qE (by rfl)|exact qF (by rfl)|exact Fit.refl _|exact qG _|(refine qE ?_;(try simp only [qV]at *);simp only [zQ,zA,zB,zC,zD,zE,zF,zG,zH,zI,zJ,zK,zL,zM,zN,zO,zP,zR,zS]at *;omega)));done)|(refine qL (qJ (uaT (fun ix h0 h1=>qE (uvn hK (by rw [←hL];exact hil) _)) qA)))|skip))
            |skip
        · intro _
          cbv
          repeat' (first
              | (refine⟨some [1],?_⟩
                 cbv
                 refine qQ ?_ (c68 (mF d K L) (fun i _=>(hbd i).1) (fun i _=>(hbd i).2)) ?hfit ?hbo
                 case hfit=>(cbv;(repeat' (first|exact qB|refine qD ?_ ?_|exact qE (by rfl)|exact qF (by rfl)|exact Fit.refl _|exact qA|refine qC ?_ rfl ?_));done)
                 case hbo=>(cbv;(repeat' (first|exact qH|refine qI ?_ ?_|exact qK _|refine qJ ?_|exact qA|exact qE (by rfl)|exact qF (by rfl)|exact Fit.refl _|exact qG _|refine qC ?_ rfl ?_));done)
                 try cbv)
              |fail)
          all_goals first
            |(subst hR;(rw [hend];exact Fit.refl _);done)
            |skip
end Go.Proofs.Ytkdggbfknlcdaaa
namespace Go.Proofs.Ytkdggbfknlcdaaa
open Go.Eng.Dif
theorem ulx (fs:List FaT):ubO fs []=fs:=by
  have h:∀n,n≤fs.length→kpT fs (outL []) n=fs.take n:=by
    intro n
    induction n with
    |zero=>intro _;rfl
    | succ n ih=>
      intro hn
      rw [uoY (show outL [] n=true from rfl),ih (by omega),uis (by omega),List.getD_eq_getElem?_getD,List.getElem?_eq_getElem (by omega)]
      rfl
  unfold ubO
  rw [h _ (Nat.le_refl _),List.take_of_length_le (Nat.le_refl _)]
theorem urf {d:Dsp}(h:DOk d) {o:List Int}(hc:canT d d.fs o=true) {i:Nat}(hi:i<16): -2000≤clo (matO d d.fs o) i∧clo (matO d d.fs o) i≤2000:=by
  have hk:=uoF h.f o
  exact⟨unA (okk h hk) hc hi,Int.le_trans (ula _ _) (urh h hk i).2⟩
def ufg (d:Dsp)(n:Int):Int:=if ua7 d=0 then(if inB 0 n ((d.fs.length:Int)-1)=true then 0 else 2)else ua7 d
def uiN (d:Dsp)(n:Int):Int:=if ufg d n=0 then mLo d (d.fs.getD n.toNat f0T)else 0
def ujF (d:Dsp)(n:Int):Int:=if ufg d n=0 then mHi d (d.fs.getD n.toNat f0T)else 0
theorem unR {d:Dsp} {n:Int}(h:¬ua7 d=0):ufg d n=ua7 d∧uiN d n=0∧ujF d n=0:=by
  have e:ufg d n=ua7 d:=by unfold ufg;rw [if_neg h]
  exact⟨e,by unfold uiN;rw [e,if_neg h],by unfold ujF;rw [e,if_neg h]⟩
theorem uqu {d:Dsp} {n:Int}(h:ua7 d=0)(hn:¬(0≤n∧n≤(d.fs.length:Int)-1)):ufg d n=2∧uiN d n=0∧ujF d n=0:=by
  have e:ufg d n=2:=by unfold ufg;rw [if_pos h,if_neg (by rw [uaS];exact hn)]
  exact⟨e,by unfold uiN;rw [e];rfl,by unfold ujF;rw [e];rfl⟩
theorem uit {d:Dsp} {n:Int}(h:ua7 d=0)(hn:0≤n∧n≤(d.fs.length:Int)-1):ufg d n=0∧uiN d n=mLo d (d.fs.getD n.toNat f0T)∧ujF d n=mHi d (d.fs.getD n.toNat f0T):=by
  have e:ufg d n=0:=by unfold ufg;rw [if_pos h,if_pos (by rw [uaS];exact hn)]
  exact⟨e,by unfold uiN;rw [e];rfl,by unfold ujF;rw [e];rfl⟩
def bndE (d:Dsp):Int:=if ua7 d=0 then(if canT d d.fs []=true then 0 else 11)else ua7 d
def bndN (d:Dsp):Int:=if bndE d=0 then d.sn else 0
def loT (d:Dsp)(o:List Int)(s:Nat):Int:= -clo (matO d d.fs o) (at4 (s+1) 0)
def hiT (d:Dsp)(o:List Int)(s:Nat):Int:=clo (matO d d.fs o) (at4 0 (s+1))
theorem ulp {d:Dsp}(h:¬ua7 d=0):bndE d=ua7 d∧bndN d=0:=by
  have e:bndE d=ua7 d:=by unfold bndE;rw [if_neg h]
  exact⟨e,by unfold bndN;rw [e,if_neg h]⟩
theorem ueh {d:Dsp}(h:ua7 d=0)(hc:canT d d.fs []=false):bndE d=11∧bndN d=0:=by
  have e:bndE d=11:=by unfold bndE;rw [if_pos h,if_neg (by rw [hc];simp)]
  exact⟨e,by unfold bndN;rw [e];rfl⟩
theorem ucf {d:Dsp}(h:ua7 d=0)(hc:canT d d.fs []=true):bndE d=0∧bndN d=d.sn:=by
  have e:bndE d=0:=by unfold bndE;rw [if_pos h,if_pos hc]
  exact⟨e,by unfold bndN;rw [e];rfl⟩
theorem ugI {d:Dsp}(h:bndE d=0):ua7 d=0∧canT d d.fs []=true:=by
  by_cases hF:ua7 d=0
  · refine⟨hF,?_⟩
    cases hC:canT d d.fs []with
    |true=>rfl
    |false=>rw [(ueh hF hC).1]at h;omega
  · rw [(ulp hF).1]at h;exact absurd h hF
theorem ukm {d:Dsp}(h:¬bndE d=0):bndN d=0:=by unfold bndN;rw [if_neg h]
end Go.Proofs.Ytkdggbfknlcdaaa
namespace Go.Proofs.Ytkdggbfknlcdaaa
open Go Go.Eng Go.Proofs Go.Eng.Dif Go.Eng.Few
set_option maxRecDepth 10000
theorem uuX (d:Dsp)(n:Int)(hl:d.fs.length≤1000):ua0 Try.prog 13 [(dspS d),(iv fun _=>n)] [] (fun r _=>r=(.tup [(.agg [(iv fun _=>uiN d n),(iv fun _=>ujF d n)]),(iv fun _=>ufg d n)])):=by
  have c16:=ucV d
  have c43:= @ude
  have c44:=uec d
  have c45:=fun (i:Nat) (h:ua7 d=0∧i<d.fs.length)=>urr d (d.fs.getD i f0T) (ua2.1 h.1).t ((ua2.1 h.1).f i h.2)
  refine ua0.is fun R hR=>qW (sc:=sc13) tyok mix Try.func13 rfl Try.call13 (by kernel_rfl) (by kernel_rfl) ?_
  generalize Try.prog=P at c16 c43 c44 c45⊢
  cbv
  repeat' (first
      |with_reducible refine hold ?_ ?_
      |with_reducible refine And.intro ?_ ?_
      |(with_reducible intro hcd;(try simp only [zA,zB,zC,zD,zE,zF,zG,zH,zI,zJ,zK,zL,zM,zN,zO,zP]at hcd);try cbv)
      | (refine qP ?_ (c16) ?hfit
         case hfit=>((repeat' (first|exact qB|refine qD ?_ ?_|exact qE (by rfl)|exact qF (by rfl)|exact Fit.refl _|exact qA|refine qC ?_ rfl ?_));done)
         try cbv)
      | (refine qP ?_ (c43 _ _ _) (by(repeat' (first|exact qB|refine qD ?_ ?_|exact qE (by rfl)|exact qF (by rfl)|exact Fit.refl _|exact qA|refine qC ?_ rfl ?_)))
         try cbv)
      | (refine qP ?_ (c44) ?hfit
         case hfit=>((repeat' (first|exact qB|refine qD ?_ ?_|exact qE (by rfl)|exact qF (by rfl)|exact Fit.refl _|exact qA|refine qC ?_ rfl ?_));done)
         try cbv)
      | ((have hn9:0≤n∧n≤(d.fs.length:Int)-1:=(by((try simp only [qV]at *);(try simp only [zQ,zA,zB,zC,zD,zE,zF,zG,zH,zI,zJ,zK,zL,zM,zN,zO,zP,zR,zS]at *);(try simp only [ual,uan,uaS,ub0,uaZ,ub1,uab,uad,uac,uaf]at *);omega)))
         refine qP ?_ (c45 n.toNat ⟨by first|assumption|omega,by omega⟩) ?hfit
         case hfit=>((repeat' (first|exact qB|refine qD ?_ ?_|exact qE (by rfl)|exact qF (by rfl)|exact Fit.refl _|exact qA|refine qC ?_ rfl ?_));done)
         try cbv)
      |fail)
  all_goals first
    |((try simp only [qV]at *);(try simp only [zQ,zA,zB,zC,zD,zE,zF,zG,zH,zI,zJ,zK,zL,zM,zN,zO,zP,zR,zS,ual,uan,uaS,ub0,uaZ,ub1,uab,uad,uac,uaf]at *);first|(refine qN ?_;omega)|(simp only [Hold];omega))
    |(subst hR;(refine qD (qC (qE ?_) rfl (qC (qE ?_) rfl qA)) (qD (qE ?_) qB)<;>((try simp only [qV]at *);(try simp only [zQ,zA,zB,zC,zD,zE,zF,zG,zH,zI,zJ,zK,zL,zM,zN,zO,zP,zR,zS]at *);(try simp only [ual,uan,uaS,ub0,uaZ,ub1,uab,uad,uac,uaf]at *);(have h0:=unR (d:=d) (n:=n) (by first|assumption|omega));first|exact h0.2.1.symm|exact h0.2.2.symm|exact h0.1.symm));done)
    |(subst hR;(refine qD (qC (qE ?_) rfl (qC (qE ?_) rfl qA)) (qD (qE ?_) qB)<;>((try simp only [qV]at *);(try simp only [zQ,zA,zB,zC,zD,zE,zF,zG,zH,zI,zJ,zK,zL,zM,zN,zO,zP,zR,zS]at *);(try simp only [ual,uan,uaS,ub0,uaZ,ub1,uab,uad,uac,uaf]at *);(have h0:=uqu (d:=d) (n:=n) (by first|assumption|omega) (by first|assumption|omega));first|exact h0.2.1.symm|exact h0.2.2.symm|exact h0.1.symm));done)
    |(subst hR;(refine qD (qC (qE ?_) rfl (qC (qE ?_) rfl qA)) (qD (qE ?_) qB)<;>((try simp only [qV]at *);(try simp only [zQ,zA,zB,zC,zD,zE,zF,zG,zH,zI,zJ,zK,zL,zM,zN,zO,zP,zR,zS]at *);(try simp only [ual,uan,uaS,ub0,uaZ,ub1,uab,uad,uac,uaf]at *);(have h0:=uit (d:=d) (n:=n) (by first|assumption|omega) (by omega));first|exact h0.2.1.symm|exact h0.2.2.symm|exact h0.1.symm));done)
    |skip
theorem uoD (d:Dsp)(h:bndE d=0):ua0 Try.prog 21 [(dspS d)] [] (fun r _=>r=(.tup [(.sl 2 (.sym fun _=>bndN d) (fun ix=>[(iv fun _=>loT d [] ix.den.toNat),(iv fun _=>hiT d [] ix.den.toNat)])),(iv fun _=>bndE d)])):=by
  have c16:=ucV d
  have c44:=uec d
  have hF:=(ugI h).1
  have hC:=(ugI h).2
  have s1:=(ua2.1 hF).s1
  have s3:=(ua2.1 hF).s3
  have c54:=uco d [] (ua2.1 hF) (by simp)
  have hbd:=fun (i:Nat) (hi:i<16)=>urf (ua2.1 hF) hC hi
  have c55:=fun (s:Int) (hs:0≤s∧s<3)=>ul1 (clo (matO d d.fs [])) s hs (fun i hi=>⟨by have:=hbd i hi;omega,by have:=hbd i hi;omega⟩)
  refine ua0.is fun R hR=>qW (sc:=sc21) tyok mix Try.func21 rfl Try.call21 (by kernel_rfl) (by kernel_rfl) ?_
  generalize Try.prog=P at c16 c44 c54 c55⊢
  cbv
  repeat' (first
      |with_reducible refine And.intro ?_ ?_
      |(with_reducible intro hcd;(try simp only [zA,zB,zC,zD,zE,zF,zG,zH,zI,zJ,zK,zL,zM,zN,zO,zP]at hcd);try cbv)
      | (refine qP ?_ (c16) ?hfit
         case hfit=>((repeat' (first|exact qB|refine qD ?_ ?_|exact qE (by rfl)|exact qF (by rfl)|exact Fit.refl _|exact qA|refine qC ?_ rfl ?_));done)
         try cbv)
      | (refine qP ?_ (c44) ?hfit
         case hfit=>((repeat' (first|exact qB|refine qD ?_ ?_|exact qE (by rfl)|exact qF (by rfl)|exact Fit.refl _|exact qA|refine qC ?_ rfl ?_));done)
         try cbv)
      | (refine qP ?_ (c54) ?hfit
         case hfit=>((refine qD (Fit.refl _) (qD (qO rfl) qB));done)
         try cbv)
      |fail)
  all_goals first
    |trivial
    |(exfalso;rw [hC]at hcd;cases hcd;done)
    |skip
  refine⟨none,[⟨.tmp 7,33,2⟩],{s:Nat // s≤d.sn.toNat},fun x=>⟨[(1,.own 0 0),(5,.own 14 0),(7,.row 23),(23,(iv fun _=>d.sn)),(24,(iv fun _=>zi x.1))],[(0,.cells [(iS d.tw),(iS d.tm),(.sl 1 (.sym fun _=>zi (d.tv).length) (fun ix=>[(.sl 1 (.sym fun _=>zi ((d.tv).getD ix.den.toNat []).length) (fun jx=>[(iv fun _=>((d.tv).getD ix.den.toNat []).getD jx.den.toNat 0)]))])),(iv fun _=>d.sn),(iv fun _=>d.pn),(.sl 4 (.sym fun _=>zi (d.ls).length) (fun ix=>[(iv fun _=>((d.ls).getD ix.den.toNat l0T).a),(iv fun _=>((d.ls).getD ix.den.toNat l0T).b),(iv fun _=>((d.ls).getD ix.den.toNat l0T).lo),(iv fun _=>((d.ls).getD ix.den.toNat l0T).hi)])),(.sl 6 (.sym fun _=>zi (d.fs).length) (fun ix=>[(iv fun _=>((d.fs).getD ix.den.toNat f0T).p),(iv fun _=>((d.fs).getD ix.den.toNat f0T).s),(iv fun _=>((d.fs).getD ix.den.toNat f0T).wl),(iv fun _=>((d.fs).getD ix.den.toNat f0T).wh),(iv fun _=>((d.fs).getD ix.den.toNat f0T).ml),(iv fun _=>((d.fs).getD ix.den.toNat f0T).mh)]))] 41),(14,.cells [(.arr 16 (fun ix=>(iv fun _=>(clo (matO d d.fs [])) ix.den.toNat)))] 104),(23,.row 33 2 (.sym fun _=>zi x.1) (fun ix=>[(iv fun _=>loT d [] ix.den.toNat),(iv fun _=>hiT d [] ix.den.toNat)]))],100⟩,fun x=>d.sn.toNat-x.1,?_,?_⟩
  · refine⟨⟨0,by omega⟩,?_⟩
    cbv
    repeat' (first
      |with_reducible refine hold ?_ ?_
      |with_reducible refine And.intro ?_ ?_)
    all_goals first
      |trivial
      |exact qM (qE (by rfl))
      |exact qM (Fit.refl _)
      |exact qL (qK _)
      |(refine qL (uae ?_ ?_);(first|rfl|((try simp only [qV]at *);(try simp only [zQ,zA,zB,zC,zD,zE,zF,zG,zH,zI,zJ,zK,zL,zM,zN,zO,zP,zR,zS]at *);omega));intro ix h0 h1;exfalso;(try simp only [qV]at *);(try simp only [zQ,zA,zB,zC,zD,zE,zF,zG,zH,zI,zJ,zK,zL,zM,zN,zO,zP,zR,zS]at *);omega)
      |skip
  · rintro ⟨s,hs⟩
    cbv
    repeat' (first
        |with_reducible refine hold ?_ ?_
        |with_reducible refine And.intro ?_ ?_
        |(with_reducible intro hcd;(try simp only [zA,zB,zC,zD,zE,zF,zG,zH,zI,zJ,zK,zL,zM,zN,zO,zP]at hcd);try cbv)
        | (refine⟨some [14],?_⟩
           cbv
           refine qQ ?_ (c55 (zi s) ⟨(by((try simp only [qV]at *);(try simp only [zQ,zA,zB,zC,zD,zE,zF,zG,zH,zI,zJ,zK,zL,zM,zN,zO,zP,zR,zS]at *);omega)),(by((try simp only [qV]at *);(try simp only [zQ,zA,zB,zC,zD,zE,zF,zG,zH,zI,zJ,zK,zL,zM,zN,zO,zP,zR,zS]at *);omega))⟩) ?hfit ?hbo
           case hfit=>(cbv;(repeat' (first|exact qB|refine qD ?_ ?_|exact qE (by rfl)|exact qF (by rfl)|exact Fit.refl _|exact qA|refine qC ?_ rfl ?_));done)
           case hbo=>(cbv;(repeat' (first|exact qH|refine qI ?_ ?_|exact qK _|refine qJ ?_|exact qA|exact qE (by rfl)|exact qF (by rfl)|exact Fit.refl _|exact qG _|refine qC ?_ rfl ?_));done)
           try cbv)
        | (refine⟨fun ix=>[(iv fun _=>loT d [] ix.den.toNat),(iv fun _=>hiT d [] ix.den.toNat)],?_⟩
           cbv
           refine hold (ubX (by intro ix jx h0 h1 h2;simp only [h2];exact Fit.refl _) (by intro ix jx h0 h1 h2;(have h3:jx.den.toNat=s:=by((try simp only [qV]at *);(try simp only [zQ,zA,zB,zC,zD,zE,zF,zG,zH,zI,zJ,zK,zL,zM,zN,zO,zP,zR,zS]at *);omega));simp only [h3];exact qC (qE rfl) rfl (qC (qE rfl) rfl qA)) (by(try simp only [qV]at *);(try simp only [zQ,zA,zB,zC,zD,zE,zF,zG,zH,zI,zJ,zK,zL,zM,zN,zO,zP,zR,zS]at *);omega)) (Or.inl ?_)
           try cbv)
        |fail)
    all_goals first
      |((try simp only [qV]at *);(try simp only [zQ,zA,zB,zC,zD,zE,zF,zG,zH,zI,zJ,zK,zL,zM,zN,zO,zP,zR,zS]at *);first|(refine qN ?_;omega)|(simp only [Hold];omega))
      |((have hse:(s:Int)=d.sn:=(by((try simp only [qV]at *);(try simp only [zQ,zA,zB,zC,zD,zE,zF,zG,zH,zI,zJ,zK,zL,zM,zN,zO,zP,zR,zS]at *);omega)));subst hR;exact qD (ua1 (hse.trans (ucf hF hC).2.symm) (fun _ _ _=>Fit.refl _)) (qD (qE h.symm) qB))
      |((try simp only [zQ,zA,zB,zC,zD,zE,zF,zG,zH,zI,zJ,zK,zL,zM,zN,zO,zP,zR,zS]at *);refine⟨⟨s+1,by((try simp only [qV]at *);(try simp only [zQ,zA,zB,zC,zD,zE,zF,zG,zH,zI,zJ,zK,zL,zM,zN,zO,zP,zR,zS]at *);omega)⟩,by simp only [];omega,?_⟩;cbv;(repeat' (first|with_reducible refine hold ?_ ?_|with_reducible refine And.intro ?_ ?_));(all_goals first|trivial|exact qM (qE (by rfl))|exact qM (qF (by rfl))|exact qM (Fit.refl _)|exact qL (qK _)|(refine qM (qE ?_);(try simp only [qV]at *);simp only [zQ,zA,zB,zC,zD,zE,zF,zG,zH,zI,zJ,zK,zL,zM,zN,zO,zP,zR,zS]at *;omega)|(refine qL (qJ ?_);(repeat' (first|exact qA|exact qB|refine qC ?_ rfl ?_|refine qD ?_ ?_|exact qE (by rfl)|exact qF (by rfl)|exact Fit.refl _|exact qG _|(refine qE ?_;(try simp only [qV]at *);simp only [zQ,zA,zB,zC,zD,zE,zF,zG,zH,zI,zJ,zK,zL,zM,zN,zO,zP,zR,zS]at *;omega)));done)|(refine qL (uae ?_ ?_)<;>first|rfl|((try simp only [qV]at *);(try simp only [zQ,zA,zB,zC,zD,zE,zF,zG,zH,zI,zJ,zK,zL,zM,zN,zO,zP,zR,zS]at *);omega)|(intro ix h0 h1;exact Fit.refl _))|skip))
      |skip
theorem uoA (d:Dsp)(h:¬bndE d=0):ua0 Try.prog 21 [(dspS d)] [] (fun r _=>r=(.tup [(.sl 2 (.sym fun _=>bndN d) (fun ix=>[(iv fun _=>loT d [] ix.den.toNat),(iv fun _=>hiT d [] ix.den.toNat)])),(iv fun _=>bndE d)])):=by
  have c16:=ucV d
  have c44:=uec d
  have c54:=fun h:ua7 d=0=>uco d [] (ua2.1 h) (by simp)
  refine ua0.is fun R hR=>qW (sc:=sc21) tyok mix Try.func21 rfl Try.call21 (by kernel_rfl) (by kernel_rfl) ?_
  generalize Try.prog=P at c16 c44 c54⊢
  cbv
  repeat' (first
      |with_reducible refine And.intro ?_ ?_
      |(with_reducible intro hcd;(try simp only [zA,zB,zC,zD,zE,zF,zG,zH,zI,zJ,zK,zL,zM,zN,zO,zP]at hcd);try cbv)
      | (refine qP ?_ (c16) ?hfit
         case hfit=>((repeat' (first|exact qB|refine qD ?_ ?_|exact qE (by rfl)|exact qF (by rfl)|exact Fit.refl _|exact qA|refine qC ?_ rfl ?_));done)
         try cbv)
      | (refine qP ?_ (c44) ?hfit
         case hfit=>((repeat' (first|exact qB|refine qD ?_ ?_|exact qE (by rfl)|exact qF (by rfl)|exact Fit.refl _|exact qA|refine qC ?_ rfl ?_));done)
         try cbv)
      | (refine qP ?_ (c54 (show Hold _ from ?_)) ?hfit
         case hfit=>((refine qD (Fit.refl _) (qD (qO rfl) qB));done)
         try cbv)
      |fail)
  all_goals first
    |trivial
    |(subst hR;((try simp only [qV]at *);(try simp only [zQ,zA,zB,zC,zD,zE,zF,zG,zH,zI,zJ,zK,zL,zM,zN,zO,zP,zR,zS]at *);(exact qD (qO (ukm h)) (qD (qE (ulp (d:=d) (by first|assumption|omega)).1.symm) qB)));done)
    |(subst hR;((try simp only [qV]at *);(try simp only [zQ,zA,zB,zC,zD,zE,zF,zG,zH,zI,zJ,zK,zL,zM,zN,zO,zP,zR,zS]at *);(exact qD (qO (ukm h)) (qD (qE (ueh (d:=d) (by first|assumption|omega) (by assumption)).1.symm) qB)));done)
    |(exfalso;exact h (ucf (by((try simp only [qV]at *);(try simp only [zQ,zA,zB,zC,zD,zE,zF,zG,zH,zI,zJ,zK,zL,zM,zN,zO,zP,zR,zS]at *);first|assumption|omega)) (by assumption)).1)
    |skip
theorem ubi (d:Dsp):ua0 Try.prog 21 [(dspS d)] [] (fun r _=>r=(.tup [(.sl 2 (.sym fun _=>bndN d) (fun ix=>[(iv fun _=>loT d [] ix.den.toNat),(iv fun _=>hiT d [] ix.den.toNat)])),(iv fun _=>bndE d)])):=by
  by_cases h:bndE d=0
  · exact uoD d h
  · exact uoA d h
theorem uoE (l:List Int)(hl:l.length≤1000):ub8 Try.prog 94 [(iS l)] [] (fun r bs=>r = .row 0∧bs=[.row 3 1 (.sym fun _=>zi l.length) (fun ix=>[(iv fun _=>l.getD ix.den.toNat 0)])]):=by
  refine ub8.is rfl rfl fun R B hR hB=>ueV (sc:=sc94) tyok mix Try.func94 rfl Try.call94 (by kernel_rfl) (by kernel_rfl) ?_
  generalize Try.prog=P
  cbv
  repeat' (first
      |with_reducible refine hold ?_ ?_
      |with_reducible refine And.intro ?_ ?_
      |(with_reducible intro hcd;(try simp only [zA,zB,zC,zD,zE,zF,zG,zH,zI,zJ,zK,zL,zM,zN,zO,zP]at hcd);try cbv)
      |fail)
  all_goals first
    |((try simp only [qV]at *);(try simp only [zQ,zA,zB,zC,zD,zE,zF,zG,zH,zI,zJ,zK,zL,zM,zN,zO,zP,zR,zS]at *);first|(refine qN ?_;omega)|(simp only [Hold];omega))
    |(refine⟨[⟨.tmp 2,3,1⟩],(4:Nat),?_⟩;cbv;subst hR;subst hB;refine⟨?_,?_⟩;(first|exact Fit.refl _|((repeat' (first|exact qA|exact qB|refine qC ?_ rfl ?_|refine qD ?_ ?_|exact qE (by rfl)|exact qF (by rfl)|exact Fit.refl _|exact qG _|(refine qE ?_;(try simp only [qV]at *);simp only [zQ,zA,zB,zC,zD,zE,zF,zG,zH,zI,zJ,zK,zL,zM,zN,zO,zP,zR,zS]at *;omega)));done));(repeat' (first|exact qH|refine qI ?_ ?_));(all_goals first|exact qK _|(refine qJ ?_;(repeat' (first|exact qA|exact qB|refine qC ?_ rfl ?_|refine qD ?_ ?_|exact qE (by rfl)|exact qF (by rfl)|exact Fit.refl _|exact qG _|(refine qE ?_;(try simp only [qV]at *);simp only [zQ,zA,zB,zC,zD,zE,zF,zG,zH,zI,zJ,zK,zL,zM,zN,zO,zP,zR,zS]at *;omega)));done)|(refine uae ?_ ?_;(first|rfl|((try simp only [qV]at *);(try simp only [zQ,zA,zB,zC,zD,zE,zF,zG,zH,zI,zJ,zK,zL,zM,zN,zO,zP,zR,zS]at *);omega));intro ix h0 h1;first|exact Fit.refl _|(exfalso;(try simp only [qV]at *);(try simp only [zQ,zA,zB,zC,zD,zE,zF,zG,zH,zI,zJ,zK,zL,zM,zN,zO,zP,zR,zS]at *);omega))))
    |(refine⟨[],(5:Nat),?_⟩;cbv;subst hR;subst hB;refine⟨?_,?_⟩;(first|exact Fit.refl _|((repeat' (first|exact qA|exact qB|refine qC ?_ rfl ?_|refine qD ?_ ?_|exact qE (by rfl)|exact qF (by rfl)|exact Fit.refl _|exact qG _|(refine qE ?_;(try simp only [qV]at *);simp only [zQ,zA,zB,zC,zD,zE,zF,zG,zH,zI,zJ,zK,zL,zM,zN,zO,zP,zR,zS]at *;omega)));done));(repeat' (first|exact qH|refine qI ?_ ?_));(all_goals first|exact qK _|(refine qJ ?_;(repeat' (first|exact qA|exact qB|refine qC ?_ rfl ?_|refine qD ?_ ?_|exact qE (by rfl)|exact qF (by rfl)|exact Fit.refl _|exact qG _|(refine qE ?_;(try simp only [qV]at *);simp only [zQ,zA,zB,zC,zD,zE,zF,zG,zH,zI,zJ,zK,zL,zM,zN,zO,zP,zR,zS]at *;omega)));done)|(refine uae ?_ ?_;(first|rfl|((try simp only [qV]at *);(try simp only [zQ,zA,zB,zC,zD,zE,zF,zG,zH,zI,zJ,zK,zL,zM,zN,zO,zP,zR,zS]at *);omega));intro ix h0 h1;first|exact Fit.refl _|(exfalso;(try simp only [qV]at *);(try simp only [zQ,zA,zB,zC,zD,zE,zF,zG,zH,zI,zJ,zK,zL,zM,zN,zO,zP,zR,zS]at *);omega))))
    |skip
theorem ujY (l:List FaT)(hl:l.length≤1000):ua0 Try.prog 92 [(.sl 6 (.sym fun _=>zi (l).length) (fun ix=>[(iv fun _=>((l).getD ix.den.toNat f0T).p),(iv fun _=>((l).getD ix.den.toNat f0T).s),(iv fun _=>((l).getD ix.den.toNat f0T).wl),(iv fun _=>((l).getD ix.den.toNat f0T).wh),(iv fun _=>((l).getD ix.den.toNat f0T).ml),(iv fun _=>((l).getD ix.den.toNat f0T).mh)]))] [] (fun r _=>r=(.sl 6 (.sym fun _=>zi (l).length) (fun ix=>[(iv fun _=>((l).getD ix.den.toNat f0T).p),(iv fun _=>((l).getD ix.den.toNat f0T).s),(iv fun _=>((l).getD ix.den.toNat f0T).wl),(iv fun _=>((l).getD ix.den.toNat f0T).wh),(iv fun _=>((l).getD ix.den.toNat f0T).ml),(iv fun _=>((l).getD ix.den.toNat f0T).mh)]))):=by
  refine ua0.is fun R hR=>qW (sc:=sc92) tyok mix Try.func92 rfl Try.call92 (by kernel_rfl) (by kernel_rfl) ?_
  generalize Try.prog=P
  cbv
  repeat' (first
      |with_reducible refine hold ?_ ?_
      |with_reducible refine And.intro ?_ ?_
      |(with_reducible intro hcd;(try simp only [zA,zB,zC,zD,zE,zF,zG,zH,zI,zJ,zK,zL,zM,zN,zO,zP]at hcd);try cbv)
      |fail)
  all_goals first
    |((try simp only [qV]at *);(try simp only [zQ,zA,zB,zC,zD,zE,zF,zG,zH,zI,zJ,zK,zL,zM,zN,zO,zP,zR,zS]at *);first|(refine qN ?_;omega)|(simp only [Hold];omega))
    |(subst hR;exact qO (by((try simp only [qV]at *);(try simp only [zQ,zA,zB,zC,zD,zE,zF,zG,zH,zI,zJ,zK,zL,zM,zN,zO,zP,zR,zS]at *);omega));done)
    |(subst hR;exact Fit.refl _;done)
    |skip
end Go.Proofs.Ytkdggbfknlcdaaa
namespace Go.Proofs.Ytkdggbfknlcdaaa
open Go.Eng.Dif
def noF (d:Dsp):Dsp:=⟨d.tw,d.tm,d.tv,d.sn,d.pn,d.ls,[]⟩
def uc8 (d:Dsp)(fs:List FaT):Dsp:=⟨d.tw,d.tm,d.tv,d.sn,d.pn,d.ls,fs⟩
theorem ul3 {d:Dsp}(h:DOk d) {fs:List FaT}(hl:fs.length≤6)(hf:∀f∈fs,ubo d f):DOk (uc8 d fs):=
  ⟨h.t,h.s1,h.s3,h.p1,h.p4,h.l4,hl,h.l,FOk.of (d:=d) hf⟩
theorem uoC {d:Dsp}(h:DOk d):DOk (noF d):=ul3 h (fs:=[]) (by simp) (fun f hf=>by cases hf)
def ucK (d:Dsp):Bool:=canT (noF d) [] []
def ua4 (d:Dsp):Int:=if ua7 d=0 then(if ucK d=true then 0 else 9)else ua7 d
theorem ujE {d:Dsp}(h:¬ua7 d=0):ua4 d=ua7 d:=by unfold ua4;rw [if_neg h]
theorem uhW {d:Dsp}(h:ua7 d=0)(hc:ucK d=false):ua4 d=9:=by unfold ua4;rw [if_pos h,if_neg (by rw [hc];simp)]
theorem ud6 {d:Dsp}(h:ua7 d=0)(hc:ucK d=true):ua4 d=0:=by unfold ua4;rw [if_pos h,if_pos hc]
theorem uau {d:Dsp}(h:ua4 d=0):ua7 d=0∧ucK d=true:=by
  by_cases hF:ua7 d=0
  · refine⟨hF,?_⟩
    cases hC:ucK d with
    |true=>rfl
    |false=>rw [uhW hF hC]at h;omega
  · rw [ujE hF]at h;exact absurd h hF
theorem uda (d:Dsp):ucK d=canD (SN d) (LO d) []:=rfl
end Go.Proofs.Ytkdggbfknlcdaaa
namespace Go.Proofs.Ytkdggbfknlcdaaa
open Go Go.Eng Go.Proofs Go.Eng.Dif Go.Eng.Few
set_option maxRecDepth 10000
theorem usu (d:Dsp):ub8 Try.prog 44 [(dspS d)] [] (fun r bs=>r = .own 0 0∧bs=[.cells [(iS d.tw),(iS d.tm),(.sl 1 (.sym fun _=>zi (d.tv).length) (fun ix=>[(.sl 1 (.sym fun _=>zi ((d.tv).getD ix.den.toNat []).length) (fun jx=>[(iv fun _=>((d.tv).getD ix.den.toNat []).getD jx.den.toNat 0)]))])),(iv fun _=>d.sn),(iv fun _=>d.pn),(.sl 4 (.sym fun _=>zi (d.ls).length) (fun ix=>[(iv fun _=>((d.ls).getD ix.den.toNat l0T).a),(iv fun _=>((d.ls).getD ix.den.toNat l0T).b),(iv fun _=>((d.ls).getD ix.den.toNat l0T).lo),(iv fun _=>((d.ls).getD ix.den.toNat l0T).hi)])),(.sl 6 (.sym fun _=>zi (d.fs).length) (fun ix=>[(iv fun _=>((d.fs).getD ix.den.toNat f0T).p),(iv fun _=>((d.fs).getD ix.den.toNat f0T).s),(iv fun _=>((d.fs).getD ix.den.toNat f0T).wl),(iv fun _=>((d.fs).getD ix.den.toNat f0T).wh),(iv fun _=>((d.fs).getD ix.den.toNat f0T).ml),(iv fun _=>((d.fs).getD ix.den.toNat f0T).mh)])),(.memo 89 33 false 6 (fun ks=>.agg [(iv fun _=>kLo d ks),(iv fun _=>kHi d ks)]))] 117]):=by
  have hmt:=ue6
  refine ub8.is rfl rfl fun R B hR hB=>ueV (sc:=sc44) tyok mix Try.func44 rfl Try.call44 (by kernel_rfl) (by kernel_rfl) ?_
  generalize Try.prog=P at hmt⊢
  cbv
  repeat' (first
      | (refine⟨89,33,false,6,?_⟩
         cbv
         refine hold ⟨hmt,fun h=>by cases h⟩ ?_
         refine Or.inr ⟨(fun ks=>.agg [(iv fun _=>kLo d ks),(iv fun _=>kHi d ks)]),?_⟩
         cbv)
      |fail)
  all_goals first
    |(refine⟨[],(5:Nat),?_⟩;cbv;subst hR;subst hB;refine⟨?_,?_⟩;(first|exact Fit.refl _|((repeat' (first|exact qA|exact qB|refine qC ?_ rfl ?_|refine qD ?_ ?_|exact qE (by rfl)|exact qF (by rfl)|exact Fit.refl _|exact qG _|(refine qE ?_;(try simp only [qV]at *);simp only [zQ,zA,zB,zC,zD,zE,zF,zG,zH,zI,zJ,zK,zL,zM,zN,zO,zP,zR,zS]at *;omega)));done));(repeat' (first|exact qH|refine qI ?_ ?_));(all_goals first|exact qK _|(refine qJ ?_;(repeat' (first|exact qA|exact qB|refine qC ?_ rfl ?_|refine qD ?_ ?_|exact qE (by rfl)|exact qF (by rfl)|exact Fit.refl _|exact qG _|(refine qE ?_;(try simp only [qV]at *);simp only [zQ,zA,zB,zC,zD,zE,zF,zG,zH,zI,zJ,zK,zL,zM,zN,zO,zP,zR,zS]at *;omega)));done)|(refine uae ?_ ?_;(first|rfl|((try simp only [qV]at *);(try simp only [zQ,zA,zB,zC,zD,zE,zF,zG,zH,zI,zJ,zK,zL,zM,zN,zO,zP,zR,zS]at *);omega));intro ix h0 h1;first|exact Fit.refl _|(exfalso;(try simp only [qV]at *);(try simp only [zQ,zA,zB,zC,zD,zE,zF,zG,zH,zI,zJ,zK,zL,zM,zN,zO,zP,zR,zS]at *);omega))))
    |skip
theorem ul8 (d:Dsp)(h:ua4 d=0):ua0 Try.prog 59 [(dspS d)] [] (fun r _=>r=(.tup [(wpS d),(iv fun _=>0)])):=by
  have c16:=ucV d
  have c44:=uec d
  have c44n:=uec (noF d)
  have c92:=ujY d.fs
  have hmt:=ue6
  have hF:=(uau h).1
  have hC:=(uau h).2
  have f6:=(ua2.1 hF).f6
  have c54:=uco (noF d) [] (uoC (ua2.1 hF)) (by simp)
  have hLn:canT (noF d) (noF d).fs []=true:=hC
  rw [hLn]at c54
  refine ua0.is fun R hR=>qW (sc:=sc59) tyok mix Try.func59 rfl Try.call59 (by kernel_rfl) (by kernel_rfl) ?_
  generalize Try.prog=P at c16 c44 c44n c92 hmt c54⊢
  cbv
  repeat' (first
      |with_reducible refine And.intro ?_ ?_
      |(with_reducible intro hcd;(try simp only [zA,zB,zC,zD,zE,zF,zG,zH,zI,zJ,zK,zL,zM,zN,zO,zP]at hcd);try cbv)
      | (refine qP ?_ (c16) ?hfit
         case hfit=>((repeat' (first|exact qB|refine qD ?_ ?_|exact qE (by rfl)|exact qF (by rfl)|exact Fit.refl _|exact qA|refine qC ?_ rfl ?_));done)
         try cbv)
      | (refine qP ?_ (c44) ?hfit
         case hfit=>((repeat' (first|exact qB|refine qD ?_ ?_|exact qE (by rfl)|exact qF (by rfl)|exact Fit.refl _|exact qA|refine qC ?_ rfl ?_));done)
         try cbv)
      | (refine qP ?_ (c92 (by((try simp only [qV]at *);(try simp only [zQ,zA,zB,zC,zD,zE,zF,zG,zH,zI,zJ,zK,zL,zM,zN,zO,zP,zR,zS]at *);omega))) ?hfit
         case hfit=>((repeat' (first|exact qB|refine qD ?_ ?_|exact qE (by rfl)|exact qF (by rfl)|exact Fit.refl _|exact qA|refine qC ?_ rfl ?_));done)
         try cbv)
      | (refine qP ?_ (c44n) ?hfit
         case hfit=>((refine qD ((qC (Fit.refl _) rfl (qC (Fit.refl _) rfl (qC (Fit.refl _) rfl (qC (Fit.refl _) rfl (qC (Fit.refl _) rfl (qC (Fit.refl _) rfl (qC (qO rfl) rfl qA)))))))) qB);done)
         try cbv)
      | (refine qP ?_ (c54) ?hfit
         case hfit=>((refine qD (Fit.refl _) (qD (qO rfl) qB));done)
         try cbv)
      |fail)
  all_goals first
    |trivial
    |(subst hR;(repeat' (first|exact qA|exact qB|refine qC ?_ rfl ?_|refine qD ?_ ?_|exact qE (by rfl)|exact qF (by rfl)|exact Fit.refl _|exact qG _|(refine qE ?_;(try simp only [qV]at *);simp only [zQ,zA,zB,zC,zD,zE,zF,zG,zH,zI,zJ,zK,zL,zM,zN,zO,zP,zR,zS]at *;omega)));done)
    |skip
theorem usA (d:Dsp)(h:ua4 d=0):ub8 Try.prog 59 [(dspS d)] [] (fun r bs=>r=(.tup [.own 0 0,(iv fun _=>0)])∧bs=[.cells [(iS d.tw),(iS d.tm),(.sl 1 (.sym fun _=>zi (d.tv).length) (fun ix=>[(.sl 1 (.sym fun _=>zi ((d.tv).getD ix.den.toNat []).length) (fun jx=>[(iv fun _=>((d.tv).getD ix.den.toNat []).getD jx.den.toNat 0)]))])),(iv fun _=>d.sn),(iv fun _=>d.pn),(.sl 4 (.sym fun _=>zi (d.ls).length) (fun ix=>[(iv fun _=>((d.ls).getD ix.den.toNat l0T).a),(iv fun _=>((d.ls).getD ix.den.toNat l0T).b),(iv fun _=>((d.ls).getD ix.den.toNat l0T).lo),(iv fun _=>((d.ls).getD ix.den.toNat l0T).hi)])),(.sl 6 (.sym fun _=>zi (d.fs).length) (fun ix=>[(iv fun _=>((d.fs).getD ix.den.toNat f0T).p),(iv fun _=>((d.fs).getD ix.den.toNat f0T).s),(iv fun _=>((d.fs).getD ix.den.toNat f0T).wl),(iv fun _=>((d.fs).getD ix.den.toNat f0T).wh),(iv fun _=>((d.fs).getD ix.den.toNat f0T).ml),(iv fun _=>((d.fs).getD ix.den.toNat f0T).mh)])),(.memo 89 33 false 6 (fun ks=>.agg [(iv fun _=>kLo d ks),(iv fun _=>kHi d ks)]))] 117]):=by
  have c16:=ucV d
  have c44:=uec d
  have c44n:=uec (noF d)
  have c92:=ujY d.fs
  have hmt:=ue6
  have hF:=(uau h).1
  have hC:=(uau h).2
  have f6:=(ua2.1 hF).f6
  have c54:=uco (noF d) [] (uoC (ua2.1 hF)) (by simp)
  have hLn:canT (noF d) (noF d).fs []=true:=hC
  rw [hLn]at c54
  have c44o:=usu d
  refine ub8.is rfl rfl fun R B hR hB=>ueV (sc:=sc59) tyok mix Try.func59 rfl Try.call59 (by kernel_rfl) (by kernel_rfl) ?_
  generalize Try.prog=P at c16 c44 c44n c92 hmt c54 c44o⊢
  cbv
  repeat' (first
      |with_reducible refine And.intro ?_ ?_
      |(with_reducible intro hcd;(try simp only [zA,zB,zC,zD,zE,zF,zG,zH,zI,zJ,zK,zL,zM,zN,zO,zP]at hcd);try cbv)
      | (refine qP ?_ (c16) ?hfit
         case hfit=>((repeat' (first|exact qB|refine qD ?_ ?_|exact qE (by rfl)|exact qF (by rfl)|exact Fit.refl _|exact qA|refine qC ?_ rfl ?_));done)
         try cbv)
      | (refine qP ?_ (c92 (by((try simp only [qV]at *);(try simp only [zQ,zA,zB,zC,zD,zE,zF,zG,zH,zI,zJ,zK,zL,zM,zN,zO,zP,zR,zS]at *);omega))) ?hfit
         case hfit=>((repeat' (first|exact qB|refine qD ?_ ?_|exact qE (by rfl)|exact qF (by rfl)|exact Fit.refl _|exact qA|refine qC ?_ rfl ?_));done)
         try cbv)
      | (refine qP ?_ (c44n) ?hfit
         case hfit=>((refine qD ((qC (Fit.refl _) rfl (qC (Fit.refl _) rfl (qC (Fit.refl _) rfl (qC (Fit.refl _) rfl (qC (Fit.refl _) rfl (qC (Fit.refl _) rfl (qC (qO rfl) rfl qA)))))))) qB);done)
         try cbv)
      | (refine qP ?_ (c54) ?hfit
         case hfit=>((refine qD (Fit.refl _) (qD (qO rfl) qB));done)
         try cbv)
      | (refine Or.inr ⟨true,?_⟩
         cbv
         refine qU ?_ (c44o) (by cbv;(repeat' (first|exact qB|refine qD ?_ ?_|exact qE (by rfl)|exact qF (by rfl)|exact Fit.refl _|exact qA|refine qC ?_ rfl ?_))) (by cbv;(repeat' (first|exact qH|refine qI ?_ ?_|exact qK _|refine qJ ?_|exact qA|exact qE (by rfl)|exact qF (by rfl)|exact Fit.refl _|exact qG _|refine qC ?_ rfl ?_)))
         try cbv)
      |fail)
  all_goals first
    |trivial
    |(refine⟨[],(30:Nat),?_⟩;cbv;subst hR;subst hB;refine⟨qD (Fit.refl _) (qD (qE rfl) qB),?_⟩;(repeat' (first|exact qH|refine qI ?_ ?_));(all_goals first|exact qK _|(refine qJ ?_;(repeat' (first|exact qA|exact qB|refine qC ?_ rfl ?_|refine qD ?_ ?_|exact qE (by rfl)|exact qF (by rfl)|exact Fit.refl _|exact qG _|(refine qE ?_;(try simp only [qV]at *);simp only [zQ,zA,zB,zC,zD,zE,zF,zG,zH,zI,zJ,zK,zL,zM,zN,zO,zP,zR,zS]at *;omega)));done)))
    |skip
theorem uhY (d:Dsp)(h:¬ua4 d=0):ua0 Try.prog 59 [(dspS d)] [] (fun r _=>r=(.tup [.val (Value.pointer none),(iv fun _=>ua4 d)])):=by
  have c16:=ucV d
  have c44:=uec d
  have c44n:=uec (noF d)
  have c92:=ujY d.fs
  have hmt:=ue6
  have c54:=fun h:ua7 d=0=>(show ua0 Try.prog 54 [(wpS (noF d)),(iS (([]:List Int)))] [] (fun r _=>r=(.tup [(.agg [(.arr 16 (fun ix=>(iv fun _=>(clo (matO (noF d) (noF d).fs [])) ix.den.toNat)))]),(.bool (.sym fun _=>ucK d))]))from uco (noF d) [] (uoC (ua2.1 h)) (by simp))
  have hf6:=fun h:ua7 d=0=>(ua2.1 h).f6
  refine ua0.is fun R hR=>qW (sc:=sc59) tyok mix Try.func59 rfl Try.call59 (by kernel_rfl) (by kernel_rfl) ?_
  generalize Try.prog=P at c16 c44 c44n c92 hmt c54⊢
  cbv
  repeat' (first
      |with_reducible refine And.intro ?_ ?_
      |(with_reducible intro hcd;(try simp only [zA,zB,zC,zD,zE,zF,zG,zH,zI,zJ,zK,zL,zM,zN,zO,zP]at hcd);try cbv)
      | (refine qP ?_ (c16) ?hfit
         case hfit=>((repeat' (first|exact qB|refine qD ?_ ?_|exact qE (by rfl)|exact qF (by rfl)|exact Fit.refl _|exact qA|refine qC ?_ rfl ?_));done)
         try cbv)
      | (refine qP ?_ (c44) ?hfit
         case hfit=>((repeat' (first|exact qB|refine qD ?_ ?_|exact qE (by rfl)|exact qF (by rfl)|exact Fit.refl _|exact qA|refine qC ?_ rfl ?_));done)
         try cbv)
      | ((have hF9:ua7 d=0:=(by((try simp only [qV]at *);(try simp only [zQ,zA,zB,zC,zD,zE,zF,zG,zH,zI,zJ,zK,zL,zM,zN,zO,zP,zR,zS]at *);omega)))
         (have f6:=hf6 hF9)
         refine qP ?_ (c92 (by((try simp only [qV]at *);(try simp only [zQ,zA,zB,zC,zD,zE,zF,zG,zH,zI,zJ,zK,zL,zM,zN,zO,zP,zR,zS]at *);omega))) ?hfit
         case hfit=>((repeat' (first|exact qB|refine qD ?_ ?_|exact qE (by rfl)|exact qF (by rfl)|exact Fit.refl _|exact qA|refine qC ?_ rfl ?_));done)
         try cbv)
      | (refine qP ?_ (c44n) ?hfit
         case hfit=>((refine qD ((qC (Fit.refl _) rfl (qC (Fit.refl _) rfl (qC (Fit.refl _) rfl (qC (Fit.refl _) rfl (qC (Fit.refl _) rfl (qC (Fit.refl _) rfl (qC (qO rfl) rfl qA)))))))) qB);done)
         try cbv)
      | (refine qP ?_ (c54 (by((try simp only [qV]at *);(try simp only [zQ,zA,zB,zC,zD,zE,zF,zG,zH,zI,zJ,zK,zL,zM,zN,zO,zP,zR,zS]at *);omega))) ?hfit
         case hfit=>((refine qD (Fit.refl _) (qD (qO rfl) qB));done)
         try cbv)
      |fail)
  all_goals first
    |(subst hR;(refine qD (Fit.refl _) (qD (qE ?_) qB);(try simp only [qV]at *);(try simp only [zQ,zA,zB,zC,zD,zE,zF,zG,zH,zI,zJ,zK,zL,zM,zN,zO,zP,zR,zS]at *);first|exact(ujE (by first|assumption|omega)).symm|exact(uhW (by first|assumption|omega) (by assumption)).symm);done)
    |(exfalso;exact h (ud6 (by((try simp only [qV]at *);(try simp only [zQ,zA,zB,zC,zD,zE,zF,zG,zH,zI,zJ,zK,zL,zM,zN,zO,zP,zR,zS]at *);first|assumption|omega)) (by assumption)))
    |skip
end Go.Proofs.Ytkdggbfknlcdaaa
namespace Go.Proofs.Ytkdggbfknlcdaaa
open Go.Eng.Dif
theorem udR {d:Dsp}:canT d d.fs []=canD (SN d) (LO d) (FO d d.fs):=by
  unfold canT matO canD
  rw [ulx]
theorem us3 (d:Dsp)(n:Nat):FO d (d.fs.take n)=(FO d d.fs).take n:=List.map_take ..
theorem uqU (d:Dsp)(n:Nat):canT (uc8 d (d.fs.take n)) (uc8 d (d.fs.take n)).fs []=canD (SN d) (LO d) ((FO d d.fs).take n):=by
  rw [udR,←us3]
  rfl
theorem usD {d:Dsp}(h:DOk d)(n:Nat):DOk (uc8 d (d.fs.take n)):=
  ul3 h (by have:=h.f6;rw [List.length_take];omega) fun f hf=>FOk.mem h.f (List.mem_of_mem_take hf)
def firO (d:Dsp):Option Nat:=firN (SN d) (LO d) (FO d d.fs) d.fs.length 0
def firE (d:Dsp):Int:=if ua4 d=0 then(match firO d with|some _=>0|none=>7)else ua4 d
def firV (d:Dsp):Int:=if ua4 d=0 then(match firO d with|some r=>(r:Int)|none=>0)else 0
theorem ur1 {d:Dsp}(h:¬ua4 d=0):firE d=ua4 d∧firV d=0:=by unfold firE firV;rw [if_neg h,if_neg h];exact⟨rfl,rfl⟩
theorem upm {d:Dsp}(h:ua4 d=0)(h':firO d=none):firE d=7∧firV d=0:=by unfold firE firV;rw [if_pos h,if_pos h,h'];exact⟨rfl,rfl⟩
theorem uiw {d:Dsp} {r:Nat}(h:ua4 d=0)(h':firO d=some r):firE d=0∧firV d=(r:Int):=by unfold firE firV;rw [if_pos h,if_pos h,h'];exact⟨rfl,rfl⟩
def firR (d:Dsp)(k i:Nat):Option Nat:=firN (SN d) (LO d) (FO d d.fs) k i
def okI (d:Dsp)(i:Nat):Bool:=canD (SN d) (LO d) ((FO d d.fs).take (i+1))
theorem uom {d:Dsp} {k i:Nat}(hk:0<k)(h:okI d i=false):firR d k i=some i:=by
  cases k with
  |zero=>omega
  |succ k=>unfold firR firN;rw [show canD (SN d) (LO d) ((FO d d.fs).take (i+1))=false from h];rfl
theorem usV {d:Dsp} {k i:Nat}(hk:0<k)(h:okI d i=true):firR d k i=firR d (k-1) (i+1):=by
  cases k with
  |zero=>omega
  |succ k=>unfold firR;rw [firN,show canD (SN d) (LO d) ((FO d d.fs).take (i+1))=true from h];rfl
end Go.Proofs.Ytkdggbfknlcdaaa
namespace Go.Proofs.Ytkdggbfknlcdaaa
open Go Go.Eng Go.Proofs Go.Eng.Dif Go.Eng.Few
set_option maxRecDepth 10000
theorem uqQ (fs:List FaT) {n i:Nat}(h:i<n):(fs.take n).getD i f0T=fs.getD i f0T:=by simp [List.getD_eq_getElem?_getD,List.getElem?_take,h]
theorem ul6 (fs:List FaT) {i:Nat}(h:i<fs.length):(fs.take (i+1)).length=i+1:=by rw [List.length_take];omega
theorem uji (fs:List FaT) {n i j:Nat}(hj:j=i)(h:i<n):Fit (.agg [(iv fun _=>(fs.getD j f0T).p),(iv fun _=>(fs.getD j f0T).s),(iv fun _=>(fs.getD j f0T).wl),(iv fun _=>(fs.getD j f0T).wh),(iv fun _=>(fs.getD j f0T).ml),(iv fun _=>(fs.getD j f0T).mh)]) (.agg [(iv fun _=>((fs.take n).getD i f0T).p),(iv fun _=>((fs.take n).getD i f0T).s),(iv fun _=>((fs.take n).getD i f0T).wl),(iv fun _=>((fs.take n).getD i f0T).wh),(iv fun _=>((fs.take n).getD i f0T).ml),(iv fun _=>((fs.take n).getD i f0T).mh)]):=by subst hj;rw [uqQ fs h];exact Fit.refl _
theorem uqw (d:Dsp)(h:ua4 d=0):ua0 Try.prog 27 [(dspS d)] [] (fun r _=>r=(.tup [(iv fun _=>firV d),(iv fun _=>firE d)])):=by
  have hf:=h
  have hF:=(uau h).1
  have f6:=(ua2.1 hF).f6
  have c54:=fun i:Nat=>(show ua0 Try.prog 54 [(.pp 0 [(.sl 1 (.sym fun _=>zi ((uc8 d (d.fs.take (i+1))).tw).length) (fun ix=>[(iv fun _=>((uc8 d (d.fs.take (i+1))).tw).getD ix.den.toNat 0)])),(.sl 1 (.sym fun _=>zi ((uc8 d (d.fs.take (i+1))).tm).length) (fun ix=>[(iv fun _=>((uc8 d (d.fs.take (i+1))).tm).getD ix.den.toNat 0)])),(.sl 1 (.sym fun _=>zi ((uc8 d (d.fs.take (i+1))).tv).length) (fun ix=>[(.sl 1 (.sym fun _=>zi (((uc8 d (d.fs.take (i+1))).tv).getD ix.den.toNat []).length) (fun jx=>[(iv fun _=>(((uc8 d (d.fs.take (i+1))).tv).getD ix.den.toNat []).getD jx.den.toNat 0)]))])),(iv fun _=>(uc8 d (d.fs.take (i+1))).sn),(iv fun _=>(uc8 d (d.fs.take (i+1))).pn),(.sl 4 (.sym fun _=>zi ((uc8 d (d.fs.take (i+1))).ls).length) (fun ix=>[(iv fun _=>(((uc8 d (d.fs.take (i+1))).ls).getD ix.den.toNat l0T).a),(iv fun _=>(((uc8 d (d.fs.take (i+1))).ls).getD ix.den.toNat l0T).b),(iv fun _=>(((uc8 d (d.fs.take (i+1))).ls).getD ix.den.toNat l0T).lo),(iv fun _=>(((uc8 d (d.fs.take (i+1))).ls).getD ix.den.toNat l0T).hi)])),(.sl 6 (.sym fun _=>zi ((d.fs.take (i+1))).length) (fun ix=>[(iv fun _=>(((d.fs.take (i+1))).getD ix.den.toNat f0T).p),(iv fun _=>(((d.fs.take (i+1))).getD ix.den.toNat f0T).s),(iv fun _=>(((d.fs.take (i+1))).getD ix.den.toNat f0T).wl),(iv fun _=>(((d.fs.take (i+1))).getD ix.den.toNat f0T).wh),(iv fun _=>(((d.fs.take (i+1))).getD ix.den.toNat f0T).ml),(iv fun _=>(((d.fs.take (i+1))).getD ix.den.toNat f0T).mh)])),(.memo 89 33 false 6 (fun ks=>.agg [(iv fun _=>kLo (uc8 d (d.fs.take (i+1))) ks),(iv fun _=>kHi (uc8 d (d.fs.take (i+1))) ks)]))]),(iS (([]:List Int)))] [] (fun r _=>r=(.tup [(.agg [(.arr 16 (fun ix=>(iv fun _=>(clo (matO (uc8 d (d.fs.take (i+1))) (uc8 d (d.fs.take (i+1))).fs [])) ix.den.toNat)))]),(.bool (.sym fun _=>okI d i))]))from(show canT (uc8 d (d.fs.take (i+1))) (uc8 d (d.fs.take (i+1))).fs []=okI d i from uqU d (i+1))▸uco (uc8 d (d.fs.take (i+1))) [] (usD (ua2.1 hF) (i+1)) (by simp))
  have c59:=usA d h
  refine ua0.is fun R hR=>qW (sc:=sc27) tyok mix Try.func27 rfl Try.call27 (by kernel_rfl) (by kernel_rfl) ?_
  generalize Try.prog=P at c54 c59⊢
  cbv
  repeat' (first
      |with_reducible refine And.intro ?_ ?_
      |(with_reducible intro hcd;(try simp only [zA,zB,zC,zD,zE,zF,zG,zH,zI,zJ,zK,zL,zM,zN,zO,zP]at hcd);try cbv)
      | (refine Or.inr ⟨true,?_⟩
         cbv
         refine qU ?_ (c59) (by cbv;(repeat' (first|exact qB|refine qD ?_ ?_|exact qE (by rfl)|exact qF (by rfl)|exact Fit.refl _|exact qA|refine qC ?_ rfl ?_))) (by cbv;(repeat' (first|exact qH|refine qI ?_ ?_|exact qK _|refine qJ ?_|exact qA|exact qE (by rfl)|exact qF (by rfl)|exact Fit.refl _|exact qG _|refine qC ?_ rfl ?_)))
         try cbv)
      |fail)
  all_goals first
    |trivial
    |skip
  refine⟨none,[],{i:Nat // i≤d.fs.length∧firO d=firR d (d.fs.length-i) i},fun x=>⟨[(1,.own 0 0),(4,.own 4 0),(19,(iv fun _=>zi d.fs.length)),(20,(iv fun _=>zi x.1))],[(0,.cells [(iS d.tw),(iS d.tm),(.sl 1 (.sym fun _=>zi (d.tv).length) (fun ix=>[(.sl 1 (.sym fun _=>zi ((d.tv).getD ix.den.toNat []).length) (fun jx=>[(iv fun _=>((d.tv).getD ix.den.toNat []).getD jx.den.toNat 0)]))])),(iv fun _=>d.sn),(iv fun _=>d.pn),(.sl 4 (.sym fun _=>zi (d.ls).length) (fun ix=>[(iv fun _=>((d.ls).getD ix.den.toNat l0T).a),(iv fun _=>((d.ls).getD ix.den.toNat l0T).b),(iv fun _=>((d.ls).getD ix.den.toNat l0T).lo),(iv fun _=>((d.ls).getD ix.den.toNat l0T).hi)])),(.sl 6 (.sym fun _=>zi (d.fs).length) (fun ix=>[(iv fun _=>((d.fs).getD ix.den.toNat f0T).p),(iv fun _=>((d.fs).getD ix.den.toNat f0T).s),(iv fun _=>((d.fs).getD ix.den.toNat f0T).wl),(iv fun _=>((d.fs).getD ix.den.toNat f0T).wh),(iv fun _=>((d.fs).getD ix.den.toNat f0T).ml),(iv fun _=>((d.fs).getD ix.den.toNat f0T).mh)]))] 41),(4,.cells [(iS d.tw),(iS d.tm),(.sl 1 (.sym fun _=>zi (d.tv).length) (fun ix=>[(.sl 1 (.sym fun _=>zi ((d.tv).getD ix.den.toNat []).length) (fun jx=>[(iv fun _=>((d.tv).getD ix.den.toNat []).getD jx.den.toNat 0)]))])),(iv fun _=>d.sn),(iv fun _=>d.pn),(.sl 4 (.sym fun _=>zi (d.ls).length) (fun ix=>[(iv fun _=>((d.ls).getD ix.den.toNat l0T).a),(iv fun _=>((d.ls).getD ix.den.toNat l0T).b),(iv fun _=>((d.ls).getD ix.den.toNat l0T).lo),(iv fun _=>((d.ls).getD ix.den.toNat l0T).hi)])),.any,(.memo 89 33 false 6 (fun ks=>.agg [(iv fun _=>kLo d ks),(iv fun _=>kHi d ks)]))] 117)],100⟩,fun x=>d.fs.length-x.1,?_,?_⟩
  · refine⟨⟨0,by omega,rfl⟩,?_⟩
    cbv
    repeat' (first
      |with_reducible refine hold ?_ ?_
      |with_reducible refine And.intro ?_ ?_)
    all_goals first
      |trivial
      |exact qM (qE (by rfl))
      |exact qM (Fit.refl _)
      |exact qL (qK _)
      |(refine qL (qJ ?_);(repeat' (first|exact qA|exact qB|refine qC ?_ rfl ?_|refine qD ?_ ?_|exact qE (by rfl)|exact qF (by rfl)|exact Fit.refl _|exact qG _|(refine qE ?_;(try simp only [qV]at *);simp only [zQ,zA,zB,zC,zD,zE,zF,zG,zH,zI,zJ,zK,zL,zM,zN,zO,zP,zR,zS]at *;omega)));done)
      |skip
  · rintro ⟨i,hi,h3⟩
    cbv
    repeat' (first
        |with_reducible refine hold ?_ ?_
        |with_reducible refine And.intro ?_ ?_
        |(with_reducible intro hcd;(try simp only [zA,zB,zC,zD,zE,zF,zG,zH,zI,zJ,zK,zL,zM,zN,zO,zP]at hcd);try cbv)
        | ((first|(refine upt ?_ (c54 i) ⟨⟨fun _=>rfl,trivial⟩,rfl,trivial⟩ ?hfit;case hfit=>(cbv;(refine qD (url (qC (Fit.refl _) rfl (qC (Fit.refl _) rfl (qC (Fit.refl _) rfl (qC (Fit.refl _) rfl (qC (Fit.refl _) rfl (qC (Fit.refl _) rfl (qC ?_ rfl (qC (Fit.refl _) rfl qA))))))))) (qD (qO rfl) qB);refine ua1 ?_ (fun ix h0 h1=>uji _ ?_ ?_)<;>((try simp only [qV]at *);(try simp only [zQ,zA,zB,zC,zD,zE,zF,zG,zH,zI,zJ,zK,zL,zM,zN,zO,zP,zR,zS]at *);first|omega|(rw [ul6 _ (by omega)];(try simp only [uax]);omega)));done))|(refine⟨none,?_⟩;refine upt ?_ (c54 i) ⟨⟨fun _=>rfl,trivial⟩,rfl,trivial⟩ ?hfit;case hfit=>(cbv;(refine qD (url (qC (Fit.refl _) rfl (qC (Fit.refl _) rfl (qC (Fit.refl _) rfl (qC (Fit.refl _) rfl (qC (Fit.refl _) rfl (qC (Fit.refl _) rfl (qC ?_ rfl (qC (Fit.refl _) rfl qA))))))))) (qD (qO rfl) qB);refine ua1 ?_ (fun ix h0 h1=>uji _ ?_ ?_)<;>((try simp only [qV]at *);(try simp only [zQ,zA,zB,zC,zD,zE,zF,zG,zH,zI,zJ,zK,zL,zM,zN,zO,zP,zR,zS]at *);first|omega|(rw [ul6 _ (by omega)];(try simp only [uax]);omega)));done)))
           try cbv)
        |fail)
    all_goals first
      |((try simp only [qV]at *);(try simp only [zQ,zA,zB,zC,zD,zE,zF,zG,zH,zI,zJ,zK,zL,zM,zN,zO,zP,zR,zS]at *);first|(refine qN ?_;omega)|(simp only [Hold];omega))
      |(subst hR;(have h9:=uiw hf (h3.trans (uom (by((try simp only [qV]at *);(try simp only [zQ,zA,zB,zC,zD,zE,zF,zG,zH,zI,zJ,zK,zL,zM,zN,zO,zP,zR,zS]at *);omega)) hcd)));exact qD (qE h9.2.symm) (qD (qE h9.1.symm) qB))
      |(subst hR;(have hz:d.fs.length-i=0:=by((try simp only [qV]at *);(try simp only [zQ,zA,zB,zC,zD,zE,zF,zG,zH,zI,zJ,zK,zL,zM,zN,zO,zP,zR,zS]at *);omega));rw [hz]at h3;(have h9:=upm hf h3);exact qD (qE h9.2.symm) (qD (qE h9.1.symm) qB))
      |((try simp only [zQ,zA,zB,zC,zD,zE,zF,zG,zH,zI,zJ,zK,zL,zM,zN,zO,zP,zR,zS]at *);refine⟨⟨i+1,by((try simp only [qV]at *);(try simp only [zQ,zA,zB,zC,zD,zE,zF,zG,zH,zI,zJ,zK,zL,zM,zN,zO,zP,zR,zS]at *);omega),by rw [show d.fs.length-(i+1)=d.fs.length-i-1 by omega,←usV (by((try simp only [qV]at *);(try simp only [zQ,zA,zB,zC,zD,zE,zF,zG,zH,zI,zJ,zK,zL,zM,zN,zO,zP,zR,zS]at *);omega)) hcd];exact h3⟩,by simp only [];omega,?_⟩;cbv;(repeat' (first|with_reducible refine hold ?_ ?_|with_reducible refine And.intro ?_ ?_));(all_goals first|trivial|exact qM (qE (by rfl))|exact qM (qF (by rfl))|exact qM (Fit.refl _)|exact qL (qK _)|(refine qM (qE ?_);(try simp only [qV]at *);simp only [zQ,zA,zB,zC,zD,zE,zF,zG,zH,zI,zJ,zK,zL,zM,zN,zO,zP,zR,zS]at *;omega)|(refine qL (qJ ?_);(repeat' (first|exact qA|exact qB|refine qC ?_ rfl ?_|refine qD ?_ ?_|exact qE (by rfl)|exact qF (by rfl)|exact Fit.refl _|exact qG _|(refine qE ?_;(try simp only [qV]at *);simp only [zQ,zA,zB,zC,zD,zE,zF,zG,zH,zI,zJ,zK,zL,zM,zN,zO,zP,zR,zS]at *;omega)));done)|skip))
      |skip
theorem ur5 (d:Dsp)(h:¬ua4 d=0):ua0 Try.prog 27 [(dspS d)] [] (fun r _=>r=(.tup [(iv fun _=>firV d),(iv fun _=>firE d)])):=by
  have c59:=uhY d h
  refine ua0.is fun R hR=>qW (sc:=sc27) tyok mix Try.func27 rfl Try.call27 (by kernel_rfl) (by kernel_rfl) ?_
  generalize Try.prog=P at c59⊢
  cbv
  repeat' (first
      |with_reducible refine And.intro ?_ ?_
      |(with_reducible intro hcd;(try simp only [zA,zB,zC,zD,zE,zF,zG,zH,zI,zJ,zK,zL,zM,zN,zO,zP]at hcd);try cbv)
      | (refine qP ?_ (c59) ?hfit
         case hfit=>((repeat' (first|exact qB|refine qD ?_ ?_|exact qE (by rfl)|exact qF (by rfl)|exact Fit.refl _|exact qA|refine qC ?_ rfl ?_));done)
         try cbv)
      |fail)
  all_goals first
    |trivial
    |(subst hR;((have h9:=ur1 h);exact qD (qE h9.2.symm) (qD (qE h9.1.symm) qB));done)
    |skip
theorem utG (d:Dsp):ua0 Try.prog 27 [(dspS d)] [] (fun r _=>r=(.tup [(iv fun _=>firV d),(iv fun _=>firE d)])):=by
  by_cases h:ua4 d=0
  · exact uqw d h
  · exact ur5 d h
theorem unl (d:Dsp):ua0 Try.prog 88 [(wpS d)] [] (fun r _=>r=(iv fun _=>zi d.fs.length)):=by
  refine ua0.is fun R hR=>qW (sc:=sc88) tyok mix Try.func88 rfl Try.call88 (by kernel_rfl) (by kernel_rfl) ?_
  generalize Try.prog=P
  cbv
  repeat' (first
      |fail)
  all_goals first
    |(subst hR;(repeat' (first|exact qA|exact qB|refine qC ?_ rfl ?_|refine qD ?_ ?_|exact qE (by rfl)|exact qF (by rfl)|exact Fit.refl _|exact qG _|(refine qE ?_;(try simp only [qV]at *);simp only [zQ,zA,zB,zC,zD,zE,zF,zG,zH,zI,zJ,zK,zL,zM,zN,zO,zP,zR,zS]at *;omega)));done)
    |skip
theorem unJ (d:Dsp)(o:List Int):ua0 Try.prog 89 [(wpS d),(iS o)] [] (fun r _=>r=(iS o)):=by
  refine ua0.is fun R hR=>qW (sc:=sc89) tyok mix Try.func89 rfl Try.call89 (by kernel_rfl) (by kernel_rfl) ?_
  generalize Try.prog=P
  cbv
  repeat' (first
      |fail)
  all_goals first
    |(subst hR;(repeat' (first|exact qA|exact qB|refine qC ?_ rfl ?_|refine qD ?_ ?_|exact qE (by rfl)|exact qF (by rfl)|exact Fit.refl _|exact qG _|(refine qE ?_;(try simp only [qV]at *);simp only [zQ,zA,zB,zC,zD,zE,zF,zG,zH,zI,zJ,zK,zL,zM,zN,zO,zP,zR,zS]at *;omega)));done)
    |skip
theorem uiy (d:Dsp):ua0 Try.prog 90 [(wpS d)] [] (fun r _=>r=(iv fun _=>d.pn)):=by
  refine ua0.is fun R hR=>qW (sc:=sc90) tyok mix Try.func90 rfl Try.call90 (by kernel_rfl) (by kernel_rfl) ?_
  generalize Try.prog=P
  cbv
  repeat' (first
      |fail)
  all_goals first
    |(subst hR;(repeat' (first|exact qA|exact qB|refine qC ?_ rfl ?_|refine qD ?_ ?_|exact qE (by rfl)|exact qF (by rfl)|exact Fit.refl _|exact qG _|(refine qE ?_;(try simp only [qV]at *);simp only [zQ,zA,zB,zC,zD,zE,zF,zG,zH,zI,zJ,zK,zL,zM,zN,zO,zP,zR,zS]at *;omega)));done)
    |skip
theorem uq6 :ua0 Try.prog 56 [] [] (fun r _=>r=(.agg [.clo 88 [] [],.clo 89 [] []])):=by
  refine ua0.is fun R hR=>qW (sc:=sc56) tyok mix Try.func56 rfl Try.call56 (by kernel_rfl) (by kernel_rfl) ?_
  generalize Try.prog=P
  cbv
  repeat' (first
      |fail)
  all_goals first
    |(subst hR;(repeat' (first|exact qA|exact qB|refine qC ?_ rfl ?_|refine qD ?_ ?_|exact qE (by rfl)|exact qF (by rfl)|exact Fit.refl _|exact qG _|(refine qE ?_;(try simp only [qV]at *);simp only [zQ,zA,zB,zC,zD,zE,zF,zG,zH,zI,zJ,zK,zL,zM,zN,zO,zP,zR,zS]at *;omega)));done)
    |skip
theorem ug0 :ua0 Try.prog 58 [] [] (fun r _=>r=(.agg [.clo 90 [] [],.clo 91 [] []])):=by
  refine ua0.is fun R hR=>qW (sc:=sc58) tyok mix Try.func58 rfl Try.call58 (by kernel_rfl) (by kernel_rfl) ?_
  generalize Try.prog=P
  cbv
  repeat' (first
      |fail)
  all_goals first
    |(subst hR;(repeat' (first|exact qA|exact qB|refine qC ?_ rfl ?_|refine qD ?_ ?_|exact qE (by rfl)|exact qF (by rfl)|exact Fit.refl _|exact qG _|(refine qE ?_;(try simp only [qV]at *);simp only [zQ,zA,zB,zC,zD,zE,zF,zG,zH,zI,zJ,zK,zL,zM,zN,zO,zP,zR,zS]at *;omega)));done)
    |skip
def thN (d:Dsp)(o:List Int)(n:Nat):List Int:=selL (fun i=>inL o (d.fs.getD i f0T).p) n
theorem uu9 {d:Dsp} {o:List Int} {i:Nat}(h:inL o (d.fs.getD i f0T).p=true):thN d o (i+1)=thN d o i++[(i:Int)]:=by
  unfold thN
  simp only [selL,h,if_true]
theorem uu7 {d:Dsp} {o:List Int} {i:Nat}(h:inL o (d.fs.getD i f0T).p=false):thN d o (i+1)=thN d o i:=by
  unfold thN
  simp only [selL,h,Bool.false_eq_true,if_false]
theorem ukF (d:Dsp)(o:List Int):∀n,(thN d o n).length≤n:=by
  intro n
  induction n with
  |zero=>exact Nat.le_refl _
  | succ n ih=>
    cases h:inL o (d.fs.getD n f0T).p with
    |true=>rw [uu9 h,List.length_append];simp only [List.length_cons,List.length_nil];omega
    |false=>rw [uu7 h];omega
theorem ulv (d:Dsp)(o:List Int)(hf:d.fs.length≤1000)(ho:o.length≤1000):ua0 Try.prog 91 [(wpS d),(iS o)] [] (fun r _=>r=(iS ((thN d o d.fs.length)))):=by
  have c63:=fun (i:Nat)=>ufd o (d.fs.getD i f0T).p ho
  refine ua0.is fun R hR=>qW (sc:=sc91) tyok mix Try.func91 rfl Try.call91 (by kernel_rfl) (by kernel_rfl) ?_
  generalize Try.prog=P at c63⊢
  cbv
  repeat' (first
      |fail)
  all_goals first
    |skip
  refine⟨none,[⟨.tmp 4,3,1⟩],{i:Nat // i≤d.fs.length},fun x=>⟨[(1,(iS o)),(4,.row 8),(11,(.sl 6 (.sym fun _=>zi (d.fs).length) (fun ix=>[(iv fun _=>((d.fs).getD ix.den.toNat f0T).p),(iv fun _=>((d.fs).getD ix.den.toNat f0T).s),(iv fun _=>((d.fs).getD ix.den.toNat f0T).wl),(iv fun _=>((d.fs).getD ix.den.toNat f0T).wh),(iv fun _=>((d.fs).getD ix.den.toNat f0T).ml),(iv fun _=>((d.fs).getD ix.den.toNat f0T).mh)]))),(12,(iv fun _=>zi d.fs.length)),(13,(iv fun _=>zi x.1))],[(8,.row 3 1 (.sym fun _=>zi ((thN d o (x.1))).length) (fun ix=>[(iv fun _=>((thN d o (x.1))).getD ix.den.toNat 0)]))],90⟩,fun x=>d.fs.length-x.1,?_,?_⟩
  · refine⟨⟨0,by omega⟩,?_⟩
    cbv
    repeat' (first
      |with_reducible refine hold ?_ ?_
      |with_reducible refine And.intro ?_ ?_)
    all_goals first
      |trivial
      |exact qM (qE (by rfl))
      |exact qM (Fit.refl _)
      |(refine qL (uae ?_ ?_);(first|rfl|((try simp only [qV]at *);(try simp only [zQ,zA,zB,zC,zD,zE,zF,zG,zH,zI,zJ,zK,zL,zM,zN,zO,zP,zR,zS]at *);omega));intro ix h0 h1;exfalso;(try simp only [qV]at *);(try simp only [zQ,zA,zB,zC,zD,zE,zF,zG,zH,zI,zJ,zK,zL,zM,zN,zO,zP,zR,zS]at *);omega)
      |skip
  · rintro ⟨i,hi⟩
    cbv
    have hlen:=ukF d o i
    have hY:inL o (d.fs.getD i f0T).p=true→thN d o (i+1)=thN d o i++[zi i]:=uu9
    have hZ:inL o (d.fs.getD i f0T).p=false→thN d o (i+1)=thN d o i:=uu7
    obtain⟨M,hM⟩:∃M,M=thN d o i:=⟨_,rfl⟩
    rw [←hM]at hlen hY hZ⊢
    cbv
    repeat' (first
        |with_reducible refine hold ?_ ?_
        |with_reducible refine And.intro ?_ ?_
        |(with_reducible intro hcd;(try simp only [zA,zB,zC,zD,zE,zF,zG,zH,zI,zJ,zK,zL,zM,zN,zO,zP]at hcd);try cbv)
        | (refine qP ?_ (c63 i) ?hfit
           case hfit=>((repeat' (first|exact qB|refine qD ?_ ?_|exact qE (by rfl)|exact qF (by rfl)|exact Fit.refl _|exact qA|refine qC ?_ rfl ?_));done)
           try cbv)
        | (obtain⟨L2,eL2⟩:∃y:List Int,y=M++[zi i]:=⟨_,rfl⟩
           refine⟨ueb L2,?_⟩
           cbv
           refine hold (uak (L:=M) eL2 (by(first|rfl|((try simp only [qV]at *);(try simp only [zQ,zA,zB,zC,zD,zE,zF,zG,zH,zI,zJ,zK,zL,zM,zN,zO,zP,zR,zS]at *);done)|((try simp only [qV]at *);(try simp only [zQ,zA,zB,zC,zD,zE,zF,zG,zH,zI,zJ,zK,zL,zM,zN,zO,zP,zR,zS]at *);omega))) (by rfl) (fun ix=>Fit.refl _) (fun ix h=>qC (qE (by rfl)) rfl qA) (by(try simp only [qV]at *);(try simp only [zQ,zA,zB,zC,zD,zE,zF,zG,zH,zI,zJ,zK,zL,zM,zN,zO,zP,zR,zS]at *);omega)) (Or.inl ?_)
           try cbv)
        |fail)
    all_goals first
      |((try simp only [qV]at *);(try simp only [zQ,zA,zB,zC,zD,zE,zF,zG,zH,zI,zJ,zK,zL,zM,zN,zO,zP,zR,zS]at *);first|(refine qN ?_;omega)|(simp only [Hold];omega))
      |((have hie:i=d.fs.length:=(by((try simp only [qV]at *);(try simp only [zQ,zA,zB,zC,zD,zE,zF,zG,zH,zI,zJ,zK,zL,zM,zN,zO,zP,zR,zS]at *);omega)));subst hR;rw [←hie,←hM];exact Fit.refl _)
      |((try simp only [zQ,zA,zB,zC,zD,zE,zF,zG,zH,zI,zJ,zK,zL,zM,zN,zO,zP,zR,zS]at *);(have hx:thN d o (i+1)=L2:=(hY hcd).trans eL2.symm);refine⟨⟨i+1,by omega⟩,by simp only [];omega,?_⟩;cbv;(repeat' (first|with_reducible refine hold ?_ ?_|with_reducible refine And.intro ?_ ?_));(all_goals first|trivial|exact qM (qE (by rfl))|exact qM (qF (by rfl))|exact qM (Fit.refl _)|exact qL (qK _)|(refine qM (qE ?_);(try simp only [qV]at *);simp only [zQ,zA,zB,zC,zD,zE,zF,zG,zH,zI,zJ,zK,zL,zM,zN,zO,zP,zR,zS]at *;omega)|(simp only [hx];first|exact qL (qK _)|(refine qL (uae ?_ ?_)<;>first|rfl|(rw [eL2,List.length_append];rfl)|((try simp only [qV]at *);(try simp only [zQ,zA,zB,zC,zD,zE,zF,zG,zH,zI,zJ,zK,zL,zM,zN,zO,zP,zR,zS]at *);(try simp only [eL2,List.length_append,List.length_cons,List.length_nil]at *);omega)|(intro ix h0 h1;exact Fit.refl _)))|skip))
      |((try simp only [zQ,zA,zB,zC,zD,zE,zF,zG,zH,zI,zJ,zK,zL,zM,zN,zO,zP,zR,zS]at *);(have hx:thN d o (i+1)=M:=hZ hcd);refine⟨⟨i+1,by omega⟩,by simp only [];omega,?_⟩;cbv;(repeat' (first|with_reducible refine hold ?_ ?_|with_reducible refine And.intro ?_ ?_));(all_goals first|trivial|exact qM (qE (by rfl))|exact qM (qF (by rfl))|exact qM (Fit.refl _)|exact qL (qK _)|(refine qM (qE ?_);(try simp only [qV]at *);simp only [zQ,zA,zB,zC,zD,zE,zF,zG,zH,zI,zJ,zK,zL,zM,zN,zO,zP,zR,zS]at *;omega)|(simp only [hx];first|exact qL (qK _)|(refine qL (uae ?_ ?_)<;>first|rfl|(rw [eL2,List.length_append];rfl)|((try simp only [qV]at *);(try simp only [zQ,zA,zB,zC,zD,zE,zF,zG,zH,zI,zJ,zK,zL,zM,zN,zO,zP,zR,zS]at *);(try simp only [eL2,List.length_append,List.length_cons,List.length_nil]at *);omega)|(intro ix h0 h1;exact Fit.refl _)))|skip))
      |skip
end Go.Proofs.Ytkdggbfknlcdaaa
namespace Go.Proofs.Ytkdggbfknlcdaaa
open Go Go.Eng Go.Eng.Dif Go.Eng.Few
def lstE (F:List (List Int)):IX→List SV:=fun ix=>[.sl 1 (.sym fun _=>zi (F.getD ix.den.toNat []).length) (fun jx=>[(iv fun _=>(F.getD ix.den.toNat []).getD jx.den.toNat 0)])]
def intS (o:List Int):SV:=.sl 1 (.sym fun _=>zi o.length) (fun jx=>[(iv fun _=>o.getD jx.den.toNat 0)])
theorem ukH {F:List (List Int)} {ix:IX} {o:List Int}(h:F.getD ix.den.toNat []=o):lstE F ix=[intS o]:=by
  subst h
  rfl
theorem uck {n m b:Int} {F F2:List (List Int)} {o:List Int} {e new:IX→List SV}(h2:F2=F++[o])(hn:n=(F.length:Int))(hm:m=1)(he:∀ix,Fit (.agg (e ix)) (.agg (lstE F ix)))(hx:∀ix:IX,Fit (.agg (new ix)) (.agg [intS o]))(hb:(n+1)*b≤140737488355328):
    Hold (udx n e m new (lstE F2)∧0≤n∧0≤m∧(n+m)*b≤140737488355328):=by
  subst hm
  subst h2
  refine ubX (fun ix jx h0 h1 h2=>(he ix).trans ?_) (fun ix jx h0 h1 h2=>(hx ix).trans ?_) ⟨by omega,by omega,hb⟩
  · rw [ukH (F:=F) rfl,ukH (F:=F++[o]) (o:=F.getD ix.den.toNat []) (by
      rw [h2]
      simp only [List.getD_eq_getElem?_getD]
      rw [List.getElem?_append_left (by omega)])]
    exact Fit.refl _
  · rw [ukH (F:=F++[o]) (o:=o) (by
      rw [show jx.den.toNat=F.length by omega]
      simp [List.getD_eq_getElem?_getD])]
    exact Fit.refl _
def colN (n:Nat)(ok:List Int→Bool)(m:Nat)(o:List Int)(i:Nat):Nat→List (List Int)
  |0=>[]
  |k+1=>colN n ok m o i k++allC n ok m (o++[((i+k:Nat):Int)]) (i+k+1)
theorem ui8 {n:Nat} {ok:List Int→Bool} {m:Nat} {o:List Int} {i:Nat}:allC n ok (m+1) o i=colN n ok m o i (n-m-i):=by
  have h:∀k,((List.range k).flatMap fun j=>allC n ok m (o++[((i+j:Nat):Int)]) (i+j+1))=colN n ok m o i k:=by
    intro k
    induction k with
    |zero=>rfl
    |succ k ih=>rw [List.range_succ,List.flatMap_append,ih];simp [colN]
  simp only [allC]
  exact h _
theorem urD {n:Nat} {ok:List Int→Bool} {m:Nat} {o:List Int} {i:Nat}:∀{k k':Nat},k≤k'→(colN n ok m o i k).length≤(colN n ok m o i k').length:=by
  intro k k'
  induction k' with
  |zero=>intro h;rw [show k=0 by omega];exact Nat.le_refl _
  | succ k' ih=>
    intro h
    rcases Nat.lt_or_ge k' k with q|q
    · rw [show k=k'+1 by omega];exact Nat.le_refl _
    · have:=ih q
      simp only [colN,List.length_append];omega
theorem ulR {n:Nat} {ok:List Int→Bool}:∀{m:Nat} {o:List Int} {i:Nat},(allC n ok m o i).length≤n^m:=by
  intro m
  induction m with
  | zero=>
    intro o i
    simp only [allC]
    split<;>simp
  | succ m ih=>
    intro o i
    rw [ui8]
    have h:∀k,(colN n ok m o i k).length≤k*n^m:=by
      intro k
      induction k with
      |zero=>simp [colN]
      | succ k ik=>
        have:=ih (o:=o++[((i+k:Nat):Int)]) (i:=i+k+1)
        simp only [colN,List.length_append,Nat.add_mul,Nat.one_mul];omega
    refine Nat.le_trans (h _) ?_
    rw [Nat.pow_succ,Nat.mul_comm]
    exact Nat.mul_le_mul_left _ (by omega)
theorem ulj {F G:List (List Int)} {n:Nat} {ok:List Int→Bool} {m:Nat} {o L:List Int} {i k:Nat}(hL:L=o++[((i+k:Nat):Int)])(hG:G=F++colN n ok m o i k):F++colN n ok m o i (k+1)=G++allC n ok m L (i+k+1):=by
  subst hL
  subst hG
  rw [colN,List.append_assoc]
def okFa (d:Dsp)(o:List Int):Bool:=canT d d.fs o
def okPa (d:Dsp)(o:List Int):Bool:=canT d d.fs (thN d o d.fs.length)
end Go.Proofs.Ytkdggbfknlcdaaa
namespace Go.Proofs.Ytkdggbfknlcdaaa
open Go Go.Eng Go.Proofs Go.Eng.Dif Go.Eng.Few
set_option maxRecDepth 10000
theorem utW (d:Dsp)(F:List (List Int))(o:List Int)(i:Int)(hd:DOk d)(ho:o.length≤100)(hF:F.length≤1000000)(hok:(okFa d) o=true):ua0 Try.prog 93 [(iS o),(iv fun _=>i),(iv fun _=>0),.own 0 0,.own 1 0,.own 2 0,.own 3 0] [.cells [(wpS d)] 91,.cells [.clo 88 [] [],.clo 89 [] []] 111,.cells [.row 4] 23,.cells [.clo 93 [] [.own 0 0,.own 1 0,.own 2 0,.own 3 0]] 139,.row 22 1 (.sym fun _=>zi (F).length) (fun ix=>[.sl 1 (.sym fun _=>zi ((F).getD ix.den.toNat []).length) (fun jx=>[(iv fun _=>((F).getD ix.den.toNat []).getD jx.den.toNat 0)])])] (fun r bs=>r = .tup []∧bs=[.cells [(wpS d)] 91,.cells [.clo 88 [] [],.clo 89 [] []] 111,.cells [.row 4] 23,.cells [.clo 93 [] [.own 0 0,.own 1 0,.own 2 0,.own 3 0]] 139,.row 22 1 (.sym fun _=>zi ((F++[o])).length) (fun ix=>[.sl 1 (.sym fun _=>zi (((F++[o])).getD ix.den.toNat []).length) (fun jx=>[(iv fun _=>(((F++[o])).getD ix.den.toNat []).getD jx.den.toNat 0)])])]):=by
  have c89:=unJ d o
  have hl:o.length≤1000:=by omega
  have c54:=uco d o hd hl
  rw [show canT d d.fs o=true from hok]at c54
  refine ua0.isB rfl fun R B hR hB=>qW (sc:=sc93) tyok mix Try.func93 rfl Try.call93 (by kernel_rfl) (by kernel_rfl) ?_
  generalize Try.prog=P at c89 c54⊢
  cbv
  repeat' (first
      |with_reducible refine And.intro ?_ ?_
      |(with_reducible intro hcd;(try simp only [zA,zB,zC,zD,zE,zF,zG,zH,zI,zJ,zK,zL,zM,zN,zO,zP]at hcd);try cbv)
      | (refine qP ?_ (c89) ?hfit
         case hfit=>((repeat' (first|exact qB|refine qD ?_ ?_|exact qE (by rfl)|exact qF (by rfl)|exact Fit.refl _|exact qA|refine qC ?_ rfl ?_));done)
         try cbv)
      | (refine qP ?_ (c54) ?hfit
         case hfit=>((repeat' (first|exact qB|refine qD ?_ ?_|exact qE (by rfl)|exact qF (by rfl)|exact Fit.refl _|exact qA|refine qC ?_ rfl ?_));done)
         try cbv)
      | (obtain⟨F2,eF2⟩:∃y:List (List Int),y=F++[o]:=⟨_,rfl⟩
         refine⟨lstE F2,?_⟩
         cbv
         refine hold (uck (F:=F) (o:=o) eF2 (by first|rfl|((try simp only [qV]at *);(try simp only [zQ,zA,zB,zC,zD,zE,zF,zG,zH,zI,zJ,zK,zL,zM,zN,zO,zP,zR,zS]at *);omega)) rfl (fun ix=>Fit.refl _) (fun ix=>Fit.refl _) (by(try simp only [qV]at *);(try simp only [zQ,zA,zB,zC,zD,zE,zF,zG,zH,zI,zJ,zK,zL,zM,zN,zO,zP,zR,zS]at *);omega)) (Or.inl ?_)
         try cbv)
      |fail)
  all_goals first
    |trivial
    |(subst hR;exact Fit.refl _;done)
    |(rw [←eF2]at hB;subst hB;refine qI (qK _) (qI (qK _) (qI (qK _) (qI (qK _) (qI (uae ?_ (fun ix h0 h1=>Fit.refl _)) qH))));(try simp only [qV]at *);(try simp only [zQ,zA,zB,zC,zD,zE,zF,zG,zH,zI,zJ,zK,zL,zM,zN,zO,zP,zR,zS]at *);simp only [eF2,List.length_append,List.length_cons,List.length_nil];omega)
    |skip
theorem uuL (d:Dsp)(F:List (List Int))(o:List Int)(i:Int)(hd:DOk d)(ho:o.length≤100)(hF:F.length≤1000000)(hok:(okFa d) o=false):ua0 Try.prog 93 [(iS o),(iv fun _=>i),(iv fun _=>0),.own 0 0,.own 1 0,.own 2 0,.own 3 0] [.cells [(wpS d)] 91,.cells [.clo 88 [] [],.clo 89 [] []] 111,.cells [.row 4] 23,.cells [.clo 93 [] [.own 0 0,.own 1 0,.own 2 0,.own 3 0]] 139,.row 22 1 (.sym fun _=>zi (F).length) (fun ix=>[.sl 1 (.sym fun _=>zi ((F).getD ix.den.toNat []).length) (fun jx=>[(iv fun _=>((F).getD ix.den.toNat []).getD jx.den.toNat 0)])])] (fun r bs=>r = .tup []∧bs=[.cells [(wpS d)] 91,.cells [.clo 88 [] [],.clo 89 [] []] 111,.cells [.row 4] 23,.cells [.clo 93 [] [.own 0 0,.own 1 0,.own 2 0,.own 3 0]] 139,.row 22 1 (.sym fun _=>zi (F).length) (fun ix=>[.sl 1 (.sym fun _=>zi ((F).getD ix.den.toNat []).length) (fun jx=>[(iv fun _=>((F).getD ix.den.toNat []).getD jx.den.toNat 0)])])]):=by
  have c89:=unJ d o
  have hl:o.length≤1000:=by omega
  have c54:=uco d o hd hl
  rw [show canT d d.fs o=false from hok]at c54
  refine ua0.isB rfl fun R B hR hB=>qW (sc:=sc93) tyok mix Try.func93 rfl Try.call93 (by kernel_rfl) (by kernel_rfl) ?_
  generalize Try.prog=P at c89 c54⊢
  cbv
  repeat' (first
      |with_reducible refine And.intro ?_ ?_
      |(with_reducible intro hcd;(try simp only [zA,zB,zC,zD,zE,zF,zG,zH,zI,zJ,zK,zL,zM,zN,zO,zP]at hcd);try cbv)
      | (refine qP ?_ (c89) ?hfit
         case hfit=>((repeat' (first|exact qB|refine qD ?_ ?_|exact qE (by rfl)|exact qF (by rfl)|exact Fit.refl _|exact qA|refine qC ?_ rfl ?_));done)
         try cbv)
      | (refine qP ?_ (c54) ?hfit
         case hfit=>((repeat' (first|exact qB|refine qD ?_ ?_|exact qE (by rfl)|exact qF (by rfl)|exact Fit.refl _|exact qA|refine qC ?_ rfl ?_));done)
         try cbv)
      | (obtain⟨F2,eF2⟩:∃y:List (List Int),y=F++[o]:=⟨_,rfl⟩
         refine⟨lstE F2,?_⟩
         cbv
         refine hold (uck (F:=F) (o:=o) eF2 (by first|rfl|((try simp only [qV]at *);(try simp only [zQ,zA,zB,zC,zD,zE,zF,zG,zH,zI,zJ,zK,zL,zM,zN,zO,zP,zR,zS]at *);omega)) rfl (fun ix=>Fit.refl _) (fun ix=>Fit.refl _) (by(try simp only [qV]at *);(try simp only [zQ,zA,zB,zC,zD,zE,zF,zG,zH,zI,zJ,zK,zL,zM,zN,zO,zP,zR,zS]at *);omega)) (Or.inl ?_)
         try cbv)
      |fail)
  all_goals first
    |trivial
    |(subst hR;exact Fit.refl _;done)
    |(subst hB;(repeat' (first|exact qH|refine qI ?_ ?_|exact qK _|refine qJ ?_|exact qA|exact qE (by rfl)|exact qF (by rfl)|exact Fit.refl _|exact qG _|refine qC ?_ rfl ?_));done)
    |skip
theorem utT (d:Dsp)(F:List (List Int))(o:List Int)(i:Int)(hd:DOk d)(ho:o.length≤100)(hF:F.length≤1000000)(hok:(okPa d) o=true):ua0 Try.prog 93 [(iS o),(iv fun _=>i),(iv fun _=>0),.own 0 0,.own 1 0,.own 2 0,.own 3 0] [.cells [(wpS d)] 91,.cells [.clo 90 [] [],.clo 91 [] []] 111,.cells [.row 4] 23,.cells [.clo 93 [] [.own 0 0,.own 1 0,.own 2 0,.own 3 0]] 139,.row 22 1 (.sym fun _=>zi (F).length) (fun ix=>[.sl 1 (.sym fun _=>zi ((F).getD ix.den.toNat []).length) (fun jx=>[(iv fun _=>((F).getD ix.den.toNat []).getD jx.den.toNat 0)])])] (fun r bs=>r = .tup []∧bs=[.cells [(wpS d)] 91,.cells [.clo 90 [] [],.clo 91 [] []] 111,.cells [.row 4] 23,.cells [.clo 93 [] [.own 0 0,.own 1 0,.own 2 0,.own 3 0]] 139,.row 22 1 (.sym fun _=>zi ((F++[o])).length) (fun ix=>[.sl 1 (.sym fun _=>zi (((F++[o])).getD ix.den.toNat []).length) (fun jx=>[(iv fun _=>(((F++[o])).getD ix.den.toNat []).getD jx.den.toNat 0)])])]):=by
  have c91:=ulv d o (by have:=hd.f6;omega) (by omega)
  have hl:(thN d o d.fs.length).length≤1000:=by have h1:=ukF d o d.fs.length;have h2:=hd.f6;omega
  have c54:=uco d (thN d o d.fs.length) hd hl
  rw [show canT d d.fs (thN d o d.fs.length)=true from hok]at c54
  refine ua0.isB rfl fun R B hR hB=>qW (sc:=sc93) tyok mix Try.func93 rfl Try.call93 (by kernel_rfl) (by kernel_rfl) ?_
  generalize Try.prog=P at c91 c54⊢
  cbv
  repeat' (first
      |with_reducible refine And.intro ?_ ?_
      |(with_reducible intro hcd;(try simp only [zA,zB,zC,zD,zE,zF,zG,zH,zI,zJ,zK,zL,zM,zN,zO,zP]at hcd);try cbv)
      | (refine qP ?_ (c91) ?hfit
         case hfit=>((repeat' (first|exact qB|refine qD ?_ ?_|exact qE (by rfl)|exact qF (by rfl)|exact Fit.refl _|exact qA|refine qC ?_ rfl ?_));done)
         try cbv)
      | (refine qP ?_ (c54) ?hfit
         case hfit=>((repeat' (first|exact qB|refine qD ?_ ?_|exact qE (by rfl)|exact qF (by rfl)|exact Fit.refl _|exact qA|refine qC ?_ rfl ?_));done)
         try cbv)
      | (obtain⟨F2,eF2⟩:∃y:List (List Int),y=F++[o]:=⟨_,rfl⟩
         refine⟨lstE F2,?_⟩
         cbv
         refine hold (uck (F:=F) (o:=o) eF2 (by first|rfl|((try simp only [qV]at *);(try simp only [zQ,zA,zB,zC,zD,zE,zF,zG,zH,zI,zJ,zK,zL,zM,zN,zO,zP,zR,zS]at *);omega)) rfl (fun ix=>Fit.refl _) (fun ix=>Fit.refl _) (by(try simp only [qV]at *);(try simp only [zQ,zA,zB,zC,zD,zE,zF,zG,zH,zI,zJ,zK,zL,zM,zN,zO,zP,zR,zS]at *);omega)) (Or.inl ?_)
         try cbv)
      |fail)
  all_goals first
    |trivial
    |(subst hR;exact Fit.refl _;done)
    |(rw [←eF2]at hB;subst hB;refine qI (qK _) (qI (qK _) (qI (qK _) (qI (qK _) (qI (uae ?_ (fun ix h0 h1=>Fit.refl _)) qH))));(try simp only [qV]at *);(try simp only [zQ,zA,zB,zC,zD,zE,zF,zG,zH,zI,zJ,zK,zL,zM,zN,zO,zP,zR,zS]at *);simp only [eF2,List.length_append,List.length_cons,List.length_nil];omega)
    |skip
theorem uuv (d:Dsp)(F:List (List Int))(o:List Int)(i:Int)(hd:DOk d)(ho:o.length≤100)(hF:F.length≤1000000)(hok:(okPa d) o=false):ua0 Try.prog 93 [(iS o),(iv fun _=>i),(iv fun _=>0),.own 0 0,.own 1 0,.own 2 0,.own 3 0] [.cells [(wpS d)] 91,.cells [.clo 90 [] [],.clo 91 [] []] 111,.cells [.row 4] 23,.cells [.clo 93 [] [.own 0 0,.own 1 0,.own 2 0,.own 3 0]] 139,.row 22 1 (.sym fun _=>zi (F).length) (fun ix=>[.sl 1 (.sym fun _=>zi ((F).getD ix.den.toNat []).length) (fun jx=>[(iv fun _=>((F).getD ix.den.toNat []).getD jx.den.toNat 0)])])] (fun r bs=>r = .tup []∧bs=[.cells [(wpS d)] 91,.cells [.clo 90 [] [],.clo 91 [] []] 111,.cells [.row 4] 23,.cells [.clo 93 [] [.own 0 0,.own 1 0,.own 2 0,.own 3 0]] 139,.row 22 1 (.sym fun _=>zi (F).length) (fun ix=>[.sl 1 (.sym fun _=>zi ((F).getD ix.den.toNat []).length) (fun jx=>[(iv fun _=>((F).getD ix.den.toNat []).getD jx.den.toNat 0)])])]):=by
  have c91:=ulv d o (by have:=hd.f6;omega) (by omega)
  have hl:(thN d o d.fs.length).length≤1000:=by have h1:=ukF d o d.fs.length;have h2:=hd.f6;omega
  have c54:=uco d (thN d o d.fs.length) hd hl
  rw [show canT d d.fs (thN d o d.fs.length)=false from hok]at c54
  refine ua0.isB rfl fun R B hR hB=>qW (sc:=sc93) tyok mix Try.func93 rfl Try.call93 (by kernel_rfl) (by kernel_rfl) ?_
  generalize Try.prog=P at c91 c54⊢
  cbv
  repeat' (first
      |with_reducible refine And.intro ?_ ?_
      |(with_reducible intro hcd;(try simp only [zA,zB,zC,zD,zE,zF,zG,zH,zI,zJ,zK,zL,zM,zN,zO,zP]at hcd);try cbv)
      | (refine qP ?_ (c91) ?hfit
         case hfit=>((repeat' (first|exact qB|refine qD ?_ ?_|exact qE (by rfl)|exact qF (by rfl)|exact Fit.refl _|exact qA|refine qC ?_ rfl ?_));done)
         try cbv)
      | (refine qP ?_ (c54) ?hfit
         case hfit=>((repeat' (first|exact qB|refine qD ?_ ?_|exact qE (by rfl)|exact qF (by rfl)|exact Fit.refl _|exact qA|refine qC ?_ rfl ?_));done)
         try cbv)
      | (obtain⟨F2,eF2⟩:∃y:List (List Int),y=F++[o]:=⟨_,rfl⟩
         refine⟨lstE F2,?_⟩
         cbv
         refine hold (uck (F:=F) (o:=o) eF2 (by first|rfl|((try simp only [qV]at *);(try simp only [zQ,zA,zB,zC,zD,zE,zF,zG,zH,zI,zJ,zK,zL,zM,zN,zO,zP,zR,zS]at *);omega)) rfl (fun ix=>Fit.refl _) (fun ix=>Fit.refl _) (by(try simp only [qV]at *);(try simp only [zQ,zA,zB,zC,zD,zE,zF,zG,zH,zI,zJ,zK,zL,zM,zN,zO,zP,zR,zS]at *);omega)) (Or.inl ?_)
         try cbv)
      |fail)
  all_goals first
    |trivial
    |(subst hR;exact Fit.refl _;done)
    |(subst hB;(repeat' (first|exact qH|refine qI ?_ ?_|exact qK _|refine qJ ?_|exact qA|exact qE (by rfl)|exact qF (by rfl)|exact Fit.refl _|exact qG _|refine qC ?_ rfl ?_));done)
    |skip
set_option maxHeartbeats 2000000 in
theorem uvY (d:Dsp)(F:List (List Int))(o:List Int)(i m M:Nat)(hd:DOk d)(ho:o.length≤100)(hM:M=m+1)(hi:i+M≤d.fs.length)(ih:∀k:Nat,k<d.fs.length-m-i→∀(G:List (List Int)) (L:List Int),G=(F++colN d.fs.length (okFa d) m o i k)→L=o++[((i+k:Nat):Int)]→ua0 Try.prog 93 [(iS L),(iv fun _=>zi (i+k)+1),(iv fun _=>zi M-1),.own 0 0,.own 1 0,.own 2 0,.own 3 0] [.cells [(wpS d)] 91,.cells [.clo 88 [] [],.clo 89 [] []] 111,.cells [.row 4] 23,.cells [.clo 93 [] [.own 0 0,.own 1 0,.own 2 0,.own 3 0]] 139,.row 22 1 (.sym fun _=>zi (G).length) (fun ix=>[.sl 1 (.sym fun _=>zi ((G).getD ix.den.toNat []).length) (fun jx=>[(iv fun _=>((G).getD ix.den.toNat []).getD jx.den.toNat 0)])])] (fun r bs=>r = .tup []∧bs=[.cells [(wpS d)] 91,.cells [.clo 88 [] [],.clo 89 [] []] 111,.cells [.row 4] 23,.cells [.clo 93 [] [.own 0 0,.own 1 0,.own 2 0,.own 3 0]] 139,.row 22 1 (.sym fun _=>zi ((G++allC d.fs.length (okFa d) m L (i+k+1))).length) (fun ix=>[.sl 1 (.sym fun _=>zi (((G++allC d.fs.length (okFa d) m L (i+k+1))).getD ix.den.toNat []).length) (fun jx=>[(iv fun _=>(((G++allC d.fs.length (okFa d) m L (i+k+1))).getD ix.den.toNat []).getD jx.den.toNat 0)])])])):ua0 Try.prog 93 [(iS o),(iv fun _=>zi i),(iv fun _=>zi M),.own 0 0,.own 1 0,.own 2 0,.own 3 0] [.cells [(wpS d)] 91,.cells [.clo 88 [] [],.clo 89 [] []] 111,.cells [.row 4] 23,.cells [.clo 93 [] [.own 0 0,.own 1 0,.own 2 0,.own 3 0]] 139,.row 22 1 (.sym fun _=>zi (F).length) (fun ix=>[.sl 1 (.sym fun _=>zi ((F).getD ix.den.toNat []).length) (fun jx=>[(iv fun _=>((F).getD ix.den.toNat []).getD jx.den.toNat 0)])])] (fun r bs=>r = .tup []∧bs=[.cells [(wpS d)] 91,.cells [.clo 88 [] [],.clo 89 [] []] 111,.cells [.row 4] 23,.cells [.clo 93 [] [.own 0 0,.own 1 0,.own 2 0,.own 3 0]] 139,.row 22 1 (.sym fun _=>zi ((F++colN d.fs.length (okFa d) m o i (d.fs.length-m-i))).length) (fun ix=>[.sl 1 (.sym fun _=>zi (((F++colN d.fs.length (okFa d) m o i (d.fs.length-m-i))).getD ix.den.toNat []).length) (fun jx=>[(iv fun _=>(((F++colN d.fs.length (okFa d) m o i (d.fs.length-m-i))).getD ix.den.toNat []).getD jx.den.toNat 0)])])]):=by
  have c88:=unl d
  have c94:=uoE o (by omega)
  refine ua0.isB rfl fun R B hR hB=>qW (sc:=sc93) tyok mix Try.func93 rfl Try.call93 (by kernel_rfl) (by kernel_rfl) ?_
  generalize Try.prog=P at c88 c94 ih⊢
  cbv
  have s3:=hd.p4
  have f6:=hd.f6
  have p1:=hd.p1
  repeat' (first
      |with_reducible refine And.intro ?_ ?_
      |(with_reducible intro hcd;(try simp only [zA,zB,zC,zD,zE,zF,zG,zH,zI,zJ,zK,zL,zM,zN,zO,zP]at hcd);try cbv)
      |fail)
  all_goals first
    |(exfalso;(try simp only [qV]at *);(try simp only [zQ,zA,zB,zC,zD,zE,zF,zG,zH,zI,zJ,zK,zL,zM,zN,zO,zP,zR,zS]at *);omega)
    |skip
  refine⟨none,[],{k:Nat // k≤d.fs.length-m-i},fun x=>⟨[(0,(iS o)),(2,(iv fun _=>zi M)),(3,.own 0 0),(4,.own 1 0),(5,.own 2 0),(6,.own 3 0),(12,(iv fun _=>zi (i+x.1)))],[(0,.cells [(wpS d)] 91),(1,.cells [.clo 88 [] [],.clo 89 [] []] 111),(2,.cells [.row 4] 23),(3,.cells [.clo 93 [] [.own 0 0,.own 1 0,.own 2 0,.own 3 0]] 139),(4,.row 22 1 (.sym fun _=>zi ((F++colN d.fs.length (okFa d) m o i x.1)).length) (fun ix=>[.sl 1 (.sym fun _=>zi (((F++colN d.fs.length (okFa d) m o i x.1)).getD ix.den.toNat []).length) (fun jx=>[(iv fun _=>(((F++colN d.fs.length (okFa d) m o i x.1)).getD ix.den.toNat []).getD jx.den.toNat 0)])]))],60⟩,fun x=>d.fs.length-m-i-x.1,?_,?_⟩
  · refine⟨⟨0,by omega⟩,?_⟩
    cbv
    repeat' (first
      |with_reducible refine hold ?_ ?_
      |with_reducible refine And.intro ?_ ?_)
    all_goals first
      |trivial
      |exact qM (qE (by rfl))
      |exact qM (Fit.refl _)
      |exact qL (qK _)
      |(simp only [colN,List.append_nil];exact qL (qK _))
      |skip
  · rintro ⟨k,hk⟩
    cbv
    obtain⟨G,hG⟩:∃G,G=(F++colN d.fs.length (okFa d) m o i k):=⟨_,rfl⟩
    rw [←hG]
    cbv
    repeat' (first
        |with_reducible refine hold ?_ ?_
        |with_reducible refine And.intro ?_ ?_
        |(with_reducible intro hcd;(try simp only [zA,zB,zC,zD,zE,zF,zG,zH,zI,zJ,zK,zL,zM,zN,zO,zP]at hcd);try cbv)
        | (refine qP ?_ (c88) ?hfit
           case hfit=>((repeat' (first|exact qB|refine qD ?_ ?_|exact qE (by rfl)|exact qF (by rfl)|exact Fit.refl _|exact qA|refine qC ?_ rfl ?_));done)
           try cbv)
        | (refine Or.inr ⟨true,?_⟩
           cbv
           refine qU ?_ (c94) (by cbv;(repeat' (first|exact qB|refine qD ?_ ?_|exact qE (by rfl)|exact qF (by rfl)|exact Fit.refl _|exact qA|refine qC ?_ rfl ?_))) (by cbv;(repeat' (first|exact qH|refine qI ?_ ?_|exact qK _|refine qJ ?_|exact qA|exact qE (by rfl)|exact qF (by rfl)|exact Fit.refl _|exact qG _|refine qC ?_ rfl ?_)))
           try cbv)
        | (obtain⟨L2,eL2⟩:∃y:List Int,y=o++[((i+k:Nat):Int)]:=⟨_,rfl⟩
           refine⟨ueb L2,?_⟩
           cbv
           refine hold (uak (L:=o) eL2 (by(first|rfl|((try simp only [qV]at *);(try simp only [zQ,zA,zB,zC,zD,zE,zF,zG,zH,zI,zJ,zK,zL,zM,zN,zO,zP,zR,zS]at *);done)|((try simp only [qV]at *);(try simp only [zQ,zA,zB,zC,zD,zE,zF,zG,zH,zI,zJ,zK,zL,zM,zN,zO,zP,zR,zS]at *);omega))) (by rfl) (fun ix=>Fit.refl _) (fun ix h=>qC (qE (by rfl)) rfl qA) (by(try simp only [qV]at *);(try simp only [zQ,zA,zB,zC,zD,zE,zF,zG,zH,zI,zJ,zK,zL,zM,zN,zO,zP,zR,zS]at *);omega)) (Or.inr ⟨true,?_⟩)
           try cbv)
        | (refine⟨some [0,1,2,3,4],?_⟩
           cbv
           refine qQ ?_ (ih k (by((try simp only [qV]at *);(try simp only [zQ,zA,zB,zC,zD,zE,zF,zG,zH,zI,zJ,zK,zL,zM,zN,zO,zP,zR,zS]at *);omega)) G L2 hG eL2) ?hfit ?hbo
           case hfit=>(cbv;refine qD (ua1 (urd eL2) (fun _ _ _=>Fit.refl _)) ?_;(repeat' (first|exact qB|refine qD ?_ ?_|exact qE (by rfl)|exact qF (by rfl)|exact Fit.refl _|exact qA|refine qC ?_ rfl ?_));done)
           case hbo=>(cbv;(repeat' (first|exact qH|refine qI ?_ ?_|exact qK _|refine qJ ?_|exact qA|exact qE (by rfl)|exact qF (by rfl)|exact Fit.refl _|exact qG _|refine qC ?_ rfl ?_));done)
           try cbv)
        |fail)
    all_goals first
      |((try simp only [qV]at *);(try simp only [zQ,zA,zB,zC,zD,zE,zF,zG,zH,zI,zJ,zK,zL,zM,zN,zO,zP,zR,zS]at *);first|(refine qN ?_;omega)|(simp only [Hold];omega))
      |(subst hR;exact Fit.refl _;done)
      |((have hke:k=d.fs.length-m-i:=(by((try simp only [qV]at *);(try simp only [zQ,zA,zB,zC,zD,zE,zF,zG,zH,zI,zJ,zK,zL,zM,zN,zO,zP,zR,zS]at *);omega)));rw [hke]at hG;rw [←hG]at hB;subst hB;(repeat' (first|exact qH|refine qI ?_ ?_|exact qK _|refine qJ ?_|exact qA|exact qE (by rfl)|exact qF (by rfl)|exact Fit.refl _|exact qG _|refine qC ?_ rfl ?_));done)
      |((try simp only [zQ,zA,zB,zC,zD,zE,zF,zG,zH,zI,zJ,zK,zL,zM,zN,zO,zP,zR,zS]at *);(have hx:=ulj eL2 hG);refine⟨⟨k+1,by((try simp only [qV]at *);(try simp only [zQ,zA,zB,zC,zD,zE,zF,zG,zH,zI,zJ,zK,zL,zM,zN,zO,zP,zR,zS]at *);omega)⟩,by simp only [];omega,?_⟩;cbv;(repeat' (first|with_reducible refine hold ?_ ?_|with_reducible refine And.intro ?_ ?_));(all_goals first|trivial|exact qM (qE (by rfl))|exact qM (qF (by rfl))|exact qM (Fit.refl _)|exact qL (qK _)|(refine qM (qE ?_);(try simp only [qV]at *);simp only [zQ,zA,zB,zC,zD,zE,zF,zG,zH,zI,zJ,zK,zL,zM,zN,zO,zP,zR,zS]at *;omega)|(refine qL (qJ ?_);(repeat' (first|exact qA|exact qB|refine qC ?_ rfl ?_|refine qD ?_ ?_|exact qE (by rfl)|exact qF (by rfl)|exact Fit.refl _|exact qG _|(refine qE ?_;(try simp only [qV]at *);simp only [zQ,zA,zB,zC,zD,zE,zF,zG,zH,zI,zJ,zK,zL,zM,zN,zO,zP,zR,zS]at *;omega)));done)|(simp only [hx];exact qL (qK _))|(refine qM (qE ?_);(try simp only [qV]at *);(try simp only [zQ,zA,zB,zC,zD,zE,zF,zG,zH,zI,zJ,zK,zL,zM,zN,zO,zP,zR,zS]at *);omega)|skip))
      |skip
set_option maxHeartbeats 2000000 in
theorem uvB (d:Dsp)(F:List (List Int))(o:List Int)(i m M:Nat)(hd:DOk d)(ho:o.length≤100)(hM:M=m+1)(hi:i+M≤d.pn.toNat)(ih:∀k:Nat,k<d.pn.toNat-m-i→∀(G:List (List Int)) (L:List Int),G=(F++colN d.pn.toNat (okPa d) m o i k)→L=o++[((i+k:Nat):Int)]→ua0 Try.prog 93 [(iS L),(iv fun _=>zi (i+k)+1),(iv fun _=>zi M-1),.own 0 0,.own 1 0,.own 2 0,.own 3 0] [.cells [(wpS d)] 91,.cells [.clo 90 [] [],.clo 91 [] []] 111,.cells [.row 4] 23,.cells [.clo 93 [] [.own 0 0,.own 1 0,.own 2 0,.own 3 0]] 139,.row 22 1 (.sym fun _=>zi (G).length) (fun ix=>[.sl 1 (.sym fun _=>zi ((G).getD ix.den.toNat []).length) (fun jx=>[(iv fun _=>((G).getD ix.den.toNat []).getD jx.den.toNat 0)])])] (fun r bs=>r = .tup []∧bs=[.cells [(wpS d)] 91,.cells [.clo 90 [] [],.clo 91 [] []] 111,.cells [.row 4] 23,.cells [.clo 93 [] [.own 0 0,.own 1 0,.own 2 0,.own 3 0]] 139,.row 22 1 (.sym fun _=>zi ((G++allC d.pn.toNat (okPa d) m L (i+k+1))).length) (fun ix=>[.sl 1 (.sym fun _=>zi (((G++allC d.pn.toNat (okPa d) m L (i+k+1))).getD ix.den.toNat []).length) (fun jx=>[(iv fun _=>(((G++allC d.pn.toNat (okPa d) m L (i+k+1))).getD ix.den.toNat []).getD jx.den.toNat 0)])])])):ua0 Try.prog 93 [(iS o),(iv fun _=>zi i),(iv fun _=>zi M),.own 0 0,.own 1 0,.own 2 0,.own 3 0] [.cells [(wpS d)] 91,.cells [.clo 90 [] [],.clo 91 [] []] 111,.cells [.row 4] 23,.cells [.clo 93 [] [.own 0 0,.own 1 0,.own 2 0,.own 3 0]] 139,.row 22 1 (.sym fun _=>zi (F).length) (fun ix=>[.sl 1 (.sym fun _=>zi ((F).getD ix.den.toNat []).length) (fun jx=>[(iv fun _=>((F).getD ix.den.toNat []).getD jx.den.toNat 0)])])] (fun r bs=>r = .tup []∧bs=[.cells [(wpS d)] 91,.cells [.clo 90 [] [],.clo 91 [] []] 111,.cells [.row 4] 23,.cells [.clo 93 [] [.own 0 0,.own 1 0,.own 2 0,.own 3 0]] 139,.row 22 1 (.sym fun _=>zi ((F++colN d.pn.toNat (okPa d) m o i (d.pn.toNat-m-i))).length) (fun ix=>[.sl 1 (.sym fun _=>zi (((F++colN d.pn.toNat (okPa d) m o i (d.pn.toNat-m-i))).getD ix.den.toNat []).length) (fun jx=>[(iv fun _=>(((F++colN d.pn.toNat (okPa d) m o i (d.pn.toNat-m-i))).getD ix.den.toNat []).getD jx.den.toNat 0)])])]):=by
  have c90:=uiy d
  have c94:=uoE o (by omega)
  refine ua0.isB rfl fun R B hR hB=>qW (sc:=sc93) tyok mix Try.func93 rfl Try.call93 (by kernel_rfl) (by kernel_rfl) ?_
  generalize Try.prog=P at c90 c94 ih⊢
  cbv
  have s3:=hd.p4
  have f6:=hd.f6
  have p1:=hd.p1
  repeat' (first
      |with_reducible refine And.intro ?_ ?_
      |(with_reducible intro hcd;(try simp only [zA,zB,zC,zD,zE,zF,zG,zH,zI,zJ,zK,zL,zM,zN,zO,zP]at hcd);try cbv)
      |fail)
  all_goals first
    |(exfalso;(try simp only [qV]at *);(try simp only [zQ,zA,zB,zC,zD,zE,zF,zG,zH,zI,zJ,zK,zL,zM,zN,zO,zP,zR,zS]at *);omega)
    |skip
  refine⟨none,[],{k:Nat // k≤d.pn.toNat-m-i},fun x=>⟨[(0,(iS o)),(2,(iv fun _=>zi M)),(3,.own 0 0),(4,.own 1 0),(5,.own 2 0),(6,.own 3 0),(12,(iv fun _=>zi (i+x.1)))],[(0,.cells [(wpS d)] 91),(1,.cells [.clo 90 [] [],.clo 91 [] []] 111),(2,.cells [.row 4] 23),(3,.cells [.clo 93 [] [.own 0 0,.own 1 0,.own 2 0,.own 3 0]] 139),(4,.row 22 1 (.sym fun _=>zi ((F++colN d.pn.toNat (okPa d) m o i x.1)).length) (fun ix=>[.sl 1 (.sym fun _=>zi (((F++colN d.pn.toNat (okPa d) m o i x.1)).getD ix.den.toNat []).length) (fun jx=>[(iv fun _=>(((F++colN d.pn.toNat (okPa d) m o i x.1)).getD ix.den.toNat []).getD jx.den.toNat 0)])]))],60⟩,fun x=>d.pn.toNat-m-i-x.1,?_,?_⟩
  · refine⟨⟨0,by omega⟩,?_⟩
    cbv
    repeat' (first
      |with_reducible refine hold ?_ ?_
      |with_reducible refine And.intro ?_ ?_)
    all_goals first
      |trivial
      |exact qM (qE (by rfl))
      |exact qM (Fit.refl _)
      |exact qL (qK _)
      |(simp only [colN,List.append_nil];exact qL (qK _))
      |skip
  · rintro ⟨k,hk⟩
    cbv
    obtain⟨G,hG⟩:∃G,G=(F++colN d.pn.toNat (okPa d) m o i k):=⟨_,rfl⟩
    rw [←hG]
    cbv
    repeat' (first
        |with_reducible refine hold ?_ ?_
        |with_reducible refine And.intro ?_ ?_
        |(with_reducible intro hcd;(try simp only [zA,zB,zC,zD,zE,zF,zG,zH,zI,zJ,zK,zL,zM,zN,zO,zP]at hcd);try cbv)
        | (refine qP ?_ (c90) ?hfit
           case hfit=>((repeat' (first|exact qB|refine qD ?_ ?_|exact qE (by rfl)|exact qF (by rfl)|exact Fit.refl _|exact qA|refine qC ?_ rfl ?_));done)
           try cbv)
        | (refine Or.inr ⟨true,?_⟩
           cbv
           refine qU ?_ (c94) (by cbv;(repeat' (first|exact qB|refine qD ?_ ?_|exact qE (by rfl)|exact qF (by rfl)|exact Fit.refl _|exact qA|refine qC ?_ rfl ?_))) (by cbv;(repeat' (first|exact qH|refine qI ?_ ?_|exact qK _|refine qJ ?_|exact qA|exact qE (by rfl)|exact qF (by rfl)|exact Fit.refl _|exact qG _|refine qC ?_ rfl ?_)))
           try cbv)
        | (obtain⟨L2,eL2⟩:∃y:List Int,y=o++[((i+k:Nat):Int)]:=⟨_,rfl⟩
           refine⟨ueb L2,?_⟩
           cbv
           refine hold (uak (L:=o) eL2 (by(first|rfl|((try simp only [qV]at *);(try simp only [zQ,zA,zB,zC,zD,zE,zF,zG,zH,zI,zJ,zK,zL,zM,zN,zO,zP,zR,zS]at *);done)|((try simp only [qV]at *);(try simp only [zQ,zA,zB,zC,zD,zE,zF,zG,zH,zI,zJ,zK,zL,zM,zN,zO,zP,zR,zS]at *);omega))) (by rfl) (fun ix=>Fit.refl _) (fun ix h=>qC (qE (by rfl)) rfl qA) (by(try simp only [qV]at *);(try simp only [zQ,zA,zB,zC,zD,zE,zF,zG,zH,zI,zJ,zK,zL,zM,zN,zO,zP,zR,zS]at *);omega)) (Or.inr ⟨true,?_⟩)
           try cbv)
        | (refine⟨some [0,1,2,3,4],?_⟩
           cbv
           refine qQ ?_ (ih k (by((try simp only [qV]at *);(try simp only [zQ,zA,zB,zC,zD,zE,zF,zG,zH,zI,zJ,zK,zL,zM,zN,zO,zP,zR,zS]at *);omega)) G L2 hG eL2) ?hfit ?hbo
           case hfit=>(cbv;refine qD (ua1 (urd eL2) (fun _ _ _=>Fit.refl _)) ?_;(repeat' (first|exact qB|refine qD ?_ ?_|exact qE (by rfl)|exact qF (by rfl)|exact Fit.refl _|exact qA|refine qC ?_ rfl ?_));done)
           case hbo=>(cbv;(repeat' (first|exact qH|refine qI ?_ ?_|exact qK _|refine qJ ?_|exact qA|exact qE (by rfl)|exact qF (by rfl)|exact Fit.refl _|exact qG _|refine qC ?_ rfl ?_));done)
           try cbv)
        |fail)
    all_goals first
      |((try simp only [qV]at *);(try simp only [zQ,zA,zB,zC,zD,zE,zF,zG,zH,zI,zJ,zK,zL,zM,zN,zO,zP,zR,zS]at *);first|(refine qN ?_;omega)|(simp only [Hold];omega))
      |(subst hR;exact Fit.refl _;done)
      |((have hke:k=d.pn.toNat-m-i:=(by((try simp only [qV]at *);(try simp only [zQ,zA,zB,zC,zD,zE,zF,zG,zH,zI,zJ,zK,zL,zM,zN,zO,zP,zR,zS]at *);omega)));rw [hke]at hG;rw [←hG]at hB;subst hB;(repeat' (first|exact qH|refine qI ?_ ?_|exact qK _|refine qJ ?_|exact qA|exact qE (by rfl)|exact qF (by rfl)|exact Fit.refl _|exact qG _|refine qC ?_ rfl ?_));done)
      |((try simp only [zQ,zA,zB,zC,zD,zE,zF,zG,zH,zI,zJ,zK,zL,zM,zN,zO,zP,zR,zS]at *);(have hx:=ulj eL2 hG);refine⟨⟨k+1,by((try simp only [qV]at *);(try simp only [zQ,zA,zB,zC,zD,zE,zF,zG,zH,zI,zJ,zK,zL,zM,zN,zO,zP,zR,zS]at *);omega)⟩,by simp only [];omega,?_⟩;cbv;(repeat' (first|with_reducible refine hold ?_ ?_|with_reducible refine And.intro ?_ ?_));(all_goals first|trivial|exact qM (qE (by rfl))|exact qM (qF (by rfl))|exact qM (Fit.refl _)|exact qL (qK _)|(refine qM (qE ?_);(try simp only [qV]at *);simp only [zQ,zA,zB,zC,zD,zE,zF,zG,zH,zI,zJ,zK,zL,zM,zN,zO,zP,zR,zS]at *;omega)|(refine qL (qJ ?_);(repeat' (first|exact qA|exact qB|refine qC ?_ rfl ?_|refine qD ?_ ?_|exact qE (by rfl)|exact qF (by rfl)|exact Fit.refl _|exact qG _|(refine qE ?_;(try simp only [qV]at *);simp only [zQ,zA,zB,zC,zD,zE,zF,zG,zH,zI,zJ,zK,zL,zM,zN,zO,zP,zR,zS]at *;omega)));done)|(simp only [hx];exact qL (qK _))|(refine qM (qE ?_);(try simp only [qV]at *);(try simp only [zQ,zA,zB,zC,zD,zE,zF,zG,zH,zI,zJ,zK,zL,zM,zN,zO,zP,zR,zS]at *);omega)|skip))
      |skip
theorem addF (d:Dsp)(hd:DOk d):∀(m:Nat) (F:List (List Int)) (o:List Int) (i:Nat) (ie me:Int),ie=(i:Int)→me=(m:Int)→o.length≤i→i+m≤d.fs.length→F.length+(allC d.fs.length (okFa d) m o i).length≤1000000→ua0 Try.prog 93 [(iS o),(iv fun _=>ie),(iv fun _=>me),.own 0 0,.own 1 0,.own 2 0,.own 3 0] [.cells [(wpS d)] 91,.cells [.clo 88 [] [],.clo 89 [] []] 111,.cells [.row 4] 23,.cells [.clo 93 [] [.own 0 0,.own 1 0,.own 2 0,.own 3 0]] 139,.row 22 1 (.sym fun _=>zi (F).length) (fun ix=>[.sl 1 (.sym fun _=>zi ((F).getD ix.den.toNat []).length) (fun jx=>[(iv fun _=>((F).getD ix.den.toNat []).getD jx.den.toNat 0)])])] (fun r bs=>r = .tup []∧bs=[.cells [(wpS d)] 91,.cells [.clo 88 [] [],.clo 89 [] []] 111,.cells [.row 4] 23,.cells [.clo 93 [] [.own 0 0,.own 1 0,.own 2 0,.own 3 0]] 139,.row 22 1 (.sym fun _=>zi ((F++allC d.fs.length (okFa d) m o i)).length) (fun ix=>[.sl 1 (.sym fun _=>zi (((F++allC d.fs.length (okFa d) m o i)).getD ix.den.toNat []).length) (fun jx=>[(iv fun _=>(((F++allC d.fs.length (okFa d) m o i)).getD ix.den.toNat []).getD jx.den.toNat 0)])])]):=by
  have hf6:=hd.f6
  have hp4:=hd.p4
  intro m
  induction m with
  | zero=>
    intro F o i ie me hie hme ho him hB
    have hm0:me=0:=by omega
    subst hm0
    cases hok:(okFa d) o with
    | true=>
      rw [show allC d.fs.length (okFa d) 0 o i=[o] by simp only [allC,hok,if_true]]
      exact utW d F o ie hd (by omega) (by omega) hok
    | false=>
      rw [show allC d.fs.length (okFa d) 0 o i=[] by simp only [allC,hok,Bool.false_eq_true,if_false],List.append_nil]
      exact uuL d F o ie hd (by omega) (by omega) hok
  | succ m ih=>
    intro F o i ie me hie hme ho him hB
    subst hie
    subst hme
    rw [ui8]at hB⊢
    refine uvY d F o i m (m+1) hd (by omega) rfl him fun k hk G L hG hL=> ?_
    refine ih G L (i+k+1) (zi (i+k)+1) (zi (m+1)-1) (by simp only [uax];omega) (by simp only [uax];omega) (by rw [hL,List.length_append];simp only [List.length_cons,List.length_nil];omega) (by omega) ?_
    have h1:=urD (n:=d.fs.length) (ok:=(okFa d)) (m:=m) (o:=o) (i:=i) (show k+1≤d.fs.length-m-i by omega)
    have h2:=congrArg List.length (ulj (F:=F) hL hG)
    rw [List.length_append,List.length_append]at h2
    omega
theorem addP (d:Dsp)(hd:DOk d):∀(m:Nat) (F:List (List Int)) (o:List Int) (i:Nat) (ie me:Int),ie=(i:Int)→me=(m:Int)→o.length≤i→i+m≤d.pn.toNat→F.length+(allC d.pn.toNat (okPa d) m o i).length≤1000000→ua0 Try.prog 93 [(iS o),(iv fun _=>ie),(iv fun _=>me),.own 0 0,.own 1 0,.own 2 0,.own 3 0] [.cells [(wpS d)] 91,.cells [.clo 90 [] [],.clo 91 [] []] 111,.cells [.row 4] 23,.cells [.clo 93 [] [.own 0 0,.own 1 0,.own 2 0,.own 3 0]] 139,.row 22 1 (.sym fun _=>zi (F).length) (fun ix=>[.sl 1 (.sym fun _=>zi ((F).getD ix.den.toNat []).length) (fun jx=>[(iv fun _=>((F).getD ix.den.toNat []).getD jx.den.toNat 0)])])] (fun r bs=>r = .tup []∧bs=[.cells [(wpS d)] 91,.cells [.clo 90 [] [],.clo 91 [] []] 111,.cells [.row 4] 23,.cells [.clo 93 [] [.own 0 0,.own 1 0,.own 2 0,.own 3 0]] 139,.row 22 1 (.sym fun _=>zi ((F++allC d.pn.toNat (okPa d) m o i)).length) (fun ix=>[.sl 1 (.sym fun _=>zi (((F++allC d.pn.toNat (okPa d) m o i)).getD ix.den.toNat []).length) (fun jx=>[(iv fun _=>(((F++allC d.pn.toNat (okPa d) m o i)).getD ix.den.toNat []).getD jx.den.toNat 0)])])]):=by
  have hf6:=hd.f6
  have hp4:=hd.p4
  intro m
  induction m with
  | zero=>
    intro F o i ie me hie hme ho him hB
    have hm0:me=0:=by omega
    subst hm0
    cases hok:(okPa d) o with
    | true=>
      rw [show allC d.pn.toNat (okPa d) 0 o i=[o] by simp only [allC,hok,if_true]]
      exact utT d F o ie hd (by omega) (by omega) hok
    | false=>
      rw [show allC d.pn.toNat (okPa d) 0 o i=[] by simp only [allC,hok,Bool.false_eq_true,if_false],List.append_nil]
      exact uuv d F o ie hd (by omega) (by omega) hok
  | succ m ih=>
    intro F o i ie me hie hme ho him hB
    subst hie
    subst hme
    rw [ui8]at hB⊢
    refine uvB d F o i m (m+1) hd (by omega) rfl him fun k hk G L hG hL=> ?_
    refine ih G L (i+k+1) (zi (i+k)+1) (zi (m+1)-1) (by simp only [uax];omega) (by simp only [uax];omega) (by rw [hL,List.length_append];simp only [List.length_cons,List.length_nil];omega) (by omega) ?_
    have h1:=urD (n:=d.pn.toNat) (ok:=(okPa d)) (m:=m) (o:=o) (i:=i) (show k+1≤d.pn.toNat-m-i by omega)
    have h2:=congrArg List.length (ulj (F:=F) hL hG)
    rw [List.length_append,List.length_append]at h2
    omega
theorem urK {n:Nat} {ok:List Int→Bool} {m k:Nat}(hk:0<k)(h:allC n ok m [] 0=[]):lenO n ok k m=lenO n ok (k-1) (m+1):=by
  cases k with
  |zero=>omega
  |succ k=>simp only [lenO,h,List.isEmpty_nil,if_true,Nat.add_sub_cancel]
theorem ulQ {n:Nat} {ok:List Int→Bool} {m k:Nat}(hk:0<k)(h:allC n ok m [] 0≠[]):lenO n ok k m=allC n ok m [] 0:=by
  cases k with
  |zero=>omega
  | succ k=>
    simp only [lenO]
    rw [if_neg (by simpa using h)]
theorem ule {d:Dsp} {n:Nat} {ok:List Int→Bool} {m:Nat}(hn:n≤6)(hm:m≤n):(allC n ok m [] 0).length≤1000000:=by
  refine Nat.le_trans ulR (Nat.le_trans (Nat.pow_le_pow_left hn m) (Nat.le_trans (Nat.pow_le_pow_right (by omega) (show m≤6 by omega)) (by decide)))
theorem uoV (d:Dsp)(hd:DOk d):ua0 Try.prog 61 [(.agg [.clo 88 [] [],.clo 89 [] []]),(wpS d)] [] (fun r _=>r=(.sl 1 (.sym fun _=>zi ((uat d.fs.length (okFa d))).length) (fun ix=>[(.sl 1 (.sym fun _=>zi (((uat d.fs.length (okFa d))).getD ix.den.toNat []).length) (fun jx=>[(iv fun _=>(((uat d.fs.length (okFa d))).getD ix.den.toNat []).getD jx.den.toNat 0)]))]))):=by
  have c88:=unl d
  have f6:=hd.f6
  have p4:=hd.p4
  have p1:=hd.p1
  have cadd:=fun (x:Nat) (h:x≤d.fs.length)=>(show ua0 Try.prog 93 [(iS (([]:List Int))),(iv fun _=>0),(iv fun _=>zi x),.own 0 0,.own 1 0,.own 2 0,.own 3 0] [.cells [(wpS d)] 91,.cells [.clo 88 [] [],.clo 89 [] []] 111,.cells [.row 4] 23,.cells [.clo 93 [] [.own 0 0,.own 1 0,.own 2 0,.own 3 0]] 139,.row 22 1 (.sym fun _=>zi (([]:List (List Int))).length) (fun ix=>[.sl 1 (.sym fun _=>zi ((([]:List (List Int))).getD ix.den.toNat []).length) (fun jx=>[(iv fun _=>((([]:List (List Int))).getD ix.den.toNat []).getD jx.den.toNat 0)])])] (fun r bs=>r = .tup []∧bs=[.cells [(wpS d)] 91,.cells [.clo 88 [] [],.clo 89 [] []] 111,.cells [.row 4] 23,.cells [.clo 93 [] [.own 0 0,.own 1 0,.own 2 0,.own 3 0]] 139,.row 22 1 (.sym fun _=>zi ((allC d.fs.length (okFa d) x [] 0)).length) (fun ix=>[.sl 1 (.sym fun _=>zi (((allC d.fs.length (okFa d) x [] 0)).getD ix.den.toNat []).length) (fun jx=>[(iv fun _=>(((allC d.fs.length (okFa d) x [] 0)).getD ix.den.toNat []).getD jx.den.toNat 0)])])])from addF d hd x [] [] 0 0 (zi x) rfl (by simp only [uax]) (Nat.le_refl _) (by omega) (by have:=ule (d:=d) (n:=d.fs.length) (ok:=(okFa d)) (m:=x) (by omega) h;simp only [List.length_nil];omega))
  refine ua0.is fun R hR=>qW (sc:=sc61) tyok mix Try.func61 rfl Try.call61 (by kernel_rfl) (by kernel_rfl) ?_
  generalize Try.prog=P at c88 cadd⊢
  cbv
  repeat' (first
      |with_reducible refine hold ?_ ?_
      | (refine qP ?_ (c88) ?hfit
         case hfit=>((repeat' (first|exact qB|refine qD ?_ ?_|exact qE (by rfl)|exact qF (by rfl)|exact Fit.refl _|exact qA|refine qC ?_ rfl ?_));done)
         try cbv)
      |fail)
  all_goals first
    |((try simp only [qV]at *);(try simp only [zQ,zA,zB,zC,zD,zE,zF,zG,zH,zI,zJ,zK,zL,zM,zN,zO,zP,zR,zS]at *);first|(refine qN ?_;omega)|(simp only [Hold];omega))
    |skip
  refine⟨none,[⟨.cell 2 0,22,1⟩],{x:Nat // x≤d.fs.length+1∧uat d.fs.length (okFa d)=lenO d.fs.length (okFa d) (d.fs.length+1-x) x},fun x=>⟨[(2,.own 0 0),(3,.own 1 0),(4,.own 2 0),(5,.own 3 0),(12,(iv fun _=>zi d.fs.length+1)),(13,(iv fun _=>zi x.1))],[(0,.cells [.clo 88 [] [],.clo 89 [] []] 111),(1,.cells [(wpS d)] 91),(2,.cells [.row 12] 23),(3,.cells [.clo 93 [] [.own 1 0,.own 0 0,.own 2 0,.own 3 0]] 139),(12,.row 22 1 (.sym fun _=>zi (([]:List (List Int))).length) (fun ix=>[.sl 1 (.sym fun _=>zi ((([]:List (List Int))).getD ix.den.toNat []).length) (fun jx=>[(iv fun _=>((([]:List (List Int))).getD ix.den.toNat []).getD jx.den.toNat 0)])]))],60⟩,fun x=>d.fs.length+1-x.1,?_,?_⟩
  · refine⟨⟨0,by omega,rfl⟩,?_⟩
    cbv
    repeat' (first
      |with_reducible refine hold ?_ ?_
      |with_reducible refine And.intro ?_ ?_)
    all_goals first
      |trivial
      |exact qM (qE (by rfl))
      |exact qM (Fit.refl _)
      |exact qL (qK _)
      |(refine qL (uae ?_ ?_);(first|rfl|((try simp only [qV]at *);(try simp only [zQ,zA,zB,zC,zD,zE,zF,zG,zH,zI,zJ,zK,zL,zM,zN,zO,zP,zR,zS]at *);omega));intro ix h0 h1;exfalso;(try simp only [qV]at *);(try simp only [zQ,zA,zB,zC,zD,zE,zF,zG,zH,zI,zJ,zK,zL,zM,zN,zO,zP,zR,zS]at *);omega)
      |skip
  · rintro ⟨x,hx,h3⟩
    cbv
    obtain⟨A,hA⟩:∃A,A=allC d.fs.length (okFa d) x [] 0:=⟨_,rfl⟩
    have caddx:=fun h=>cadd x h
    rw [←hA]at caddx
    cbv
    repeat' (first
        |with_reducible refine hold ?_ ?_
        |with_reducible refine And.intro ?_ ?_
        |(with_reducible intro hcd;(try simp only [zA,zB,zC,zD,zE,zF,zG,zH,zI,zJ,zK,zL,zM,zN,zO,zP]at hcd);try cbv)
        | (refine⟨some [1,0,2,3,12],?_⟩
           cbv
           refine qQ ?_ (caddx (by((try simp only [qV]at *);(try simp only [zQ,zA,zB,zC,zD,zE,zF,zG,zH,zI,zJ,zK,zL,zM,zN,zO,zP,zR,zS]at *);omega))) ?hfit ?hbo
           case hfit=>(cbv;refine qD (qO rfl) ?_;(repeat' (first|exact qB|refine qD ?_ ?_|exact qE (by rfl)|exact qF (by rfl)|exact Fit.refl _|exact qA|refine qC ?_ rfl ?_));done)
           case hbo=>(cbv;(repeat' (first|exact qH|refine qI ?_ ?_|exact qK _|refine qJ ?_|exact qA|exact qE (by rfl)|exact qF (by rfl)|exact Fit.refl _|exact qG _|refine qC ?_ rfl ?_));done)
           try cbv)
        |fail)
    all_goals first
      |((try simp only [qV]at *);(try simp only [zQ,zA,zB,zC,zD,zE,zF,zG,zH,zI,zJ,zK,zL,zM,zN,zO,zP,zR,zS]at *);first|(refine qN ?_;omega)|(simp only [Hold];omega))
      |(subst hR;((have hne:A≠[]:=fun q=>by(rw [q]at hcd;(try simp only [qV]at *);(try simp only [zQ,zA,zB,zC,zD,zE,zF,zG,zH,zI,zJ,zK,zL,zM,zN,zO,zP,zR,zS]at *);simp only [List.length_nil]at hcd;omega));(have e9:=h3.trans (ulQ (by((try simp only [qV]at *);(try simp only [zQ,zA,zB,zC,zD,zE,zF,zG,zH,zI,zJ,zK,zL,zM,zN,zO,zP,zR,zS]at *);omega)) (by rw [←hA];exact hne)));rw [←hA]at e9;rw [e9];exact Fit.refl _);done)
      |(subst hR;((have hz:d.fs.length+1-x=0:=by((try simp only [qV]at *);(try simp only [zQ,zA,zB,zC,zD,zE,zF,zG,zH,zI,zJ,zK,zL,zM,zN,zO,zP,zR,zS]at *);omega));rw [hz]at h3;rw [show uat d.fs.length (okFa d)=[]from h3];exact Fit.refl _);done)
      |((try simp only [zQ,zA,zB,zC,zD,zE,zF,zG,zH,zI,zJ,zK,zL,zM,zN,zO,zP,zR,zS]at *);(have hAe:A=[]:=List.length_eq_zero_iff.1 (by((try simp only [qV]at *);(try simp only [zQ,zA,zB,zC,zD,zE,zF,zG,zH,zI,zJ,zK,zL,zM,zN,zO,zP,zR,zS]at *);omega)));refine⟨⟨x+1,by((try simp only [qV]at *);(try simp only [zQ,zA,zB,zC,zD,zE,zF,zG,zH,zI,zJ,zK,zL,zM,zN,zO,zP,zR,zS]at *);omega),by rw [show d.fs.length+1-(x+1)=d.fs.length+1-x-1 by omega,←urK (by((try simp only [qV]at *);(try simp only [zQ,zA,zB,zC,zD,zE,zF,zG,zH,zI,zJ,zK,zL,zM,zN,zO,zP,zR,zS]at *);omega)) (hA.symm.trans hAe)];exact h3⟩,by simp only [];omega,?_⟩;cbv;(repeat' (first|with_reducible refine hold ?_ ?_|with_reducible refine And.intro ?_ ?_));(all_goals first|trivial|exact qM (qE (by rfl))|exact qM (qF (by rfl))|exact qM (Fit.refl _)|exact qL (qK _)|(refine qM (qE ?_);(try simp only [qV]at *);simp only [zQ,zA,zB,zC,zD,zE,zF,zG,zH,zI,zJ,zK,zL,zM,zN,zO,zP,zR,zS]at *;omega)|(refine qL (qJ ?_);(repeat' (first|exact qA|exact qB|refine qC ?_ rfl ?_|refine qD ?_ ?_|exact qE (by rfl)|exact qF (by rfl)|exact Fit.refl _|exact qG _|(refine qE ?_;(try simp only [qV]at *);simp only [zQ,zA,zB,zC,zD,zE,zF,zG,zH,zI,zJ,zK,zL,zM,zN,zO,zP,zR,zS]at *;omega)));done)|(simp only [hAe];exact qL (qK _))|(refine qL (uae ?_ ?_);(first|rfl|(simp only [hAe];rfl));intro ix h0 h1;exfalso;simp only [hAe]at h1;(try simp only [qV]at *);(try simp only [zQ,zA,zB,zC,zD,zE,zF,zG,zH,zI,zJ,zK,zL,zM,zN,zO,zP,zR,zS]at *);omega)|skip))
      |skip
theorem ug5 (d:Dsp)(hd:DOk d):ua0 Try.prog 61 [(.agg [.clo 90 [] [],.clo 91 [] []]),(wpS d)] [] (fun r _=>r=(.sl 1 (.sym fun _=>zi ((uat d.pn.toNat (okPa d))).length) (fun ix=>[(.sl 1 (.sym fun _=>zi (((uat d.pn.toNat (okPa d))).getD ix.den.toNat []).length) (fun jx=>[(iv fun _=>(((uat d.pn.toNat (okPa d))).getD ix.den.toNat []).getD jx.den.toNat 0)]))]))):=by
  have c90:=uiy d
  have f6:=hd.f6
  have p4:=hd.p4
  have p1:=hd.p1
  have cadd:=fun (x:Nat) (h:x≤d.pn.toNat)=>(show ua0 Try.prog 93 [(iS (([]:List Int))),(iv fun _=>0),(iv fun _=>zi x),.own 0 0,.own 1 0,.own 2 0,.own 3 0] [.cells [(wpS d)] 91,.cells [.clo 90 [] [],.clo 91 [] []] 111,.cells [.row 4] 23,.cells [.clo 93 [] [.own 0 0,.own 1 0,.own 2 0,.own 3 0]] 139,.row 22 1 (.sym fun _=>zi (([]:List (List Int))).length) (fun ix=>[.sl 1 (.sym fun _=>zi ((([]:List (List Int))).getD ix.den.toNat []).length) (fun jx=>[(iv fun _=>((([]:List (List Int))).getD ix.den.toNat []).getD jx.den.toNat 0)])])] (fun r bs=>r = .tup []∧bs=[.cells [(wpS d)] 91,.cells [.clo 90 [] [],.clo 91 [] []] 111,.cells [.row 4] 23,.cells [.clo 93 [] [.own 0 0,.own 1 0,.own 2 0,.own 3 0]] 139,.row 22 1 (.sym fun _=>zi ((allC d.pn.toNat (okPa d) x [] 0)).length) (fun ix=>[.sl 1 (.sym fun _=>zi (((allC d.pn.toNat (okPa d) x [] 0)).getD ix.den.toNat []).length) (fun jx=>[(iv fun _=>(((allC d.pn.toNat (okPa d) x [] 0)).getD ix.den.toNat []).getD jx.den.toNat 0)])])])from addP d hd x [] [] 0 0 (zi x) rfl (by simp only [uax]) (Nat.le_refl _) (by omega) (by have:=ule (d:=d) (n:=d.pn.toNat) (ok:=(okPa d)) (m:=x) (by omega) h;simp only [List.length_nil];omega))
  refine ua0.is fun R hR=>qW (sc:=sc61) tyok mix Try.func61 rfl Try.call61 (by kernel_rfl) (by kernel_rfl) ?_
  generalize Try.prog=P at c90 cadd⊢
  cbv
  repeat' (first
      |with_reducible refine hold ?_ ?_
      | (refine qP ?_ (c90) ?hfit
         case hfit=>((repeat' (first|exact qB|refine qD ?_ ?_|exact qE (by rfl)|exact qF (by rfl)|exact Fit.refl _|exact qA|refine qC ?_ rfl ?_));done)
         try cbv)
      |fail)
  all_goals first
    |((try simp only [qV]at *);(try simp only [zQ,zA,zB,zC,zD,zE,zF,zG,zH,zI,zJ,zK,zL,zM,zN,zO,zP,zR,zS]at *);first|(refine qN ?_;omega)|(simp only [Hold];omega))
    |skip
  refine⟨none,[⟨.cell 2 0,22,1⟩],{x:Nat // x≤d.pn.toNat+1∧uat d.pn.toNat (okPa d)=lenO d.pn.toNat (okPa d) (d.pn.toNat+1-x) x},fun x=>⟨[(2,.own 0 0),(3,.own 1 0),(4,.own 2 0),(5,.own 3 0),(12,(iv fun _=>d.pn+1)),(13,(iv fun _=>zi x.1))],[(0,.cells [.clo 90 [] [],.clo 91 [] []] 111),(1,.cells [(wpS d)] 91),(2,.cells [.row 12] 23),(3,.cells [.clo 93 [] [.own 1 0,.own 0 0,.own 2 0,.own 3 0]] 139),(12,.row 22 1 (.sym fun _=>zi (([]:List (List Int))).length) (fun ix=>[.sl 1 (.sym fun _=>zi ((([]:List (List Int))).getD ix.den.toNat []).length) (fun jx=>[(iv fun _=>((([]:List (List Int))).getD ix.den.toNat []).getD jx.den.toNat 0)])]))],60⟩,fun x=>d.pn.toNat+1-x.1,?_,?_⟩
  · refine⟨⟨0,by omega,rfl⟩,?_⟩
    cbv
    repeat' (first
      |with_reducible refine hold ?_ ?_
      |with_reducible refine And.intro ?_ ?_)
    all_goals first
      |trivial
      |exact qM (qE (by rfl))
      |exact qM (Fit.refl _)
      |exact qL (qK _)
      |(refine qL (uae ?_ ?_);(first|rfl|((try simp only [qV]at *);(try simp only [zQ,zA,zB,zC,zD,zE,zF,zG,zH,zI,zJ,zK,zL,zM,zN,zO,zP,zR,zS]at *);omega));intro ix h0 h1;exfalso;(try simp only [qV]at *);(try simp only [zQ,zA,zB,zC,zD,zE,zF,zG,zH,zI,zJ,zK,zL,zM,zN,zO,zP,zR,zS]at *);omega)
      |skip
  · rintro ⟨x,hx,h3⟩
    cbv
    obtain⟨A,hA⟩:∃A,A=allC d.pn.toNat (okPa d) x [] 0:=⟨_,rfl⟩
    have caddx:=fun h=>cadd x h
    rw [←hA]at caddx
    cbv
    repeat' (first
        |with_reducible refine hold ?_ ?_
        |with_reducible refine And.intro ?_ ?_
        |(with_reducible intro hcd;(try simp only [zA,zB,zC,zD,zE,zF,zG,zH,zI,zJ,zK,zL,zM,zN,zO,zP]at hcd);try cbv)
        | (refine⟨some [1,0,2,3,12],?_⟩
           cbv
           refine qQ ?_ (caddx (by((try simp only [qV]at *);(try simp only [zQ,zA,zB,zC,zD,zE,zF,zG,zH,zI,zJ,zK,zL,zM,zN,zO,zP,zR,zS]at *);omega))) ?hfit ?hbo
           case hfit=>(cbv;refine qD (qO rfl) ?_;(repeat' (first|exact qB|refine qD ?_ ?_|exact qE (by rfl)|exact qF (by rfl)|exact Fit.refl _|exact qA|refine qC ?_ rfl ?_));done)
           case hbo=>(cbv;(repeat' (first|exact qH|refine qI ?_ ?_|exact qK _|refine qJ ?_|exact qA|exact qE (by rfl)|exact qF (by rfl)|exact Fit.refl _|exact qG _|refine qC ?_ rfl ?_));done)
           try cbv)
        |fail)
    all_goals first
      |((try simp only [qV]at *);(try simp only [zQ,zA,zB,zC,zD,zE,zF,zG,zH,zI,zJ,zK,zL,zM,zN,zO,zP,zR,zS]at *);first|(refine qN ?_;omega)|(simp only [Hold];omega))
      |(subst hR;((have hne:A≠[]:=fun q=>by(rw [q]at hcd;(try simp only [qV]at *);(try simp only [zQ,zA,zB,zC,zD,zE,zF,zG,zH,zI,zJ,zK,zL,zM,zN,zO,zP,zR,zS]at *);simp only [List.length_nil]at hcd;omega));(have e9:=h3.trans (ulQ (by((try simp only [qV]at *);(try simp only [zQ,zA,zB,zC,zD,zE,zF,zG,zH,zI,zJ,zK,zL,zM,zN,zO,zP,zR,zS]at *);omega)) (by rw [←hA];exact hne)));rw [←hA]at e9;rw [e9];exact Fit.refl _);done)
      |(subst hR;((have hz:d.pn.toNat+1-x=0:=by((try simp only [qV]at *);(try simp only [zQ,zA,zB,zC,zD,zE,zF,zG,zH,zI,zJ,zK,zL,zM,zN,zO,zP,zR,zS]at *);omega));rw [hz]at h3;rw [show uat d.pn.toNat (okPa d)=[]from h3];exact Fit.refl _);done)
      |((try simp only [zQ,zA,zB,zC,zD,zE,zF,zG,zH,zI,zJ,zK,zL,zM,zN,zO,zP,zR,zS]at *);(have hAe:A=[]:=List.length_eq_zero_iff.1 (by((try simp only [qV]at *);(try simp only [zQ,zA,zB,zC,zD,zE,zF,zG,zH,zI,zJ,zK,zL,zM,zN,zO,zP,zR,zS]at *);omega)));refine⟨⟨x+1,by((try simp only [qV]at *);(try simp only [zQ,zA,zB,zC,zD,zE,zF,zG,zH,zI,zJ,zK,zL,zM,zN,zO,zP,zR,zS]at *);omega),by rw [show d.pn.toNat+1-(x+1)=d.pn.toNat+1-x-1 by omega,←urK (by((try simp only [qV]at *);(try simp only [zQ,zA,zB,zC,zD,zE,zF,zG,zH,zI,zJ,zK,zL,zM,zN,zO,zP,zR,zS]at *);omega)) (hA.symm.trans hAe)];exact h3⟩,by simp only [];omega,?_⟩;cbv;(repeat' (first|with_reducible refine hold ?_ ?_|with_reducible refine And.intro ?_ ?_));(all_goals first|trivial|exact qM (qE (by rfl))|exact qM (qF (by rfl))|exact qM (Fit.refl _)|exact qL (qK _)|(refine qM (qE ?_);(try simp only [qV]at *);simp only [zQ,zA,zB,zC,zD,zE,zF,zG,zH,zI,zJ,zK,zL,zM,zN,zO,zP,zR,zS]at *;omega)|(refine qL (qJ ?_);(repeat' (first|exact qA|exact qB|refine qC ?_ rfl ?_|refine qD ?_ ?_|exact qE (by rfl)|exact qF (by rfl)|exact Fit.refl _|exact qG _|(refine qE ?_;(try simp only [qV]at *);simp only [zQ,zA,zB,zC,zD,zE,zF,zG,zH,zI,zJ,zK,zL,zM,zN,zO,zP,zR,zS]at *;omega)));done)|(simp only [hAe];exact qL (qK _))|(refine qL (uae ?_ ?_);(first|rfl|(simp only [hAe];rfl));intro ix h0 h1;exfalso;simp only [hAe]at h1;(try simp only [qV]at *);(try simp only [zQ,zA,zB,zC,zD,zE,zF,zG,zH,zI,zJ,zK,zL,zM,zN,zO,zP,zR,zS]at *);omega)|skip))
      |skip
end Go.Proofs.Ytkdggbfknlcdaaa
namespace Go.Proofs.Ytkdggbfknlcdaaa
open Go.Eng.Dif Go.Eng.Few
def ptD (d:Dsp)(i:Nat):Int:=(d.fs.getD i f0T).p
theorem ufu (d:Dsp):okFa d=okF (SN d) (LO d) (FO d d.fs):=funext fun o=>uns
theorem ukv {d:Dsp}(h:DOk d):okPa d=okP (SN d) (LO d) (FO d d.fs) (ptD d):=by
  funext o
  unfold okPa okP
  rw [uns]
  unfold okF
  refine ujk (okk h h.f) fun i hi=> ?_
  rw [udK]at hi
  unfold outP outL
  have e:(thN d o d.fs.length).contains (i:Int)=inL o (d.fs.getD i f0T).p:=use hi
  rw [e,uhw]
  rfl
theorem uvy {d:Dsp}(h:DOk d):∀i,i<(FO d d.fs).length→0≤ptD d i∧ptD d i<(d.pn.toNat:Int):=by
  intro i hi
  rw [udK]at hi
  have q:=h.f i hi
  have:=h.p1
  unfold ubo at q
  unfold ptD
  omega
theorem uvm {d:Dsp}(h:DOk d)(hl:ucK d=true):okFa d (uaF d.fs.length)=true:=by
  rw [ufu]
  have:=uhX (okk h h.f)
  rw [udK]at this
  rw [this,←uda];exact hl
theorem uw1 {d:Dsp}(h:DOk d)(hl:ucK d=true):okPa d (uaF d.pn.toNat)=true:=by
  rw [ukv h,unr (okk h h.f) (uvy h),←uda];exact hl
theorem ufq {d:Dsp}(h:ua4 d=0):okFa d (uaF d.fs.length)=true:=uvm (ua2.1 (uau h).1) (uau h).2
theorem ufl {d:Dsp}(h:ua4 d=0):okPa d (uaF d.pn.toNat)=true:=uw1 (ua2.1 (uau h).1) (uau h).2
theorem ugx {n:Nat} {ok:List Int→Bool}(h:ok (uaF n)=true):0<(uat n ok).length∧(uat n ok).getD 0 []=fewL n ok:=by
  have:=umm h
  cases hs:uat n ok with
  |nil=>rw [hs]at this;cases this
  | cons a l=>
    rw [hs]at this
    refine⟨by simp,?_⟩
    have e:some a=some (fewL n ok):=this
    show a=_
    exact Option.some.inj e
def leaL (d:Dsp):List Int:=if ua4 d=0 then fewL d.fs.length (okFa d)else []
def belL (d:Dsp):List Int:=if ua4 d=0 then fewL d.pn.toNat (okPa d)else []
end Go.Proofs.Ytkdggbfknlcdaaa
namespace Go.Proofs.Ytkdggbfknlcdaaa
open Go Go.Eng Go.Proofs Go.Eng.Dif Go.Eng.Few
set_option maxRecDepth 10000
theorem umB (d:Dsp)(h:ua4 d=0):ua0 Try.prog 57 [(.agg [.clo 88 [] [],.clo 89 [] []]),(dspS d)] [] (fun r _=>r=(.tup [(iS ((leaL d))),(iv fun _=>ua4 d)])):=by
  have c59:=ul8 d h
  have hd:=ua2.1 (uau h).1
  have hs:=ugx (ufq h)
  have hsm:leaL d=fewL d.fs.length (okFa d):=if_pos h
  rw [hsm,h,←hs.2]
  have hs1:=hs.1
  have c61:=uoV d hd
  obtain⟨Q,hQ⟩:∃Q,Q=uat d.fs.length (okFa d):=⟨_,rfl⟩
  rw [←hQ]at c61 hs1⊢
  refine ua0.is fun R hR=>qW (sc:=sc57) tyok mix Try.func57 rfl Try.call57 (by kernel_rfl) (by kernel_rfl) ?_
  generalize Try.prog=P at c59 c61⊢
  cbv
  repeat' (first
      |with_reducible refine hold ?_ ?_
      |with_reducible refine And.intro ?_ ?_
      |(with_reducible intro hcd;(try simp only [zA,zB,zC,zD,zE,zF,zG,zH,zI,zJ,zK,zL,zM,zN,zO,zP]at hcd);try cbv)
      | (refine qP ?_ (c59) ?hfit
         case hfit=>((repeat' (first|exact qB|refine qD ?_ ?_|exact qE (by rfl)|exact qF (by rfl)|exact Fit.refl _|exact qA|refine qC ?_ rfl ?_));done)
         try cbv)
      | (refine qP ?_ (c61) ?hfit
         case hfit=>((repeat' (first|exact qB|refine qD ?_ ?_|exact qE (by rfl)|exact qF (by rfl)|exact Fit.refl _|exact qA|refine qC ?_ rfl ?_));done)
         try cbv)
      |fail)
  all_goals first
    |trivial
    |((try simp only [qV]at *);(try simp only [zQ,zA,zB,zC,zD,zE,zF,zG,zH,zI,zJ,zK,zL,zM,zN,zO,zP,zR,zS]at *);first|(refine qN ?_;omega)|(simp only [Hold];omega))
    |(subst hR;(repeat' (first|exact qA|exact qB|refine qC ?_ rfl ?_|refine qD ?_ ?_|exact qE (by rfl)|exact qF (by rfl)|exact Fit.refl _|exact qG _|(refine qE ?_;(try simp only [qV]at *);simp only [zQ,zA,zB,zC,zD,zE,zF,zG,zH,zI,zJ,zK,zL,zM,zN,zO,zP,zR,zS]at *;omega)));done)
    |skip
theorem umr (d:Dsp)(h:¬ua4 d=0):ua0 Try.prog 57 [(.agg [.clo 88 [] [],.clo 89 [] []]),(dspS d)] [] (fun r _=>r=(.tup [(iS ((leaL d))),(iv fun _=>ua4 d)])):=by
  have c59:=uhY d h
  refine ua0.is fun R hR=>qW (sc:=sc57) tyok mix Try.func57 rfl Try.call57 (by kernel_rfl) (by kernel_rfl) ?_
  generalize Try.prog=P at c59⊢
  cbv
  repeat' (first
      |with_reducible refine And.intro ?_ ?_
      |(with_reducible intro hcd;(try simp only [zA,zB,zC,zD,zE,zF,zG,zH,zI,zJ,zK,zL,zM,zN,zO,zP]at hcd);try cbv)
      | (refine qP ?_ (c59) ?hfit
         case hfit=>((repeat' (first|exact qB|refine qD ?_ ?_|exact qE (by rfl)|exact qF (by rfl)|exact Fit.refl _|exact qA|refine qC ?_ rfl ?_));done)
         try cbv)
      |fail)
  all_goals first
    |trivial
    |(subst hR;(exact qD (qO (by(have e:leaL d=[]:=if_neg h);rw [e];rfl)) (qD (Fit.refl _) qB));done)
    |skip
theorem unI (d:Dsp):ua0 Try.prog 57 [(.agg [.clo 88 [] [],.clo 89 [] []]),(dspS d)] [] (fun r _=>r=(.tup [(iS ((leaL d))),(iv fun _=>ua4 d)])):=by
  by_cases h:ua4 d=0
  · exact umB d h
  · exact umr d h
theorem ubG (d:Dsp):ua0 Try.prog 22 [(dspS d)] [] (fun r _=>r=(.tup [(iS ((leaL d))),(iv fun _=>ua4 d)])):=by
  have cb:=uq6
  have c57:=unI d
  refine ua0.is fun R hR=>qW (sc:=sc22) tyok mix Try.func22 rfl Try.call22 (by kernel_rfl) (by kernel_rfl) ?_
  generalize Try.prog=P at cb c57⊢
  cbv
  repeat' (first
      | (refine qP ?_ (cb) ?hfit
         case hfit=>((repeat' (first|exact qB|refine qD ?_ ?_|exact qE (by rfl)|exact qF (by rfl)|exact Fit.refl _|exact qA|refine qC ?_ rfl ?_));done)
         try cbv)
      | (refine qP ?_ (c57) ?hfit
         case hfit=>((repeat' (first|exact qB|refine qD ?_ ?_|exact qE (by rfl)|exact qF (by rfl)|exact Fit.refl _|exact qA|refine qC ?_ rfl ?_));done)
         try cbv)
      |fail)
  all_goals first
    |(subst hR;(repeat' (first|exact qA|exact qB|refine qC ?_ rfl ?_|refine qD ?_ ?_|exact qE (by rfl)|exact qF (by rfl)|exact Fit.refl _|exact qG _|(refine qE ?_;(try simp only [qV]at *);simp only [zQ,zA,zB,zC,zD,zE,zF,zG,zH,zI,zJ,zK,zL,zM,zN,zO,zP,zR,zS]at *;omega)));done)
    |skip
theorem umQ (d:Dsp)(h:ua4 d=0):ua0 Try.prog 57 [(.agg [.clo 90 [] [],.clo 91 [] []]),(dspS d)] [] (fun r _=>r=(.tup [(iS ((belL d))),(iv fun _=>ua4 d)])):=by
  have c59:=ul8 d h
  have hd:=ua2.1 (uau h).1
  have hs:=ugx (ufl h)
  have hsm:belL d=fewL d.pn.toNat (okPa d):=if_pos h
  rw [hsm,h,←hs.2]
  have hs1:=hs.1
  have c61:=ug5 d hd
  obtain⟨Q,hQ⟩:∃Q,Q=uat d.pn.toNat (okPa d):=⟨_,rfl⟩
  rw [←hQ]at c61 hs1⊢
  refine ua0.is fun R hR=>qW (sc:=sc57) tyok mix Try.func57 rfl Try.call57 (by kernel_rfl) (by kernel_rfl) ?_
  generalize Try.prog=P at c59 c61⊢
  cbv
  repeat' (first
      |with_reducible refine hold ?_ ?_
      |with_reducible refine And.intro ?_ ?_
      |(with_reducible intro hcd;(try simp only [zA,zB,zC,zD,zE,zF,zG,zH,zI,zJ,zK,zL,zM,zN,zO,zP]at hcd);try cbv)
      | (refine qP ?_ (c59) ?hfit
         case hfit=>((repeat' (first|exact qB|refine qD ?_ ?_|exact qE (by rfl)|exact qF (by rfl)|exact Fit.refl _|exact qA|refine qC ?_ rfl ?_));done)
         try cbv)
      | (refine qP ?_ (c61) ?hfit
         case hfit=>((repeat' (first|exact qB|refine qD ?_ ?_|exact qE (by rfl)|exact qF (by rfl)|exact Fit.refl _|exact qA|refine qC ?_ rfl ?_));done)
         try cbv)
      |fail)
  all_goals first
    |trivial
    |((try simp only [qV]at *);(try simp only [zQ,zA,zB,zC,zD,zE,zF,zG,zH,zI,zJ,zK,zL,zM,zN,zO,zP,zR,zS]at *);first|(refine qN ?_;omega)|(simp only [Hold];omega))
    |(subst hR;(repeat' (first|exact qA|exact qB|refine qC ?_ rfl ?_|refine qD ?_ ?_|exact qE (by rfl)|exact qF (by rfl)|exact Fit.refl _|exact qG _|(refine qE ?_;(try simp only [qV]at *);simp only [zQ,zA,zB,zC,zD,zE,zF,zG,zH,zI,zJ,zK,zL,zM,zN,zO,zP,zR,zS]at *;omega)));done)
    |skip
theorem umK (d:Dsp)(h:¬ua4 d=0):ua0 Try.prog 57 [(.agg [.clo 90 [] [],.clo 91 [] []]),(dspS d)] [] (fun r _=>r=(.tup [(iS ((belL d))),(iv fun _=>ua4 d)])):=by
  have c59:=uhY d h
  refine ua0.is fun R hR=>qW (sc:=sc57) tyok mix Try.func57 rfl Try.call57 (by kernel_rfl) (by kernel_rfl) ?_
  generalize Try.prog=P at c59⊢
  cbv
  repeat' (first
      |with_reducible refine And.intro ?_ ?_
      |(with_reducible intro hcd;(try simp only [zA,zB,zC,zD,zE,zF,zG,zH,zI,zJ,zK,zL,zM,zN,zO,zP]at hcd);try cbv)
      | (refine qP ?_ (c59) ?hfit
         case hfit=>((repeat' (first|exact qB|refine qD ?_ ?_|exact qE (by rfl)|exact qF (by rfl)|exact Fit.refl _|exact qA|refine qC ?_ rfl ?_));done)
         try cbv)
      |fail)
  all_goals first
    |trivial
    |(subst hR;(exact qD (qO (by(have e:belL d=[]:=if_neg h);rw [e];rfl)) (qD (Fit.refl _) qB));done)
    |skip
theorem upk (d:Dsp):ua0 Try.prog 57 [(.agg [.clo 90 [] [],.clo 91 [] []]),(dspS d)] [] (fun r _=>r=(.tup [(iS ((belL d))),(iv fun _=>ua4 d)])):=by
  by_cases h:ua4 d=0
  · exact umQ d h
  · exact umK d h
theorem up5 (d:Dsp):ua0 Try.prog 23 [(dspS d)] [] (fun r _=>r=(.tup [(iS ((belL d))),(iv fun _=>ua4 d)])):=by
  have cb:=ug0
  have c57:=upk d
  refine ua0.is fun R hR=>qW (sc:=sc23) tyok mix Try.func23 rfl Try.call23 (by kernel_rfl) (by kernel_rfl) ?_
  generalize Try.prog=P at cb c57⊢
  cbv
  repeat' (first
      | (refine qP ?_ (cb) ?hfit
         case hfit=>((repeat' (first|exact qB|refine qD ?_ ?_|exact qE (by rfl)|exact qF (by rfl)|exact Fit.refl _|exact qA|refine qC ?_ rfl ?_));done)
         try cbv)
      | (refine qP ?_ (c57) ?hfit
         case hfit=>((repeat' (first|exact qB|refine qD ?_ ?_|exact qE (by rfl)|exact qF (by rfl)|exact Fit.refl _|exact qA|refine qC ?_ rfl ?_));done)
         try cbv)
      |fail)
  all_goals first
    |(subst hR;(repeat' (first|exact qA|exact qB|refine qC ?_ rfl ?_|refine qD ?_ ?_|exact qE (by rfl)|exact qF (by rfl)|exact Fit.refl _|exact qG _|(refine qE ?_;(try simp only [qV]at *);simp only [zQ,zA,zB,zC,zD,zE,zF,zG,zH,zI,zJ,zK,zL,zM,zN,zO,zP,zR,zS]at *;omega)));done)
    |skip
end Go.Proofs.Ytkdggbfknlcdaaa
namespace Go.Proofs.Ytkdggbfknlcdaaa
open Go.Eng.Dif Go.Eng.Few
theorem ukh {L:List (List Int)} {i:Nat}(h:i<L.length):L.getD i []∈L:=by
  rw [List.getD_eq_getElem?_getD,List.getElem?_eq_getElem h];exact List.getElem_mem h
theorem upr {L:List (List Int)} {x:List Int}(h:x∈L):∃i,i<L.length∧L.getD i []=x:=by
  obtain⟨i,h1,h2⟩:=List.getElem_of_mem h
  exact⟨i,h1,by rw [List.getD_eq_getElem?_getD,List.getElem?_eq_getElem h1];exact h2⟩
theorem urT (L:List (List Int))(p:Int):allB (fun i=>inL (L.getD i []) p) L.length=L.all fun F=>F.contains p:=by
  apply Bool.eq_iff_iff.2
  rw [ual,List.all_eq_true]
  constructor
  · intro h x hx
    obtain⟨i,h1,h2⟩:=upr hx
    rw [←h2,←uhw];exact h i h1
  · intro h i hi
    rw [uhw];exact h _ (ukh hi)
theorem urB (L:List (List Int))(p:Int):decide (0≤fidx (fun i=> !(inL (L.getD i []) p)) L.length 0)=L.any fun F=>F.contains p:=by
  apply Bool.eq_iff_iff.2
  rw [decide_eq_true_eq,uie,List.any_eq_true]
  constructor
  · rintro⟨j,_,h2,h3⟩
    refine⟨L.getD j [],ukh (by omega),?_⟩
    rw [←uhw]
    simpa using h3
  · rintro⟨x,hx,hp⟩
    obtain⟨i,h1,h2⟩:=upr hx
    refine⟨i,by omega,by omega,?_⟩
    rw [h2,uhw,hp];rfl
def mstF (d:Dsp):Nat→Bool:=ujS d.pn.toNat (okPa d)
def mayF (d:Dsp):Nat→Bool:=ujL d.pn.toNat (okPa d)
def mstL (d:Dsp):List Int:=if ua4 d=0 then selL (mstF d) d.pn.toNat else []
def mayL (d:Dsp):List Int:=if ua4 d=0 then selL (mayF d) d.pn.toNat else []
theorem unC {f:Nat→Bool} {k:Nat}(h:f k=true):selL f (k+1)=selL f k++[(k:Int)]:=by simp only [selL,h,if_true]
theorem upo {f:Nat→Bool} {k:Nat}(h:f k=false):selL f (k+1)=selL f k:=by simp only [selL,h,Bool.false_eq_true,if_false]
theorem uil (f:Nat→Bool):∀n,(selL f n).length≤n:=by
  intro n
  induction n with
  |zero=>exact Nat.le_refl _
  | succ n ih=>
    cases h:f n with
    |true=>rw [unC h,List.length_append];simp only [List.length_cons,List.length_nil];omega
    |false=>rw [upo h];omega
theorem ujl {n:Nat} {ok:List Int→Bool}(hn:n≤4)(h:ok (uaF n)=true):(uat n ok).length≤1000∧∀i,((uat n ok).getD i []).length≤1000:=by
  have hl:∀F∈uat n ok,F.length≤4:=fun F hF=>by
    have q:=(ueN h).1 hF
    have:=ujO h
    omega
  constructor
  · obtain⟨j,h1,h2,_,_⟩:=uir h
    rw [h2]
    exact Nat.le_trans ulR (Nat.le_trans (Nat.pow_le_pow_left hn j) (Nat.le_trans (Nat.pow_le_pow_right (by omega) (show j≤4 by omega)) (by decide)))
  · intro i
    rcases Nat.lt_or_ge i (uat n ok).length with q|q
    · have:=hl _ (ukh q);omega
    · rw [List.getD_eq_getElem?_getD,List.getElem?_eq_none q];simp
end Go.Proofs.Ytkdggbfknlcdaaa
namespace Go.Proofs.Ytkdggbfknlcdaaa
open Go Go.Eng Go.Proofs Go.Eng.Dif Go.Eng.Few
set_option maxRecDepth 10000
theorem uop (x:List Int)(p:Int)(hx:x.length≤1000):ua0 Try.prog 62 [(iS x),.own 0 0] [.cells [(iv fun _=>p)] 3] (fun r bs=>r=(.bool (.sym fun _=>inL x p))∧bs=[.cells [(iv fun _=>p)] 3]):=by
  have c63:=ufd x p hx
  refine ua0.isB rfl fun R B hR hB=>qW (sc:=sc62) tyok mix Try.func62 rfl Try.call62 (by kernel_rfl) (by kernel_rfl) ?_
  generalize Try.prog=P at c63⊢
  cbv
  repeat' (first
      |with_reducible refine And.intro ?_ ?_
      | (refine qP ?_ (c63) ?hfit
         case hfit=>((repeat' (first|exact qB|refine qD ?_ ?_|exact qE (by rfl)|exact qF (by rfl)|exact Fit.refl _|exact qA|refine qC ?_ rfl ?_));done)
         try cbv)
      |fail)
  all_goals first
    |(subst hR;(repeat' (first|exact qA|exact qB|refine qC ?_ rfl ?_|refine qD ?_ ?_|exact qE (by rfl)|exact qF (by rfl)|exact Fit.refl _|exact qG _|(refine qE ?_;(try simp only [qV]at *);simp only [zQ,zA,zB,zC,zD,zE,zF,zG,zH,zI,zJ,zK,zL,zM,zN,zO,zP,zR,zS]at *;omega)));done)
    |(subst hB;(repeat' (first|exact qH|refine qI ?_ ?_|exact qK _|refine qJ ?_|exact qA|exact qE (by rfl)|exact qF (by rfl)|exact Fit.refl _|exact qG _|refine qC ?_ rfl ?_));done)
    |skip
theorem um6 (L:List (List Int))(p:Int)(hL:∀i,(L.getD i []).length≤1000)(hfew:L.length≤1000)(i:Nat)(hi:i<L.length∧∀j,j<i→(inL (L.getD (j) []) p)=true):ua0 Try.prog 96 [(.sl 1 (.sym fun _=>zi ((L.getD (i) [])).length) (fun ix=>[(iv fun _=>((L.getD (i) [])).getD ix.den.toNat 0)])),.own 0 0] [.cells [.clo 62 [] [.own 1 0]] 119,.cells [(iv fun _=>p)] 3] (fun r bs=>r=(.bool (.sym fun _=> !(inL (L.getD (i) []) p)))∧bs=[.cells [.clo 62 [] [.own 1 0]] 119,.cells [(iv fun _=>p)] 3]):=by
  have cf:=uop (L.getD i []) p (hL i)
  refine ua0.isB rfl fun R B hR hB=>qW (sc:=sc96) tyok mix Try.func96 rfl Try.call96 (by kernel_rfl) (by kernel_rfl) ?_
  generalize Try.prog=P at cf⊢
  cbv
  repeat' (first
      |with_reducible refine And.intro ?_ ?_
      | (refine⟨some [1],?_⟩
         cbv
         refine qQ ?_ (cf) (by cbv;(repeat' (first|exact qB|refine qD ?_ ?_|exact qE (by rfl)|exact qF (by rfl)|exact Fit.refl _|exact qA|refine qC ?_ rfl ?_))) (by cbv;(repeat' (first|exact qH|refine qI ?_ ?_|exact qK _|refine qJ ?_|exact qA|exact qE (by rfl)|exact qF (by rfl)|exact Fit.refl _|exact qG _|refine qC ?_ rfl ?_)))
         try cbv)
      |fail)
  all_goals first
    |(subst hR;(repeat' (first|exact qA|exact qB|refine qC ?_ rfl ?_|refine qD ?_ ?_|exact qE (by rfl)|exact qF (by rfl)|exact Fit.refl _|exact qG _|(refine qE ?_;(try simp only [qV]at *);simp only [zQ,zA,zB,zC,zD,zE,zF,zG,zH,zI,zJ,zK,zL,zM,zN,zO,zP,zR,zS]at *;omega)));done)
    |(subst hB;(repeat' (first|exact qH|refine qI ?_ ?_|exact qK _|refine qJ ?_|exact qA|exact qE (by rfl)|exact qF (by rfl)|exact Fit.refl _|exact qG _|refine qC ?_ rfl ?_));done)
    |skip
theorem umb (L:List (List Int))(p:Int)(hL:∀i,(L.getD i []).length≤1000)(hfew:L.length≤1000):ua0 Try.prog 97 [(.sl 1 (.sym fun _=>zi (L).length) (fun ix=>[(.sl 1 (.sym fun _=>zi ((L).getD ix.den.toNat []).length) (fun jx=>[(iv fun _=>((L).getD ix.den.toNat []).getD jx.den.toNat 0)]))])),.clo 96 [] [.own 0 0]] [.cells [.clo 62 [] [.own 1 0]] 119,.cells [(iv fun _=>p)] 3] (fun r bs=>r=(iv fun _=>fidx (fun i=>inL (L.getD (i) []) p) (L.length) 0)∧bs=[.cells [.clo 62 [] [.own 1 0]] 119,.cells [(iv fun _=>p)] 3]):=by
  have cl:=um6 L p hL hfew
  refine ua0.isB rfl fun R B hR hB=>qW (sc:=sc97) tyok mix Try.func97 rfl Try.call97 (by kernel_rfl) (by kernel_rfl) ?_
  generalize Try.prog=P at cl⊢
  cbv
  repeat' (first
      |fail)
  all_goals first
    |skip
  refine⟨none,[],{i:Nat // i≤L.length∧fidx (fun i=>inL (L.getD (i) []) p) (L.length) 0=fidx (fun i=>inL (L.getD (i) []) p) (L.length-i) i∧∀j,j<i→(inL (L.getD (j) []) p)=true},fun x=>⟨[(0,(.sl 1 (.sym fun _=>zi (L).length) (fun ix=>[(.sl 1 (.sym fun _=>zi ((L).getD ix.den.toNat []).length) (fun jx=>[(iv fun _=>((L).getD ix.den.toNat []).getD jx.den.toNat 0)]))]))),(1,.clo 96 [] [.own 0 0]),(7,(iv fun _=>zi (L.length))),(8,(iv fun _=>zi x.1))],[(0,.cells [.clo 62 [] [.own 1 0]] 119),(1,.cells [(iv fun _=>p)] 3)],20⟩,fun x=>L.length-x.1,?_,?_⟩
  · refine⟨⟨0,by omega,rfl,fun j hj=>by omega⟩,?_⟩
    cbv
    repeat' (first
      |with_reducible refine hold ?_ ?_
      |with_reducible refine And.intro ?_ ?_)
    all_goals first
      |trivial
      |exact qM (qE (by rfl))
      |exact qM (Fit.refl _)
      |exact qL (qK _)
      |skip
  · rintro ⟨i,hi,hr,hq⟩
    cbv
    repeat' (first
        |with_reducible refine hold ?_ ?_
        |with_reducible refine And.intro ?_ ?_
        |(with_reducible intro hcd;(try simp only [zA,zB,zC,zD,zE,zF,zG,zH,zI,zJ,zK,zL,zM,zN,zO,zP]at hcd);try cbv)
        | (refine⟨some [0,1],?_⟩
           cbv
           refine qQ ?_ (cl i ⟨by(try simp only [qV]at *);simp only [uax]at *;omega,hq⟩) (by cbv;(repeat' (first|exact qB|refine qD ?_ ?_|exact qE (by rfl)|exact qF (by rfl)|exact Fit.refl _|exact qA|refine qC ?_ rfl ?_))) (by cbv;(repeat' (first|exact qH|refine qI ?_ ?_|exact qK _|refine qJ ?_|exact qA|exact qE (by rfl)|exact qF (by rfl)|exact Fit.refl _|exact qG _|refine qC ?_ rfl ?_)))
           try cbv)
        |fail)
    all_goals first
      |((try simp only [qV]at *);(try simp only [zQ,zA,zB,zC,zD,zE,zF,zG,zH,zI,zJ,zK,zL,zM,zN,zO,zP,zR,zS]at *);first|(refine qN ?_;omega)|(simp only [Hold];omega))
      |(subst hR;(refine qE ?_;simp only [zQ,zA,zB,zC,zD,zE,zF,zG,zH,zI,zJ,zK,zL,zM,zN,zO,zP,zR,zS]at *;rw [hr,ubD (by omega) hcd]);done)
      |(subst hR;(refine qE ?_;simp only [zQ,zA,zB,zC,zD,zE,zF,zG,zH,zI,zJ,zK,zL,zM,zN,zO,zP,zR,zS]at *;rw [hr,show L.length-i=0 by omega];rfl);done)
      |(subst hB;(repeat' (first|exact qH|refine qI ?_ ?_|exact qK _|refine qJ ?_|exact qA|exact qE (by rfl)|exact qF (by rfl)|exact Fit.refl _|exact qG _|refine qC ?_ rfl ?_));done)
      |((try simp only [zQ,zA,zB,zC,zD,zE,zF,zG,zH,zI,zJ,zK,zL,zM,zN,zO,zP,zR,zS]at *);refine⟨⟨i+1,by omega,by rw [hr,udb (by omega) hcd];(try congr 1)<;>omega,fun j hj=>(Nat.lt_or_ge j i).elim (hq j) (fun q=>by rw [show j=i by omega];exact hcd)⟩,by simp only [];omega,?_⟩;cbv;(repeat' (first|with_reducible refine hold ?_ ?_|with_reducible refine And.intro ?_ ?_));(all_goals first|trivial|exact qM (qE (by rfl))|exact qM (qF (by rfl))|exact qM (Fit.refl _)|exact qL (qK _)|(refine qM (qE ?_);(try simp only [qV]at *);simp only [zQ,zA,zB,zC,zD,zE,zF,zG,zH,zI,zJ,zK,zL,zM,zN,zO,zP,zR,zS]at *;omega)|(refine qL (qJ ?_);(repeat' (first|exact qA|exact qB|refine qC ?_ rfl ?_|refine qD ?_ ?_|exact qE (by rfl)|exact qF (by rfl)|exact Fit.refl _|exact qG _|(refine qE ?_;(try simp only [qV]at *);simp only [zQ,zA,zB,zC,zD,zE,zF,zG,zH,zI,zJ,zK,zL,zM,zN,zO,zP,zR,zS]at *;omega)));done)|skip))
      |skip
theorem ukR (L:List (List Int))(p:Int)(hL:∀i,(L.getD i []).length≤1000)(hfew:L.length≤1000):ua0 Try.prog 65 [(.sl 1 (.sym fun _=>zi (L).length) (fun ix=>[(.sl 1 (.sym fun _=>zi ((L).getD ix.den.toNat []).length) (fun jx=>[(iv fun _=>((L).getD ix.den.toNat []).getD jx.den.toNat 0)]))])),.clo 96 [] [.own 0 0]] [.cells [.clo 62 [] [.own 1 0]] 119,.cells [(iv fun _=>p)] 3] (fun r bs=>r=(.bool (.sym fun _=>decide (0≤fidx (fun i=>inL (L.getD (i) []) p) (L.length) 0)))∧bs=[.cells [.clo 62 [] [.own 1 0]] 119,.cells [(iv fun _=>p)] 3]):=by
  have ci:=umb L p hL hfew
  refine ua0.isB rfl fun R B hR hB=>qW (sc:=sc65) tyok mix Try.func65 rfl Try.call65 (by kernel_rfl) (by kernel_rfl) ?_
  generalize Try.prog=P at ci⊢
  cbv
  repeat' (first
      |with_reducible refine And.intro ?_ ?_
      | (refine⟨some [0,1],?_⟩
         cbv
         refine qQ ?_ (ci) (by cbv;(repeat' (first|exact qB|refine qD ?_ ?_|exact qE (by rfl)|exact qF (by rfl)|exact Fit.refl _|exact qA|refine qC ?_ rfl ?_))) (by cbv;(repeat' (first|exact qH|refine qI ?_ ?_|exact qK _|refine qJ ?_|exact qA|exact qE (by rfl)|exact qF (by rfl)|exact Fit.refl _|exact qG _|refine qC ?_ rfl ?_)))
         try cbv)
      |fail)
  all_goals first
    |(subst hR;(repeat' (first|exact qA|exact qB|refine qC ?_ rfl ?_|refine qD ?_ ?_|exact qE (by rfl)|exact qF (by rfl)|exact Fit.refl _|exact qG _|(refine qE ?_;(try simp only [qV]at *);simp only [zQ,zA,zB,zC,zD,zE,zF,zG,zH,zI,zJ,zK,zL,zM,zN,zO,zP,zR,zS]at *;omega)));done)
    |(subst hB;(repeat' (first|exact qH|refine qI ?_ ?_|exact qK _|refine qJ ?_|exact qA|exact qE (by rfl)|exact qF (by rfl)|exact Fit.refl _|exact qG _|refine qC ?_ rfl ?_));done)
    |skip
theorem uhi (L:List (List Int))(p:Int)(hL:∀i,(L.getD i []).length≤1000)(hfew:L.length≤1000):ua0 Try.prog 64 [(.sl 1 (.sym fun _=>zi (L).length) (fun ix=>[(.sl 1 (.sym fun _=>zi ((L).getD ix.den.toNat []).length) (fun jx=>[(iv fun _=>((L).getD ix.den.toNat []).getD jx.den.toNat 0)]))])),.clo 62 [] [.own 0 0]] [.cells [(iv fun _=>p)] 3] (fun r bs=>r=(.bool (.sym fun _=>allB (fun i=>inL (L.getD (i) []) p) (L.length)))∧bs=[.cells [(iv fun _=>p)] 3]):=by
  have cc:=ukR L p hL hfew
  refine ua0.isB rfl fun R B hR hB=>qW (sc:=sc64) tyok mix Try.func64 rfl Try.call64 (by kernel_rfl) (by kernel_rfl) ?_
  generalize Try.prog=P at cc⊢
  cbv
  repeat' (first
      |with_reducible refine And.intro ?_ ?_
      | (refine⟨some [1,0],?_⟩
         cbv
         refine qQ ?_ (cc) (by cbv;(repeat' (first|exact qB|refine qD ?_ ?_|exact qE (by rfl)|exact qF (by rfl)|exact Fit.refl _|exact qA|refine qC ?_ rfl ?_))) (by cbv;(repeat' (first|exact qH|refine qI ?_ ?_|exact qK _|refine qJ ?_|exact qA|exact qE (by rfl)|exact qF (by rfl)|exact Fit.refl _|exact qG _|refine qC ?_ rfl ?_)))
         try cbv)
      |fail)
  all_goals first
    |(subst hR;(repeat' (first|exact qA|exact qB|refine qC ?_ rfl ?_|refine qD ?_ ?_|exact qE (by rfl)|exact qF (by rfl)|exact Fit.refl _|exact qG _|(refine qE ?_;(try simp only [qV]at *);simp only [zQ,zA,zB,zC,zD,zE,zF,zG,zH,zI,zJ,zK,zL,zM,zN,zO,zP,zR,zS]at *;omega)));done)
    |(subst hB;(repeat' (first|exact qH|refine qI ?_ ?_|exact qK _|refine qJ ?_|exact qA|exact qE (by rfl)|exact qF (by rfl)|exact Fit.refl _|exact qG _|refine qC ?_ rfl ?_));done)
    |skip
theorem un8 (L:List (List Int))(p:Int)(hL:∀i,(L.getD i []).length≤1000)(hfew:L.length≤1000):ua0 Try.prog 97 [(.sl 1 (.sym fun _=>zi (L).length) (fun ix=>[(.sl 1 (.sym fun _=>zi ((L).getD ix.den.toNat []).length) (fun jx=>[(iv fun _=>((L).getD ix.den.toNat []).getD jx.den.toNat 0)]))])),.clo 62 [] [.own 0 0]] [.cells [(iv fun _=>p)] 3] (fun r bs=>r=(iv fun _=>fidx (fun i=> !(inL (L.getD i []) p)) L.length 0)∧bs=[.cells [(iv fun _=>p)] 3]):=by
  have c62:=fun (i:Nat)=>uop (L.getD i []) p (hL i)
  refine ua0.isB rfl fun R B hR hB=>qW (sc:=sc97) tyok mix Try.func97 rfl Try.call97 (by kernel_rfl) (by kernel_rfl) ?_
  generalize Try.prog=P at c62⊢
  cbv
  repeat' (first
      |fail)
  all_goals first
    |skip
  refine⟨none,[],{i:Nat // i≤L.length∧fidx (fun i=> !(inL (L.getD i []) p)) L.length 0=fidx (fun i=> !(inL (L.getD i []) p)) (L.length-i) i},fun x=>⟨[(0,(.sl 1 (.sym fun _=>zi (L).length) (fun ix=>[(.sl 1 (.sym fun _=>zi ((L).getD ix.den.toNat []).length) (fun jx=>[(iv fun _=>((L).getD ix.den.toNat []).getD jx.den.toNat 0)]))]))),(1,.clo 62 [] [.own 0 0]),(7,(iv fun _=>zi L.length)),(8,(iv fun _=>zi x.1))],[(0,.cells [(iv fun _=>p)] 3)],20⟩,fun x=>L.length-x.1,?_,?_⟩
  · refine⟨⟨0,by omega,rfl⟩,?_⟩
    cbv
    repeat' (first
      |with_reducible refine hold ?_ ?_
      |with_reducible refine And.intro ?_ ?_)
    all_goals first
      |trivial
      |exact qM (qE (by rfl))
      |exact qM (Fit.refl _)
      |exact qL (qK _)
      |skip
  · rintro ⟨i,hi,hr⟩
    cbv
    repeat' (first
        |with_reducible refine hold ?_ ?_
        |with_reducible refine And.intro ?_ ?_
        |(with_reducible intro hcd;(try simp only [zA,zB,zC,zD,zE,zF,zG,zH,zI,zJ,zK,zL,zM,zN,zO,zP]at hcd);try cbv)
        | (refine⟨some [0],?_⟩
           cbv
           refine qQ ?_ (c62 i) ?hfit ?hbo
           case hfit=>(cbv;(repeat' (first|exact qB|refine qD ?_ ?_|exact qE (by rfl)|exact qF (by rfl)|exact Fit.refl _|exact qA|refine qC ?_ rfl ?_));done)
           case hbo=>(cbv;(repeat' (first|exact qH|refine qI ?_ ?_|exact qK _|refine qJ ?_|exact qA|exact qE (by rfl)|exact qF (by rfl)|exact Fit.refl _|exact qG _|refine qC ?_ rfl ?_));done)
           try cbv)
        |fail)
    all_goals first
      |((try simp only [qV]at *);(try simp only [zQ,zA,zB,zC,zD,zE,zF,zG,zH,zI,zJ,zK,zL,zM,zN,zO,zP,zR,zS]at *);first|(refine qN ?_;omega)|(simp only [Hold];omega))
      |(subst hR;(refine qE ?_;(try simp only [qV]at *);(try simp only [zQ,zA,zB,zC,zD,zE,zF,zG,zH,zI,zJ,zK,zL,zM,zN,zO,zP,zR,zS]at *);rw [hr,ubD (by omega) (by rw [hcd];rfl)]);done)
      |(subst hR;(refine qE ?_;(try simp only [qV]at *);(try simp only [zQ,zA,zB,zC,zD,zE,zF,zG,zH,zI,zJ,zK,zL,zM,zN,zO,zP,zR,zS]at *);rw [hr,show L.length-i=0 by omega];rfl);done)
      |(subst hB;(repeat' (first|exact qH|refine qI ?_ ?_|exact qK _|refine qJ ?_|exact qA|exact qE (by rfl)|exact qF (by rfl)|exact Fit.refl _|exact qG _|refine qC ?_ rfl ?_));done)
      |((try simp only [zQ,zA,zB,zC,zD,zE,zF,zG,zH,zI,zJ,zK,zL,zM,zN,zO,zP,zR,zS]at *);refine⟨⟨i+1,by omega,by rw [hr,udb (by omega) (by rw [hcd];rfl)];(try congr 1)<;>omega⟩,by simp only [];omega,?_⟩;cbv;(repeat' (first|with_reducible refine hold ?_ ?_|with_reducible refine And.intro ?_ ?_));(all_goals first|trivial|exact qM (qE (by rfl))|exact qM (qF (by rfl))|exact qM (Fit.refl _)|exact qL (qK _)|(refine qM (qE ?_);(try simp only [qV]at *);simp only [zQ,zA,zB,zC,zD,zE,zF,zG,zH,zI,zJ,zK,zL,zM,zN,zO,zP,zR,zS]at *;omega)|(refine qL (qJ ?_);(repeat' (first|exact qA|exact qB|refine qC ?_ rfl ?_|refine qD ?_ ?_|exact qE (by rfl)|exact qF (by rfl)|exact Fit.refl _|exact qG _|(refine qE ?_;(try simp only [qV]at *);simp only [zQ,zA,zB,zC,zD,zE,zF,zG,zH,zI,zJ,zK,zL,zM,zN,zO,zP,zR,zS]at *;omega)));done)|skip))
      |skip
theorem uhg (L:List (List Int))(p:Int)(hL:∀i,(L.getD i []).length≤1000)(hfew:L.length≤1000):ua0 Try.prog 65 [(.sl 1 (.sym fun _=>zi (L).length) (fun ix=>[(.sl 1 (.sym fun _=>zi ((L).getD ix.den.toNat []).length) (fun jx=>[(iv fun _=>((L).getD ix.den.toNat []).getD jx.den.toNat 0)]))])),.clo 62 [] [.own 0 0]] [.cells [(iv fun _=>p)] 3] (fun r bs=>r=(.bool (.sym fun _=>decide (0≤fidx (fun i=> !(inL (L.getD i []) p)) L.length 0)))∧bs=[.cells [(iv fun _=>p)] 3]):=by
  have c97:=un8 L p hL hfew
  refine ua0.isB rfl fun R B hR hB=>qW (sc:=sc65) tyok mix Try.func65 rfl Try.call65 (by kernel_rfl) (by kernel_rfl) ?_
  generalize Try.prog=P at c97⊢
  cbv
  repeat' (first
      |with_reducible refine And.intro ?_ ?_
      | (refine⟨some [0],?_⟩
         cbv
         refine qQ ?_ (c97) ?hfit ?hbo
         case hfit=>(cbv;(repeat' (first|exact qB|refine qD ?_ ?_|exact qE (by rfl)|exact qF (by rfl)|exact Fit.refl _|exact qA|refine qC ?_ rfl ?_));done)
         case hbo=>(cbv;(repeat' (first|exact qH|refine qI ?_ ?_|exact qK _|refine qJ ?_|exact qA|exact qE (by rfl)|exact qF (by rfl)|exact Fit.refl _|exact qG _|refine qC ?_ rfl ?_));done)
         try cbv)
      |fail)
  all_goals first
    |(subst hR;(repeat' (first|exact qA|exact qB|refine qC ?_ rfl ?_|refine qD ?_ ?_|exact qE (by rfl)|exact qF (by rfl)|exact Fit.refl _|exact qG _|(refine qE ?_;(try simp only [qV]at *);simp only [zQ,zA,zB,zC,zD,zE,zF,zG,zH,zI,zJ,zK,zL,zM,zN,zO,zP,zR,zS]at *;omega)));done)
    |(subst hB;(repeat' (first|exact qH|refine qI ?_ ?_|exact qK _|refine qJ ?_|exact qA|exact qE (by rfl)|exact qF (by rfl)|exact Fit.refl _|exact qG _|refine qC ?_ rfl ?_));done)
    |skip
set_option maxHeartbeats 2000000 in
theorem uqb (d:Dsp)(h:ua4 d=0):ua0 Try.prog 33 [(dspS d)] [] (fun r _=>r=(.tup [(iS ((mstL d))),(iS ((mayL d))),(iv fun _=>ua4 d)])):=by
  have c59:=ul8 d h
  have c58:=ug0
  have hF:=(uau h).1
  have hd:=ua2.1 hF
  have p1:=hd.p1
  have p4:=hd.p4
  have c61:=ug5 d hd
  have hsf:=ujl (n:=d.pn.toNat) (ok:=okPa d) (by omega) (ufl h)
  rw [show mstL d=selL (mstF d) d.pn.toNat from if_pos h,show mayL d=selL (mayF d) d.pn.toNat from if_pos h,h]
  have hA:∀k:Nat,allB (fun i=>inL ((uat d.pn.toNat (okPa d)).getD i []) (zi k)) (uat d.pn.toNat (okPa d)).length=mstF d k:=fun k=>urT _ _
  have hB:∀k:Nat,decide (0≤fidx (fun i=> !(inL ((uat d.pn.toNat (okPa d)).getD i []) (zi k))) (uat d.pn.toNat (okPa d)).length 0)=mayF d k:=fun k=>urB _ _
  obtain⟨L,hL⟩:∃L,L=uat d.pn.toNat (okPa d):=⟨_,rfl⟩
  rw [←hL]at c61 hsf
  simp only [←hL]at hA hB
  have c64:=fun k:Nat=>(show ua0 Try.prog 64 [(.sl 1 (.sym fun _=>zi (L).length) (fun ix=>[(.sl 1 (.sym fun _=>zi ((L).getD ix.den.toNat []).length) (fun jx=>[(iv fun _=>((L).getD ix.den.toNat []).getD jx.den.toNat 0)]))])),.clo 62 [] [.own 0 0]] [.cells [(iv fun _=>zi k)] 3] (fun r bs=>r=(.bool (.sym fun _=>mstF d k))∧bs=[.cells [(iv fun _=>zi k)] 3])from hA k▸uhi L (zi k) hsf.2 hsf.1)
  have c65:=fun k:Nat=>(show ua0 Try.prog 65 [(.sl 1 (.sym fun _=>zi (L).length) (fun ix=>[(.sl 1 (.sym fun _=>zi ((L).getD ix.den.toNat []).length) (fun jx=>[(iv fun _=>((L).getD ix.den.toNat []).getD jx.den.toNat 0)]))])),.clo 62 [] [.own 0 0]] [.cells [(iv fun _=>zi k)] 3] (fun r bs=>r=(.bool (.sym fun _=>mayF d k))∧bs=[.cells [(iv fun _=>zi k)] 3])from hB k▸uhg L (zi k) hsf.2 hsf.1)
  obtain⟨fA,hfA⟩:∃f,f=mstF d:=⟨_,rfl⟩
  obtain⟨fB,hfB⟩:∃f,f=mayF d:=⟨_,rfl⟩
  rw [←hfA]at c64⊢
  rw [←hfB]at c65⊢
  clear hA hB hL hfA hfB
  refine ua0.is fun R hR=>qW (sc:=sc33) tyok mix Try.func33 rfl Try.call33 (by kernel_rfl) (by kernel_rfl) ?_
  generalize Try.prog=P at c59 c58 c61 c64 c65⊢
  cbv
  repeat' (first
      |with_reducible refine And.intro ?_ ?_
      |(with_reducible intro hcd;(try simp only [zA,zB,zC,zD,zE,zF,zG,zH,zI,zJ,zK,zL,zM,zN,zO,zP]at hcd);try cbv)
      | (refine qP ?_ (c59) ?hfit
         case hfit=>((repeat' (first|exact qB|refine qD ?_ ?_|exact qE (by rfl)|exact qF (by rfl)|exact Fit.refl _|exact qA|refine qC ?_ rfl ?_));done)
         try cbv)
      | (refine qP ?_ (c58) ?hfit
         case hfit=>((repeat' (first|exact qB|refine qD ?_ ?_|exact qE (by rfl)|exact qF (by rfl)|exact Fit.refl _|exact qA|refine qC ?_ rfl ?_));done)
         try cbv)
      | (refine qP ?_ (c61) ?hfit
         case hfit=>((repeat' (first|exact qB|refine qD ?_ ?_|exact qE (by rfl)|exact qF (by rfl)|exact Fit.refl _|exact qA|refine qC ?_ rfl ?_));done)
         try cbv)
      |fail)
  all_goals first
    |trivial
    |skip
  refine⟨none,[⟨.tmp 2,3,1⟩,⟨.tmp 3,3,1⟩],{k:Nat // k≤d.pn.toNat},fun x=>⟨[(1,.own 0 0),(6,(.sl 1 (.sym fun _=>zi (L).length) (fun ix=>[(.sl 1 (.sym fun _=>zi ((L).getD ix.den.toNat []).length) (fun jx=>[(iv fun _=>((L).getD ix.den.toNat []).getD jx.den.toNat 0)]))]))),(2,.row 20),(3,.row 21),(21,(iv fun _=>d.pn)),(22,(iv fun _=>zi x.1))],[(0,.cells [(iS d.tw),(iS d.tm),(.sl 1 (.sym fun _=>zi (d.tv).length) (fun ix=>[(.sl 1 (.sym fun _=>zi ((d.tv).getD ix.den.toNat []).length) (fun jx=>[(iv fun _=>((d.tv).getD ix.den.toNat []).getD jx.den.toNat 0)]))])),(iv fun _=>d.sn),(iv fun _=>d.pn),(.sl 4 (.sym fun _=>zi (d.ls).length) (fun ix=>[(iv fun _=>((d.ls).getD ix.den.toNat l0T).a),(iv fun _=>((d.ls).getD ix.den.toNat l0T).b),(iv fun _=>((d.ls).getD ix.den.toNat l0T).lo),(iv fun _=>((d.ls).getD ix.den.toNat l0T).hi)])),(.sl 6 (.sym fun _=>zi (d.fs).length) (fun ix=>[(iv fun _=>((d.fs).getD ix.den.toNat f0T).p),(iv fun _=>((d.fs).getD ix.den.toNat f0T).s),(iv fun _=>((d.fs).getD ix.den.toNat f0T).wl),(iv fun _=>((d.fs).getD ix.den.toNat f0T).wh),(iv fun _=>((d.fs).getD ix.den.toNat f0T).ml),(iv fun _=>((d.fs).getD ix.den.toNat f0T).mh)]))] 41),(20,.row 3 1 (.sym fun _=>zi ((selL fA x.1)).length) (fun ix=>[(iv fun _=>((selL fA x.1)).getD ix.den.toNat 0)])),(21,.row 3 1 (.sym fun _=>zi ((selL fB x.1)).length) (fun ix=>[(iv fun _=>((selL fB x.1)).getD ix.den.toNat 0)]))],100⟩,fun x=>d.pn.toNat-x.1,?_,?_⟩
  · refine⟨⟨0,by omega⟩,?_⟩
    cbv
    repeat' (first
      |with_reducible refine hold ?_ ?_
      |with_reducible refine And.intro ?_ ?_)
    all_goals first
      |trivial
      |exact qM (qE (by rfl))
      |exact qM (Fit.refl _)
      |exact qL (qK _)
      |(refine qL (uae ?_ ?_);(first|rfl|((try simp only [qV]at *);(try simp only [zQ,zA,zB,zC,zD,zE,zF,zG,zH,zI,zJ,zK,zL,zM,zN,zO,zP,zR,zS]at *);omega));intro ix h0 h1;exfalso;(try simp only [qV]at *);(try simp only [zQ,zA,zB,zC,zD,zE,zF,zG,zH,zI,zJ,zK,zL,zM,zN,zO,zP,zR,zS]at *);omega)
      |skip
  · rintro ⟨k,hk⟩
    cbv
    have hl1:=uil fA k
    have hl2:=uil fB k
    have hyA:=unC (f:=fA) (k:=k)
    have hnA:=upo (f:=fA) (k:=k)
    have hyB:=unC (f:=fB) (k:=k)
    have hnB:=upo (f:=fB) (k:=k)
    obtain⟨M1,hM1⟩:∃M,M=selL fA k:=⟨_,rfl⟩
    obtain⟨M2,hM2⟩:∃M,M=selL fB k:=⟨_,rfl⟩
    rw [←hM1]at hl1 hyA hnA⊢
    rw [←hM2]at hl2 hyB hnB⊢
    have c64k:=c64 k
    have c65k:=c65 k
    rcases hfa:fA k with _|_<;>rcases hfb:fB k with _|_
    · rw [hfa]at c64k
      rw [hfb]at c65k
      cbv
      repeat' (first
          |with_reducible refine hold ?_ ?_
          |with_reducible refine And.intro ?_ ?_
          |(with_reducible intro hcd;(try simp only [zA,zB,zC,zD,zE,zF,zG,zH,zI,zJ,zK,zL,zM,zN,zO,zP]at hcd);try cbv)
          | (refine⟨some [102],?_⟩
             cbv
             refine qQ ?_ (c64k) ?hfit ?hbo
             case hfit=>(cbv;(repeat' (first|exact qB|refine qD ?_ ?_|exact qE (by rfl)|exact qF (by rfl)|exact Fit.refl _|exact qA|refine qC ?_ rfl ?_));done)
             case hbo=>(cbv;(repeat' (first|exact qH|refine qI ?_ ?_|exact qK _|refine qJ ?_|exact qA|exact qE (by rfl)|exact qF (by rfl)|exact Fit.refl _|exact qG _|refine qC ?_ rfl ?_));done)
             try cbv)
          | (refine⟨some [102],?_⟩
             cbv
             refine qQ ?_ (c65k) ?hfit ?hbo
             case hfit=>(cbv;(repeat' (first|exact qB|refine qD ?_ ?_|exact qE (by rfl)|exact qF (by rfl)|exact Fit.refl _|exact qA|refine qC ?_ rfl ?_));done)
             case hbo=>(cbv;(repeat' (first|exact qH|refine qI ?_ ?_|exact qK _|refine qJ ?_|exact qA|exact qE (by rfl)|exact qF (by rfl)|exact Fit.refl _|exact qG _|refine qC ?_ rfl ?_));done)
             try cbv)
          | (obtain⟨L3,eL3⟩:∃y:List Int,y=M1++[zi k]:=⟨_,rfl⟩
             refine⟨ueb L3,?_⟩
             cbv
             refine hold (uak (L:=M1) eL3 (by(first|rfl|((try simp only [qV]at *);(try simp only [zQ,zA,zB,zC,zD,zE,zF,zG,zH,zI,zJ,zK,zL,zM,zN,zO,zP,zR,zS]at *);done)|((try simp only [qV]at *);(try simp only [zQ,zA,zB,zC,zD,zE,zF,zG,zH,zI,zJ,zK,zL,zM,zN,zO,zP,zR,zS]at *);omega))) (by rfl) (fun ix=>Fit.refl _) (fun ix h=>qC (qE (by rfl)) rfl qA) (by(try simp only [qV]at *);(try simp only [zQ,zA,zB,zC,zD,zE,zF,zG,zH,zI,zJ,zK,zL,zM,zN,zO,zP,zR,zS]at *);omega)) (Or.inl ?_)
             try cbv)
          | (obtain⟨L4,eL4⟩:∃y:List Int,y=M2++[zi k]:=⟨_,rfl⟩
             refine⟨ueb L4,?_⟩
             cbv
             refine hold (uak (L:=M2) eL4 (by(first|rfl|((try simp only [qV]at *);(try simp only [zQ,zA,zB,zC,zD,zE,zF,zG,zH,zI,zJ,zK,zL,zM,zN,zO,zP,zR,zS]at *);done)|((try simp only [qV]at *);(try simp only [zQ,zA,zB,zC,zD,zE,zF,zG,zH,zI,zJ,zK,zL,zM,zN,zO,zP,zR,zS]at *);omega))) (by rfl) (fun ix=>Fit.refl _) (fun ix h=>qC (qE (by rfl)) rfl qA) (by(try simp only [qV]at *);(try simp only [zQ,zA,zB,zC,zD,zE,zF,zG,zH,zI,zJ,zK,zL,zM,zN,zO,zP,zR,zS]at *);omega)) (Or.inl ?_)
             try cbv)
          |fail)
      all_goals first
        |trivial
        |((try simp only [qV]at *);(try simp only [zQ,zA,zB,zC,zD,zE,zF,zG,zH,zI,zJ,zK,zL,zM,zN,zO,zP,zR,zS]at *);first|(refine qN ?_;omega)|(simp only [Hold];omega))
        |((have hke:k=d.pn.toNat:=(by((try simp only [qV]at *);(try simp only [zQ,zA,zB,zC,zD,zE,zF,zG,zH,zI,zJ,zK,zL,zM,zN,zO,zP,zR,zS]at *);omega)));subst hR;rw [←hke,←hM1,←hM2];exact qD (Fit.refl _) (qD (Fit.refl _) (qD (qE rfl) qB)))
        |((try simp only [zQ,zA,zB,zC,zD,zE,zF,zG,zH,zI,zJ,zK,zL,zM,zN,zO,zP,zR,zS]at *);(have hx1:selL fA (k+1)=M1:=hnA hfa);(have hx2:selL fB (k+1)=M2:=hnB hfb);refine⟨⟨k+1,by((try simp only [qV]at *);(try simp only [zQ,zA,zB,zC,zD,zE,zF,zG,zH,zI,zJ,zK,zL,zM,zN,zO,zP,zR,zS]at *);omega)⟩,by simp only [];omega,?_⟩;cbv;(repeat' (first|with_reducible refine hold ?_ ?_|with_reducible refine And.intro ?_ ?_));(all_goals first|trivial|exact qM (qE (by rfl))|exact qM (qF (by rfl))|exact qM (Fit.refl _)|exact qL (qK _)|(refine qM (qE ?_);(try simp only [qV]at *);simp only [zQ,zA,zB,zC,zD,zE,zF,zG,zH,zI,zJ,zK,zL,zM,zN,zO,zP,zR,zS]at *;omega)|(refine qL (qJ ?_);(repeat' (first|exact qA|exact qB|refine qC ?_ rfl ?_|refine qD ?_ ?_|exact qE (by rfl)|exact qF (by rfl)|exact Fit.refl _|exact qG _|(refine qE ?_;(try simp only [qV]at *);simp only [zQ,zA,zB,zC,zD,zE,zF,zG,zH,zI,zJ,zK,zL,zM,zN,zO,zP,zR,zS]at *;omega)));done)|(simp only [hx1];first|exact qL (qK _)|(refine qL (uae ?_ ?_)<;>first|rfl|(rw [hM1,List.length_append];rfl)|((try simp only [qV]at *);(try simp only [zQ,zA,zB,zC,zD,zE,zF,zG,zH,zI,zJ,zK,zL,zM,zN,zO,zP,zR,zS]at *);(try simp only [hM1,List.length_append,List.length_cons,List.length_nil]at *);omega)|(intro ix h0 h1;exact Fit.refl _)))|(simp only [hx2];first|exact qL (qK _)|(refine qL (uae ?_ ?_)<;>first|rfl|(rw [hM2,List.length_append];rfl)|((try simp only [qV]at *);(try simp only [zQ,zA,zB,zC,zD,zE,zF,zG,zH,zI,zJ,zK,zL,zM,zN,zO,zP,zR,zS]at *);(try simp only [hM2,List.length_append,List.length_cons,List.length_nil]at *);omega)|(intro ix h0 h1;exact Fit.refl _)))|skip))
        |skip
    · rw [hfa]at c64k
      rw [hfb]at c65k
      cbv
      repeat' (first
          |with_reducible refine hold ?_ ?_
          |with_reducible refine And.intro ?_ ?_
          |(with_reducible intro hcd;(try simp only [zA,zB,zC,zD,zE,zF,zG,zH,zI,zJ,zK,zL,zM,zN,zO,zP]at hcd);try cbv)
          | (refine⟨some [102],?_⟩
             cbv
             refine qQ ?_ (c64k) ?hfit ?hbo
             case hfit=>(cbv;(repeat' (first|exact qB|refine qD ?_ ?_|exact qE (by rfl)|exact qF (by rfl)|exact Fit.refl _|exact qA|refine qC ?_ rfl ?_));done)
             case hbo=>(cbv;(repeat' (first|exact qH|refine qI ?_ ?_|exact qK _|refine qJ ?_|exact qA|exact qE (by rfl)|exact qF (by rfl)|exact Fit.refl _|exact qG _|refine qC ?_ rfl ?_));done)
             try cbv)
          | (refine⟨some [102],?_⟩
             cbv
             refine qQ ?_ (c65k) ?hfit ?hbo
             case hfit=>(cbv;(repeat' (first|exact qB|refine qD ?_ ?_|exact qE (by rfl)|exact qF (by rfl)|exact Fit.refl _|exact qA|refine qC ?_ rfl ?_));done)
             case hbo=>(cbv;(repeat' (first|exact qH|refine qI ?_ ?_|exact qK _|refine qJ ?_|exact qA|exact qE (by rfl)|exact qF (by rfl)|exact Fit.refl _|exact qG _|refine qC ?_ rfl ?_));done)
             try cbv)
          | (obtain⟨L3,eL3⟩:∃y:List Int,y=M1++[zi k]:=⟨_,rfl⟩
             refine⟨ueb L3,?_⟩
             cbv
             refine hold (uak (L:=M1) eL3 (by(first|rfl|((try simp only [qV]at *);(try simp only [zQ,zA,zB,zC,zD,zE,zF,zG,zH,zI,zJ,zK,zL,zM,zN,zO,zP,zR,zS]at *);done)|((try simp only [qV]at *);(try simp only [zQ,zA,zB,zC,zD,zE,zF,zG,zH,zI,zJ,zK,zL,zM,zN,zO,zP,zR,zS]at *);omega))) (by rfl) (fun ix=>Fit.refl _) (fun ix h=>qC (qE (by rfl)) rfl qA) (by(try simp only [qV]at *);(try simp only [zQ,zA,zB,zC,zD,zE,zF,zG,zH,zI,zJ,zK,zL,zM,zN,zO,zP,zR,zS]at *);omega)) (Or.inl ?_)
             try cbv)
          | (obtain⟨L4,eL4⟩:∃y:List Int,y=M2++[zi k]:=⟨_,rfl⟩
             refine⟨ueb L4,?_⟩
             cbv
             refine hold (uak (L:=M2) eL4 (by(first|rfl|((try simp only [qV]at *);(try simp only [zQ,zA,zB,zC,zD,zE,zF,zG,zH,zI,zJ,zK,zL,zM,zN,zO,zP,zR,zS]at *);done)|((try simp only [qV]at *);(try simp only [zQ,zA,zB,zC,zD,zE,zF,zG,zH,zI,zJ,zK,zL,zM,zN,zO,zP,zR,zS]at *);omega))) (by rfl) (fun ix=>Fit.refl _) (fun ix h=>qC (qE (by rfl)) rfl qA) (by(try simp only [qV]at *);(try simp only [zQ,zA,zB,zC,zD,zE,zF,zG,zH,zI,zJ,zK,zL,zM,zN,zO,zP,zR,zS]at *);omega)) (Or.inl ?_)
             try cbv)
          |fail)
      all_goals first
        |trivial
        |((try simp only [qV]at *);(try simp only [zQ,zA,zB,zC,zD,zE,zF,zG,zH,zI,zJ,zK,zL,zM,zN,zO,zP,zR,zS]at *);first|(refine qN ?_;omega)|(simp only [Hold];omega))
        |((have hke:k=d.pn.toNat:=(by((try simp only [qV]at *);(try simp only [zQ,zA,zB,zC,zD,zE,zF,zG,zH,zI,zJ,zK,zL,zM,zN,zO,zP,zR,zS]at *);omega)));subst hR;rw [←hke,←hM1,←hM2];exact qD (Fit.refl _) (qD (Fit.refl _) (qD (qE rfl) qB)))
        |((try simp only [zQ,zA,zB,zC,zD,zE,zF,zG,zH,zI,zJ,zK,zL,zM,zN,zO,zP,zR,zS]at *);(have hx1:selL fA (k+1)=M1:=hnA hfa);(have hx2:selL fB (k+1)=L4:=(hyB hfb).trans eL4.symm);refine⟨⟨k+1,by((try simp only [qV]at *);(try simp only [zQ,zA,zB,zC,zD,zE,zF,zG,zH,zI,zJ,zK,zL,zM,zN,zO,zP,zR,zS]at *);omega)⟩,by simp only [];omega,?_⟩;cbv;(repeat' (first|with_reducible refine hold ?_ ?_|with_reducible refine And.intro ?_ ?_));(all_goals first|trivial|exact qM (qE (by rfl))|exact qM (qF (by rfl))|exact qM (Fit.refl _)|exact qL (qK _)|(refine qM (qE ?_);(try simp only [qV]at *);simp only [zQ,zA,zB,zC,zD,zE,zF,zG,zH,zI,zJ,zK,zL,zM,zN,zO,zP,zR,zS]at *;omega)|(refine qL (qJ ?_);(repeat' (first|exact qA|exact qB|refine qC ?_ rfl ?_|refine qD ?_ ?_|exact qE (by rfl)|exact qF (by rfl)|exact Fit.refl _|exact qG _|(refine qE ?_;(try simp only [qV]at *);simp only [zQ,zA,zB,zC,zD,zE,zF,zG,zH,zI,zJ,zK,zL,zM,zN,zO,zP,zR,zS]at *;omega)));done)|(simp only [hx1];first|exact qL (qK _)|(refine qL (uae ?_ ?_)<;>first|rfl|(rw [hM1,List.length_append];rfl)|((try simp only [qV]at *);(try simp only [zQ,zA,zB,zC,zD,zE,zF,zG,zH,zI,zJ,zK,zL,zM,zN,zO,zP,zR,zS]at *);(try simp only [hM1,List.length_append,List.length_cons,List.length_nil]at *);omega)|(intro ix h0 h1;exact Fit.refl _)))|(simp only [hx2];first|exact qL (qK _)|(refine qL (uae ?_ ?_)<;>first|rfl|(rw [eL4,List.length_append];rfl)|((try simp only [qV]at *);(try simp only [zQ,zA,zB,zC,zD,zE,zF,zG,zH,zI,zJ,zK,zL,zM,zN,zO,zP,zR,zS]at *);(try simp only [eL4,List.length_append,List.length_cons,List.length_nil]at *);omega)|(intro ix h0 h1;exact Fit.refl _)))|skip))
        |skip
    · rw [hfa]at c64k
      rw [hfb]at c65k
      cbv
      repeat' (first
          |with_reducible refine hold ?_ ?_
          |with_reducible refine And.intro ?_ ?_
          |(with_reducible intro hcd;(try simp only [zA,zB,zC,zD,zE,zF,zG,zH,zI,zJ,zK,zL,zM,zN,zO,zP]at hcd);try cbv)
          | (refine⟨some [102],?_⟩
             cbv
             refine qQ ?_ (c64k) ?hfit ?hbo
             case hfit=>(cbv;(repeat' (first|exact qB|refine qD ?_ ?_|exact qE (by rfl)|exact qF (by rfl)|exact Fit.refl _|exact qA|refine qC ?_ rfl ?_));done)
             case hbo=>(cbv;(repeat' (first|exact qH|refine qI ?_ ?_|exact qK _|refine qJ ?_|exact qA|exact qE (by rfl)|exact qF (by rfl)|exact Fit.refl _|exact qG _|refine qC ?_ rfl ?_));done)
             try cbv)
          | (refine⟨some [102],?_⟩
             cbv
             refine qQ ?_ (c65k) ?hfit ?hbo
             case hfit=>(cbv;(repeat' (first|exact qB|refine qD ?_ ?_|exact qE (by rfl)|exact qF (by rfl)|exact Fit.refl _|exact qA|refine qC ?_ rfl ?_));done)
             case hbo=>(cbv;(repeat' (first|exact qH|refine qI ?_ ?_|exact qK _|refine qJ ?_|exact qA|exact qE (by rfl)|exact qF (by rfl)|exact Fit.refl _|exact qG _|refine qC ?_ rfl ?_));done)
             try cbv)
          | (obtain⟨L3,eL3⟩:∃y:List Int,y=M1++[zi k]:=⟨_,rfl⟩
             refine⟨ueb L3,?_⟩
             cbv
             refine hold (uak (L:=M1) eL3 (by(first|rfl|((try simp only [qV]at *);(try simp only [zQ,zA,zB,zC,zD,zE,zF,zG,zH,zI,zJ,zK,zL,zM,zN,zO,zP,zR,zS]at *);done)|((try simp only [qV]at *);(try simp only [zQ,zA,zB,zC,zD,zE,zF,zG,zH,zI,zJ,zK,zL,zM,zN,zO,zP,zR,zS]at *);omega))) (by rfl) (fun ix=>Fit.refl _) (fun ix h=>qC (qE (by rfl)) rfl qA) (by(try simp only [qV]at *);(try simp only [zQ,zA,zB,zC,zD,zE,zF,zG,zH,zI,zJ,zK,zL,zM,zN,zO,zP,zR,zS]at *);omega)) (Or.inl ?_)
             try cbv)
          | (obtain⟨L4,eL4⟩:∃y:List Int,y=M2++[zi k]:=⟨_,rfl⟩
             refine⟨ueb L4,?_⟩
             cbv
             refine hold (uak (L:=M2) eL4 (by(first|rfl|((try simp only [qV]at *);(try simp only [zQ,zA,zB,zC,zD,zE,zF,zG,zH,zI,zJ,zK,zL,zM,zN,zO,zP,zR,zS]at *);done)|((try simp only [qV]at *);(try simp only [zQ,zA,zB,zC,zD,zE,zF,zG,zH,zI,zJ,zK,zL,zM,zN,zO,zP,zR,zS]at *);omega))) (by rfl) (fun ix=>Fit.refl _) (fun ix h=>qC (qE (by rfl)) rfl qA) (by(try simp only [qV]at *);(try simp only [zQ,zA,zB,zC,zD,zE,zF,zG,zH,zI,zJ,zK,zL,zM,zN,zO,zP,zR,zS]at *);omega)) (Or.inl ?_)
             try cbv)
          |fail)
      all_goals first
        |trivial
        |((try simp only [qV]at *);(try simp only [zQ,zA,zB,zC,zD,zE,zF,zG,zH,zI,zJ,zK,zL,zM,zN,zO,zP,zR,zS]at *);first|(refine qN ?_;omega)|(simp only [Hold];omega))
        |((have hke:k=d.pn.toNat:=(by((try simp only [qV]at *);(try simp only [zQ,zA,zB,zC,zD,zE,zF,zG,zH,zI,zJ,zK,zL,zM,zN,zO,zP,zR,zS]at *);omega)));subst hR;rw [←hke,←hM1,←hM2];exact qD (Fit.refl _) (qD (Fit.refl _) (qD (qE rfl) qB)))
        |((try simp only [zQ,zA,zB,zC,zD,zE,zF,zG,zH,zI,zJ,zK,zL,zM,zN,zO,zP,zR,zS]at *);(have hx1:selL fA (k+1)=L3:=(hyA hfa).trans eL3.symm);(have hx2:selL fB (k+1)=M2:=hnB hfb);refine⟨⟨k+1,by((try simp only [qV]at *);(try simp only [zQ,zA,zB,zC,zD,zE,zF,zG,zH,zI,zJ,zK,zL,zM,zN,zO,zP,zR,zS]at *);omega)⟩,by simp only [];omega,?_⟩;cbv;(repeat' (first|with_reducible refine hold ?_ ?_|with_reducible refine And.intro ?_ ?_));(all_goals first|trivial|exact qM (qE (by rfl))|exact qM (qF (by rfl))|exact qM (Fit.refl _)|exact qL (qK _)|(refine qM (qE ?_);(try simp only [qV]at *);simp only [zQ,zA,zB,zC,zD,zE,zF,zG,zH,zI,zJ,zK,zL,zM,zN,zO,zP,zR,zS]at *;omega)|(refine qL (qJ ?_);(repeat' (first|exact qA|exact qB|refine qC ?_ rfl ?_|refine qD ?_ ?_|exact qE (by rfl)|exact qF (by rfl)|exact Fit.refl _|exact qG _|(refine qE ?_;(try simp only [qV]at *);simp only [zQ,zA,zB,zC,zD,zE,zF,zG,zH,zI,zJ,zK,zL,zM,zN,zO,zP,zR,zS]at *;omega)));done)|(simp only [hx1];first|exact qL (qK _)|(refine qL (uae ?_ ?_)<;>first|rfl|(rw [eL3,List.length_append];rfl)|((try simp only [qV]at *);(try simp only [zQ,zA,zB,zC,zD,zE,zF,zG,zH,zI,zJ,zK,zL,zM,zN,zO,zP,zR,zS]at *);(try simp only [eL3,List.length_append,List.length_cons,List.length_nil]at *);omega)|(intro ix h0 h1;exact Fit.refl _)))|(simp only [hx2];first|exact qL (qK _)|(refine qL (uae ?_ ?_)<;>first|rfl|(rw [hM2,List.length_append];rfl)|((try simp only [qV]at *);(try simp only [zQ,zA,zB,zC,zD,zE,zF,zG,zH,zI,zJ,zK,zL,zM,zN,zO,zP,zR,zS]at *);(try simp only [hM2,List.length_append,List.length_cons,List.length_nil]at *);omega)|(intro ix h0 h1;exact Fit.refl _)))|skip))
        |skip
    · rw [hfa]at c64k
      rw [hfb]at c65k
      cbv
      repeat' (first
          |with_reducible refine hold ?_ ?_
          |with_reducible refine And.intro ?_ ?_
          |(with_reducible intro hcd;(try simp only [zA,zB,zC,zD,zE,zF,zG,zH,zI,zJ,zK,zL,zM,zN,zO,zP]at hcd);try cbv)
          | (refine⟨some [102],?_⟩
             cbv
             refine qQ ?_ (c64k) ?hfit ?hbo
             case hfit=>(cbv;(repeat' (first|exact qB|refine qD ?_ ?_|exact qE (by rfl)|exact qF (by rfl)|exact Fit.refl _|exact qA|refine qC ?_ rfl ?_));done)
             case hbo=>(cbv;(repeat' (first|exact qH|refine qI ?_ ?_|exact qK _|refine qJ ?_|exact qA|exact qE (by rfl)|exact qF (by rfl)|exact Fit.refl _|exact qG _|refine qC ?_ rfl ?_));done)
             try cbv)
          | (refine⟨some [102],?_⟩
             cbv
             refine qQ ?_ (c65k) ?hfit ?hbo
             case hfit=>(cbv;(repeat' (first|exact qB|refine qD ?_ ?_|exact qE (by rfl)|exact qF (by rfl)|exact Fit.refl _|exact qA|refine qC ?_ rfl ?_));done)
             case hbo=>(cbv;(repeat' (first|exact qH|refine qI ?_ ?_|exact qK _|refine qJ ?_|exact qA|exact qE (by rfl)|exact qF (by rfl)|exact Fit.refl _|exact qG _|refine qC ?_ rfl ?_));done)
             try cbv)
          | (obtain⟨L3,eL3⟩:∃y:List Int,y=M1++[zi k]:=⟨_,rfl⟩
             refine⟨ueb L3,?_⟩
             cbv
             refine hold (uak (L:=M1) eL3 (by(first|rfl|((try simp only [qV]at *);(try simp only [zQ,zA,zB,zC,zD,zE,zF,zG,zH,zI,zJ,zK,zL,zM,zN,zO,zP,zR,zS]at *);done)|((try simp only [qV]at *);(try simp only [zQ,zA,zB,zC,zD,zE,zF,zG,zH,zI,zJ,zK,zL,zM,zN,zO,zP,zR,zS]at *);omega))) (by rfl) (fun ix=>Fit.refl _) (fun ix h=>qC (qE (by rfl)) rfl qA) (by(try simp only [qV]at *);(try simp only [zQ,zA,zB,zC,zD,zE,zF,zG,zH,zI,zJ,zK,zL,zM,zN,zO,zP,zR,zS]at *);omega)) (Or.inl ?_)
             try cbv)
          | (obtain⟨L4,eL4⟩:∃y:List Int,y=M2++[zi k]:=⟨_,rfl⟩
             refine⟨ueb L4,?_⟩
             cbv
             refine hold (uak (L:=M2) eL4 (by(first|rfl|((try simp only [qV]at *);(try simp only [zQ,zA,zB,zC,zD,zE,zF,zG,zH,zI,zJ,zK,zL,zM,zN,zO,zP,zR,zS]at *);done)|((try simp only [qV]at *);(try simp only [zQ,zA,zB,zC,zD,zE,zF,zG,zH,zI,zJ,zK,zL,zM,zN,zO,zP,zR,zS]at *);omega))) (by rfl) (fun ix=>Fit.refl _) (fun ix h=>qC (qE (by rfl)) rfl qA) (by(try simp only [qV]at *);(try simp only [zQ,zA,zB,zC,zD,zE,zF,zG,zH,zI,zJ,zK,zL,zM,zN,zO,zP,zR,zS]at *);omega)) (Or.inl ?_)
             try cbv)
          |fail)
      all_goals first
        |trivial
        |((try simp only [qV]at *);(try simp only [zQ,zA,zB,zC,zD,zE,zF,zG,zH,zI,zJ,zK,zL,zM,zN,zO,zP,zR,zS]at *);first|(refine qN ?_;omega)|(simp only [Hold];omega))
        |((have hke:k=d.pn.toNat:=(by((try simp only [qV]at *);(try simp only [zQ,zA,zB,zC,zD,zE,zF,zG,zH,zI,zJ,zK,zL,zM,zN,zO,zP,zR,zS]at *);omega)));subst hR;rw [←hke,←hM1,←hM2];exact qD (Fit.refl _) (qD (Fit.refl _) (qD (qE rfl) qB)))
        |((try simp only [zQ,zA,zB,zC,zD,zE,zF,zG,zH,zI,zJ,zK,zL,zM,zN,zO,zP,zR,zS]at *);(have hx1:selL fA (k+1)=L3:=(hyA hfa).trans eL3.symm);(have hx2:selL fB (k+1)=L4:=(hyB hfb).trans eL4.symm);refine⟨⟨k+1,by((try simp only [qV]at *);(try simp only [zQ,zA,zB,zC,zD,zE,zF,zG,zH,zI,zJ,zK,zL,zM,zN,zO,zP,zR,zS]at *);omega)⟩,by simp only [];omega,?_⟩;cbv;(repeat' (first|with_reducible refine hold ?_ ?_|with_reducible refine And.intro ?_ ?_));(all_goals first|trivial|exact qM (qE (by rfl))|exact qM (qF (by rfl))|exact qM (Fit.refl _)|exact qL (qK _)|(refine qM (qE ?_);(try simp only [qV]at *);simp only [zQ,zA,zB,zC,zD,zE,zF,zG,zH,zI,zJ,zK,zL,zM,zN,zO,zP,zR,zS]at *;omega)|(refine qL (qJ ?_);(repeat' (first|exact qA|exact qB|refine qC ?_ rfl ?_|refine qD ?_ ?_|exact qE (by rfl)|exact qF (by rfl)|exact Fit.refl _|exact qG _|(refine qE ?_;(try simp only [qV]at *);simp only [zQ,zA,zB,zC,zD,zE,zF,zG,zH,zI,zJ,zK,zL,zM,zN,zO,zP,zR,zS]at *;omega)));done)|(simp only [hx1];first|exact qL (qK _)|(refine qL (uae ?_ ?_)<;>first|rfl|(rw [eL3,List.length_append];rfl)|((try simp only [qV]at *);(try simp only [zQ,zA,zB,zC,zD,zE,zF,zG,zH,zI,zJ,zK,zL,zM,zN,zO,zP,zR,zS]at *);(try simp only [eL3,List.length_append,List.length_cons,List.length_nil]at *);omega)|(intro ix h0 h1;exact Fit.refl _)))|(simp only [hx2];first|exact qL (qK _)|(refine qL (uae ?_ ?_)<;>first|rfl|(rw [eL4,List.length_append];rfl)|((try simp only [qV]at *);(try simp only [zQ,zA,zB,zC,zD,zE,zF,zG,zH,zI,zJ,zK,zL,zM,zN,zO,zP,zR,zS]at *);(try simp only [eL4,List.length_append,List.length_cons,List.length_nil]at *);omega)|(intro ix h0 h1;exact Fit.refl _)))|skip))
        |skip
theorem upI (d:Dsp)(h:¬ua4 d=0):ua0 Try.prog 33 [(dspS d)] [] (fun r _=>r=(.tup [(iS ((mstL d))),(iS ((mayL d))),(iv fun _=>ua4 d)])):=by
  have c59:=uhY d h
  refine ua0.is fun R hR=>qW (sc:=sc33) tyok mix Try.func33 rfl Try.call33 (by kernel_rfl) (by kernel_rfl) ?_
  generalize Try.prog=P at c59⊢
  cbv
  repeat' (first
      |with_reducible refine And.intro ?_ ?_
      |(with_reducible intro hcd;(try simp only [zA,zB,zC,zD,zE,zF,zG,zH,zI,zJ,zK,zL,zM,zN,zO,zP]at hcd);try cbv)
      | (refine qP ?_ (c59) ?hfit
         case hfit=>((repeat' (first|exact qB|refine qD ?_ ?_|exact qE (by rfl)|exact qF (by rfl)|exact Fit.refl _|exact qA|refine qC ?_ rfl ?_));done)
         try cbv)
      |fail)
  all_goals first
    |trivial
    |(subst hR;(exact qD (qO (by(have e:mstL d=[]:=if_neg h);rw [e];rfl)) (qD (qO (by(have e:mayL d=[]:=if_neg h);rw [e];rfl)) (qD (Fit.refl _) qB)));done)
    |skip
theorem ukn (d:Dsp):ua0 Try.prog 33 [(dspS d)] [] (fun r _=>r=(.tup [(iS ((mstL d))),(iS ((mayL d))),(iv fun _=>ua4 d)])):=by
  by_cases h:ua4 d=0
  · exact uqb d h
  · exact upI d h
end Go.Proofs.Ytkdggbfknlcdaaa
namespace Go.Proofs.Ytkdggbfknlcdaaa
open Go.Eng.Dif Go.Eng.Few
theorem usT {d:Dsp}(h:ua4 d=0):canT d d.fs (leaL d)=true:=by
  have e:leaL d=fewL d.fs.length (okFa d):=if_pos h
  rw [e]
  exact(ubJ (ufq h)).2.1
theorem ud8 (d:Dsp)(h:ua7 d=0):(leaL d).length≤6:=by
  unfold leaL
  split
  · rename_i q
    have:=ujO (ufq q)
    have:=(ua2.1 h).f6
    omega
  · simp
theorem uix {g x:Int}(h0:0≤g)(h1:g≤100000)(a0: -2000≤x)(a1:x≤2000): -200000000≤g*x∧g*x≤200000000:=by
  have e1:g*x≤g*2000:=Int.mul_le_mul_of_nonneg_left a1 h0
  have e2:g*(-2000)≤g*x:=Int.mul_le_mul_of_nonneg_left a0 h0
  omega
def chOk (d:Dsp)(s g:Int):Prop:=(0≤s∧s≤d.sn-1)∧0≤g∧g≤100000
instance (d:Dsp) (s g:Int):Decidable (chOk d s g):=by unfold chOk;infer_instance
def chE (d:Dsp)(s g:Int):Int:=if ua7 d=0 then(if chOk d s g then ua4 d else 2)else ua7 d
def chL (d:Dsp)(s g:Int):Int:=if chE d s g=0 then(g*loT d (leaL d) s.toNat).tdiv 1000 else 0
def chH (d:Dsp)(s g:Int):Int:=if chE d s g=0 then(g*hiT d (leaL d) s.toNat).tdiv 1000 else 0
theorem utq {d:Dsp} {s g:Int}(h:¬ua7 d=0):chE d s g=ua7 d∧chL d s g=0∧chH d s g=0:=by
  have e:chE d s g=ua7 d:=by unfold chE;rw [if_neg h]
  exact⟨e,by unfold chL;rw [e,if_neg h],by unfold chH;rw [e,if_neg h]⟩
theorem uuq {d:Dsp} {s g:Int}(h:ua7 d=0)(h':¬chOk d s g):chE d s g=2∧chL d s g=0∧chH d s g=0:=by
  have e:chE d s g=2:=by unfold chE;rw [if_pos h,if_neg h']
  exact⟨e,by unfold chL;rw [e];rfl,by unfold chH;rw [e];rfl⟩
theorem uq1 {d:Dsp} {s g:Int}(h:ua7 d=0)(h':chOk d s g)(hf:¬ua4 d=0):chE d s g=ua4 d∧chL d s g=0∧chH d s g=0:=by
  have e:chE d s g=ua4 d:=by unfold chE;rw [if_pos h,if_pos h']
  exact⟨e,by unfold chL;rw [e,if_neg hf],by unfold chH;rw [e,if_neg hf]⟩
theorem uoL {d:Dsp} {s g:Int}(h:ua7 d=0)(h':chOk d s g)(hf:ua4 d=0):chE d s g=0∧chL d s g=(g*loT d (leaL d) s.toNat).tdiv 1000∧chH d s g=(g*hiT d (leaL d) s.toNat).tdiv 1000:=by
  have e:chE d s g=0:=by unfold chE;rw [if_pos h,if_pos h',hf]
  exact⟨e,by unfold chL;rw [e];rfl,by unfold chH;rw [e];rfl⟩
def coOk (n:Int):Prop:=0≤n∧n≤1000000
instance (n:Int):Decidable (coOk n):=by unfold coOk;infer_instance
def coE (d:Dsp)(n:Int):Int:=if ua7 d=0 then(if coOk n then ua4 d else 2)else ua7 d
def coN (d:Dsp)(n:Int):Int:=if coE d n=0 then d.pn else 0
def beaL (d:Dsp):List Int:=ujR d.pn.toNat (mstL d)
def cosF (d:Dsp)(n:Int)(p:Nat):Int:=uca n.toNat (beaL d) (beaL d).length (beaL d).length p
theorem ups {d:Dsp} {n:Int}(h:¬ua7 d=0):coE d n=ua7 d∧coN d n=0:=by
  have e:coE d n=ua7 d:=by unfold coE;rw [if_neg h]
  exact⟨e,by unfold coN;rw [e,if_neg h]⟩
theorem urA {d:Dsp} {n:Int}(h:ua7 d=0)(h':¬coOk n):coE d n=2∧coN d n=0:=by
  have e:coE d n=2:=by unfold coE;rw [if_pos h,if_neg h']
  exact⟨e,by unfold coN;rw [e];rfl⟩
theorem ulA {d:Dsp} {n:Int}(h:ua7 d=0)(h':coOk n)(hf:¬ua4 d=0):coE d n=ua4 d∧coN d n=0:=by
  have e:coE d n=ua4 d:=by unfold coE;rw [if_pos h,if_pos h']
  exact⟨e,by unfold coN;rw [e,if_neg hf]⟩
theorem ugE {d:Dsp} {n:Int}(h:ua7 d=0)(h':coOk n)(hf:ua4 d=0):coE d n=0∧coN d n=d.pn:=by
  have e:coE d n=0:=by unfold coE;rw [if_pos h,if_pos h',hf]
  exact⟨e,by unfold coN;rw [e];rfl⟩
end Go.Proofs.Ytkdggbfknlcdaaa
namespace Go.Proofs.Ytkdggbfknlcdaaa
open Go Go.Eng Go.Proofs Go.Eng.Dif Go.Eng.Few
set_option maxRecDepth 10000
theorem uhv {a:Int}(h: -200000000≤a∧a≤200000000): -200000000≤a.tdiv 1000∧a.tdiv 1000≤200000000:=by
  rcases Int.le_total 0 a with q|q
  · rw [Int.tdiv_eq_ediv_of_nonneg q];omega
  · obtain⟨b,rfl⟩:∃b,a = -b:=⟨-a,by omega⟩
    rw [Int.neg_tdiv,Int.tdiv_eq_ediv_of_nonneg (by omega)];omega
set_option maxHeartbeats 2000000 in
theorem upB (d:Dsp)(s g:Int):ua0 Try.prog 36 [(dspS d),(iv fun _=>s),(iv fun _=>g)] [] (fun r _=>r=(.tup [(.agg [(iv fun _=>chL d s g),(iv fun _=>chH d s g)]),(iv fun _=>chE d s g)])):=by
  have c16:=ucV d
  have c43:= @ude
  have c22:=ubG d
  have c44:=uec d
  have c66:=fun h:ua7 d=0=>ui7 d s ⟨(ua2.1 h).s1,by have:=(ua2.1 h).s3;omega⟩
  have c54:=fun h:ua7 d=0=>uco d (leaL d) (ua2.1 h) (by have:=ud8 d h;omega)
  have hbd:=fun (h:ua4 d=0) (i:Nat) (hi:i<16)=>urf (ua2.1 (uau h).1) (usT h) hi
  have hsn:=fun h:ua4 d=0=>(ua2.1 (uau h).1).s3
  have c55:=fun (s:Int) (h:ua4 d=0∧0≤s∧s≤d.sn-1)=>(show ua0 Try.prog 55 [.own 0 0,(iv fun _=>s)] [.cells [(.arr 16 (fun ix=>(iv fun _=>(clo (matO d d.fs (leaL d))) ix.den.toNat)))] 104] (fun r bs=>r=(.agg [(iv fun _=>loT d (leaL d) s.toNat),(iv fun _=>hiT d (leaL d) s.toNat)])∧bs=[.cells [(.arr 16 (fun ix=>(iv fun _=>(clo (matO d d.fs (leaL d))) ix.den.toNat)))] 104])from ul1 (clo (matO d d.fs (leaL d))) s ⟨h.2.1,by have:=hsn h.1;omega⟩ (fun i hi=>⟨by have:=hbd h.1 i hi;omega,by have:=hbd h.1 i hi;omega⟩))
  have hmul:0≤g→g≤100000→0≤s∧s≤d.sn-1→ua4 d=0→(-200000000≤g*loT d (leaL d) s.toNat∧g*loT d (leaL d) s.toNat≤200000000)∧ -200000000≤g*hiT d (leaL d) s.toNat∧g*hiT d (leaL d) s.toNat≤200000000:=fun h0 h1 hs hf=>by
    have s3:=hsn hf
    have b1:=hbd hf (at4 (s.toNat+1) 0) (uez (by omega) (by omega))
    have b2:=hbd hf (at4 0 (s.toNat+1)) (uez (by omega) (by omega))
    exact⟨uix h0 h1 (by unfold loT;omega) (by unfold loT;omega),uix h0 h1 (by unfold hiT;omega) (by unfold hiT;omega)⟩
  refine ua0.is fun R hR=>qW (sc:=sc36) tyok mix Try.func36 rfl Try.call36 (by kernel_rfl) (by kernel_rfl) ?_
  generalize Try.prog=P at c16 c43 c22 c44 c66 c54 c55⊢
  cbv
  repeat' (first
      |with_reducible refine hold ?_ ?_
      |with_reducible refine And.intro ?_ ?_
      | (with_reducible refine qS ?_ ?_ ?_
         try cbv)
      |(with_reducible intro hcd;(try simp only [zA,zB,zC,zD,zE,zF,zG,zH,zI,zJ,zK,zL,zM,zN,zO,zP]at hcd);try cbv)
      | (refine qP ?_ (c16) ?hfit
         case hfit=>((repeat' (first|exact qB|refine qD ?_ ?_|exact qE (by rfl)|exact qF (by rfl)|exact Fit.refl _|exact qA|refine qC ?_ rfl ?_));done)
         try cbv)
      | (refine qP ?_ (c43 _ _ _) (by(repeat' (first|exact qB|refine qD ?_ ?_|exact qE (by rfl)|exact qF (by rfl)|exact Fit.refl _|exact qA|refine qC ?_ rfl ?_)))
         try cbv)
      | (refine qP ?_ (c22) ?hfit
         case hfit=>((repeat' (first|exact qB|refine qD ?_ ?_|exact qE (by rfl)|exact qF (by rfl)|exact Fit.refl _|exact qA|refine qC ?_ rfl ?_));done)
         try cbv)
      | (refine qP ?_ (c44) ?hfit
         case hfit=>((repeat' (first|exact qB|refine qD ?_ ?_|exact qE (by rfl)|exact qF (by rfl)|exact Fit.refl _|exact qA|refine qC ?_ rfl ?_));done)
         try cbv)
      | (refine qP ?_ (c66 (by((try simp only [qV]at *);(try simp only [zQ,zA,zB,zC,zD,zE,zF,zG,zH,zI,zJ,zK,zL,zM,zN,zO,zP,zR,zS]at *);first|assumption|omega))) ?hfit
         case hfit=>((repeat' (first|exact qB|refine qD ?_ ?_|exact qE (by rfl)|exact qF (by rfl)|exact Fit.refl _|exact qA|refine qC ?_ rfl ?_));done)
         try cbv)
      | (refine qP ?_ (c54 (by((try simp only [qV]at *);(try simp only [zQ,zA,zB,zC,zD,zE,zF,zG,zH,zI,zJ,zK,zL,zM,zN,zO,zP,zR,zS]at *);first|assumption|omega))) ?hfit
         case hfit=>((repeat' (first|exact qB|refine qD ?_ ?_|exact qE (by rfl)|exact qF (by rfl)|exact Fit.refl _|exact qA|refine qC ?_ rfl ?_));done)
         try cbv)
      | ((have hf9:ua4 d=0:=(by((try simp only [qV]at *);(try simp only [zQ,zA,zB,zC,zD,zE,zF,zG,zH,zI,zJ,zK,zL,zM,zN,zO,zP,zR,zS]at *);omega)))
         refine⟨some [33],?_⟩
         cbv
         refine qQ ?_ (c55 s ⟨hf9,by((try simp only [qV]at *);(try simp only [zQ,zA,zB,zC,zD,zE,zF,zG,zH,zI,zJ,zK,zL,zM,zN,zO,zP,zR,zS]at *);(try simp only [ual,uan,uaS,ub0,uaZ,ub1,uab,uad,uac,uaf]at *);omega)⟩) ?hfit ?hbo
         case hfit=>(cbv;(repeat' (first|exact qB|refine qD ?_ ?_|exact qE (by rfl)|exact qF (by rfl)|exact Fit.refl _|exact qA|refine qC ?_ rfl ?_));done)
         case hbo=>(cbv;(repeat' (first|exact qH|refine qI ?_ ?_|exact qK _|refine qJ ?_|exact qA|exact qE (by rfl)|exact qF (by rfl)|exact Fit.refl _|exact qG _|refine qC ?_ rfl ?_));done)
         try cbv)
      |fail)
  all_goals first
    |((try simp only [qV]at *);(try simp only [zQ,zA,zB,zC,zD,zE,zF,zG,zH,zI,zJ,zK,zL,zM,zN,zO,zP,zR,zS,ual,uan,uaS,ub0,uaZ,ub1,uab,uad,uac,uaf]at *);first|(refine qN ?_;omega)|(simp only [Hold];omega))
    |(subst hR;(refine qD (qC (qE ?_) rfl (qC (qE ?_) rfl qA)) (qD (qE ?_) qB)<;>((try simp only [qV]at *);(try simp only [zQ,zA,zB,zC,zD,zE,zF,zG,zH,zI,zJ,zK,zL,zM,zN,zO,zP,zR,zS]at *);(try simp only [ual,uan,uaS,ub0,uaZ,ub1,uab,uad,uac,uaf]at *);(have h0:=utq (d:=d) (s:=s) (g:=g) (by first|assumption|omega));first|exact h0.2.1.symm|exact h0.2.2.symm|exact h0.1.symm));done)
    |(subst hR;(refine qD (qC (qE ?_) rfl (qC (qE ?_) rfl qA)) (qD (qE ?_) qB)<;>((try simp only [qV]at *);(try simp only [zQ,zA,zB,zC,zD,zE,zF,zG,zH,zI,zJ,zK,zL,zM,zN,zO,zP,zR,zS]at *);(try simp only [ual,uan,uaS,ub0,uaZ,ub1,uab,uad,uac,uaf]at *);(have h0:=uuq (d:=d) (s:=s) (g:=g) (by first|assumption|omega) (by unfold chOk;omega));first|exact h0.2.1.symm|exact h0.2.2.symm|exact h0.1.symm));done)
    |(subst hR;(refine qD (qC (qE ?_) rfl (qC (qE ?_) rfl qA)) (qD (qE ?_) qB)<;>((try simp only [qV]at *);(try simp only [zQ,zA,zB,zC,zD,zE,zF,zG,zH,zI,zJ,zK,zL,zM,zN,zO,zP,zR,zS]at *);(try simp only [ual,uan,uaS,ub0,uaZ,ub1,uab,uad,uac,uaf]at *);(have h0:=uq1 (d:=d) (s:=s) (g:=g) (by first|assumption|omega) (by unfold chOk;omega) (by first|assumption|omega));first|exact h0.2.1.symm|exact h0.2.2.symm|exact h0.1.symm));done)
    |(subst hR;(refine qD (qC (qE ?_) rfl (qC (qE ?_) rfl qA)) (qD (qE ?_) qB)<;>((try simp only [qV]at *);(try simp only [zQ,zA,zB,zC,zD,zE,zF,zG,zH,zI,zJ,zK,zL,zM,zN,zO,zP,zR,zS]at *);(try simp only [ual,uan,uaS,ub0,uaZ,ub1,uab,uad,uac,uaf]at *);(have h0:=uoL (d:=d) (s:=s) (g:=g) (by first|assumption|omega) (by unfold chOk;omega) (by first|assumption|omega));first|exact h0.2.1.symm|exact h0.2.2.symm|exact h0.1.symm));done)
    |((have hf9:ua4 d=0:=(by((try simp only [qV]at *);(try simp only [zQ,zA,zB,zC,zD,zE,zF,zG,zH,zI,zJ,zK,zL,zM,zN,zO,zP,zR,zS]at *);omega)));(have hb9:=hmul (by((try simp only [qV]at *);(try simp only [zQ,zA,zB,zC,zD,zE,zF,zG,zH,zI,zJ,zK,zL,zM,zN,zO,zP,zR,zS]at *);(try simp only [ual,uan,uaS,ub0,uaZ,ub1,uab,uad,uac,uaf]at *);omega)) (by((try simp only [qV]at *);(try simp only [zQ,zA,zB,zC,zD,zE,zF,zG,zH,zI,zJ,zK,zL,zM,zN,zO,zP,zR,zS]at *);(try simp only [ual,uan,uaS,ub0,uaZ,ub1,uab,uad,uac,uaf]at *);omega)) (by((try simp only [qV]at *);(try simp only [zQ,zA,zB,zC,zD,zE,zF,zG,zH,zI,zJ,zK,zL,zM,zN,zO,zP,zR,zS]at *);(try simp only [ual,uan,uaS,ub0,uaZ,ub1,uab,uad,uac,uaf]at *);omega)) hf9);(have t1:=uhv hb9.1);(have t2:=uhv hb9.2);(try simp only [qV]at *);(try simp only [zQ,zA,zB,zC,zD,zE,zF,zG,zH,zI,zJ,zK,zL,zM,zN,zO,zP,zR,zS]at *);(try simp only [ual,uan,uaS,ub0,uaZ,ub1,uab,uad,uac,uaf]at *);first|(refine qN ?_;omega)|(simp only [Hold];omega))
    |skip
theorem ur9 {f:Nat→Bool}:∀{n:Nat},selL f n=[]→∀{k:Nat},k<n→f k=false:=by
  intro n
  induction n with
  |zero=>intro _ k hk;omega
  | succ n ih=>
    intro h k hk
    cases hf:f n with
    |true=>rw [unC hf]at h;simp at h
    | false=>
      rw [upo hf]at h
      by_cases e:k=n
      · rw [e];exact hf
      · exact ih h (by omega)
set_option maxHeartbeats 2000000 in
theorem upw (d:Dsp)(h:ua4 d=0)(he:mstL d=[]):ua0 Try.prog 33 [(dspS d)] [] (fun r _=>r=(.tup [.val (Value.slice none 0 0),(iS ((mayL d))),(iv fun _=>ua4 d)])):=by
  have c59:=ul8 d h
  have c58:=ug0
  have hF:=(uau h).1
  have hd:=ua2.1 hF
  have p1:=hd.p1
  have p4:=hd.p4
  have c61:=ug5 d hd
  have hsf:=ujl (n:=d.pn.toNat) (ok:=okPa d) (by omega) (ufl h)
  have hm0:selL (mstF d) d.pn.toNat=[]:=(if_pos h:mstL d=_).symm.trans he
  have hAf:∀k:Nat,k<d.pn.toNat→mstF d k=false:=fun k hk=>ur9 hm0 hk
  rw [show mayL d=selL (mayF d) d.pn.toNat from if_pos h,h]
  have hA:∀k:Nat,allB (fun i=>inL ((uat d.pn.toNat (okPa d)).getD i []) (zi k)) (uat d.pn.toNat (okPa d)).length=mstF d k:=fun k=>urT _ _
  have hB:∀k:Nat,decide (0≤fidx (fun i=> !(inL ((uat d.pn.toNat (okPa d)).getD i []) (zi k))) (uat d.pn.toNat (okPa d)).length 0)=mayF d k:=fun k=>urB _ _
  obtain⟨L,hL⟩:∃L,L=uat d.pn.toNat (okPa d):=⟨_,rfl⟩
  rw [←hL]at c61 hsf
  simp only [←hL]at hA hB
  have c64:=fun k:Nat=>(show ua0 Try.prog 64 [(.sl 1 (.sym fun _=>zi (L).length) (fun ix=>[(.sl 1 (.sym fun _=>zi ((L).getD ix.den.toNat []).length) (fun jx=>[(iv fun _=>((L).getD ix.den.toNat []).getD jx.den.toNat 0)]))])),.clo 62 [] [.own 0 0]] [.cells [(iv fun _=>zi k)] 3] (fun r bs=>r=(.bool (.sym fun _=>mstF d k))∧bs=[.cells [(iv fun _=>zi k)] 3])from hA k▸uhi L (zi k) hsf.2 hsf.1)
  have c65:=fun k:Nat=>(show ua0 Try.prog 65 [(.sl 1 (.sym fun _=>zi (L).length) (fun ix=>[(.sl 1 (.sym fun _=>zi ((L).getD ix.den.toNat []).length) (fun jx=>[(iv fun _=>((L).getD ix.den.toNat []).getD jx.den.toNat 0)]))])),.clo 62 [] [.own 0 0]] [.cells [(iv fun _=>zi k)] 3] (fun r bs=>r=(.bool (.sym fun _=>mayF d k))∧bs=[.cells [(iv fun _=>zi k)] 3])from hB k▸uhg L (zi k) hsf.2 hsf.1)
  obtain⟨fA,hfA⟩:∃f,f=mstF d:=⟨_,rfl⟩
  obtain⟨fB,hfB⟩:∃f,f=mayF d:=⟨_,rfl⟩
  rw [←hfA]at c64 hAf
  rw [←hfB]at c65⊢
  clear hA hB hL hfA hfB hm0
  refine ua0.is fun R hR=>qW (sc:=sc33) tyok mix Try.func33 rfl Try.call33 (by kernel_rfl) (by kernel_rfl) ?_
  generalize Try.prog=P at c59 c58 c61 c64 c65⊢
  cbv
  repeat' (first
      |with_reducible refine And.intro ?_ ?_
      |(with_reducible intro hcd;(try simp only [zA,zB,zC,zD,zE,zF,zG,zH,zI,zJ,zK,zL,zM,zN,zO,zP]at hcd);try cbv)
      | (refine qP ?_ (c59) ?hfit
         case hfit=>((repeat' (first|exact qB|refine qD ?_ ?_|exact qE (by rfl)|exact qF (by rfl)|exact Fit.refl _|exact qA|refine qC ?_ rfl ?_));done)
         try cbv)
      | (refine qP ?_ (c58) ?hfit
         case hfit=>((repeat' (first|exact qB|refine qD ?_ ?_|exact qE (by rfl)|exact qF (by rfl)|exact Fit.refl _|exact qA|refine qC ?_ rfl ?_));done)
         try cbv)
      | (refine qP ?_ (c61) ?hfit
         case hfit=>((repeat' (first|exact qB|refine qD ?_ ?_|exact qE (by rfl)|exact qF (by rfl)|exact Fit.refl _|exact qA|refine qC ?_ rfl ?_));done)
         try cbv)
      |fail)
  all_goals first
    |trivial
    |skip
  refine⟨none,[⟨.tmp 3,3,1⟩],{k:Nat // k≤d.pn.toNat},fun x=>⟨[(1,.own 0 0),(6,(.sl 1 (.sym fun _=>zi (L).length) (fun ix=>[(.sl 1 (.sym fun _=>zi ((L).getD ix.den.toNat []).length) (fun jx=>[(iv fun _=>((L).getD ix.den.toNat []).getD jx.den.toNat 0)]))]))),(2,.val (Value.slice none 0 0)),(3,.row 20),(21,(iv fun _=>d.pn)),(22,(iv fun _=>zi x.1))],[(0,.cells [(iS d.tw),(iS d.tm),(.sl 1 (.sym fun _=>zi (d.tv).length) (fun ix=>[(.sl 1 (.sym fun _=>zi ((d.tv).getD ix.den.toNat []).length) (fun jx=>[(iv fun _=>((d.tv).getD ix.den.toNat []).getD jx.den.toNat 0)]))])),(iv fun _=>d.sn),(iv fun _=>d.pn),(.sl 4 (.sym fun _=>zi (d.ls).length) (fun ix=>[(iv fun _=>((d.ls).getD ix.den.toNat l0T).a),(iv fun _=>((d.ls).getD ix.den.toNat l0T).b),(iv fun _=>((d.ls).getD ix.den.toNat l0T).lo),(iv fun _=>((d.ls).getD ix.den.toNat l0T).hi)])),(.sl 6 (.sym fun _=>zi (d.fs).length) (fun ix=>[(iv fun _=>((d.fs).getD ix.den.toNat f0T).p),(iv fun _=>((d.fs).getD ix.den.toNat f0T).s),(iv fun _=>((d.fs).getD ix.den.toNat f0T).wl),(iv fun _=>((d.fs).getD ix.den.toNat f0T).wh),(iv fun _=>((d.fs).getD ix.den.toNat f0T).ml),(iv fun _=>((d.fs).getD ix.den.toNat f0T).mh)]))] 41),(20,.row 3 1 (.sym fun _=>zi ((selL fB x.1)).length) (fun ix=>[(iv fun _=>((selL fB x.1)).getD ix.den.toNat 0)]))],100⟩,fun x=>d.pn.toNat-x.1,?_,?_⟩
  · refine⟨⟨0,by omega⟩,?_⟩
    cbv
    repeat' (first
      |with_reducible refine hold ?_ ?_
      |with_reducible refine And.intro ?_ ?_)
    all_goals first
      |trivial
      |exact qM (qE (by rfl))
      |exact qM (Fit.refl _)
      |exact qL (qK _)
      |(refine qL (uae ?_ ?_);(first|rfl|((try simp only [qV]at *);(try simp only [zQ,zA,zB,zC,zD,zE,zF,zG,zH,zI,zJ,zK,zL,zM,zN,zO,zP,zR,zS]at *);omega));intro ix h0 h1;exfalso;(try simp only [qV]at *);(try simp only [zQ,zA,zB,zC,zD,zE,zF,zG,zH,zI,zJ,zK,zL,zM,zN,zO,zP,zR,zS]at *);omega)
      |skip
  · rintro ⟨k, hk⟩
    cbv
    have hl2:=uil fB k
    have hyB:=unC (f:=fB) (k:=k)
    have hnB:=upo (f:=fB) (k:=k)
    obtain⟨M2,hM2⟩:∃M,M=selL fB k:=⟨_,rfl⟩
    rw [←hM2]at hl2 hyB hnB⊢
    have c64k:=c64 k
    have c65k:=c65 k
    rcases Nat.lt_or_ge k d.pn.toNat with hlt|hge
    · have hfa :=hAf k hlt
      rw [hfa]at c64k
      rcases hfb:fB k with _|_
      · rw [hfb]at c65k
        cbv
        repeat' (first
            |with_reducible refine hold ?_ ?_
            |with_reducible refine And.intro ?_ ?_
            |(with_reducible intro hcd;(try simp only [zA,zB,zC,zD,zE,zF,zG,zH,zI,zJ,zK,zL,zM,zN,zO,zP]at hcd);try cbv)
            | (refine⟨some [102],?_⟩
               cbv
               refine qQ ?_ (c64k) ?hfit ?hbo
               case hfit=>(cbv;(repeat' (first|exact qB|refine qD ?_ ?_|exact qE (by rfl)|exact qF (by rfl)|exact Fit.refl _|exact qA|refine qC ?_ rfl ?_));done)
               case hbo=>(cbv;(repeat' (first|exact qH|refine qI ?_ ?_|exact qK _|refine qJ ?_|exact qA|exact qE (by rfl)|exact qF (by rfl)|exact Fit.refl _|exact qG _|refine qC ?_ rfl ?_));done)
               try cbv)
            | (refine⟨some [102],?_⟩
               cbv
               refine qQ ?_ (c65k) ?hfit ?hbo
               case hfit=>(cbv;(repeat' (first|exact qB|refine qD ?_ ?_|exact qE (by rfl)|exact qF (by rfl)|exact Fit.refl _|exact qA|refine qC ?_ rfl ?_));done)
               case hbo=>(cbv;(repeat' (first|exact qH|refine qI ?_ ?_|exact qK _|refine qJ ?_|exact qA|exact qE (by rfl)|exact qF (by rfl)|exact Fit.refl _|exact qG _|refine qC ?_ rfl ?_));done)
               try cbv)
            | (obtain⟨L4,eL4⟩:∃y:List Int,y=M2++[zi k]:=⟨_,rfl⟩
               refine⟨ueb L4,?_⟩
               cbv
               refine hold (uak (L:=M2) eL4 (by(first|rfl|((try simp only [qV]at *);(try simp only [zQ,zA,zB,zC,zD,zE,zF,zG,zH,zI,zJ,zK,zL,zM,zN,zO,zP,zR,zS]at *);done)|((try simp only [qV]at *);(try simp only [zQ,zA,zB,zC,zD,zE,zF,zG,zH,zI,zJ,zK,zL,zM,zN,zO,zP,zR,zS]at *);omega))) (by rfl) (fun ix=>Fit.refl _) (fun ix h=>qC (qE (by rfl)) rfl qA) (by(try simp only [qV]at *);(try simp only [zQ,zA,zB,zC,zD,zE,zF,zG,zH,zI,zJ,zK,zL,zM,zN,zO,zP,zR,zS]at *);omega)) (Or.inl ?_)
               try cbv)
            |fail)
        all_goals first
          |trivial
          |((try simp only [qV]at *);(try simp only [zQ,zA,zB,zC,zD,zE,zF,zG,zH,zI,zJ,zK,zL,zM,zN,zO,zP,zR,zS]at *);first|(refine qN ?_;omega)|(simp only [Hold];omega))
          |((have hke:k=d.pn.toNat:=(by((try simp only [qV]at *);(try simp only [zQ,zA,zB,zC,zD,zE,zF,zG,zH,zI,zJ,zK,zL,zM,zN,zO,zP,zR,zS]at *);omega)));subst hR;rw [←hke,←hM2];exact qD (Fit.refl _) (qD (Fit.refl _) (qD (qE rfl) qB)))
          |((try simp only [zQ,zA,zB,zC,zD,zE,zF,zG,zH,zI,zJ,zK,zL,zM,zN,zO,zP,zR,zS]at *);(have hx2:selL fB (k+1)=M2:=hnB hfb);refine⟨⟨k+1,by((try simp only [qV]at *);(try simp only [zQ,zA,zB,zC,zD,zE,zF,zG,zH,zI,zJ,zK,zL,zM,zN,zO,zP,zR,zS]at *);omega)⟩,by simp only [];omega,?_⟩;cbv;(repeat' (first|with_reducible refine hold ?_ ?_|with_reducible refine And.intro ?_ ?_));(all_goals first|trivial|exact qM (qE (by rfl))|exact qM (qF (by rfl))|exact qM (Fit.refl _)|exact qL (qK _)|(refine qM (qE ?_);(try simp only [qV]at *);simp only [zQ,zA,zB,zC,zD,zE,zF,zG,zH,zI,zJ,zK,zL,zM,zN,zO,zP,zR,zS]at *;omega)|(refine qL (qJ ?_);(repeat' (first|exact qA|exact qB|refine qC ?_ rfl ?_|refine qD ?_ ?_|exact qE (by rfl)|exact qF (by rfl)|exact Fit.refl _|exact qG _|(refine qE ?_;(try simp only [qV]at *);simp only [zQ,zA,zB,zC,zD,zE,zF,zG,zH,zI,zJ,zK,zL,zM,zN,zO,zP,zR,zS]at *;omega)));done)|(simp only [hx2];first|exact qL (qK _)|(refine qL (uae ?_ ?_)<;>first|rfl|(rw [hM2,List.length_append];rfl)|((try simp only [qV]at *);(try simp only [zQ,zA,zB,zC,zD,zE,zF,zG,zH,zI,zJ,zK,zL,zM,zN,zO,zP,zR,zS]at *);(try simp only [hM2,List.length_append,List.length_cons,List.length_nil]at *);omega)|(intro ix h0 h1;exact Fit.refl _)))|skip))
          |skip
      · rw [hfb]at c65k
        cbv
        repeat' (first
            |with_reducible refine hold ?_ ?_
            |with_reducible refine And.intro ?_ ?_
            |(with_reducible intro hcd;(try simp only [zA,zB,zC,zD,zE,zF,zG,zH,zI,zJ,zK,zL,zM,zN,zO,zP]at hcd);try cbv)
            | (refine⟨some [102],?_⟩
               cbv
               refine qQ ?_ (c64k) ?hfit ?hbo
               case hfit=>(cbv;(repeat' (first|exact qB|refine qD ?_ ?_|exact qE (by rfl)|exact qF (by rfl)|exact Fit.refl _|exact qA|refine qC ?_ rfl ?_));done)
               case hbo=>(cbv;(repeat' (first|exact qH|refine qI ?_ ?_|exact qK _|refine qJ ?_|exact qA|exact qE (by rfl)|exact qF (by rfl)|exact Fit.refl _|exact qG _|refine qC ?_ rfl ?_));done)
               try cbv)
            | (refine⟨some [102],?_⟩
               cbv
               refine qQ ?_ (c65k) ?hfit ?hbo
               case hfit=>(cbv;(repeat' (first|exact qB|refine qD ?_ ?_|exact qE (by rfl)|exact qF (by rfl)|exact Fit.refl _|exact qA|refine qC ?_ rfl ?_));done)
               case hbo=>(cbv;(repeat' (first|exact qH|refine qI ?_ ?_|exact qK _|refine qJ ?_|exact qA|exact qE (by rfl)|exact qF (by rfl)|exact Fit.refl _|exact qG _|refine qC ?_ rfl ?_));done)
               try cbv)
            | (obtain⟨L4,eL4⟩:∃y:List Int,y=M2++[zi k]:=⟨_,rfl⟩
               refine⟨ueb L4,?_⟩
               cbv
               refine hold (uak (L:=M2) eL4 (by(first|rfl|((try simp only [qV]at *);(try simp only [zQ,zA,zB,zC,zD,zE,zF,zG,zH,zI,zJ,zK,zL,zM,zN,zO,zP,zR,zS]at *);done)|((try simp only [qV]at *);(try simp only [zQ,zA,zB,zC,zD,zE,zF,zG,zH,zI,zJ,zK,zL,zM,zN,zO,zP,zR,zS]at *);omega))) (by rfl) (fun ix=>Fit.refl _) (fun ix h=>qC (qE (by rfl)) rfl qA) (by(try simp only [qV]at *);(try simp only [zQ,zA,zB,zC,zD,zE,zF,zG,zH,zI,zJ,zK,zL,zM,zN,zO,zP,zR,zS]at *);omega)) (Or.inl ?_)
               try cbv)
            |fail)
        all_goals first
          |trivial
          |((try simp only [qV]at *);(try simp only [zQ,zA,zB,zC,zD,zE,zF,zG,zH,zI,zJ,zK,zL,zM,zN,zO,zP,zR,zS]at *);first|(refine qN ?_;omega)|(simp only [Hold];omega))
          |((have hke:k=d.pn.toNat:=(by((try simp only [qV]at *);(try simp only [zQ,zA,zB,zC,zD,zE,zF,zG,zH,zI,zJ,zK,zL,zM,zN,zO,zP,zR,zS]at *);omega)));subst hR;rw [←hke,←hM2];exact qD (Fit.refl _) (qD (Fit.refl _) (qD (qE rfl) qB)))
          |((try simp only [zQ,zA,zB,zC,zD,zE,zF,zG,zH,zI,zJ,zK,zL,zM,zN,zO,zP,zR,zS]at *);(have hx2:selL fB (k+1)=L4:=(hyB hfb).trans eL4.symm);refine⟨⟨k+1,by((try simp only [qV]at *);(try simp only [zQ,zA,zB,zC,zD,zE,zF,zG,zH,zI,zJ,zK,zL,zM,zN,zO,zP,zR,zS]at *);omega)⟩,by simp only [];omega,?_⟩;cbv;(repeat' (first|with_reducible refine hold ?_ ?_|with_reducible refine And.intro ?_ ?_));(all_goals first|trivial|exact qM (qE (by rfl))|exact qM (qF (by rfl))|exact qM (Fit.refl _)|exact qL (qK _)|(refine qM (qE ?_);(try simp only [qV]at *);simp only [zQ,zA,zB,zC,zD,zE,zF,zG,zH,zI,zJ,zK,zL,zM,zN,zO,zP,zR,zS]at *;omega)|(refine qL (qJ ?_);(repeat' (first|exact qA|exact qB|refine qC ?_ rfl ?_|refine qD ?_ ?_|exact qE (by rfl)|exact qF (by rfl)|exact Fit.refl _|exact qG _|(refine qE ?_;(try simp only [qV]at *);simp only [zQ,zA,zB,zC,zD,zE,zF,zG,zH,zI,zJ,zK,zL,zM,zN,zO,zP,zR,zS]at *;omega)));done)|(simp only [hx2];first|exact qL (qK _)|(refine qL (uae ?_ ?_)<;>first|rfl|(rw [eL4,List.length_append];rfl)|((try simp only [qV]at *);(try simp only [zQ,zA,zB,zC,zD,zE,zF,zG,zH,zI,zJ,zK,zL,zM,zN,zO,zP,zR,zS]at *);(try simp only [eL4,List.length_append,List.length_cons,List.length_nil]at *);omega)|(intro ix h0 h1;exact Fit.refl _)))|skip))
          |skip
    · cbv
      repeat' (first
          |with_reducible refine And.intro ?_ ?_
          |(with_reducible intro hcd;(try simp only [zA,zB,zC,zD,zE,zF,zG,zH,zI,zJ,zK,zL,zM,zN,zO,zP]at hcd);try cbv)
          |fail)
      all_goals first
        |((have hke:k=d.pn.toNat:=(by((try simp only [qV]at *);(try simp only [zQ,zA,zB,zC,zD,zE,zF,zG,zH,zI,zJ,zK,zL,zM,zN,zO,zP,zR,zS]at *);omega)));subst hR;rw [←hke,←hM2];exact qD (Fit.refl _) (qD (Fit.refl _) (qD (qE rfl) qB)))
        |(exfalso;(try simp only [qV]at *);(try simp only [zQ,zA,zB,zC,zD,zE,zF,zG,zH,zI,zJ,zK,zL,zM,zN,zO,zP,zR,zS]at *);omega)
        |skip
end Go.Proofs.Ytkdggbfknlcdaaa
namespace Go.Proofs.Ytkdggbfknlcdaaa
open Go Go.Eng Go.Eng.Dif Go.Eng.Few
theorem uaU {n ix:Int} {o2:Nat} {e e':IX→List SV} {x:List SV}(h0:ix<n)(h1:∀jx:IX,0≤jx.den→jx.den<n→jx.den≠ix→Fit (.agg (e jx)) (.agg (e' jx)))
    (h2:∀jx:IX,0≤jx.den→jx.den<n→jx.den=ix→∃l,putC (e jx) o2 x=some l∧Fit (.agg l) (.agg (e' jx))):Hold (ix<n∧urG n e ix o2 x e'):=
  ⟨h0,fun jx a b c=>(h1 jx a b c).le,fun jx a b c=>by obtain⟨l,p,q⟩:=h2 jx a b c;exact⟨l,p,q.le⟩⟩
def updN (f:Nat→Int)(p:Nat)(v:Int):Nat→Int:=fun i=>if i=p then v else f i
theorem ufk {f:Nat→Int} {p i:Nat} {v:Int}(h:i=p):v=updN f p v i:=by unfold updN;rw [if_pos h]
theorem uin {f:Nat→Int} {p i:Nat} {v:Int}(h:i≠p):f i=updN f p v i:=by unfold updN;rw [if_neg h]
theorem usZ {n:Int} {m k:Nat}(hn:0≤n)(h:(k:Int)<n.tmod (m:Int)):(bear n.toNat m k:Int)=n.tdiv (m:Int)+1:=by
  obtain⟨N,rfl⟩:∃N:Nat,n=(N:Int):=⟨n.toNat,by omega⟩
  have h1:(N:Int).tmod (m:Int)=((N%m:Nat):Int):=rfl
  have h2:(N:Int).tdiv (m:Int)=((N/m:Nat):Int):=rfl
  rw [h1]at h
  rw [h2]
  unfold bear
  rw [Int.toNat_natCast,if_pos (by omega)]
  omega
theorem utx {n:Int} {m k:Nat}(hn:0≤n)(h:¬(k:Int)<n.tmod (m:Int)):(bear n.toNat m k:Int)=n.tdiv (m:Int):=by
  obtain⟨N,rfl⟩:∃N:Nat,n=(N:Int):=⟨n.toNat,by omega⟩
  have h1:(N:Int).tmod (m:Int)=((N%m:Nat):Int):=rfl
  have h2:(N:Int).tdiv (m:Int)=((N/m:Nat):Int):=rfl
  rw [h1]at h
  rw [h2]
  unfold bear
  rw [Int.toNat_natCast,if_neg (by omega)]
  omega
theorem uro {n:Int} {m:Nat}(h0:0≤n)(h1:n≤1000000):0≤n.tdiv (m:Int)∧n.tdiv (m:Int)≤1000000:=by
  obtain⟨N,rfl⟩:∃N:Nat,n=(N:Int):=⟨n.toNat,by omega⟩
  have h2:(N:Int).tdiv (m:Int)=((N/m:Nat):Int):=rfl
  have:=Nat.div_le_self N m
  rw [h2]
  exact⟨Int.natCast_nonneg _,Int.le_trans (Int.ofNat_le.2 this) h1⟩
theorem ui1 {n:Int} {L:List Int} {m k i:Nat}(hn:0≤n)(h0:0≤L.getD k 0)(h:¬(k:Int)<n.tmod (m:Int)):updN (uca n.toNat L m k) (L.getD k 0).toNat (n.tdiv (m:Int)) i=uca n.toNat L m (k+1) i:=by
  unfold updN uca
  rw [utx hn h]
  by_cases e:i=(L.getD k 0).toNat
  · rw [if_pos e,if_pos (by omega)]
  · rw [if_neg e,if_neg (by omega)]
    cases k<;>rfl
theorem uhA {n:Int} {L:List Int} {m k i a:Nat}(hn:0≤n)(h0:0≤L.getD k 0)(h:(k:Int)<n.tmod (m:Int))(ha:a=(L.getD k 0).toNat):updN (updN (uca n.toNat L m k) (L.getD k 0).toNat (n.tdiv (m:Int))) (L.getD k 0).toNat (updN (uca n.toNat L m k) (L.getD k 0).toNat (n.tdiv (m:Int)) a+1) i=uca n.toNat L m (k+1) i:=by
  rw [←ufk ha]
  unfold updN uca
  rw [usZ hn h]
  by_cases e:i=(L.getD k 0).toNat
  · rw [if_pos e,if_pos (by omega)]
  · rw [if_neg e,if_neg e,if_neg (by omega)]
    cases k<;>rfl
theorem up7 {d:Dsp}(h:ua4 d=0):Asc d.pn.toNat 0 (beaL d)∧0<(beaL d).length:=by
  have e:mstL d=selL (mstF d) d.pn.toNat:=if_pos h
  have p1:=(ua2.1 (uau h).1).p1
  unfold beaL
  rw [e]
  exact uqC (by omega) uoS
theorem urH {d:Dsp}(h:ua4 d=0) {k:Nat}(hk:k<(beaL d).length):0≤(beaL d).getD k 0∧(beaL d).getD k 0<d.pn:=by
  have:=uiB (up7 h).1 k hk
  have p1:=(ua2.1 (uau h).1).p1
  omega
theorem unM {d:Dsp}(h:ua4 d=0):(beaL d).length≤4:=by
  have p4:=(ua2.1 (uau h).1).p4
  have e:mstL d=selL (mstF d) d.pn.toNat:=if_pos h
  unfold beaL ujR
  split
  · rw [uhO];omega
  · rw [e];have:=uil (mstF d) d.pn.toNat;omega
theorem usI {d:Dsp}(h:mstL d=[]):beaL d=uaF d.pn.toNat:=by unfold beaL ujR;rw [h];rfl
theorem uuQ {d:Dsp}(h:mstL d≠[]):beaL d=mstL d:=by
  unfold beaL ujR
  rw [if_neg (by rw [List.length_eq_zero_iff];exact h)]
theorem uv4 (k:Nat):uaF (k+1)=uaF k++[(k:Int)]:=rfl
theorem uhc {d:Dsp} {n:Int}(h:coE d n=0):ua4 d=0∧0≤n∧n≤1000000:=by
  by_cases hF:ua7 d=0
  · by_cases hn:coOk n
    · by_cases hf:ua4 d=0
      · exact⟨hf,hn.1,hn.2⟩
      · rw [(ulA hF hn hf).1]at h;exact absurd h hf
    · rw [(urA hF hn).1]at h;omega
  · rw [(ups hF).1]at h;exact absurd h hF
theorem unG {d:Dsp} {n:Int}(h:¬coE d n=0):coN d n=0:=by unfold coN;rw [if_neg h]
end Go.Proofs.Ytkdggbfknlcdaaa
namespace Go.Proofs.Ytkdggbfknlcdaaa
open Go Go.Eng Go.Proofs Go.Eng.Dif Go.Eng.Few
set_option maxRecDepth 10000
theorem uqR (d:Dsp)(n:Int)(h:¬coE d n=0):ua0 Try.prog 34 [(dspS d),(iv fun _=>n)] [] (fun r _=>r=(.tup [(.sl 1 (.sym fun _=>coN d n) (fun ix=>[(iv fun _=>cosF d n ix.den.toNat)])),(iv fun _=>coE d n)])):=by
  have c16:=ucV d
  have c43:= @ude
  have c33:=ukn d
  refine ua0.is fun R hR=>qW (sc:=sc34) tyok mix Try.func34 rfl Try.call34 (by kernel_rfl) (by kernel_rfl) ?_
  generalize Try.prog=P at c16 c43 c33⊢
  cbv
  repeat' (first
      |with_reducible refine hold ?_ ?_
      |with_reducible refine And.intro ?_ ?_
      |(with_reducible intro hcd;(try simp only [zA,zB,zC,zD,zE,zF,zG,zH,zI,zJ,zK,zL,zM,zN,zO,zP]at hcd);try cbv)
      | (refine qP ?_ (c16) ?hfit
         case hfit=>((repeat' (first|exact qB|refine qD ?_ ?_|exact qE (by rfl)|exact qF (by rfl)|exact Fit.refl _|exact qA|refine qC ?_ rfl ?_));done)
         try cbv)
      | (refine qP ?_ (c43 _ _ _) (by(repeat' (first|exact qB|refine qD ?_ ?_|exact qE (by rfl)|exact qF (by rfl)|exact Fit.refl _|exact qA|refine qC ?_ rfl ?_)))
         try cbv)
      | (refine qP ?_ (c33) ?hfit
         case hfit=>((repeat' (first|exact qB|refine qD ?_ ?_|exact qE (by rfl)|exact qF (by rfl)|exact Fit.refl _|exact qA|refine qC ?_ rfl ?_));done)
         try cbv)
      |fail)
  all_goals first
    |(subst hR;((try simp only [qV]at *);(try simp only [zQ,zA,zB,zC,zD,zE,zF,zG,zH,zI,zJ,zK,zL,zM,zN,zO,zP,zR,zS]at *);(try simp only [ual,uan,uaS,ub0,uaZ,ub1,uab,uad,uac,uaf]at *);(exact qD (qO (unG h)) (qD (qE (ups (d:=d) (n:=n) (by first|assumption|omega)).1.symm) qB)));done)
    |(subst hR;((try simp only [qV]at *);(try simp only [zQ,zA,zB,zC,zD,zE,zF,zG,zH,zI,zJ,zK,zL,zM,zN,zO,zP,zR,zS]at *);(try simp only [ual,uan,uaS,ub0,uaZ,ub1,uab,uad,uac,uaf]at *);(exact qD (qO (unG h)) (qD (qE (urA (d:=d) (n:=n) (by first|assumption|omega) (by unfold coOk;omega)).1.symm) qB)));done)
    |(subst hR;((try simp only [qV]at *);(try simp only [zQ,zA,zB,zC,zD,zE,zF,zG,zH,zI,zJ,zK,zL,zM,zN,zO,zP,zR,zS]at *);(try simp only [ual,uan,uaS,ub0,uaZ,ub1,uab,uad,uac,uaf]at *);(exact qD (qO (unG h)) (qD (qE (ulA (d:=d) (n:=n) (by first|assumption|omega) (by unfold coOk;omega) (by first|assumption|omega)).1.symm) qB)));done)
    |(exfalso;(try simp only [qV]at *);(try simp only [zQ,zA,zB,zC,zD,zE,zF,zG,zH,zI,zJ,zK,zL,zM,zN,zO,zP,zR,zS]at *);(try simp only [ual,uan,uaS,ub0,uaZ,ub1,uab,uad,uac,uaf]at *);exact h (ugE (by first|assumption|omega) (by unfold coOk;omega) (by first|assumption|omega)).1)
    |skip
theorem urJ {f:Nat→Int} {p i a:Nat}(ha:a=p)(h:i=p):f a+1=updN f p (f p+1) i:=by
  subst ha
  exact ufk h
set_option maxHeartbeats 2000000 in
theorem ur6 (d:Dsp)(n:Int)(h:coE d n=0)(he:mstL d=[]):ua0 Try.prog 34 [(dspS d),(iv fun _=>n)] [] (fun r _=>r=(.tup [(.sl 1 (.sym fun _=>coN d n) (fun ix=>[(iv fun _=>cosF d n ix.den.toNat)])),(iv fun _=>coE d n)])):=by
  have c16:=ucV d
  have c43:= @ude
  have hf:=(uhc h).1
  have hn0:=(uhc h).2.1
  have hn1:=(uhc h).2.2
  have hF:=(uau hf).1
  have p1:=(ua2.1 hF).p1
  have p4:=(ua2.1 hF).p4
  have hco:=ugE (n:=n) hF (show coOk n from⟨hn0,hn1⟩) hf
  have hbl:=unM hf
  have hb0:=(up7 hf).2
  have hbe:=fun (k:Nat) (hk:k<(beaL d).length)=>urH hf hk
  have hend:∀{k:Nat},k=(beaL d).length→∀p,uca n.toNat (beaL d) (beaL d).length k p=cosF d n p:=fun hk p=>by subst hk;rfl
  have c33:=upw d hf he
  have hbn:=usI he
  obtain⟨Lb,hLb⟩:∃L,L=beaL d:=⟨_,rfl⟩
  rw [←hLb]at hbl hb0 hbe hend hbn
  clear hLb
  refine ua0.is fun R hR=>qW (sc:=sc34) tyok mix Try.func34 rfl Try.call34 (by kernel_rfl) (by kernel_rfl) ?_
  generalize Try.prog=P at c16 c43 c33⊢
  cbv
  repeat' (first
      |with_reducible refine And.intro ?_ ?_
      |(with_reducible intro hcd;(try simp only [zA,zB,zC,zD,zE,zF,zG,zH,zI,zJ,zK,zL,zM,zN,zO,zP]at hcd);try cbv)
      | (refine qP ?_ (c16) ?hfit
         case hfit=>((repeat' (first|exact qB|refine qD ?_ ?_|exact qE (by rfl)|exact qF (by rfl)|exact Fit.refl _|exact qA|refine qC ?_ rfl ?_));done)
         try cbv)
      | (refine qP ?_ (c43 _ _ _) (by(repeat' (first|exact qB|refine qD ?_ ?_|exact qE (by rfl)|exact qF (by rfl)|exact Fit.refl _|exact qA|refine qC ?_ rfl ?_)))
         try cbv)
      | (refine qP ?_ (c33) ?hfit
         case hfit=>((repeat' (first|exact qB|refine qD ?_ ?_|exact qE (by rfl)|exact qF (by rfl)|exact Fit.refl _|exact qA|refine qC ?_ rfl ?_));done)
         try cbv)
      |fail)
  all_goals first
    |trivial
    |(exfalso;(try simp only [qV]at *);(try simp only [zQ,zA,zB,zC,zD,zE,zF,zG,zH,zI,zJ,zK,zL,zM,zN,zO,zP,zR,zS]at *);(try simp only [ual,uan,uaS,ub0,uaZ,ub1,uab,uad,uac,uaf]at *);omega)
    |skip
  refine⟨none,[⟨.tmp 7,3,1⟩],{k:Nat // k≤d.pn.toNat},fun x=>⟨[(1,(iv fun _=>n)),(2,.own 0 0),(7,.row 28),(35,(iv fun _=>d.pn)),(36,(iv fun _=>zi x.1))],[(0,.cells [(iS d.tw),(iS d.tm),(.sl 1 (.sym fun _=>zi (d.tv).length) (fun ix=>[(.sl 1 (.sym fun _=>zi ((d.tv).getD ix.den.toNat []).length) (fun jx=>[(iv fun _=>((d.tv).getD ix.den.toNat []).getD jx.den.toNat 0)]))])),(iv fun _=>d.sn),(iv fun _=>d.pn),(.sl 4 (.sym fun _=>zi (d.ls).length) (fun ix=>[(iv fun _=>((d.ls).getD ix.den.toNat l0T).a),(iv fun _=>((d.ls).getD ix.den.toNat l0T).b),(iv fun _=>((d.ls).getD ix.den.toNat l0T).lo),(iv fun _=>((d.ls).getD ix.den.toNat l0T).hi)])),(.sl 6 (.sym fun _=>zi (d.fs).length) (fun ix=>[(iv fun _=>((d.fs).getD ix.den.toNat f0T).p),(iv fun _=>((d.fs).getD ix.den.toNat f0T).s),(iv fun _=>((d.fs).getD ix.den.toNat f0T).wl),(iv fun _=>((d.fs).getD ix.den.toNat f0T).wh),(iv fun _=>((d.fs).getD ix.den.toNat f0T).ml),(iv fun _=>((d.fs).getD ix.den.toNat f0T).mh)]))] 41),(28,.row 3 1 (.sym fun _=>zi ((uaF x.1)).length) (fun ix=>[(iv fun _=>((uaF x.1)).getD ix.den.toNat 0)]))],100⟩,fun x=>d.pn.toNat-x.1,?_,?_⟩
  · refine⟨⟨0,by omega⟩,?_⟩
    cbv
    repeat' (first
      |with_reducible refine hold ?_ ?_
      |with_reducible refine And.intro ?_ ?_)
    all_goals first
      |trivial
      |exact qM (qE (by rfl))
      |exact qM (Fit.refl _)
      |exact qL (qK _)
      |(refine qL (uae ?_ ?_);(first|rfl|((try simp only [qV]at *);(try simp only [zQ,zA,zB,zC,zD,zE,zF,zG,zH,zI,zJ,zK,zL,zM,zN,zO,zP,zR,zS]at *);omega));intro ix h0 h1;exfalso;(try simp only [qV]at *);(try simp only [zQ,zA,zB,zC,zD,zE,zF,zG,zH,zI,zJ,zK,zL,zM,zN,zO,zP,zR,zS]at *);omega)
      |skip
  · rintro ⟨k,hk⟩
    cbv
    have hlen:=uhO k
    obtain⟨M,hM⟩:∃M,M=uaF k:=⟨_,rfl⟩
    have hx0:=uv4 k
    rw [←hM]at hlen hx0⊢
    cbv
    repeat' (first
        |with_reducible refine hold ?_ ?_
        |with_reducible refine And.intro ?_ ?_
        |(with_reducible intro hcd;(try simp only [zA,zB,zC,zD,zE,zF,zG,zH,zI,zJ,zK,zL,zM,zN,zO,zP]at hcd);try cbv)
        | (obtain⟨L2,eL2⟩:∃y:List Int,y=M++[zi k]:=⟨_,rfl⟩
           refine⟨ueb L2,?_⟩
           cbv
           refine hold (uak (L:=M) eL2 (by(first|rfl|((try simp only [qV]at *);(try simp only [zQ,zA,zB,zC,zD,zE,zF,zG,zH,zI,zJ,zK,zL,zM,zN,zO,zP,zR,zS]at *);done)|((try simp only [qV]at *);(try simp only [zQ,zA,zB,zC,zD,zE,zF,zG,zH,zI,zJ,zK,zL,zM,zN,zO,zP,zR,zS]at *);omega))) (by rfl) (fun ix=>Fit.refl _) (fun ix h=>qC (qE (by rfl)) rfl qA) (by(try simp only [qV]at *);(try simp only [zQ,zA,zB,zC,zD,zE,zF,zG,zH,zI,zJ,zK,zL,zM,zN,zO,zP,zR,zS]at *);omega)) (Or.inl ?_)
           try cbv)
        |fail)
    all_goals first
      |((try simp only [qV]at *);(try simp only [zQ,zA,zB,zC,zD,zE,zF,zG,zH,zI,zJ,zK,zL,zM,zN,zO,zP,zR,zS]at *);first|(refine qN ?_;omega)|(simp only [Hold];omega))
      |(unfold Hold;exact⟨show(0:Int)≤d.pn by omega,rfl,show d.pn*((1:Nat):Int)≤16777216 by omega,show d.pn*((8:Nat):Int)≤16777216 by omega,show d.pn≤16777216 by omega⟩)
      |((try simp only [zQ,zA,zB,zC,zD,zE,zF,zG,zH,zI,zJ,zK,zL,zM,zN,zO,zP,zR,zS]at *);(have hx:uaF (k+1)=L2:=hx0.trans eL2.symm);refine⟨⟨k+1,by((try simp only [qV]at *);(try simp only [zQ,zA,zB,zC,zD,zE,zF,zG,zH,zI,zJ,zK,zL,zM,zN,zO,zP,zR,zS]at *);omega)⟩,by simp only [];omega,?_⟩;cbv;(repeat' (first|with_reducible refine hold ?_ ?_|with_reducible refine And.intro ?_ ?_));(all_goals first|trivial|exact qM (qE (by rfl))|exact qM (qF (by rfl))|exact qM (Fit.refl _)|exact qL (qK _)|(refine qM (qE ?_);(try simp only [qV]at *);simp only [zQ,zA,zB,zC,zD,zE,zF,zG,zH,zI,zJ,zK,zL,zM,zN,zO,zP,zR,zS]at *;omega)|(refine qL (qJ ?_);(repeat' (first|exact qA|exact qB|refine qC ?_ rfl ?_|refine qD ?_ ?_|exact qE (by rfl)|exact qF (by rfl)|exact Fit.refl _|exact qG _|(refine qE ?_;(try simp only [qV]at *);simp only [zQ,zA,zB,zC,zD,zE,zF,zG,zH,zI,zJ,zK,zL,zM,zN,zO,zP,zR,zS]at *;omega)));done)|(simp only [hx];first|exact qL (qK _)|(refine qL (uae ?_ ?_)<;>first|rfl|(rw [eL2,List.length_append];rfl)|((try simp only [qV]at *);(try simp only [zQ,zA,zB,zC,zD,zE,zF,zG,zH,zI,zJ,zK,zL,zM,zN,zO,zP,zR,zS]at *);(try simp only [eL2,List.length_append,List.length_cons,List.length_nil]at *);omega)|(intro ix h0 h1;exact Fit.refl _)))|skip))
      |skip
    have hkP:k=d.pn.toNat:=(by((try simp only [qV]at *);(try simp only [zQ,zA,zB,zC,zD,zE,zF,zG,zH,zI,zJ,zK,zL,zM,zN,zO,zP,zR,zS]at *);omega))
    have hML:M=Lb:=by rw [hM,hkP,←hbn]
    rw [hML]
    refine⟨none,[],{k:Nat // k≤Lb.length},fun x=>⟨[(1,(iv fun _=>n)),(7,.row 28),(11,.row 103),(47,.row 28),(48,(iv fun _=>zi Lb.length)),(49,(iv fun _=>zi x.1))],[(0,.cells [(iS d.tw),(iS d.tm),(.sl 1 (.sym fun _=>zi (d.tv).length) (fun ix=>[(.sl 1 (.sym fun _=>zi ((d.tv).getD ix.den.toNat []).length) (fun jx=>[(iv fun _=>((d.tv).getD ix.den.toNat []).getD jx.den.toNat 0)]))])),(iv fun _=>d.sn),(iv fun _=>d.pn),(.sl 4 (.sym fun _=>zi (d.ls).length) (fun ix=>[(iv fun _=>((d.ls).getD ix.den.toNat l0T).a),(iv fun _=>((d.ls).getD ix.den.toNat l0T).b),(iv fun _=>((d.ls).getD ix.den.toNat l0T).lo),(iv fun _=>((d.ls).getD ix.den.toNat l0T).hi)])),(.sl 6 (.sym fun _=>zi (d.fs).length) (fun ix=>[(iv fun _=>((d.fs).getD ix.den.toNat f0T).p),(iv fun _=>((d.fs).getD ix.den.toNat f0T).s),(iv fun _=>((d.fs).getD ix.den.toNat f0T).wl),(iv fun _=>((d.fs).getD ix.den.toNat f0T).wh),(iv fun _=>((d.fs).getD ix.den.toNat f0T).ml),(iv fun _=>((d.fs).getD ix.den.toNat f0T).mh)]))] 41),(28,.row 3 1 (.sym fun _=>zi (Lb).length) (fun ix=>[(iv fun _=>(Lb).getD ix.den.toNat 0)])),(103,.row 3 1 (.sym fun _=>d.pn) (fun ix=>[(iv fun _=>(uca n.toNat Lb Lb.length x.1) ix.den.toNat)]))],300⟩,fun x=>Lb.length-x.1,?_,?_⟩
    · refine⟨⟨0,by omega⟩,?_⟩
      cbv
      repeat' (first
        |with_reducible refine hold ?_ ?_
        |with_reducible refine And.intro ?_ ?_)
      all_goals first
        |trivial
        |exact qM (qE (by rfl))
        |exact qM (Fit.refl _)
        |exact qL (qK _)
        |(refine qL (uae ?_ ?_)<;>first|rfl|((try simp only [qV]at *);(try simp only [zQ,zA,zB,zC,zD,zE,zF,zG,zH,zI,zJ,zK,zL,zM,zN,zO,zP,zR,zS]at *);omega)|(intro ix h0 h1;first|exact Fit.refl _|exact qC (qE rfl) rfl qA))
        |skip
    · rintro ⟨k,hk⟩
      cbv
      repeat' (first
          |with_reducible refine hold ?_ ?_
          |with_reducible refine And.intro ?_ ?_
          | (with_reducible refine qS ?_ ?_ ?_
             try cbv)
          | (with_reducible refine qT ?_ ?_
             try cbv)
          |(with_reducible intro hcd;(try simp only [zA,zB,zC,zD,zE,zF,zG,zH,zI,zJ,zK,zL,zM,zN,zO,zP]at hcd);try cbv)
          | ((have hk9:=hbe k (by((try simp only [qV]at *);(try simp only [zQ,zA,zB,zC,zD,zE,zF,zG,zH,zI,zJ,zK,zL,zM,zN,zO,zP,zR,zS]at *);omega)))
             refine⟨fun ix=>[(iv fun _=>(updN (uca n.toNat Lb Lb.length k) (Lb.getD k 0).toNat (n.tdiv (zi Lb.length))) ix.den.toNat)],?_⟩
             cbv
             refine hold (uaU (o2:=0) (x:=[_]) (by((try simp only [qV]at *);(try simp only [zQ,zA,zB,zC,zD,zE,zF,zG,zH,zI,zJ,zK,zL,zM,zN,zO,zP,zR,zS]at *);omega)) (by intro jx h0 h1 h2;refine qC (qE ?_) rfl qA;(try simp only [qV]at *);(try simp only [zQ,zA,zB,zC,zD,zE,zF,zG,zH,zI,zJ,zK,zL,zM,zN,zO,zP,zR,zS]at *);exact uin (by omega)) (by intro jx h0 h1 h2;refine⟨_,rfl,qC (qE ?_) rfl qA⟩;(try simp only [qV]at *);(try simp only [zQ,zA,zB,zC,zD,zE,zF,zG,zH,zI,zJ,zK,zL,zM,zN,zO,zP,zR,zS]at *);exact ufk (by omega))) ?_
             try cbv)
          | ((have hk9:=hbe k (by((try simp only [qV]at *);(try simp only [zQ,zA,zB,zC,zD,zE,zF,zG,zH,zI,zJ,zK,zL,zM,zN,zO,zP,zR,zS]at *);omega)))
             refine⟨fun ix=>[(iv fun _=>(updN (updN (uca n.toNat Lb Lb.length k) (Lb.getD k 0).toNat (n.tdiv (zi Lb.length))) (Lb.getD k 0).toNat ((updN (uca n.toNat Lb Lb.length k) (Lb.getD k 0).toNat (n.tdiv (zi Lb.length))) (Lb.getD k 0).toNat+1)) ix.den.toNat)],?_⟩
             cbv
             refine hold (uaU (o2:=0) (x:=[_]) (by((try simp only [qV]at *);(try simp only [zQ,zA,zB,zC,zD,zE,zF,zG,zH,zI,zJ,zK,zL,zM,zN,zO,zP,zR,zS]at *);omega)) (by intro jx h0 h1 h2;refine qC (qE ?_) rfl qA;(try simp only [qV]at *);(try simp only [zQ,zA,zB,zC,zD,zE,zF,zG,zH,zI,zJ,zK,zL,zM,zN,zO,zP,zR,zS]at *);exact uin (by omega)) (by intro jx h0 h1 h2;refine⟨_,rfl,qC (qE ?_) rfl qA⟩;(try simp only [qV]at *);(try simp only [zQ,zA,zB,zC,zD,zE,zF,zG,zH,zI,zJ,zK,zL,zM,zN,zO,zP,zR,zS]at *);exact urJ (by omega) (by omega))) ?_
             try cbv)
          |fail)
      all_goals first
        |trivial
        |((try simp only [qV]at *);(try simp only [zQ,zA,zB,zC,zD,zE,zF,zG,zH,zI,zJ,zK,zL,zM,zN,zO,zP,zR,zS]at *);first|(refine qN ?_;omega)|(simp only [Hold];omega))
        |((have hk9:=hbe k (by((try simp only [qV]at *);(try simp only [zQ,zA,zB,zC,zD,zE,zF,zG,zH,zI,zJ,zK,zL,zM,zN,zO,zP,zR,zS]at *);omega)));(try simp only [qV]at *);(try simp only [zQ,zA,zB,zC,zD,zE,zF,zG,zH,zI,zJ,zK,zL,zM,zN,zO,zP,zR,zS]at *);simp only [Hold];first|omega|exact⟨by omega,by omega⟩)
        |((have hk9:=hbe k (by((try simp only [qV]at *);(try simp only [zQ,zA,zB,zC,zD,zE,zF,zG,zH,zI,zJ,zK,zL,zM,zN,zO,zP,zR,zS]at *);omega)));(have hq9:=uro (m:=Lb.length) hn0 hn1);(try simp only [qV]at *);(try simp only [zQ,zA,zB,zC,zD,zE,zF,zG,zH,zI,zJ,zK,zL,zM,zN,zO,zP,zR,zS]at *);first|(refine qN ?_;omega)|(rw [←ufk (by omega)];refine qN ?_;omega))
        |((have hke:k=Lb.length:=(by((try simp only [qV]at *);(try simp only [zQ,zA,zB,zC,zD,zE,zF,zG,zH,zI,zJ,zK,zL,zM,zN,zO,zP,zR,zS]at *);omega)));subst hR;exact qD (ua1 hco.2.symm (fun ix h0 h1=>qC (qE (hend hke _)) rfl qA)) (qD (qE hco.1.symm) qB))
        |((try simp only [zQ,zA,zB,zC,zD,zE,zF,zG,zH,zI,zJ,zK,zL,zM,zN,zO,zP,zR,zS]at *);(have hk9:=hbe k (by((try simp only [qV]at *);(try simp only [zQ,zA,zB,zC,zD,zE,zF,zG,zH,zI,zJ,zK,zL,zM,zN,zO,zP,zR,zS]at *);omega)));(have hlo:¬(k:Int)<n.tmod (Lb.length:Int):=hcd);refine⟨⟨k+1,by((try simp only [qV]at *);(try simp only [zQ,zA,zB,zC,zD,zE,zF,zG,zH,zI,zJ,zK,zL,zM,zN,zO,zP,zR,zS]at *);omega)⟩,by simp only [];omega,?_⟩;cbv;(repeat' (first|with_reducible refine hold ?_ ?_|with_reducible refine And.intro ?_ ?_));(all_goals first|trivial|exact qM (qE (by rfl))|exact qM (qF (by rfl))|exact qM (Fit.refl _)|exact qL (qK _)|(refine qM (qE ?_);(try simp only [qV]at *);simp only [zQ,zA,zB,zC,zD,zE,zF,zG,zH,zI,zJ,zK,zL,zM,zN,zO,zP,zR,zS]at *;omega)|(refine qL (qJ ?_);(repeat' (first|exact qA|exact qB|refine qC ?_ rfl ?_|refine qD ?_ ?_|exact qE (by rfl)|exact qF (by rfl)|exact Fit.refl _|exact qG _|(refine qE ?_;(try simp only [qV]at *);simp only [zQ,zA,zB,zC,zD,zE,zF,zG,zH,zI,zJ,zK,zL,zM,zN,zO,zP,zR,zS]at *;omega)));done)|(refine qL (uae ?_ ?_)<;>first|rfl|(intro ix h0 h1;first|exact Fit.refl _|exact qC (qE (ui1 hn0 hk9.1 hlo)) rfl qA|exact qC (qE (uhA hn0 hk9.1 hhi rfl)) rfl qA))|skip))
        |((try simp only [zQ,zA,zB,zC,zD,zE,zF,zG,zH,zI,zJ,zK,zL,zM,zN,zO,zP,zR,zS]at *);(have hk9:=hbe k (by((try simp only [qV]at *);(try simp only [zQ,zA,zB,zC,zD,zE,zF,zG,zH,zI,zJ,zK,zL,zM,zN,zO,zP,zR,zS]at *);omega)));(have hhi:(k:Int)<n.tmod (Lb.length:Int):=hcd);refine⟨⟨k+1,by((try simp only [qV]at *);(try simp only [zQ,zA,zB,zC,zD,zE,zF,zG,zH,zI,zJ,zK,zL,zM,zN,zO,zP,zR,zS]at *);omega)⟩,by simp only [];omega,?_⟩;cbv;(repeat' (first|with_reducible refine hold ?_ ?_|with_reducible refine And.intro ?_ ?_));(all_goals first|trivial|exact qM (qE (by rfl))|exact qM (qF (by rfl))|exact qM (Fit.refl _)|exact qL (qK _)|(refine qM (qE ?_);(try simp only [qV]at *);simp only [zQ,zA,zB,zC,zD,zE,zF,zG,zH,zI,zJ,zK,zL,zM,zN,zO,zP,zR,zS]at *;omega)|(refine qL (qJ ?_);(repeat' (first|exact qA|exact qB|refine qC ?_ rfl ?_|refine qD ?_ ?_|exact qE (by rfl)|exact qF (by rfl)|exact Fit.refl _|exact qG _|(refine qE ?_;(try simp only [qV]at *);simp only [zQ,zA,zB,zC,zD,zE,zF,zG,zH,zI,zJ,zK,zL,zM,zN,zO,zP,zR,zS]at *;omega)));done)|(refine qL (uae ?_ ?_)<;>first|rfl|(intro ix h0 h1;first|exact Fit.refl _|exact qC (qE (ui1 hn0 hk9.1 hlo)) rfl qA|exact qC (qE (uhA hn0 hk9.1 hhi rfl)) rfl qA))|skip))
        |skip
set_option maxHeartbeats 2000000 in
theorem uql (d:Dsp)(n:Int)(h:coE d n=0)(he:mstL d≠[]):ua0 Try.prog 34 [(dspS d),(iv fun _=>n)] [] (fun r _=>r=(.tup [(.sl 1 (.sym fun _=>coN d n) (fun ix=>[(iv fun _=>cosF d n ix.den.toNat)])),(iv fun _=>coE d n)])):=by
  have c16:=ucV d
  have c43:= @ude
  have hf:=(uhc h).1
  have hn0:=(uhc h).2.1
  have hn1:=(uhc h).2.2
  have hF:=(uau hf).1
  have p1:=(ua2.1 hF).p1
  have p4:=(ua2.1 hF).p4
  have hco:=ugE (n:=n) hF (show coOk n from⟨hn0,hn1⟩) hf
  have hbl:=unM hf
  have hb0:=(up7 hf).2
  have hbe:=fun (k:Nat) (hk:k<(beaL d).length)=>urH hf hk
  have hend:∀{k:Nat},k=(beaL d).length→∀p,uca n.toNat (beaL d) (beaL d).length k p=cosF d n p:=fun hk p=>by subst hk;rfl
  have c33:=ukn d
  have hbn:=uuQ he
  rw [←hbn]at c33
  obtain⟨Lb,hLb⟩:∃L,L=beaL d:=⟨_,rfl⟩
  rw [←hLb]at hbl hb0 hbe hend c33
  clear hLb hbn
  refine ua0.is fun R hR=>qW (sc:=sc34) tyok mix Try.func34 rfl Try.call34 (by kernel_rfl) (by kernel_rfl) ?_
  generalize Try.prog=P at c16 c43 c33⊢
  cbv
  repeat' (first
      |with_reducible refine hold ?_ ?_
      |with_reducible refine And.intro ?_ ?_
      |(with_reducible intro hcd;(try simp only [zA,zB,zC,zD,zE,zF,zG,zH,zI,zJ,zK,zL,zM,zN,zO,zP]at hcd);try cbv)
      | (refine qP ?_ (c16) ?hfit
         case hfit=>((repeat' (first|exact qB|refine qD ?_ ?_|exact qE (by rfl)|exact qF (by rfl)|exact Fit.refl _|exact qA|refine qC ?_ rfl ?_));done)
         try cbv)
      | (refine qP ?_ (c43 _ _ _) (by(repeat' (first|exact qB|refine qD ?_ ?_|exact qE (by rfl)|exact qF (by rfl)|exact Fit.refl _|exact qA|refine qC ?_ rfl ?_)))
         try cbv)
      | (refine qP ?_ (c33) ?hfit
         case hfit=>((repeat' (first|exact qB|refine qD ?_ ?_|exact qE (by rfl)|exact qF (by rfl)|exact Fit.refl _|exact qA|refine qC ?_ rfl ?_));done)
         try cbv)
      |fail)
  all_goals first
    |trivial
    |(unfold Hold;exact⟨show(0:Int)≤d.pn by omega,rfl,show d.pn*((1:Nat):Int)≤16777216 by omega,show d.pn*((8:Nat):Int)≤16777216 by omega,show d.pn≤16777216 by omega⟩)
    |(exfalso;(try simp only [qV]at *);(try simp only [zQ,zA,zB,zC,zD,zE,zF,zG,zH,zI,zJ,zK,zL,zM,zN,zO,zP,zR,zS]at *);omega)
    |(exfalso;(try simp only [qV]at *);(try simp only [zQ,zA,zB,zC,zD,zE,zF,zG,zH,zI,zJ,zK,zL,zM,zN,zO,zP,zR,zS]at *);(try simp only [ual,uan,uaS,ub0,uaZ,ub1,uab,uad,uac,uaf]at *);omega)
    |skip
  refine⟨none,[],{k:Nat // k≤Lb.length},fun x=>⟨[(1,(iv fun _=>n)),(7,(iS Lb)),(11,.row 27),(47,(iS Lb)),(48,(iv fun _=>zi Lb.length)),(49,(iv fun _=>zi x.1))],[(0,.cells [(iS d.tw),(iS d.tm),(.sl 1 (.sym fun _=>zi (d.tv).length) (fun ix=>[(.sl 1 (.sym fun _=>zi ((d.tv).getD ix.den.toNat []).length) (fun jx=>[(iv fun _=>((d.tv).getD ix.den.toNat []).getD jx.den.toNat 0)]))])),(iv fun _=>d.sn),(iv fun _=>d.pn),(.sl 4 (.sym fun _=>zi (d.ls).length) (fun ix=>[(iv fun _=>((d.ls).getD ix.den.toNat l0T).a),(iv fun _=>((d.ls).getD ix.den.toNat l0T).b),(iv fun _=>((d.ls).getD ix.den.toNat l0T).lo),(iv fun _=>((d.ls).getD ix.den.toNat l0T).hi)])),(.sl 6 (.sym fun _=>zi (d.fs).length) (fun ix=>[(iv fun _=>((d.fs).getD ix.den.toNat f0T).p),(iv fun _=>((d.fs).getD ix.den.toNat f0T).s),(iv fun _=>((d.fs).getD ix.den.toNat f0T).wl),(iv fun _=>((d.fs).getD ix.den.toNat f0T).wh),(iv fun _=>((d.fs).getD ix.den.toNat f0T).ml),(iv fun _=>((d.fs).getD ix.den.toNat f0T).mh)]))] 41),(27,.row 3 1 (.sym fun _=>d.pn) (fun ix=>[(iv fun _=>(uca n.toNat Lb Lb.length x.1) ix.den.toNat)]))],300⟩,fun x=>Lb.length-x.1,?_,?_⟩
  · refine⟨⟨0,by omega⟩,?_⟩
    cbv
    repeat' (first
      |with_reducible refine hold ?_ ?_
      |with_reducible refine And.intro ?_ ?_)
    all_goals first
      |trivial
      |exact qM (qE (by rfl))
      |exact qM (Fit.refl _)
      |exact qL (qK _)
      |(refine qL (uae ?_ ?_)<;>first|rfl|((try simp only [qV]at *);(try simp only [zQ,zA,zB,zC,zD,zE,zF,zG,zH,zI,zJ,zK,zL,zM,zN,zO,zP,zR,zS]at *);omega)|(intro ix h0 h1;first|exact Fit.refl _|exact qC (qE rfl) rfl qA))
      |skip
  · rintro ⟨k,hk⟩
    cbv
    repeat' (first
        |with_reducible refine hold ?_ ?_
        |with_reducible refine And.intro ?_ ?_
        | (with_reducible refine qS ?_ ?_ ?_
           try cbv)
        | (with_reducible refine qT ?_ ?_
           try cbv)
        |(with_reducible intro hcd;(try simp only [zA,zB,zC,zD,zE,zF,zG,zH,zI,zJ,zK,zL,zM,zN,zO,zP]at hcd);try cbv)
        | ((have hk9:=hbe k (by((try simp only [qV]at *);(try simp only [zQ,zA,zB,zC,zD,zE,zF,zG,zH,zI,zJ,zK,zL,zM,zN,zO,zP,zR,zS]at *);omega)))
           refine⟨fun ix=>[(iv fun _=>(updN (uca n.toNat Lb Lb.length k) (Lb.getD k 0).toNat (n.tdiv (zi Lb.length))) ix.den.toNat)],?_⟩
           cbv
           refine hold (uaU (o2:=0) (x:=[_]) (by((try simp only [qV]at *);(try simp only [zQ,zA,zB,zC,zD,zE,zF,zG,zH,zI,zJ,zK,zL,zM,zN,zO,zP,zR,zS]at *);omega)) (by intro jx h0 h1 h2;refine qC (qE ?_) rfl qA;(try simp only [qV]at *);(try simp only [zQ,zA,zB,zC,zD,zE,zF,zG,zH,zI,zJ,zK,zL,zM,zN,zO,zP,zR,zS]at *);exact uin (by omega)) (by intro jx h0 h1 h2;refine⟨_,rfl,qC (qE ?_) rfl qA⟩;(try simp only [qV]at *);(try simp only [zQ,zA,zB,zC,zD,zE,zF,zG,zH,zI,zJ,zK,zL,zM,zN,zO,zP,zR,zS]at *);exact ufk (by omega))) ?_
           try cbv)
        | ((have hk9:=hbe k (by((try simp only [qV]at *);(try simp only [zQ,zA,zB,zC,zD,zE,zF,zG,zH,zI,zJ,zK,zL,zM,zN,zO,zP,zR,zS]at *);omega)))
           refine⟨fun ix=>[(iv fun _=>(updN (updN (uca n.toNat Lb Lb.length k) (Lb.getD k 0).toNat (n.tdiv (zi Lb.length))) (Lb.getD k 0).toNat ((updN (uca n.toNat Lb Lb.length k) (Lb.getD k 0).toNat (n.tdiv (zi Lb.length))) (Lb.getD k 0).toNat+1)) ix.den.toNat)],?_⟩
           cbv
           refine hold (uaU (o2:=0) (x:=[_]) (by((try simp only [qV]at *);(try simp only [zQ,zA,zB,zC,zD,zE,zF,zG,zH,zI,zJ,zK,zL,zM,zN,zO,zP,zR,zS]at *);omega)) (by intro jx h0 h1 h2;refine qC (qE ?_) rfl qA;(try simp only [qV]at *);(try simp only [zQ,zA,zB,zC,zD,zE,zF,zG,zH,zI,zJ,zK,zL,zM,zN,zO,zP,zR,zS]at *);exact uin (by omega)) (by intro jx h0 h1 h2;refine⟨_,rfl,qC (qE ?_) rfl qA⟩;(try simp only [qV]at *);(try simp only [zQ,zA,zB,zC,zD,zE,zF,zG,zH,zI,zJ,zK,zL,zM,zN,zO,zP,zR,zS]at *);exact urJ (by omega) (by omega))) ?_
           try cbv)
        |fail)
    all_goals first
      |trivial
      |((try simp only [qV]at *);(try simp only [zQ,zA,zB,zC,zD,zE,zF,zG,zH,zI,zJ,zK,zL,zM,zN,zO,zP,zR,zS]at *);first|(refine qN ?_;omega)|(simp only [Hold];omega))
      |((have hk9:=hbe k (by((try simp only [qV]at *);(try simp only [zQ,zA,zB,zC,zD,zE,zF,zG,zH,zI,zJ,zK,zL,zM,zN,zO,zP,zR,zS]at *);omega)));(try simp only [qV]at *);(try simp only [zQ,zA,zB,zC,zD,zE,zF,zG,zH,zI,zJ,zK,zL,zM,zN,zO,zP,zR,zS]at *);simp only [Hold];first|omega|exact⟨by omega,by omega⟩)
      |((have hk9:=hbe k (by((try simp only [qV]at *);(try simp only [zQ,zA,zB,zC,zD,zE,zF,zG,zH,zI,zJ,zK,zL,zM,zN,zO,zP,zR,zS]at *);omega)));(have hq9:=uro (m:=Lb.length) hn0 hn1);(try simp only [qV]at *);(try simp only [zQ,zA,zB,zC,zD,zE,zF,zG,zH,zI,zJ,zK,zL,zM,zN,zO,zP,zR,zS]at *);first|(refine qN ?_;omega)|(rw [←ufk (by omega)];refine qN ?_;omega))
      |((have hke:k=Lb.length:=(by((try simp only [qV]at *);(try simp only [zQ,zA,zB,zC,zD,zE,zF,zG,zH,zI,zJ,zK,zL,zM,zN,zO,zP,zR,zS]at *);omega)));subst hR;exact qD (ua1 hco.2.symm (fun ix h0 h1=>qC (qE (hend hke _)) rfl qA)) (qD (qE hco.1.symm) qB))
      |((try simp only [zQ,zA,zB,zC,zD,zE,zF,zG,zH,zI,zJ,zK,zL,zM,zN,zO,zP,zR,zS]at *);(have hk9:=hbe k (by((try simp only [qV]at *);(try simp only [zQ,zA,zB,zC,zD,zE,zF,zG,zH,zI,zJ,zK,zL,zM,zN,zO,zP,zR,zS]at *);omega)));(have hlo:¬(k:Int)<n.tmod (Lb.length:Int):=hcd);refine⟨⟨k+1,by((try simp only [qV]at *);(try simp only [zQ,zA,zB,zC,zD,zE,zF,zG,zH,zI,zJ,zK,zL,zM,zN,zO,zP,zR,zS]at *);omega)⟩,by simp only [];omega,?_⟩;cbv;(repeat' (first|with_reducible refine hold ?_ ?_|with_reducible refine And.intro ?_ ?_));(all_goals first|trivial|exact qM (qE (by rfl))|exact qM (qF (by rfl))|exact qM (Fit.refl _)|exact qL (qK _)|(refine qM (qE ?_);(try simp only [qV]at *);simp only [zQ,zA,zB,zC,zD,zE,zF,zG,zH,zI,zJ,zK,zL,zM,zN,zO,zP,zR,zS]at *;omega)|(refine qL (qJ ?_);(repeat' (first|exact qA|exact qB|refine qC ?_ rfl ?_|refine qD ?_ ?_|exact qE (by rfl)|exact qF (by rfl)|exact Fit.refl _|exact qG _|(refine qE ?_;(try simp only [qV]at *);simp only [zQ,zA,zB,zC,zD,zE,zF,zG,zH,zI,zJ,zK,zL,zM,zN,zO,zP,zR,zS]at *;omega)));done)|(refine qL (uae ?_ ?_)<;>first|rfl|(intro ix h0 h1;first|exact Fit.refl _|exact qC (qE (ui1 hn0 hk9.1 hlo)) rfl qA|exact qC (qE (uhA hn0 hk9.1 hhi rfl)) rfl qA))|skip))
      |((try simp only [zQ,zA,zB,zC,zD,zE,zF,zG,zH,zI,zJ,zK,zL,zM,zN,zO,zP,zR,zS]at *);(have hk9:=hbe k (by((try simp only [qV]at *);(try simp only [zQ,zA,zB,zC,zD,zE,zF,zG,zH,zI,zJ,zK,zL,zM,zN,zO,zP,zR,zS]at *);omega)));(have hhi:(k:Int)<n.tmod (Lb.length:Int):=hcd);refine⟨⟨k+1,by((try simp only [qV]at *);(try simp only [zQ,zA,zB,zC,zD,zE,zF,zG,zH,zI,zJ,zK,zL,zM,zN,zO,zP,zR,zS]at *);omega)⟩,by simp only [];omega,?_⟩;cbv;(repeat' (first|with_reducible refine hold ?_ ?_|with_reducible refine And.intro ?_ ?_));(all_goals first|trivial|exact qM (qE (by rfl))|exact qM (qF (by rfl))|exact qM (Fit.refl _)|exact qL (qK _)|(refine qM (qE ?_);(try simp only [qV]at *);simp only [zQ,zA,zB,zC,zD,zE,zF,zG,zH,zI,zJ,zK,zL,zM,zN,zO,zP,zR,zS]at *;omega)|(refine qL (qJ ?_);(repeat' (first|exact qA|exact qB|refine qC ?_ rfl ?_|refine qD ?_ ?_|exact qE (by rfl)|exact qF (by rfl)|exact Fit.refl _|exact qG _|(refine qE ?_;(try simp only [qV]at *);simp only [zQ,zA,zB,zC,zD,zE,zF,zG,zH,zI,zJ,zK,zL,zM,zN,zO,zP,zR,zS]at *;omega)));done)|(refine qL (uae ?_ ?_)<;>first|rfl|(intro ix h0 h1;first|exact Fit.refl _|exact qC (qE (ui1 hn0 hk9.1 hlo)) rfl qA|exact qC (qE (uhA hn0 hk9.1 hhi rfl)) rfl qA))|skip))
      |skip
theorem unZ (d:Dsp)(n:Int):ua0 Try.prog 34 [(dspS d),(iv fun _=>n)] [] (fun r _=>r=(.tup [(.sl 1 (.sym fun _=>coN d n) (fun ix=>[(iv fun _=>cosF d n ix.den.toNat)])),(iv fun _=>coE d n)])):=by
  by_cases h:coE d n=0
  · by_cases he:mstL d=[]
    · exact ur6 d n h he
    · exact uql d n h he
  · exact uqR d n h
end Go.Proofs.Ytkdggbfknlcdaaa
namespace Go.Proofs.Ytkdggbfknlcdaaa
open Go Go.Eng Go.Eng.Dif Go.Eng.Few
def d3 :Dsp:=⟨[10,14,20],[0,10,20],[[100,140,200],[90,131,192],[80,120,170]],2,3,[⟨0,1,-3,0⟩],[⟨0,0,12,12,5,6⟩,⟨1,0,14,14,2,3⟩,⟨2,1,10,10,4,4⟩]⟩
def d2 :Dsp:=⟨[10,14,20],[0,10,20],[[100,140,200],[90,131,192],[80,120,170]],2,3,[⟨0,1,-3,0⟩],[⟨0,0,12,12,5,6⟩,⟨2,1,10,10,4,4⟩]⟩
theorem uiM :ua7 d3=0:=by decide +kernel
theorem ul5 :ua7 d2=0:=by decide +kernel
theorem uhr :mLo d3 ⟨0,0,12,12,5,6⟩=115∧mHi d3 ⟨0,0,12,12,5,6⟩=119:=by decide +kernel
theorem urk :mLo d3 ⟨1,0,14,14,2,3⟩=98∧mHi d3 ⟨1,0,14,14,2,3⟩=102:=by decide +kernel
theorem uln :mLo d3 ⟨2,1,10,10,4,4⟩=116∧mHi d3 ⟨2,1,10,10,4,4⟩=116:=by decide +kernel
theorem FO3 :FO d3 d3.fs=xF3:=by
  have e:FO d3 d3.fs=[⟨0,mLo d3 ⟨0,0,12,12,5,6⟩,mHi d3 ⟨0,0,12,12,5,6⟩⟩,⟨0,mLo d3 ⟨1,0,14,14,2,3⟩,mHi d3 ⟨1,0,14,14,2,3⟩⟩,⟨1,mLo d3 ⟨2,1,10,10,4,4⟩,mHi d3 ⟨2,1,10,10,4,4⟩⟩]:=rfl
  rw [e,uhr.1,uhr.2,urk.1,urk.2,uln.1,uln.2]
  rfl
theorem FO2 :FO d2 d2.fs=xF2:=by
  have e:FO d2 d2.fs=[⟨0,mLo d3 ⟨0,0,12,12,5,6⟩,mHi d3 ⟨0,0,12,12,5,6⟩⟩,⟨1,mLo d3 ⟨2,1,10,10,4,4⟩,mHi d3 ⟨2,1,10,10,4,4⟩⟩]:=rfl
  rw [e,uhr.1,uhr.2,uln.1,uln.2]
  rfl
theorem dok3 :DOk d3:=ua2.1 uiM
theorem dok2 :DOk d2:=ua2.1 ul5
theorem uuh :ucK d3=true:=uqP
theorem utY :ucK d2=true:=uqP
theorem ugO :ua4 d3=0:=ud6 uiM uuh
theorem uuf :ua4 d2=0:=ud6 ul5 utY
theorem uoe :ufg d3 0=0∧uiN d3 0=115∧ujF d3 0=119:=by
  have h:=uit (d:=d3) (n:=0) uiM (by decide)
  exact⟨h.1,h.2.1.trans uhr.1,h.2.2.trans uhr.2⟩
theorem fir3 :firO d3=some 1:=by
  unfold firO
  rw [FO3]
  exact uvv
theorem uv8 :firE d3=0∧firV d3=1:=uiw ugO fir3
theorem lea3 :leaL d3=[1]:=by
  unfold leaL
  rw [if_pos ugO,ufu,FO3]
  exact uvi
theorem ulk {S:Nat} {ls:List Lk} {fs:List Fa}(h:Okk S ls fs) {p q:Nat→Int}(e:∀i,i<fs.length→p i=q i):okP S ls fs p=okP S ls fs q:=by
  funext o
  unfold okP
  exact ujk h fun i hi=>by unfold outP;rw [e i hi]
theorem us5 :okPa d3=okP 2 xL3 xF3 xP3:=by
  rw [ukv dok3,FO3]
  refine ulk xok3 fun i hi=> ?_
  have hi:i<3:=hi
  rcases(show i=0∨i=1∨i=2 by omega)with e|e|e<;>subst e<;>rfl
theorem uvM :okPa d2=okP 2 xL3 xF2 xP2:=by
  rw [ukv dok2,FO2]
  refine ulk xok2 fun i hi=> ?_
  have hi:i<2:=hi
  rcases(show i=0∨i=1 by omega)with e|e<;>subst e<;>rfl
theorem bel3 :belL d3=[1]:=by
  unfold belL
  rw [if_pos ugO,us5]
  exact utw.1
theorem mst3 :mstL d3=[1]:=by
  unfold mstL mstF
  rw [if_pos ugO,us5]
  exact utw.2.1
theorem may3 :mayL d3=[1]:=by
  unfold mayL mayF
  rw [if_pos ugO,us5]
  exact utw.2.2
theorem mst2 :mstL d2=[]:=by
  unfold mstL mstF
  rw [if_pos uuf,uvM]
  exact uw9.2.2.1
theorem can2 :canT d2 d2.fs []=true:=by
  rw [udR,FO2]
  exact xbd2.1
theorem bnd2 :bndE d2=0∧bndN d2=2:=ucf ul5 can2
theorem udB (d:Dsp)(s:Nat):loT d [] s=loD (SN d) (LO d) (FO d d.fs) s∧hiT d [] s=hiD (SN d) (LO d) (FO d d.fs) s:=by
  unfold loT hiT matO
  rw [ulx]
  exact⟨rfl,rfl⟩
theorem bd2 :(loT d2 [] 0=116∧hiT d2 [] 0=119)∧loT d2 [] 1=116∧hiT d2 [] 1=116:=by
  rw [(udB d2 0).1,(udB d2 0).2,(udB d2 1).1,(udB d2 1).2,FO2]
  exact⟨⟨xbd2.2.1,xbd2.2.2.1⟩,xbd2.2.2.2.1,xbd2.2.2.2.2⟩
theorem urp (d:Dsp)(o:List Int)(s:Nat):loT d o s=loD (SN d) (LO d) (kpN (FO d d.fs) (outL o) d.fs.length) s∧hiT d o s=hiD (SN d) (LO d) (kpN (FO d d.fs) (outL o) d.fs.length) s:=by
  unfold loT hiT matO ubO
  rw [uuZ (Nat.le_refl _)]
  exact⟨rfl,rfl⟩
theorem bd3 :loT d3 [1] 0=116∧hiT d3 [1] 0=119:=by
  have e:kpN (FO d3 d3.fs) (outL [1]) d3.fs.length=xF2:=by rw [FO3];exact xkp3
  rw [(urp d3 [1] 0).1,(urp d3 [1] 0).2,e]
  exact⟨xbd2.2.1,xbd2.2.2.1⟩
theorem ch3 :chE d3 0 1000=0∧chL d3 0 1000=116∧chH d3 0 1000=119:=by
  have h:=uoL (d:=d3) (s:=0) (g:=1000) uiM (by decide) ugO
  rw [lea3]at h
  refine⟨h.1,h.2.1.trans ?_,h.2.2.trans ?_⟩
  · show(1000*loT d3 [1] 0).tdiv 1000=116
    rw [bd3.1];rfl
  · show(1000*hiT d3 [1] 0).tdiv 1000=119
    rw [bd3.2];rfl
theorem co3 :coE d3 100=0∧coN d3 100=3:=ugE uiM (by decide) ugO
theorem co2 :coE d2 100=0∧coN d2 100=3:=ugE ul5 (by decide) uuf
theorem cos3 :cosF d3 100 0=0∧cosF d3 100 1=100∧cosF d3 100 2=0:=by
  have e:beaL d3=[1]:=by unfold beaL;rw [mst3];rfl
  unfold cosF
  rw [e]
  exact uum
theorem cos2 :cosF d2 100 0=34∧cosF d2 100 1=33∧cosF d2 100 2=33:=by
  have e:beaL d2=[0,1,2]:=by unfold beaL;rw [mst2];rfl
  unfold cosF
  rw [e]
  exact uux
end Go.Proofs.Ytkdggbfknlcdaaa
namespace Go.Proofs.Ytkdggbfknlcdaaa
open Go Go.Eng Go.Proofs Go.Eng.Dif Go.Eng.Few
set_option maxRecDepth 10000
theorem usC {p:Nat→Bool} {n i:Nat}(hi:i<n)(h:p i=false):allB p n=false:=by
  rw [uan]
  intro q
  rw [q i hi]at h;cases h
theorem upJ {p:Nat→Bool} {n:Nat}(h:∀i,i<n→p i=true):allB p n=true:=by rw [ual];exact h
def eqI (na:Nat)(fa:Nat→Int)(nb:Nat)(fb:Nat→Int):Bool:=decide (na=nb)&&allB (fun i=>decide (fa i=fb i)) na
theorem ut7 {na nb:Nat} {fa fb:Nat→Int}(h:¬na=nb):eqI na fa nb fb=false:=by unfold eqI;rw [decide_eq_false h];rfl
theorem utM {na nb:Nat} {fa fb:Nat→Int} {i:Nat}(hi:i<na)(h:¬fa i=fb i):eqI na fa nb fb=false:=by
  unfold eqI
  rw [usC (i:=i) hi (decide_eq_false h)];simp
theorem ugF {na nb:Nat} {fa fb:Nat→Int}(h:na=nb)(h':∀i,i<na→fa i=fb i):eqI na fa nb fb=true:=by
  unfold eqI
  rw [decide_eq_true h,upJ fun i hi=>decide_eq_true (h' i hi)];rfl
theorem unc {a b c d:Int}(h:decide (dens [.sym fun _=>a,.sym fun _=>b]=dens [.sym fun _=>c,.sym fun _=>d])=false):¬(a=c∧b=d):=by
  rw [decide_eq_false_iff_not]at h;simpa only [dens,uaY,List.cons.injEq,and_true]using h
theorem uj8 :EqOk Try.prog 33 2:=upg (by kernel_rfl)
theorem ukc {m b:Int} {c:List SV} {new e':IX→List SV}(h0:∀jx:IX,jx.den=0→Fit (.agg c) (.agg (e' jx)))(h1:∀ix jx:IX,0≤ix.den→ix.den<m→jx.den=1+ix.den→Fit (.agg (new ix)) (.agg (e' jx)))(hb:0<m∧(1+m)*b≤140737488355328):
    Hold (udx 1 (fun _=>c) m new e'∧0<m∧(1+m)*b≤140737488355328):=
  ⟨⟨fun μ ν ix v i0 i1 q jx hj=>(h0 jx (by omega)).le _ _ _ q,fun μ ν ix v i0 i1 q jx hj=>(h1 ix jx i0 i1 hj).le _ _ _ q⟩,hb⟩
theorem ugf (a b:Int):ua0 Try.prog 40 [(iv fun _=>a),(iv fun _=>b)] [] (fun r _=>r=(.agg [(iv fun _=>a),(iv fun _=>b)])):=by
  refine ua0.is fun R hR=>qW (sc:=sc40) tyok mix Try.func40 rfl Try.call40 (by kernel_rfl) (by kernel_rfl) ?_
  generalize Try.prog=P
  cbv
  repeat' (first
      |fail)
  all_goals first
    |(subst hR;(repeat' (first|exact qA|exact qB|refine qC ?_ rfl ?_|refine qD ?_ ?_|exact qE (by rfl)|exact qF (by rfl)|exact Fit.refl _|exact qG _|(refine qE ?_;(try simp only [qV]at *);simp only [zQ,zA,zB,zC,zD,zE,zF,zG,zH,zI,zJ,zK,zL,zM,zN,zO,zP,zR,zS]at *;omega)));done)
    |skip
theorem to18 (a b:Int):ua0 Try.prog 18 [(.agg [(iv fun _=>a),(iv fun _=>b)])] [] (fun r _=>r=(.agg [(iv fun _=>a),(iv fun _=>b)])):=by
  refine ua0.is fun R hR=>qW (sc:=sc18) tyok mix Try.func18 rfl Try.call18 (by kernel_rfl) (by kernel_rfl) ?_
  generalize Try.prog=P
  cbv
  repeat' (first
      |fail)
  all_goals first
    |(subst hR;(repeat' (first|exact qA|exact qB|refine qC ?_ rfl ?_|refine qD ?_ ?_|exact qE (by rfl)|exact qF (by rfl)|exact Fit.refl _|exact qG _|(refine qE ?_;(try simp only [qV]at *);simp only [zQ,zA,zB,zC,zD,zE,zF,zG,zH,zI,zJ,zK,zL,zM,zN,zO,zP,zR,zS]at *;omega)));done)
    |skip
theorem uge (na nb:Nat)(fa fb:Nat→Int)(ha:na≤1000)(hb:nb≤1000):ua0 Try.prog 26 [(.sl 1 (.sym fun _=>zi na) (fun ix=>[(iv fun _=>fa ix.den.toNat)])),(.sl 1 (.sym fun _=>zi nb) (fun ix=>[(iv fun _=>fb ix.den.toNat)]))] [] (fun r _=>r=(.bool (.sym fun _=>eqI na fa nb fb))):=by
  refine ua0.is fun R hR=>qW (sc:=sc26) tyok mix Try.func26 rfl Try.call26 (by kernel_rfl) (by kernel_rfl) ?_
  generalize Try.prog=P
  cbv
  repeat' (first
      |with_reducible refine And.intro ?_ ?_
      |(with_reducible intro hcd;(try simp only [zA,zB,zC,zD,zE,zF,zG,zH,zI,zJ,zK,zL,zM,zN,zO,zP]at hcd);try cbv)
      |fail)
  all_goals first
    |(subst hR;(refine qF ?_;(try simp only [qV]at *);(try simp only [zQ,zA,zB,zC,zD,zE,zF,zG,zH,zI,zJ,zK,zL,zM,zN,zO,zP,zR,zS]at *);exact(ut7 (by omega)).symm);done)
    |skip
  refine⟨none,[],{i:Nat // i≤na∧∀j,j<i→fa j=fb j},fun x=>⟨[(0,(.sl 1 (.sym fun _=>zi na) (fun ix=>[(iv fun _=>fa ix.den.toNat)]))),(1,(.sl 1 (.sym fun _=>zi nb) (fun ix=>[(iv fun _=>fb ix.den.toNat)]))),(5,(iv fun _=>zi x.1))],[],40⟩,fun x=>na-x.1,?_,?_⟩
  · refine⟨⟨0,by omega,fun j hj=>by omega⟩,?_⟩
    cbv
    repeat' (first
      |with_reducible refine hold ?_ ?_
      |with_reducible refine And.intro ?_ ?_)
    all_goals first
      |trivial
      |exact qM (qE (by rfl))
      |exact qM (Fit.refl _)
      |skip
  · rintro⟨i,hi,hq⟩
    cbv
    repeat' (first
        |with_reducible refine hold ?_ ?_
        |with_reducible refine And.intro ?_ ?_
        |(with_reducible intro hcd;(try simp only [zA,zB,zC,zD,zE,zF,zG,zH,zI,zJ,zK,zL,zM,zN,zO,zP]at hcd);try cbv)
        |fail)
    all_goals first
      |((try simp only [qV]at *);(try simp only [zQ,zA,zB,zC,zD,zE,zF,zG,zH,zI,zJ,zK,zL,zM,zN,zO,zP,zR,zS]at *);first|(refine qN ?_;omega)|(simp only [Hold];omega))
      |(subst hR;(refine qF ?_;(try simp only [qV]at *);(try simp only [zQ,zA,zB,zC,zD,zE,zF,zG,zH,zI,zJ,zK,zL,zM,zN,zO,zP,zR,zS]at *);exact(utM (i:=i) (by omega) (by assumption)).symm);done)
      |(subst hR;(refine qF ?_;(try simp only [qV]at *);(try simp only [zQ,zA,zB,zC,zD,zE,zF,zG,zH,zI,zJ,zK,zL,zM,zN,zO,zP,zR,zS]at *);exact(ugF (by omega) fun j hj=>hq j (by omega)).symm);done)
      |((try simp only [zQ,zA,zB,zC,zD,zE,zF,zG,zH,zI,zJ,zK,zL,zM,zN,zO,zP,zR,zS]at *);refine⟨⟨i+1,by omega,fun j hj=>(Nat.lt_or_ge j i).elim (hq j) fun q=>by rw [show j=i by omega];first|assumption|omega⟩,by simp only [];omega,?_⟩;cbv;(repeat' (first|with_reducible refine hold ?_ ?_|with_reducible refine And.intro ?_ ?_));(all_goals first|trivial|exact qM (qE (by rfl))|exact qM (qF (by rfl))|exact qM (Fit.refl _)|exact qL (qK _)|(refine qM (qE ?_);(try simp only [qV]at *);simp only [zQ,zA,zB,zC,zD,zE,zF,zG,zH,zI,zJ,zK,zL,zM,zN,zO,zP,zR,zS]at *;omega)|skip))
      |skip
theorem usf :ua0 Try.prog 37 [] [] (fun r _=>r=(dspS d3)):=by
  have c40:= @ugf
  refine ua0.is fun R hR=>qW (sc:=sc37) tyok mix Try.func37 rfl Try.call37 (by kernel_rfl) (by kernel_rfl) ?_
  generalize Try.prog=P at c40⊢
  cbv
  repeat' (first
      | (refine qP ?_ (c40 _ _) (by(repeat' (first|exact qB|refine qD ?_ ?_|exact qE (by rfl)|exact qF (by rfl)|exact Fit.refl _|exact qA|refine qC ?_ rfl ?_)))
         try cbv)
      |fail)
  all_goals first
    |(subst hR;(repeat' (first|exact qA|exact qB|refine qC ?_ rfl ?_|refine qD ?_ ?_|exact qE (by rfl)|exact qF (by rfl)|exact qE (by kernel_rfl)|exact qF (by kernel_rfl)|exact Fit.refl _|(exact qO (by rfl))|(first|(refine ua1 (by rfl) (fun ix h0 h1=> ?_);(have h2:ix.den<2:=h1);(have hx:ix.den.toNat=0∨ix.den.toNat=1:=by omega);(rcases hx with hx|hx<;>simp only [hx]))|(refine ua1 (by rfl) (fun ix h0 h1=> ?_);(have h2:ix.den<3:=h1);(have hx:ix.den.toNat=0∨ix.den.toNat=1∨ix.den.toNat=2:=by omega);(rcases hx with hx|hx|hx<;>simp only [hx]))|(refine ua1 (by rfl) (fun ix h0 h1=> ?_);(have h2:ix.den<4:=h1);(have hx:ix.den.toNat=0∨ix.den.toNat=1∨ix.den.toNat=2∨ix.den.toNat=3:=by omega);(rcases hx with hx|hx|hx|hx<;>simp only [hx]))|(refine ua1 (by rfl) (fun ix h0 h1=> ?_);(have h2:ix.den<1:=h1);(have hx:ix.den.toNat=0:=by omega);(rcases hx with hx<;>simp only [hx]))|(refine ua1 (by rfl) (fun ix h0 h1=> ?_);(have h2:ix.den<5:=h1);(have hx:ix.den.toNat=0∨ix.den.toNat=1∨ix.den.toNat=2∨ix.den.toNat=3∨ix.den.toNat=4:=by omega);(rcases hx with hx|hx|hx|hx|hx<;>simp only [hx])))));done)
    |skip
theorem uqo :ub8 Try.prog 37 [] [] (fun r bs=>r=(.agg [(iS d3.tw),(iS d3.tm),(.sl 1 (.sym fun _=>zi (d3.tv).length) (fun ix=>[(.sl 1 (.sym fun _=>zi ((d3.tv).getD ix.den.toNat []).length) (fun jx=>[(iv fun _=>((d3.tv).getD ix.den.toNat []).getD jx.den.toNat 0)]))])),(iv fun _=>d3.sn),(iv fun _=>d3.pn),(.sl 4 (.sym fun _=>zi (d3.ls).length) (fun ix=>[(iv fun _=>((d3.ls).getD ix.den.toNat l0T).a),(iv fun _=>((d3.ls).getD ix.den.toNat l0T).b),(iv fun _=>((d3.ls).getD ix.den.toNat l0T).lo),(iv fun _=>((d3.ls).getD ix.den.toNat l0T).hi)])),.ows 0 0 3 3 6])∧bs=[.cells [(.int .i64 (.lit (0))),(.int .i64 (.lit (0))),(.int .i64 (.lit (12))),(.int .i64 (.lit (12))),(.int .i64 (.lit (5))),(.int .i64 (.lit (6))),(.int .i64 (.lit (1))),(.int .i64 (.lit (0))),(.int .i64 (.lit (14))),(.int .i64 (.lit (14))),(.int .i64 (.lit (2))),(.int .i64 (.lit (3))),(.int .i64 (.lit (2))),(.int .i64 (.lit (1))),(.int .i64 (.lit (10))),(.int .i64 (.lit (10))),(.int .i64 (.lit (4))),(.int .i64 (.lit (4)))] 89]):=by
  have c40:= @ugf
  refine ub8.is rfl rfl fun R B hR hB=>ueV (sc:=sc37) tyok mix Try.func37 rfl Try.call37 (by kernel_rfl) (by kernel_rfl) ?_
  generalize Try.prog=P at c40⊢
  cbv
  repeat' (first
      | (refine qP ?_ (c40 _ _) (by(repeat' (first|exact qB|refine qD ?_ ?_|exact qE (by rfl)|exact qF (by rfl)|exact Fit.refl _|exact qA|refine qC ?_ rfl ?_)))
         try cbv)
      |fail)
  all_goals first|trivial|skip
  refine⟨[],(20:Nat),?_⟩
  cbv
  subst hR
  subst hB
  refine⟨?_,?_⟩
  · (repeat' (first|exact qA|exact qB|refine qC ?_ rfl ?_|refine qD ?_ ?_|exact qE (by rfl)|exact qF (by rfl)|exact qE (by kernel_rfl)|exact qF (by kernel_rfl)|exact Fit.refl _|(exact qO (by rfl))|(first|(refine ua1 (by rfl) (fun ix h0 h1=> ?_);(have h2:ix.den<2:=h1);(have hx:ix.den.toNat=0∨ix.den.toNat=1:=by omega);(rcases hx with hx|hx<;>simp only [hx]))|(refine ua1 (by rfl) (fun ix h0 h1=> ?_);(have h2:ix.den<3:=h1);(have hx:ix.den.toNat=0∨ix.den.toNat=1∨ix.den.toNat=2:=by omega);(rcases hx with hx|hx|hx<;>simp only [hx]))|(refine ua1 (by rfl) (fun ix h0 h1=> ?_);(have h2:ix.den<4:=h1);(have hx:ix.den.toNat=0∨ix.den.toNat=1∨ix.den.toNat=2∨ix.den.toNat=3:=by omega);(rcases hx with hx|hx|hx|hx<;>simp only [hx]))|(refine ua1 (by rfl) (fun ix h0 h1=> ?_);(have h2:ix.den<1:=h1);(have hx:ix.den.toNat=0:=by omega);(rcases hx with hx<;>simp only [hx]))|(refine ua1 (by rfl) (fun ix h0 h1=> ?_);(have h2:ix.den<5:=h1);(have hx:ix.den.toNat=0∨ix.den.toNat=1∨ix.den.toNat=2∨ix.den.toNat=3∨ix.den.toNat=4:=by omega);(rcases hx with hx|hx|hx|hx|hx<;>simp only [hx])))))
  · (repeat' (first|exact qH|refine qI ?_ ?_))
    refine qJ ?_
    (repeat' (first|exact qA|exact qB|refine qC ?_ rfl ?_|refine qD ?_ ?_|exact qE (by rfl)|exact qF (by rfl)|exact qE (by kernel_rfl)|exact qF (by kernel_rfl)|exact Fit.refl _|(exact qO (by rfl))|(first|(refine ua1 (by rfl) (fun ix h0 h1=> ?_);(have h2:ix.den<2:=h1);(have hx:ix.den.toNat=0∨ix.den.toNat=1:=by omega);(rcases hx with hx|hx<;>simp only [hx]))|(refine ua1 (by rfl) (fun ix h0 h1=> ?_);(have h2:ix.den<3:=h1);(have hx:ix.den.toNat=0∨ix.den.toNat=1∨ix.den.toNat=2:=by omega);(rcases hx with hx|hx|hx<;>simp only [hx]))|(refine ua1 (by rfl) (fun ix h0 h1=> ?_);(have h2:ix.den<4:=h1);(have hx:ix.den.toNat=0∨ix.den.toNat=1∨ix.den.toNat=2∨ix.den.toNat=3:=by omega);(rcases hx with hx|hx|hx|hx<;>simp only [hx]))|(refine ua1 (by rfl) (fun ix h0 h1=> ?_);(have h2:ix.den<1:=h1);(have hx:ix.den.toNat=0:=by omega);(rcases hx with hx<;>simp only [hx]))|(refine ua1 (by rfl) (fun ix h0 h1=> ?_);(have h2:ix.den<5:=h1);(have hx:ix.den.toNat=0∨ix.den.toNat=1∨ix.den.toNat=2∨ix.den.toNat=3∨ix.den.toNat=4:=by omega);(rcases hx with hx|hx|hx|hx|hx<;>simp only [hx])))))
theorem uvh :ua0 Try.prog 39 [] [] (fun r _=>r=(dspS d2)):=by
  have c37:=uqo
  refine ua0.is fun R hR=>qW (sc:=sc39) tyok mix Try.func39 rfl Try.call39 (by kernel_rfl) (by kernel_rfl) ?_
  generalize Try.prog=P at c37⊢
  cbv
  repeat' (first
      | (refine Or.inr ⟨true,?_⟩
         cbv
         refine qU ?_ (c37) (by cbv;(repeat' (first|exact qB|refine qD ?_ ?_|exact qE (by rfl)|exact qF (by rfl)|exact Fit.refl _|exact qA|refine qC ?_ rfl ?_))) (by cbv;(repeat' (first|exact qH|refine qI ?_ ?_|exact qK _|refine qJ ?_|exact qA|exact qE (by rfl)|exact qF (by rfl)|exact Fit.refl _|exact qG _|refine qC ?_ rfl ?_)))
         try cbv)
      | (refine⟨fun ix=>[(iv fun _=>(d2.fs.getD ix.den.toNat f0T).p),(iv fun _=>(d2.fs.getD ix.den.toNat f0T).s),(iv fun _=>(d2.fs.getD ix.den.toNat f0T).wl),(iv fun _=>(d2.fs.getD ix.den.toNat f0T).wh),(iv fun _=>(d2.fs.getD ix.den.toNat f0T).ml),(iv fun _=>(d2.fs.getD ix.den.toNat f0T).mh)],?_⟩
         cbv
         refine hold (ukc (fun jx h0=>(by(have h3:jx.den.toNat=0:=by omega);simp only [h3];(repeat' (first|exact qA|exact qB|refine qC ?_ rfl ?_|refine qD ?_ ?_|exact qE (by rfl)|exact qF (by rfl)|exact qE (by kernel_rfl)|exact qF (by kernel_rfl)|exact Fit.refl _|(exact qO (by rfl))|(first|(refine ua1 (by rfl) (fun ix h0 h1=> ?_);(have h2:ix.den<2:=h1);(have hx:ix.den.toNat=0∨ix.den.toNat=1:=by omega);(rcases hx with hx|hx<;>simp only [hx]))|(refine ua1 (by rfl) (fun ix h0 h1=> ?_);(have h2:ix.den<3:=h1);(have hx:ix.den.toNat=0∨ix.den.toNat=1∨ix.den.toNat=2:=by omega);(rcases hx with hx|hx|hx<;>simp only [hx]))|(refine ua1 (by rfl) (fun ix h0 h1=> ?_);(have h2:ix.den<4:=h1);(have hx:ix.den.toNat=0∨ix.den.toNat=1∨ix.den.toNat=2∨ix.den.toNat=3:=by omega);(rcases hx with hx|hx|hx|hx<;>simp only [hx]))|(refine ua1 (by rfl) (fun ix h0 h1=> ?_);(have h2:ix.den<1:=h1);(have hx:ix.den.toNat=0:=by omega);(rcases hx with hx<;>simp only [hx]))|(refine ua1 (by rfl) (fun ix h0 h1=> ?_);(have h2:ix.den<5:=h1);(have hx:ix.den.toNat=0∨ix.den.toNat=1∨ix.den.toNat=2∨ix.den.toNat=3∨ix.den.toNat=4:=by omega);(rcases hx with hx|hx|hx|hx|hx<;>simp only [hx]))))))) (fun ix jx h0 h1 h2=>(by(have h3:jx.den.toNat=1:=by(have h4:ix.den<1:=h1;omega));simp only [h3];(repeat' (first|exact qA|exact qB|refine qC ?_ rfl ?_|refine qD ?_ ?_|exact qE (by rfl)|exact qF (by rfl)|exact qE (by kernel_rfl)|exact qF (by kernel_rfl)|exact Fit.refl _|(exact qO (by rfl))|(first|(refine ua1 (by rfl) (fun ix h0 h1=> ?_);(have h2:ix.den<2:=h1);(have hx:ix.den.toNat=0∨ix.den.toNat=1:=by omega);(rcases hx with hx|hx<;>simp only [hx]))|(refine ua1 (by rfl) (fun ix h0 h1=> ?_);(have h2:ix.den<3:=h1);(have hx:ix.den.toNat=0∨ix.den.toNat=1∨ix.den.toNat=2:=by omega);(rcases hx with hx|hx|hx<;>simp only [hx]))|(refine ua1 (by rfl) (fun ix h0 h1=> ?_);(have h2:ix.den<4:=h1);(have hx:ix.den.toNat=0∨ix.den.toNat=1∨ix.den.toNat=2∨ix.den.toNat=3:=by omega);(rcases hx with hx|hx|hx|hx<;>simp only [hx]))|(refine ua1 (by rfl) (fun ix h0 h1=> ?_);(have h2:ix.den<1:=h1);(have hx:ix.den.toNat=0:=by omega);(rcases hx with hx<;>simp only [hx]))|(refine ua1 (by rfl) (fun ix h0 h1=> ?_);(have h2:ix.den<5:=h1);(have hx:ix.den.toNat=0∨ix.den.toNat=1∨ix.den.toNat=2∨ix.den.toNat=3∨ix.den.toNat=4:=by omega);(rcases hx with hx|hx|hx|hx|hx<;>simp only [hx]))))))) ⟨by decide,by decide⟩) ?_
         try cbv)
      |fail)
  all_goals first
    |(subst hR;(repeat' (first|exact qA|exact qB|refine qC ?_ rfl ?_|refine qD ?_ ?_|exact qE (by rfl)|exact qF (by rfl)|exact qE (by kernel_rfl)|exact qF (by kernel_rfl)|exact Fit.refl _|(exact qO (by rfl))|(first|(refine ua1 (by rfl) (fun ix h0 h1=> ?_);(have h2:ix.den<2:=h1);(have hx:ix.den.toNat=0∨ix.den.toNat=1:=by omega);(rcases hx with hx|hx<;>simp only [hx]))|(refine ua1 (by rfl) (fun ix h0 h1=> ?_);(have h2:ix.den<3:=h1);(have hx:ix.den.toNat=0∨ix.den.toNat=1∨ix.den.toNat=2:=by omega);(rcases hx with hx|hx|hx<;>simp only [hx]))|(refine ua1 (by rfl) (fun ix h0 h1=> ?_);(have h2:ix.den<4:=h1);(have hx:ix.den.toNat=0∨ix.den.toNat=1∨ix.den.toNat=2∨ix.den.toNat=3:=by omega);(rcases hx with hx|hx|hx|hx<;>simp only [hx]))|(refine ua1 (by rfl) (fun ix h0 h1=> ?_);(have h2:ix.den<1:=h1);(have hx:ix.den.toNat=0:=by omega);(rcases hx with hx<;>simp only [hx]))|(refine ua1 (by rfl) (fun ix h0 h1=> ?_);(have h2:ix.den<5:=h1);(have hx:ix.den.toNat=0∨ix.den.toNat=1∨ix.den.toNat=2∨ix.den.toNat=3∨ix.den.toNat=4:=by omega);(rcases hx with hx|hx|hx|hx|hx<;>simp only [hx])))));done)
    |skip
end Go.Proofs.Ytkdggbfknlcdaaa
