/- DisputeMore: what the law computes. No condition. -/
import Derived.Test.YtkdggbfknlcdaaaT7
set_option linter.unusedVariables false
set_option linter.unusedSimpArgs false
set_option linter.deprecated false
set_option linter.all false

namespace Go.Proofs.Ytkdggbfknlcdaaa
open Go.Eng.Dif Go.Eng.Few
def moreD (d:Dsp)(m:FaT):Dsp:=withF d (d.fs++[m])
theorem firm_with {d:Dsp} {fs:List FaT}(hF:faultD d=0)(hX:faultD (withF d fs)=0):firmE (withF d fs)=firmE d:=by
  have e:linksB (withF d fs)=linksB d:=rfl
  unfold firmE
  rw [if_pos hF,if_pos hX,e]
theorem bnd_links {d:Dsp}(hF:faultD d=0)(h:¬firmE d=0):bndE d=11∧bndN d=0:=by
  have hd:=faultD_iff.1 hF
  refine bndE_no hF ?_
  cases hc:canT d d.fs []with
  |false=>rfl
  | true=>
    rw [can_nil]at hc
    exact absurd (firmE_yes hF (by rw [links_is];exact can_none (okk hd hd.f) hc)) h
theorem bnd_lea {d:Dsp}(hf:firmE d=0):(bndE d=0∧(leaL d).length=0)∨(bndE d=11∧¬(leaL d).length=0):=by
  have hF:=(firmE_ok hf).1
  have ha:=firm_iotaF hf
  have e:leaL d=fewL d.fs.length (okFa d):=if_pos hf
  rw [e]
  cases hc:canT d d.fs []with
  |true=>exact .inl ⟨(bndE_yes hF hc).1,(Go.Eng.Few.few_nil ha).1 hc⟩
  |false=>exact .inr ⟨(bndE_no hF hc).1,fun q=>by have:=(Go.Eng.Few.few_nil ha).2 q;unfold okFa at this;rw [hc]at this;cases this⟩
theorem more_law {d:Dsp} {m:FaT}(hf:firmE d=0)(hX:faultD (moreD d m)=0):
    ((leaL d).length≤(leaL (moreD d m)).length∧(leaL (moreD d m)).length≤(leaL d).length+1) ∧
    (belL d).length≤(belL (moreD d m)).length∧(belL (moreD d m)).length≤(belL d).length+1:=by
  have hF:=firmE_ok hf
  have hd:=faultD_iff.1 hF.1
  have hx:=faultD_iff.1 hX
  have hfx:firmE (moreD d m)=0:=(firm_with hF.1 hX).trans hf
  have e1:FO d (d.fs++[m])=FO d d.fs++[faO d m]:=List.map_append
  have hl:canD (SN d) (LO d) []=true:=by rw [←links_is];exact hF.2
  have ok1:=okk hd hd.f
  have ok2:Okk (SN d) (LO d) (FO d d.fs++[faO d m]):=by rw [←e1];exact okk hx hx.f
  have l1:leaL d=fewL d.fs.length (okFa d):=if_pos hf
  have l2:leaL (moreD d m)=fewL (moreD d m).fs.length (okFa (moreD d m)):=if_pos hfx
  have b1:belL d=fewL d.pn.toNat (okPa d):=if_pos hf
  have b2:belL (moreD d m)=fewL d.pn.toNat (okPa (moreD d m)):=if_pos hfx
  have p1:=pt_bd hd
  have p2:=pt_bd hx
  have ln:(moreD d m).fs.length=(FO d d.fs++[faO d m]).length:=by rw [←e1,FO_len];rfl
  have o1:okFa (moreD d m)=okF (SN d) (LO d) (FO d d.fs++[faO d m]):=by rw [okFa_is,←e1];rfl
  have o2:okPa (moreD d m)=okP (SN d) (LO d) (FO d d.fs++[faO d m]) (ptD (moreD d m)):=by rw [okPa_is hx,←e1];rfl
  have p2':∀i,i<(FO d d.fs++[faO d m]).length→0≤ptD (moreD d m) i∧ptD (moreD d m) i<(d.pn.toNat:Int):=by rw [←e1];exact p2
  constructor
  · rw [l1,l2,o1,ln,okFa_is,←FO_len d d.fs]
    exact more_few ok1 ok2 hl
  · rw [b1,b2,o2,okPa_is hd]
    refine more_fewP ok1 ok2 p1 p2' (fun i hi=> ?_) hl
    rw [FO_len]at hi
    unfold ptD moreD withF
    simp only
    rw [List.getD_eq_getElem?_getD,List.getElem?_append_left hi,←List.getD_eq_getElem?_getD]
theorem more_bd {d:Dsp} {m:FaT}(hF:faultD d=0)(hX:faultD (moreD d m)=0)(hb:bndE (moreD d m)=0):
    bndE d=0∧∀s,s<d.sn.toNat→loT d [] s≤loT (moreD d m) [] s∧hiT (moreD d m) [] s≤hiT d [] s:=by
  have hd:=faultD_iff.1 hF
  have hx:=faultD_iff.1 hX
  have e1:FO d (d.fs++[m])=FO d d.fs++[faO d m]:=List.map_append
  have ok1:=okk hd hd.f
  have ok2:Okk (SN d) (LO d) (FO d d.fs++[faO d m]):=by rw [←e1];exact okk hx hx.f
  have hc:canD (SN d) (LO d) (FO d d.fs++[faO d m])=true:=by
    have:=(bndE_ok hb).2
    rw [can_nil]at this
    rw [←e1];exact this
  have w:=wide_can ok2 ok1 (fun x t=>more_tr t) hc
  refine⟨(bndE_yes hF (by rw [can_nil];exact w)).1,fun s hs=> ?_⟩
  have q:=wide_bd ok2 ok1 (fun x t=>more_tr t) hc (s:=s) hs
  rw [(lo_nil d s).1,(lo_nil d s).2,(lo_nil (moreD d m) s).1,(lo_nil (moreD d m) s).2]
  rw [←e1]at q
  exact q
end Go.Proofs.Ytkdggbfknlcdaaa

namespace Go.Proofs.Ytkdggbfknlcdaaa
open Go.Eng.Dif Go.Eng.Few
set_option maxRecDepth 10000 in
theorem lea_asc {d:Dsp}(hf:firmE d=0):Asc d.fs.length 0 (leaL d):=by
  have e:leaL d=fewL d.fs.length (okFa d):=if_pos hf
  have q:=few_spec (firm_iotaF hf)
  rw [e];exact q.1
set_option maxRecDepth 10000 in
theorem bel_asc {d:Dsp}(hf:firmE d=0):Asc d.pn.toNat 0 (belL d):=by
  have e:belL d=fewL d.pn.toNat (okPa d):=if_pos hf
  have q:=few_spec (firm_iotaP hf)
  rw [e];exact q.1
theorem asc_len {n:Nat} {L:List Int}(h:Asc n 0 L):L.length≤n:=by
  rcases asc_room h with e|e
  · rw [e];exact Nat.zero_le _
  · omega
end Go.Proofs.Ytkdggbfknlcdaaa

namespace Go.Proofs.Ytkdggbfknlcdaaa
open Go Go.Eng Go.Proofs Go.Eng.Dif Go.Eng.Few
set_option maxRecDepth 10000
def sc4b :SC:=[(2,[⟨0,false,[],false,0,none⟩,⟨1,false,[],false,0,none⟩,⟨2,false,[1],false,0,none⟩,⟨4,false,[],false,0,none⟩,⟨5,false,[4],false,0,none⟩,⟨3,false,[0,1,2],false,0,none⟩,⟨6,true,[0,1,2,3,4,5],false,0,none⟩,⟨7,true,[0,1,2,3,4,5,6],false,0,none⟩,⟨8,true,[0,1,2,3,4,5,6,7],false,0,none⟩])]
theorem inside24 (n:Nat)(a b c e:Nat→Int)(hn:n≤1000)(h:∀i,i<n→c i≤a i∧b i≤e i):FSpec Try.prog 24 [(.sl 2 (.sym fun _=>zi n) (fun ix=>[(.int .i64 (.sym fun _=>a ix.den.toNat)),(.int .i64 (.sym fun _=>b ix.den.toNat))])),(.sl 2 (.sym fun _=>zi n) (fun ix=>[(.int .i64 (.sym fun _=>c ix.den.toNat)),(.int .i64 (.sym fun _=>e ix.den.toNat))]))] [] (fun r _=>r=(.bool (.lit true))):=by
  refine FSpec.is fun R hR=>qW (sc:=sc24) tyok mix Try.func24 rfl Try.call24 (by kernel_rfl) (by kernel_rfl) ?_
  generalize Try.prog=P
  cbv
  repeat' (first
      |with_reducible refine hold ?_ ?_
      |with_reducible refine And.intro ?_ ?_
      | (with_reducible refine qS ?_ ?_ ?_
         try cbv)
      | (with_reducible refine qT ?_ ?_
         try cbv)
      |(with_reducible intro hcd;(try simp only [zA,zB,zC,zD,zE,zF,zG,zH,zI,zJ,zK,zL,zM,zN,zO,zP]at hcd);try cbv)
      |fail)
  all_goals first
    |trivial
    |((try simp only [qV]at *);(try simp only [zQ,zA,zB,zC,zD,zE,zF,zG,zH,zI,zJ,zK,zL,zM,zN,zO,zP,zR,zS]at *);first|(refine qN ?_;omega)|(simp only [Hold];omega))
    |(subst hR;(repeat' (first|exact qA|exact qB|refine qC ?_ rfl ?_|refine qD ?_ ?_|exact qE (by rfl)|exact qF (by rfl)|exact Fit.refl _|exact qG _|(refine qE ?_;(try simp only [qV]at *);simp only [zQ,zA,zB,zC,zD,zE,zF,zG,zH,zI,zJ,zK,zL,zM,zN,zO,zP,zR,zS]at *;omega)));done)
    |((try simp only [qV]at *);(try simp only [zQ,zA,zB,zC,zD,zE,zF,zG,zH,zI,zJ,zK,zL,zM,zN,zO,zP,zR,zS]at *);simp only [Hold];first|assumption|omega|exact⟨by omega,by omega⟩|(refine qN ?_;omega))
    |(simp only [Hold];decide)
    |skip
  refine⟨none,[],{i:Nat // i≤n},fun x=>⟨[(0,(.sl 2 (.sym fun _=>zi n) (fun ix=>[(.int .i64 (.sym fun _=>a ix.den.toNat)),(.int .i64 (.sym fun _=>b ix.den.toNat))]))),(1,(.sl 2 (.sym fun _=>zi n) (fun ix=>[(.int .i64 (.sym fun _=>c ix.den.toNat)),(.int .i64 (.sym fun _=>e ix.den.toNat))]))),(5,(.int .i64 (.sym fun _=>zi x.1)))],[],60⟩,fun x=>n-x.1,?_,?_⟩
  · refine⟨⟨0,by omega⟩,?_⟩
    cbv
    repeat' (first
      |with_reducible refine hold ?_ ?_
      |with_reducible refine And.intro ?_ ?_)
    all_goals first
      |trivial
      |exact qM (qE (by rfl))
      |exact qM (qF (by rfl))
      |exact qM (Fit.refl _)
      |exact qL (qK _)
      |(refine qM (qE ?_);(try simp only [qV]at *);simp only [zQ,zA,zB,zC,zD,zE,zF,zG,zH,zI,zJ,zK,zL,zM,zN,zO,zP,zR,zS]at *;omega)
      |skip
  · rintro ⟨i,hi⟩
    cbv
    cbv
    repeat' (first
        |with_reducible refine hold ?_ ?_
        |with_reducible refine And.intro ?_ ?_
        | (with_reducible refine qS ?_ ?_ ?_
           try cbv)
        | (with_reducible refine qT ?_ ?_
           try cbv)
        |(with_reducible intro hcd;(try simp only [zA,zB,zC,zD,zE,zF,zG,zH,zI,zJ,zK,zL,zM,zN,zO,zP]at hcd);try cbv)
        |fail)
    all_goals first
      |trivial
      |((try simp only [qV]at *);(try simp only [zQ,zA,zB,zC,zD,zE,zF,zG,zH,zI,zJ,zK,zL,zM,zN,zO,zP,zR,zS]at *);first|(refine qN ?_;omega)|(simp only [Hold];omega))
      |(subst hR;(repeat' (first|exact qA|exact qB|refine qC ?_ rfl ?_|refine qD ?_ ?_|exact qE (by rfl)|exact qF (by rfl)|exact Fit.refl _|exact qG _|(refine qE ?_;(try simp only [qV]at *);simp only [zQ,zA,zB,zC,zD,zE,zF,zG,zH,zI,zJ,zK,zL,zM,zN,zO,zP,zR,zS]at *;omega)));done)
      |((try simp only [qV]at *);(try simp only [zQ,zA,zB,zC,zD,zE,zF,zG,zH,zI,zJ,zK,zL,zM,zN,zO,zP,zR,zS]at *);simp only [Hold];first|assumption|omega|exact⟨by omega,by omega⟩|(refine qN ?_;omega))
      |(exfalso;(have hh:=h i (by((try simp only [qV]at *);(try simp only [zQ,zA,zB,zC,zD,zE,zF,zG,zH,zI,zJ,zK,zL,zM,zN,zO,zP,zR,zS]at *);omega)));(try simp only [qV]at *);(try simp only [zQ,zA,zB,zC,zD,zE,zF,zG,zH,zI,zJ,zK,zL,zM,zN,zO,zP,zR,zS]at *);omega)
      |(exfalso;(try simp only [qV]at *);(try simp only [zQ,zA,zB,zC,zD,zE,zF,zG,zH,zI,zJ,zK,zL,zM,zN,zO,zP,zR,zS]at *);(try simp only [allB_t,allB_f,inB_t,inB_f,ofB_t,ofB_f,linkB_t,linkB_f,factB_t,factB_f]at *);omega)
      |((try simp only [zQ,zA,zB,zC,zD,zE,zF,zG,zH,zI,zJ,zK,zL,zM,zN,zO,zP,zR,zS]at *);refine⟨⟨i+1,by omega⟩,by simp only [];omega,?_⟩;cbv;(repeat' (first|with_reducible refine hold ?_ ?_|with_reducible refine And.intro ?_ ?_));(all_goals first|trivial|exact qM (qE (by rfl))|exact qM (qF (by rfl))|exact qM (Fit.refl _)|exact qL (qK _)|(refine qM (qE ?_);(try simp only [qV]at *);simp only [zQ,zA,zB,zC,zD,zE,zF,zG,zH,zI,zJ,zK,zL,zM,zN,zO,zP,zR,zS]at *;omega)|skip))
      |(simp only [Hold];decide)
      |skip
theorem setl_k {P:Program} {f:FuncId} {args args':List SV} {K:SV→Prop} {R:SV}(h:K R)(hF:FSpec P f args' [] fun r _=>r=R)(ha:Fit (.tup args) (.tup args')):
    ∃post:SV→Prop,FSpec P f args [] (fun r _=>post r)∧∀r,post r→K r:=⟨fun r=>r=R,hF.pre ha,fun r hr=>hr▸h⟩
theorem more_at {l:List FaT} {x:FaT} {i:Nat}(h:i<l.length):(l++[x]).getD i f0T=l.getD i f0T:=by
  rw [List.getD_eq_getElem?_getD,List.getElem?_append_left h,←List.getD_eq_getElem?_getD]
theorem more_new {l:List FaT} {x:FaT} {i:Nat}(h:i=l.length):(l++[x]).getD i f0T=x:=by
  subst h
  simp [List.getD_eq_getElem?_getD]
theorem law4t (d:Dsp)(m:FaT)(hz:d.fs.length*48≤140737488351232)(h:¬(readyD d=true∧readyD (moreD d m)=true)):FSpec Try.prog 4 [(dspS d),(.agg [(.int .i64 (.sym fun _=>m.p)),(.int .i64 (.sym fun _=>m.s)),(.int .i64 (.sym fun _=>m.wl)),(.int .i64 (.sym fun _=>m.wh)),(.int .i64 (.sym fun _=>m.ml)),(.int .i64 (.sym fun _=>m.mh))])] [] (fun r _=>r=(.bool (.lit true))):=by
  have c20:=ready20 d
  have c12:=awake12
  have c20x:=(show FSpec Try.prog 20 [(.agg [(.sl 1 (.sym fun _=>zi (d.tw).length) (fun ix=>[.int .i64 (.sym fun _=>(d.tw).getD ix.den.toNat 0)])),(.sl 1 (.sym fun _=>zi (d.tm).length) (fun ix=>[.int .i64 (.sym fun _=>(d.tm).getD ix.den.toNat 0)])),(.sl 1 (.sym fun _=>zi (d.tv).length) (fun ix=>[(.sl 1 (.sym fun _=>zi ((d.tv).getD ix.den.toNat []).length) (fun jx=>[.int .i64 (.sym fun _=>((d.tv).getD ix.den.toNat []).getD jx.den.toNat 0)]))])),(.int .i64 (.sym fun _=>d.sn)),(.int .i64 (.sym fun _=>d.pn)),(.sl 4 (.sym fun _=>zi (d.ls).length) (fun ix=>[(.int .i64 (.sym fun _=>((d.ls).getD ix.den.toNat l0T).a)),(.int .i64 (.sym fun _=>((d.ls).getD ix.den.toNat l0T).b)),(.int .i64 (.sym fun _=>((d.ls).getD ix.den.toNat l0T).lo)),(.int .i64 (.sym fun _=>((d.ls).getD ix.den.toNat l0T).hi))])),(.sl 6 (.sym fun _=>zi ((d.fs++[m])).length) (fun ix=>[(.int .i64 (.sym fun _=>(((d.fs++[m])).getD ix.den.toNat f0T).p)),(.int .i64 (.sym fun _=>(((d.fs++[m])).getD ix.den.toNat f0T).s)),(.int .i64 (.sym fun _=>(((d.fs++[m])).getD ix.den.toNat f0T).wl)),(.int .i64 (.sym fun _=>(((d.fs++[m])).getD ix.den.toNat f0T).wh)),(.int .i64 (.sym fun _=>(((d.fs++[m])).getD ix.den.toNat f0T).ml)),(.int .i64 (.sym fun _=>(((d.fs++[m])).getD ix.den.toNat f0T).mh))]))])] [] (fun r _=>r=(.bool (.sym fun _=>readyD (moreD d m))))from ready20 (moreD d m))
  refine FSpec.is fun R hR=>qW (sc:=sc4b) tyok mix Try.func4 rfl Try.call4 (by kernel_rfl) (by kernel_rfl) ?_
  generalize Try.prog=P at c20 c12 c20x⊢
  cbv
  repeat' (first
      |with_reducible refine hold ?_ ?_
      |with_reducible refine And.intro ?_ ?_
      | (with_reducible refine qS ?_ ?_ ?_
         try cbv)
      | (with_reducible refine qT ?_ ?_
         try cbv)
      |(with_reducible intro hcd;(try simp only [zA,zB,zC,zD,zE,zF,zG,zH,zI,zJ,zK,zL,zM,zN,zO,zP]at hcd);try cbv)
      | (refine qP ?_ (c20) ?hfit
         case hfit=>((repeat' (first|exact qB|refine qD ?_ ?_|exact qE (by rfl)|exact qF (by rfl)|exact Fit.refl _|exact qA|refine qC ?_ rfl ?_));done)
         try cbv)
      | (refine qP ?_ (c12) ?hfit
         case hfit=>((repeat' (first|exact qB|refine qD ?_ ?_|exact qE (by rfl)|exact qF (by rfl)|exact Fit.refl _|exact qA|refine qC ?_ rfl ?_));done)
         try cbv)
      | (refine⟨fun ix=>[(.int .i64 (.sym fun _=>((d.fs).getD ix.den.toNat f0T).p)),(.int .i64 (.sym fun _=>((d.fs).getD ix.den.toNat f0T).s)),(.int .i64 (.sym fun _=>((d.fs).getD ix.den.toNat f0T).wl)),(.int .i64 (.sym fun _=>((d.fs).getD ix.den.toNat f0T).wh)),(.int .i64 (.sym fun _=>((d.fs).getD ix.den.toNat f0T).ml)),(.int .i64 (.sym fun _=>((d.fs).getD ix.den.toNat f0T).mh))],?_⟩
         cbv
         refine hold (hold_rowapp (by intro ix jx h0 h1 h2;(exfalso;(try simp only [qV]at *);(try simp only [zQ,zA,zB,zC,zD,zE,zF,zG,zH,zI,zJ,zK,zL,zM,zN,zO,zP,zR,zS]at *);omega)) (by intro ix jx h0 h1 h2;(have e3:jx.den.toNat=ix.den.toNat:=by((try simp only [qV]at *);(try simp only [zQ,zA,zB,zC,zD,zE,zF,zG,zH,zI,zJ,zK,zL,zM,zN,zO,zP,zR,zS]at *);omega));simp only [e3];exact Fit.refl _) (by(try simp only [qV]at *);(try simp only [zQ,zA,zB,zC,zD,zE,zF,zG,zH,zI,zJ,zK,zL,zM,zN,zO,zP,zR,zS]at *);omega)) (Or.inl ?_)
         try cbv)
      | (refine⟨fun ix=>[(.int .i64 (.sym fun _=>(((d.fs++[m])).getD ix.den.toNat f0T).p)),(.int .i64 (.sym fun _=>(((d.fs++[m])).getD ix.den.toNat f0T).s)),(.int .i64 (.sym fun _=>(((d.fs++[m])).getD ix.den.toNat f0T).wl)),(.int .i64 (.sym fun _=>(((d.fs++[m])).getD ix.den.toNat f0T).wh)),(.int .i64 (.sym fun _=>(((d.fs++[m])).getD ix.den.toNat f0T).ml)),(.int .i64 (.sym fun _=>(((d.fs++[m])).getD ix.den.toNat f0T).mh))],?_⟩
         cbv
         refine hold (hold_rowapp (by intro ix jx h0 h1 h2;(have e:=more_at (l:=d.fs) (x:=m) (i:=ix.den.toNat) (by(try simp only [qV]at *);(try simp only [zQ,zA,zB,zC,zD,zE,zF,zG,zH,zI,zJ,zK,zL,zM,zN,zO,zP,zR,zS]at *);omega));(have e3:jx.den.toNat=ix.den.toNat:=by rw [h2]);simp only [e3,e];exact Fit.refl _) (by intro ix jx h0 h1 h2;(have e:=more_new (l:=d.fs) (x:=m) (i:=jx.den.toNat) (by(try simp only [qV]at *);(try simp only [zQ,zA,zB,zC,zD,zE,zF,zG,zH,zI,zJ,zK,zL,zM,zN,zO,zP,zR,zS]at *);omega));simp only [e];exact(qC (qE rfl) rfl (qC (qE rfl) rfl (qC (qE rfl) rfl (qC (qE rfl) rfl (qC (qE rfl) rfl (qC (qE rfl) rfl qA))))))) (by(try simp only [qV]at *);(try simp only [zQ,zA,zB,zC,zD,zE,zF,zG,zH,zI,zJ,zK,zL,zM,zN,zO,zP,zR,zS]at *);omega)) (Or.inl ?_)
         try cbv)
      | ((first|(refine qR ?_ (c20x) rfl ?hfit;case hfit=>(cbv;(refine qD (qC (Fit.refl _) rfl (qC (Fit.refl _) rfl (qC (Fit.refl _) rfl (qC (Fit.refl _) rfl (qC (Fit.refl _) rfl (qC (Fit.refl _) rfl (qC ?_ rfl qA))))))) qB;refine fit_sl (by(try simp only [qV]at *);(try simp only [zQ,zA,zB,zC,zD,zE,zF,zG,zH,zI,zJ,zK,zL,zM,zN,zO,zP,zR,zS]at *);(try simp only [List.length_append,List.length_cons,List.length_nil]);omega) (fun _ _ _=>Fit.refl _));done))|(refine⟨none,?_⟩;refine qR ?_ (c20x) rfl ?hfit;case hfit=>(cbv;(refine qD (qC (Fit.refl _) rfl (qC (Fit.refl _) rfl (qC (Fit.refl _) rfl (qC (Fit.refl _) rfl (qC (Fit.refl _) rfl (qC (Fit.refl _) rfl (qC ?_ rfl qA))))))) qB;refine fit_sl (by(try simp only [qV]at *);(try simp only [zQ,zA,zB,zC,zD,zE,zF,zG,zH,zI,zJ,zK,zL,zM,zN,zO,zP,zR,zS]at *);(try simp only [List.length_append,List.length_cons,List.length_nil]);omega) (fun _ _ _=>Fit.refl _));done)))
         try cbv)
      |fail)
  all_goals first
    |trivial
    |((try simp only [qV]at *);(try simp only [zQ,zA,zB,zC,zD,zE,zF,zG,zH,zI,zJ,zK,zL,zM,zN,zO,zP,zR,zS]at *);first|(refine qN ?_;omega)|(simp only [Hold];omega))
    |(subst hR;(repeat' (first|exact qA|exact qB|refine qC ?_ rfl ?_|refine qD ?_ ?_|exact qE (by rfl)|exact qF (by rfl)|exact Fit.refl _|exact qG _|(refine qE ?_;(try simp only [qV]at *);simp only [zQ,zA,zB,zC,zD,zE,zF,zG,zH,zI,zJ,zK,zL,zM,zN,zO,zP,zR,zS]at *;omega)));done)
    |((try simp only [qV]at *);(try simp only [zQ,zA,zB,zC,zD,zE,zF,zG,zH,zI,zJ,zK,zL,zM,zN,zO,zP,zR,zS]at *);simp only [Hold];first|assumption|omega|exact⟨by omega,by omega⟩|(refine qN ?_;omega))
    |(exfalso;exact h ⟨by assumption,by assumption⟩)
    |(exfalso;(try simp only [qV]at *);(try simp only [zQ,zA,zB,zC,zD,zE,zF,zG,zH,zI,zJ,zK,zL,zM,zN,zO,zP,zR,zS]at *);(try simp only [allB_t,allB_f,inB_t,inB_f,ofB_t,ofB_f,linkB_t,linkB_f,factB_t,factB_f]at *);omega)
    |(simp only [Hold];decide)
    |skip
theorem bndN_z {d:Dsp}(h:bndE d=0):bndN d=zi d.sn.toNat:=by
  have q:=bndE_ok h
  rw [(bndE_yes q.1 q.2).2]
  have:=(faultD_iff.1 q.1).s1
  simp only [zi_den];omega
theorem bndN_0 {d:Dsp}(h:bndE d=11):bndN d=0:=bndE_ne (by omega)
theorem lit_tD {f:FuncId} {args:List SV} {b:Bool}(h:FSpec Try.prog f args [] (fun r _=>r = .bool (.sym fun _=>b)))(hb:b=true):FSpec Try.prog f args [] (fun r _=>r = .bool (.lit true)):=h.post fun r bs q=>⟨_,by subst q;exact qF hb,rfl⟩
set_option maxHeartbeats 1000000 in
theorem law4F (d:Dsp)(m:FaT)(hz:d.fs.length*48≤140737488351232)(h:readyD d=true)(hx:readyD (moreD d m)=true)(hf:¬firmE d=0):FSpec Try.prog 4 [(dspS d),(.agg [(.int .i64 (.sym fun _=>m.p)),(.int .i64 (.sym fun _=>m.s)),(.int .i64 (.sym fun _=>m.wl)),(.int .i64 (.sym fun _=>m.wh)),(.int .i64 (.sym fun _=>m.ml)),(.int .i64 (.sym fun _=>m.mh))])] [] (fun r _=>r=(.bool (.lit true))):=by
  have c12:=awake12
  have hth:=thinD_t.1 (readyD_t.1 h).1
  have hthx:=thinD_t.1 (readyD_t.1 hx).1
  have hF:=(readyD_t.1 h).2
  have hX:=(readyD_t.1 hx).2
  have f6:=(faultD_iff.1 hF).f6
  have s1:=(faultD_iff.1 hF).s1
  have s3:=(faultD_iff.1 hF).s3
  have c14:=dispute14 d hth.1 (by omega) (by omega)
  have c14x:=(show FSpec Try.prog 14 [(.agg [(.sl 1 (.sym fun _=>zi (d.tw).length) (fun ix=>[.int .i64 (.sym fun _=>(d.tw).getD ix.den.toNat 0)])),(.sl 1 (.sym fun _=>zi (d.tm).length) (fun ix=>[.int .i64 (.sym fun _=>(d.tm).getD ix.den.toNat 0)])),(.sl 1 (.sym fun _=>zi (d.tv).length) (fun ix=>[(.sl 1 (.sym fun _=>zi ((d.tv).getD ix.den.toNat []).length) (fun jx=>[.int .i64 (.sym fun _=>((d.tv).getD ix.den.toNat []).getD jx.den.toNat 0)]))])),(.int .i64 (.sym fun _=>d.sn)),(.int .i64 (.sym fun _=>d.pn)),(.sl 4 (.sym fun _=>zi (d.ls).length) (fun ix=>[(.int .i64 (.sym fun _=>((d.ls).getD ix.den.toNat l0T).a)),(.int .i64 (.sym fun _=>((d.ls).getD ix.den.toNat l0T).b)),(.int .i64 (.sym fun _=>((d.ls).getD ix.den.toNat l0T).lo)),(.int .i64 (.sym fun _=>((d.ls).getD ix.den.toNat l0T).hi))])),(.sl 6 (.sym fun _=>zi ((d.fs++[m])).length) (fun ix=>[(.int .i64 (.sym fun _=>(((d.fs++[m])).getD ix.den.toNat f0T).p)),(.int .i64 (.sym fun _=>(((d.fs++[m])).getD ix.den.toNat f0T).s)),(.int .i64 (.sym fun _=>(((d.fs++[m])).getD ix.den.toNat f0T).wl)),(.int .i64 (.sym fun _=>(((d.fs++[m])).getD ix.den.toNat f0T).wh)),(.int .i64 (.sym fun _=>(((d.fs++[m])).getD ix.den.toNat f0T).ml)),(.int .i64 (.sym fun _=>(((d.fs++[m])).getD ix.den.toNat f0T).mh))]))])] [] (fun r _=>r=(.agg [(.sl 1 (.sym fun _=>zi (d.tw).length) (fun ix=>[.int .i64 (.sym fun _=>(d.tw).getD ix.den.toNat 0)])),(.sl 1 (.sym fun _=>zi (d.tm).length) (fun ix=>[.int .i64 (.sym fun _=>(d.tm).getD ix.den.toNat 0)])),(.sl 1 (.sym fun _=>zi (d.tv).length) (fun ix=>[(.sl 1 (.sym fun _=>zi ((d.tv).getD ix.den.toNat []).length) (fun jx=>[.int .i64 (.sym fun _=>((d.tv).getD ix.den.toNat []).getD jx.den.toNat 0)]))])),(.int .i64 (.sym fun _=>d.sn)),(.int .i64 (.sym fun _=>d.pn)),(.sl 4 (.sym fun _=>zi (d.ls).length) (fun ix=>[(.int .i64 (.sym fun _=>((d.ls).getD ix.den.toNat l0T).a)),(.int .i64 (.sym fun _=>((d.ls).getD ix.den.toNat l0T).b)),(.int .i64 (.sym fun _=>((d.ls).getD ix.den.toNat l0T).lo)),(.int .i64 (.sym fun _=>((d.ls).getD ix.den.toNat l0T).hi))])),(.sl 6 (.sym fun _=>zi ((d.fs++[m])).length) (fun ix=>[(.int .i64 (.sym fun _=>(((d.fs++[m])).getD ix.den.toNat f0T).p)),(.int .i64 (.sym fun _=>(((d.fs++[m])).getD ix.den.toNat f0T).s)),(.int .i64 (.sym fun _=>(((d.fs++[m])).getD ix.den.toNat f0T).wl)),(.int .i64 (.sym fun _=>(((d.fs++[m])).getD ix.den.toNat f0T).wh)),(.int .i64 (.sym fun _=>(((d.fs++[m])).getD ix.den.toNat f0T).ml)),(.int .i64 (.sym fun _=>(((d.fs++[m])).getD ix.den.toNat f0T).mh))]))]))from dispute14 (moreD d m) hthx.1 (by show d.ls.length≤1000;omega) (by show(d.fs++[m]).length≤1000;rw [List.length_append];show d.fs.length+1≤1000;omega))
  have c21:=bounds21 d
  have c21x:=(show FSpec Try.prog 21 [(.agg [(.sl 1 (.sym fun _=>zi (d.tw).length) (fun ix=>[.int .i64 (.sym fun _=>(d.tw).getD ix.den.toNat 0)])),(.sl 1 (.sym fun _=>zi (d.tm).length) (fun ix=>[.int .i64 (.sym fun _=>(d.tm).getD ix.den.toNat 0)])),(.sl 1 (.sym fun _=>zi (d.tv).length) (fun ix=>[(.sl 1 (.sym fun _=>zi ((d.tv).getD ix.den.toNat []).length) (fun jx=>[.int .i64 (.sym fun _=>((d.tv).getD ix.den.toNat []).getD jx.den.toNat 0)]))])),(.int .i64 (.sym fun _=>d.sn)),(.int .i64 (.sym fun _=>d.pn)),(.sl 4 (.sym fun _=>zi (d.ls).length) (fun ix=>[(.int .i64 (.sym fun _=>((d.ls).getD ix.den.toNat l0T).a)),(.int .i64 (.sym fun _=>((d.ls).getD ix.den.toNat l0T).b)),(.int .i64 (.sym fun _=>((d.ls).getD ix.den.toNat l0T).lo)),(.int .i64 (.sym fun _=>((d.ls).getD ix.den.toNat l0T).hi))])),(.sl 6 (.sym fun _=>zi ((d.fs++[m])).length) (fun ix=>[(.int .i64 (.sym fun _=>(((d.fs++[m])).getD ix.den.toNat f0T).p)),(.int .i64 (.sym fun _=>(((d.fs++[m])).getD ix.den.toNat f0T).s)),(.int .i64 (.sym fun _=>(((d.fs++[m])).getD ix.den.toNat f0T).wl)),(.int .i64 (.sym fun _=>(((d.fs++[m])).getD ix.den.toNat f0T).wh)),(.int .i64 (.sym fun _=>(((d.fs++[m])).getD ix.den.toNat f0T).ml)),(.int .i64 (.sym fun _=>(((d.fs++[m])).getD ix.den.toNat f0T).mh))]))])] [] (fun r _=>r=(.tup [(.sl 2 (.sym fun _=>bndN (moreD d m)) (fun ix=>[(.int .i64 (.sym fun _=>loT (moreD d m) [] ix.den.toNat)),(.int .i64 (.sym fun _=>hiT (moreD d m) [] ix.den.toNat))])),(.int .i64 (.sym fun _=>bndE (moreD d m)))]))from bounds21 (moreD d m))
  have c22:=leave22 d
  have c22x:=(show FSpec Try.prog 22 [(.agg [(.sl 1 (.sym fun _=>zi (d.tw).length) (fun ix=>[.int .i64 (.sym fun _=>(d.tw).getD ix.den.toNat 0)])),(.sl 1 (.sym fun _=>zi (d.tm).length) (fun ix=>[.int .i64 (.sym fun _=>(d.tm).getD ix.den.toNat 0)])),(.sl 1 (.sym fun _=>zi (d.tv).length) (fun ix=>[(.sl 1 (.sym fun _=>zi ((d.tv).getD ix.den.toNat []).length) (fun jx=>[.int .i64 (.sym fun _=>((d.tv).getD ix.den.toNat []).getD jx.den.toNat 0)]))])),(.int .i64 (.sym fun _=>d.sn)),(.int .i64 (.sym fun _=>d.pn)),(.sl 4 (.sym fun _=>zi (d.ls).length) (fun ix=>[(.int .i64 (.sym fun _=>((d.ls).getD ix.den.toNat l0T).a)),(.int .i64 (.sym fun _=>((d.ls).getD ix.den.toNat l0T).b)),(.int .i64 (.sym fun _=>((d.ls).getD ix.den.toNat l0T).lo)),(.int .i64 (.sym fun _=>((d.ls).getD ix.den.toNat l0T).hi))])),(.sl 6 (.sym fun _=>zi ((d.fs++[m])).length) (fun ix=>[(.int .i64 (.sym fun _=>(((d.fs++[m])).getD ix.den.toNat f0T).p)),(.int .i64 (.sym fun _=>(((d.fs++[m])).getD ix.den.toNat f0T).s)),(.int .i64 (.sym fun _=>(((d.fs++[m])).getD ix.den.toNat f0T).wl)),(.int .i64 (.sym fun _=>(((d.fs++[m])).getD ix.den.toNat f0T).wh)),(.int .i64 (.sym fun _=>(((d.fs++[m])).getD ix.den.toNat f0T).ml)),(.int .i64 (.sym fun _=>(((d.fs++[m])).getD ix.den.toNat f0T).mh))]))])] [] (fun r _=>r=(.tup [(.sl 1 (.sym fun _=>zi ((leaL (moreD d m))).length) (fun ix=>[.int .i64 (.sym fun _=>((leaL (moreD d m))).getD ix.den.toNat 0)])),(.int .i64 (.sym fun _=>firmE (moreD d m)))]))from leave22 (moreD d m))
  have c23:=believe23 d
  have c23x:=(show FSpec Try.prog 23 [(.agg [(.sl 1 (.sym fun _=>zi (d.tw).length) (fun ix=>[.int .i64 (.sym fun _=>(d.tw).getD ix.den.toNat 0)])),(.sl 1 (.sym fun _=>zi (d.tm).length) (fun ix=>[.int .i64 (.sym fun _=>(d.tm).getD ix.den.toNat 0)])),(.sl 1 (.sym fun _=>zi (d.tv).length) (fun ix=>[(.sl 1 (.sym fun _=>zi ((d.tv).getD ix.den.toNat []).length) (fun jx=>[.int .i64 (.sym fun _=>((d.tv).getD ix.den.toNat []).getD jx.den.toNat 0)]))])),(.int .i64 (.sym fun _=>d.sn)),(.int .i64 (.sym fun _=>d.pn)),(.sl 4 (.sym fun _=>zi (d.ls).length) (fun ix=>[(.int .i64 (.sym fun _=>((d.ls).getD ix.den.toNat l0T).a)),(.int .i64 (.sym fun _=>((d.ls).getD ix.den.toNat l0T).b)),(.int .i64 (.sym fun _=>((d.ls).getD ix.den.toNat l0T).lo)),(.int .i64 (.sym fun _=>((d.ls).getD ix.den.toNat l0T).hi))])),(.sl 6 (.sym fun _=>zi ((d.fs++[m])).length) (fun ix=>[(.int .i64 (.sym fun _=>(((d.fs++[m])).getD ix.den.toNat f0T).p)),(.int .i64 (.sym fun _=>(((d.fs++[m])).getD ix.den.toNat f0T).s)),(.int .i64 (.sym fun _=>(((d.fs++[m])).getD ix.den.toNat f0T).wl)),(.int .i64 (.sym fun _=>(((d.fs++[m])).getD ix.den.toNat f0T).wh)),(.int .i64 (.sym fun _=>(((d.fs++[m])).getD ix.den.toNat f0T).ml)),(.int .i64 (.sym fun _=>(((d.fs++[m])).getD ix.den.toNat f0T).mh))]))])] [] (fun r _=>r=(.tup [(.sl 1 (.sym fun _=>zi ((belL (moreD d m))).length) (fun ix=>[.int .i64 (.sym fun _=>((belL (moreD d m))).getD ix.den.toNat 0)])),(.int .i64 (.sym fun _=>firmE (moreD d m)))]))from believe23 (moreD d m))
  have c20y:=lit_tD (ready20 d) h
  have c20z:=lit_tD ((show FSpec Try.prog 20 [(.agg [(.sl 1 (.sym fun _=>zi (d.tw).length) (fun ix=>[.int .i64 (.sym fun _=>(d.tw).getD ix.den.toNat 0)])),(.sl 1 (.sym fun _=>zi (d.tm).length) (fun ix=>[.int .i64 (.sym fun _=>(d.tm).getD ix.den.toNat 0)])),(.sl 1 (.sym fun _=>zi (d.tv).length) (fun ix=>[(.sl 1 (.sym fun _=>zi ((d.tv).getD ix.den.toNat []).length) (fun jx=>[.int .i64 (.sym fun _=>((d.tv).getD ix.den.toNat []).getD jx.den.toNat 0)]))])),(.int .i64 (.sym fun _=>d.sn)),(.int .i64 (.sym fun _=>d.pn)),(.sl 4 (.sym fun _=>zi (d.ls).length) (fun ix=>[(.int .i64 (.sym fun _=>((d.ls).getD ix.den.toNat l0T).a)),(.int .i64 (.sym fun _=>((d.ls).getD ix.den.toNat l0T).b)),(.int .i64 (.sym fun _=>((d.ls).getD ix.den.toNat l0T).lo)),(.int .i64 (.sym fun _=>((d.ls).getD ix.den.toNat l0T).hi))])),(.sl 6 (.sym fun _=>zi ((d.fs++[m])).length) (fun ix=>[(.int .i64 (.sym fun _=>(((d.fs++[m])).getD ix.den.toNat f0T).p)),(.int .i64 (.sym fun _=>(((d.fs++[m])).getD ix.den.toNat f0T).s)),(.int .i64 (.sym fun _=>(((d.fs++[m])).getD ix.den.toNat f0T).wl)),(.int .i64 (.sym fun _=>(((d.fs++[m])).getD ix.den.toNat f0T).wh)),(.int .i64 (.sym fun _=>(((d.fs++[m])).getD ix.den.toNat f0T).ml)),(.int .i64 (.sym fun _=>(((d.fs++[m])).getD ix.den.toNat f0T).mh))]))])] [] (fun r _=>r=(.bool (.sym fun _=>readyD (moreD d m))))from ready20 (moreD d m))) hx
  have hfx:=firm_with (fs:=d.fs++[m]) hF hX
  have e9:=firmE_9 hF hf
  have b1:=bnd_links hF hf
  have b2:=bnd_links hX (by show ¬firmE (withF d (d.fs++[m]))=0;rw [hfx];exact hf)
  have e9x:firmE (moreD d m)=9:=hfx.trans e9
  rw [b1.1,b1.2]at c21
  rw [b2.1,b2.2]at c21x
  rw [e9]at c22 c23
  rw [e9x]at c22x c23x
  refine FSpec.is fun R hR=>qW (sc:=sc4b) tyok mix Try.func4 rfl Try.call4 (by kernel_rfl) (by kernel_rfl) ?_
  generalize Try.prog=P at c12 c14 c14x c21 c21x c22 c22x c23 c23x c20y c20z⊢
  cbv
  repeat' (first
      |with_reducible refine hold ?_ ?_
      |with_reducible refine And.intro ?_ ?_
      | (with_reducible refine qS ?_ ?_ ?_
         try cbv)
      | (with_reducible refine qT ?_ ?_
         try cbv)
      |(with_reducible intro hcd;(try simp only [zA,zB,zC,zD,zE,zF,zG,zH,zI,zJ,zK,zL,zM,zN,zO,zP]at hcd);try cbv)
      | (refine qP ?_ (c20y) ?hfit
         case hfit=>((repeat' (first|exact qB|refine qD ?_ ?_|exact qE (by rfl)|exact qF (by rfl)|exact Fit.refl _|exact qA|refine qC ?_ rfl ?_));done)
         try cbv)
      | (refine qP ?_ (c12) ?hfit
         case hfit=>((repeat' (first|exact qB|refine qD ?_ ?_|exact qE (by rfl)|exact qF (by rfl)|exact Fit.refl _|exact qA|refine qC ?_ rfl ?_));done)
         try cbv)
      | (refine qP ?_ (c14) ?hfit
         case hfit=>((repeat' (first|exact qB|refine qD ?_ ?_|exact qE (by rfl)|exact qF (by rfl)|exact Fit.refl _|exact qA|refine qC ?_ rfl ?_));done)
         try cbv)
      | (refine qP ?_ (c21) ?hfit
         case hfit=>((repeat' (first|exact qB|refine qD ?_ ?_|exact qE (by rfl)|exact qF (by rfl)|exact Fit.refl _|exact qA|refine qC ?_ rfl ?_));done)
         try cbv)
      | (refine qP ?_ (c22) ?hfit
         case hfit=>((repeat' (first|exact qB|refine qD ?_ ?_|exact qE (by rfl)|exact qF (by rfl)|exact Fit.refl _|exact qA|refine qC ?_ rfl ?_));done)
         try cbv)
      | (refine qP ?_ (c23) ?hfit
         case hfit=>((repeat' (first|exact qB|refine qD ?_ ?_|exact qE (by rfl)|exact qF (by rfl)|exact Fit.refl _|exact qA|refine qC ?_ rfl ?_));done)
         try cbv)
      | (refine qP ?_ (c21x) ?hfit
         case hfit=>((repeat' (first|exact qB|refine qD ?_ ?_|exact qE (by rfl)|exact qF (by rfl)|exact Fit.refl _|exact qA|refine qC ?_ rfl ?_));done)
         try cbv)
      | (refine qP ?_ (c22x) ?hfit
         case hfit=>((repeat' (first|exact qB|refine qD ?_ ?_|exact qE (by rfl)|exact qF (by rfl)|exact Fit.refl _|exact qA|refine qC ?_ rfl ?_));done)
         try cbv)
      | (refine qP ?_ (c23x) ?hfit
         case hfit=>((repeat' (first|exact qB|refine qD ?_ ?_|exact qE (by rfl)|exact qF (by rfl)|exact Fit.refl _|exact qA|refine qC ?_ rfl ?_));done)
         try cbv)
      | (refine⟨fun ix=>[(.int .i64 (.sym fun _=>((d.fs).getD ix.den.toNat f0T).p)),(.int .i64 (.sym fun _=>((d.fs).getD ix.den.toNat f0T).s)),(.int .i64 (.sym fun _=>((d.fs).getD ix.den.toNat f0T).wl)),(.int .i64 (.sym fun _=>((d.fs).getD ix.den.toNat f0T).wh)),(.int .i64 (.sym fun _=>((d.fs).getD ix.den.toNat f0T).ml)),(.int .i64 (.sym fun _=>((d.fs).getD ix.den.toNat f0T).mh))],?_⟩
         cbv
         refine hold (hold_rowapp (by intro ix jx h0 h1 h2;(exfalso;(try simp only [qV]at *);(try simp only [zQ,zA,zB,zC,zD,zE,zF,zG,zH,zI,zJ,zK,zL,zM,zN,zO,zP,zR,zS]at *);omega)) (by intro ix jx h0 h1 h2;(have e3:jx.den.toNat=ix.den.toNat:=by((try simp only [qV]at *);(try simp only [zQ,zA,zB,zC,zD,zE,zF,zG,zH,zI,zJ,zK,zL,zM,zN,zO,zP,zR,zS]at *);omega));simp only [e3];exact Fit.refl _) (by(try simp only [qV]at *);(try simp only [zQ,zA,zB,zC,zD,zE,zF,zG,zH,zI,zJ,zK,zL,zM,zN,zO,zP,zR,zS]at *);omega)) (Or.inl ?_)
         try cbv)
      | (refine⟨fun ix=>[(.int .i64 (.sym fun _=>(((d.fs++[m])).getD ix.den.toNat f0T).p)),(.int .i64 (.sym fun _=>(((d.fs++[m])).getD ix.den.toNat f0T).s)),(.int .i64 (.sym fun _=>(((d.fs++[m])).getD ix.den.toNat f0T).wl)),(.int .i64 (.sym fun _=>(((d.fs++[m])).getD ix.den.toNat f0T).wh)),(.int .i64 (.sym fun _=>(((d.fs++[m])).getD ix.den.toNat f0T).ml)),(.int .i64 (.sym fun _=>(((d.fs++[m])).getD ix.den.toNat f0T).mh))],?_⟩
         cbv
         refine hold (hold_rowapp (by intro ix jx h0 h1 h2;(have e:=more_at (l:=d.fs) (x:=m) (i:=ix.den.toNat) (by(try simp only [qV]at *);(try simp only [zQ,zA,zB,zC,zD,zE,zF,zG,zH,zI,zJ,zK,zL,zM,zN,zO,zP,zR,zS]at *);omega));(have e3:jx.den.toNat=ix.den.toNat:=by rw [h2]);simp only [e3,e];exact Fit.refl _) (by intro ix jx h0 h1 h2;(have e:=more_new (l:=d.fs) (x:=m) (i:=jx.den.toNat) (by(try simp only [qV]at *);(try simp only [zQ,zA,zB,zC,zD,zE,zF,zG,zH,zI,zJ,zK,zL,zM,zN,zO,zP,zR,zS]at *);omega));simp only [e];exact(qC (qE rfl) rfl (qC (qE rfl) rfl (qC (qE rfl) rfl (qC (qE rfl) rfl (qC (qE rfl) rfl (qC (qE rfl) rfl qA))))))) (by(try simp only [qV]at *);(try simp only [zQ,zA,zB,zC,zD,zE,zF,zG,zH,zI,zJ,zK,zL,zM,zN,zO,zP,zR,zS]at *);omega)) (Or.inl ?_)
         try cbv)
      | ((first|(refine qR ?_ (c20z) rfl ?hfit;case hfit=>(cbv;(refine qD (qC (Fit.refl _) rfl (qC (Fit.refl _) rfl (qC (Fit.refl _) rfl (qC (Fit.refl _) rfl (qC (Fit.refl _) rfl (qC (Fit.refl _) rfl (qC ?_ rfl qA))))))) qB;refine fit_sl (by(try simp only [qV]at *);(try simp only [zQ,zA,zB,zC,zD,zE,zF,zG,zH,zI,zJ,zK,zL,zM,zN,zO,zP,zR,zS]at *);(try simp only [List.length_append,List.length_cons,List.length_nil]);omega) (fun _ _ _=>Fit.refl _));done))|(refine⟨none,?_⟩;refine qR ?_ (c20z) rfl ?hfit;case hfit=>(cbv;(refine qD (qC (Fit.refl _) rfl (qC (Fit.refl _) rfl (qC (Fit.refl _) rfl (qC (Fit.refl _) rfl (qC (Fit.refl _) rfl (qC (Fit.refl _) rfl (qC ?_ rfl qA))))))) qB;refine fit_sl (by(try simp only [qV]at *);(try simp only [zQ,zA,zB,zC,zD,zE,zF,zG,zH,zI,zJ,zK,zL,zM,zN,zO,zP,zR,zS]at *);(try simp only [List.length_append,List.length_cons,List.length_nil]);omega) (fun _ _ _=>Fit.refl _));done)))
         try cbv)
      | (refine⟨some [],(9:Nat),?_⟩
         cbv
         refine setl_k ?_ (c14x) (by cbv;(refine qD (qC (Fit.refl _) rfl (qC (Fit.refl _) rfl (qC (Fit.refl _) rfl (qC (Fit.refl _) rfl (qC (Fit.refl _) rfl (qC (Fit.refl _) rfl (qC ?_ rfl qA))))))) qB;refine fit_sl (by(try simp only [qV]at *);(try simp only [zQ,zA,zB,zC,zD,zE,zF,zG,zH,zI,zJ,zK,zL,zM,zN,zO,zP,zR,zS]at *);(try simp only [List.length_append,List.length_cons,List.length_nil]);omega) (fun _ _ _=>Fit.refl _)))
         try cbv
         fail_if_success (show False))
      | (refine qP ?_ (c14x) ?hfit
         case hfit=>((refine qD (qC (Fit.refl _) rfl (qC (Fit.refl _) rfl (qC (Fit.refl _) rfl (qC (Fit.refl _) rfl (qC (Fit.refl _) rfl (qC (Fit.refl _) rfl (qC ?_ rfl qA))))))) qB;refine fit_sl (by(try simp only [qV]at *);(try simp only [zQ,zA,zB,zC,zD,zE,zF,zG,zH,zI,zJ,zK,zL,zM,zN,zO,zP,zR,zS]at *);(try simp only [List.length_append,List.length_cons,List.length_nil]);omega) (fun _ _ _=>Fit.refl _));done)
         try cbv)
      |fail)
  all_goals first
    |trivial
    |((try simp only [qV]at *);(try simp only [zQ,zA,zB,zC,zD,zE,zF,zG,zH,zI,zJ,zK,zL,zM,zN,zO,zP,zR,zS]at *);first|(refine qN ?_;omega)|(simp only [Hold];omega))
    |(subst hR;(repeat' (first|exact qA|exact qB|refine qC ?_ rfl ?_|refine qD ?_ ?_|exact qE (by rfl)|exact qF (by rfl)|exact Fit.refl _|exact qG _|(refine qE ?_;(try simp only [qV]at *);simp only [zQ,zA,zB,zC,zD,zE,zF,zG,zH,zI,zJ,zK,zL,zM,zN,zO,zP,zR,zS]at *;omega)));done)
    |((try simp only [qV]at *);(try simp only [zQ,zA,zB,zC,zD,zE,zF,zG,zH,zI,zJ,zK,zL,zM,zN,zO,zP,zR,zS]at *);simp only [Hold];first|assumption|omega|exact⟨by omega,by omega⟩|(refine qN ?_;omega))
    |(exfalso;exact(hcd rfl).elim)
    |(exfalso;(try simp only [qV]at *);(try simp only [zQ,zA,zB,zC,zD,zE,zF,zG,zH,zI,zJ,zK,zL,zM,zN,zO,zP,zR,zS]at *);(try simp only [allB_t,allB_f,inB_t,inB_f,ofB_t,ofB_f,linkB_t,linkB_f,factB_t,factB_f]at *);omega)
    |(simp only [Hold];decide)
    |skip
set_option maxHeartbeats 1000000 in
theorem law4A (d:Dsp)(m:FaT)(hz:d.fs.length*48≤140737488351232)(h:readyD d=true)(hx:readyD (moreD d m)=true)(hf:firmE d=0)(he:bndE d=0)(hg:bndE (moreD d m)=0):FSpec Try.prog 4 [(dspS d),(.agg [(.int .i64 (.sym fun _=>m.p)),(.int .i64 (.sym fun _=>m.s)),(.int .i64 (.sym fun _=>m.wl)),(.int .i64 (.sym fun _=>m.wh)),(.int .i64 (.sym fun _=>m.ml)),(.int .i64 (.sym fun _=>m.mh))])] [] (fun r _=>r=(.bool (.lit true))):=by
  have c12:=awake12
  have hth:=thinD_t.1 (readyD_t.1 h).1
  have hthx:=thinD_t.1 (readyD_t.1 hx).1
  have hF:=(readyD_t.1 h).2
  have hX:=(readyD_t.1 hx).2
  have f6:=(faultD_iff.1 hF).f6
  have s1:=(faultD_iff.1 hF).s1
  have s3:=(faultD_iff.1 hF).s3
  have c14:=dispute14 d hth.1 (by omega) (by omega)
  have c14x:=(show FSpec Try.prog 14 [(.agg [(.sl 1 (.sym fun _=>zi (d.tw).length) (fun ix=>[.int .i64 (.sym fun _=>(d.tw).getD ix.den.toNat 0)])),(.sl 1 (.sym fun _=>zi (d.tm).length) (fun ix=>[.int .i64 (.sym fun _=>(d.tm).getD ix.den.toNat 0)])),(.sl 1 (.sym fun _=>zi (d.tv).length) (fun ix=>[(.sl 1 (.sym fun _=>zi ((d.tv).getD ix.den.toNat []).length) (fun jx=>[.int .i64 (.sym fun _=>((d.tv).getD ix.den.toNat []).getD jx.den.toNat 0)]))])),(.int .i64 (.sym fun _=>d.sn)),(.int .i64 (.sym fun _=>d.pn)),(.sl 4 (.sym fun _=>zi (d.ls).length) (fun ix=>[(.int .i64 (.sym fun _=>((d.ls).getD ix.den.toNat l0T).a)),(.int .i64 (.sym fun _=>((d.ls).getD ix.den.toNat l0T).b)),(.int .i64 (.sym fun _=>((d.ls).getD ix.den.toNat l0T).lo)),(.int .i64 (.sym fun _=>((d.ls).getD ix.den.toNat l0T).hi))])),(.sl 6 (.sym fun _=>zi ((d.fs++[m])).length) (fun ix=>[(.int .i64 (.sym fun _=>(((d.fs++[m])).getD ix.den.toNat f0T).p)),(.int .i64 (.sym fun _=>(((d.fs++[m])).getD ix.den.toNat f0T).s)),(.int .i64 (.sym fun _=>(((d.fs++[m])).getD ix.den.toNat f0T).wl)),(.int .i64 (.sym fun _=>(((d.fs++[m])).getD ix.den.toNat f0T).wh)),(.int .i64 (.sym fun _=>(((d.fs++[m])).getD ix.den.toNat f0T).ml)),(.int .i64 (.sym fun _=>(((d.fs++[m])).getD ix.den.toNat f0T).mh))]))])] [] (fun r _=>r=(.agg [(.sl 1 (.sym fun _=>zi (d.tw).length) (fun ix=>[.int .i64 (.sym fun _=>(d.tw).getD ix.den.toNat 0)])),(.sl 1 (.sym fun _=>zi (d.tm).length) (fun ix=>[.int .i64 (.sym fun _=>(d.tm).getD ix.den.toNat 0)])),(.sl 1 (.sym fun _=>zi (d.tv).length) (fun ix=>[(.sl 1 (.sym fun _=>zi ((d.tv).getD ix.den.toNat []).length) (fun jx=>[.int .i64 (.sym fun _=>((d.tv).getD ix.den.toNat []).getD jx.den.toNat 0)]))])),(.int .i64 (.sym fun _=>d.sn)),(.int .i64 (.sym fun _=>d.pn)),(.sl 4 (.sym fun _=>zi (d.ls).length) (fun ix=>[(.int .i64 (.sym fun _=>((d.ls).getD ix.den.toNat l0T).a)),(.int .i64 (.sym fun _=>((d.ls).getD ix.den.toNat l0T).b)),(.int .i64 (.sym fun _=>((d.ls).getD ix.den.toNat l0T).lo)),(.int .i64 (.sym fun _=>((d.ls).getD ix.den.toNat l0T).hi))])),(.sl 6 (.sym fun _=>zi ((d.fs++[m])).length) (fun ix=>[(.int .i64 (.sym fun _=>(((d.fs++[m])).getD ix.den.toNat f0T).p)),(.int .i64 (.sym fun _=>(((d.fs++[m])).getD ix.den.toNat f0T).s)),(.int .i64 (.sym fun _=>(((d.fs++[m])).getD ix.den.toNat f0T).wl)),(.int .i64 (.sym fun _=>(((d.fs++[m])).getD ix.den.toNat f0T).wh)),(.int .i64 (.sym fun _=>(((d.fs++[m])).getD ix.den.toNat f0T).ml)),(.int .i64 (.sym fun _=>(((d.fs++[m])).getD ix.den.toNat f0T).mh))]))]))from dispute14 (moreD d m) hthx.1 (by show d.ls.length≤1000;omega) (by show(d.fs++[m]).length≤1000;rw [List.length_append];show d.fs.length+1≤1000;omega))
  have c21:=bounds21 d
  have c21x:=(show FSpec Try.prog 21 [(.agg [(.sl 1 (.sym fun _=>zi (d.tw).length) (fun ix=>[.int .i64 (.sym fun _=>(d.tw).getD ix.den.toNat 0)])),(.sl 1 (.sym fun _=>zi (d.tm).length) (fun ix=>[.int .i64 (.sym fun _=>(d.tm).getD ix.den.toNat 0)])),(.sl 1 (.sym fun _=>zi (d.tv).length) (fun ix=>[(.sl 1 (.sym fun _=>zi ((d.tv).getD ix.den.toNat []).length) (fun jx=>[.int .i64 (.sym fun _=>((d.tv).getD ix.den.toNat []).getD jx.den.toNat 0)]))])),(.int .i64 (.sym fun _=>d.sn)),(.int .i64 (.sym fun _=>d.pn)),(.sl 4 (.sym fun _=>zi (d.ls).length) (fun ix=>[(.int .i64 (.sym fun _=>((d.ls).getD ix.den.toNat l0T).a)),(.int .i64 (.sym fun _=>((d.ls).getD ix.den.toNat l0T).b)),(.int .i64 (.sym fun _=>((d.ls).getD ix.den.toNat l0T).lo)),(.int .i64 (.sym fun _=>((d.ls).getD ix.den.toNat l0T).hi))])),(.sl 6 (.sym fun _=>zi ((d.fs++[m])).length) (fun ix=>[(.int .i64 (.sym fun _=>(((d.fs++[m])).getD ix.den.toNat f0T).p)),(.int .i64 (.sym fun _=>(((d.fs++[m])).getD ix.den.toNat f0T).s)),(.int .i64 (.sym fun _=>(((d.fs++[m])).getD ix.den.toNat f0T).wl)),(.int .i64 (.sym fun _=>(((d.fs++[m])).getD ix.den.toNat f0T).wh)),(.int .i64 (.sym fun _=>(((d.fs++[m])).getD ix.den.toNat f0T).ml)),(.int .i64 (.sym fun _=>(((d.fs++[m])).getD ix.den.toNat f0T).mh))]))])] [] (fun r _=>r=(.tup [(.sl 2 (.sym fun _=>bndN (moreD d m)) (fun ix=>[(.int .i64 (.sym fun _=>loT (moreD d m) [] ix.den.toNat)),(.int .i64 (.sym fun _=>hiT (moreD d m) [] ix.den.toNat))])),(.int .i64 (.sym fun _=>bndE (moreD d m)))]))from bounds21 (moreD d m))
  have c22:=leave22 d
  have c22x:=(show FSpec Try.prog 22 [(.agg [(.sl 1 (.sym fun _=>zi (d.tw).length) (fun ix=>[.int .i64 (.sym fun _=>(d.tw).getD ix.den.toNat 0)])),(.sl 1 (.sym fun _=>zi (d.tm).length) (fun ix=>[.int .i64 (.sym fun _=>(d.tm).getD ix.den.toNat 0)])),(.sl 1 (.sym fun _=>zi (d.tv).length) (fun ix=>[(.sl 1 (.sym fun _=>zi ((d.tv).getD ix.den.toNat []).length) (fun jx=>[.int .i64 (.sym fun _=>((d.tv).getD ix.den.toNat []).getD jx.den.toNat 0)]))])),(.int .i64 (.sym fun _=>d.sn)),(.int .i64 (.sym fun _=>d.pn)),(.sl 4 (.sym fun _=>zi (d.ls).length) (fun ix=>[(.int .i64 (.sym fun _=>((d.ls).getD ix.den.toNat l0T).a)),(.int .i64 (.sym fun _=>((d.ls).getD ix.den.toNat l0T).b)),(.int .i64 (.sym fun _=>((d.ls).getD ix.den.toNat l0T).lo)),(.int .i64 (.sym fun _=>((d.ls).getD ix.den.toNat l0T).hi))])),(.sl 6 (.sym fun _=>zi ((d.fs++[m])).length) (fun ix=>[(.int .i64 (.sym fun _=>(((d.fs++[m])).getD ix.den.toNat f0T).p)),(.int .i64 (.sym fun _=>(((d.fs++[m])).getD ix.den.toNat f0T).s)),(.int .i64 (.sym fun _=>(((d.fs++[m])).getD ix.den.toNat f0T).wl)),(.int .i64 (.sym fun _=>(((d.fs++[m])).getD ix.den.toNat f0T).wh)),(.int .i64 (.sym fun _=>(((d.fs++[m])).getD ix.den.toNat f0T).ml)),(.int .i64 (.sym fun _=>(((d.fs++[m])).getD ix.den.toNat f0T).mh))]))])] [] (fun r _=>r=(.tup [(.sl 1 (.sym fun _=>zi ((leaL (moreD d m))).length) (fun ix=>[.int .i64 (.sym fun _=>((leaL (moreD d m))).getD ix.den.toNat 0)])),(.int .i64 (.sym fun _=>firmE (moreD d m)))]))from leave22 (moreD d m))
  have c23:=believe23 d
  have c23x:=(show FSpec Try.prog 23 [(.agg [(.sl 1 (.sym fun _=>zi (d.tw).length) (fun ix=>[.int .i64 (.sym fun _=>(d.tw).getD ix.den.toNat 0)])),(.sl 1 (.sym fun _=>zi (d.tm).length) (fun ix=>[.int .i64 (.sym fun _=>(d.tm).getD ix.den.toNat 0)])),(.sl 1 (.sym fun _=>zi (d.tv).length) (fun ix=>[(.sl 1 (.sym fun _=>zi ((d.tv).getD ix.den.toNat []).length) (fun jx=>[.int .i64 (.sym fun _=>((d.tv).getD ix.den.toNat []).getD jx.den.toNat 0)]))])),(.int .i64 (.sym fun _=>d.sn)),(.int .i64 (.sym fun _=>d.pn)),(.sl 4 (.sym fun _=>zi (d.ls).length) (fun ix=>[(.int .i64 (.sym fun _=>((d.ls).getD ix.den.toNat l0T).a)),(.int .i64 (.sym fun _=>((d.ls).getD ix.den.toNat l0T).b)),(.int .i64 (.sym fun _=>((d.ls).getD ix.den.toNat l0T).lo)),(.int .i64 (.sym fun _=>((d.ls).getD ix.den.toNat l0T).hi))])),(.sl 6 (.sym fun _=>zi ((d.fs++[m])).length) (fun ix=>[(.int .i64 (.sym fun _=>(((d.fs++[m])).getD ix.den.toNat f0T).p)),(.int .i64 (.sym fun _=>(((d.fs++[m])).getD ix.den.toNat f0T).s)),(.int .i64 (.sym fun _=>(((d.fs++[m])).getD ix.den.toNat f0T).wl)),(.int .i64 (.sym fun _=>(((d.fs++[m])).getD ix.den.toNat f0T).wh)),(.int .i64 (.sym fun _=>(((d.fs++[m])).getD ix.den.toNat f0T).ml)),(.int .i64 (.sym fun _=>(((d.fs++[m])).getD ix.den.toNat f0T).mh))]))])] [] (fun r _=>r=(.tup [(.sl 1 (.sym fun _=>zi ((belL (moreD d m))).length) (fun ix=>[.int .i64 (.sym fun _=>((belL (moreD d m))).getD ix.den.toNat 0)])),(.int .i64 (.sym fun _=>firmE (moreD d m)))]))from believe23 (moreD d m))
  have c20y:=lit_tD (ready20 d) h
  have c20z:=lit_tD ((show FSpec Try.prog 20 [(.agg [(.sl 1 (.sym fun _=>zi (d.tw).length) (fun ix=>[.int .i64 (.sym fun _=>(d.tw).getD ix.den.toNat 0)])),(.sl 1 (.sym fun _=>zi (d.tm).length) (fun ix=>[.int .i64 (.sym fun _=>(d.tm).getD ix.den.toNat 0)])),(.sl 1 (.sym fun _=>zi (d.tv).length) (fun ix=>[(.sl 1 (.sym fun _=>zi ((d.tv).getD ix.den.toNat []).length) (fun jx=>[.int .i64 (.sym fun _=>((d.tv).getD ix.den.toNat []).getD jx.den.toNat 0)]))])),(.int .i64 (.sym fun _=>d.sn)),(.int .i64 (.sym fun _=>d.pn)),(.sl 4 (.sym fun _=>zi (d.ls).length) (fun ix=>[(.int .i64 (.sym fun _=>((d.ls).getD ix.den.toNat l0T).a)),(.int .i64 (.sym fun _=>((d.ls).getD ix.den.toNat l0T).b)),(.int .i64 (.sym fun _=>((d.ls).getD ix.den.toNat l0T).lo)),(.int .i64 (.sym fun _=>((d.ls).getD ix.den.toNat l0T).hi))])),(.sl 6 (.sym fun _=>zi ((d.fs++[m])).length) (fun ix=>[(.int .i64 (.sym fun _=>(((d.fs++[m])).getD ix.den.toNat f0T).p)),(.int .i64 (.sym fun _=>(((d.fs++[m])).getD ix.den.toNat f0T).s)),(.int .i64 (.sym fun _=>(((d.fs++[m])).getD ix.den.toNat f0T).wl)),(.int .i64 (.sym fun _=>(((d.fs++[m])).getD ix.den.toNat f0T).wh)),(.int .i64 (.sym fun _=>(((d.fs++[m])).getD ix.den.toNat f0T).ml)),(.int .i64 (.sym fun _=>(((d.fs++[m])).getD ix.den.toNat f0T).mh))]))])] [] (fun r _=>r=(.bool (.sym fun _=>readyD (moreD d m))))from ready20 (moreD d m))) hx
  have hfx:=firm_with (fs:=d.fs++[m]) hF hX
  have e9x:firmE (moreD d m)=0:=hfx.trans hf
  have hm:=more_law hf hX
  have l1:=bnd_lea hf
  have l2:=bnd_lea e9x
  rw [bndN_z he,he]at c21
  rw [he]at l1
  rw [bndN_z hg,hg]at c21x
  rw [hg]at l2
  rw [hf]at c22 c23
  rw [e9x]at c22x c23x
  obtain⟨l,hl⟩:∃l,l=leaL d:=⟨_,rfl⟩
  obtain⟨k,hk⟩:∃k,k=leaL (moreD d m):=⟨_,rfl⟩
  obtain⟨p,hp⟩:∃p,p=belL d:=⟨_,rfl⟩
  obtain⟨q,hq⟩:∃q,q=belL (moreD d m):=⟨_,rfl⟩
  rw [←hl,←hk,←hp,←hq]at hm
  rw [←hl]at c22 l1
  rw [←hk]at c22x l2
  rw [←hp]at c23
  rw [←hq]at c23x
  have m1:l.length≤k.length:=hm.1.1
  have m2:k.length≤l.length+1:=hm.1.2
  have m3:p.length≤q.length:=hm.2.1
  have m4:q.length≤p.length+1:=hm.2.2
  have hd1:(decide True==decide (zi l.length=0))=true:=by simp only [zi_den];by_cases q:l.length=0<;>simp [q]at l1⊢
  have hd2:(decide True==decide (zi k.length=0))=true:=by simp only [zi_den];by_cases q:k.length=0<;>simp [q]at l2⊢
  clear l1 l2 hm
  have m5:l.length≤d.fs.length:=hl▸asc_len (lea_asc hf)
  have m6:p.length≤d.pn.toNat:=hp▸asc_len (bel_asc hf)
  have p4:=(faultD_iff.1 hF).p4
  have hb:=more_bd hF hX hg
  have c24:=inside24 d.sn.toNat (loT (moreD d m) []) (hiT (moreD d m) []) (loT d []) (hiT d []) (by omega) (fun i hi=>hb.2 i hi)
  refine FSpec.is fun R hR=>qW (sc:=sc4b) tyok mix Try.func4 rfl Try.call4 (by kernel_rfl) (by kernel_rfl) ?_
  generalize Try.prog=P at c12 c14 c14x c21 c21x c22 c22x c23 c23x c20y c20z c24⊢
  cbv
  repeat' (first
      |(with_reducible intro hcd;exfalso;(try simp only [zQ,zA,zB,zC,zD,zE,zF,zG,zH,zI,zJ,zK,zL,zM,zN,zO,zP,zR,zS]at hcd);omega)
      |(with_reducible intro hcd;(try simp only [zA,zB,zC,zD,zE,zF,zG,zH,zI,zJ,zK,zL,zM,zN,zO,zP]at hcd);exact Bool.noConfusion (hd1.symm.trans hcd))
      |(with_reducible intro hcd;(try simp only [zA,zB,zC,zD,zE,zF,zG,zH,zI,zJ,zK,zL,zM,zN,zO,zP]at hcd);exact Bool.noConfusion (hd2.symm.trans hcd))
      |with_reducible refine hold ?_ ?_
      |with_reducible refine And.intro ?_ ?_
      | (with_reducible refine qS ?_ ?_ ?_
         try cbv)
      | (with_reducible refine qT ?_ ?_
         try cbv)
      |(with_reducible intro hcd;(try simp only [zA,zB,zC,zD,zE,zF,zG,zH,zI,zJ,zK,zL,zM,zN,zO,zP]at hcd);try cbv)
      | (refine qP ?_ (c20y) ?hfit
         case hfit=>((repeat' (first|exact qB|refine qD ?_ ?_|exact qE (by rfl)|exact qF (by rfl)|exact Fit.refl _|exact qA|refine qC ?_ rfl ?_));done)
         try cbv)
      | (refine qP ?_ (c12) ?hfit
         case hfit=>((repeat' (first|exact qB|refine qD ?_ ?_|exact qE (by rfl)|exact qF (by rfl)|exact Fit.refl _|exact qA|refine qC ?_ rfl ?_));done)
         try cbv)
      | (refine qP ?_ (c14) ?hfit
         case hfit=>((repeat' (first|exact qB|refine qD ?_ ?_|exact qE (by rfl)|exact qF (by rfl)|exact Fit.refl _|exact qA|refine qC ?_ rfl ?_));done)
         try cbv)
      | (refine qP ?_ (c21) ?hfit
         case hfit=>((repeat' (first|exact qB|refine qD ?_ ?_|exact qE (by rfl)|exact qF (by rfl)|exact Fit.refl _|exact qA|refine qC ?_ rfl ?_));done)
         try cbv)
      | (refine qP ?_ (c22) ?hfit
         case hfit=>((repeat' (first|exact qB|refine qD ?_ ?_|exact qE (by rfl)|exact qF (by rfl)|exact Fit.refl _|exact qA|refine qC ?_ rfl ?_));done)
         try cbv)
      | (refine qP ?_ (c23) ?hfit
         case hfit=>((repeat' (first|exact qB|refine qD ?_ ?_|exact qE (by rfl)|exact qF (by rfl)|exact Fit.refl _|exact qA|refine qC ?_ rfl ?_));done)
         try cbv)
      | (refine qP ?_ (c21x) ?hfit
         case hfit=>((repeat' (first|exact qB|refine qD ?_ ?_|exact qE (by rfl)|exact qF (by rfl)|exact Fit.refl _|exact qA|refine qC ?_ rfl ?_));done)
         try cbv)
      | (refine qP ?_ (c22x) ?hfit
         case hfit=>((repeat' (first|exact qB|refine qD ?_ ?_|exact qE (by rfl)|exact qF (by rfl)|exact Fit.refl _|exact qA|refine qC ?_ rfl ?_));done)
         try cbv)
      | (refine qP ?_ (c23x) ?hfit
         case hfit=>((repeat' (first|exact qB|refine qD ?_ ?_|exact qE (by rfl)|exact qF (by rfl)|exact Fit.refl _|exact qA|refine qC ?_ rfl ?_));done)
         try cbv)
      | (refine qP ?_ (c24) ?hfit
         case hfit=>((repeat' (first|exact qB|refine qD ?_ ?_|exact qE (by rfl)|exact qF (by rfl)|exact Fit.refl _|exact qA|refine qC ?_ rfl ?_));done)
         try cbv)
      | (refine⟨fun ix=>[(.int .i64 (.sym fun _=>((d.fs).getD ix.den.toNat f0T).p)),(.int .i64 (.sym fun _=>((d.fs).getD ix.den.toNat f0T).s)),(.int .i64 (.sym fun _=>((d.fs).getD ix.den.toNat f0T).wl)),(.int .i64 (.sym fun _=>((d.fs).getD ix.den.toNat f0T).wh)),(.int .i64 (.sym fun _=>((d.fs).getD ix.den.toNat f0T).ml)),(.int .i64 (.sym fun _=>((d.fs).getD ix.den.toNat f0T).mh))],?_⟩
         cbv
         refine hold (hold_rowapp (by intro ix jx h0 h1 h2;(exfalso;(try simp only [qV]at *);(try simp only [zQ,zA,zB,zC,zD,zE,zF,zG,zH,zI,zJ,zK,zL,zM,zN,zO,zP,zR,zS]at *);omega)) (by intro ix jx h0 h1 h2;(have e3:jx.den.toNat=ix.den.toNat:=by((try simp only [qV]at *);(try simp only [zQ,zA,zB,zC,zD,zE,zF,zG,zH,zI,zJ,zK,zL,zM,zN,zO,zP,zR,zS]at *);omega));simp only [e3];exact Fit.refl _) (by(try simp only [qV]at *);(try simp only [zQ,zA,zB,zC,zD,zE,zF,zG,zH,zI,zJ,zK,zL,zM,zN,zO,zP,zR,zS]at *);omega)) (Or.inl ?_)
         try cbv)
      | (refine⟨fun ix=>[(.int .i64 (.sym fun _=>(((d.fs++[m])).getD ix.den.toNat f0T).p)),(.int .i64 (.sym fun _=>(((d.fs++[m])).getD ix.den.toNat f0T).s)),(.int .i64 (.sym fun _=>(((d.fs++[m])).getD ix.den.toNat f0T).wl)),(.int .i64 (.sym fun _=>(((d.fs++[m])).getD ix.den.toNat f0T).wh)),(.int .i64 (.sym fun _=>(((d.fs++[m])).getD ix.den.toNat f0T).ml)),(.int .i64 (.sym fun _=>(((d.fs++[m])).getD ix.den.toNat f0T).mh))],?_⟩
         cbv
         refine hold (hold_rowapp (by intro ix jx h0 h1 h2;(have e:=more_at (l:=d.fs) (x:=m) (i:=ix.den.toNat) (by(try simp only [qV]at *);(try simp only [zQ,zA,zB,zC,zD,zE,zF,zG,zH,zI,zJ,zK,zL,zM,zN,zO,zP,zR,zS]at *);omega));(have e3:jx.den.toNat=ix.den.toNat:=by rw [h2]);simp only [e3,e];exact Fit.refl _) (by intro ix jx h0 h1 h2;(have e:=more_new (l:=d.fs) (x:=m) (i:=jx.den.toNat) (by(try simp only [qV]at *);(try simp only [zQ,zA,zB,zC,zD,zE,zF,zG,zH,zI,zJ,zK,zL,zM,zN,zO,zP,zR,zS]at *);omega));simp only [e];exact(qC (qE rfl) rfl (qC (qE rfl) rfl (qC (qE rfl) rfl (qC (qE rfl) rfl (qC (qE rfl) rfl (qC (qE rfl) rfl qA))))))) (by(try simp only [qV]at *);(try simp only [zQ,zA,zB,zC,zD,zE,zF,zG,zH,zI,zJ,zK,zL,zM,zN,zO,zP,zR,zS]at *);omega)) (Or.inl ?_)
         try cbv)
      | ((first|(refine qR ?_ (c20z) rfl ?hfit;case hfit=>(cbv;(refine qD (qC (Fit.refl _) rfl (qC (Fit.refl _) rfl (qC (Fit.refl _) rfl (qC (Fit.refl _) rfl (qC (Fit.refl _) rfl (qC (Fit.refl _) rfl (qC ?_ rfl qA))))))) qB;refine fit_sl (by(try simp only [qV]at *);(try simp only [zQ,zA,zB,zC,zD,zE,zF,zG,zH,zI,zJ,zK,zL,zM,zN,zO,zP,zR,zS]at *);(try simp only [List.length_append,List.length_cons,List.length_nil]);omega) (fun _ _ _=>Fit.refl _));done))|(refine⟨none,?_⟩;refine qR ?_ (c20z) rfl ?hfit;case hfit=>(cbv;(refine qD (qC (Fit.refl _) rfl (qC (Fit.refl _) rfl (qC (Fit.refl _) rfl (qC (Fit.refl _) rfl (qC (Fit.refl _) rfl (qC (Fit.refl _) rfl (qC ?_ rfl qA))))))) qB;refine fit_sl (by(try simp only [qV]at *);(try simp only [zQ,zA,zB,zC,zD,zE,zF,zG,zH,zI,zJ,zK,zL,zM,zN,zO,zP,zR,zS]at *);(try simp only [List.length_append,List.length_cons,List.length_nil]);omega) (fun _ _ _=>Fit.refl _));done)))
         try cbv)
      | (refine⟨some [],(9:Nat),?_⟩
         cbv
         refine setl_k ?_ (c14x) (by cbv;(refine qD (qC (Fit.refl _) rfl (qC (Fit.refl _) rfl (qC (Fit.refl _) rfl (qC (Fit.refl _) rfl (qC (Fit.refl _) rfl (qC (Fit.refl _) rfl (qC ?_ rfl qA))))))) qB;refine fit_sl (by(try simp only [qV]at *);(try simp only [zQ,zA,zB,zC,zD,zE,zF,zG,zH,zI,zJ,zK,zL,zM,zN,zO,zP,zR,zS]at *);(try simp only [List.length_append,List.length_cons,List.length_nil]);omega) (fun _ _ _=>Fit.refl _)))
         try cbv
         fail_if_success (show False))
      | (refine qP ?_ (c14x) ?hfit
         case hfit=>((refine qD (qC (Fit.refl _) rfl (qC (Fit.refl _) rfl (qC (Fit.refl _) rfl (qC (Fit.refl _) rfl (qC (Fit.refl _) rfl (qC (Fit.refl _) rfl (qC ?_ rfl qA))))))) qB;refine fit_sl (by(try simp only [qV]at *);(try simp only [zQ,zA,zB,zC,zD,zE,zF,zG,zH,zI,zJ,zK,zL,zM,zN,zO,zP,zR,zS]at *);(try simp only [List.length_append,List.length_cons,List.length_nil]);omega) (fun _ _ _=>Fit.refl _));done)
         try cbv)
      |fail)
  all_goals first
    |trivial
    |((try simp only [qV]at *);(try simp only [zQ,zA,zB,zC,zD,zE,zF,zG,zH,zI,zJ,zK,zL,zM,zN,zO,zP,zR,zS]at *);first|(refine qN ?_;omega)|(simp only [Hold];omega))
    |(subst hR;(repeat' (first|exact qA|exact qB|refine qC ?_ rfl ?_|refine qD ?_ ?_|exact qE (by rfl)|exact qF (by rfl)|exact Fit.refl _|exact qG _|(refine qE ?_;(try simp only [qV]at *);simp only [zQ,zA,zB,zC,zD,zE,zF,zG,zH,zI,zJ,zK,zL,zM,zN,zO,zP,zR,zS]at *;omega)));done)
    |((try simp only [qV]at *);(try simp only [zQ,zA,zB,zC,zD,zE,zF,zG,zH,zI,zJ,zK,zL,zM,zN,zO,zP,zR,zS]at *);simp only [Hold];first|assumption|omega|exact⟨by omega,by omega⟩|(refine qN ?_;omega))
    |(exfalso;exact(hcd rfl).elim)
    |(exfalso;(try simp only [qV]at *);(try simp only [zQ,zA,zB,zC,zD,zE,zF,zG,zH,zI,zJ,zK,zL,zM,zN,zO,zP,zR,zS]at *);(try simp only [allB_t,allB_f,inB_t,inB_f,ofB_t,ofB_f,linkB_t,linkB_f,factB_t,factB_f]at *);omega)
    |(simp only [Hold];decide)
    |skip
set_option maxHeartbeats 1000000 in
theorem law4B (d:Dsp)(m:FaT)(hz:d.fs.length*48≤140737488351232)(h:readyD d=true)(hx:readyD (moreD d m)=true)(hf:firmE d=0)(he:bndE d=0)(hg:bndE (moreD d m)=11):FSpec Try.prog 4 [(dspS d),(.agg [(.int .i64 (.sym fun _=>m.p)),(.int .i64 (.sym fun _=>m.s)),(.int .i64 (.sym fun _=>m.wl)),(.int .i64 (.sym fun _=>m.wh)),(.int .i64 (.sym fun _=>m.ml)),(.int .i64 (.sym fun _=>m.mh))])] [] (fun r _=>r=(.bool (.lit true))):=by
  have c12:=awake12
  have hth:=thinD_t.1 (readyD_t.1 h).1
  have hthx:=thinD_t.1 (readyD_t.1 hx).1
  have hF:=(readyD_t.1 h).2
  have hX:=(readyD_t.1 hx).2
  have f6:=(faultD_iff.1 hF).f6
  have s1:=(faultD_iff.1 hF).s1
  have s3:=(faultD_iff.1 hF).s3
  have c14:=dispute14 d hth.1 (by omega) (by omega)
  have c14x:=(show FSpec Try.prog 14 [(.agg [(.sl 1 (.sym fun _=>zi (d.tw).length) (fun ix=>[.int .i64 (.sym fun _=>(d.tw).getD ix.den.toNat 0)])),(.sl 1 (.sym fun _=>zi (d.tm).length) (fun ix=>[.int .i64 (.sym fun _=>(d.tm).getD ix.den.toNat 0)])),(.sl 1 (.sym fun _=>zi (d.tv).length) (fun ix=>[(.sl 1 (.sym fun _=>zi ((d.tv).getD ix.den.toNat []).length) (fun jx=>[.int .i64 (.sym fun _=>((d.tv).getD ix.den.toNat []).getD jx.den.toNat 0)]))])),(.int .i64 (.sym fun _=>d.sn)),(.int .i64 (.sym fun _=>d.pn)),(.sl 4 (.sym fun _=>zi (d.ls).length) (fun ix=>[(.int .i64 (.sym fun _=>((d.ls).getD ix.den.toNat l0T).a)),(.int .i64 (.sym fun _=>((d.ls).getD ix.den.toNat l0T).b)),(.int .i64 (.sym fun _=>((d.ls).getD ix.den.toNat l0T).lo)),(.int .i64 (.sym fun _=>((d.ls).getD ix.den.toNat l0T).hi))])),(.sl 6 (.sym fun _=>zi ((d.fs++[m])).length) (fun ix=>[(.int .i64 (.sym fun _=>(((d.fs++[m])).getD ix.den.toNat f0T).p)),(.int .i64 (.sym fun _=>(((d.fs++[m])).getD ix.den.toNat f0T).s)),(.int .i64 (.sym fun _=>(((d.fs++[m])).getD ix.den.toNat f0T).wl)),(.int .i64 (.sym fun _=>(((d.fs++[m])).getD ix.den.toNat f0T).wh)),(.int .i64 (.sym fun _=>(((d.fs++[m])).getD ix.den.toNat f0T).ml)),(.int .i64 (.sym fun _=>(((d.fs++[m])).getD ix.den.toNat f0T).mh))]))])] [] (fun r _=>r=(.agg [(.sl 1 (.sym fun _=>zi (d.tw).length) (fun ix=>[.int .i64 (.sym fun _=>(d.tw).getD ix.den.toNat 0)])),(.sl 1 (.sym fun _=>zi (d.tm).length) (fun ix=>[.int .i64 (.sym fun _=>(d.tm).getD ix.den.toNat 0)])),(.sl 1 (.sym fun _=>zi (d.tv).length) (fun ix=>[(.sl 1 (.sym fun _=>zi ((d.tv).getD ix.den.toNat []).length) (fun jx=>[.int .i64 (.sym fun _=>((d.tv).getD ix.den.toNat []).getD jx.den.toNat 0)]))])),(.int .i64 (.sym fun _=>d.sn)),(.int .i64 (.sym fun _=>d.pn)),(.sl 4 (.sym fun _=>zi (d.ls).length) (fun ix=>[(.int .i64 (.sym fun _=>((d.ls).getD ix.den.toNat l0T).a)),(.int .i64 (.sym fun _=>((d.ls).getD ix.den.toNat l0T).b)),(.int .i64 (.sym fun _=>((d.ls).getD ix.den.toNat l0T).lo)),(.int .i64 (.sym fun _=>((d.ls).getD ix.den.toNat l0T).hi))])),(.sl 6 (.sym fun _=>zi ((d.fs++[m])).length) (fun ix=>[(.int .i64 (.sym fun _=>(((d.fs++[m])).getD ix.den.toNat f0T).p)),(.int .i64 (.sym fun _=>(((d.fs++[m])).getD ix.den.toNat f0T).s)),(.int .i64 (.sym fun _=>(((d.fs++[m])).getD ix.den.toNat f0T).wl)),(.int .i64 (.sym fun _=>(((d.fs++[m])).getD ix.den.toNat f0T).wh)),(.int .i64 (.sym fun _=>(((d.fs++[m])).getD ix.den.toNat f0T).ml)),(.int .i64 (.sym fun _=>(((d.fs++[m])).getD ix.den.toNat f0T).mh))]))]))from dispute14 (moreD d m) hthx.1 (by show d.ls.length≤1000;omega) (by show(d.fs++[m]).length≤1000;rw [List.length_append];show d.fs.length+1≤1000;omega))
  have c21:=bounds21 d
  have c21x:=(show FSpec Try.prog 21 [(.agg [(.sl 1 (.sym fun _=>zi (d.tw).length) (fun ix=>[.int .i64 (.sym fun _=>(d.tw).getD ix.den.toNat 0)])),(.sl 1 (.sym fun _=>zi (d.tm).length) (fun ix=>[.int .i64 (.sym fun _=>(d.tm).getD ix.den.toNat 0)])),(.sl 1 (.sym fun _=>zi (d.tv).length) (fun ix=>[(.sl 1 (.sym fun _=>zi ((d.tv).getD ix.den.toNat []).length) (fun jx=>[.int .i64 (.sym fun _=>((d.tv).getD ix.den.toNat []).getD jx.den.toNat 0)]))])),(.int .i64 (.sym fun _=>d.sn)),(.int .i64 (.sym fun _=>d.pn)),(.sl 4 (.sym fun _=>zi (d.ls).length) (fun ix=>[(.int .i64 (.sym fun _=>((d.ls).getD ix.den.toNat l0T).a)),(.int .i64 (.sym fun _=>((d.ls).getD ix.den.toNat l0T).b)),(.int .i64 (.sym fun _=>((d.ls).getD ix.den.toNat l0T).lo)),(.int .i64 (.sym fun _=>((d.ls).getD ix.den.toNat l0T).hi))])),(.sl 6 (.sym fun _=>zi ((d.fs++[m])).length) (fun ix=>[(.int .i64 (.sym fun _=>(((d.fs++[m])).getD ix.den.toNat f0T).p)),(.int .i64 (.sym fun _=>(((d.fs++[m])).getD ix.den.toNat f0T).s)),(.int .i64 (.sym fun _=>(((d.fs++[m])).getD ix.den.toNat f0T).wl)),(.int .i64 (.sym fun _=>(((d.fs++[m])).getD ix.den.toNat f0T).wh)),(.int .i64 (.sym fun _=>(((d.fs++[m])).getD ix.den.toNat f0T).ml)),(.int .i64 (.sym fun _=>(((d.fs++[m])).getD ix.den.toNat f0T).mh))]))])] [] (fun r _=>r=(.tup [(.sl 2 (.sym fun _=>bndN (moreD d m)) (fun ix=>[(.int .i64 (.sym fun _=>loT (moreD d m) [] ix.den.toNat)),(.int .i64 (.sym fun _=>hiT (moreD d m) [] ix.den.toNat))])),(.int .i64 (.sym fun _=>bndE (moreD d m)))]))from bounds21 (moreD d m))
  have c22:=leave22 d
  have c22x:=(show FSpec Try.prog 22 [(.agg [(.sl 1 (.sym fun _=>zi (d.tw).length) (fun ix=>[.int .i64 (.sym fun _=>(d.tw).getD ix.den.toNat 0)])),(.sl 1 (.sym fun _=>zi (d.tm).length) (fun ix=>[.int .i64 (.sym fun _=>(d.tm).getD ix.den.toNat 0)])),(.sl 1 (.sym fun _=>zi (d.tv).length) (fun ix=>[(.sl 1 (.sym fun _=>zi ((d.tv).getD ix.den.toNat []).length) (fun jx=>[.int .i64 (.sym fun _=>((d.tv).getD ix.den.toNat []).getD jx.den.toNat 0)]))])),(.int .i64 (.sym fun _=>d.sn)),(.int .i64 (.sym fun _=>d.pn)),(.sl 4 (.sym fun _=>zi (d.ls).length) (fun ix=>[(.int .i64 (.sym fun _=>((d.ls).getD ix.den.toNat l0T).a)),(.int .i64 (.sym fun _=>((d.ls).getD ix.den.toNat l0T).b)),(.int .i64 (.sym fun _=>((d.ls).getD ix.den.toNat l0T).lo)),(.int .i64 (.sym fun _=>((d.ls).getD ix.den.toNat l0T).hi))])),(.sl 6 (.sym fun _=>zi ((d.fs++[m])).length) (fun ix=>[(.int .i64 (.sym fun _=>(((d.fs++[m])).getD ix.den.toNat f0T).p)),(.int .i64 (.sym fun _=>(((d.fs++[m])).getD ix.den.toNat f0T).s)),(.int .i64 (.sym fun _=>(((d.fs++[m])).getD ix.den.toNat f0T).wl)),(.int .i64 (.sym fun _=>(((d.fs++[m])).getD ix.den.toNat f0T).wh)),(.int .i64 (.sym fun _=>(((d.fs++[m])).getD ix.den.toNat f0T).ml)),(.int .i64 (.sym fun _=>(((d.fs++[m])).getD ix.den.toNat f0T).mh))]))])] [] (fun r _=>r=(.tup [(.sl 1 (.sym fun _=>zi ((leaL (moreD d m))).length) (fun ix=>[.int .i64 (.sym fun _=>((leaL (moreD d m))).getD ix.den.toNat 0)])),(.int .i64 (.sym fun _=>firmE (moreD d m)))]))from leave22 (moreD d m))
  have c23:=believe23 d
  have c23x:=(show FSpec Try.prog 23 [(.agg [(.sl 1 (.sym fun _=>zi (d.tw).length) (fun ix=>[.int .i64 (.sym fun _=>(d.tw).getD ix.den.toNat 0)])),(.sl 1 (.sym fun _=>zi (d.tm).length) (fun ix=>[.int .i64 (.sym fun _=>(d.tm).getD ix.den.toNat 0)])),(.sl 1 (.sym fun _=>zi (d.tv).length) (fun ix=>[(.sl 1 (.sym fun _=>zi ((d.tv).getD ix.den.toNat []).length) (fun jx=>[.int .i64 (.sym fun _=>((d.tv).getD ix.den.toNat []).getD jx.den.toNat 0)]))])),(.int .i64 (.sym fun _=>d.sn)),(.int .i64 (.sym fun _=>d.pn)),(.sl 4 (.sym fun _=>zi (d.ls).length) (fun ix=>[(.int .i64 (.sym fun _=>((d.ls).getD ix.den.toNat l0T).a)),(.int .i64 (.sym fun _=>((d.ls).getD ix.den.toNat l0T).b)),(.int .i64 (.sym fun _=>((d.ls).getD ix.den.toNat l0T).lo)),(.int .i64 (.sym fun _=>((d.ls).getD ix.den.toNat l0T).hi))])),(.sl 6 (.sym fun _=>zi ((d.fs++[m])).length) (fun ix=>[(.int .i64 (.sym fun _=>(((d.fs++[m])).getD ix.den.toNat f0T).p)),(.int .i64 (.sym fun _=>(((d.fs++[m])).getD ix.den.toNat f0T).s)),(.int .i64 (.sym fun _=>(((d.fs++[m])).getD ix.den.toNat f0T).wl)),(.int .i64 (.sym fun _=>(((d.fs++[m])).getD ix.den.toNat f0T).wh)),(.int .i64 (.sym fun _=>(((d.fs++[m])).getD ix.den.toNat f0T).ml)),(.int .i64 (.sym fun _=>(((d.fs++[m])).getD ix.den.toNat f0T).mh))]))])] [] (fun r _=>r=(.tup [(.sl 1 (.sym fun _=>zi ((belL (moreD d m))).length) (fun ix=>[.int .i64 (.sym fun _=>((belL (moreD d m))).getD ix.den.toNat 0)])),(.int .i64 (.sym fun _=>firmE (moreD d m)))]))from believe23 (moreD d m))
  have c20y:=lit_tD (ready20 d) h
  have c20z:=lit_tD ((show FSpec Try.prog 20 [(.agg [(.sl 1 (.sym fun _=>zi (d.tw).length) (fun ix=>[.int .i64 (.sym fun _=>(d.tw).getD ix.den.toNat 0)])),(.sl 1 (.sym fun _=>zi (d.tm).length) (fun ix=>[.int .i64 (.sym fun _=>(d.tm).getD ix.den.toNat 0)])),(.sl 1 (.sym fun _=>zi (d.tv).length) (fun ix=>[(.sl 1 (.sym fun _=>zi ((d.tv).getD ix.den.toNat []).length) (fun jx=>[.int .i64 (.sym fun _=>((d.tv).getD ix.den.toNat []).getD jx.den.toNat 0)]))])),(.int .i64 (.sym fun _=>d.sn)),(.int .i64 (.sym fun _=>d.pn)),(.sl 4 (.sym fun _=>zi (d.ls).length) (fun ix=>[(.int .i64 (.sym fun _=>((d.ls).getD ix.den.toNat l0T).a)),(.int .i64 (.sym fun _=>((d.ls).getD ix.den.toNat l0T).b)),(.int .i64 (.sym fun _=>((d.ls).getD ix.den.toNat l0T).lo)),(.int .i64 (.sym fun _=>((d.ls).getD ix.den.toNat l0T).hi))])),(.sl 6 (.sym fun _=>zi ((d.fs++[m])).length) (fun ix=>[(.int .i64 (.sym fun _=>(((d.fs++[m])).getD ix.den.toNat f0T).p)),(.int .i64 (.sym fun _=>(((d.fs++[m])).getD ix.den.toNat f0T).s)),(.int .i64 (.sym fun _=>(((d.fs++[m])).getD ix.den.toNat f0T).wl)),(.int .i64 (.sym fun _=>(((d.fs++[m])).getD ix.den.toNat f0T).wh)),(.int .i64 (.sym fun _=>(((d.fs++[m])).getD ix.den.toNat f0T).ml)),(.int .i64 (.sym fun _=>(((d.fs++[m])).getD ix.den.toNat f0T).mh))]))])] [] (fun r _=>r=(.bool (.sym fun _=>readyD (moreD d m))))from ready20 (moreD d m))) hx
  have hfx:=firm_with (fs:=d.fs++[m]) hF hX
  have e9x:firmE (moreD d m)=0:=hfx.trans hf
  have hm:=more_law hf hX
  have l1:=bnd_lea hf
  have l2:=bnd_lea e9x
  rw [bndN_z he,he]at c21
  rw [he]at l1
  rw [bndN_0 hg,hg]at c21x
  rw [hg]at l2
  rw [hf]at c22 c23
  rw [e9x]at c22x c23x
  obtain⟨l,hl⟩:∃l,l=leaL d:=⟨_,rfl⟩
  obtain⟨k,hk⟩:∃k,k=leaL (moreD d m):=⟨_,rfl⟩
  obtain⟨p,hp⟩:∃p,p=belL d:=⟨_,rfl⟩
  obtain⟨q,hq⟩:∃q,q=belL (moreD d m):=⟨_,rfl⟩
  rw [←hl,←hk,←hp,←hq]at hm
  rw [←hl]at c22 l1
  rw [←hk]at c22x l2
  rw [←hp]at c23
  rw [←hq]at c23x
  have m1:l.length≤k.length:=hm.1.1
  have m2:k.length≤l.length+1:=hm.1.2
  have m3:p.length≤q.length:=hm.2.1
  have m4:q.length≤p.length+1:=hm.2.2
  have hd1:(decide True==decide (zi l.length=0))=true:=by simp only [zi_den];by_cases q:l.length=0<;>simp [q]at l1⊢
  have hd2:(decide ((11:Int)=0)==decide (zi k.length=0))=true:=by simp only [zi_den];by_cases q:k.length=0<;>simp [q]at l2⊢
  clear l1 l2 hm
  have m5:l.length≤d.fs.length:=hl▸asc_len (lea_asc hf)
  have m6:p.length≤d.pn.toNat:=hp▸asc_len (bel_asc hf)
  have p4:=(faultD_iff.1 hF).p4
  refine FSpec.is fun R hR=>qW (sc:=sc4b) tyok mix Try.func4 rfl Try.call4 (by kernel_rfl) (by kernel_rfl) ?_
  generalize Try.prog=P at c12 c14 c14x c21 c21x c22 c22x c23 c23x c20y c20z⊢
  cbv
  repeat' (first
      |(with_reducible intro hcd;exfalso;(try simp only [zQ,zA,zB,zC,zD,zE,zF,zG,zH,zI,zJ,zK,zL,zM,zN,zO,zP,zR,zS]at hcd);omega)
      |(with_reducible intro hcd;(try simp only [zA,zB,zC,zD,zE,zF,zG,zH,zI,zJ,zK,zL,zM,zN,zO,zP]at hcd);exact Bool.noConfusion (hd1.symm.trans hcd))
      |(with_reducible intro hcd;(try simp only [zA,zB,zC,zD,zE,zF,zG,zH,zI,zJ,zK,zL,zM,zN,zO,zP]at hcd);exact Bool.noConfusion (hd2.symm.trans hcd))
      |with_reducible refine hold ?_ ?_
      |with_reducible refine And.intro ?_ ?_
      | (with_reducible refine qS ?_ ?_ ?_
         try cbv)
      | (with_reducible refine qT ?_ ?_
         try cbv)
      |(with_reducible intro hcd;(try simp only [zA,zB,zC,zD,zE,zF,zG,zH,zI,zJ,zK,zL,zM,zN,zO,zP]at hcd);try cbv)
      | (refine qP ?_ (c20y) ?hfit
         case hfit=>((repeat' (first|exact qB|refine qD ?_ ?_|exact qE (by rfl)|exact qF (by rfl)|exact Fit.refl _|exact qA|refine qC ?_ rfl ?_));done)
         try cbv)
      | (refine qP ?_ (c12) ?hfit
         case hfit=>((repeat' (first|exact qB|refine qD ?_ ?_|exact qE (by rfl)|exact qF (by rfl)|exact Fit.refl _|exact qA|refine qC ?_ rfl ?_));done)
         try cbv)
      | (refine qP ?_ (c14) ?hfit
         case hfit=>((repeat' (first|exact qB|refine qD ?_ ?_|exact qE (by rfl)|exact qF (by rfl)|exact Fit.refl _|exact qA|refine qC ?_ rfl ?_));done)
         try cbv)
      | (refine qP ?_ (c21) ?hfit
         case hfit=>((repeat' (first|exact qB|refine qD ?_ ?_|exact qE (by rfl)|exact qF (by rfl)|exact Fit.refl _|exact qA|refine qC ?_ rfl ?_));done)
         try cbv)
      | (refine qP ?_ (c22) ?hfit
         case hfit=>((repeat' (first|exact qB|refine qD ?_ ?_|exact qE (by rfl)|exact qF (by rfl)|exact Fit.refl _|exact qA|refine qC ?_ rfl ?_));done)
         try cbv)
      | (refine qP ?_ (c23) ?hfit
         case hfit=>((repeat' (first|exact qB|refine qD ?_ ?_|exact qE (by rfl)|exact qF (by rfl)|exact Fit.refl _|exact qA|refine qC ?_ rfl ?_));done)
         try cbv)
      | (refine qP ?_ (c21x) ?hfit
         case hfit=>((repeat' (first|exact qB|refine qD ?_ ?_|exact qE (by rfl)|exact qF (by rfl)|exact Fit.refl _|exact qA|refine qC ?_ rfl ?_));done)
         try cbv)
      | (refine qP ?_ (c22x) ?hfit
         case hfit=>((repeat' (first|exact qB|refine qD ?_ ?_|exact qE (by rfl)|exact qF (by rfl)|exact Fit.refl _|exact qA|refine qC ?_ rfl ?_));done)
         try cbv)
      | (refine qP ?_ (c23x) ?hfit
         case hfit=>((repeat' (first|exact qB|refine qD ?_ ?_|exact qE (by rfl)|exact qF (by rfl)|exact Fit.refl _|exact qA|refine qC ?_ rfl ?_));done)
         try cbv)
      | (refine⟨fun ix=>[(.int .i64 (.sym fun _=>((d.fs).getD ix.den.toNat f0T).p)),(.int .i64 (.sym fun _=>((d.fs).getD ix.den.toNat f0T).s)),(.int .i64 (.sym fun _=>((d.fs).getD ix.den.toNat f0T).wl)),(.int .i64 (.sym fun _=>((d.fs).getD ix.den.toNat f0T).wh)),(.int .i64 (.sym fun _=>((d.fs).getD ix.den.toNat f0T).ml)),(.int .i64 (.sym fun _=>((d.fs).getD ix.den.toNat f0T).mh))],?_⟩
         cbv
         refine hold (hold_rowapp (by intro ix jx h0 h1 h2;(exfalso;(try simp only [qV]at *);(try simp only [zQ,zA,zB,zC,zD,zE,zF,zG,zH,zI,zJ,zK,zL,zM,zN,zO,zP,zR,zS]at *);omega)) (by intro ix jx h0 h1 h2;(have e3:jx.den.toNat=ix.den.toNat:=by((try simp only [qV]at *);(try simp only [zQ,zA,zB,zC,zD,zE,zF,zG,zH,zI,zJ,zK,zL,zM,zN,zO,zP,zR,zS]at *);omega));simp only [e3];exact Fit.refl _) (by(try simp only [qV]at *);(try simp only [zQ,zA,zB,zC,zD,zE,zF,zG,zH,zI,zJ,zK,zL,zM,zN,zO,zP,zR,zS]at *);omega)) (Or.inl ?_)
         try cbv)
      | (refine⟨fun ix=>[(.int .i64 (.sym fun _=>(((d.fs++[m])).getD ix.den.toNat f0T).p)),(.int .i64 (.sym fun _=>(((d.fs++[m])).getD ix.den.toNat f0T).s)),(.int .i64 (.sym fun _=>(((d.fs++[m])).getD ix.den.toNat f0T).wl)),(.int .i64 (.sym fun _=>(((d.fs++[m])).getD ix.den.toNat f0T).wh)),(.int .i64 (.sym fun _=>(((d.fs++[m])).getD ix.den.toNat f0T).ml)),(.int .i64 (.sym fun _=>(((d.fs++[m])).getD ix.den.toNat f0T).mh))],?_⟩
         cbv
         refine hold (hold_rowapp (by intro ix jx h0 h1 h2;(have e:=more_at (l:=d.fs) (x:=m) (i:=ix.den.toNat) (by(try simp only [qV]at *);(try simp only [zQ,zA,zB,zC,zD,zE,zF,zG,zH,zI,zJ,zK,zL,zM,zN,zO,zP,zR,zS]at *);omega));(have e3:jx.den.toNat=ix.den.toNat:=by rw [h2]);simp only [e3,e];exact Fit.refl _) (by intro ix jx h0 h1 h2;(have e:=more_new (l:=d.fs) (x:=m) (i:=jx.den.toNat) (by(try simp only [qV]at *);(try simp only [zQ,zA,zB,zC,zD,zE,zF,zG,zH,zI,zJ,zK,zL,zM,zN,zO,zP,zR,zS]at *);omega));simp only [e];exact(qC (qE rfl) rfl (qC (qE rfl) rfl (qC (qE rfl) rfl (qC (qE rfl) rfl (qC (qE rfl) rfl (qC (qE rfl) rfl qA))))))) (by(try simp only [qV]at *);(try simp only [zQ,zA,zB,zC,zD,zE,zF,zG,zH,zI,zJ,zK,zL,zM,zN,zO,zP,zR,zS]at *);omega)) (Or.inl ?_)
         try cbv)
      | ((first|(refine qR ?_ (c20z) rfl ?hfit;case hfit=>(cbv;(refine qD (qC (Fit.refl _) rfl (qC (Fit.refl _) rfl (qC (Fit.refl _) rfl (qC (Fit.refl _) rfl (qC (Fit.refl _) rfl (qC (Fit.refl _) rfl (qC ?_ rfl qA))))))) qB;refine fit_sl (by(try simp only [qV]at *);(try simp only [zQ,zA,zB,zC,zD,zE,zF,zG,zH,zI,zJ,zK,zL,zM,zN,zO,zP,zR,zS]at *);(try simp only [List.length_append,List.length_cons,List.length_nil]);omega) (fun _ _ _=>Fit.refl _));done))|(refine⟨none,?_⟩;refine qR ?_ (c20z) rfl ?hfit;case hfit=>(cbv;(refine qD (qC (Fit.refl _) rfl (qC (Fit.refl _) rfl (qC (Fit.refl _) rfl (qC (Fit.refl _) rfl (qC (Fit.refl _) rfl (qC (Fit.refl _) rfl (qC ?_ rfl qA))))))) qB;refine fit_sl (by(try simp only [qV]at *);(try simp only [zQ,zA,zB,zC,zD,zE,zF,zG,zH,zI,zJ,zK,zL,zM,zN,zO,zP,zR,zS]at *);(try simp only [List.length_append,List.length_cons,List.length_nil]);omega) (fun _ _ _=>Fit.refl _));done)))
         try cbv)
      | (refine⟨some [],(9:Nat),?_⟩
         cbv
         refine setl_k ?_ (c14x) (by cbv;(refine qD (qC (Fit.refl _) rfl (qC (Fit.refl _) rfl (qC (Fit.refl _) rfl (qC (Fit.refl _) rfl (qC (Fit.refl _) rfl (qC (Fit.refl _) rfl (qC ?_ rfl qA))))))) qB;refine fit_sl (by(try simp only [qV]at *);(try simp only [zQ,zA,zB,zC,zD,zE,zF,zG,zH,zI,zJ,zK,zL,zM,zN,zO,zP,zR,zS]at *);(try simp only [List.length_append,List.length_cons,List.length_nil]);omega) (fun _ _ _=>Fit.refl _)))
         try cbv
         fail_if_success (show False))
      | (refine qP ?_ (c14x) ?hfit
         case hfit=>((refine qD (qC (Fit.refl _) rfl (qC (Fit.refl _) rfl (qC (Fit.refl _) rfl (qC (Fit.refl _) rfl (qC (Fit.refl _) rfl (qC (Fit.refl _) rfl (qC ?_ rfl qA))))))) qB;refine fit_sl (by(try simp only [qV]at *);(try simp only [zQ,zA,zB,zC,zD,zE,zF,zG,zH,zI,zJ,zK,zL,zM,zN,zO,zP,zR,zS]at *);(try simp only [List.length_append,List.length_cons,List.length_nil]);omega) (fun _ _ _=>Fit.refl _));done)
         try cbv)
      |fail)
  all_goals first
    |trivial
    |((try simp only [qV]at *);(try simp only [zQ,zA,zB,zC,zD,zE,zF,zG,zH,zI,zJ,zK,zL,zM,zN,zO,zP,zR,zS]at *);first|(refine qN ?_;omega)|(simp only [Hold];omega))
    |(subst hR;(repeat' (first|exact qA|exact qB|refine qC ?_ rfl ?_|refine qD ?_ ?_|exact qE (by rfl)|exact qF (by rfl)|exact Fit.refl _|exact qG _|(refine qE ?_;(try simp only [qV]at *);simp only [zQ,zA,zB,zC,zD,zE,zF,zG,zH,zI,zJ,zK,zL,zM,zN,zO,zP,zR,zS]at *;omega)));done)
    |((try simp only [qV]at *);(try simp only [zQ,zA,zB,zC,zD,zE,zF,zG,zH,zI,zJ,zK,zL,zM,zN,zO,zP,zR,zS]at *);simp only [Hold];first|assumption|omega|exact⟨by omega,by omega⟩|(refine qN ?_;omega))
    |(exfalso;exact(hcd rfl).elim)
    |(exfalso;(try simp only [qV]at *);(try simp only [zQ,zA,zB,zC,zD,zE,zF,zG,zH,zI,zJ,zK,zL,zM,zN,zO,zP,zR,zS]at *);(try simp only [allB_t,allB_f,inB_t,inB_f,ofB_t,ofB_f,linkB_t,linkB_f,factB_t,factB_f]at *);omega)
    |(simp only [Hold];decide)
    |skip
set_option maxHeartbeats 1000000 in
theorem law4C (d:Dsp)(m:FaT)(hz:d.fs.length*48≤140737488351232)(h:readyD d=true)(hx:readyD (moreD d m)=true)(hf:firmE d=0)(he:bndE d=11)(hg:bndE (moreD d m)=11):FSpec Try.prog 4 [(dspS d),(.agg [(.int .i64 (.sym fun _=>m.p)),(.int .i64 (.sym fun _=>m.s)),(.int .i64 (.sym fun _=>m.wl)),(.int .i64 (.sym fun _=>m.wh)),(.int .i64 (.sym fun _=>m.ml)),(.int .i64 (.sym fun _=>m.mh))])] [] (fun r _=>r=(.bool (.lit true))):=by
  have c12:=awake12
  have hth:=thinD_t.1 (readyD_t.1 h).1
  have hthx:=thinD_t.1 (readyD_t.1 hx).1
  have hF:=(readyD_t.1 h).2
  have hX:=(readyD_t.1 hx).2
  have f6:=(faultD_iff.1 hF).f6
  have s1:=(faultD_iff.1 hF).s1
  have s3:=(faultD_iff.1 hF).s3
  have c14:=dispute14 d hth.1 (by omega) (by omega)
  have c14x:=(show FSpec Try.prog 14 [(.agg [(.sl 1 (.sym fun _=>zi (d.tw).length) (fun ix=>[.int .i64 (.sym fun _=>(d.tw).getD ix.den.toNat 0)])),(.sl 1 (.sym fun _=>zi (d.tm).length) (fun ix=>[.int .i64 (.sym fun _=>(d.tm).getD ix.den.toNat 0)])),(.sl 1 (.sym fun _=>zi (d.tv).length) (fun ix=>[(.sl 1 (.sym fun _=>zi ((d.tv).getD ix.den.toNat []).length) (fun jx=>[.int .i64 (.sym fun _=>((d.tv).getD ix.den.toNat []).getD jx.den.toNat 0)]))])),(.int .i64 (.sym fun _=>d.sn)),(.int .i64 (.sym fun _=>d.pn)),(.sl 4 (.sym fun _=>zi (d.ls).length) (fun ix=>[(.int .i64 (.sym fun _=>((d.ls).getD ix.den.toNat l0T).a)),(.int .i64 (.sym fun _=>((d.ls).getD ix.den.toNat l0T).b)),(.int .i64 (.sym fun _=>((d.ls).getD ix.den.toNat l0T).lo)),(.int .i64 (.sym fun _=>((d.ls).getD ix.den.toNat l0T).hi))])),(.sl 6 (.sym fun _=>zi ((d.fs++[m])).length) (fun ix=>[(.int .i64 (.sym fun _=>(((d.fs++[m])).getD ix.den.toNat f0T).p)),(.int .i64 (.sym fun _=>(((d.fs++[m])).getD ix.den.toNat f0T).s)),(.int .i64 (.sym fun _=>(((d.fs++[m])).getD ix.den.toNat f0T).wl)),(.int .i64 (.sym fun _=>(((d.fs++[m])).getD ix.den.toNat f0T).wh)),(.int .i64 (.sym fun _=>(((d.fs++[m])).getD ix.den.toNat f0T).ml)),(.int .i64 (.sym fun _=>(((d.fs++[m])).getD ix.den.toNat f0T).mh))]))])] [] (fun r _=>r=(.agg [(.sl 1 (.sym fun _=>zi (d.tw).length) (fun ix=>[.int .i64 (.sym fun _=>(d.tw).getD ix.den.toNat 0)])),(.sl 1 (.sym fun _=>zi (d.tm).length) (fun ix=>[.int .i64 (.sym fun _=>(d.tm).getD ix.den.toNat 0)])),(.sl 1 (.sym fun _=>zi (d.tv).length) (fun ix=>[(.sl 1 (.sym fun _=>zi ((d.tv).getD ix.den.toNat []).length) (fun jx=>[.int .i64 (.sym fun _=>((d.tv).getD ix.den.toNat []).getD jx.den.toNat 0)]))])),(.int .i64 (.sym fun _=>d.sn)),(.int .i64 (.sym fun _=>d.pn)),(.sl 4 (.sym fun _=>zi (d.ls).length) (fun ix=>[(.int .i64 (.sym fun _=>((d.ls).getD ix.den.toNat l0T).a)),(.int .i64 (.sym fun _=>((d.ls).getD ix.den.toNat l0T).b)),(.int .i64 (.sym fun _=>((d.ls).getD ix.den.toNat l0T).lo)),(.int .i64 (.sym fun _=>((d.ls).getD ix.den.toNat l0T).hi))])),(.sl 6 (.sym fun _=>zi ((d.fs++[m])).length) (fun ix=>[(.int .i64 (.sym fun _=>(((d.fs++[m])).getD ix.den.toNat f0T).p)),(.int .i64 (.sym fun _=>(((d.fs++[m])).getD ix.den.toNat f0T).s)),(.int .i64 (.sym fun _=>(((d.fs++[m])).getD ix.den.toNat f0T).wl)),(.int .i64 (.sym fun _=>(((d.fs++[m])).getD ix.den.toNat f0T).wh)),(.int .i64 (.sym fun _=>(((d.fs++[m])).getD ix.den.toNat f0T).ml)),(.int .i64 (.sym fun _=>(((d.fs++[m])).getD ix.den.toNat f0T).mh))]))]))from dispute14 (moreD d m) hthx.1 (by show d.ls.length≤1000;omega) (by show(d.fs++[m]).length≤1000;rw [List.length_append];show d.fs.length+1≤1000;omega))
  have c21:=bounds21 d
  have c21x:=(show FSpec Try.prog 21 [(.agg [(.sl 1 (.sym fun _=>zi (d.tw).length) (fun ix=>[.int .i64 (.sym fun _=>(d.tw).getD ix.den.toNat 0)])),(.sl 1 (.sym fun _=>zi (d.tm).length) (fun ix=>[.int .i64 (.sym fun _=>(d.tm).getD ix.den.toNat 0)])),(.sl 1 (.sym fun _=>zi (d.tv).length) (fun ix=>[(.sl 1 (.sym fun _=>zi ((d.tv).getD ix.den.toNat []).length) (fun jx=>[.int .i64 (.sym fun _=>((d.tv).getD ix.den.toNat []).getD jx.den.toNat 0)]))])),(.int .i64 (.sym fun _=>d.sn)),(.int .i64 (.sym fun _=>d.pn)),(.sl 4 (.sym fun _=>zi (d.ls).length) (fun ix=>[(.int .i64 (.sym fun _=>((d.ls).getD ix.den.toNat l0T).a)),(.int .i64 (.sym fun _=>((d.ls).getD ix.den.toNat l0T).b)),(.int .i64 (.sym fun _=>((d.ls).getD ix.den.toNat l0T).lo)),(.int .i64 (.sym fun _=>((d.ls).getD ix.den.toNat l0T).hi))])),(.sl 6 (.sym fun _=>zi ((d.fs++[m])).length) (fun ix=>[(.int .i64 (.sym fun _=>(((d.fs++[m])).getD ix.den.toNat f0T).p)),(.int .i64 (.sym fun _=>(((d.fs++[m])).getD ix.den.toNat f0T).s)),(.int .i64 (.sym fun _=>(((d.fs++[m])).getD ix.den.toNat f0T).wl)),(.int .i64 (.sym fun _=>(((d.fs++[m])).getD ix.den.toNat f0T).wh)),(.int .i64 (.sym fun _=>(((d.fs++[m])).getD ix.den.toNat f0T).ml)),(.int .i64 (.sym fun _=>(((d.fs++[m])).getD ix.den.toNat f0T).mh))]))])] [] (fun r _=>r=(.tup [(.sl 2 (.sym fun _=>bndN (moreD d m)) (fun ix=>[(.int .i64 (.sym fun _=>loT (moreD d m) [] ix.den.toNat)),(.int .i64 (.sym fun _=>hiT (moreD d m) [] ix.den.toNat))])),(.int .i64 (.sym fun _=>bndE (moreD d m)))]))from bounds21 (moreD d m))
  have c22:=leave22 d
  have c22x:=(show FSpec Try.prog 22 [(.agg [(.sl 1 (.sym fun _=>zi (d.tw).length) (fun ix=>[.int .i64 (.sym fun _=>(d.tw).getD ix.den.toNat 0)])),(.sl 1 (.sym fun _=>zi (d.tm).length) (fun ix=>[.int .i64 (.sym fun _=>(d.tm).getD ix.den.toNat 0)])),(.sl 1 (.sym fun _=>zi (d.tv).length) (fun ix=>[(.sl 1 (.sym fun _=>zi ((d.tv).getD ix.den.toNat []).length) (fun jx=>[.int .i64 (.sym fun _=>((d.tv).getD ix.den.toNat []).getD jx.den.toNat 0)]))])),(.int .i64 (.sym fun _=>d.sn)),(.int .i64 (.sym fun _=>d.pn)),(.sl 4 (.sym fun _=>zi (d.ls).length) (fun ix=>[(.int .i64 (.sym fun _=>((d.ls).getD ix.den.toNat l0T).a)),(.int .i64 (.sym fun _=>((d.ls).getD ix.den.toNat l0T).b)),(.int .i64 (.sym fun _=>((d.ls).getD ix.den.toNat l0T).lo)),(.int .i64 (.sym fun _=>((d.ls).getD ix.den.toNat l0T).hi))])),(.sl 6 (.sym fun _=>zi ((d.fs++[m])).length) (fun ix=>[(.int .i64 (.sym fun _=>(((d.fs++[m])).getD ix.den.toNat f0T).p)),(.int .i64 (.sym fun _=>(((d.fs++[m])).getD ix.den.toNat f0T).s)),(.int .i64 (.sym fun _=>(((d.fs++[m])).getD ix.den.toNat f0T).wl)),(.int .i64 (.sym fun _=>(((d.fs++[m])).getD ix.den.toNat f0T).wh)),(.int .i64 (.sym fun _=>(((d.fs++[m])).getD ix.den.toNat f0T).ml)),(.int .i64 (.sym fun _=>(((d.fs++[m])).getD ix.den.toNat f0T).mh))]))])] [] (fun r _=>r=(.tup [(.sl 1 (.sym fun _=>zi ((leaL (moreD d m))).length) (fun ix=>[.int .i64 (.sym fun _=>((leaL (moreD d m))).getD ix.den.toNat 0)])),(.int .i64 (.sym fun _=>firmE (moreD d m)))]))from leave22 (moreD d m))
  have c23:=believe23 d
  have c23x:=(show FSpec Try.prog 23 [(.agg [(.sl 1 (.sym fun _=>zi (d.tw).length) (fun ix=>[.int .i64 (.sym fun _=>(d.tw).getD ix.den.toNat 0)])),(.sl 1 (.sym fun _=>zi (d.tm).length) (fun ix=>[.int .i64 (.sym fun _=>(d.tm).getD ix.den.toNat 0)])),(.sl 1 (.sym fun _=>zi (d.tv).length) (fun ix=>[(.sl 1 (.sym fun _=>zi ((d.tv).getD ix.den.toNat []).length) (fun jx=>[.int .i64 (.sym fun _=>((d.tv).getD ix.den.toNat []).getD jx.den.toNat 0)]))])),(.int .i64 (.sym fun _=>d.sn)),(.int .i64 (.sym fun _=>d.pn)),(.sl 4 (.sym fun _=>zi (d.ls).length) (fun ix=>[(.int .i64 (.sym fun _=>((d.ls).getD ix.den.toNat l0T).a)),(.int .i64 (.sym fun _=>((d.ls).getD ix.den.toNat l0T).b)),(.int .i64 (.sym fun _=>((d.ls).getD ix.den.toNat l0T).lo)),(.int .i64 (.sym fun _=>((d.ls).getD ix.den.toNat l0T).hi))])),(.sl 6 (.sym fun _=>zi ((d.fs++[m])).length) (fun ix=>[(.int .i64 (.sym fun _=>(((d.fs++[m])).getD ix.den.toNat f0T).p)),(.int .i64 (.sym fun _=>(((d.fs++[m])).getD ix.den.toNat f0T).s)),(.int .i64 (.sym fun _=>(((d.fs++[m])).getD ix.den.toNat f0T).wl)),(.int .i64 (.sym fun _=>(((d.fs++[m])).getD ix.den.toNat f0T).wh)),(.int .i64 (.sym fun _=>(((d.fs++[m])).getD ix.den.toNat f0T).ml)),(.int .i64 (.sym fun _=>(((d.fs++[m])).getD ix.den.toNat f0T).mh))]))])] [] (fun r _=>r=(.tup [(.sl 1 (.sym fun _=>zi ((belL (moreD d m))).length) (fun ix=>[.int .i64 (.sym fun _=>((belL (moreD d m))).getD ix.den.toNat 0)])),(.int .i64 (.sym fun _=>firmE (moreD d m)))]))from believe23 (moreD d m))
  have c20y:=lit_tD (ready20 d) h
  have c20z:=lit_tD ((show FSpec Try.prog 20 [(.agg [(.sl 1 (.sym fun _=>zi (d.tw).length) (fun ix=>[.int .i64 (.sym fun _=>(d.tw).getD ix.den.toNat 0)])),(.sl 1 (.sym fun _=>zi (d.tm).length) (fun ix=>[.int .i64 (.sym fun _=>(d.tm).getD ix.den.toNat 0)])),(.sl 1 (.sym fun _=>zi (d.tv).length) (fun ix=>[(.sl 1 (.sym fun _=>zi ((d.tv).getD ix.den.toNat []).length) (fun jx=>[.int .i64 (.sym fun _=>((d.tv).getD ix.den.toNat []).getD jx.den.toNat 0)]))])),(.int .i64 (.sym fun _=>d.sn)),(.int .i64 (.sym fun _=>d.pn)),(.sl 4 (.sym fun _=>zi (d.ls).length) (fun ix=>[(.int .i64 (.sym fun _=>((d.ls).getD ix.den.toNat l0T).a)),(.int .i64 (.sym fun _=>((d.ls).getD ix.den.toNat l0T).b)),(.int .i64 (.sym fun _=>((d.ls).getD ix.den.toNat l0T).lo)),(.int .i64 (.sym fun _=>((d.ls).getD ix.den.toNat l0T).hi))])),(.sl 6 (.sym fun _=>zi ((d.fs++[m])).length) (fun ix=>[(.int .i64 (.sym fun _=>(((d.fs++[m])).getD ix.den.toNat f0T).p)),(.int .i64 (.sym fun _=>(((d.fs++[m])).getD ix.den.toNat f0T).s)),(.int .i64 (.sym fun _=>(((d.fs++[m])).getD ix.den.toNat f0T).wl)),(.int .i64 (.sym fun _=>(((d.fs++[m])).getD ix.den.toNat f0T).wh)),(.int .i64 (.sym fun _=>(((d.fs++[m])).getD ix.den.toNat f0T).ml)),(.int .i64 (.sym fun _=>(((d.fs++[m])).getD ix.den.toNat f0T).mh))]))])] [] (fun r _=>r=(.bool (.sym fun _=>readyD (moreD d m))))from ready20 (moreD d m))) hx
  have hfx:=firm_with (fs:=d.fs++[m]) hF hX
  have e9x:firmE (moreD d m)=0:=hfx.trans hf
  have hm:=more_law hf hX
  have l1:=bnd_lea hf
  have l2:=bnd_lea e9x
  rw [bndN_0 he,he]at c21
  rw [he]at l1
  rw [bndN_0 hg,hg]at c21x
  rw [hg]at l2
  rw [hf]at c22 c23
  rw [e9x]at c22x c23x
  obtain⟨l,hl⟩:∃l,l=leaL d:=⟨_,rfl⟩
  obtain⟨k,hk⟩:∃k,k=leaL (moreD d m):=⟨_,rfl⟩
  obtain⟨p,hp⟩:∃p,p=belL d:=⟨_,rfl⟩
  obtain⟨q,hq⟩:∃q,q=belL (moreD d m):=⟨_,rfl⟩
  rw [←hl,←hk,←hp,←hq]at hm
  rw [←hl]at c22 l1
  rw [←hk]at c22x l2
  rw [←hp]at c23
  rw [←hq]at c23x
  have m1:l.length≤k.length:=hm.1.1
  have m2:k.length≤l.length+1:=hm.1.2
  have m3:p.length≤q.length:=hm.2.1
  have m4:q.length≤p.length+1:=hm.2.2
  have hd1:(decide ((11:Int)=0)==decide (zi l.length=0))=true:=by simp only [zi_den];by_cases q:l.length=0<;>simp [q]at l1⊢
  have hd2:(decide ((11:Int)=0)==decide (zi k.length=0))=true:=by simp only [zi_den];by_cases q:k.length=0<;>simp [q]at l2⊢
  clear l1 l2 hm
  have m5:l.length≤d.fs.length:=hl▸asc_len (lea_asc hf)
  have m6:p.length≤d.pn.toNat:=hp▸asc_len (bel_asc hf)
  have p4:=(faultD_iff.1 hF).p4
  refine FSpec.is fun R hR=>qW (sc:=sc4b) tyok mix Try.func4 rfl Try.call4 (by kernel_rfl) (by kernel_rfl) ?_
  generalize Try.prog=P at c12 c14 c14x c21 c21x c22 c22x c23 c23x c20y c20z⊢
  cbv
  repeat' (first
      |(with_reducible intro hcd;exfalso;(try simp only [zQ,zA,zB,zC,zD,zE,zF,zG,zH,zI,zJ,zK,zL,zM,zN,zO,zP,zR,zS]at hcd);omega)
      |(with_reducible intro hcd;(try simp only [zA,zB,zC,zD,zE,zF,zG,zH,zI,zJ,zK,zL,zM,zN,zO,zP]at hcd);exact Bool.noConfusion (hd1.symm.trans hcd))
      |(with_reducible intro hcd;(try simp only [zA,zB,zC,zD,zE,zF,zG,zH,zI,zJ,zK,zL,zM,zN,zO,zP]at hcd);exact Bool.noConfusion (hd2.symm.trans hcd))
      |with_reducible refine hold ?_ ?_
      |with_reducible refine And.intro ?_ ?_
      | (with_reducible refine qS ?_ ?_ ?_
         try cbv)
      | (with_reducible refine qT ?_ ?_
         try cbv)
      |(with_reducible intro hcd;(try simp only [zA,zB,zC,zD,zE,zF,zG,zH,zI,zJ,zK,zL,zM,zN,zO,zP]at hcd);try cbv)
      | (refine qP ?_ (c20y) ?hfit
         case hfit=>((repeat' (first|exact qB|refine qD ?_ ?_|exact qE (by rfl)|exact qF (by rfl)|exact Fit.refl _|exact qA|refine qC ?_ rfl ?_));done)
         try cbv)
      | (refine qP ?_ (c12) ?hfit
         case hfit=>((repeat' (first|exact qB|refine qD ?_ ?_|exact qE (by rfl)|exact qF (by rfl)|exact Fit.refl _|exact qA|refine qC ?_ rfl ?_));done)
         try cbv)
      | (refine qP ?_ (c14) ?hfit
         case hfit=>((repeat' (first|exact qB|refine qD ?_ ?_|exact qE (by rfl)|exact qF (by rfl)|exact Fit.refl _|exact qA|refine qC ?_ rfl ?_));done)
         try cbv)
      | (refine qP ?_ (c21) ?hfit
         case hfit=>((repeat' (first|exact qB|refine qD ?_ ?_|exact qE (by rfl)|exact qF (by rfl)|exact Fit.refl _|exact qA|refine qC ?_ rfl ?_));done)
         try cbv)
      | (refine qP ?_ (c22) ?hfit
         case hfit=>((repeat' (first|exact qB|refine qD ?_ ?_|exact qE (by rfl)|exact qF (by rfl)|exact Fit.refl _|exact qA|refine qC ?_ rfl ?_));done)
         try cbv)
      | (refine qP ?_ (c23) ?hfit
         case hfit=>((repeat' (first|exact qB|refine qD ?_ ?_|exact qE (by rfl)|exact qF (by rfl)|exact Fit.refl _|exact qA|refine qC ?_ rfl ?_));done)
         try cbv)
      | (refine qP ?_ (c21x) ?hfit
         case hfit=>((repeat' (first|exact qB|refine qD ?_ ?_|exact qE (by rfl)|exact qF (by rfl)|exact Fit.refl _|exact qA|refine qC ?_ rfl ?_));done)
         try cbv)
      | (refine qP ?_ (c22x) ?hfit
         case hfit=>((repeat' (first|exact qB|refine qD ?_ ?_|exact qE (by rfl)|exact qF (by rfl)|exact Fit.refl _|exact qA|refine qC ?_ rfl ?_));done)
         try cbv)
      | (refine qP ?_ (c23x) ?hfit
         case hfit=>((repeat' (first|exact qB|refine qD ?_ ?_|exact qE (by rfl)|exact qF (by rfl)|exact Fit.refl _|exact qA|refine qC ?_ rfl ?_));done)
         try cbv)
      | (refine⟨fun ix=>[(.int .i64 (.sym fun _=>((d.fs).getD ix.den.toNat f0T).p)),(.int .i64 (.sym fun _=>((d.fs).getD ix.den.toNat f0T).s)),(.int .i64 (.sym fun _=>((d.fs).getD ix.den.toNat f0T).wl)),(.int .i64 (.sym fun _=>((d.fs).getD ix.den.toNat f0T).wh)),(.int .i64 (.sym fun _=>((d.fs).getD ix.den.toNat f0T).ml)),(.int .i64 (.sym fun _=>((d.fs).getD ix.den.toNat f0T).mh))],?_⟩
         cbv
         refine hold (hold_rowapp (by intro ix jx h0 h1 h2;(exfalso;(try simp only [qV]at *);(try simp only [zQ,zA,zB,zC,zD,zE,zF,zG,zH,zI,zJ,zK,zL,zM,zN,zO,zP,zR,zS]at *);omega)) (by intro ix jx h0 h1 h2;(have e3:jx.den.toNat=ix.den.toNat:=by((try simp only [qV]at *);(try simp only [zQ,zA,zB,zC,zD,zE,zF,zG,zH,zI,zJ,zK,zL,zM,zN,zO,zP,zR,zS]at *);omega));simp only [e3];exact Fit.refl _) (by(try simp only [qV]at *);(try simp only [zQ,zA,zB,zC,zD,zE,zF,zG,zH,zI,zJ,zK,zL,zM,zN,zO,zP,zR,zS]at *);omega)) (Or.inl ?_)
         try cbv)
      | (refine⟨fun ix=>[(.int .i64 (.sym fun _=>(((d.fs++[m])).getD ix.den.toNat f0T).p)),(.int .i64 (.sym fun _=>(((d.fs++[m])).getD ix.den.toNat f0T).s)),(.int .i64 (.sym fun _=>(((d.fs++[m])).getD ix.den.toNat f0T).wl)),(.int .i64 (.sym fun _=>(((d.fs++[m])).getD ix.den.toNat f0T).wh)),(.int .i64 (.sym fun _=>(((d.fs++[m])).getD ix.den.toNat f0T).ml)),(.int .i64 (.sym fun _=>(((d.fs++[m])).getD ix.den.toNat f0T).mh))],?_⟩
         cbv
         refine hold (hold_rowapp (by intro ix jx h0 h1 h2;(have e:=more_at (l:=d.fs) (x:=m) (i:=ix.den.toNat) (by(try simp only [qV]at *);(try simp only [zQ,zA,zB,zC,zD,zE,zF,zG,zH,zI,zJ,zK,zL,zM,zN,zO,zP,zR,zS]at *);omega));(have e3:jx.den.toNat=ix.den.toNat:=by rw [h2]);simp only [e3,e];exact Fit.refl _) (by intro ix jx h0 h1 h2;(have e:=more_new (l:=d.fs) (x:=m) (i:=jx.den.toNat) (by(try simp only [qV]at *);(try simp only [zQ,zA,zB,zC,zD,zE,zF,zG,zH,zI,zJ,zK,zL,zM,zN,zO,zP,zR,zS]at *);omega));simp only [e];exact(qC (qE rfl) rfl (qC (qE rfl) rfl (qC (qE rfl) rfl (qC (qE rfl) rfl (qC (qE rfl) rfl (qC (qE rfl) rfl qA))))))) (by(try simp only [qV]at *);(try simp only [zQ,zA,zB,zC,zD,zE,zF,zG,zH,zI,zJ,zK,zL,zM,zN,zO,zP,zR,zS]at *);omega)) (Or.inl ?_)
         try cbv)
      | ((first|(refine qR ?_ (c20z) rfl ?hfit;case hfit=>(cbv;(refine qD (qC (Fit.refl _) rfl (qC (Fit.refl _) rfl (qC (Fit.refl _) rfl (qC (Fit.refl _) rfl (qC (Fit.refl _) rfl (qC (Fit.refl _) rfl (qC ?_ rfl qA))))))) qB;refine fit_sl (by(try simp only [qV]at *);(try simp only [zQ,zA,zB,zC,zD,zE,zF,zG,zH,zI,zJ,zK,zL,zM,zN,zO,zP,zR,zS]at *);(try simp only [List.length_append,List.length_cons,List.length_nil]);omega) (fun _ _ _=>Fit.refl _));done))|(refine⟨none,?_⟩;refine qR ?_ (c20z) rfl ?hfit;case hfit=>(cbv;(refine qD (qC (Fit.refl _) rfl (qC (Fit.refl _) rfl (qC (Fit.refl _) rfl (qC (Fit.refl _) rfl (qC (Fit.refl _) rfl (qC (Fit.refl _) rfl (qC ?_ rfl qA))))))) qB;refine fit_sl (by(try simp only [qV]at *);(try simp only [zQ,zA,zB,zC,zD,zE,zF,zG,zH,zI,zJ,zK,zL,zM,zN,zO,zP,zR,zS]at *);(try simp only [List.length_append,List.length_cons,List.length_nil]);omega) (fun _ _ _=>Fit.refl _));done)))
         try cbv)
      | (refine⟨some [],(9:Nat),?_⟩
         cbv
         refine setl_k ?_ (c14x) (by cbv;(refine qD (qC (Fit.refl _) rfl (qC (Fit.refl _) rfl (qC (Fit.refl _) rfl (qC (Fit.refl _) rfl (qC (Fit.refl _) rfl (qC (Fit.refl _) rfl (qC ?_ rfl qA))))))) qB;refine fit_sl (by(try simp only [qV]at *);(try simp only [zQ,zA,zB,zC,zD,zE,zF,zG,zH,zI,zJ,zK,zL,zM,zN,zO,zP,zR,zS]at *);(try simp only [List.length_append,List.length_cons,List.length_nil]);omega) (fun _ _ _=>Fit.refl _)))
         try cbv
         fail_if_success (show False))
      | (refine qP ?_ (c14x) ?hfit
         case hfit=>((refine qD (qC (Fit.refl _) rfl (qC (Fit.refl _) rfl (qC (Fit.refl _) rfl (qC (Fit.refl _) rfl (qC (Fit.refl _) rfl (qC (Fit.refl _) rfl (qC ?_ rfl qA))))))) qB;refine fit_sl (by(try simp only [qV]at *);(try simp only [zQ,zA,zB,zC,zD,zE,zF,zG,zH,zI,zJ,zK,zL,zM,zN,zO,zP,zR,zS]at *);(try simp only [List.length_append,List.length_cons,List.length_nil]);omega) (fun _ _ _=>Fit.refl _));done)
         try cbv)
      |fail)
  all_goals first
    |trivial
    |((try simp only [qV]at *);(try simp only [zQ,zA,zB,zC,zD,zE,zF,zG,zH,zI,zJ,zK,zL,zM,zN,zO,zP,zR,zS]at *);first|(refine qN ?_;omega)|(simp only [Hold];omega))
    |(subst hR;(repeat' (first|exact qA|exact qB|refine qC ?_ rfl ?_|refine qD ?_ ?_|exact qE (by rfl)|exact qF (by rfl)|exact Fit.refl _|exact qG _|(refine qE ?_;(try simp only [qV]at *);simp only [zQ,zA,zB,zC,zD,zE,zF,zG,zH,zI,zJ,zK,zL,zM,zN,zO,zP,zR,zS]at *;omega)));done)
    |((try simp only [qV]at *);(try simp only [zQ,zA,zB,zC,zD,zE,zF,zG,zH,zI,zJ,zK,zL,zM,zN,zO,zP,zR,zS]at *);simp only [Hold];first|assumption|omega|exact⟨by omega,by omega⟩|(refine qN ?_;omega))
    |(exfalso;exact(hcd rfl).elim)
    |(exfalso;(try simp only [qV]at *);(try simp only [zQ,zA,zB,zC,zD,zE,zF,zG,zH,zI,zJ,zK,zL,zM,zN,zO,zP,zR,zS]at *);(try simp only [allB_t,allB_f,inB_t,inB_f,ofB_t,ofB_f,linkB_t,linkB_f,factB_t,factB_f]at *);omega)
    |(simp only [Hold];decide)
    |skip
theorem law4 (d:Dsp)(m:FaT)(hz:d.fs.length*48≤140737488351232):FSpec Try.prog 4 [(dspS d),(.agg [(.int .i64 (.sym fun _=>m.p)),(.int .i64 (.sym fun _=>m.s)),(.int .i64 (.sym fun _=>m.wl)),(.int .i64 (.sym fun _=>m.wh)),(.int .i64 (.sym fun _=>m.ml)),(.int .i64 (.sym fun _=>m.mh))])] [] (fun r _=>r = .bool (.lit true)):=by
  by_cases h:readyD d=true∧readyD (moreD d m)=true
  · obtain⟨h,hx⟩:=h
    by_cases hf:firmE d=0
    · have hX:=(readyD_t.1 hx).2
      have hfx:firmE (moreD d m)=0:=(firm_with (fs:=d.fs++[m]) (readyD_t.1 h).2 hX).trans hf
      rcases bnd_lea hfx with hg|hg
      · exact law4A d m hz h hx hf (more_bd (readyD_t.1 h).2 hX hg.1).1 hg.1
      · rcases bnd_lea hf with he|he
        · exact law4B d m hz h hx hf he.1 hg.1
        · exact law4C d m hz h hx hf he.1 hg.1
    · exact law4F d m hz h hx hf
  · exact law4t d m hz h
end Go.Proofs.Ytkdggbfknlcdaaa
