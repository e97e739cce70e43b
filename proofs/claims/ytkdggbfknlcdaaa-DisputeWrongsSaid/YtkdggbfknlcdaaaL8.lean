/- DisputeWrongs: what the law computes. No condition. -/
import Derived.Test.YtkdggbfknlcdaaaT7
set_option linter.unusedVariables false
set_option linter.unusedSimpArgs false
set_option linter.deprecated false
set_option linter.all false

namespace Go.Proofs.Ytkdggbfknlcdaaa
open Go.Eng.Dif Go.Eng.Few
theorem thN_nil (d:Dsp):∀n,thN d [] n=[]:=by
  intro n
  induction n with
  |zero=>rfl
  |succ n ih=>rw [thN_n (by rw [inL_is];rfl),ih]
theorem sel_cong {f g:Nat→Bool}:∀{n:Nat},(∀i,i<n→f i=g i)→selL f n=selL g n:=by
  intro n
  induction n with
  |zero=>intro _;rfl
  | succ n ih=>
    intro h
    simp only [selL,ih fun i hi=>h i (by omega),h n (by omega)]
theorem wr_law {d:Dsp}(hf:firmE d=0):(leaL d).length≤(thN d (belL d) d.fs.length).length∧((belL d).length=0↔(leaL d).length=0):=by
  have hF:=firmE_ok hf
  have hd:=faultD_iff.1 hF.1
  have ha:=firm_iotaF hf
  have hb:=firm_iotaP hf
  constructor
  · have q:=party_facts (okk hd hd.f) (pt_bd hd) (by rw [←links_is];exact hF.2)
    rw [FO_len,←okFa_is,←okPa_is hd]at q
    have e:thN d (belL d) d.fs.length=selL (fOf (ptD d) (fewL d.pn.toNat (okPa d))) d.fs.length:=by
      unfold thN
      refine sel_cong fun i hi=> ?_
      rw [inL_is]
      unfold belL fOf
      rw [if_pos hf];rfl
    rw [e]
    unfold leaL
    rw [if_pos hf];exact q
  · unfold belL leaL
    rw [if_pos hf,if_pos hf,←Go.Eng.Few.few_nil ha,←Go.Eng.Few.few_nil hb]
    unfold okPa okFa
    rw [thN_nil]
theorem mst_in {d:Dsp}(hf:firmE d=0) {i:Nat}(hi:i<d.pn.toNat):inL (mstL d) (i:Int)=mstF d i:=by
  rw [inL_is];unfold mstL;rw [if_pos hf];exact sel_has hi
theorem may_in {d:Dsp}(hf:firmE d=0) {i:Nat}(hi:i<d.pn.toNat):inL (mayL d) (i:Int)=mayF d i:=by
  rw [inL_is];unfold mayL;rw [if_pos hf];exact sel_has hi
theorem wr_bel {d:Dsp}(hf:firmE d=0) {i:Nat}(hi:i<d.pn.toNat)(h:inL (belL d) (i:Int)=true):inL (mayL d) (i:Int)=true:=by
  rw [inL_is]at h
  unfold belL at h
  rw [if_pos hf]at h
  rw [may_in hf hi]
  exact few_may (firm_iotaP hf) h
theorem wr_mst {d:Dsp}(hf:firmE d=0) {i:Nat}(hi:i<d.pn.toNat)(h:inL (mstL d) (i:Int)=true):inL (belL d) (i:Int)=true:=by
  rw [mst_in hf hi]at h
  rw [inL_is]
  unfold belL
  rw [if_pos hf]
  exact must_few (firm_iotaP hf) h
theorem lst_len {d:Dsp}(hf:firmE d=0):(belL d).length≤1000∧(mstL d).length≤1000∧(mayL d).length≤1000:=by
  have hd:=faultD_iff.1 (firmE_ok hf).1
  have hp:d.pn.toNat≤4:=by have:=hd.p4;omega
  have a:=few_len (firm_iotaP hf)
  have b:=sel_len (mstF d) d.pn.toNat
  have c:=sel_len (mayF d) d.pn.toNat
  unfold belL mstL mayL
  rw [if_pos hf,if_pos hf,if_pos hf]
  omega
def brB (d:Dsp)(i:Nat):Bool:=decide ((mstL d).length=0)||inL (mstL d) (i:Int)
theorem br_0 {d:Dsp} {i:Nat}(h:(mstL d).length=0):brB d i=true:=by unfold brB;rw [decide_eq_true h];rfl
theorem br_y {d:Dsp} {i:Nat}(h:inL (mstL d) (i:Int)=true):brB d i=true:=by unfold brB;rw [h,Bool.or_true]
theorem br_n {d:Dsp} {i:Nat}(h0:¬(mstL d).length=0)(h:inL (mstL d) (i:Int)=false):brB d i=false:=by unfold brB;rw [h,decide_eq_false h0];rfl
theorem bea_asc {d:Dsp}(hf:firmE d=0):Asc d.pn.toNat 0 (beaL d)∧0<(beaL d).length:=by
  have hd:=faultD_iff.1 (firmE_ok hf).1
  have h1:=hd.p1
  refine bearL_ok (by omega) ?_
  unfold mstL
  rw [if_pos hf];exact sel_asc
theorem bea_in {d:Dsp} {i:Nat}(hi:i<d.pn.toNat):brB d i=true↔(i:Int)∈beaL d:=by
  unfold brB beaL bearL
  by_cases h:(mstL d).length=0
  · rw [if_pos h,decide_eq_true h]
    exact⟨fun _=>iota_mem hi,fun _=>rfl⟩
  · rw [if_neg h,decide_eq_false h,Bool.false_or,inL_is,List.contains_iff_mem]
theorem sum_bd {f:Nat→Int} {m:Int}:∀{P:Nat},(∀p,p<P→0≤f p∧f p≤m)→0≤sumC f P∧sumC f P≤P*m:=by
  intro P
  induction P with
  |zero=>intro _;simp [sumC]
  | succ P ih=>
    intro h
    have a:=ih fun p hp=>h p (by omega)
    have b:=h P (by omega)
    simp only [sumC]
    rw [Int.natCast_succ,Int.add_mul]
    omega
theorem wr_cost {d:Dsp}(hf:firmE d=0) {n:Int}(h0:0≤n)(h1:n≤1000000):sumC (cosF d n) d.pn.toNat=n∧(∀i,i<d.pn.toNat→brB d i=false→cosF d n i=0) ∧
    ∃q:Int,0≤q∧q≤n∧∀i,i<d.pn.toNat→brB d i=true→cosF d n i=q∨cosF d n i=q+1:=by
  have hb:=bea_asc hf
  refine⟨?_,?_,((n.toNat/(beaL d).length:Nat):Int),?_,?_,?_⟩
  · have:=cost_all (pence:=n.toNat) hb.1 hb.2
    unfold cosF
    rw [this];omega
  · intro i hi h
    refine cost_out fun hm=> ?_
    rw [(bea_in hi).2 hm]at h;cases h
  · exact Int.natCast_nonneg _
  · have:=Nat.div_le_self n.toNat (beaL d).length
    omega
  · intro i hi h
    exact cost_in hb.1 ((bea_in hi).1 h)
def loW (n:Int)(b:Nat→Bool)(c:Nat→Int):Nat→Int
  |0=>n+1
  |k+1=>if b k=true then(if c k<loW n b c k then c k else loW n b c k)else loW n b c k
def hiW (b:Nat→Bool)(c:Nat→Int):Nat→Int
  |0=> -1
  |k+1=>if b k=true then(if c k>hiW b c k then c k else hiW b c k)else hiW b c k
theorem lo_y {n:Int} {b:Nat→Bool} {c:Nat→Int} {k:Nat}(h:b k=true):(if c k<loW n b c k then c k else loW n b c k)=loW n b c (k+1):=by simp only [loW,h,if_true]
theorem lo_n {n:Int} {b:Nat→Bool} {c:Nat→Int} {k:Nat}(h:b k=false):loW n b c k=loW n b c (k+1):=by simp only [loW,h,Bool.false_eq_true,if_false]
theorem hi_y {b:Nat→Bool} {c:Nat→Int} {k:Nat}(h:b k=true):(if c k>hiW b c k then c k else hiW b c k)=hiW b c (k+1):=by simp only [hiW,h,if_true]
theorem hi_n {b:Nat→Bool} {c:Nat→Int} {k:Nat}(h:b k=false):hiW b c k=hiW b c (k+1):=by simp only [hiW,h,Bool.false_eq_true,if_false]
theorem lh_bd {n q:Int} {b:Nat→Bool} {c:Nat→Int} {P:Nat}(h0:0≤q)(h1:q≤n)(h:∀i,i<P→b i=true→c i=q∨c i=q+1):
    ∀k,k≤P→(loW n b c k=n+1∧hiW b c k = -1)∨(q≤loW n b c k∧loW n b c k≤q+1∧q≤hiW b c k∧hiW b c k≤q+1):=by
  intro k
  induction k with
  |zero=>intro _;exact .inl ⟨rfl,rfl⟩
  | succ k ih=>
    intro hk
    have a:=ih (by omega)
    cases hb:b k with
    |false=>rw [←lo_n hb,←hi_n hb];exact a
    | true=>
      rw [←lo_y hb,←hi_y hb]
      have e:=h k (by omega) hb
      split<;>split<;>omega
theorem wr_all {d:Dsp}(hf:firmE d=0) {n:Int}(h0:0≤n)(h1:n≤1000000):
    (∀i,i<d.pn.toNat→0≤cosF d n i∧cosF d n i≤1000001)∧(∀k,k≤d.pn.toNat→0≤sumC (cosF d n) k∧sumC (cosF d n) k≤5000000)∧sumC (cosF d n) d.pn.toNat=n ∧
    (∀i,i<d.pn.toNat→brB d i=false→cosF d n i=0) ∧
    (∀k,k≤d.pn.toNat→(0≤loW n (brB d) (cosF d n) k∧loW n (brB d) (cosF d n) k≤1000001)∧(-1≤hiW (brB d) (cosF d n) k∧hiW (brB d) (cosF d n) k≤1000001)∧hiW (brB d) (cosF d n) k-loW n (brB d) (cosF d n) k≤1):=by
  have hd:=faultD_iff.1 (firmE_ok hf).1
  have hp:d.pn.toNat≤4:=by have:=hd.p4;omega
  obtain⟨a,b,q,q0,q1,hq⟩:=wr_cost hf h0 h1
  have hc:∀i,i<d.pn.toNat→0≤cosF d n i∧cosF d n i≤1000001:=by
    intro i hi
    cases e:brB d i with
    |false=>rw [b i hi e];omega
    |true=>have:=hq i hi e;omega
  refine⟨hc,fun k hk=> ?_,a,b,fun k hk=> ?_⟩
  · have:=sum_bd (f:=cosF d n) (m:=1000001) (P:=k) fun p hp=>hc p (by omega)
    omega
  · have:=lh_bd q0 q1 hq k hk
    omega
end Go.Proofs.Ytkdggbfknlcdaaa

namespace Go.Proofs.Ytkdggbfknlcdaaa
open Go Go.Eng Go.Proofs Go.Eng.Dif Go.Eng.Few
set_option maxRecDepth 10000
theorem has35 (l:List Int)(v:Int)(hl:l.length≤1000):FSpec Try.prog 35 [(.sl 1 (.sym fun _=>zi (l).length) (fun ix=>[.int .i64 (.sym fun _=>(l).getD ix.den.toNat 0)])),(.int .i64 (.sym fun _=>v))] [] (fun r _=>r=(.bool (.sym fun _=>inL l v))):=by
  refine FSpec.is fun R hR=>qW (sc:=sc35) tyok mix Try.func35 rfl Try.call35 (by kernel_rfl) (by kernel_rfl) ?_
  generalize Try.prog=P
  cbv
  repeat' (first
      |fail)
  all_goals first
    |skip
  refine⟨none,[],{i:Nat // i≤l.length∧∀j,j<i→¬l.getD j 0=v},fun x=>⟨[(0,(.sl 1 (.sym fun _=>zi (l).length) (fun ix=>[.int .i64 (.sym fun _=>(l).getD ix.den.toNat 0)]))),(1,(.int .i64 (.sym fun _=>v))),(5,(.int .i64 (.sym fun _=>zi x.1)))],[],40⟩,fun x=>l.length-x.1,?_,?_⟩
  · refine⟨⟨0,by omega,fun j hj=>by omega⟩,?_⟩
    cbv
    repeat' (first
      |with_reducible refine hold ?_ ?_
      |with_reducible refine And.intro ?_ ?_)
    all_goals first
      |trivial
      |exact qM (qE (by rfl))
      |exact qM (Fit.refl _)
      |skip
  · rintro⟨i,hi,hq⟩
    cbv
    cbv
    repeat' (first
        |with_reducible refine hold ?_ ?_
        |with_reducible refine And.intro ?_ ?_
        |(with_reducible intro hcd;(try simp only [zA,zB,zC,zD,zE,zF,zG,zH,zI,zJ,zK,zL,zM,zN,zO,zP]at hcd);try cbv)
        |fail)
    all_goals first
      |((try simp only [qV]at *);(try simp only [zQ,zA,zB,zC,zD,zE,zF,zG,zH,zI,zJ,zK,zL,zM,zN,zO,zP,zR,zS]at *);first|(refine qN ?_;omega)|(simp only [Hold];omega))
      |(subst hR;(refine qF ?_;(try simp only [qV]at *);(try simp only [zQ,zA,zB,zC,zD,zE,zF,zG,zH,zI,zJ,zK,zL,zM,zN,zO,zP,zR,zS]at *);exact(inL_t.2 ⟨i,by omega,by assumption⟩).symm);done)
      |(subst hR;(refine qF ?_;(try simp only [qV]at *);(try simp only [zQ,zA,zB,zC,zD,zE,zF,zG,zH,zI,zJ,zK,zL,zM,zN,zO,zP,zR,zS]at *);exact(Bool.eq_false_iff.2 fun h9=>by obtain⟨j9,h8,h7⟩:=inL_t.1 h9;exact hq j9 (by omega) h7).symm);done)
      |((try simp only [zQ,zA,zB,zC,zD,zE,zF,zG,zH,zI,zJ,zK,zL,zM,zN,zO,zP,zR,zS]at *);refine⟨⟨i+1,by omega,fun j hj=>(Nat.lt_or_ge j i).elim (hq j) (fun q=>by rw [show j=i by omega];assumption)⟩,by simp only [];omega,?_⟩;cbv;(repeat' (first|with_reducible refine hold ?_ ?_|with_reducible refine And.intro ?_ ?_));(all_goals first|trivial|exact qM (qE (by rfl))|exact qM (qF (by rfl))|exact qM (Fit.refl _)|exact qL (qK _)|(refine qM (qE ?_);(try simp only [qV]at *);simp only [zQ,zA,zB,zC,zD,zE,zF,zG,zH,zI,zJ,zK,zL,zM,zN,zO,zP,zR,zS]at *;omega)|skip))
      |skip
theorem neq_no {a b:Nat}(h:a=0↔b=0):(decide (zi a=0)==decide (zi b=0))=true:=by
  have:zi a=0↔zi b=0:=by simp only [zi_den];omega
  rw [decide_eq_decide.2 this];exact beq_self_eq_true _
theorem law8t (d:Dsp)(w:Int)(h:readyD d=false):FSpec Try.prog 8 [(dspS d),(.int .u32 (.sym fun _=>w))] [] (fun r _=>r=(.bool (.lit true))):=by
  have c20:=ready20 d
  have c12:=awake12
  refine FSpec.is fun R hR=>qW (sc:=sc8) tyok mix Try.func8 rfl Try.call8 (by kernel_rfl) (by kernel_rfl) ?_
  generalize Try.prog=P at c20 c12⊢
  cbv
  repeat' (first
      |with_reducible refine hold ?_ ?_
      |with_reducible refine And.intro ?_ ?_
      | (with_reducible refine qT ?_ ?_
         try cbv)
      |(with_reducible intro hcd;(try simp only [zA,zB,zC,zD,zE,zF,zG,zH,zI,zJ,zK,zL,zM,zN,zO,zP]at hcd);try cbv)
      | (refine qP ?_ (c20) ?hfit
         case hfit=>((repeat' (first|exact qB|refine qD ?_ ?_|exact qE (by rfl)|exact qF (by rfl)|exact Fit.refl _|exact qA|refine qC ?_ rfl ?_));done)
         try cbv)
      | (refine qP ?_ (c12) ?hfit
         case hfit=>((repeat' (first|exact qB|refine qD ?_ ?_|exact qE (by rfl)|exact qF (by rfl)|exact Fit.refl _|exact qA|refine qC ?_ rfl ?_));done)
         try cbv)
      |fail)
  all_goals first
    |((try simp only [qV]at *);(try simp only [zQ,zA,zB,zC,zD,zE,zF,zG,zH,zI,zJ,zK,zL,zM,zN,zO,zP,zR,zS]at *);first|(refine qN ?_;omega)|(simp only [Hold];omega))
    |(subst hR;(repeat' (first|exact qA|exact qB|refine qC ?_ rfl ?_|refine qD ?_ ?_|exact qE (by rfl)|exact qF (by rfl)|exact Fit.refl _|exact qG _|(refine qE ?_;(try simp only [qV]at *);simp only [zQ,zA,zB,zC,zD,zE,zF,zG,zH,zI,zJ,zK,zL,zM,zN,zO,zP,zR,zS]at *;omega)));done)
    |(exfalso;rw [h]at hcd;cases hcd;done)
    |skip
theorem law8b (d:Dsp)(w:Int)(hw:0≤w∧w≤4294967295)(h:readyD d=true)(hf:¬firmE d=0):FSpec Try.prog 8 [(dspS d),(.int .u32 (.sym fun _=>w))] [] (fun r _=>r=(.bool (.lit true))):=by
  have c20:=ready20 d
  have c12:=awake12
  have hth:=thinD_t.1 (readyD_t.1 h).1
  have hF:=(readyD_t.1 h).2
  have hd:=faultD_iff.1 hF
  have f6:=hd.f6
  have p1:=hd.p1
  have p4:=hd.p4
  have c14:=dispute14 d hth.1 (by omega) (by omega)
  have hn:=mod_in (w:=w) (n:=1000001) hw.1 (by decide)
  have c23:=believe23 d
  have c33:=blame33 d
  have c22:=leave22 d
  have c34:=costs34 d (w.tmod 1000001)
  have hz:=coE_fail (n:=(w.tmod 1000001)) hF ⟨hn.1,by omega⟩ hf
  rw [hz.1,hz.2]at c34
  rw [firmE_9 hF hf]at c22 c23 c33 c34
  refine FSpec.is fun R hR=>qW (sc:=sc8) tyok mix Try.func8 rfl Try.call8 (by kernel_rfl) (by kernel_rfl) ?_
  generalize Try.prog=P at c20 c12 c14 c23 c33 c22 c34⊢
  cbv
  repeat' (first
      |with_reducible refine hold ?_ ?_
      |with_reducible refine And.intro ?_ ?_
      | (with_reducible refine qT ?_ ?_
         try cbv)
      |(with_reducible intro hcd;(try simp only [zA,zB,zC,zD,zE,zF,zG,zH,zI,zJ,zK,zL,zM,zN,zO,zP]at hcd);try cbv)
      | (refine qP ?_ (c20) ?hfit
         case hfit=>((repeat' (first|exact qB|refine qD ?_ ?_|exact qE (by rfl)|exact qF (by rfl)|exact Fit.refl _|exact qA|refine qC ?_ rfl ?_));done)
         try cbv)
      | (refine qP ?_ (c12) ?hfit
         case hfit=>((repeat' (first|exact qB|refine qD ?_ ?_|exact qE (by rfl)|exact qF (by rfl)|exact Fit.refl _|exact qA|refine qC ?_ rfl ?_));done)
         try cbv)
      | (refine qP ?_ (c14) ?hfit
         case hfit=>((repeat' (first|exact qB|refine qD ?_ ?_|exact qE (by rfl)|exact qF (by rfl)|exact Fit.refl _|exact qA|refine qC ?_ rfl ?_));done)
         try cbv)
      | (refine qP ?_ (c23) ?hfit
         case hfit=>((repeat' (first|exact qB|refine qD ?_ ?_|exact qE (by rfl)|exact qF (by rfl)|exact Fit.refl _|exact qA|refine qC ?_ rfl ?_));done)
         try cbv)
      | (refine qP ?_ (c33) ?hfit
         case hfit=>((repeat' (first|exact qB|refine qD ?_ ?_|exact qE (by rfl)|exact qF (by rfl)|exact Fit.refl _|exact qA|refine qC ?_ rfl ?_));done)
         try cbv)
      | (refine qP ?_ (c22) ?hfit
         case hfit=>((repeat' (first|exact qB|refine qD ?_ ?_|exact qE (by rfl)|exact qF (by rfl)|exact Fit.refl _|exact qA|refine qC ?_ rfl ?_));done)
         try cbv)
      | (refine qP ?_ (c34) ?hfit
         case hfit=>((repeat' (first|exact qB|refine qD ?_ ?_|exact qE (by rfl)|exact qF (by rfl)|exact Fit.refl _|exact qA|refine qC ?_ rfl ?_));done)
         try cbv)
      |fail)
  all_goals first
    |trivial
    |((try simp only [qV]at *);(try simp only [zQ,zA,zB,zC,zD,zE,zF,zG,zH,zI,zJ,zK,zL,zM,zN,zO,zP,zR,zS]at *);first|(refine qN ?_;omega)|(simp only [Hold];omega))
    |(subst hR;(repeat' (first|exact qA|exact qB|refine qC ?_ rfl ?_|refine qD ?_ ?_|exact qE (by rfl)|exact qF (by rfl)|exact Fit.refl _|exact qG _|(refine qE ?_;(try simp only [qV]at *);simp only [zQ,zA,zB,zC,zD,zE,zF,zG,zH,zI,zJ,zK,zL,zM,zN,zO,zP,zR,zS]at *;omega)));done)
    |skip
set_option maxHeartbeats 2000000 in
theorem law8y (d:Dsp)(w:Int)(hw:0≤w∧w≤4294967295)(h:readyD d=true)(hf:firmE d=0):FSpec Try.prog 8 [(dspS d),(.int .u32 (.sym fun _=>w))] [] (fun r _=>r=(.bool (.lit true))):=by
  have c20:=ready20 d
  have c12:=awake12
  have hth:=thinD_t.1 (readyD_t.1 h).1
  have hF:=(readyD_t.1 h).2
  have hd:=faultD_iff.1 hF
  have f6:=hd.f6
  have p1:=hd.p1
  have p4:=hd.p4
  have c14:=dispute14 d hth.1 (by omega) (by omega)
  have hn:=mod_in (w:=w) (n:=1000001) hw.1 (by decide)
  have c23:=believe23 d
  have c33:=blame33 d
  have c22:=leave22 d
  have c34:=costs34 d (w.tmod 1000001)
  have hz:=coE_yes (n:=(w.tmod 1000001)) hF ⟨hn.1,by omega⟩ hf
  rw [hz.1,hz.2]at c34
  rw [hf]at c22 c23 c33
  have hll:=lst_len hf
  have c35p:=fun v:Int=>has35 (belL d) v hll.1
  have c35m:=fun v:Int=>has35 (mstL d) v hll.2.1
  have c35y:=fun v:Int=>has35 (mayL d) v hll.2.2
  have wl:=wr_law hf
  have wa:=wr_all hf hn.1 (by omega)
  have wb:=fun i hi=>wr_bel (i:=i) hf hi
  have wm:=fun i hi=>wr_mst (i:=i) hf hi
  have wp:=fun (i:Nat)=>(br_0 (d:=d) (i:=i))
  have wy:=fun (i:Nat)=>(br_y (d:=d) (i:=i))
  have wn:=fun (i:Nat)=>(br_n (d:=d) (i:=i))
  obtain⟨n,hnn⟩:∃n,n=(w.tmod 1000001):=⟨_,rfl⟩
  rw [←hnn]at c34 wa hn
  obtain⟨c,hc⟩:∃c,c=cosF d n:=⟨_,rfl⟩
  rw [←hc]at c34 wa
  obtain⟨b,hb⟩:∃b,b=brB d:=⟨_,rfl⟩
  rw [←hb]at wa
  simp only [←hb]at wp wy wn
  obtain⟨p,hp⟩:∃p,p=belL d:=⟨_,rfl⟩
  obtain⟨m,hm⟩:∃m,m=mstL d:=⟨_,rfl⟩
  obtain⟨y,hy⟩:∃y,y=mayL d:=⟨_,rfl⟩
  obtain⟨l,hl⟩:∃l,l=leaL d:=⟨_,rfl⟩
  obtain⟨pz,hP⟩:∃pz,pz=d.pn.toNat:=⟨_,rfl⟩
  have hPn:d.pn=(pz:Int):=by omega
  rw [←hP]at wa
  simp only [←hP]at wb wm
  rw [←hp]at c23 c35p wl
  rw [←hl]at c22 wl
  rw [←hm,←hy]at c33
  rw [←hm]at c35m
  rw [←hy]at c35y
  simp only [←hm]at wp wy wn wm
  simp only [←hp]at wb wm
  simp only [←hy]at wb
  have tl:=fun k=>thN_len d p k
  refine FSpec.is fun R hR=>qW (sc:=sc8) tyok mix Try.func8 rfl Try.call8 (by kernel_rfl) (by kernel_rfl) ?_
  generalize Try.prog=P at c20 c12 c14 c23 c33 c22 c34 c35p c35m c35y⊢
  cbv
  repeat' (first
      |with_reducible refine hold ?_ ?_
      |with_reducible refine And.intro ?_ ?_
      | (with_reducible refine qT ?_ ?_
         try cbv)
      |(with_reducible intro hcd;(try simp only [zA,zB,zC,zD,zE,zF,zG,zH,zI,zJ,zK,zL,zM,zN,zO,zP]at hcd);try cbv)
      | (refine qP ?_ (c20) ?hfit
         case hfit=>((repeat' (first|exact qB|refine qD ?_ ?_|exact qE (by rfl)|exact qF (by rfl)|exact Fit.refl _|exact qA|refine qC ?_ rfl ?_));done)
         try cbv)
      | (refine qP ?_ (c12) ?hfit
         case hfit=>((repeat' (first|exact qB|refine qD ?_ ?_|exact qE (by rfl)|exact qF (by rfl)|exact Fit.refl _|exact qA|refine qC ?_ rfl ?_));done)
         try cbv)
      | (refine qP ?_ (c14) ?hfit
         case hfit=>((repeat' (first|exact qB|refine qD ?_ ?_|exact qE (by rfl)|exact qF (by rfl)|exact Fit.refl _|exact qA|refine qC ?_ rfl ?_));done)
         try cbv)
      | (refine qP ?_ (c23) ?hfit
         case hfit=>((repeat' (first|exact qB|refine qD ?_ ?_|exact qE (by rfl)|exact qF (by rfl)|exact Fit.refl _|exact qA|refine qC ?_ rfl ?_));done)
         try cbv)
      | (refine qP ?_ (c33) ?hfit
         case hfit=>((repeat' (first|exact qB|refine qD ?_ ?_|exact qE (by rfl)|exact qF (by rfl)|exact Fit.refl _|exact qA|refine qC ?_ rfl ?_));done)
         try cbv)
      | (refine qP ?_ (c22) ?hfit
         case hfit=>((repeat' (first|exact qB|refine qD ?_ ?_|exact qE (by rfl)|exact qF (by rfl)|exact Fit.refl _|exact qA|refine qC ?_ rfl ?_));done)
         try cbv)
      | (refine qP ?_ (c34) ?hfit
         case hfit=>((refine qD (Fit.refl _) (qD (qE ?_) qB);first|rfl|((try simp only [qV]at *);(try simp only [zQ,zA,zB,zC,zD,zE,zF,zG,zH,zI,zJ,zK,zL,zM,zN,zO,zP,zR,zS]at *);omega));done)
         try cbv)
      |fail)
  all_goals first
    |trivial
    |((try simp only [qV]at *);(try simp only [zQ,zA,zB,zC,zD,zE,zF,zG,zH,zI,zJ,zK,zL,zM,zN,zO,zP,zR,zS]at *);first|(refine qN ?_;omega)|(simp only [Hold];omega))
    |(subst hR;(repeat' (first|exact qA|exact qB|refine qC ?_ rfl ?_|refine qD ?_ ?_|exact qE (by rfl)|exact qF (by rfl)|exact Fit.refl _|exact qG _|(refine qE ?_;(try simp only [qV]at *);simp only [zQ,zA,zB,zC,zD,zE,zF,zG,zH,zI,zJ,zK,zL,zM,zN,zO,zP,zR,zS]at *;omega)));done)
    |skip
  refine⟨none,[],{i:Nat // i≤d.fs.length},fun x=>⟨[(2,.own 0 0),(5,(.int .i64 (.sym fun _=>n))),(6,(.sl 1 (.sym fun _=>zi (p).length) (fun ix=>[.int .i64 (.sym fun _=>(p).getD ix.den.toNat 0)]))),(8,(.sl 1 (.sym fun _=>zi (m).length) (fun ix=>[.int .i64 (.sym fun _=>(m).getD ix.den.toNat 0)]))),(9,(.sl 1 (.sym fun _=>zi (y).length) (fun ix=>[.int .i64 (.sym fun _=>(y).getD ix.den.toNat 0)]))),(13,(.sl 1 (.sym fun _=>d.pn) (fun ix=>[(.int .i64 (.sym fun _=>c ix.den.toNat))]))),(11,(.sl 1 (.sym fun _=>zi (l).length) (fun ix=>[.int .i64 (.sym fun _=>(l).getD ix.den.toNat 0)]))),(15,(.int .i64 (.sym fun _=>zi (thN d p x.1).length))),(16,(.int .i64 (.sym fun _=>zi x.1)))],[(0,.cells [(.sl 1 (.sym fun _=>zi (d.tw).length) (fun ix=>[.int .i64 (.sym fun _=>(d.tw).getD ix.den.toNat 0)])),(.sl 1 (.sym fun _=>zi (d.tm).length) (fun ix=>[.int .i64 (.sym fun _=>(d.tm).getD ix.den.toNat 0)])),(.sl 1 (.sym fun _=>zi (d.tv).length) (fun ix=>[(.sl 1 (.sym fun _=>zi ((d.tv).getD ix.den.toNat []).length) (fun jx=>[.int .i64 (.sym fun _=>((d.tv).getD ix.den.toNat []).getD jx.den.toNat 0)]))])),(.int .i64 (.sym fun _=>d.sn)),(.int .i64 (.sym fun _=>d.pn)),(.sl 4 (.sym fun _=>zi (d.ls).length) (fun ix=>[(.int .i64 (.sym fun _=>((d.ls).getD ix.den.toNat l0T).a)),(.int .i64 (.sym fun _=>((d.ls).getD ix.den.toNat l0T).b)),(.int .i64 (.sym fun _=>((d.ls).getD ix.den.toNat l0T).lo)),(.int .i64 (.sym fun _=>((d.ls).getD ix.den.toNat l0T).hi))])),(.sl 6 (.sym fun _=>zi (d.fs).length) (fun ix=>[(.int .i64 (.sym fun _=>((d.fs).getD ix.den.toNat f0T).p)),(.int .i64 (.sym fun _=>((d.fs).getD ix.den.toNat f0T).s)),(.int .i64 (.sym fun _=>((d.fs).getD ix.den.toNat f0T).wl)),(.int .i64 (.sym fun _=>((d.fs).getD ix.den.toNat f0T).wh)),(.int .i64 (.sym fun _=>((d.fs).getD ix.den.toNat f0T).ml)),(.int .i64 (.sym fun _=>((d.fs).getD ix.den.toNat f0T).mh))]))] 29)],200⟩,fun x=>d.fs.length-x.1,?_,?_⟩
  · refine⟨⟨0,by omega⟩,?_⟩
    cbv
    repeat' (first
      |with_reducible refine hold ?_ ?_
      |with_reducible refine And.intro ?_ ?_)
    all_goals first
      |trivial
      |exact qM (qE (by rfl))
      |exact qM (Fit.refl _)
      |exact qL (qK _)
      |(refine qM (qE ?_);(try simp only [qV]at *);simp only [zQ,zA,zB,zC,zD,zE,zF,zG,zH,zI,zJ,zK,zL,zM,zN,zO,zP,zR,zS]at *;omega)
      |skip
  · rintro ⟨i,hi⟩
    cbv
    cbv
    repeat' (first
        |with_reducible refine hold ?_ ?_
        |with_reducible refine And.intro ?_ ?_
        |(with_reducible intro hcd;(try simp only [zA,zB,zC,zD,zE,zF,zG,zH,zI,zJ,zK,zL,zM,zN,zO,zP]at hcd);try cbv)
        | (refine qP ?_ (c35p (d.fs.getD i f0T).p) ?hfit
           case hfit=>((repeat' (first|exact qB|refine qD ?_ ?_|exact qE (by rfl)|exact qF (by rfl)|exact Fit.refl _|exact qA|refine qC ?_ rfl ?_));done)
           try cbv)
        |fail)
    all_goals first
      |trivial
      |((try simp only [qV]at *);(try simp only [zQ,zA,zB,zC,zD,zE,zF,zG,zH,zI,zJ,zK,zL,zM,zN,zO,zP,zR,zS]at *);first|(refine qN ?_;omega)|(simp only [Hold];omega))
      |((have h9:=tl i);(try simp only [qV]at *);(try simp only [zQ,zA,zB,zC,zD,zE,zF,zG,zH,zI,zJ,zK,zL,zM,zN,zO,zP,zR,zS]at *);simp only [Hold];first|(refine qN ?_;omega)|omega)
      |((try simp only [zQ,zA,zB,zC,zD,zE,zF,zG,zH,zI,zJ,zK,zL,zM,zN,zO,zP,zR,zS]at *);(have h9:thN d p (i+1)=thN d p i++[(i:Int)]:=thN_y (by assumption));refine⟨⟨i+1,by((try simp only [qV]at *);(try simp only [zQ,zA,zB,zC,zD,zE,zF,zG,zH,zI,zJ,zK,zL,zM,zN,zO,zP,zR,zS]at *);omega)⟩,by simp only [];omega,?_⟩;cbv;(repeat' (first|with_reducible refine hold ?_ ?_|with_reducible refine And.intro ?_ ?_));(all_goals first|trivial|exact qM (qE (by rfl))|exact qM (qF (by rfl))|exact qM (Fit.refl _)|exact qL (qK _)|(refine qM (qE ?_);(try simp only [qV]at *);simp only [zQ,zA,zB,zC,zD,zE,zF,zG,zH,zI,zJ,zK,zL,zM,zN,zO,zP,zR,zS]at *;omega)|(refine qL (qJ ?_);(repeat' (first|exact qA|exact qB|refine qC ?_ rfl ?_|refine qD ?_ ?_|exact qE (by rfl)|exact qF (by rfl)|exact Fit.refl _|exact qG _|(refine qE ?_;(try simp only [qV]at *);simp only [zQ,zA,zB,zC,zD,zE,zF,zG,zH,zI,zJ,zK,zL,zM,zN,zO,zP,zR,zS]at *;omega)));done)|(refine qM (qE ?_);(try dsimp only);(try simp only [h9,List.length_append,List.length_cons,List.length_nil]);first|rfl|((try simp only [qV]at *);(try simp only [zQ,zA,zB,zC,zD,zE,zF,zG,zH,zI,zJ,zK,zL,zM,zN,zO,zP,zR,zS]at *);done)|((try simp only [qV]at *);(try simp only [zQ,zA,zB,zC,zD,zE,zF,zG,zH,zI,zJ,zK,zL,zM,zN,zO,zP,zR,zS]at *);omega))|skip))
      |((try simp only [zQ,zA,zB,zC,zD,zE,zF,zG,zH,zI,zJ,zK,zL,zM,zN,zO,zP,zR,zS]at *);(have h9:thN d p (i+1)=thN d p i:=thN_n (by assumption));refine⟨⟨i+1,by((try simp only [qV]at *);(try simp only [zQ,zA,zB,zC,zD,zE,zF,zG,zH,zI,zJ,zK,zL,zM,zN,zO,zP,zR,zS]at *);omega)⟩,by simp only [];omega,?_⟩;cbv;(repeat' (first|with_reducible refine hold ?_ ?_|with_reducible refine And.intro ?_ ?_));(all_goals first|trivial|exact qM (qE (by rfl))|exact qM (qF (by rfl))|exact qM (Fit.refl _)|exact qL (qK _)|(refine qM (qE ?_);(try simp only [qV]at *);simp only [zQ,zA,zB,zC,zD,zE,zF,zG,zH,zI,zJ,zK,zL,zM,zN,zO,zP,zR,zS]at *;omega)|(refine qL (qJ ?_);(repeat' (first|exact qA|exact qB|refine qC ?_ rfl ?_|refine qD ?_ ?_|exact qE (by rfl)|exact qF (by rfl)|exact Fit.refl _|exact qG _|(refine qE ?_;(try simp only [qV]at *);simp only [zQ,zA,zB,zC,zD,zE,zF,zG,zH,zI,zJ,zK,zL,zM,zN,zO,zP,zR,zS]at *;omega)));done)|(refine qM (qE ?_);(try dsimp only);(try simp only [h9,List.length_append,List.length_cons,List.length_nil]);first|rfl|((try simp only [qV]at *);(try simp only [zQ,zA,zB,zC,zD,zE,zF,zG,zH,zI,zJ,zK,zL,zM,zN,zO,zP,zR,zS]at *);done)|((try simp only [qV]at *);(try simp only [zQ,zA,zB,zC,zD,zE,zF,zG,zH,zI,zJ,zK,zL,zM,zN,zO,zP,zR,zS]at *);omega))|skip))
      |(exfalso;rw [neq_no wl.2]at hcd;cases hcd;done)
      |(exfalso;(have h9:=wl.1);(have hie:i=d.fs.length:=by((try simp only [qV]at *);(try simp only [zQ,zA,zB,zC,zD,zE,zF,zG,zH,zI,zJ,zK,zL,zM,zN,zO,zP,zR,zS]at *);omega));rw [←hie]at h9;(try simp only [qV]at *);(try simp only [zQ,zA,zB,zC,zD,zE,zF,zG,zH,zI,zJ,zK,zL,zM,zN,zO,zP,zR,zS]at *);omega)
      |skip
    refine⟨none,[],{i:Nat // i≤pz},fun x=>⟨[(2,.own 0 0),(5,(.int .i64 (.sym fun _=>n))),(6,(.sl 1 (.sym fun _=>zi (p).length) (fun ix=>[.int .i64 (.sym fun _=>(p).getD ix.den.toNat 0)]))),(8,(.sl 1 (.sym fun _=>zi (m).length) (fun ix=>[.int .i64 (.sym fun _=>(m).getD ix.den.toNat 0)]))),(9,(.sl 1 (.sym fun _=>zi (y).length) (fun ix=>[.int .i64 (.sym fun _=>(y).getD ix.den.toNat 0)]))),(13,(.sl 1 (.sym fun _=>d.pn) (fun ix=>[(.int .i64 (.sym fun _=>c ix.den.toNat))]))),(17,(.int .i64 (.sym fun _=>sumC c x.1))),(18,(.int .i64 (.sym fun _=>loW n b c x.1))),(19,(.int .i64 (.sym fun _=>hiW b c x.1))),(20,(.int .i64 (.sym fun _=>zi x.1)))],[(0,.cells [(.sl 1 (.sym fun _=>zi (d.tw).length) (fun ix=>[.int .i64 (.sym fun _=>(d.tw).getD ix.den.toNat 0)])),(.sl 1 (.sym fun _=>zi (d.tm).length) (fun ix=>[.int .i64 (.sym fun _=>(d.tm).getD ix.den.toNat 0)])),(.sl 1 (.sym fun _=>zi (d.tv).length) (fun ix=>[(.sl 1 (.sym fun _=>zi ((d.tv).getD ix.den.toNat []).length) (fun jx=>[.int .i64 (.sym fun _=>((d.tv).getD ix.den.toNat []).getD jx.den.toNat 0)]))])),(.int .i64 (.sym fun _=>d.sn)),(.int .i64 (.sym fun _=>d.pn)),(.sl 4 (.sym fun _=>zi (d.ls).length) (fun ix=>[(.int .i64 (.sym fun _=>((d.ls).getD ix.den.toNat l0T).a)),(.int .i64 (.sym fun _=>((d.ls).getD ix.den.toNat l0T).b)),(.int .i64 (.sym fun _=>((d.ls).getD ix.den.toNat l0T).lo)),(.int .i64 (.sym fun _=>((d.ls).getD ix.den.toNat l0T).hi))])),(.sl 6 (.sym fun _=>zi (d.fs).length) (fun ix=>[(.int .i64 (.sym fun _=>((d.fs).getD ix.den.toNat f0T).p)),(.int .i64 (.sym fun _=>((d.fs).getD ix.den.toNat f0T).s)),(.int .i64 (.sym fun _=>((d.fs).getD ix.den.toNat f0T).wl)),(.int .i64 (.sym fun _=>((d.fs).getD ix.den.toNat f0T).wh)),(.int .i64 (.sym fun _=>((d.fs).getD ix.den.toNat f0T).ml)),(.int .i64 (.sym fun _=>((d.fs).getD ix.den.toNat f0T).mh))]))] 29)],300⟩,fun x=>pz-x.1,?_,?_⟩
    · refine⟨⟨0,by omega⟩,?_⟩
      cbv
      repeat' (first
        |with_reducible refine hold ?_ ?_
        |with_reducible refine And.intro ?_ ?_)
      all_goals first
        |trivial
        |exact qM (qE (by rfl))
        |exact qM (Fit.refl _)
        |exact qL (qK _)
        |skip
    · rintro ⟨i,hi⟩
      cbv
      cbv
      repeat' (first
          |with_reducible refine hold ?_ ?_
          |with_reducible refine And.intro ?_ ?_
          |(with_reducible intro hcd;(try simp only [zA,zB,zC,zD,zE,zF,zG,zH,zI,zJ,zK,zL,zM,zN,zO,zP]at hcd);try cbv)
          | (refine qP ?_ (c12) ?hfit
             case hfit=>((repeat' (first|exact qB|refine qD ?_ ?_|exact qE (by rfl)|exact qF (by rfl)|exact Fit.refl _|exact qA|refine qC ?_ rfl ?_));done)
             try cbv)
          | (refine qP ?_ (c35m (zi i)) ?hfit
             case hfit=>((repeat' (first|exact qB|refine qD ?_ ?_|exact qE (by rfl)|exact qF (by rfl)|exact Fit.refl _|exact qA|refine qC ?_ rfl ?_));done)
             try cbv)
          | (refine qP ?_ (c35p (zi i)) ?hfit
             case hfit=>((repeat' (first|exact qB|refine qD ?_ ?_|exact qE (by rfl)|exact qF (by rfl)|exact Fit.refl _|exact qA|refine qC ?_ rfl ?_));done)
             try cbv)
          | (refine qP ?_ (c35y (zi i)) ?hfit
             case hfit=>((repeat' (first|exact qB|refine qD ?_ ?_|exact qE (by rfl)|exact qF (by rfl)|exact Fit.refl _|exact qA|refine qC ?_ rfl ?_));done)
             try cbv)
          |fail)
      all_goals first
        |((try simp only [qV]at *);(try simp only [zQ,zA,zB,zC,zD,zE,zF,zG,zH,zI,zJ,zK,zL,zM,zN,zO,zP,zR,zS]at *);first|(refine qN ?_;omega)|(simp only [Hold];omega))
        |(subst hR;(repeat' (first|exact qA|exact qB|refine qC ?_ rfl ?_|refine qD ?_ ?_|exact qE (by rfl)|exact qF (by rfl)|exact Fit.refl _|exact qG _|(refine qE ?_;(try simp only [qV]at *);simp only [zQ,zA,zB,zC,zD,zE,zF,zG,zH,zI,zJ,zK,zL,zM,zN,zO,zP,zR,zS]at *;omega)));done)
        |(exfalso;exact Bool.noConfusion ((by assumption:inL m (zi i)=true).symm.trans (by assumption:inL m (zi i)=false)))
        |(show Fit _ _;exfalso;first|(exact Bool.noConfusion ((wm i (by((try simp only [qV]at *);(try simp only [zQ,zA,zB,zC,zD,zE,zF,zG,zH,zI,zJ,zK,zL,zM,zN,zO,zP,zR,zS]at *);omega)) (by assumption)).symm.trans (by assumption:inL p (zi i)=false)))|(exact Bool.noConfusion ((wb i (by((try simp only [qV]at *);(try simp only [zQ,zA,zB,zC,zD,zE,zF,zG,zH,zI,zJ,zK,zL,zM,zN,zO,zP,zR,zS]at *);omega)) (by assumption)).symm.trans (by assumption:inL y (zi i)=false))))
        |(show Fit _ _;exfalso;(have h9:=wa.2.2.2.1 i (by((try simp only [qV]at *);(try simp only [zQ,zA,zB,zC,zD,zE,zF,zG,zH,zI,zJ,zK,zL,zM,zN,zO,zP,zR,zS]at *);omega)) (wn i (by(try simp only [qV]at *);(try simp only [zQ,zA,zB,zC,zD,zE,zF,zG,zH,zI,zJ,zK,zL,zM,zN,zO,zP,zR,zS]at *);omega) (by assumption)));exact hcd h9)
        |(show Fit _ _;exfalso;(have hie:i=pz:=by((try simp only [qV]at *);(try simp only [zQ,zA,zB,zC,zD,zE,zF,zG,zH,zI,zJ,zK,zL,zM,zN,zO,zP,zR,zS]at *);omega));(have g4:=wa.2.2.2.2 i (by omega));(have g5:=wa.2.2.1);rw [←hie]at g5;(try simp only [qV]at *);(try simp only [zQ,zA,zB,zC,zD,zE,zF,zG,zH,zI,zJ,zK,zL,zM,zN,zO,zP,zR,zS]at *);omega)
        |((show Hold _);(have g1:=wa.1 i (by((try simp only [qV]at *);(try simp only [zQ,zA,zB,zC,zD,zE,zF,zG,zH,zI,zJ,zK,zL,zM,zN,zO,zP,zR,zS]at *);omega)));(have g2:=wa.2.1 i (by omega));(have g3:=wa.2.1 (i+1) (by((try simp only [qV]at *);(try simp only [zQ,zA,zB,zC,zD,zE,zF,zG,zH,zI,zJ,zK,zL,zM,zN,zO,zP,zR,zS]at *);omega)));(try simp only [qV]at *);(try simp only [zQ,zA,zB,zC,zD,zE,zF,zG,zH,zI,zJ,zK,zL,zM,zN,zO,zP,zR,zS]at *);simp only [Hold];first|(refine qN ?_;omega)|omega|exact⟨by omega,by omega⟩)
        |((try simp only [zQ,zA,zB,zC,zD,zE,zF,zG,zH,zI,zJ,zK,zL,zM,zN,zO,zP,zR,zS]at *);(have h9:b i=true:=wp i (by(try simp only [qV]at *);(try simp only [zQ,zA,zB,zC,zD,zE,zF,zG,zH,zI,zJ,zK,zL,zM,zN,zO,zP,zR,zS]at *);omega));refine⟨⟨i+1,by((try simp only [qV]at *);(try simp only [zQ,zA,zB,zC,zD,zE,zF,zG,zH,zI,zJ,zK,zL,zM,zN,zO,zP,zR,zS]at *);omega)⟩,by simp only [];omega,?_⟩;cbv;(repeat' (first|with_reducible refine hold ?_ ?_|with_reducible refine And.intro ?_ ?_));(all_goals first|trivial|exact qM (qE (by rfl))|exact qM (qF (by rfl))|exact qM (Fit.refl _)|exact qL (qK _)|(refine qM (qE ?_);(try simp only [qV]at *);simp only [zQ,zA,zB,zC,zD,zE,zF,zG,zH,zI,zJ,zK,zL,zM,zN,zO,zP,zR,zS]at *;omega)|(refine qL (qJ ?_);(repeat' (first|exact qA|exact qB|refine qC ?_ rfl ?_|refine qD ?_ ?_|exact qE (by rfl)|exact qF (by rfl)|exact Fit.refl _|exact qG _|(refine qE ?_;(try simp only [qV]at *);simp only [zQ,zA,zB,zC,zD,zE,zF,zG,zH,zI,zJ,zK,zL,zM,zN,zO,zP,zR,zS]at *;omega)));done)|(refine qM (qE ?_);first|exact lo_y h9|exact lo_n h9|exact hi_y h9|exact hi_n h9|(exact(rfl:sumC c i+c i=sumC c (i+1))))|skip))
        |((try simp only [zQ,zA,zB,zC,zD,zE,zF,zG,zH,zI,zJ,zK,zL,zM,zN,zO,zP,zR,zS]at *);(have h9:b i=true:=wy i (by assumption));refine⟨⟨i+1,by((try simp only [qV]at *);(try simp only [zQ,zA,zB,zC,zD,zE,zF,zG,zH,zI,zJ,zK,zL,zM,zN,zO,zP,zR,zS]at *);omega)⟩,by simp only [];omega,?_⟩;cbv;(repeat' (first|with_reducible refine hold ?_ ?_|with_reducible refine And.intro ?_ ?_));(all_goals first|trivial|exact qM (qE (by rfl))|exact qM (qF (by rfl))|exact qM (Fit.refl _)|exact qL (qK _)|(refine qM (qE ?_);(try simp only [qV]at *);simp only [zQ,zA,zB,zC,zD,zE,zF,zG,zH,zI,zJ,zK,zL,zM,zN,zO,zP,zR,zS]at *;omega)|(refine qL (qJ ?_);(repeat' (first|exact qA|exact qB|refine qC ?_ rfl ?_|refine qD ?_ ?_|exact qE (by rfl)|exact qF (by rfl)|exact Fit.refl _|exact qG _|(refine qE ?_;(try simp only [qV]at *);simp only [zQ,zA,zB,zC,zD,zE,zF,zG,zH,zI,zJ,zK,zL,zM,zN,zO,zP,zR,zS]at *;omega)));done)|(refine qM (qE ?_);first|exact lo_y h9|exact lo_n h9|exact hi_y h9|exact hi_n h9|(exact(rfl:sumC c i+c i=sumC c (i+1))))|skip))
        |((try simp only [zQ,zA,zB,zC,zD,zE,zF,zG,zH,zI,zJ,zK,zL,zM,zN,zO,zP,zR,zS]at *);(have h9:b i=false:=wn i (by(try simp only [qV]at *);(try simp only [zQ,zA,zB,zC,zD,zE,zF,zG,zH,zI,zJ,zK,zL,zM,zN,zO,zP,zR,zS]at *);omega) (by assumption));refine⟨⟨i+1,by((try simp only [qV]at *);(try simp only [zQ,zA,zB,zC,zD,zE,zF,zG,zH,zI,zJ,zK,zL,zM,zN,zO,zP,zR,zS]at *);omega)⟩,by simp only [];omega,?_⟩;cbv;(repeat' (first|with_reducible refine hold ?_ ?_|with_reducible refine And.intro ?_ ?_));(all_goals first|trivial|exact qM (qE (by rfl))|exact qM (qF (by rfl))|exact qM (Fit.refl _)|exact qL (qK _)|(refine qM (qE ?_);(try simp only [qV]at *);simp only [zQ,zA,zB,zC,zD,zE,zF,zG,zH,zI,zJ,zK,zL,zM,zN,zO,zP,zR,zS]at *;omega)|(refine qL (qJ ?_);(repeat' (first|exact qA|exact qB|refine qC ?_ rfl ?_|refine qD ?_ ?_|exact qE (by rfl)|exact qF (by rfl)|exact Fit.refl _|exact qG _|(refine qE ?_;(try simp only [qV]at *);simp only [zQ,zA,zB,zC,zD,zE,zF,zG,zH,zI,zJ,zK,zL,zM,zN,zO,zP,zR,zS]at *;omega)));done)|(refine qM (qE ?_);first|exact lo_y h9|exact lo_n h9|exact hi_y h9|exact hi_n h9|(exact(rfl:sumC c i+c i=sumC c (i+1))))|skip))
        |((show Hold _);(have hie:i=pz:=by((try simp only [qV]at *);(try simp only [zQ,zA,zB,zC,zD,zE,zF,zG,zH,zI,zJ,zK,zL,zM,zN,zO,zP,zR,zS]at *);omega));(have g2:=wa.2.1 i (by omega));(have g4:=wa.2.2.2.2 i (by omega));(have g5:=wa.2.2.1);rw [←hie]at g5;(try simp only [qV]at *);(try simp only [zQ,zA,zB,zC,zD,zE,zF,zG,zH,zI,zJ,zK,zL,zM,zN,zO,zP,zR,zS]at *);simp only [Hold];first|(refine qN ?_;omega)|omega|exact⟨by omega,by omega⟩)
        |skip
theorem law8 (d:Dsp)(w:Int)(hw:0≤w∧w≤4294967295):FSpec Try.prog 8 [(dspS d),(.int .u32 (.sym fun _=>w))] [] (fun r _=>r = .bool (.lit true)):=by
  cases h:readyD d with
  |false=>exact law8t d w h
  | true=>
    by_cases hf:firmE d=0
    · exact law8y d w hw h hf
    · exact law8b d w hw h hf
end Go.Proofs.Ytkdggbfknlcdaaa
