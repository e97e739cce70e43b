/- DisputeLeft: what the law computes. No condition. -/
import Derived.Test.YtkdggbfknlcdaaaT7
set_option linter.unusedVariables false
set_option linter.unusedSimpArgs false
set_option linter.deprecated false
set_option linter.all false

namespace Go.Proofs.Ytkdggbfknlcdaaa
open Go.Eng.Dif Go.Eng.Few
def outD (d:Dsp)(b:Nat):Dsp:=withF d (kpT d.fs (outN b) d.fs.length)
theorem outD_ok {d:Dsp}(h:DOk d)(b:Nat):DOk (outD d b):=
  withF_ok h (Nat.le_trans (kpT_len _ _ _) h.f6) fun f hf=>FOk.mem h.f (kpT_mem (Nat.le_refl _) hf)
theorem outD_can {d:Dsp}(b:Nat):canT (outD d b) (outD d b).fs []=canO (SN d) (LO d) (FO d d.fs) (outN b):=by
  rw [can_nil]
  show canD (SN d) (LO d) (FO d (kpT d.fs (outN b) d.fs.length))=_
  rw [FO_kp (Nat.le_refl _)]
  unfold canO
  rw [FO_len]
theorem outD_bnd {d:Dsp}(hF:faultD d=0)(b:Nat):(canO (SN d) (LO d) (FO d d.fs) (outN b)=true∧bndE (outD d b)=0)∨(canO (SN d) (LO d) (FO d d.fs) (outN b)=false∧bndE (outD d b)=11):=by
  have hx:=faultD_iff.2 (outD_ok (faultD_iff.1 hF) b)
  cases hc:canO (SN d) (LO d) (FO d d.fs) (outN b)with
  |true=>exact .inl ⟨rfl,(bndE_yes hx (by rw [outD_can];exact hc)).1⟩
  |false=>exact .inr ⟨rfl,(bndE_no hx (by rw [outD_can];exact hc)).1⟩
theorem left_a {d:Dsp}(hf:firmE d=0):bndE (outD d (maskN (leaL d) (leaL d).length))=0:=by
  have hF:=firmE_ok hf
  have hd:=faultD_iff.1 hF.1
  have e:leaL d=fewL d.fs.length (okFa d):=if_pos hf
  have q:=left_can (okk hd hd.f) (by rw [FO_len];have:=hd.f6;omega) (by rw [←links_is];exact hF.2)
  rw [FO_len,←okFa_is,←e]at q
  rcases outD_bnd hF.1 (maskN (leaL d) (leaL d).length)with h|h
  · exact h.2
  · rw [q]at h;cases h.1
theorem left_b {d:Dsp}(hf:firmE d=0):bndE (outD d (ofN (ptD d) (maskN (belL d) (belL d).length) d.fs.length))=0:=by
  have hF:=firmE_ok hf
  have hd:=faultD_iff.1 hF.1
  have e:belL d=fewL d.pn.toNat (okPa d):=if_pos hf
  have q:=part_can (okk hd hd.f) (P:=d.pn.toNat) (by have:=hd.p4;omega) (pt_bd hd) (by rw [←links_is];exact hF.2)
  rw [FO_len,←okPa_is hd,←e]at q
  rcases outD_bnd hF.1 (ofN (ptD d) (maskN (belL d) (belL d).length) d.fs.length)with h|h
  · exact h.2
  · rw [q]at h;cases h.1
theorem left_c {d:Dsp}(hf:firmE d=0) {b:Nat}(hb:b<2^d.fs.length):bndE (outD d b)=11∨(bndE (outD d b)=0∧lessL (bitsN b 16) (leaL d)=false):=by
  have hF:=firmE_ok hf
  have hd:=faultD_iff.1 hF.1
  have e:leaL d=fewL d.fs.length (okFa d):=if_pos hf
  rcases outD_bnd hF.1 b with h|h
  · refine .inr ⟨h.2,?_⟩
    have q:=left_no (okk hd hd.f) (by rw [FO_len];have:=hd.f6;omega) (by rw [←links_is];exact hF.2) (by rw [FO_len];exact hb) h.1
    rw [FO_len,←okFa_is,←e]at q
    exact q
  · exact .inl h.2
theorem left_d {d:Dsp}(hf:firmE d=0) {b:Nat}(hb:b<2^d.pn.toNat):bndE (outD d (ofN (ptD d) b d.fs.length))=11∨(bndE (outD d (ofN (ptD d) b d.fs.length))=0∧lessL (bitsN b 16) (belL d)=false):=by
  have hF:=firmE_ok hf
  have hd:=faultD_iff.1 hF.1
  have e:belL d=fewL d.pn.toNat (okPa d):=if_pos hf
  rcases outD_bnd hF.1 (ofN (ptD d) b d.fs.length)with h|h
  · refine .inr ⟨h.2,?_⟩
    have q:=part_no (okk hd hd.f) (P:=d.pn.toNat) (by have:=hd.p4;omega) (pt_bd hd) (by rw [←links_is];exact hF.2) hb (by rw [FO_len];exact h.1)
    rw [←okPa_is hd,←e]at q
    exact q
  · exact .inl h.2
set_option maxRecDepth 10000 in
theorem lea_asc {d:Dsp}(hf:firmE d=0):Asc d.fs.length 0 (leaL d):=by
  have e:leaL d=fewL d.fs.length (okFa d):=if_pos hf
  have q:=few_spec (firm_iotaF hf)
  rw [e];exact q.1
set_option maxRecDepth 10000 in
theorem bel_asc {d:Dsp}(hf:firmE d=0):Asc d.pn.toNat 0 (belL d):=by
  have e:belL d=fewL d.pn.toNat (okPa d):=if_pos hf
  have q:=few_spec (firm_iotaP hf)
  rw [e];exact q.1
theorem asc_len {n:Nat} {L:List Int}(h:Asc n 0 L):L.length≤n:=by
  rcases asc_room h with e|e
  · rw [e];exact Nat.zero_le _
  · omega
theorem less_lt {a b:List Int}(h:a.length<b.length):lessL a b=true:=by
  unfold lessL
  rw [if_neg (by omega),decide_eq_true h]
theorem less_gt {a b:List Int}(h:¬a.length<b.length)(h':¬a.length=b.length):lessL a b=false:=by
  unfold lessL
  rw [if_neg h',decide_eq_false h]
theorem less_eq {a b:List Int}(h:a.length=b.length):lessL a b=lessL.lexB a b:=by
  unfold lessL
  rw [if_pos h]
theorem bits_stop {k p:Nat}(hp:p≤16)(h:¬0<(k:Int).fdiv (2^p)):bitsN k p=bitsN k 16:=by
  rw [fdiv_nat]at h
  have h0:k/2^p=0:=by clear hp;generalize k/2^p=z at h⊢;omega
  have h1:k<2^p:=by
    rcases Nat.lt_or_ge k (2^p)with q|q
    · exact q
    · have:=Nat.div_pos q (Nat.pow_pos (by decide));omega
  have:=bits_up h1 (16-p)
  rw [show p+(16-p)=16 by omega]at this
  exact this.symm
theorem bits_room {k p:Nat}(hk:k<2^16)(h:0<(k:Int).fdiv (2^p)):p<16:=by
  rw [fdiv_nat]at h
  rcases Nat.lt_or_ge p 16 with q|q
  · exact q
  · have h1:2^16≤2^p:=Nat.pow_le_pow_right (by decide) q
    have h0:k/2^p=0:=Nat.div_eq_of_lt (by omega)
    omega
end Go.Proofs.Ytkdggbfknlcdaaa

namespace Go.Proofs.Ytkdggbfknlcdaaa
open Go Go.Eng Go.Proofs Go.Eng.Dif Go.Eng.Few
set_option maxRecDepth 10000
theorem bits32 (k:Nat)(hk:k<2^16):FSpec Try.prog 32 [(.int .i64 (.sym fun _=>zi k))] [] (fun r _=>r=(.sl 1 (.sym fun _=>zi (bitsN k 16).length) (fun ix=>[.int .i64 (.sym fun _=>(bitsN k 16).getD ix.den.toNat 0)]))):=by
  refine FSpec.is fun R hR=>qW (sc:=sc32) tyok mix Try.func32 rfl Try.call32 (by kernel_rfl) (by kernel_rfl) ?_
  generalize Try.prog=P
  cbv
  repeat' (first
      |fail)
  all_goals first
    |skip
  refine⟨none,[⟨.tmp 3,3,1⟩],{x:Nat×List Int // x.1≤16∧x.2=bitsN k x.1},fun x=>⟨[(0,(.int .i64 (.sym fun _=>zi k))),(3,.row 3),(4,(.int .i64 (.sym fun _=>zi x.1.1)))],[(3,.row 3 1 (.sym fun _=>zi (x.1.2).length) (fun ix=>[.int .i64 (.sym fun _=>(x.1.2).getD ix.den.toNat 0)]))],30⟩,fun x=>16-x.1.1,?_,?_⟩
  · refine⟨⟨(0,[]),by omega,rfl⟩,?_⟩
    cbv
    repeat' (first
      |with_reducible refine hold ?_ ?_
      |with_reducible refine And.intro ?_ ?_)
    all_goals first
      |trivial
      |exact qM (qE (by rfl))
      |exact qM (Fit.refl _)
      |(refine qL (ble_row ?_ ?_);(first|rfl|((try simp only [qV]at *);(try simp only [zQ,zA,zB,zC,zD,zE,zF,zG,zH,zI,zJ,zK,zL,zM,zN,zO,zP,zR,zS]at *);omega));intro ix h0 h1;exfalso;(try simp only [qV]at *);(try simp only [zQ,zA,zB,zC,zD,zE,zF,zG,zH,zI,zJ,zK,zL,zM,zN,zO,zP,zR,zS]at *);omega)
      |skip
  · rintro ⟨⟨p,L⟩,hp,hL⟩
    cbv
    dsimp only at hp hL
    have hs:=tb_bd k p
    have hlen:=bitsN_len k p
    rw [←hL]at hlen
    repeat' (first
        |with_reducible refine hold ?_ ?_
        |with_reducible refine And.intro ?_ ?_
        | (with_reducible refine qT ?_ ?_
           try cbv)
        |(with_reducible intro hcd;(try simp only [zA,zB,zC,zD,zE,zF,zG,zH,zI,zJ,zK,zL,zM,zN,zO,zP]at hcd);try cbv)
        | (with_reducible refine shr_k ?_ ?_
           try cbv)
        | (obtain⟨L2,eL2⟩:∃y:List Int,y=L++[zi p]:=⟨_,rfl⟩
           refine⟨intsE L2,?_⟩
           cbv
           refine hold (hold_rowlist (L:=L) eL2 (by(first|rfl|((try simp only [qV]at *);(try simp only [zQ,zA,zB,zC,zD,zE,zF,zG,zH,zI,zJ,zK,zL,zM,zN,zO,zP,zR,zS]at *);done)|((try simp only [qV]at *);(try simp only [zQ,zA,zB,zC,zD,zE,zF,zG,zH,zI,zJ,zK,zL,zM,zN,zO,zP,zR,zS]at *);omega))) (by rfl) (fun ix=>Fit.refl _) (fun ix h=>qC (qE (by rfl)) rfl qA) (by(try simp only [qV]at *);(try simp only [zQ,zA,zB,zC,zD,zE,zF,zG,zH,zI,zJ,zK,zL,zM,zN,zO,zP,zR,zS]at *);omega)) (Or.inl ?_)
           try cbv)
        |fail)
    all_goals first
      |((try simp only [qV]at *);(try simp only [zQ,zA,zB,zC,zD,zE,zF,zG,zH,zI,zJ,zK,zL,zM,zN,zO,zP,zR,zS]at *);first|(refine qN ?_;omega)|(simp only [Hold];omega))
      |((try simp only [qV]at *);(try simp only [zQ,zA,zB,zC,zD,zE,zF,zG,zH,zI,zJ,zK,zL,zM,zN,zO,zP,zR,zS]at *);first|(refine hold_u64 ?_;omega)|(refine hold_u8 ?_;omega)|(refine hold_sh64 ?_;omega)|(refine qN ?_;omega))
      |((try simp only [zQ,zA,zB,zC,zD,zE,zF,zG,zH,zI,zJ,zK,zL,zM,zN,zO,zP,zR,zS]at *);(have hp16:p<16:=bits_room hk (by((try simp only [qV]at *);(try simp only [zQ,zA,zB,zC,zD,zE,zF,zG,zH,zI,zJ,zK,zL,zM,zN,zO,zP,zR,zS]at *);first|assumption|omega)));refine⟨⟨(p+1,L2),by((try simp only [qV]at *);(try simp only [zQ,zA,zB,zC,zD,zE,zF,zG,zH,zI,zJ,zK,zL,zM,zN,zO,zP,zR,zS]at *);omega),by rw [eL2,hL];exact(bitsN_y (by(try simp only [qV]at *);(try simp only [zQ,zA,zB,zC,zD,zE,zF,zG,zH,zI,zJ,zK,zL,zM,zN,zO,zP,zR,zS]at *);assumption)).symm⟩,by simp only [];omega,?_⟩;cbv;(repeat' (first|with_reducible refine hold ?_ ?_|with_reducible refine And.intro ?_ ?_));(all_goals first|trivial|exact qM (qE (by rfl))|exact qM (qF (by rfl))|exact qM (Fit.refl _)|exact qL (qK _)|(refine qM (qE ?_);(try simp only [qV]at *);simp only [zQ,zA,zB,zC,zD,zE,zF,zG,zH,zI,zJ,zK,zL,zM,zN,zO,zP,zR,zS]at *;omega)|(refine qL (ble_list ?_ ?_);(first|rfl|((try simp only [qV]at *);(try simp only [zQ,zA,zB,zC,zD,zE,zF,zG,zH,zI,zJ,zK,zL,zM,zN,zO,zP,zR,zS]at *);simp only [eL2,List.length_append,List.length_cons,List.length_nil];omega));intro ix;(try simp only [eL2]);first|exact Fit.refl _|exact qC (qE (by rfl)) rfl qA)|skip))
      |((try simp only [zQ,zA,zB,zC,zD,zE,zF,zG,zH,zI,zJ,zK,zL,zM,zN,zO,zP,zR,zS]at *);(have hp16:p<16:=bits_room hk (by((try simp only [qV]at *);(try simp only [zQ,zA,zB,zC,zD,zE,zF,zG,zH,zI,zJ,zK,zL,zM,zN,zO,zP,zR,zS]at *);first|assumption|omega)));refine⟨⟨(p+1,L),by((try simp only [qV]at *);(try simp only [zQ,zA,zB,zC,zD,zE,zF,zG,zH,zI,zJ,zK,zL,zM,zN,zO,zP,zR,zS]at *);omega),by rw [hL];exact(bitsN_n (by(try simp only [qV]at *);(try simp only [zQ,zA,zB,zC,zD,zE,zF,zG,zH,zI,zJ,zK,zL,zM,zN,zO,zP,zR,zS]at *);assumption)).symm⟩,by simp only [];omega,?_⟩;cbv;(repeat' (first|with_reducible refine hold ?_ ?_|with_reducible refine And.intro ?_ ?_));(all_goals first|trivial|exact qM (qE (by rfl))|exact qM (qF (by rfl))|exact qM (Fit.refl _)|exact qL (qK _)|(refine qM (qE ?_);(try simp only [qV]at *);simp only [zQ,zA,zB,zC,zD,zE,zF,zG,zH,zI,zJ,zK,zL,zM,zN,zO,zP,zR,zS]at *;omega)|(refine qL (ble_list ?_ ?_);(first|rfl|((try simp only [qV]at *);(try simp only [zQ,zA,zB,zC,zD,zE,zF,zG,zH,zI,zJ,zK,zL,zM,zN,zO,zP,zR,zS]at *);simp only [List.length_append,List.length_cons,List.length_nil];omega));intro ix;first|exact Fit.refl _|exact qC (qE (by rfl)) rfl qA)|skip))
      |((have hst:bitsN k p=bitsN k 16:=bits_stop hp (by((try simp only [qV]at *);(try simp only [zQ,zA,zB,zC,zD,zE,zF,zG,zH,zI,zJ,zK,zL,zM,zN,zO,zP,zR,zS]at *);first|assumption|omega)));(have hLL:L=bitsN k 16:=hL.trans hst);subst hLL;subst hR;exact Fit.refl _)
      |skip
theorem before60 (a b:List Int)(ha:a.length≤1000)(he:a.length=b.length):FSpec Try.prog 60 [(.sl 1 (.sym fun _=>zi (a).length) (fun ix=>[.int .i64 (.sym fun _=>(a).getD ix.den.toNat 0)])),(.sl 1 (.sym fun _=>zi (b).length) (fun ix=>[.int .i64 (.sym fun _=>(b).getD ix.den.toNat 0)]))] [] (fun r _=>r=(.bool (.sym fun _=>lessL.lexB a b))):=by
  refine FSpec.is fun R hR=>qW (sc:=sc60) tyok mix Try.func60 rfl Try.call60 (by kernel_rfl) (by kernel_rfl) ?_
  generalize Try.prog=P
  cbv
  repeat' (first
      |fail)
  all_goals first
    |skip
  refine⟨none,[],{i:Nat // i≤a.length∧∀j,j<i→a.getD j 0=b.getD j 0},fun x=>⟨[(0,(.sl 1 (.sym fun _=>zi (a).length) (fun ix=>[.int .i64 (.sym fun _=>(a).getD ix.den.toNat 0)]))),(1,(.sl 1 (.sym fun _=>zi (b).length) (fun ix=>[.int .i64 (.sym fun _=>(b).getD ix.den.toNat 0)]))),(5,(.int .i64 (.sym fun _=>zi x.1)))],[],60⟩,fun x=>a.length-x.1,?_,?_⟩
  · refine⟨⟨0,by omega,fun j hj=>by omega⟩,?_⟩
    cbv
    repeat' (first
      |with_reducible refine hold ?_ ?_
      |with_reducible refine And.intro ?_ ?_)
    all_goals first
      |trivial
      |exact qM (qE (by rfl))
      |exact qM (Fit.refl _)
      |skip
  · rintro⟨i,hi,hq⟩
    cbv
    repeat' (first
        |with_reducible refine hold ?_ ?_
        |with_reducible refine And.intro ?_ ?_
        |(with_reducible intro hcd;(try simp only [zA,zB,zC,zD,zE,zF,zG,zH,zI,zJ,zK,zL,zM,zN,zO,zP]at hcd);try cbv)
        |fail)
    all_goals first
      |((try simp only [qV]at *);(try simp only [zQ,zA,zB,zC,zD,zE,zF,zG,zH,zI,zJ,zK,zL,zM,zN,zO,zP,zR,zS]at *);first|(refine qN ?_;omega)|(simp only [Hold];omega))
      |(subst hR;(refine qF ?_;(have hne:¬a.getD i 0=b.getD i 0:=by assumption);exact(lex_at (i:=i) (by((try simp only [qV]at *);(try simp only [zQ,zA,zB,zC,zD,zE,zF,zG,zH,zI,zJ,zK,zL,zM,zN,zO,zP,zR,zS]at *);omega)) he hq hne).symm);done)
      |(subst hR;(refine qF ?_;rw [lex_same (a:=a) (b:=b) (fun j hj=>hq j (by((try simp only [qV]at *);(try simp only [zQ,zA,zB,zC,zD,zE,zF,zG,zH,zI,zJ,zK,zL,zM,zN,zO,zP,zR,zS]at *);omega))) he];(try simp only [qV]at *);(try simp only [zQ,zA,zB,zC,zD,zE,zF,zG,zH,zI,zJ,zK,zL,zM,zN,zO,zP,zR,zS]at *);first|omega|exact decide_eq_false (by omega));done)
      |((try simp only [zQ,zA,zB,zC,zD,zE,zF,zG,zH,zI,zJ,zK,zL,zM,zN,zO,zP,zR,zS]at *);(have hne:a.getD i 0=b.getD i 0:=by first|assumption|exact Classical.not_not.1 (by assumption));refine⟨⟨i+1,by((try simp only [qV]at *);(try simp only [zQ,zA,zB,zC,zD,zE,zF,zG,zH,zI,zJ,zK,zL,zM,zN,zO,zP,zR,zS]at *);omega),fun j hj=>(Nat.lt_or_ge j i).elim (hq j) fun q=>by rw [show j=i by omega];exact hne⟩,by simp only [];omega,?_⟩;cbv;(repeat' (first|with_reducible refine hold ?_ ?_|with_reducible refine And.intro ?_ ?_));(all_goals first|trivial|exact qM (qE (by rfl))|exact qM (qF (by rfl))|exact qM (Fit.refl _)|exact qL (qK _)|(refine qM (qE ?_);(try simp only [qV]at *);simp only [zQ,zA,zB,zC,zD,zE,zF,zG,zH,zI,zJ,zK,zL,zM,zN,zO,zP,zR,zS]at *;omega)|skip))
      |skip
theorem shorter31 (a b:List Int)(ha:a.length≤1000)(hb:b.length≤1000):FSpec Try.prog 31 [(.sl 1 (.sym fun _=>zi (a).length) (fun ix=>[.int .i64 (.sym fun _=>(a).getD ix.den.toNat 0)])),(.sl 1 (.sym fun _=>zi (b).length) (fun ix=>[.int .i64 (.sym fun _=>(b).getD ix.den.toNat 0)]))] [] (fun r _=>r=(.bool (.sym fun _=>lessL a b))):=by
  have c60:=fun he:a.length=b.length=>before60 a b ha he
  refine FSpec.is fun R hR=>qW (sc:=sc31) tyok mix Try.func31 rfl Try.call31 (by kernel_rfl) (by kernel_rfl) ?_
  generalize Try.prog=P at c60⊢
  cbv
  repeat' (first
      |with_reducible refine And.intro ?_ ?_
      |(with_reducible intro hcd;(try simp only [zA,zB,zC,zD,zE,zF,zG,zH,zI,zJ,zK,zL,zM,zN,zO,zP]at hcd);try cbv)
      | (refine qP ?_ (c60 (show Hold _ from ?_)) ?hfit
         case hfit=>((repeat' (first|exact qB|refine qD ?_ ?_|exact qE (by rfl)|exact qF (by rfl)|exact Fit.refl _|exact qA|refine qC ?_ rfl ?_));done)
         try cbv)
      |fail)
  all_goals first
    |((try simp only [qV]at *);(try simp only [zQ,zA,zB,zC,zD,zE,zF,zG,zH,zI,zJ,zK,zL,zM,zN,zO,zP,zR,zS]at *);first|(refine qN ?_;omega)|(simp only [Hold];omega))
    |(subst hR;(refine qF ?_;(try simp only [qV]at *);(try simp only [zQ,zA,zB,zC,zD,zE,zF,zG,zH,zI,zJ,zK,zL,zM,zN,zO,zP,zR,zS]at *);first|exact(less_lt (by omega)).symm|exact(less_gt (by omega) (by omega)).symm|exact(less_eq (by omega)).symm);done)
    |skip
theorem or_ob4 {a b:Int} {x y:Nat}(ha:a=(x:Int))(hb:b=(y:Int))(hx:x<2^6)(hy:y<2^6):Hold (∃x' y':Nat,a=(x':Int)∧b=(y':Int)∧inR .i64 (x':Int)∧inR .i64 (y':Int)∧inR .i64 ((x' |||y':Nat):Int)∧zi (x |||y)=((x' |||y':Nat):Int)):=by
  have h3:(x |||y)<2^6:=Nat.or_lt_two_pow hx hy
  refine⟨x,y,ha,hb,?_,?_,?_,rfl⟩<;>unfold inR<;>simp only<;>omega
theorem p2_ok6 {q:Int}(h0:0≤q)(hn:q≤6):Hold (inR .i64 (1*2^q.toNat)):=by
  have h2:2^q.toNat≤2^6:=Nat.pow_le_pow_right (by decide) (by omega)
  have e:(1:Int)*2^q.toNat=((2^q.toNat:Nat):Int):=by simp
  rw [e]
  clear e
  generalize 2^q.toNat=y at h2⊢
  refine qN ?_
  omega
theorem mask_z {L:List Int} {n:Nat}(h:n=L.length):maskN L n=maskN L L.length:=by rw [h]
theorem bitsOf28 (l:List Int)(n:Nat)(v:Int)(hA:Asc n 0 l)(hn:n≤6)(hv:v=(n:Int)):FSpec Try.prog 28 [(.sl 1 (.sym fun _=>zi (l).length) (fun ix=>[.int .i64 (.sym fun _=>(l).getD ix.den.toNat 0)])),(.int .i64 (.sym fun _=>v))] [] (fun r _=>r=(.tup [(.int .i64 (.sym fun _=>zi (maskN l l.length))),(.bool (.lit true))])):=by
  have hlen:=asc_len hA
  have hXa:=asc_at hA
  have hXl:=asc_lt hA
  have hml:∀i,i<l.length→maskN l i<2^6:=fun i hi=>Nat.lt_of_lt_of_le (mask_lt (m:=n) fun j hj=>by have:=hXa j (by omega);omega) (Nat.pow_le_pow_right (by decide) hn)
  have hmz:maskN l l.length<2^6:=Nat.lt_of_lt_of_le (mask_lt (m:=n) fun j hj=>by have:=hXa j (by omega);omega) (Nat.pow_le_pow_right (by decide) hn)
  have hpl:∀i,i<l.length→2^(l.getD i 0).toNat<2^6:=fun i hi=>Nat.pow_lt_pow_right (by decide) (by have:=hXa i hi;omega)
  refine FSpec.is fun R hR=>qW (sc:=sc28) tyok mix Try.func28 rfl Try.call28 (by kernel_rfl) (by kernel_rfl) ?_
  generalize Try.prog=P
  cbv
  repeat' (first
      |fail)
  all_goals first
    |skip
  refine⟨none,[],{i:Nat // i≤l.length},fun x=>⟨[(0,(.sl 1 (.sym fun _=>zi (l).length) (fun ix=>[.int .i64 (.sym fun _=>(l).getD ix.den.toNat 0)]))),(1,(.int .i64 (.sym fun _=>v))),(6,(.int .i64 (.sym fun _=>zi (maskN l x.1)))),(7,(.int .i64 (.sym fun _=>zi x.1)))],[],100⟩,fun x=>l.length-x.1,?_,?_⟩
  · refine⟨⟨0,by omega⟩,?_⟩
    cbv
    repeat' (first
      |with_reducible refine hold ?_ ?_
      |with_reducible refine And.intro ?_ ?_)
    all_goals first
      |trivial
      |exact qM (qE (by rfl))
      |exact qM (Fit.refl _)
      |skip
  · rintro ⟨i,hi⟩
    cbv
    have hx1:i<l.length→0≤l.getD i 0∧l.getD i 0<n:=fun q=>by have:=hXa i q;omega
    have hx2:0<i→i<l.length→l.getD (zi i-1).toNat 0<l.getD i 0:=fun a b=>by rw [show(zi i-1).toNat=i-1 by simp only [zi_den];omega];exact hXl i a b
    repeat' (first
        |with_reducible refine hold ?_ ?_
        |with_reducible refine And.intro ?_ ?_
        |(with_reducible intro hcd;(try simp only [zA,zB,zC,zD,zE,zF,zG,zH,zI,zJ,zK,zL,zM,zN,zO,zP]at hcd);try cbv)
        | (with_reducible refine shl_k ?_ ?_ ?_
           try cbv)
        | (refine⟨zi (maskN l i |||2^(l.getD i 0).toNat),?_⟩
           cbv
           refine hold (or_ob4 (x:=maskN l i) (y:=2^(l.getD i 0).toNat) (by first|rfl|((try simp only [qV]at *);(try simp only [zQ,zA,zB,zC,zD,zE,zF,zG,zH,zI,zJ,zK,zL,zM,zN,zO,zP,zR,zS]at *);rfl)) (by((try simp only [qV]at *);(try simp only [zQ,zA,zB,zC,zD,zE,zF,zG,zH,zI,zJ,zK,zL,zM,zN,zO,zP,zR,zS]at *));(try simp)) (hml i (by((try simp only [qV]at *);(try simp only [zQ,zA,zB,zC,zD,zE,zF,zG,zH,zI,zJ,zK,zL,zM,zN,zO,zP,zR,zS]at *);omega))) (hpl i (by((try simp only [qV]at *);(try simp only [zQ,zA,zB,zC,zD,zE,zF,zG,zH,zI,zJ,zK,zL,zM,zN,zO,zP,zR,zS]at *);omega)))) ?_
           try cbv)
        |fail)
    all_goals first
      |((try simp only [qV]at *);(try simp only [zQ,zA,zB,zC,zD,zE,zF,zG,zH,zI,zJ,zK,zL,zM,zN,zO,zP,zR,zS,allB_t,allB_f,inB_t,inB_f,ofB_t,ofB_f,linkB_t,linkB_f,factB_t,factB_f]at *);first|(refine qN ?_;omega)|(simp only [Hold];omega))
      |(subst hR;(exact qD (qE (congrArg zi (mask_z (by((try simp only [qV]at *);(try simp only [zQ,zA,zB,zC,zD,zE,zF,zG,zH,zI,zJ,zK,zL,zM,zN,zO,zP,zR,zS]at *);omega))))) (qD (Fit.refl _) qB));done)
      |((try simp only [qV]at *);(try simp only [zQ,zA,zB,zC,zD,zE,zF,zG,zH,zI,zJ,zK,zL,zM,zN,zO,zP,zR,zS]at *);first|(refine hold_u64 ?_;omega)|(refine hold_u8 ?_;omega)|(refine hold_sh64 ?_;omega)|(refine qN ?_;omega))
      |((try simp only [qV]at *);(try simp only [zQ,zA,zB,zC,zD,zE,zF,zG,zH,zI,zJ,zK,zL,zM,zN,zO,zP,zR,zS]at *);first|(exact p2_ok6 (by omega) (by omega)))
      |(exfalso;(try simp only [qV]at *);(try simp only [zQ,zA,zB,zC,zD,zE,zF,zG,zH,zI,zJ,zK,zL,zM,zN,zO,zP,zR,zS]at *);(try simp only [allB_t,allB_f,inB_t,inB_f,ofB_t,ofB_f,linkB_t,linkB_f,factB_t,factB_f]at *);omega)
      |((try simp only [zQ,zA,zB,zC,zD,zE,zF,zG,zH,zI,zJ,zK,zL,zM,zN,zO,zP,zR,zS]at *);refine⟨⟨i+1,by((try simp only [qV]at *);(try simp only [zQ,zA,zB,zC,zD,zE,zF,zG,zH,zI,zJ,zK,zL,zM,zN,zO,zP,zR,zS]at *);omega)⟩,by simp only [];omega,?_⟩;cbv;(repeat' (first|with_reducible refine hold ?_ ?_|with_reducible refine And.intro ?_ ?_));(all_goals first|trivial|exact qM (qE (by rfl))|exact qM (qF (by rfl))|exact qM (Fit.refl _)|exact qL (qK _)|(refine qM (qE ?_);(try simp only [qV]at *);simp only [zQ,zA,zB,zC,zD,zE,zF,zG,zH,zI,zJ,zK,zL,zM,zN,zO,zP,zR,zS]at *;omega)|(exact qM (qE rfl))|skip))
      |skip
end Go.Proofs.Ytkdggbfknlcdaaa

namespace Go.Proofs.Ytkdggbfknlcdaaa
open Go Go.Eng Go.Proofs Go.Eng.Dif Go.Eng.Few
set_option maxRecDepth 10000
theorem ofN_y {pt:Nat→Int} {b i:Nat} {q:Int}(hq:pt i=q)(h0:0≤q)(h:((b:Int).fdiv (2^q.toNat)).tmod 2=1):ofN pt b i |||2^i=ofN pt b (i+1):=by
  subst hq
  have:=(tb_iff b _).1 h
  simp only [ofN,this,if_true]
theorem ofN_n {pt:Nat→Int} {b i:Nat} {q:Int}(hq:pt i=q)(h:¬((b:Int).fdiv (2^q.toNat)).tmod 2=1):ofN pt b i=ofN pt b (i+1):=by
  subst hq
  have:b.testBit (pt i).toNat=false:=by
    cases e:b.testBit (pt i).toNat with
    |true=>exact absurd ((tb_iff b _).2 e) h
    |false=>rfl
  simp only [ofN,this,Bool.false_eq_true,if_false]
theorem of30 (d:Dsp)(b:Nat)(hd:DOk d)(hb:b≤1000):FSpec Try.prog 30 [(dspS d),(.int .i64 (.sym fun _=>zi b))] [] (fun r _=>r=(.int .i64 (.sym fun _=>zi (ofN (ptD d) b d.fs.length)))):=by
  have f6:=hd.f6
  have p4:=hd.p4
  have hml:∀i,i<d.fs.length→ofN (ptD d) b i<2^6:=fun i hi=>Nat.lt_of_lt_of_le (ofN_lt (ptD d) b i) (Nat.pow_le_pow_right (by decide) (by omega))
  have hpl:∀i,i<d.fs.length→2^i<2^6:=fun i hi=>Nat.pow_lt_pow_right (by decide) (by omega)
  have hpt:∀i,i<d.fs.length→0≤(d.fs.getD i f0T).p∧(d.fs.getD i f0T).p≤3:=fun i hi=>by have:=hd.f i hi;unfold factP at this;omega
  refine FSpec.is fun R hR=>qW (sc:=sc30) tyok mix Try.func30 rfl Try.call30 (by kernel_rfl) (by kernel_rfl) ?_
  generalize Try.prog=P
  cbv
  repeat' (first
      |fail)
  all_goals first
    |skip
  refine⟨none,[],{i:Nat // i≤d.fs.length},fun x=>⟨[(2,.own 0 0),(1,(.int .i64 (.sym fun _=>zi b))),(5,(.int .i64 (.sym fun _=>zi (ofN (ptD d) b x.1)))),(6,(.int .i64 (.sym fun _=>zi x.1)))],[(0,.cells [(.sl 1 (.sym fun _=>zi (d.tw).length) (fun ix=>[.int .i64 (.sym fun _=>(d.tw).getD ix.den.toNat 0)])),(.sl 1 (.sym fun _=>zi (d.tm).length) (fun ix=>[.int .i64 (.sym fun _=>(d.tm).getD ix.den.toNat 0)])),(.sl 1 (.sym fun _=>zi (d.tv).length) (fun ix=>[(.sl 1 (.sym fun _=>zi ((d.tv).getD ix.den.toNat []).length) (fun jx=>[.int .i64 (.sym fun _=>((d.tv).getD ix.den.toNat []).getD jx.den.toNat 0)]))])),(.int .i64 (.sym fun _=>d.sn)),(.int .i64 (.sym fun _=>d.pn)),(.sl 4 (.sym fun _=>zi (d.ls).length) (fun ix=>[(.int .i64 (.sym fun _=>((d.ls).getD ix.den.toNat l0T).a)),(.int .i64 (.sym fun _=>((d.ls).getD ix.den.toNat l0T).b)),(.int .i64 (.sym fun _=>((d.ls).getD ix.den.toNat l0T).lo)),(.int .i64 (.sym fun _=>((d.ls).getD ix.den.toNat l0T).hi))])),(.sl 6 (.sym fun _=>zi (d.fs).length) (fun ix=>[(.int .i64 (.sym fun _=>((d.fs).getD ix.den.toNat f0T).p)),(.int .i64 (.sym fun _=>((d.fs).getD ix.den.toNat f0T).s)),(.int .i64 (.sym fun _=>((d.fs).getD ix.den.toNat f0T).wl)),(.int .i64 (.sym fun _=>((d.fs).getD ix.den.toNat f0T).wh)),(.int .i64 (.sym fun _=>((d.fs).getD ix.den.toNat f0T).ml)),(.int .i64 (.sym fun _=>((d.fs).getD ix.den.toNat f0T).mh))]))] 29)],100⟩,fun x=>d.fs.length-x.1,?_,?_⟩
  · refine⟨⟨0,by omega⟩,?_⟩
    cbv
    repeat' (first
      |with_reducible refine hold ?_ ?_
      |with_reducible refine And.intro ?_ ?_)
    all_goals first
      |trivial
      |exact qM (qE (by rfl))
      |exact qM (Fit.refl _)
      |exact qL (qK _)
      |skip
  · rintro ⟨i,hi⟩
    cbv
    have hs:=fun (hlt:i<d.fs.length)=>tb_bd b (d.fs.getD i f0T).p.toNat
    repeat' (first
        |with_reducible refine hold ?_ ?_
        |with_reducible refine And.intro ?_ ?_
        | (with_reducible refine qT ?_ ?_
           try cbv)
        |(with_reducible intro hcd;(try simp only [zA,zB,zC,zD,zE,zF,zG,zH,zI,zJ,zK,zL,zM,zN,zO,zP]at hcd);try cbv)
        | (with_reducible refine shr_k ?_ ?_
           try cbv)
        | (with_reducible refine shl_k ?_ ?_ ?_
           try cbv)
        | (refine⟨zi (ofN (ptD d) b i |||2^i),?_⟩
           cbv
           refine hold (or_ob4 (x:=ofN (ptD d) b i) (y:=2^i) (by first|rfl|((try simp only [qV]at *);(try simp only [zQ,zA,zB,zC,zD,zE,zF,zG,zH,zI,zJ,zK,zL,zM,zN,zO,zP,zR,zS]at *);rfl)) (by((try simp only [qV]at *);(try simp only [zQ,zA,zB,zC,zD,zE,zF,zG,zH,zI,zJ,zK,zL,zM,zN,zO,zP,zR,zS]at *));(try simp)) (hml i (by((try simp only [qV]at *);(try simp only [zQ,zA,zB,zC,zD,zE,zF,zG,zH,zI,zJ,zK,zL,zM,zN,zO,zP,zR,zS]at *);omega))) (hpl i (by((try simp only [qV]at *);(try simp only [zQ,zA,zB,zC,zD,zE,zF,zG,zH,zI,zJ,zK,zL,zM,zN,zO,zP,zR,zS]at *);omega)))) ?_
           try cbv)
        |fail)
    all_goals first
      |((try simp only [qV]at *);(try simp only [zQ,zA,zB,zC,zD,zE,zF,zG,zH,zI,zJ,zK,zL,zM,zN,zO,zP,zR,zS]at *);first|(refine qN ?_;omega)|(simp only [Hold];omega))
      |(subst hR;(exact qE (congrArg (fun z=>zi (ofN (ptD d) b z)) (by((try simp only [qV]at *);(try simp only [zQ,zA,zB,zC,zD,zE,zF,zG,zH,zI,zJ,zK,zL,zM,zN,zO,zP,zR,zS]at *);omega))));done)
      |((have hlt:i<d.fs.length:=(by((try simp only [qV]at *);(try simp only [zQ,zA,zB,zC,zD,zE,zF,zG,zH,zI,zJ,zK,zL,zM,zN,zO,zP,zR,zS]at *);omega)));(have hp:=hpt i hlt);(have hs2:=hs hlt);(try simp only [qV]at *);(try simp only [zQ,zA,zB,zC,zD,zE,zF,zG,zH,zI,zJ,zK,zL,zM,zN,zO,zP,zR,zS]at *);first|(refine hold_u64 ?_;omega)|(refine hold_sh64 ?_;omega)|(refine qN ?_;omega)|(simp only [Hold];omega))
      |((have hlt:i<d.fs.length:=(by((try simp only [qV]at *);(try simp only [zQ,zA,zB,zC,zD,zE,zF,zG,zH,zI,zJ,zK,zL,zM,zN,zO,zP,zR,zS]at *);omega)));exact p2_ok6 (q:=zi i) (by simp only [zi_den];omega) (by simp only [zi_den];omega))
      |((try simp only [zQ,zA,zB,zC,zD,zE,zF,zG,zH,zI,zJ,zK,zL,zM,zN,zO,zP,zR,zS]at *);(have hlt:i<d.fs.length:=(by((try simp only [qV]at *);(try simp only [zQ,zA,zB,zC,zD,zE,zF,zG,zH,zI,zJ,zK,zL,zM,zN,zO,zP,zR,zS]at *);omega)));(have hy:=ofN_y (pt:=ptD d) (b:=b) (i:=i) (q:=(d.fs.getD i f0T).p) rfl (hpt i hlt).1 (by assumption));refine⟨⟨i+1,by((try simp only [qV]at *);(try simp only [zQ,zA,zB,zC,zD,zE,zF,zG,zH,zI,zJ,zK,zL,zM,zN,zO,zP,zR,zS]at *);omega)⟩,by simp only [];omega,?_⟩;cbv;(repeat' (first|with_reducible refine hold ?_ ?_|with_reducible refine And.intro ?_ ?_));(all_goals first|trivial|exact qM (qE (by rfl))|exact qM (qF (by rfl))|exact qM (Fit.refl _)|exact qL (qK _)|(refine qM (qE ?_);(try simp only [qV]at *);simp only [zQ,zA,zB,zC,zD,zE,zF,zG,zH,zI,zJ,zK,zL,zM,zN,zO,zP,zR,zS]at *;omega)|(exact qM (qE (congrArg zi hy)))|skip))
      |((try simp only [zQ,zA,zB,zC,zD,zE,zF,zG,zH,zI,zJ,zK,zL,zM,zN,zO,zP,zR,zS]at *);(have hlt:i<d.fs.length:=(by((try simp only [qV]at *);(try simp only [zQ,zA,zB,zC,zD,zE,zF,zG,zH,zI,zJ,zK,zL,zM,zN,zO,zP,zR,zS]at *);omega)));refine⟨⟨i+1,by((try simp only [qV]at *);(try simp only [zQ,zA,zB,zC,zD,zE,zF,zG,zH,zI,zJ,zK,zL,zM,zN,zO,zP,zR,zS]at *);omega)⟩,by simp only [];omega,?_⟩;cbv;(repeat' (first|with_reducible refine hold ?_ ?_|with_reducible refine And.intro ?_ ?_));(all_goals first|trivial|exact qM (qE (by rfl))|exact qM (qF (by rfl))|exact qM (Fit.refl _)|exact qL (qK _)|(refine qM (qE ?_);(try simp only [qV]at *);simp only [zQ,zA,zB,zC,zD,zE,zF,zG,zH,zI,zJ,zK,zL,zM,zN,zO,zP,zR,zS]at *;omega)|(exact qM (qE (congrArg zi (ofN_n (pt:=ptD d) (b:=b) (i:=i) (q:=(d.fs.getD i f0T).p) rfl (by assumption)))))|skip))
      |skip
def factsE (L:List FaT)(ix:IX):List SV:=[(.int .i64 (.sym fun _=>((L).getD ix.den.toNat f0T).p)),(.int .i64 (.sym fun _=>((L).getD ix.den.toNat f0T).s)),(.int .i64 (.sym fun _=>((L).getD ix.den.toNat f0T).wl)),(.int .i64 (.sym fun _=>((L).getD ix.den.toNat f0T).wh)),(.int .i64 (.sym fun _=>((L).getD ix.den.toNat f0T).ml)),(.int .i64 (.sym fun _=>((L).getD ix.den.toNat f0T).mh))]
theorem hold_factapp {n m b:Int} {L L2:List FaT} {y:FaT} {e new:IX→List SV}(h2:L2=L++[y])(hn:n=(L.length:Int))(hm:m=1)(he:∀ix,Fit (.agg (e ix)) (.agg (factsE L ix)))(hx:∀ix:IX,ix.den=0→Fit (.agg (new ix)) (.agg [(.int .i64 (.sym fun _=>y.p)),(.int .i64 (.sym fun _=>y.s)),(.int .i64 (.sym fun _=>y.wl)),(.int .i64 (.sym fun _=>y.wh)),(.int .i64 (.sym fun _=>y.ml)),(.int .i64 (.sym fun _=>y.mh))]))(hb:(n+m)*b≤140737488355328):
    Hold (RowApp n e m new (factsE L2)∧0≤n∧0≤m∧(n+m)*b≤140737488355328):=by
  subst hm
  subst h2
  refine hold_rowapp (fun ix jx h0 h1 h2=>(he ix).trans ?_) (fun ix jx h0 h1 h2=>(hx ix (by omega)).trans ?_) ⟨by omega,by omega,hb⟩
  · have q:(L++[y]).getD ix.den.toNat f0T=L.getD ix.den.toNat f0T:=by
      rw [List.getD_eq_getElem?_getD,List.getElem?_append_left (by omega),←List.getD_eq_getElem?_getD]
    have e3:jx.den.toNat=ix.den.toNat:=by rw [h2]
    unfold factsE
    simp only [e3,q]
    exact Fit.refl _
  · have q:(L++[y]).getD jx.den.toNat f0T=y:=by
      have e3:jx.den.toNat=L.length:=by omega
      rw [e3]
      simp [List.getD_eq_getElem?_getD]
    unfold factsE
    simp only [q]
    exact Fit.refl _
theorem outN_y {b i:Nat}(h:((b:Int).fdiv (2^i)).tmod 2=0):outN b i=true:=by unfold outN;rw [(tb_not b i).1 h];rfl
theorem outN_n {b i:Nat}(h:¬((b:Int).fdiv (2^i)).tmod 2=0):outN b i=false:=by
  unfold outN
  cases e:b.testBit i with
  |true=>rfl
  |false=>exact absurd ((tb_not b i).2 e) h
theorem without29 (d:Dsp)(b:Nat)(hf:d.fs.length≤60)(hb:b≤1000):FSpec Try.prog 29 [(dspS d),(.int .i64 (.sym fun _=>zi b))] [] (fun r _=>r=(.agg [(.sl 1 (.sym fun _=>zi (d.tw).length) (fun ix=>[.int .i64 (.sym fun _=>(d.tw).getD ix.den.toNat 0)])),(.sl 1 (.sym fun _=>zi (d.tm).length) (fun ix=>[.int .i64 (.sym fun _=>(d.tm).getD ix.den.toNat 0)])),(.sl 1 (.sym fun _=>zi (d.tv).length) (fun ix=>[(.sl 1 (.sym fun _=>zi ((d.tv).getD ix.den.toNat []).length) (fun jx=>[.int .i64 (.sym fun _=>((d.tv).getD ix.den.toNat []).getD jx.den.toNat 0)]))])),(.int .i64 (.sym fun _=>d.sn)),(.int .i64 (.sym fun _=>d.pn)),(.sl 4 (.sym fun _=>zi (d.ls).length) (fun ix=>[(.int .i64 (.sym fun _=>((d.ls).getD ix.den.toNat l0T).a)),(.int .i64 (.sym fun _=>((d.ls).getD ix.den.toNat l0T).b)),(.int .i64 (.sym fun _=>((d.ls).getD ix.den.toNat l0T).lo)),(.int .i64 (.sym fun _=>((d.ls).getD ix.den.toNat l0T).hi))])),(.sl 6 (.sym fun _=>zi ((kpT d.fs (outN b) d.fs.length)).length) (fun ix=>[(.int .i64 (.sym fun _=>(((kpT d.fs (outN b) d.fs.length)).getD ix.den.toNat f0T).p)),(.int .i64 (.sym fun _=>(((kpT d.fs (outN b) d.fs.length)).getD ix.den.toNat f0T).s)),(.int .i64 (.sym fun _=>(((kpT d.fs (outN b) d.fs.length)).getD ix.den.toNat f0T).wl)),(.int .i64 (.sym fun _=>(((kpT d.fs (outN b) d.fs.length)).getD ix.den.toNat f0T).wh)),(.int .i64 (.sym fun _=>(((kpT d.fs (outN b) d.fs.length)).getD ix.den.toNat f0T).ml)),(.int .i64 (.sym fun _=>(((kpT d.fs (outN b) d.fs.length)).getD ix.den.toNat f0T).mh))]))])):=by
  have hlen:=fun (n:Nat)=>kpT_len d.fs (outN b) n
  refine FSpec.is fun R hR=>qW (sc:=sc29) tyok mix Try.func29 rfl Try.call29 (by kernel_rfl) (by kernel_rfl) ?_
  generalize Try.prog=P
  cbv
  repeat' (first
      |fail)
  all_goals first
    |skip
  refine⟨none,[⟨.cell 3 6,50,6⟩],{x:Nat×List FaT // x.1≤d.fs.length∧x.2=kpT d.fs (outN b) x.1},fun x=>⟨[(2,.own 0 0),(4,.own 1 0),(5,.own 3 0),(1,(.int .i64 (.sym fun _=>zi b))),(6,(.int .i64 (.sym fun _=>zi x.1.1)))],[(0,.cells [(.sl 1 (.sym fun _=>zi (d.tw).length) (fun ix=>[.int .i64 (.sym fun _=>(d.tw).getD ix.den.toNat 0)])),(.sl 1 (.sym fun _=>zi (d.tm).length) (fun ix=>[.int .i64 (.sym fun _=>(d.tm).getD ix.den.toNat 0)])),(.sl 1 (.sym fun _=>zi (d.tv).length) (fun ix=>[(.sl 1 (.sym fun _=>zi ((d.tv).getD ix.den.toNat []).length) (fun jx=>[.int .i64 (.sym fun _=>((d.tv).getD ix.den.toNat []).getD jx.den.toNat 0)]))])),(.int .i64 (.sym fun _=>d.sn)),(.int .i64 (.sym fun _=>d.pn)),(.sl 4 (.sym fun _=>zi (d.ls).length) (fun ix=>[(.int .i64 (.sym fun _=>((d.ls).getD ix.den.toNat l0T).a)),(.int .i64 (.sym fun _=>((d.ls).getD ix.den.toNat l0T).b)),(.int .i64 (.sym fun _=>((d.ls).getD ix.den.toNat l0T).lo)),(.int .i64 (.sym fun _=>((d.ls).getD ix.den.toNat l0T).hi))])),(.sl 6 (.sym fun _=>zi (d.fs).length) (fun ix=>[(.int .i64 (.sym fun _=>((d.fs).getD ix.den.toNat f0T).p)),(.int .i64 (.sym fun _=>((d.fs).getD ix.den.toNat f0T).s)),(.int .i64 (.sym fun _=>((d.fs).getD ix.den.toNat f0T).wl)),(.int .i64 (.sym fun _=>((d.fs).getD ix.den.toNat f0T).wh)),(.int .i64 (.sym fun _=>((d.fs).getD ix.den.toNat f0T).ml)),(.int .i64 (.sym fun _=>((d.fs).getD ix.den.toNat f0T).mh))]))] 29),(1,.cells [.val (Value.slice none 0 0),.val (Value.slice none 0 0),.val (Value.slice none 0 0),.int .i64 (.lit 0),.int .i64 (.lit 0),.val (Value.slice none 0 0),.val (Value.slice none 0 0)] 29),(3,.cells [(.sl 1 (.sym fun _=>zi (d.tw).length) (fun ix=>[.int .i64 (.sym fun _=>(d.tw).getD ix.den.toNat 0)])),(.sl 1 (.sym fun _=>zi (d.tm).length) (fun ix=>[.int .i64 (.sym fun _=>(d.tm).getD ix.den.toNat 0)])),(.sl 1 (.sym fun _=>zi (d.tv).length) (fun ix=>[(.sl 1 (.sym fun _=>zi ((d.tv).getD ix.den.toNat []).length) (fun jx=>[.int .i64 (.sym fun _=>((d.tv).getD ix.den.toNat []).getD jx.den.toNat 0)]))])),(.int .i64 (.sym fun _=>d.sn)),(.int .i64 (.sym fun _=>d.pn)),(.sl 4 (.sym fun _=>zi (d.ls).length) (fun ix=>[(.int .i64 (.sym fun _=>((d.ls).getD ix.den.toNat l0T).a)),(.int .i64 (.sym fun _=>((d.ls).getD ix.den.toNat l0T).b)),(.int .i64 (.sym fun _=>((d.ls).getD ix.den.toNat l0T).lo)),(.int .i64 (.sym fun _=>((d.ls).getD ix.den.toNat l0T).hi))])),.row 8] 29),(8,.row 50 6 (.sym fun _=>zi (x.1.2).length) (fun ix=>[(.int .i64 (.sym fun _=>((x.1.2).getD ix.den.toNat f0T).p)),(.int .i64 (.sym fun _=>((x.1.2).getD ix.den.toNat f0T).s)),(.int .i64 (.sym fun _=>((x.1.2).getD ix.den.toNat f0T).wl)),(.int .i64 (.sym fun _=>((x.1.2).getD ix.den.toNat f0T).wh)),(.int .i64 (.sym fun _=>((x.1.2).getD ix.den.toNat f0T).ml)),(.int .i64 (.sym fun _=>((x.1.2).getD ix.den.toNat f0T).mh))]))],200⟩,fun x=>d.fs.length-x.1.1,?_,?_⟩
  · refine⟨⟨(0,[]),by omega,rfl⟩,?_⟩
    cbv
    repeat' (first
      |with_reducible refine hold ?_ ?_
      |with_reducible refine And.intro ?_ ?_)
    all_goals first
      |trivial
      |exact qM (qE (by rfl))
      |exact qM (Fit.refl _)
      |exact qL (qK _)
      |(refine qL (ble_row ?_ ?_);(first|rfl|((try simp only [qV]at *);(try simp only [zQ,zA,zB,zC,zD,zE,zF,zG,zH,zI,zJ,zK,zL,zM,zN,zO,zP,zR,zS]at *);omega));intro ix h0 h1;exfalso;(try simp only [qV]at *);(try simp only [zQ,zA,zB,zC,zD,zE,zF,zG,zH,zI,zJ,zK,zL,zM,zN,zO,zP,zR,zS]at *);omega)
      |skip
  · rintro ⟨⟨i,L⟩,hi,hL⟩
    cbv
    dsimp only at hi hL
    have hs:=tb_bd b i
    have hlL:=hlen i
    rw [←hL]at hlL
    repeat' (first
        |with_reducible refine hold ?_ ?_
        |with_reducible refine And.intro ?_ ?_
        | (with_reducible refine qT ?_ ?_
           try cbv)
        |(with_reducible intro hcd;(try simp only [zA,zB,zC,zD,zE,zF,zG,zH,zI,zJ,zK,zL,zM,zN,zO,zP]at hcd);try cbv)
        | (with_reducible refine shr_k ?_ ?_
           try cbv)
        | (obtain⟨L2,eL2⟩:∃y:List FaT,y=L++[d.fs.getD i f0T]:=⟨_,rfl⟩
           refine⟨factsE L2,?_⟩
           cbv
           refine hold (hold_factapp (L:=L) eL2 (by(first|rfl|((try simp only [qV]at *);(try simp only [zQ,zA,zB,zC,zD,zE,zF,zG,zH,zI,zJ,zK,zL,zM,zN,zO,zP,zR,zS]at *);done)|((try simp only [qV]at *);(try simp only [zQ,zA,zB,zC,zD,zE,zF,zG,zH,zI,zJ,zK,zL,zM,zN,zO,zP,zR,zS]at *);omega))) (by rfl) (fun ix=>Fit.refl _) (fun ix h=>Fit.refl _) (by(try simp only [qV]at *);(try simp only [zQ,zA,zB,zC,zD,zE,zF,zG,zH,zI,zJ,zK,zL,zM,zN,zO,zP,zR,zS]at *);omega)) (Or.inl ?_)
           try cbv)
        |fail)
    all_goals first
      |((try simp only [qV]at *);(try simp only [zQ,zA,zB,zC,zD,zE,zF,zG,zH,zI,zJ,zK,zL,zM,zN,zO,zP,zR,zS]at *);first|(refine qN ?_;omega)|(simp only [Hold];omega))
      |((try simp only [qV]at *);(try simp only [zQ,zA,zB,zC,zD,zE,zF,zG,zH,zI,zJ,zK,zL,zM,zN,zO,zP,zR,zS]at *);first|(refine hold_u64 ?_;omega)|(refine hold_u8 ?_;omega)|(refine hold_sh64 ?_;omega)|(refine qN ?_;omega))
      |((try simp only [zQ,zA,zB,zC,zD,zE,zF,zG,zH,zI,zJ,zK,zL,zM,zN,zO,zP,zR,zS]at *);refine⟨⟨(i+1,L2),by((try simp only [qV]at *);(try simp only [zQ,zA,zB,zC,zD,zE,zF,zG,zH,zI,zJ,zK,zL,zM,zN,zO,zP,zR,zS]at *);omega),by rw [eL2,hL];exact(kpT_y (outN_y (by assumption))).symm⟩,by simp only [];omega,?_⟩;cbv;(repeat' (first|with_reducible refine hold ?_ ?_|with_reducible refine And.intro ?_ ?_));(all_goals first|trivial|exact qM (qE (by rfl))|exact qM (qF (by rfl))|exact qM (Fit.refl _)|exact qL (qK _)|(refine qM (qE ?_);(try simp only [qV]at *);simp only [zQ,zA,zB,zC,zD,zE,zF,zG,zH,zI,zJ,zK,zL,zM,zN,zO,zP,zR,zS]at *;omega)|(refine qL (qJ ?_);(repeat' (first|exact qA|exact qB|refine qC ?_ rfl ?_|refine qD ?_ ?_|exact qE (by rfl)|exact qF (by rfl)|exact Fit.refl _|exact qG _|(refine qE ?_;(try simp only [qV]at *);simp only [zQ,zA,zB,zC,zD,zE,zF,zG,zH,zI,zJ,zK,zL,zM,zN,zO,zP,zR,zS]at *;omega)));done)|(refine qL (ble_row ?_ ?_);(first|rfl|((try simp only [qV]at *);(try simp only [zQ,zA,zB,zC,zD,zE,zF,zG,zH,zI,zJ,zK,zL,zM,zN,zO,zP,zR,zS]at *);simp only [eL2,List.length_append,List.length_cons,List.length_nil];omega));intro ix h0 h1;exact Fit.refl _)|skip))
      |((try simp only [zQ,zA,zB,zC,zD,zE,zF,zG,zH,zI,zJ,zK,zL,zM,zN,zO,zP,zR,zS]at *);refine⟨⟨(i+1,L),by((try simp only [qV]at *);(try simp only [zQ,zA,zB,zC,zD,zE,zF,zG,zH,zI,zJ,zK,zL,zM,zN,zO,zP,zR,zS]at *);omega),by rw [hL];exact(kpT_n (outN_n (by assumption))).symm⟩,by simp only [];omega,?_⟩;cbv;(repeat' (first|with_reducible refine hold ?_ ?_|with_reducible refine And.intro ?_ ?_));(all_goals first|trivial|exact qM (qE (by rfl))|exact qM (qF (by rfl))|exact qM (Fit.refl _)|exact qL (qK _)|(refine qM (qE ?_);(try simp only [qV]at *);simp only [zQ,zA,zB,zC,zD,zE,zF,zG,zH,zI,zJ,zK,zL,zM,zN,zO,zP,zR,zS]at *;omega)|(refine qL (qJ ?_);(repeat' (first|exact qA|exact qB|refine qC ?_ rfl ?_|refine qD ?_ ?_|exact qE (by rfl)|exact qF (by rfl)|exact Fit.refl _|exact qG _|(refine qE ?_;(try simp only [qV]at *);simp only [zQ,zA,zB,zC,zD,zE,zF,zG,zH,zI,zJ,zK,zL,zM,zN,zO,zP,zR,zS]at *;omega)));done)|(refine qL (ble_row ?_ ?_);(first|rfl|((try simp only [qV]at *);(try simp only [zQ,zA,zB,zC,zD,zE,zF,zG,zH,zI,zJ,zK,zL,zM,zN,zO,zP,zR,zS]at *);simp only [List.length_append,List.length_cons,List.length_nil];omega));intro ix h0 h1;exact Fit.refl _)|skip))
      |((have hi2:i=d.fs.length:=(by((try simp only [qV]at *);(try simp only [zQ,zA,zB,zC,zD,zE,zF,zG,zH,zI,zJ,zK,zL,zM,zN,zO,zP,zR,zS]at *);omega)));subst hi2;subst hL;subst hR;exact Fit.refl _)
      |skip
end Go.Proofs.Ytkdggbfknlcdaaa

namespace Go.Proofs.Ytkdggbfknlcdaaa
open Go Go.Eng Go.Proofs Go.Eng.Dif Go.Eng.Few
set_option maxRecDepth 10000
theorem rem_as {a b q:Int} {K:Int→Prop}(h:K q)(hb:Hold (b≠0))(hq:a.tmod b=q):∃q,(∀_:Unit,remOb a b q)∧K q:=by
  subst hq
  exact qT h hb
theorem rem_ne (n:Nat):Hold ((1:Int)*2^n≠0):=by
  have:(0:Int)<2^n:=Int.pow_pos (by decide)
  unfold Hold
  omega
theorem rem_eq (o n:Nat):((o:Int)).tmod (1*2^n)=((o%2^n:Nat):Int):=by
  rw [Int.one_mul]
  have e:(2:Int)^n=((2^n:Nat):Int):=by simp
  rw [e]
  exact(Int.ofNat_tmod _ _).symm
theorem law7t (d:Dsp)(u w:Nat)(hu:u≤255)(hw:w≤255)(h:readyD d=false):FSpec Try.prog 7 [(dspS d),(.int .u8 (.sym fun _=>zi u)),(.int .u8 (.sym fun _=>zi w))] [] (fun r _=>r=(.bool (.lit true))):=by
  have c20:=ready20 d
  have c12:=awake12
  refine FSpec.is fun R hR=>qW (sc:=sc7) tyok mix Try.func7 rfl Try.call7 (by kernel_rfl) (by kernel_rfl) ?_
  generalize Try.prog=P at c20 c12⊢
  cbv
  repeat' (first
      |with_reducible refine And.intro ?_ ?_
      |(with_reducible intro hcd;(try simp only [zA,zB,zC,zD,zE,zF,zG,zH,zI,zJ,zK,zL,zM,zN,zO,zP]at hcd);try cbv)
      | (refine qP ?_ (c20) ?hfit
         case hfit=>((repeat' (first|exact qB|refine qD ?_ ?_|exact qE (by rfl)|exact qF (by rfl)|exact Fit.refl _|exact qA|refine qC ?_ rfl ?_));done)
         try cbv)
      | (refine qP ?_ (c12) ?hfit
         case hfit=>((repeat' (first|exact qB|refine qD ?_ ?_|exact qE (by rfl)|exact qF (by rfl)|exact Fit.refl _|exact qA|refine qC ?_ rfl ?_));done)
         try cbv)
      |fail)
  all_goals first
    |(subst hR;(repeat' (first|exact qA|exact qB|refine qC ?_ rfl ?_|refine qD ?_ ?_|exact qE (by rfl)|exact qF (by rfl)|exact Fit.refl _|exact qG _|(refine qE ?_;(try simp only [qV]at *);simp only [zQ,zA,zB,zC,zD,zE,zF,zG,zH,zI,zJ,zK,zL,zM,zN,zO,zP,zR,zS]at *;omega)));done)
    |(exfalso;rw [h]at hcd;cases hcd;done)
    |skip
theorem law7f (d:Dsp)(u w:Nat)(hu:u≤255)(hw:w≤255)(h:readyD d=true)(hf:¬firmE d=0):FSpec Try.prog 7 [(dspS d),(.int .u8 (.sym fun _=>zi u)),(.int .u8 (.sym fun _=>zi w))] [] (fun r _=>r=(.bool (.lit true))):=by
  have c12:=awake12
  have hth:=thinD_t.1 (readyD_t.1 h).1
  have hF:=(readyD_t.1 h).2
  have hd:=faultD_iff.1 hF
  have f6:=hd.f6
  have p1:=hd.p1
  have p4:=hd.p4
  have c20:=lit_tD (ready20 d) h
  have c14:=dispute14 d hth.1 (by omega) (by omega)
  have c22:=leave22 d
  have c23:=believe23 d
  rw [firmE_9 hF hf]at c22 c23
  refine FSpec.is fun R hR=>qW (sc:=sc7) tyok mix Try.func7 rfl Try.call7 (by kernel_rfl) (by kernel_rfl) ?_
  generalize Try.prog=P at c12 c14 c20 c22 c23⊢
  cbv
  repeat' (first
      |with_reducible refine And.intro ?_ ?_
      |(with_reducible intro hcd;(try simp only [zA,zB,zC,zD,zE,zF,zG,zH,zI,zJ,zK,zL,zM,zN,zO,zP]at hcd);try cbv)
      | (refine qP ?_ (c20) ?hfit
         case hfit=>((repeat' (first|exact qB|refine qD ?_ ?_|exact qE (by rfl)|exact qF (by rfl)|exact Fit.refl _|exact qA|refine qC ?_ rfl ?_));done)
         try cbv)
      | (refine qP ?_ (c12) ?hfit
         case hfit=>((repeat' (first|exact qB|refine qD ?_ ?_|exact qE (by rfl)|exact qF (by rfl)|exact Fit.refl _|exact qA|refine qC ?_ rfl ?_));done)
         try cbv)
      | (refine qP ?_ (c14) ?hfit
         case hfit=>((repeat' (first|exact qB|refine qD ?_ ?_|exact qE (by rfl)|exact qF (by rfl)|exact Fit.refl _|exact qA|refine qC ?_ rfl ?_));done)
         try cbv)
      | (refine qP ?_ (c22) ?hfit
         case hfit=>((repeat' (first|exact qB|refine qD ?_ ?_|exact qE (by rfl)|exact qF (by rfl)|exact Fit.refl _|exact qA|refine qC ?_ rfl ?_));done)
         try cbv)
      | (refine qP ?_ (c23) ?hfit
         case hfit=>((repeat' (first|exact qB|refine qD ?_ ?_|exact qE (by rfl)|exact qF (by rfl)|exact Fit.refl _|exact qA|refine qC ?_ rfl ?_));done)
         try cbv)
      |fail)
  all_goals first
    |trivial
    |(subst hR;(repeat' (first|exact qA|exact qB|refine qC ?_ rfl ?_|refine qD ?_ ?_|exact qE (by rfl)|exact qF (by rfl)|exact Fit.refl _|exact qG _|(refine qE ?_;(try simp only [qV]at *);simp only [zQ,zA,zB,zC,zD,zE,zF,zG,zH,zI,zJ,zK,zL,zM,zN,zO,zP,zR,zS]at *;omega)));done)
    |skip
set_option maxHeartbeats 6000000 in
theorem law7y (d:Dsp)(u w:Nat)(hu:u≤255)(hw:w≤255)(h:readyD d=true)(hf:firmE d=0):FSpec Try.prog 7 [(dspS d),(.int .u8 (.sym fun _=>zi u)),(.int .u8 (.sym fun _=>zi w))] [] (fun r _=>r=(.bool (.lit true))):=by
  have c12:=awake12
  have hth:=thinD_t.1 (readyD_t.1 h).1
  have hF:=(readyD_t.1 h).2
  have hd:=faultD_iff.1 hF
  have f6:=hd.f6
  have p1:=hd.p1
  have p4:=hd.p4
  have c20:=lit_tD (ready20 d) h
  have c14:=dispute14 d hth.1 (by omega) (by omega)
  have c22:=leave22 d
  have c23:=believe23 d
  rw [hf]at c22 c23
  have c28a:=bitsOf28 (leaL d) d.fs.length (zi d.fs.length) (lea_asc hf) f6 rfl
  have c28b:=bitsOf28 (belL d) d.pn.toNat d.pn (bel_asc hf) (by omega) (by omega)
  have hla:=asc_len (lea_asc hf)
  have hlb:=asc_len (bel_asc hf)
  have b0:maskN (leaL d) (leaL d).length<2^6:=Nat.lt_of_lt_of_le (mask_lt (m:=d.fs.length) fun j hj=>by have:=asc_at (lea_asc hf) j hj;omega) (Nat.pow_le_pow_right (by decide) f6)
  have b1:maskN (belL d) (belL d).length<2^6:=Nat.lt_of_lt_of_le (mask_lt (m:=d.pn.toNat) fun j hj=>by have:=asc_at (bel_asc hf) j hj;omega) (Nat.pow_le_pow_right (by decide) (by omega))
  have t0:(u%2^d.fs.length)<2^d.fs.length:=Nat.mod_lt _ (Nat.pow_pos (by decide))
  have t1:(w%2^d.pn.toNat)<2^d.pn.toNat:=Nat.mod_lt _ (Nat.pow_pos (by decide))
  have t2:(u%2^d.fs.length)<2^6:=Nat.lt_of_lt_of_le t0 (Nat.pow_le_pow_right (by decide) f6)
  have t3:(w%2^d.pn.toNat)<2^6:=Nat.lt_of_lt_of_le t1 (Nat.pow_le_pow_right (by decide) (by omega))
  have ea:=left_a hf
  have eb:=left_b hf
  have hc0:=left_c hf t0
  have hd0:=left_d hf t1
  have o1:(ofN (ptD d) (maskN (belL d) (belL d).length) d.fs.length)<2^6:=Nat.lt_of_lt_of_le (ofN_lt _ _ _) (Nat.pow_le_pow_right (by decide) f6)
  have o2:(ofN (ptD d) (w%2^d.pn.toNat) d.fs.length)<2^6:=Nat.lt_of_lt_of_le (ofN_lt _ _ _) (Nat.pow_le_pow_right (by decide) f6)
  have c30b:=of30 d (maskN (belL d) (belL d).length) hd (by omega)
  have c30d:=of30 d (w%2^d.pn.toNat) hd (by omega)
  have c29a:=without29 d (maskN (leaL d) (leaL d).length) (by omega) (by omega)
  have ka:((kpT d.fs (outN (maskN (leaL d) (leaL d).length)) d.fs.length)).length≤1000:=by have:=kpT_len d.fs (outN (maskN (leaL d) (leaL d).length)) d.fs.length;omega
  have c14a:=(show FSpec Try.prog 14 [(.agg [(.sl 1 (.sym fun _=>zi (d.tw).length) (fun ix=>[.int .i64 (.sym fun _=>(d.tw).getD ix.den.toNat 0)])),(.sl 1 (.sym fun _=>zi (d.tm).length) (fun ix=>[.int .i64 (.sym fun _=>(d.tm).getD ix.den.toNat 0)])),(.sl 1 (.sym fun _=>zi (d.tv).length) (fun ix=>[(.sl 1 (.sym fun _=>zi ((d.tv).getD ix.den.toNat []).length) (fun jx=>[.int .i64 (.sym fun _=>((d.tv).getD ix.den.toNat []).getD jx.den.toNat 0)]))])),(.int .i64 (.sym fun _=>d.sn)),(.int .i64 (.sym fun _=>d.pn)),(.sl 4 (.sym fun _=>zi (d.ls).length) (fun ix=>[(.int .i64 (.sym fun _=>((d.ls).getD ix.den.toNat l0T).a)),(.int .i64 (.sym fun _=>((d.ls).getD ix.den.toNat l0T).b)),(.int .i64 (.sym fun _=>((d.ls).getD ix.den.toNat l0T).lo)),(.int .i64 (.sym fun _=>((d.ls).getD ix.den.toNat l0T).hi))])),(.sl 6 (.sym fun _=>zi ((kpT d.fs (outN (maskN (leaL d) (leaL d).length)) d.fs.length)).length) (fun ix=>[(.int .i64 (.sym fun _=>(((kpT d.fs (outN (maskN (leaL d) (leaL d).length)) d.fs.length)).getD ix.den.toNat f0T).p)),(.int .i64 (.sym fun _=>(((kpT d.fs (outN (maskN (leaL d) (leaL d).length)) d.fs.length)).getD ix.den.toNat f0T).s)),(.int .i64 (.sym fun _=>(((kpT d.fs (outN (maskN (leaL d) (leaL d).length)) d.fs.length)).getD ix.den.toNat f0T).wl)),(.int .i64 (.sym fun _=>(((kpT d.fs (outN (maskN (leaL d) (leaL d).length)) d.fs.length)).getD ix.den.toNat f0T).wh)),(.int .i64 (.sym fun _=>(((kpT d.fs (outN (maskN (leaL d) (leaL d).length)) d.fs.length)).getD ix.den.toNat f0T).ml)),(.int .i64 (.sym fun _=>(((kpT d.fs (outN (maskN (leaL d) (leaL d).length)) d.fs.length)).getD ix.den.toNat f0T).mh))]))])] [] (fun r _=>r=(.agg [(.sl 1 (.sym fun _=>zi (d.tw).length) (fun ix=>[.int .i64 (.sym fun _=>(d.tw).getD ix.den.toNat 0)])),(.sl 1 (.sym fun _=>zi (d.tm).length) (fun ix=>[.int .i64 (.sym fun _=>(d.tm).getD ix.den.toNat 0)])),(.sl 1 (.sym fun _=>zi (d.tv).length) (fun ix=>[(.sl 1 (.sym fun _=>zi ((d.tv).getD ix.den.toNat []).length) (fun jx=>[.int .i64 (.sym fun _=>((d.tv).getD ix.den.toNat []).getD jx.den.toNat 0)]))])),(.int .i64 (.sym fun _=>d.sn)),(.int .i64 (.sym fun _=>d.pn)),(.sl 4 (.sym fun _=>zi (d.ls).length) (fun ix=>[(.int .i64 (.sym fun _=>((d.ls).getD ix.den.toNat l0T).a)),(.int .i64 (.sym fun _=>((d.ls).getD ix.den.toNat l0T).b)),(.int .i64 (.sym fun _=>((d.ls).getD ix.den.toNat l0T).lo)),(.int .i64 (.sym fun _=>((d.ls).getD ix.den.toNat l0T).hi))])),(.sl 6 (.sym fun _=>zi ((kpT d.fs (outN (maskN (leaL d) (leaL d).length)) d.fs.length)).length) (fun ix=>[(.int .i64 (.sym fun _=>(((kpT d.fs (outN (maskN (leaL d) (leaL d).length)) d.fs.length)).getD ix.den.toNat f0T).p)),(.int .i64 (.sym fun _=>(((kpT d.fs (outN (maskN (leaL d) (leaL d).length)) d.fs.length)).getD ix.den.toNat f0T).s)),(.int .i64 (.sym fun _=>(((kpT d.fs (outN (maskN (leaL d) (leaL d).length)) d.fs.length)).getD ix.den.toNat f0T).wl)),(.int .i64 (.sym fun _=>(((kpT d.fs (outN (maskN (leaL d) (leaL d).length)) d.fs.length)).getD ix.den.toNat f0T).wh)),(.int .i64 (.sym fun _=>(((kpT d.fs (outN (maskN (leaL d) (leaL d).length)) d.fs.length)).getD ix.den.toNat f0T).ml)),(.int .i64 (.sym fun _=>(((kpT d.fs (outN (maskN (leaL d) (leaL d).length)) d.fs.length)).getD ix.den.toNat f0T).mh))]))]))from dispute14 (outD d (maskN (leaL d) (leaL d).length)) hth.1 (by show d.ls.length≤1000;omega) ka)
  have c21a:=(show FSpec Try.prog 21 [(.agg [(.sl 1 (.sym fun _=>zi (d.tw).length) (fun ix=>[.int .i64 (.sym fun _=>(d.tw).getD ix.den.toNat 0)])),(.sl 1 (.sym fun _=>zi (d.tm).length) (fun ix=>[.int .i64 (.sym fun _=>(d.tm).getD ix.den.toNat 0)])),(.sl 1 (.sym fun _=>zi (d.tv).length) (fun ix=>[(.sl 1 (.sym fun _=>zi ((d.tv).getD ix.den.toNat []).length) (fun jx=>[.int .i64 (.sym fun _=>((d.tv).getD ix.den.toNat []).getD jx.den.toNat 0)]))])),(.int .i64 (.sym fun _=>d.sn)),(.int .i64 (.sym fun _=>d.pn)),(.sl 4 (.sym fun _=>zi (d.ls).length) (fun ix=>[(.int .i64 (.sym fun _=>((d.ls).getD ix.den.toNat l0T).a)),(.int .i64 (.sym fun _=>((d.ls).getD ix.den.toNat l0T).b)),(.int .i64 (.sym fun _=>((d.ls).getD ix.den.toNat l0T).lo)),(.int .i64 (.sym fun _=>((d.ls).getD ix.den.toNat l0T).hi))])),(.sl 6 (.sym fun _=>zi ((kpT d.fs (outN (maskN (leaL d) (leaL d).length)) d.fs.length)).length) (fun ix=>[(.int .i64 (.sym fun _=>(((kpT d.fs (outN (maskN (leaL d) (leaL d).length)) d.fs.length)).getD ix.den.toNat f0T).p)),(.int .i64 (.sym fun _=>(((kpT d.fs (outN (maskN (leaL d) (leaL d).length)) d.fs.length)).getD ix.den.toNat f0T).s)),(.int .i64 (.sym fun _=>(((kpT d.fs (outN (maskN (leaL d) (leaL d).length)) d.fs.length)).getD ix.den.toNat f0T).wl)),(.int .i64 (.sym fun _=>(((kpT d.fs (outN (maskN (leaL d) (leaL d).length)) d.fs.length)).getD ix.den.toNat f0T).wh)),(.int .i64 (.sym fun _=>(((kpT d.fs (outN (maskN (leaL d) (leaL d).length)) d.fs.length)).getD ix.den.toNat f0T).ml)),(.int .i64 (.sym fun _=>(((kpT d.fs (outN (maskN (leaL d) (leaL d).length)) d.fs.length)).getD ix.den.toNat f0T).mh))]))])] [] (fun r _=>r=(.tup [(.sl 2 (.sym fun _=>bndN (outD d (maskN (leaL d) (leaL d).length))) (fun ix=>[(.int .i64 (.sym fun _=>loT (outD d (maskN (leaL d) (leaL d).length)) [] ix.den.toNat)),(.int .i64 (.sym fun _=>hiT (outD d (maskN (leaL d) (leaL d).length)) [] ix.den.toNat))])),(.int .i64 (.sym fun _=>bndE (outD d (maskN (leaL d) (leaL d).length))))]))from bounds21 (outD d (maskN (leaL d) (leaL d).length)))
  rw [ea]at c21a
  obtain⟨Xa,hXa⟩:∃X,X=outD d (maskN (leaL d) (leaL d).length):=⟨_,rfl⟩
  obtain⟨Ka,hKa⟩:∃X,X=(kpT d.fs (outN (maskN (leaL d) (leaL d).length)) d.fs.length):=⟨_,rfl⟩
  rw [←hXa]at c21a
  rw [←hKa]at c29a c14a c21a
  have c29b:=without29 d (ofN (ptD d) (maskN (belL d) (belL d).length) d.fs.length) (by omega) (by omega)
  have kb:((kpT d.fs (outN (ofN (ptD d) (maskN (belL d) (belL d).length) d.fs.length)) d.fs.length)).length≤1000:=by have:=kpT_len d.fs (outN (ofN (ptD d) (maskN (belL d) (belL d).length) d.fs.length)) d.fs.length;omega
  have c14b:=(show FSpec Try.prog 14 [(.agg [(.sl 1 (.sym fun _=>zi (d.tw).length) (fun ix=>[.int .i64 (.sym fun _=>(d.tw).getD ix.den.toNat 0)])),(.sl 1 (.sym fun _=>zi (d.tm).length) (fun ix=>[.int .i64 (.sym fun _=>(d.tm).getD ix.den.toNat 0)])),(.sl 1 (.sym fun _=>zi (d.tv).length) (fun ix=>[(.sl 1 (.sym fun _=>zi ((d.tv).getD ix.den.toNat []).length) (fun jx=>[.int .i64 (.sym fun _=>((d.tv).getD ix.den.toNat []).getD jx.den.toNat 0)]))])),(.int .i64 (.sym fun _=>d.sn)),(.int .i64 (.sym fun _=>d.pn)),(.sl 4 (.sym fun _=>zi (d.ls).length) (fun ix=>[(.int .i64 (.sym fun _=>((d.ls).getD ix.den.toNat l0T).a)),(.int .i64 (.sym fun _=>((d.ls).getD ix.den.toNat l0T).b)),(.int .i64 (.sym fun _=>((d.ls).getD ix.den.toNat l0T).lo)),(.int .i64 (.sym fun _=>((d.ls).getD ix.den.toNat l0T).hi))])),(.sl 6 (.sym fun _=>zi ((kpT d.fs (outN (ofN (ptD d) (maskN (belL d) (belL d).length) d.fs.length)) d.fs.length)).length) (fun ix=>[(.int .i64 (.sym fun _=>(((kpT d.fs (outN (ofN (ptD d) (maskN (belL d) (belL d).length) d.fs.length)) d.fs.length)).getD ix.den.toNat f0T).p)),(.int .i64 (.sym fun _=>(((kpT d.fs (outN (ofN (ptD d) (maskN (belL d) (belL d).length) d.fs.length)) d.fs.length)).getD ix.den.toNat f0T).s)),(.int .i64 (.sym fun _=>(((kpT d.fs (outN (ofN (ptD d) (maskN (belL d) (belL d).length) d.fs.length)) d.fs.length)).getD ix.den.toNat f0T).wl)),(.int .i64 (.sym fun _=>(((kpT d.fs (outN (ofN (ptD d) (maskN (belL d) (belL d).length) d.fs.length)) d.fs.length)).getD ix.den.toNat f0T).wh)),(.int .i64 (.sym fun _=>(((kpT d.fs (outN (ofN (ptD d) (maskN (belL d) (belL d).length) d.fs.length)) d.fs.length)).getD ix.den.toNat f0T).ml)),(.int .i64 (.sym fun _=>(((kpT d.fs (outN (ofN (ptD d) (maskN (belL d) (belL d).length) d.fs.length)) d.fs.length)).getD ix.den.toNat f0T).mh))]))])] [] (fun r _=>r=(.agg [(.sl 1 (.sym fun _=>zi (d.tw).length) (fun ix=>[.int .i64 (.sym fun _=>(d.tw).getD ix.den.toNat 0)])),(.sl 1 (.sym fun _=>zi (d.tm).length) (fun ix=>[.int .i64 (.sym fun _=>(d.tm).getD ix.den.toNat 0)])),(.sl 1 (.sym fun _=>zi (d.tv).length) (fun ix=>[(.sl 1 (.sym fun _=>zi ((d.tv).getD ix.den.toNat []).length) (fun jx=>[.int .i64 (.sym fun _=>((d.tv).getD ix.den.toNat []).getD jx.den.toNat 0)]))])),(.int .i64 (.sym fun _=>d.sn)),(.int .i64 (.sym fun _=>d.pn)),(.sl 4 (.sym fun _=>zi (d.ls).length) (fun ix=>[(.int .i64 (.sym fun _=>((d.ls).getD ix.den.toNat l0T).a)),(.int .i64 (.sym fun _=>((d.ls).getD ix.den.toNat l0T).b)),(.int .i64 (.sym fun _=>((d.ls).getD ix.den.toNat l0T).lo)),(.int .i64 (.sym fun _=>((d.ls).getD ix.den.toNat l0T).hi))])),(.sl 6 (.sym fun _=>zi ((kpT d.fs (outN (ofN (ptD d) (maskN (belL d) (belL d).length) d.fs.length)) d.fs.length)).length) (fun ix=>[(.int .i64 (.sym fun _=>(((kpT d.fs (outN (ofN (ptD d) (maskN (belL d) (belL d).length) d.fs.length)) d.fs.length)).getD ix.den.toNat f0T).p)),(.int .i64 (.sym fun _=>(((kpT d.fs (outN (ofN (ptD d) (maskN (belL d) (belL d).length) d.fs.length)) d.fs.length)).getD ix.den.toNat f0T).s)),(.int .i64 (.sym fun _=>(((kpT d.fs (outN (ofN (ptD d) (maskN (belL d) (belL d).length) d.fs.length)) d.fs.length)).getD ix.den.toNat f0T).wl)),(.int .i64 (.sym fun _=>(((kpT d.fs (outN (ofN (ptD d) (maskN (belL d) (belL d).length) d.fs.length)) d.fs.length)).getD ix.den.toNat f0T).wh)),(.int .i64 (.sym fun _=>(((kpT d.fs (outN (ofN (ptD d) (maskN (belL d) (belL d).length) d.fs.length)) d.fs.length)).getD ix.den.toNat f0T).ml)),(.int .i64 (.sym fun _=>(((kpT d.fs (outN (ofN (ptD d) (maskN (belL d) (belL d).length) d.fs.length)) d.fs.length)).getD ix.den.toNat f0T).mh))]))]))from dispute14 (outD d (ofN (ptD d) (maskN (belL d) (belL d).length) d.fs.length)) hth.1 (by show d.ls.length≤1000;omega) kb)
  have c21b:=(show FSpec Try.prog 21 [(.agg [(.sl 1 (.sym fun _=>zi (d.tw).length) (fun ix=>[.int .i64 (.sym fun _=>(d.tw).getD ix.den.toNat 0)])),(.sl 1 (.sym fun _=>zi (d.tm).length) (fun ix=>[.int .i64 (.sym fun _=>(d.tm).getD ix.den.toNat 0)])),(.sl 1 (.sym fun _=>zi (d.tv).length) (fun ix=>[(.sl 1 (.sym fun _=>zi ((d.tv).getD ix.den.toNat []).length) (fun jx=>[.int .i64 (.sym fun _=>((d.tv).getD ix.den.toNat []).getD jx.den.toNat 0)]))])),(.int .i64 (.sym fun _=>d.sn)),(.int .i64 (.sym fun _=>d.pn)),(.sl 4 (.sym fun _=>zi (d.ls).length) (fun ix=>[(.int .i64 (.sym fun _=>((d.ls).getD ix.den.toNat l0T).a)),(.int .i64 (.sym fun _=>((d.ls).getD ix.den.toNat l0T).b)),(.int .i64 (.sym fun _=>((d.ls).getD ix.den.toNat l0T).lo)),(.int .i64 (.sym fun _=>((d.ls).getD ix.den.toNat l0T).hi))])),(.sl 6 (.sym fun _=>zi ((kpT d.fs (outN (ofN (ptD d) (maskN (belL d) (belL d).length) d.fs.length)) d.fs.length)).length) (fun ix=>[(.int .i64 (.sym fun _=>(((kpT d.fs (outN (ofN (ptD d) (maskN (belL d) (belL d).length) d.fs.length)) d.fs.length)).getD ix.den.toNat f0T).p)),(.int .i64 (.sym fun _=>(((kpT d.fs (outN (ofN (ptD d) (maskN (belL d) (belL d).length) d.fs.length)) d.fs.length)).getD ix.den.toNat f0T).s)),(.int .i64 (.sym fun _=>(((kpT d.fs (outN (ofN (ptD d) (maskN (belL d) (belL d).length) d.fs.length)) d.fs.length)).getD ix.den.toNat f0T).wl)),(.int .i64 (.sym fun _=>(((kpT d.fs (outN (ofN (ptD d) (maskN (belL d) (belL d).length) d.fs.length)) d.fs.length)).getD ix.den.toNat f0T).wh)),(.int .i64 (.sym fun _=>(((kpT d.fs (outN (ofN (ptD d) (maskN (belL d) (belL d).length) d.fs.length)) d.fs.length)).getD ix.den.toNat f0T).ml)),(.int .i64 (.sym fun _=>(((kpT d.fs (outN (ofN (ptD d) (maskN (belL d) (belL d).length) d.fs.length)) d.fs.length)).getD ix.den.toNat f0T).mh))]))])] [] (fun r _=>r=(.tup [(.sl 2 (.sym fun _=>bndN (outD d (ofN (ptD d) (maskN (belL d) (belL d).length) d.fs.length))) (fun ix=>[(.int .i64 (.sym fun _=>loT (outD d (ofN (ptD d) (maskN (belL d) (belL d).length) d.fs.length)) [] ix.den.toNat)),(.int .i64 (.sym fun _=>hiT (outD d (ofN (ptD d) (maskN (belL d) (belL d).length) d.fs.length)) [] ix.den.toNat))])),(.int .i64 (.sym fun _=>bndE (outD d (ofN (ptD d) (maskN (belL d) (belL d).length) d.fs.length))))]))from bounds21 (outD d (ofN (ptD d) (maskN (belL d) (belL d).length) d.fs.length)))
  rw [eb]at c21b
  obtain⟨Xb,hXb⟩:∃X,X=outD d (ofN (ptD d) (maskN (belL d) (belL d).length) d.fs.length):=⟨_,rfl⟩
  obtain⟨Kb,hKb⟩:∃X,X=(kpT d.fs (outN (ofN (ptD d) (maskN (belL d) (belL d).length) d.fs.length)) d.fs.length):=⟨_,rfl⟩
  rw [←hXb]at c21b
  rw [←hKb]at c29b c14b c21b
  have c29c:=without29 d (u%2^d.fs.length) (by omega) (by omega)
  have kc:((kpT d.fs (outN (u%2^d.fs.length)) d.fs.length)).length≤1000:=by have:=kpT_len d.fs (outN (u%2^d.fs.length)) d.fs.length;omega
  have c14c:=(show FSpec Try.prog 14 [(.agg [(.sl 1 (.sym fun _=>zi (d.tw).length) (fun ix=>[.int .i64 (.sym fun _=>(d.tw).getD ix.den.toNat 0)])),(.sl 1 (.sym fun _=>zi (d.tm).length) (fun ix=>[.int .i64 (.sym fun _=>(d.tm).getD ix.den.toNat 0)])),(.sl 1 (.sym fun _=>zi (d.tv).length) (fun ix=>[(.sl 1 (.sym fun _=>zi ((d.tv).getD ix.den.toNat []).length) (fun jx=>[.int .i64 (.sym fun _=>((d.tv).getD ix.den.toNat []).getD jx.den.toNat 0)]))])),(.int .i64 (.sym fun _=>d.sn)),(.int .i64 (.sym fun _=>d.pn)),(.sl 4 (.sym fun _=>zi (d.ls).length) (fun ix=>[(.int .i64 (.sym fun _=>((d.ls).getD ix.den.toNat l0T).a)),(.int .i64 (.sym fun _=>((d.ls).getD ix.den.toNat l0T).b)),(.int .i64 (.sym fun _=>((d.ls).getD ix.den.toNat l0T).lo)),(.int .i64 (.sym fun _=>((d.ls).getD ix.den.toNat l0T).hi))])),(.sl 6 (.sym fun _=>zi ((kpT d.fs (outN (u%2^d.fs.length)) d.fs.length)).length) (fun ix=>[(.int .i64 (.sym fun _=>(((kpT d.fs (outN (u%2^d.fs.length)) d.fs.length)).getD ix.den.toNat f0T).p)),(.int .i64 (.sym fun _=>(((kpT d.fs (outN (u%2^d.fs.length)) d.fs.length)).getD ix.den.toNat f0T).s)),(.int .i64 (.sym fun _=>(((kpT d.fs (outN (u%2^d.fs.length)) d.fs.length)).getD ix.den.toNat f0T).wl)),(.int .i64 (.sym fun _=>(((kpT d.fs (outN (u%2^d.fs.length)) d.fs.length)).getD ix.den.toNat f0T).wh)),(.int .i64 (.sym fun _=>(((kpT d.fs (outN (u%2^d.fs.length)) d.fs.length)).getD ix.den.toNat f0T).ml)),(.int .i64 (.sym fun _=>(((kpT d.fs (outN (u%2^d.fs.length)) d.fs.length)).getD ix.den.toNat f0T).mh))]))])] [] (fun r _=>r=(.agg [(.sl 1 (.sym fun _=>zi (d.tw).length) (fun ix=>[.int .i64 (.sym fun _=>(d.tw).getD ix.den.toNat 0)])),(.sl 1 (.sym fun _=>zi (d.tm).length) (fun ix=>[.int .i64 (.sym fun _=>(d.tm).getD ix.den.toNat 0)])),(.sl 1 (.sym fun _=>zi (d.tv).length) (fun ix=>[(.sl 1 (.sym fun _=>zi ((d.tv).getD ix.den.toNat []).length) (fun jx=>[.int .i64 (.sym fun _=>((d.tv).getD ix.den.toNat []).getD jx.den.toNat 0)]))])),(.int .i64 (.sym fun _=>d.sn)),(.int .i64 (.sym fun _=>d.pn)),(.sl 4 (.sym fun _=>zi (d.ls).length) (fun ix=>[(.int .i64 (.sym fun _=>((d.ls).getD ix.den.toNat l0T).a)),(.int .i64 (.sym fun _=>((d.ls).getD ix.den.toNat l0T).b)),(.int .i64 (.sym fun _=>((d.ls).getD ix.den.toNat l0T).lo)),(.int .i64 (.sym fun _=>((d.ls).getD ix.den.toNat l0T).hi))])),(.sl 6 (.sym fun _=>zi ((kpT d.fs (outN (u%2^d.fs.length)) d.fs.length)).length) (fun ix=>[(.int .i64 (.sym fun _=>(((kpT d.fs (outN (u%2^d.fs.length)) d.fs.length)).getD ix.den.toNat f0T).p)),(.int .i64 (.sym fun _=>(((kpT d.fs (outN (u%2^d.fs.length)) d.fs.length)).getD ix.den.toNat f0T).s)),(.int .i64 (.sym fun _=>(((kpT d.fs (outN (u%2^d.fs.length)) d.fs.length)).getD ix.den.toNat f0T).wl)),(.int .i64 (.sym fun _=>(((kpT d.fs (outN (u%2^d.fs.length)) d.fs.length)).getD ix.den.toNat f0T).wh)),(.int .i64 (.sym fun _=>(((kpT d.fs (outN (u%2^d.fs.length)) d.fs.length)).getD ix.den.toNat f0T).ml)),(.int .i64 (.sym fun _=>(((kpT d.fs (outN (u%2^d.fs.length)) d.fs.length)).getD ix.den.toNat f0T).mh))]))]))from dispute14 (outD d (u%2^d.fs.length)) hth.1 (by show d.ls.length≤1000;omega) kc)
  have c21c:=(show FSpec Try.prog 21 [(.agg [(.sl 1 (.sym fun _=>zi (d.tw).length) (fun ix=>[.int .i64 (.sym fun _=>(d.tw).getD ix.den.toNat 0)])),(.sl 1 (.sym fun _=>zi (d.tm).length) (fun ix=>[.int .i64 (.sym fun _=>(d.tm).getD ix.den.toNat 0)])),(.sl 1 (.sym fun _=>zi (d.tv).length) (fun ix=>[(.sl 1 (.sym fun _=>zi ((d.tv).getD ix.den.toNat []).length) (fun jx=>[.int .i64 (.sym fun _=>((d.tv).getD ix.den.toNat []).getD jx.den.toNat 0)]))])),(.int .i64 (.sym fun _=>d.sn)),(.int .i64 (.sym fun _=>d.pn)),(.sl 4 (.sym fun _=>zi (d.ls).length) (fun ix=>[(.int .i64 (.sym fun _=>((d.ls).getD ix.den.toNat l0T).a)),(.int .i64 (.sym fun _=>((d.ls).getD ix.den.toNat l0T).b)),(.int .i64 (.sym fun _=>((d.ls).getD ix.den.toNat l0T).lo)),(.int .i64 (.sym fun _=>((d.ls).getD ix.den.toNat l0T).hi))])),(.sl 6 (.sym fun _=>zi ((kpT d.fs (outN (u%2^d.fs.length)) d.fs.length)).length) (fun ix=>[(.int .i64 (.sym fun _=>(((kpT d.fs (outN (u%2^d.fs.length)) d.fs.length)).getD ix.den.toNat f0T).p)),(.int .i64 (.sym fun _=>(((kpT d.fs (outN (u%2^d.fs.length)) d.fs.length)).getD ix.den.toNat f0T).s)),(.int .i64 (.sym fun _=>(((kpT d.fs (outN (u%2^d.fs.length)) d.fs.length)).getD ix.den.toNat f0T).wl)),(.int .i64 (.sym fun _=>(((kpT d.fs (outN (u%2^d.fs.length)) d.fs.length)).getD ix.den.toNat f0T).wh)),(.int .i64 (.sym fun _=>(((kpT d.fs (outN (u%2^d.fs.length)) d.fs.length)).getD ix.den.toNat f0T).ml)),(.int .i64 (.sym fun _=>(((kpT d.fs (outN (u%2^d.fs.length)) d.fs.length)).getD ix.den.toNat f0T).mh))]))])] [] (fun r _=>r=(.tup [(.sl 2 (.sym fun _=>bndN (outD d (u%2^d.fs.length))) (fun ix=>[(.int .i64 (.sym fun _=>loT (outD d (u%2^d.fs.length)) [] ix.den.toNat)),(.int .i64 (.sym fun _=>hiT (outD d (u%2^d.fs.length)) [] ix.den.toNat))])),(.int .i64 (.sym fun _=>bndE (outD d (u%2^d.fs.length))))]))from bounds21 (outD d (u%2^d.fs.length)))
  obtain⟨Xc,hXc⟩:∃X,X=outD d (u%2^d.fs.length):=⟨_,rfl⟩
  obtain⟨Kc,hKc⟩:∃X,X=(kpT d.fs (outN (u%2^d.fs.length)) d.fs.length):=⟨_,rfl⟩
  rw [←hXc]at c21c hc0
  rw [←hKc]at c29c c14c c21c
  have c29d:=without29 d (ofN (ptD d) (w%2^d.pn.toNat) d.fs.length) (by omega) (by omega)
  have kd:((kpT d.fs (outN (ofN (ptD d) (w%2^d.pn.toNat) d.fs.length)) d.fs.length)).length≤1000:=by have:=kpT_len d.fs (outN (ofN (ptD d) (w%2^d.pn.toNat) d.fs.length)) d.fs.length;omega
  have c14d:=(show FSpec Try.prog 14 [(.agg [(.sl 1 (.sym fun _=>zi (d.tw).length) (fun ix=>[.int .i64 (.sym fun _=>(d.tw).getD ix.den.toNat 0)])),(.sl 1 (.sym fun _=>zi (d.tm).length) (fun ix=>[.int .i64 (.sym fun _=>(d.tm).getD ix.den.toNat 0)])),(.sl 1 (.sym fun _=>zi (d.tv).length) (fun ix=>[(.sl 1 (.sym fun _=>zi ((d.tv).getD ix.den.toNat []).length) (fun jx=>[.int .i64 (.sym fun _=>((d.tv).getD ix.den.toNat []).getD jx.den.toNat 0)]))])),(.int .i64 (.sym fun _=>d.sn)),(.int .i64 (.sym fun _=>d.pn)),(.sl 4 (.sym fun _=>zi (d.ls).length) (fun ix=>[(.int .i64 (.sym fun _=>((d.ls).getD ix.den.toNat l0T).a)),(.int .i64 (.sym fun _=>((d.ls).getD ix.den.toNat l0T).b)),(.int .i64 (.sym fun _=>((d.ls).getD ix.den.toNat l0T).lo)),(.int .i64 (.sym fun _=>((d.ls).getD ix.den.toNat l0T).hi))])),(.sl 6 (.sym fun _=>zi ((kpT d.fs (outN (ofN (ptD d) (w%2^d.pn.toNat) d.fs.length)) d.fs.length)).length) (fun ix=>[(.int .i64 (.sym fun _=>(((kpT d.fs (outN (ofN (ptD d) (w%2^d.pn.toNat) d.fs.length)) d.fs.length)).getD ix.den.toNat f0T).p)),(.int .i64 (.sym fun _=>(((kpT d.fs (outN (ofN (ptD d) (w%2^d.pn.toNat) d.fs.length)) d.fs.length)).getD ix.den.toNat f0T).s)),(.int .i64 (.sym fun _=>(((kpT d.fs (outN (ofN (ptD d) (w%2^d.pn.toNat) d.fs.length)) d.fs.length)).getD ix.den.toNat f0T).wl)),(.int .i64 (.sym fun _=>(((kpT d.fs (outN (ofN (ptD d) (w%2^d.pn.toNat) d.fs.length)) d.fs.length)).getD ix.den.toNat f0T).wh)),(.int .i64 (.sym fun _=>(((kpT d.fs (outN (ofN (ptD d) (w%2^d.pn.toNat) d.fs.length)) d.fs.length)).getD ix.den.toNat f0T).ml)),(.int .i64 (.sym fun _=>(((kpT d.fs (outN (ofN (ptD d) (w%2^d.pn.toNat) d.fs.length)) d.fs.length)).getD ix.den.toNat f0T).mh))]))])] [] (fun r _=>r=(.agg [(.sl 1 (.sym fun _=>zi (d.tw).length) (fun ix=>[.int .i64 (.sym fun _=>(d.tw).getD ix.den.toNat 0)])),(.sl 1 (.sym fun _=>zi (d.tm).length) (fun ix=>[.int .i64 (.sym fun _=>(d.tm).getD ix.den.toNat 0)])),(.sl 1 (.sym fun _=>zi (d.tv).length) (fun ix=>[(.sl 1 (.sym fun _=>zi ((d.tv).getD ix.den.toNat []).length) (fun jx=>[.int .i64 (.sym fun _=>((d.tv).getD ix.den.toNat []).getD jx.den.toNat 0)]))])),(.int .i64 (.sym fun _=>d.sn)),(.int .i64 (.sym fun _=>d.pn)),(.sl 4 (.sym fun _=>zi (d.ls).length) (fun ix=>[(.int .i64 (.sym fun _=>((d.ls).getD ix.den.toNat l0T).a)),(.int .i64 (.sym fun _=>((d.ls).getD ix.den.toNat l0T).b)),(.int .i64 (.sym fun _=>((d.ls).getD ix.den.toNat l0T).lo)),(.int .i64 (.sym fun _=>((d.ls).getD ix.den.toNat l0T).hi))])),(.sl 6 (.sym fun _=>zi ((kpT d.fs (outN (ofN (ptD d) (w%2^d.pn.toNat) d.fs.length)) d.fs.length)).length) (fun ix=>[(.int .i64 (.sym fun _=>(((kpT d.fs (outN (ofN (ptD d) (w%2^d.pn.toNat) d.fs.length)) d.fs.length)).getD ix.den.toNat f0T).p)),(.int .i64 (.sym fun _=>(((kpT d.fs (outN (ofN (ptD d) (w%2^d.pn.toNat) d.fs.length)) d.fs.length)).getD ix.den.toNat f0T).s)),(.int .i64 (.sym fun _=>(((kpT d.fs (outN (ofN (ptD d) (w%2^d.pn.toNat) d.fs.length)) d.fs.length)).getD ix.den.toNat f0T).wl)),(.int .i64 (.sym fun _=>(((kpT d.fs (outN (ofN (ptD d) (w%2^d.pn.toNat) d.fs.length)) d.fs.length)).getD ix.den.toNat f0T).wh)),(.int .i64 (.sym fun _=>(((kpT d.fs (outN (ofN (ptD d) (w%2^d.pn.toNat) d.fs.length)) d.fs.length)).getD ix.den.toNat f0T).ml)),(.int .i64 (.sym fun _=>(((kpT d.fs (outN (ofN (ptD d) (w%2^d.pn.toNat) d.fs.length)) d.fs.length)).getD ix.den.toNat f0T).mh))]))]))from dispute14 (outD d (ofN (ptD d) (w%2^d.pn.toNat) d.fs.length)) hth.1 (by show d.ls.length≤1000;omega) kd)
  have c21d:=(show FSpec Try.prog 21 [(.agg [(.sl 1 (.sym fun _=>zi (d.tw).length) (fun ix=>[.int .i64 (.sym fun _=>(d.tw).getD ix.den.toNat 0)])),(.sl 1 (.sym fun _=>zi (d.tm).length) (fun ix=>[.int .i64 (.sym fun _=>(d.tm).getD ix.den.toNat 0)])),(.sl 1 (.sym fun _=>zi (d.tv).length) (fun ix=>[(.sl 1 (.sym fun _=>zi ((d.tv).getD ix.den.toNat []).length) (fun jx=>[.int .i64 (.sym fun _=>((d.tv).getD ix.den.toNat []).getD jx.den.toNat 0)]))])),(.int .i64 (.sym fun _=>d.sn)),(.int .i64 (.sym fun _=>d.pn)),(.sl 4 (.sym fun _=>zi (d.ls).length) (fun ix=>[(.int .i64 (.sym fun _=>((d.ls).getD ix.den.toNat l0T).a)),(.int .i64 (.sym fun _=>((d.ls).getD ix.den.toNat l0T).b)),(.int .i64 (.sym fun _=>((d.ls).getD ix.den.toNat l0T).lo)),(.int .i64 (.sym fun _=>((d.ls).getD ix.den.toNat l0T).hi))])),(.sl 6 (.sym fun _=>zi ((kpT d.fs (outN (ofN (ptD d) (w%2^d.pn.toNat) d.fs.length)) d.fs.length)).length) (fun ix=>[(.int .i64 (.sym fun _=>(((kpT d.fs (outN (ofN (ptD d) (w%2^d.pn.toNat) d.fs.length)) d.fs.length)).getD ix.den.toNat f0T).p)),(.int .i64 (.sym fun _=>(((kpT d.fs (outN (ofN (ptD d) (w%2^d.pn.toNat) d.fs.length)) d.fs.length)).getD ix.den.toNat f0T).s)),(.int .i64 (.sym fun _=>(((kpT d.fs (outN (ofN (ptD d) (w%2^d.pn.toNat) d.fs.length)) d.fs.length)).getD ix.den.toNat f0T).wl)),(.int .i64 (.sym fun _=>(((kpT d.fs (outN (ofN (ptD d) (w%2^d.pn.toNat) d.fs.length)) d.fs.length)).getD ix.den.toNat f0T).wh)),(.int .i64 (.sym fun _=>(((kpT d.fs (outN (ofN (ptD d) (w%2^d.pn.toNat) d.fs.length)) d.fs.length)).getD ix.den.toNat f0T).ml)),(.int .i64 (.sym fun _=>(((kpT d.fs (outN (ofN (ptD d) (w%2^d.pn.toNat) d.fs.length)) d.fs.length)).getD ix.den.toNat f0T).mh))]))])] [] (fun r _=>r=(.tup [(.sl 2 (.sym fun _=>bndN (outD d (ofN (ptD d) (w%2^d.pn.toNat) d.fs.length))) (fun ix=>[(.int .i64 (.sym fun _=>loT (outD d (ofN (ptD d) (w%2^d.pn.toNat) d.fs.length)) [] ix.den.toNat)),(.int .i64 (.sym fun _=>hiT (outD d (ofN (ptD d) (w%2^d.pn.toNat) d.fs.length)) [] ix.den.toNat))])),(.int .i64 (.sym fun _=>bndE (outD d (ofN (ptD d) (w%2^d.pn.toNat) d.fs.length))))]))from bounds21 (outD d (ofN (ptD d) (w%2^d.pn.toNat) d.fs.length)))
  obtain⟨Xd,hXd⟩:∃X,X=outD d (ofN (ptD d) (w%2^d.pn.toNat) d.fs.length):=⟨_,rfl⟩
  obtain⟨Kd,hKd⟩:∃X,X=(kpT d.fs (outN (ofN (ptD d) (w%2^d.pn.toNat) d.fs.length)) d.fs.length):=⟨_,rfl⟩
  rw [←hXd]at c21d hd0
  rw [←hKd]at c29d c14d c21d
  have c32c:=bits32 (u%2^d.fs.length) (by omega)
  have c31c:=shorter31 (bitsN (u%2^d.fs.length) 16) (leaL d) (by have:=bitsN_len (u%2^d.fs.length) 16;omega) (by omega)
  obtain⟨lC,hlC⟩:∃X,X=bitsN (u%2^d.fs.length) 16:=⟨_,rfl⟩
  rw [←hlC]at c32c c31c hc0
  have c32d:=bits32 (w%2^d.pn.toNat) (by omega)
  have c31d:=shorter31 (bitsN (w%2^d.pn.toNat) 16) (belL d) (by have:=bitsN_len (w%2^d.pn.toNat) 16;omega) (by omega)
  obtain⟨lD,hlD⟩:∃X,X=bitsN (w%2^d.pn.toNat) 16:=⟨_,rfl⟩
  rw [←hlD]at c32d c31d hd0
  obtain⟨na,hna⟩:∃x,x=(maskN (leaL d) (leaL d).length):=⟨_,rfl⟩
  obtain⟨nb,hnb⟩:∃x,x=(ofN (ptD d) (maskN (belL d) (belL d).length) d.fs.length):=⟨_,rfl⟩
  rw [←hnb]at c29b c30b
  obtain⟨nd,hnd⟩:∃x,x=(ofN (ptD d) (w%2^d.pn.toNat) d.fs.length):=⟨_,rfl⟩
  rw [←hnd]at c29d c30d
  obtain⟨mb,hmb⟩:∃x,x=maskN (belL d) (belL d).length:=⟨_,rfl⟩
  rw [←hmb]at c28b c30b
  rw [←hna]at c28a c29a
  obtain⟨tc,htc⟩:∃x,x=(u%2^d.fs.length):=⟨_,rfl⟩
  obtain⟨td,htd⟩:∃x,x=(w%2^d.pn.toNat):=⟨_,rfl⟩
  rw [←htc]at c29c c32c
  rw [←htd]at c30d c32d
  obtain⟨la,hla2⟩:∃x,x=leaL d:=⟨_,rfl⟩
  obtain⟨lb,hlb2⟩:∃x,x=belL d:=⟨_,rfl⟩
  rw [←hla2]at c22 c28a c31c hc0
  rw [←hlb2]at c23 c28b c31d hd0
  have hc1:bndE Xc=11∨bndE Xc=0:=hc0.imp id (·.1)
  have hd1:bndE Xd=11∨bndE Xd=0:=hd0.imp id (·.1)
  have hc2:bndE Xc=0→lessL lC la=false:=fun q=>hc0.elim (fun e=>by omega) (·.2)
  have hd2:bndE Xd=0→lessL lD lb=false:=fun q=>hd0.elim (fun e=>by omega) (·.2)
  clear hc0 hd0
  refine FSpec.is fun R hR=>qW (sc:=sc7) tyok mix Try.func7 rfl Try.call7 (by kernel_rfl) (by kernel_rfl) ?_
  generalize Try.prog=P at c12 c14 c20 c22 c23 c28a c28b c30b c30d c29a c14a c21a c29b c14b c21b c29c c14c c21c c29d c14d c21d c32c c31c c32d c31d⊢
  cbv
  repeat' (first
      | (refine rem_as (q:=zi tc) ?_ ?_ (by rw [htc];exact rem_eq _ _)
         try cbv)
      | (refine rem_as (q:=zi td) ?_ ?_ (by rw [htd];exact rem_eq _ _)
         try cbv)
      |(with_reducible intro hcd;exfalso;(try simp only [zQ,zA,zB,zC,zD,zE,zF,zG,zH,zI,zJ,zK,zL,zM,zN,zO,zP,zR,zS]at hcd);omega)
      |with_reducible refine hold ?_ ?_
      |with_reducible refine And.intro ?_ ?_
      |(with_reducible intro hcd;(try simp only [zA,zB,zC,zD,zE,zF,zG,zH,zI,zJ,zK,zL,zM,zN,zO,zP]at hcd);try cbv)
      | (refine qP ?_ (c20) ?hfit
         case hfit=>((repeat' (first|exact qB|refine qD ?_ ?_|exact qE (by rfl)|exact qF (by rfl)|exact Fit.refl _|exact qA|refine qC ?_ rfl ?_));done)
         try cbv)
      | (refine qP ?_ (c12) ?hfit
         case hfit=>((repeat' (first|exact qB|refine qD ?_ ?_|exact qE (by rfl)|exact qF (by rfl)|exact Fit.refl _|exact qA|refine qC ?_ rfl ?_));done)
         try cbv)
      | (refine qP ?_ (c14) ?hfit
         case hfit=>((repeat' (first|exact qB|refine qD ?_ ?_|exact qE (by rfl)|exact qF (by rfl)|exact Fit.refl _|exact qA|refine qC ?_ rfl ?_));done)
         try cbv)
      | (refine qP ?_ (c22) ?hfit
         case hfit=>((repeat' (first|exact qB|refine qD ?_ ?_|exact qE (by rfl)|exact qF (by rfl)|exact Fit.refl _|exact qA|refine qC ?_ rfl ?_));done)
         try cbv)
      | (refine qP ?_ (c23) ?hfit
         case hfit=>((repeat' (first|exact qB|refine qD ?_ ?_|exact qE (by rfl)|exact qF (by rfl)|exact Fit.refl _|exact qA|refine qC ?_ rfl ?_));done)
         try cbv)
      | (refine qP ?_ (c28a) ?hfit
         case hfit=>((repeat' (first|exact qB|refine qD ?_ ?_|exact qE (by rfl)|exact qF (by rfl)|exact Fit.refl _|exact qA|refine qC ?_ rfl ?_));done)
         try cbv)
      | (refine qP ?_ (c28b) ?hfit
         case hfit=>((repeat' (first|exact qB|refine qD ?_ ?_|exact qE (by rfl)|exact qF (by rfl)|exact Fit.refl _|exact qA|refine qC ?_ rfl ?_));done)
         try cbv)
      | (refine qP ?_ (c30b) ?hfit
         case hfit=>((repeat' (first|exact qB|refine qD ?_ ?_|exact qE (by rfl)|exact qF (by rfl)|exact Fit.refl _|exact qA|refine qC ?_ rfl ?_));done)
         try cbv)
      | (refine qP ?_ (c30d) ?hfit
         case hfit=>((repeat' (first|exact qB|refine qD ?_ ?_|exact qE (by rfl)|exact qF (by rfl)|exact Fit.refl _|exact qA|refine qC ?_ rfl ?_));done)
         try cbv)
      | (refine qP ?_ (c29a) ?hfit
         case hfit=>((repeat' (first|exact qB|refine qD ?_ ?_|exact qE (by rfl)|exact qF (by rfl)|exact Fit.refl _|exact qA|refine qC ?_ rfl ?_));done)
         try cbv)
      | (refine qP ?_ (c14a) ?hfit
         case hfit=>((repeat' (first|exact qB|refine qD ?_ ?_|exact qE (by rfl)|exact qF (by rfl)|exact Fit.refl _|exact qA|refine qC ?_ rfl ?_));done)
         try cbv)
      | (refine qP ?_ (c21a) ?hfit
         case hfit=>((repeat' (first|exact qB|refine qD ?_ ?_|exact qE (by rfl)|exact qF (by rfl)|exact Fit.refl _|exact qA|refine qC ?_ rfl ?_));done)
         try cbv)
      | (refine qP ?_ (c29b) ?hfit
         case hfit=>((repeat' (first|exact qB|refine qD ?_ ?_|exact qE (by rfl)|exact qF (by rfl)|exact Fit.refl _|exact qA|refine qC ?_ rfl ?_));done)
         try cbv)
      | (refine qP ?_ (c14b) ?hfit
         case hfit=>((repeat' (first|exact qB|refine qD ?_ ?_|exact qE (by rfl)|exact qF (by rfl)|exact Fit.refl _|exact qA|refine qC ?_ rfl ?_));done)
         try cbv)
      | (refine qP ?_ (c21b) ?hfit
         case hfit=>((repeat' (first|exact qB|refine qD ?_ ?_|exact qE (by rfl)|exact qF (by rfl)|exact Fit.refl _|exact qA|refine qC ?_ rfl ?_));done)
         try cbv)
      | (refine qP ?_ (c29c) ?hfit
         case hfit=>((repeat' (first|exact qB|refine qD ?_ ?_|exact qE (by rfl)|exact qF (by rfl)|exact Fit.refl _|exact qA|refine qC ?_ rfl ?_));done)
         try cbv)
      | (refine qP ?_ (c14c) ?hfit
         case hfit=>((repeat' (first|exact qB|refine qD ?_ ?_|exact qE (by rfl)|exact qF (by rfl)|exact Fit.refl _|exact qA|refine qC ?_ rfl ?_));done)
         try cbv)
      | (refine qP ?_ (c21c) ?hfit
         case hfit=>((repeat' (first|exact qB|refine qD ?_ ?_|exact qE (by rfl)|exact qF (by rfl)|exact Fit.refl _|exact qA|refine qC ?_ rfl ?_));done)
         try cbv)
      | (refine qP ?_ (c29d) ?hfit
         case hfit=>((repeat' (first|exact qB|refine qD ?_ ?_|exact qE (by rfl)|exact qF (by rfl)|exact Fit.refl _|exact qA|refine qC ?_ rfl ?_));done)
         try cbv)
      | (refine qP ?_ (c14d) ?hfit
         case hfit=>((repeat' (first|exact qB|refine qD ?_ ?_|exact qE (by rfl)|exact qF (by rfl)|exact Fit.refl _|exact qA|refine qC ?_ rfl ?_));done)
         try cbv)
      | (refine qP ?_ (c21d) ?hfit
         case hfit=>((repeat' (first|exact qB|refine qD ?_ ?_|exact qE (by rfl)|exact qF (by rfl)|exact Fit.refl _|exact qA|refine qC ?_ rfl ?_));done)
         try cbv)
      | (refine qP ?_ (c32c) ?hfit
         case hfit=>((repeat' (first|exact qB|refine qD ?_ ?_|exact qE (by rfl)|exact qF (by rfl)|exact Fit.refl _|exact qA|refine qC ?_ rfl ?_));done)
         try cbv)
      | (refine qP ?_ (c31c) ?hfit
         case hfit=>((repeat' (first|exact qB|refine qD ?_ ?_|exact qE (by rfl)|exact qF (by rfl)|exact Fit.refl _|exact qA|refine qC ?_ rfl ?_));done)
         try cbv)
      | (refine qP ?_ (c32d) ?hfit
         case hfit=>((repeat' (first|exact qB|refine qD ?_ ?_|exact qE (by rfl)|exact qF (by rfl)|exact Fit.refl _|exact qA|refine qC ?_ rfl ?_));done)
         try cbv)
      | (refine qP ?_ (c31d) ?hfit
         case hfit=>((repeat' (first|exact qB|refine qD ?_ ?_|exact qE (by rfl)|exact qF (by rfl)|exact Fit.refl _|exact qA|refine qC ?_ rfl ?_));done)
         try cbv)
      | (with_reducible refine shl_k ?_ ?_ ?_
         try cbv)
      |fail)
  all_goals first
    |trivial
    |((try simp only [qV]at *);(try simp only [zQ,zA,zB,zC,zD,zE,zF,zG,zH,zI,zJ,zK,zL,zM,zN,zO,zP,zR,zS]at *);first|(refine qN ?_;omega)|(simp only [Hold];omega))
    |(subst hR;(repeat' (first|exact qA|exact qB|refine qC ?_ rfl ?_|refine qD ?_ ?_|exact qE (by rfl)|exact qF (by rfl)|exact Fit.refl _|exact qG _|(refine qE ?_;(try simp only [qV]at *);simp only [zQ,zA,zB,zC,zD,zE,zF,zG,zH,zI,zJ,zK,zL,zM,zN,zO,zP,zR,zS]at *;omega)));done)
    |(exact p2_ok6 (q:=zi d.fs.length) (by simp only [zi_den];omega) (by simp only [zi_den];omega))
    |(exact p2_ok6 (q:=d.pn) (by omega) (by omega))
    |(exact rem_ne _)
    |((try simp only [qV]at *);(try simp only [zQ,zA,zB,zC,zD,zE,zF,zG,zH,zI,zJ,zK,zL,zM,zN,zO,zP,zR,zS]at *);first|(refine hold_u64 ?_;omega)|(refine hold_sh64 ?_;omega)|(refine hold_u8 ?_;omega))
    |(exfalso;first|exact Bool.noConfusion ((hc2 (by first|assumption|omega)).symm.trans (by assumption))|exact Bool.noConfusion ((hd2 (by first|assumption|omega)).symm.trans (by assumption)))
    |skip
theorem law7 (d:Dsp)(u w:Int)(hu:0≤u∧u≤255)(hw:0≤w∧w≤255):FSpec Try.prog 7 [(dspS d),(.int .u8 (.sym fun _=>u)),(.int .u8 (.sym fun _=>w))] [] (fun r _=>r = .bool (.lit true)):=by
  obtain⟨u,rfl⟩:=Int.eq_ofNat_of_zero_le hu.1
  obtain⟨w,rfl⟩:=Int.eq_ofNat_of_zero_le hw.1
  cases h:readyD d with
  |false=>exact law7t d u w (by omega) (by omega) h
  | true=>
    by_cases hf:firmE d=0
    · exact law7y d u w (by omega) (by omega) h hf
    · exact law7f d u w (by omega) (by omega) h hf
end Go.Proofs.Ytkdggbfknlcdaaa
