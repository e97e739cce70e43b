/- TopDipped: what the law computes. No condition. -/
import Derived.Test.YtdacdjdccibaiaaT6
set_option linter.unusedVariables false
set_option linter.unusedSimpArgs false
set_option linter.deprecated false
set_option linter.all false

namespace Go.Proofs.Ytdacdjdccibaiaa
open Go Go.Eng
theorem tenths_nn {g s:Int}(hg:0≤g)(h0:0≤s):0≤tenthsP g s:=by
  unfold tenthsP
  have a:=Int.mul_nonneg hg h0
  rw [Int.tdiv_eq_ediv_of_nonneg a]
  omega
theorem tenths_mono {g s s':Int}(hg:0≤g)(h0:0≤s)(h:s≤s'):tenthsP g s≤tenthsP g s':=by
  unfold tenthsP
  have a:=Int.mul_nonneg hg h0
  have b:=Int.mul_le_mul_of_nonneg_left h hg
  rw [Int.tdiv_eq_ediv_of_nonneg a,Int.tdiv_eq_ediv_of_nonneg (by omega)]
  omega
theorem owed_mono {n n' rate:Int}(hr:0≤rate)(h0:0≤n)(h:n≤n'):owedP n rate≤owedP n' rate:=by
  unfold owedP
  have a:=Int.mul_nonneg h0 hr
  have b:=Int.mul_le_mul_of_nonneg_right h hr
  rw [Int.tdiv_eq_ediv_of_nonneg (by omega),Int.tdiv_eq_ediv_of_nonneg (by omega)]
  omega
theorem duty_mono {rate:Int} {cs:List Csk} {l l':Nat→Int}(hr:0≤rate):∀n,n≤cs.length→(∀i,i<cs.length→0≤(cs.getD i ck0).g)→(∀j,j<n→0≤l j∧l j≤l' j)→dutyP rate cs l n≤dutyP rate cs l' n:=by
  intro n
  induction n with
  |zero=>intro _ _ _;exact Int.le_refl _
  | succ n ih=>
    intro hn hg hl
    have a:=ih (by omega) hg fun j hj=>hl j (by omega)
    have g:=hg n (by omega)
    have b:=hl n (by omega)
    have c:=owed_mono hr (tenths_nn g b.1) (tenths_mono g b.1 b.2)
    simp only [dutyP]
    omega
def wP (cs:List Csk)(fa:Nat→Int)(i:Nat):Int:=(cs.getD i ck0).wl+(fa i).tmod ((cs.getD i ck0).wh-(cs.getD i ck0).wl+1)
def mP (cs:List Csk)(fb:Nat→Int)(i:Nat):Int:=(cs.getD i ck0).ml+(fb i).tmod ((cs.getD i ck0).mh-(cs.getD i ck0).ml+1)
def tP (tw tm:List Int)(tv:List (List Int))(cs:List Csk)(fa fb:Nat→Int)(i:Nat):Int:=atS tw tm tv (wP cs fa i) (mP cs fb i)
def trL (f:Nat→Int):Nat→List Int
  |0=>[]
  |n+1=>trL f n++[f n]
theorem trL_len (f:Nat→Int):∀n,(trL f n).length=n:=by
  intro n
  induction n with
  |zero=>rfl
  |succ n ih=>rw [trL,List.length_append,ih];rfl
theorem trL_at {f:Nat→Int}:∀{n i:Nat},i<n→(trL f n).getD i 0=f i:=by
  intro n
  induction n with
  |zero=>intro i h;omega
  | succ n ih=>
    intro i h
    rw [trL,List.getD_eq_getElem?_getD]
    rcases Nat.lt_or_ge i n with q|q
    · rw [List.getElem?_append_left (by rw [trL_len];exact q),←List.getD_eq_getElem?_getD];exact ih q
    · have e:i=n:=by omega
      subst e
      rw [List.getElem?_append_right (by rw [trL_len];exact Nat.le_refl _),trL_len,Nat.sub_self];rfl
theorem tmod_in {a b:Int}(ha:0≤a)(hb:0<b):0≤a.tmod b∧a.tmod b<b:=⟨Int.tmod_nonneg b ha,Int.tmod_lt_of_pos a hb⟩
theorem w_in {cs:List Csk} {fa:Nat→Int} {i:Nat} {tw tm:List Int}(hb:Box tw tm (cs.getD i ck0).wl (cs.getD i ck0).wh (cs.getD i ck0).ml (cs.getD i ck0).mh)(ha:0≤fa i):(cs.getD i ck0).wl≤wP cs fa i∧wP cs fa i≤(cs.getD i ck0).wh:=by
  have:=tmod_in ha (show 0<(cs.getD i ck0).wh-(cs.getD i ck0).wl+1 by have:=hb.w;omega)
  unfold wP
  omega
theorem m_in {cs:List Csk} {fb:Nat→Int} {i:Nat} {tw tm:List Int}(hb:Box tw tm (cs.getD i ck0).wl (cs.getD i ck0).wh (cs.getD i ck0).ml (cs.getD i ck0).mh)(ha:0≤fb i):(cs.getD i ck0).ml≤mP cs fb i∧mP cs fb i≤(cs.getD i ck0).mh:=by
  have:=tmod_in ha (show 0<(cs.getD i ck0).mh-(cs.getD i ck0).ml+1 by have:=hb.m;omega)
  unfold mP
  omega
section
variable {tw tm:List Int} {tv:List (List Int)} {rate:Int} {cs:List Csk} {fa fb:Nat→Int}
theorem p_in (hS:SOk tw tm tv rate cs)(ha:∀i,0≤fa i)(hb:∀i,0≤fb i) {i:Nat}(hi:i<cs.length):Pt tw tm (wP cs fa i) (mP cs fb i):=
  (hS.box i hi).pt (w_in (hS.box i hi) (ha i)).1 (w_in (hS.box i hi) (ha i)).2 (m_in (hS.box i hi) (hb i)).1 (m_in (hS.box i hi) (hb i)).2
theorem t_in (hS:SOk tw tm tv rate cs)(ha:∀i,0≤fa i)(hb:∀i,0≤fb i) {i:Nat}(hi:i<cs.length):sLo tw tm tv (cs.getD i ck0)≤tP tw tm tv cs fa fb i∧tP tw tm tv cs fa fb i≤sHi tw tm tv (cs.getD i ck0):=
  (b_isB hS.t (hS.box i hi)).le _ _ (w_in (hS.box i hi) (ha i)).1 (w_in (hS.box i hi) (ha i)).2 (m_in (hS.box i hi) (hb i)).1 (m_in (hS.box i hi) (hb i)).2
theorem tru_in (hS:SOk tw tm tv rate cs)(ha:∀i,0≤fa i)(hb:∀i,0≤fb i):truthB tw tm tv cs (trL (tP tw tm tv cs fa fb) cs.length)=true:=
  truth_iff.2 ⟨trL_len _ _,fun i hi=>by rw [trL_at hi];exact t_in hS ha hb hi⟩
theorem mark_in (hS:SOk tw tm tv rate cs)(ha:∀i,0≤fa i)(hb:∀i,0≤fb i) {i:Nat}(hi:i<cs.length):
    mP cs fb i∈mrkN (fun n=>tm.getD 0 0+zi (n/wid (cs.getD i ck0).wl (cs.getD i ck0).wh)) (vAt tw tm tv (cs.getD i ck0).wl (tm.getD 0 0) (wid (cs.getD i ck0).wl (cs.getD i ck0).wh)) (tP tw tm tv cs fa fb i) (tP tw tm tv cs fa fb i) (wid (tm.getD 0 0) (tm.getD (tm.length-1) 0)*wid (cs.getD i ck0).wl (cs.getD i ck0).wh):=by
  have w:=w_in (hS.box i hi) (ha i)
  have m:=m_in (hS.box i hi) (hb i)
  have bx:=hS.box i hi
  have bm0:=bx.m0
  have bm1:=bx.m1
  obtain⟨W,hW⟩:∃W,W=wid (cs.getD i ck0).wl (cs.getD i ck0).wh:=⟨_,rfl⟩
  have hw:=wid_lt w.1 w.2
  have hm:=wid_lt (lo:=tm.getD 0 0) (hi:=tm.getD (tm.length-1) 0) (n:=mP cs fb i) (by omega) (by omega)
  rw [←hW]at hw⊢
  obtain⟨p,hp⟩:∃p:Nat,p=(wP cs fa i-(cs.getD i ck0).wl).toNat:=⟨_,rfl⟩
  obtain⟨q,hq⟩:∃q:Nat,q=(mP cs fb i-tm.getD 0 0).toNat:=⟨_,rfl⟩
  rw [←hp]at hw
  rw [←hq]at hm
  have e1:(q*W+p)/W=q:=by
    rw [Nat.mul_comm,Nat.mul_add_div (by omega),Nat.div_eq_of_lt hw,Nat.add_zero]
  have e2:(q*W+p)%W=p:=by
    rw [Nat.mul_comm,Nat.mul_add_mod,Nat.mod_eq_of_lt hw]
  have hlt:q*W+p<wid (tm.getD 0 0) (tm.getD (tm.length-1) 0)*W:=by
    have:=Nat.mul_le_mul_right W (show q+1≤wid (tm.getD 0 0) (tm.getD (tm.length-1) 0) by omega)
    rw [Nat.add_mul,Nat.one_mul]at this
    omega
  have ev:vAt tw tm tv (cs.getD i ck0).wl (tm.getD 0 0) W (q*W+p)=tP tw tm tv cs fa fb i:=by
    unfold vAt tP
    rw [e1,e2,show(cs.getD i ck0).wl+(p:Int)=wP cs fa i by omega,show tm.getD 0 0+(q:Int)=mP cs fb i by omega]
  have:=mrk_mem (f:=fun n=>tm.getD 0 0+zi (n/W)) (g:=vAt tw tm tv (cs.getD i ck0).wl (tm.getD 0 0) W) (lo:=tP tw tm tv cs fa fb i) (hi:=tP tw tm tv cs fa fb i) hlt (by rw [ev];exact Int.le_refl _) (by rw [ev];exact Int.le_refl _)
  simp only [e1]at this
  rw [show tm.getD 0 0+zi q=mP cs fb i by simp only [zi_den];omega]at this
  exact this
theorem duty_in (hS:SOk tw tm tv rate cs) {t:List Int}(hT:truthB tw tm tv cs t=true):dutyP rate cs (loA tw tm tv cs cs.length) cs.length≤dutyP rate cs (fun j=>t.getD j 0) cs.length∧dutyP rate cs (fun j=>t.getD j 0) cs.length≤dutyP rate cs (hiA tw tm tv cs cs.length) cs.length:=by
  have h:=(truth_iff.1 hT).2
  have hg:∀i,i<cs.length→0≤(cs.getD i ck0).g:=fun i hi=>by have:=hS.gal i hi;omega
  have hs:∀j,j<cs.length→0≤sLo tw tm tv (cs.getD j ck0):=fun j hj=>(s_bd hS.t (hS.box j hj)).1
  constructor
  · refine duty_mono hS.rate.1 _ (Nat.le_refl _) hg fun j hj=> ?_
    simp only [loA,if_pos hj]
    exact⟨hs j hj,(h j hj).1⟩
  · refine duty_mono hS.rate.1 _ (Nat.le_refl _) hg fun j hj=> ?_
    simp only [hiA,if_pos hj]
    exact⟨Int.le_trans (hs j hj) (h j hj).1,(h j hj).2⟩
def saidL (cs:List Csk)(t:List Int):Nat→List (Int×Int)
  |0=>[]
  |n+1=>saidL cs t n++[((n:Int),tenthsP (cs.getD n ck0).g (t.getD n 0))]
theorem said_len (cs:List Csk)(t:List Int):∀n,(saidL cs t n).length=n:=by
  intro n
  induction n with
  |zero=>rfl
  |succ n ih=>rw [saidL,List.length_append,ih];rfl
theorem said_at {cs:List Csk} {t:List Int}:∀{n i:Nat},i<n→(saidL cs t n).getD i (0,0)=((i:Int),tenthsP (cs.getD i ck0).g (t.getD i 0)):=by
  intro n
  induction n with
  |zero=>intro i h;omega
  | succ n ih=>
    intro i h
    rw [saidL,List.getD_eq_getElem?_getD]
    rcases Nat.lt_or_ge i n with q|q
    · rw [List.getElem?_append_left (by rw [said_len];exact q),←List.getD_eq_getElem?_getD];exact ih q
    · have e:i=n:=by omega
      subst e
      rw [List.getElem?_append_right (by rw [said_len];exact Nat.le_refl _),said_len,Nat.sub_self];rfl
theorem said_dec (cs:List Csk)(t:List Int):decB cs.length (saidL cs t cs.length)=true:=by
  unfold decB
  rw [decide_eq_true_eq]
  intro i hi
  rw [said_len]at hi
  rw [said_at hi]
  simp only [Bool.and_eq_true,decide_eq_true_eq]
  omega
theorem said_can (hS:SOk tw tm tv rate cs) {t:List Int}(hT:truthB tw tm tv cs t=true) {i:Nat}(hi:i<cs.length):canB cs (fun j=>sLo tw tm tv (cs.getD j ck0)) (fun j=>sHi tw tm tv (cs.getD j ck0)) cs.length [(i:Int),tenthsP (cs.getD i ck0).g (t.getD i 0)]=true:=by
  have h:=(truth_iff.1 hT).2 i hi
  unfold canB hasT
  simp only [Bool.and_eq_true,decide_eq_true_eq,List.getD_cons_zero,List.getD_cons_succ,Int.toNat_natCast,List.any_eq_true,List.mem_range]
  refine⟨⟨by omega,by omega⟩,(t.getD i 0-sLo tw tm tv (cs.getD i ck0)).toNat,by omega,?_⟩
  rw [show sLo tw tm tv (cs.getD i ck0)+(((t.getD i 0-sLo tw tm tv (cs.getD i ck0)).toNat:Nat):Int)=t.getD i 0 by omega]
theorem said_ok (hS:SOk tw tm tv rate cs) {t:List Int}(hT:truthB tw tm tv cs t=true):falL (canB cs (fun j=>sLo tw tm tv (cs.getD j ck0)) (fun j=>sHi tw tm tv (cs.getD j ck0)) cs.length) (saidL cs t cs.length) (saidL cs t cs.length).length=[]:=by
  have h:∀k,k≤cs.length→falL (canB cs (fun j=>sLo tw tm tv (cs.getD j ck0)) (fun j=>sHi tw tm tv (cs.getD j ck0)) cs.length) (saidL cs t cs.length) k=[]:=by
    intro k
    induction k with
    |zero=>intro _;rfl
    | succ k ih=>
      intro hk
      rw [falL_y (by rw [said_at (by omega)];exact said_can hS hT (by omega))]
      exact ih (by omega)
  rw [said_len]
  exact h _ (Nat.le_refl _)
end
end Go.Proofs.Ytdacdjdccibaiaa

namespace Go.Proofs.Ytdacdjdccibaiaa
open Go Go.Eng Go.Proofs
set_option maxRecDepth 10000
def hasN (Q:List Int)(m:Int):Nat→Bool
  |0=>false
  |k+1=>hasN Q m k||decide (Q.getD k 0=m)
theorem hasN_y {Q:List Int} {m:Int} {k:Nat}(h:hasN Q m k=true):hasN Q m k=hasN Q m (k+1):=by
  have e:hasN Q m (k+1)=(hasN Q m k||decide (Q.getD k 0=m)):=rfl
  rw [e,h];rfl
theorem hasN_t {Q:List Int} {m:Int} {k:Nat}(h:hasN Q m k=true):true=hasN Q m (k+1):=h.symm.trans (hasN_y h)
theorem hasN_n {Q:List Int} {m:Int} {k:Nat}(h:hasN Q m k=false):decide (Q.getD k 0=m)=hasN Q m (k+1):=by
  have e:hasN Q m (k+1)=(hasN Q m k||decide (Q.getD k 0=m)):=rfl
  rw [e,h];rfl
theorem hasN_in {Q:List Int} {m:Int} {i:Nat}(hi:Q.getD i 0=m):∀{k:Nat},i<k→hasN Q m k=true:=by
  intro k
  induction k with
  |zero=>intro h;omega
  | succ k ih=>
    intro h
    have e:hasN Q m (k+1)=(hasN Q m k||decide (Q.getD k 0=m)):=rfl
    rcases Nat.lt_or_ge i k with q|q
    · rw [e,ih q];rfl
    · have e2:i=k:=by omega
      subst e2
      rw [e,decide_eq_true hi];simp
theorem hasN_all {Q:List Int} {m:Int}(h:m∈Q):hasN Q m Q.length=true:=by
  obtain⟨i,h1,h2⟩:=List.getElem_of_mem h
  exact hasN_in (i:=i) (by rw [List.getD_eq_getElem?_getD,List.getElem?_eq_getElem h1];exact h2) h1
theorem mem_pos {Q:List Int} {m:Int}(h:m∈Q):0<Q.length:=List.length_pos_of_mem h
theorem comp_len (M:List Int):(Lib.compact M).length≤M.length:=by
  unfold Lib.compact Lib.compactUpTo
  rw [List.length_map]
  exact Nat.le_trans (List.length_filter_le _ _) (by simp)
theorem thinS_T {tw tm:List Int} {tv:List (List Int)} {cs:List Csk}(h:thinS tw tm tv cs=true):ThinT tw tm tv:=by
  simp only [thinS,Bool.and_eq_true]at h
  exact thinT_iff.1 h.1
theorem box_in {tw tm:List Int} {tv:List (List Int)} {rate:Int} {cs:List Csk}(hS:SOk tw tm tv rate cs) {i:Nat}(hi:i<cs.length):((cs.getD i ck0).wl≤(cs.getD i ck0).wh∧(cs.getD i ck0).ml≤(cs.getD i ck0).mh)∧(0≤(cs.getD i ck0).wl∧(cs.getD i ck0).wh≤40)∧0≤(cs.getD i ck0).ml∧(cs.getD i ck0).mh≤60:=by
  have hb:=hS.box i hi
  have hT:=hS.t
  have d1:=hT.w2;have d2:=hT.m2
  have e1:=rising_spec hT.rw 0 (by omega)
  have e2:=rising_spec hT.rm 0 (by omega)
  have e3:=rising_spec hT.rw (tw.length-1) (by omega)
  have e4:=rising_spec hT.rm (tm.length-1) (by omega)
  simp only [risingAt]at e1 e2 e3 e4
  have b1:=hb.w;have b2:=hb.w0;have b3:=hb.w1;have b4:=hb.m;have b5:=hb.m0;have b6:=hb.m1
  omega
theorem said_fit {cs:List Csk} {M:List Int} {j:Nat}(h:j=cs.length):Fit (.sl 2 (.sym fun _=>zi j) (fun ix=>[(.int .i64 (.sym fun _=>zi ix.den.toNat)),(.int .i64 (.sym fun _=>tenthsP (cs.getD ix.den.toNat ck0).g (M.getD ix.den.toNat 0)))])) (.sl 2 (.sym fun _=>zi (saidL cs M cs.length).length) (fun ix=>[(.int .i64 (.sym fun _=>((saidL cs M cs.length).getD ix.den.toNat (0,0)).1)),(.int .i64 (.sym fun _=>((saidL cs M cs.length).getD ix.den.toNat (0,0)).2))])):=by
  refine fit_sl ?_ (fun ix h0 h1=> ?_)
  · show(zi j:Int)=zi (saidL cs M cs.length).length
    rw [said_len,h]
  · have h2:ix.den<(zi j:Int):=h1
    simp only [zi_den]at h2
    have e:=said_at (cs:=cs) (t:=M) (n:=cs.length) (i:=ix.den.toNat) (by omega)
    exact qC (qE (by simp only [den_sym];rw [e];rfl)) rfl (qC (qE (by simp only [den_sym];rw [e])) rfl qA)
theorem setl_k {P:Program} {f:FuncId} {args args':List SV} {K:SV→Prop} {R:SV}(h:K R)(hF:FSpec P f args' [] fun r _=>r=R)(ha:Fit (.tup args) (.tup args')):
    ∃post:SV→Prop,FSpec P f args [] (fun r _=>post r)∧∀r,post r→K r:=⟨fun r=>r=R,hF.pre ha,fun r hr=>hr▸h⟩
theorem law3t (tw tm:List Int)(tv:List (List Int))(rate:Int)(cs:List Csk)(ws:List Int)(h:¬(thinS tw tm tv cs=true∧faultS tw tm tv rate cs=0∧0<cs.length)):FSpec Try.prog 3 [(.agg [(.sl 1 (.sym fun _=>zi (tw).length) (fun ix=>[.int .i64 (.sym fun _=>(tw).getD ix.den.toNat 0)])),(.sl 1 (.sym fun _=>zi (tm).length) (fun ix=>[.int .i64 (.sym fun _=>(tm).getD ix.den.toNat 0)])),(.sl 1 (.sym fun _=>zi (tv).length) (fun ix=>[(.sl 1 (.sym fun _=>zi ((tv).getD ix.den.toNat []).length) (fun jx=>[.int .i64 (.sym fun _=>((tv).getD ix.den.toNat []).getD jx.den.toNat 0)]))])),(.int .i64 (.sym fun _=>rate)),(.sl 5 (.sym fun _=>zi (cs).length) (fun ix=>[(.int .i64 (.sym fun _=>((cs).getD ix.den.toNat ck0).g)),(.int .i64 (.sym fun _=>((cs).getD ix.den.toNat ck0).wl)),(.int .i64 (.sym fun _=>((cs).getD ix.den.toNat ck0).wh)),(.int .i64 (.sym fun _=>((cs).getD ix.den.toNat ck0).ml)),(.int .i64 (.sym fun _=>((cs).getD ix.den.toNat ck0).mh))]))]),(.sl 1 (.sym fun _=>zi ws.length) (fun ix=>[.int .u8 (.sym fun _=>ws.getD ix.den.toNat 0)]))] [] (fun r _=>r=(.bool (.lit true))):=by
  have c4:=thin18 tw tm tv rate cs
  have c5:=fault58 tw tm tv rate cs
  have c6:=dipped6
  refine FSpec.is fun R hR=>qW (sc:=sc3) tyok mix Try.func3 rfl Try.call3 (by kernel_rfl) (by kernel_rfl) ?_
  generalize Try.prog=P at c4 c5 c6⊢
  cbv
  repeat' (first
      |with_reducible refine hold ?_ ?_
      |with_reducible refine And.intro ?_ ?_
      | (with_reducible refine qS ?_ ?_ ?_
         try cbv)
      | (with_reducible refine qT ?_ ?_
         try cbv)
      |(with_reducible intro hcd;(try simp only [zA,zB,zC,zD,zE,zF,zG,zH,zI,zJ,zK,zL,zM,zN,zO,zP]at hcd);try cbv)
      | (refine qP ?_ (c4) ?hfit
         case hfit=>((repeat' (first|exact qB|refine qD ?_ ?_|exact qE (by rfl)|exact qF (by rfl)|exact Fit.refl _|exact qA|refine qC ?_ rfl ?_));done)
         try cbv)
      | (refine qP ?_ (c5) ?hfit
         case hfit=>((repeat' (first|exact qB|refine qD ?_ ?_|exact qE (by rfl)|exact qF (by rfl)|exact Fit.refl _|exact qA|refine qC ?_ rfl ?_));done)
         try cbv)
      | (refine qP ?_ (c6) ?hfit
         case hfit=>((repeat' (first|exact qB|refine qD ?_ ?_|exact qE (by rfl)|exact qF (by rfl)|exact Fit.refl _|exact qA|refine qC ?_ rfl ?_));done)
         try cbv)
      |fail)
  all_goals first
    |trivial
    |((try simp only [qV]at *);(try simp only [zQ,zA,zB,zC,zD,zE,zF,zG,zH,zI,zJ,zK,zL,zM,zN,zO,zP,zR,zS]at *);first|(refine qN ?_;omega)|(simp only [Hold];omega))
    |(subst hR;(repeat' (first|exact qA|exact qB|refine qC ?_ rfl ?_|refine qD ?_ ?_|exact qE (by rfl)|exact qF (by rfl)|exact Fit.refl _|exact qG _|(refine qE ?_;(try simp only [qV]at *);simp only [zQ,zA,zB,zC,zD,zE,zF,zG,zH,zI,zJ,zK,zL,zM,zN,zO,zP,zR,zS]at *;omega)));done)
    |((try simp only [qV]at *);(try simp only [zQ,zA,zB,zC,zD,zE,zF,zG,zH,zI,zJ,zK,zL,zM,zN,zO,zP,zR,zS]at *);simp only [Hold];first|omega|exact⟨by omega,by omega⟩)
    |(exfalso;(try simp only [qV]at *);(try simp only [zQ,zA,zB,zC,zD,zE,zF,zG,zH,zI,zJ,zK,zL,zM,zN,zO,zP,zR,zS]at *);exact h ⟨by assumption,by omega,by omega⟩)
    |(simp only [Hold];decide)
    |skip
set_option maxHeartbeats 4000000 in
theorem law3_0 (tw tm:List Int)(tv:List (List Int))(rate:Int)(cs:List Csk)(ws:List Int)(hws:∀i,0≤ws.getD i 0∧ws.getD i 0≤255)(hwl:ws.length≤9223372036854775807)(hR1:Rdy tw tm tv rate cs)(h0:ws.length=0):FSpec Try.prog 3 [(.agg [(.sl 1 (.sym fun _=>zi (tw).length) (fun ix=>[.int .i64 (.sym fun _=>(tw).getD ix.den.toNat 0)])),(.sl 1 (.sym fun _=>zi (tm).length) (fun ix=>[.int .i64 (.sym fun _=>(tm).getD ix.den.toNat 0)])),(.sl 1 (.sym fun _=>zi (tv).length) (fun ix=>[(.sl 1 (.sym fun _=>zi ((tv).getD ix.den.toNat []).length) (fun jx=>[.int .i64 (.sym fun _=>((tv).getD ix.den.toNat []).getD jx.den.toNat 0)]))])),(.int .i64 (.sym fun _=>rate)),(.sl 5 (.sym fun _=>zi (cs).length) (fun ix=>[(.int .i64 (.sym fun _=>((cs).getD ix.den.toNat ck0).g)),(.int .i64 (.sym fun _=>((cs).getD ix.den.toNat ck0).wl)),(.int .i64 (.sym fun _=>((cs).getD ix.den.toNat ck0).wh)),(.int .i64 (.sym fun _=>((cs).getD ix.den.toNat ck0).ml)),(.int .i64 (.sym fun _=>((cs).getD ix.den.toNat ck0).mh))]))]),(.sl 1 (.sym fun _=>zi ws.length) (fun ix=>[.int .u8 (.sym fun _=>ws.getD ix.den.toNat 0)]))] [] (fun r _=>r=(.bool (.lit true))):=by
  have c4:=thin18 tw tm tv rate cs
  have c5:=fault58 tw tm tv rate cs
  have c6:=dipped6
  have c11:=store23 tw tm tv rate cs (thinS_T hR1.thin) (by have:=hR1.ok.few;omega)
  have hS:=hR1.ok
  have hthin:=hR1.thin
  have hsome:=hR1.some
  have hfew:=hS.few
  have hT:=hS.t
  have hTh:=thinS_T hthin
  have hfz:=faultS_iff.2 hS
  have ha:∀i,0≤(fun i:Nat=>((0:Int):Int)) i:=fun i=>Int.le_refl 0
  have hb:∀i,0≤(fun i:Nat=>((0:Int):Int)) i:=fun i=>Int.le_refl 0
  obtain⟨f,hf⟩:∃f:Nat→Int,f=tP tw tm tv cs (fun i:Nat=>((0:Int):Int)) (fun i:Nat=>((0:Int):Int)):=⟨_,rfl⟩
  obtain⟨Q,hQ⟩:∃Q:Nat→List Int,Q=fun i=>Lib.compact (mrkN (fun n=>(tm.getD 0 0)+zi (n/wid (cs.getD i ck0).wl (cs.getD i ck0).wh)) (vAt tw tm tv (cs.getD i ck0).wl (tm.getD 0 0) (wid (cs.getD i ck0).wl (cs.getD i ck0).wh)) (atS tw tm tv ((cs.getD i ck0).wl+((0:Int)).tmod ((cs.getD i ck0).wh-(cs.getD i ck0).wl+1)) ((cs.getD i ck0).ml+((0:Int)).tmod ((cs.getD i ck0).mh-(cs.getD i ck0).ml+1))) (atS tw tm tv ((cs.getD i ck0).wl+((0:Int)).tmod ((cs.getD i ck0).wh-(cs.getD i ck0).wl+1)) ((cs.getD i ck0).ml+((0:Int)).tmod ((cs.getD i ck0).mh-(cs.getD i ck0).ml+1))) (wid (tm.getD 0 0) (tm.getD (tm.length-1) 0)*wid (cs.getD i ck0).wl (cs.getD i ck0).wh)):=⟨_,rfl⟩
  have hx:∀i:Nat,(atS tw tm tv ((cs.getD i ck0).wl+((0:Int)).tmod ((cs.getD i ck0).wh-(cs.getD i ck0).wl+1)) ((cs.getD i ck0).ml+((0:Int)).tmod ((cs.getD i ck0).mh-(cs.getD i ck0).ml+1)))=f i:=fun i=>by rw [hf];rfl
  have c7:=fun (i:Nat) (hi:i<cs.length)=>(show FSpec Try.prog 7 [(.agg [(.sl 1 (.sym fun _=>zi (tw).length) (fun ix=>[.int .i64 (.sym fun _=>(tw).getD ix.den.toNat 0)])),(.sl 1 (.sym fun _=>zi (tm).length) (fun ix=>[.int .i64 (.sym fun _=>(tm).getD ix.den.toNat 0)])),(.sl 1 (.sym fun _=>zi (tv).length) (fun ix=>[(.sl 1 (.sym fun _=>zi ((tv).getD ix.den.toNat []).length) (fun jx=>[.int .i64 (.sym fun _=>((tv).getD ix.den.toNat []).getD jx.den.toNat 0)]))]))]),(.int .i64 (.sym fun _=>((cs.getD i ck0).wl+((0:Int)).tmod ((cs.getD i ck0).wh-(cs.getD i ck0).wl+1)))),(.int .i64 (.sym fun _=>((cs.getD i ck0).ml+((0:Int)).tmod ((cs.getD i ck0).mh-(cs.getD i ck0).ml+1))))] [] (fun r _=>r=(.tup [(.int .i64 (.sym fun _=>f i)),(.int .i64 (.sym fun _=>0))]))from by have q:=at7 tw tm tv ((cs.getD i ck0).wl+((0:Int)).tmod ((cs.getD i ck0).wh-(cs.getD i ck0).wl+1)) ((cs.getD i ck0).ml+((0:Int)).tmod ((cs.getD i ck0).mh-(cs.getD i ck0).ml+1)) hT (p_in (fa:=(fun i:Nat=>((0:Int):Int))) (fb:=(fun i:Nat=>((0:Int):Int))) hS ha hb hi);rw [hx i]at q;exact q)
  have c9:=fun (i:Nat) (hi:i<cs.length)=>(show FSpec Try.prog 9 [(.agg [(.sl 1 (.sym fun _=>zi (tw).length) (fun ix=>[.int .i64 (.sym fun _=>(tw).getD ix.den.toNat 0)])),(.sl 1 (.sym fun _=>zi (tm).length) (fun ix=>[.int .i64 (.sym fun _=>(tm).getD ix.den.toNat 0)])),(.sl 1 (.sym fun _=>zi (tv).length) (fun ix=>[(.sl 1 (.sym fun _=>zi ((tv).getD ix.den.toNat []).length) (fun jx=>[.int .i64 (.sym fun _=>((tv).getD ix.den.toNat []).getD jx.den.toNat 0)]))]))]),(.agg [(.int .i64 (.sym fun _=>(cs.getD i ck0).wl)),(.int .i64 (.sym fun _=>(cs.getD i ck0).wh))]),(.agg [(.int .i64 (.sym fun _=>f i)),(.int .i64 (.sym fun _=>f i))])] [] (fun r _=>r=(.tup [(.sl 1 (.sym fun _=>zi ((Q i)).length) (fun ix=>[.int .i64 (.sym fun _=>((Q i)).getD ix.den.toNat 0)])),(.int .i64 (.sym fun _=>0))]))from by have q:=meanings9 tw tm tv (cs.getD i ck0).wl (cs.getD i ck0).wh (atS tw tm tv ((cs.getD i ck0).wl+((0:Int)).tmod ((cs.getD i ck0).wh-(cs.getD i ck0).wl+1)) ((cs.getD i ck0).ml+((0:Int)).tmod ((cs.getD i ck0).mh-(cs.getD i ck0).ml+1))) (atS tw tm tv ((cs.getD i ck0).wl+((0:Int)).tmod ((cs.getD i ck0).wh-(cs.getD i ck0).wl+1)) ((cs.getD i ck0).ml+((0:Int)).tmod ((cs.getD i ck0).mh-(cs.getD i ck0).ml+1))) hT ⟨(hS.box i hi).w0,(hS.box i hi).w,(hS.box i hi).w1⟩ (Int.le_refl _) (mem_pos (mark_in (fa:=(fun i:Nat=>((0:Int):Int))) (fb:=(fun i:Nat=>((0:Int):Int))) hS ha hb hi));rw [show Lib.compact (mrkN (fun n=>(tm.getD 0 0)+zi (n/wid (cs.getD i ck0).wl (cs.getD i ck0).wh)) (vAt tw tm tv (cs.getD i ck0).wl (tm.getD 0 0) (wid (cs.getD i ck0).wl (cs.getD i ck0).wh)) (atS tw tm tv ((cs.getD i ck0).wl+((0:Int)).tmod ((cs.getD i ck0).wh-(cs.getD i ck0).wl+1)) ((cs.getD i ck0).ml+((0:Int)).tmod ((cs.getD i ck0).mh-(cs.getD i ck0).ml+1))) (atS tw tm tv ((cs.getD i ck0).wl+((0:Int)).tmod ((cs.getD i ck0).wh-(cs.getD i ck0).wl+1)) ((cs.getD i ck0).ml+((0:Int)).tmod ((cs.getD i ck0).mh-(cs.getD i ck0).ml+1))) (wid (tm.getD 0 0) (tm.getD (tm.length-1) 0)*wid (cs.getD i ck0).wl (cs.getD i ck0).wh))=Q i by rw [hQ],hx i]at q;exact q)
  have hmem:=fun (i:Nat) (hi:i<cs.length)=>(show((cs.getD i ck0).ml+((0:Int)).tmod ((cs.getD i ck0).mh-(cs.getD i ck0).ml+1))∈Q i from by rw [hQ];exact mem_compact (mark_in (fa:=(fun i:Nat=>((0:Int):Int))) (fb:=(fun i:Nat=>((0:Int):Int))) hS ha hb hi))
  have hlim:=fun (i:Nat) (hi:i<cs.length)=>(show(Q i).length≤100000 from by rw [hQ];exact Nat.le_trans (comp_len _) (Nat.le_trans (mrk_len _ _ _ _ _) (walk_lim hT ⟨(hS.box i hi).w0,(hS.box i hi).w,(hS.box i hi).w1⟩)))
  have hbx:=fun (i:Nat) (hi:i<cs.length)=>(show((cs.getD i ck0).wl≤(cs.getD i ck0).wh∧(cs.getD i ck0).ml≤(cs.getD i ck0).mh)∧(0≤(cs.getD i ck0).wl∧(cs.getD i ck0).wh≤40)∧0≤(cs.getD i ck0).ml∧(cs.getD i ck0).mh≤60 from box_in hS hi)
  have hwm:=fun (i:Nat) (hi:i<cs.length)=>(show((cs.getD i ck0).wl≤((cs.getD i ck0).wl+((0:Int)).tmod ((cs.getD i ck0).wh-(cs.getD i ck0).wl+1))∧((cs.getD i ck0).wl+((0:Int)).tmod ((cs.getD i ck0).wh-(cs.getD i ck0).wl+1))≤(cs.getD i ck0).wh)∧(cs.getD i ck0).ml≤((cs.getD i ck0).ml+((0:Int)).tmod ((cs.getD i ck0).mh-(cs.getD i ck0).ml+1))∧((cs.getD i ck0).ml+((0:Int)).tmod ((cs.getD i ck0).mh-(cs.getD i ck0).ml+1))≤(cs.getD i ck0).mh from⟨w_in (fa:=(fun i:Nat=>((0:Int):Int))) (hS.box i hi) (ha i),m_in (fb:=(fun i:Nat=>((0:Int):Int))) (hS.box i hi) (hb i)⟩)
  have hTr:=tru_in (fa:=(fun i:Nat=>((0:Int):Int))) (fb:=(fun i:Nat=>((0:Int):Int))) hS ha hb
  have c8:=table61 tw tm tv hTh
  rw [←hf]at hTr
  obtain⟨t,ht⟩:∃t,t=trL f cs.length:=⟨_,rfl⟩
  rw [←ht]at hTr
  have htl:t.length=cs.length:=by rw [ht,trL_len]
  have c10:=tenths45z tw tm tv rate cs t hS hTr
  have c12:=duty44z tw tm tv rate cs t hS hTr
  have c13:=duties22z tw tm tv rate cs hS
  have hdu:=duty_in hS hTr
  have c14:=false38D tw tm tv rate cs (saidL cs t cs.length) [] hS (by rw [said_len];omega) (said_dec cs t) (said_ok hS hTr)
  clear hf hQ hx
  refine FSpec.is fun R hR=>qW (sc:=sc3) tyok mix Try.func3 rfl Try.call3 (by kernel_rfl) (by kernel_rfl) ?_
  generalize Try.prog=P at c4 c5 c6 c11 c7 c9 c8 c10 c12 c13 c14⊢
  cbv
  repeat' (first
      |with_reducible refine hold ?_ ?_
      |with_reducible refine And.intro ?_ ?_
      | (with_reducible refine qS ?_ ?_ ?_
         try cbv)
      | (with_reducible refine qT ?_ ?_
         try cbv)
      |(with_reducible intro hcd;(try simp only [zA,zB,zC,zD,zE,zF,zG,zH,zI,zJ,zK,zL,zM,zN,zO,zP]at hcd);try cbv)
      | (refine qP ?_ (c4) ?hfit
         case hfit=>((repeat' (first|exact qB|refine qD ?_ ?_|exact qE (by rfl)|exact qF (by rfl)|exact Fit.refl _|exact qA|refine qC ?_ rfl ?_));done)
         try cbv)
      | (refine qP ?_ (c5) ?hfit
         case hfit=>((repeat' (first|exact qB|refine qD ?_ ?_|exact qE (by rfl)|exact qF (by rfl)|exact Fit.refl _|exact qA|refine qC ?_ rfl ?_));done)
         try cbv)
      |fail)
  all_goals first
    |trivial
    |((try simp only [qV]at *);(try simp only [zQ,zA,zB,zC,zD,zE,zF,zG,zH,zI,zJ,zK,zL,zM,zN,zO,zP,zR,zS]at *);first|(refine qN ?_;omega)|(simp only [Hold];omega))
    |((try simp only [qV]at *);(try simp only [zQ,zA,zB,zC,zD,zE,zF,zG,zH,zI,zJ,zK,zL,zM,zN,zO,zP,zR,zS]at *);simp only [Hold];first|omega|exact⟨by omega,by omega⟩)
    |(exfalso;(try simp only [qV]at *);(try simp only [zQ,zA,zB,zC,zD,zE,zF,zG,zH,zI,zJ,zK,zL,zM,zN,zO,zP,zR,zS]at *);omega)
    |(exfalso;rw [hthin]at hcd;cases hcd;done)
    |(simp only [Hold];decide)
    |skip
  refine⟨none,[⟨.tmp 5,3,1⟩],{i:Nat // i≤cs.length},fun x=>⟨[(1,(.sl 1 (.sym fun _=>zi ws.length) (fun ix=>[.int .u8 (.sym fun _=>ws.getD ix.den.toNat 0)]))),(2,.own 0 0),(5,.row 18),(6,(.int .i64 (.sym fun _=>zi x.1)))],[(0,.cells [(.sl 1 (.sym fun _=>zi (tw).length) (fun ix=>[.int .i64 (.sym fun _=>(tw).getD ix.den.toNat 0)])),(.sl 1 (.sym fun _=>zi (tm).length) (fun ix=>[.int .i64 (.sym fun _=>(tm).getD ix.den.toNat 0)])),(.sl 1 (.sym fun _=>zi (tv).length) (fun ix=>[(.sl 1 (.sym fun _=>zi ((tv).getD ix.den.toNat []).length) (fun jx=>[.int .i64 (.sym fun _=>((tv).getD ix.den.toNat []).getD jx.den.toNat 0)]))])),(.int .i64 (.sym fun _=>rate)),(.sl 5 (.sym fun _=>zi (cs).length) (fun ix=>[(.int .i64 (.sym fun _=>((cs).getD ix.den.toNat ck0).g)),(.int .i64 (.sym fun _=>((cs).getD ix.den.toNat ck0).wl)),(.int .i64 (.sym fun _=>((cs).getD ix.den.toNat ck0).wh)),(.int .i64 (.sym fun _=>((cs).getD ix.den.toNat ck0).ml)),(.int .i64 (.sym fun _=>((cs).getD ix.den.toNat ck0).mh))]))] 28),(18,.row 3 1 (.sym fun _=>zi ((trL f x.1)).length) (fun ix=>[.int .i64 (.sym fun _=>((trL f x.1)).getD ix.den.toNat 0)]))],100⟩,fun x=>cs.length-x.1,?_,?_⟩
  · refine⟨⟨0,by omega⟩,?_⟩
    cbv
    repeat' (first
      |with_reducible refine hold ?_ ?_
      |with_reducible refine And.intro ?_ ?_)
    all_goals first
      |trivial
      |exact qM (qE (by rfl))
      |exact qM (qF (by rfl))
      |exact qM (Fit.refl _)
      |exact qL (qK _)
      |(refine qM (qE ?_);(try simp only [qV]at *);simp only [zQ,zA,zB,zC,zD,zE,zF,zG,zH,zI,zJ,zK,zL,zM,zN,zO,zP,zR,zS]at *;omega)
      |(refine qL (qJ ?_);(repeat' (first|exact qA|exact qB|refine qC ?_ rfl ?_|refine qD ?_ ?_|exact qE (by rfl)|exact qF (by rfl)|exact Fit.refl _|exact qG _|(refine qE ?_;(try simp only [qV]at *);simp only [zQ,zA,zB,zC,zD,zE,zF,zG,zH,zI,zJ,zK,zL,zM,zN,zO,zP,zR,zS]at *;omega)));done)
      |(refine qL (ble_row ?_ ?_);(first|rfl|((try simp only [qV]at *);(try simp only [zQ,zA,zB,zC,zD,zE,zF,zG,zH,zI,zJ,zK,zL,zM,zN,zO,zP,zR,zS]at *);omega));intro ix h0 h1;exfalso;(try simp only [qV]at *);(try simp only [zQ,zA,zB,zC,zD,zE,zF,zG,zH,zI,zJ,zK,zL,zM,zN,zO,zP,zR,zS]at *);omega)
      |skip
  · rintro ⟨i, hi⟩
    cbv
    have hlen:=trL_len f i
    have htr:trL f (i+1)=trL f i++[f i]:=rfl
    obtain⟨M,hM⟩:∃M,M=trL f i:=⟨_,rfl⟩
    have hMt:i=cs.length→M=t:=fun e=>by rw [hM,e,ht]
    rw [←hM]at hlen htr⊢
    obtain⟨mm,hmm⟩:∃mm,mm=((cs.getD i ck0).ml+((0:Int)).tmod ((cs.getD i ck0).mh-(cs.getD i ck0).ml+1)):=⟨_,rfl⟩
    cbv
    repeat' (first
        |with_reducible refine hold ?_ ?_
        |with_reducible refine And.intro ?_ ?_
        | (with_reducible refine qS ?_ ?_ ?_
           try cbv)
        | (with_reducible refine qT ?_ ?_
           try cbv)
        |(with_reducible intro hcd;(try simp only [zA,zB,zC,zD,zE,zF,zG,zH,zI,zJ,zK,zL,zM,zN,zO,zP]at hcd);try cbv)
        | (refine qP ?_ (c8) ?hfit
           case hfit=>((repeat' (first|exact qB|refine qD ?_ ?_|exact qE (by rfl)|exact qF (by rfl)|exact Fit.refl _|exact qA|refine qC ?_ rfl ?_));done)
           try cbv)
        | (refine qP ?_ (c11) ?hfit
           case hfit=>((repeat' (first|exact qB|refine qD ?_ ?_|exact qE (by rfl)|exact qF (by rfl)|exact Fit.refl _|exact qA|refine qC ?_ rfl ?_));done)
           try cbv)
        | ((have hi9:i<cs.length:=(by((try simp only [qV]at *);(try simp only [zQ,zA,zB,zC,zD,zE,zF,zG,zH,zI,zJ,zK,zL,zM,zN,zO,zP,zR,zS]at *);omega)))
           refine qP ?_ (c7 i hi9) ?hfit
           case hfit=>((repeat' (first|exact qB|refine qD ?_ ?_|exact qE (by rfl)|exact qF (by rfl)|exact Fit.refl _|exact qA|refine qC ?_ rfl ?_));done)
           try cbv)
        | ((have hi9:i<cs.length:=(by((try simp only [qV]at *);(try simp only [zQ,zA,zB,zC,zD,zE,zF,zG,zH,zI,zJ,zK,zL,zM,zN,zO,zP,zR,zS]at *);omega)))
           refine qP ?_ (c9 i hi9) ?hfit
           case hfit=>((repeat' (first|exact qB|refine qD ?_ ?_|exact qE (by rfl)|exact qF (by rfl)|exact Fit.refl _|exact qA|refine qC ?_ rfl ?_));done)
           try cbv)
        |fail)
    all_goals first
      |trivial
      |((try simp only [qV]at *);(try simp only [zQ,zA,zB,zC,zD,zE,zF,zG,zH,zI,zJ,zK,zL,zM,zN,zO,zP,zR,zS]at *);first|(refine qN ?_;omega)|(simp only [Hold];omega))
      |((try simp only [qV]at *);(try simp only [zQ,zA,zB,zC,zD,zE,zF,zG,zH,zI,zJ,zK,zL,zM,zN,zO,zP,zR,zS]at *);simp only [Hold];first|omega|exact⟨by omega,by omega⟩)
      |((have hb9:=hbx i (by((try simp only [qV]at *);(try simp only [zQ,zA,zB,zC,zD,zE,zF,zG,zH,zI,zJ,zK,zL,zM,zN,zO,zP,zR,zS]at *);omega)));(have hw9:=hwm i (by((try simp only [qV]at *);(try simp only [zQ,zA,zB,zC,zD,zE,zF,zG,zH,zI,zJ,zK,zL,zM,zN,zO,zP,zR,zS]at *);omega)));(try simp only [qV]at *);(try simp only [zQ,zA,zB,zC,zD,zE,zF,zG,zH,zI,zJ,zK,zL,zM,zN,zO,zP,zR,zS]at *);first|(refine qN ?_;omega)|(simp only [Hold];first|omega|exact⟨by omega,by omega⟩))
      |(exfalso;(try simp only [qV]at *);(try simp only [zQ,zA,zB,zC,zD,zE,zF,zG,zH,zI,zJ,zK,zL,zM,zN,zO,zP,zR,zS]at *);omega)
      |(simp only [Hold];decide)
      |skip
    · refine⟨none,[],{k:Nat // k≤(Q i).length},fun x=>⟨[(1,(.sl 1 (.sym fun _=>zi ws.length) (fun ix=>[.int .u8 (.sym fun _=>ws.getD ix.den.toNat 0)]))),(2,.own 0 0),(5,.row 18),(6,(.int .i64 (.sym fun _=>zi i))),(11,(.int .i64 (.sym fun _=>mm))),(12,(.int .i64 (.sym fun _=>f i))),(13,(.int .i64 (.sym fun _=>0))),(14,(.sl 1 (.sym fun _=>zi ((Q i)).length) (fun ix=>[.int .i64 (.sym fun _=>((Q i)).getD ix.den.toNat 0)]))),(15,(.int .i64 (.sym fun _=>0))),(16,(.bool (.sym fun _=>hasN (Q i) mm x.1))),(17,(.int .i64 (.sym fun _=>zi x.1)))],[(0,.cells [(.sl 1 (.sym fun _=>zi (tw).length) (fun ix=>[.int .i64 (.sym fun _=>(tw).getD ix.den.toNat 0)])),(.sl 1 (.sym fun _=>zi (tm).length) (fun ix=>[.int .i64 (.sym fun _=>(tm).getD ix.den.toNat 0)])),(.sl 1 (.sym fun _=>zi (tv).length) (fun ix=>[(.sl 1 (.sym fun _=>zi ((tv).getD ix.den.toNat []).length) (fun jx=>[.int .i64 (.sym fun _=>((tv).getD ix.den.toNat []).getD jx.den.toNat 0)]))])),(.int .i64 (.sym fun _=>rate)),(.sl 5 (.sym fun _=>zi (cs).length) (fun ix=>[(.int .i64 (.sym fun _=>((cs).getD ix.den.toNat ck0).g)),(.int .i64 (.sym fun _=>((cs).getD ix.den.toNat ck0).wl)),(.int .i64 (.sym fun _=>((cs).getD ix.den.toNat ck0).wh)),(.int .i64 (.sym fun _=>((cs).getD ix.den.toNat ck0).ml)),(.int .i64 (.sym fun _=>((cs).getD ix.den.toNat ck0).mh))]))] 28),(18,.row 3 1 (.sym fun _=>zi (M).length) (fun ix=>[.int .i64 (.sym fun _=>(M).getD ix.den.toNat 0)]))],200⟩,fun x=>(Q i).length-x.1,?_,?_⟩
      · refine⟨⟨0,by omega⟩,?_⟩
        cbv
        repeat' (first
          |with_reducible refine hold ?_ ?_
          |with_reducible refine And.intro ?_ ?_)
        all_goals first
          |trivial
          |exact qM (qE (by rfl))
          |exact qM (qF (by rfl))
          |exact qM (Fit.refl _)
          |exact qL (qK _)
          |(refine qM (qE ?_);(try simp only [qV]at *);simp only [zQ,zA,zB,zC,zD,zE,zF,zG,zH,zI,zJ,zK,zL,zM,zN,zO,zP,zR,zS]at *;omega)
          |(refine qL (qJ ?_);(repeat' (first|exact qA|exact qB|refine qC ?_ rfl ?_|refine qD ?_ ?_|exact qE (by rfl)|exact qF (by rfl)|exact Fit.refl _|exact qG _|(refine qE ?_;(try simp only [qV]at *);simp only [zQ,zA,zB,zC,zD,zE,zF,zG,zH,zI,zJ,zK,zL,zM,zN,zO,zP,zR,zS]at *;omega)));done)
          |skip
      · rintro ⟨k,hk⟩
        cbv
        (have hl9:=hlim i (by((try simp only [qV]at *);(try simp only [zQ,zA,zB,zC,zD,zE,zF,zG,zH,zI,zJ,zK,zL,zM,zN,zO,zP,zR,zS]at *);omega)))
        cbv
        repeat' (first
            |with_reducible refine hold ?_ ?_
            |with_reducible refine And.intro ?_ ?_
            | (with_reducible refine qS ?_ ?_ ?_
               try cbv)
            | (with_reducible refine qT ?_ ?_
               try cbv)
            |(with_reducible intro hcd;(try simp only [zA,zB,zC,zD,zE,zF,zG,zH,zI,zJ,zK,zL,zM,zN,zO,zP]at hcd);try cbv)
            | (obtain⟨L2,eL2⟩:∃y:List Int,y=M++[f i]:=⟨_,rfl⟩
               refine⟨intsE L2,?_⟩
               cbv
               refine hold (hold_rowlist (L:=M) eL2 (by(first|rfl|((try simp only [qV]at *);(try simp only [zQ,zA,zB,zC,zD,zE,zF,zG,zH,zI,zJ,zK,zL,zM,zN,zO,zP,zR,zS]at *);done)|((try simp only [qV]at *);(try simp only [zQ,zA,zB,zC,zD,zE,zF,zG,zH,zI,zJ,zK,zL,zM,zN,zO,zP,zR,zS]at *);omega))) (by rfl) (fun ix=>Fit.refl _) (fun ix h=>qC (qE (by rfl)) rfl qA) (by(try simp only [qV]at *);(try simp only [zQ,zA,zB,zC,zD,zE,zF,zG,zH,zI,zJ,zK,zL,zM,zN,zO,zP,zR,zS]at *);omega)) (Or.inl ?_)
               try cbv)
            |fail)
        all_goals first
          |trivial
          |((try simp only [qV]at *);(try simp only [zQ,zA,zB,zC,zD,zE,zF,zG,zH,zI,zJ,zK,zL,zM,zN,zO,zP,zR,zS]at *);first|(refine qN ?_;omega)|(simp only [Hold];omega))
          |((try simp only [zQ,zA,zB,zC,zD,zE,zF,zG,zH,zI,zJ,zK,zL,zM,zN,zO,zP,zR,zS]at *);refine⟨⟨k+1,by((try simp only [qV]at *);(try simp only [zQ,zA,zB,zC,zD,zE,zF,zG,zH,zI,zJ,zK,zL,zM,zN,zO,zP,zR,zS]at *);omega)⟩,by simp only [];omega,?_⟩;cbv;(repeat' (first|with_reducible refine hold ?_ ?_|with_reducible refine And.intro ?_ ?_));(all_goals first|trivial|exact qM (qE (by rfl))|exact qM (qF (by rfl))|exact qM (Fit.refl _)|exact qL (qK _)|(refine qM (qE ?_);(try simp only [qV]at *);simp only [zQ,zA,zB,zC,zD,zE,zF,zG,zH,zI,zJ,zK,zL,zM,zN,zO,zP,zR,zS]at *;omega)|(refine qM (qF ?_);first|exact hasN_t (by assumption)|exact hasN_n (by assumption))|skip))
          |((have hm9:=hmem i (by((try simp only [qV]at *);(try simp only [zQ,zA,zB,zC,zD,zE,zF,zG,zH,zI,zJ,zK,zL,zM,zN,zO,zP,zR,zS]at *);omega)));rw [←hmm]at hm9;(have ha9:=hasN_all hm9);(have hk9:k=(Q i).length:=by((try simp only [qV]at *);(try simp only [zQ,zA,zB,zC,zD,zE,zF,zG,zH,zI,zJ,zK,zL,zM,zN,zO,zP,zR,zS]at *);omega));rw [←hk9]at ha9;simp_all;done)
          |(exact(hcd rfl).elim)
          |((try simp only [zQ,zA,zB,zC,zD,zE,zF,zG,zH,zI,zJ,zK,zL,zM,zN,zO,zP,zR,zS]at *);(have hx:trL f (i+1)=L2:=htr.trans eL2.symm);refine⟨⟨i+1,by((try simp only [qV]at *);(try simp only [zQ,zA,zB,zC,zD,zE,zF,zG,zH,zI,zJ,zK,zL,zM,zN,zO,zP,zR,zS]at *);omega)⟩,by simp only [];omega,?_⟩;cbv;(repeat' (first|with_reducible refine hold ?_ ?_|with_reducible refine And.intro ?_ ?_));(all_goals first|trivial|exact qM (qE (by rfl))|exact qM (qF (by rfl))|exact qM (Fit.refl _)|exact qL (qK _)|(refine qM (qE ?_);(try simp only [qV]at *);simp only [zQ,zA,zB,zC,zD,zE,zF,zG,zH,zI,zJ,zK,zL,zM,zN,zO,zP,zR,zS]at *;omega)|(refine qL (qJ ?_);(repeat' (first|exact qA|exact qB|refine qC ?_ rfl ?_|refine qD ?_ ?_|exact qE (by rfl)|exact qF (by rfl)|exact Fit.refl _|exact qG _|(refine qE ?_;(try simp only [qV]at *);simp only [zQ,zA,zB,zC,zD,zE,zF,zG,zH,zI,zJ,zK,zL,zM,zN,zO,zP,zR,zS]at *;omega)));done)|(simp only [hx];first|exact qL (qK _)|(refine qL (ble_row ?_ ?_)<;>first|rfl|(rw [eL2,List.length_append];rfl)|((try simp only [qV]at *);(try simp only [zQ,zA,zB,zC,zD,zE,zF,zG,zH,zI,zJ,zK,zL,zM,zN,zO,zP,zR,zS]at *);(try simp only [eL2,List.length_append,List.length_cons,List.length_nil]at *);omega)|(intro ix h0 h1;exact Fit.refl _)))|skip))
          |((try simp only [qV]at *);(try simp only [zQ,zA,zB,zC,zD,zE,zF,zG,zH,zI,zJ,zK,zL,zM,zN,zO,zP,zR,zS]at *);simp only [Hold];first|omega|exact⟨by omega,by omega⟩)
          |(exfalso;(try simp only [qV]at *);(try simp only [zQ,zA,zB,zC,zD,zE,zF,zG,zH,zI,zJ,zK,zL,zM,zN,zO,zP,zR,zS]at *);omega)
          |(simp only [Hold];decide)
          |skip
        trace_state
    · have hie :i=cs.length:=by((try simp only [qV]at *);(try simp only [zQ,zA,zB,zC,zD,zE,zF,zG,zH,zI,zJ,zK,zL,zM,zN,zO,zP,zR,zS]at *);omega)
      have hMe:=hMt hie
      subst hMe
      repeat' (first
          |with_reducible refine hold ?_ ?_
          |with_reducible refine And.intro ?_ ?_
          | (with_reducible refine qS ?_ ?_ ?_
             try cbv)
          | (with_reducible refine qT ?_ ?_
             try cbv)
          |(with_reducible intro hcd;(try simp only [zA,zB,zC,zD,zE,zF,zG,zH,zI,zJ,zK,zL,zM,zN,zO,zP]at hcd);try cbv)
          | (refine qP ?_ (c8) ?hfit
             case hfit=>((repeat' (first|exact qB|refine qD ?_ ?_|exact qE (by rfl)|exact qF (by rfl)|exact Fit.refl _|exact qA|refine qC ?_ rfl ?_));done)
             try cbv)
          | (refine qP ?_ (c11) ?hfit
             case hfit=>((repeat' (first|exact qB|refine qD ?_ ?_|exact qE (by rfl)|exact qF (by rfl)|exact Fit.refl _|exact qA|refine qC ?_ rfl ?_));done)
             try cbv)
          | (refine qP ?_ (c13) ?hfit
             case hfit=>((repeat' (first|exact qB|refine qD ?_ ?_|exact qE (by rfl)|exact qF (by rfl)|exact Fit.refl _|exact qA|refine qC ?_ rfl ?_));done)
             try cbv)
          | (refine⟨some [],(109:Nat),?_⟩
             cbv
             refine setl_k ?_ (c10) (by cbv;(repeat' (first|exact qB|refine qD ?_ ?_|exact qE (by rfl)|exact qF (by rfl)|exact Fit.refl _|exact qA|refine qC ?_ rfl ?_)))
             try cbv)
          | (refine⟨some [],(111:Nat),?_⟩
             cbv
             refine setl_k ?_ (c12) (by cbv;(repeat' (first|exact qB|refine qD ?_ ?_|exact qE (by rfl)|exact qF (by rfl)|exact Fit.refl _|exact qA|refine qC ?_ rfl ?_)))
             try cbv)
          | ((first|(refine qR ?_ (c12) rfl (by cbv;(repeat' (first|exact qB|refine qD ?_ ?_|exact qE (by rfl)|exact qF (by rfl)|exact Fit.refl _|exact qA|refine qC ?_ rfl ?_))))|(refine⟨none,?_⟩;refine qR ?_ (c12) rfl (by cbv;(repeat' (first|exact qB|refine qD ?_ ?_|exact qE (by rfl)|exact qF (by rfl)|exact Fit.refl _|exact qA|refine qC ?_ rfl ?_)))))
             try cbv)
          |fail)
      all_goals first
        |trivial
        |((try simp only [qV]at *);(try simp only [zQ,zA,zB,zC,zD,zE,zF,zG,zH,zI,zJ,zK,zL,zM,zN,zO,zP,zR,zS]at *);first|(refine qN ?_;omega)|(simp only [Hold];omega))
        |((try simp only [qV]at *);(try simp only [zQ,zA,zB,zC,zD,zE,zF,zG,zH,zI,zJ,zK,zL,zM,zN,zO,zP,zR,zS]at *);simp only [Hold];first|omega|exact⟨by omega,by omega⟩)
        |(exfalso;(try simp only [qV]at *);(try simp only [zQ,zA,zB,zC,zD,zE,zF,zG,zH,zI,zJ,zK,zL,zM,zN,zO,zP,zR,zS]at *);omega)
        |(exact(hcd rfl).elim)
        |(simp only [Hold];decide)
        |skip
      refine⟨none,[⟨.tmp 24,56,2⟩],{j:Nat // j≤cs.length},fun x=>⟨[(2,.own 0 0),(18,(.sl 1 (.sym fun _=>zi cs.length) (fun ix=>[(.int .i64 (.sym fun _=>tenthsP (cs.getD ix.den.toNat ck0).g (M.getD ix.den.toNat 0)))]))),(24,.row 167),(25,(.int .i64 (.sym fun _=>zi x.1)))],[(0,.cells [(.sl 1 (.sym fun _=>zi (tw).length) (fun ix=>[.int .i64 (.sym fun _=>(tw).getD ix.den.toNat 0)])),(.sl 1 (.sym fun _=>zi (tm).length) (fun ix=>[.int .i64 (.sym fun _=>(tm).getD ix.den.toNat 0)])),(.sl 1 (.sym fun _=>zi (tv).length) (fun ix=>[(.sl 1 (.sym fun _=>zi ((tv).getD ix.den.toNat []).length) (fun jx=>[.int .i64 (.sym fun _=>((tv).getD ix.den.toNat []).getD jx.den.toNat 0)]))])),(.int .i64 (.sym fun _=>rate)),(.sl 5 (.sym fun _=>zi (cs).length) (fun ix=>[(.int .i64 (.sym fun _=>((cs).getD ix.den.toNat ck0).g)),(.int .i64 (.sym fun _=>((cs).getD ix.den.toNat ck0).wl)),(.int .i64 (.sym fun _=>((cs).getD ix.den.toNat ck0).wh)),(.int .i64 (.sym fun _=>((cs).getD ix.den.toNat ck0).ml)),(.int .i64 (.sym fun _=>((cs).getD ix.den.toNat ck0).mh))]))] 28),(167,.row 56 2 (.sym fun _=>zi x.1) (fun ix=>[(.int .i64 (.sym fun _=>zi ix.den.toNat)),(.int .i64 (.sym fun _=>tenthsP (cs.getD ix.den.toNat ck0).g (M.getD ix.den.toNat 0)))]))],300⟩,fun x=>cs.length-x.1,?_,?_⟩
      · refine⟨⟨0,by omega⟩,?_⟩
        cbv
        repeat' (first
          |with_reducible refine hold ?_ ?_
          |with_reducible refine And.intro ?_ ?_)
        all_goals first
          |trivial
          |exact qM (qE (by rfl))
          |exact qM (qF (by rfl))
          |exact qM (Fit.refl _)
          |exact qL (qK _)
          |(refine qM (qE ?_);(try simp only [qV]at *);simp only [zQ,zA,zB,zC,zD,zE,zF,zG,zH,zI,zJ,zK,zL,zM,zN,zO,zP,zR,zS]at *;omega)
          |(refine qL (qJ ?_);(repeat' (first|exact qA|exact qB|refine qC ?_ rfl ?_|refine qD ?_ ?_|exact qE (by rfl)|exact qF (by rfl)|exact Fit.refl _|exact qG _|(refine qE ?_;(try simp only [qV]at *);simp only [zQ,zA,zB,zC,zD,zE,zF,zG,zH,zI,zJ,zK,zL,zM,zN,zO,zP,zR,zS]at *;omega)));done)
          |(refine qL (ble_row ?_ ?_);(first|rfl|((try simp only [qV]at *);(try simp only [zQ,zA,zB,zC,zD,zE,zF,zG,zH,zI,zJ,zK,zL,zM,zN,zO,zP,zR,zS]at *);omega));intro ix h0 h1;first|exact Fit.refl _|(exfalso;(try simp only [qV]at *);(try simp only [zQ,zA,zB,zC,zD,zE,zF,zG,zH,zI,zJ,zK,zL,zM,zN,zO,zP,zR,zS]at *);omega))
          |skip
      · rintro ⟨j,hj⟩
        cbv
        repeat' (first
            |with_reducible refine hold ?_ ?_
            |with_reducible refine And.intro ?_ ?_
            | (with_reducible refine qS ?_ ?_ ?_
               try cbv)
            | (with_reducible refine qT ?_ ?_
               try cbv)
            |(with_reducible intro hcd;(try simp only [zA,zB,zC,zD,zE,zF,zG,zH,zI,zJ,zK,zL,zM,zN,zO,zP]at hcd);try cbv)
            | (refine qP ?_ (c6) ?hfit
               case hfit=>((repeat' (first|exact qB|refine qD ?_ ?_|exact qE (by rfl)|exact qF (by rfl)|exact Fit.refl _|exact qA|refine qC ?_ rfl ?_));done)
               try cbv)
            | (refine qP ?_ (c11) ?hfit
               case hfit=>((repeat' (first|exact qB|refine qD ?_ ?_|exact qE (by rfl)|exact qF (by rfl)|exact Fit.refl _|exact qA|refine qC ?_ rfl ?_));done)
               try cbv)
            | (refine⟨(fun ix=>[(.int .i64 (.sym fun _=>zi ix.den.toNat)),(.int .i64 (.sym fun _=>tenthsP (cs.getD ix.den.toNat ck0).g (M.getD ix.den.toNat 0)))]:IX→List SV),?_⟩
               cbv
               refine hold (hold_rowapp (by intro ix jx h0 h1 h2;simp only [h2];exact Fit.refl _) (by intro ix jx h0 h1 h2;(have h3:jx.den.toNat=j:=by((try simp only [qV]at *);(try simp only [zQ,zA,zB,zC,zD,zE,zF,zG,zH,zI,zJ,zK,zL,zM,zN,zO,zP,zR,zS]at *);omega));simp only [h3];(first|exact Fit.refl _|(repeat' (first|exact qA|exact Fit.refl _|exact qE (by rfl)|refine qC ?_ rfl ?_)))) (by(try simp only [qV]at *);(try simp only [zQ,zA,zB,zC,zD,zE,zF,zG,zH,zI,zJ,zK,zL,zM,zN,zO,zP,zR,zS]at *);omega)) (Or.inl ?_)
               try cbv)
            | (refine⟨some [],(167:Nat),?_⟩
               cbv
               refine setl_k ?_ (c14) (by cbv;(repeat' (first|exact Fit.refl _|exact said_fit (by(try simp only [qV]at *);(try simp only [zQ,zA,zB,zC,zD,zE,zF,zG,zH,zI,zJ,zK,zL,zM,zN,zO,zP,zR,zS]at *);omega)|exact qB|refine qD ?_ ?_|exact qE (by rfl)|exact qF (by rfl)|exact Fit.refl _|exact qA|refine qC ?_ rfl ?_)))
               try cbv)
            |fail)
        all_goals first
          |trivial
          |((try simp only [qV]at *);(try simp only [zQ,zA,zB,zC,zD,zE,zF,zG,zH,zI,zJ,zK,zL,zM,zN,zO,zP,zR,zS]at *);first|(refine qN ?_;omega)|(simp only [Hold];omega))
          |(subst hR;(repeat' (first|exact qA|exact qB|refine qC ?_ rfl ?_|refine qD ?_ ?_|exact qE (by rfl)|exact qF (by rfl)|exact Fit.refl _|exact qG _|(refine qE ?_;(try simp only [qV]at *);simp only [zQ,zA,zB,zC,zD,zE,zF,zG,zH,zI,zJ,zK,zL,zM,zN,zO,zP,zR,zS]at *;omega)));done)
          |((try simp only [qV]at *);(try simp only [zQ,zA,zB,zC,zD,zE,zF,zG,zH,zI,zJ,zK,zL,zM,zN,zO,zP,zR,zS]at *);simp only [Hold];first|omega|exact⟨by omega,by omega⟩)
          |(exfalso;(try simp only [qV]at *);(try simp only [zQ,zA,zB,zC,zD,zE,zF,zG,zH,zI,zJ,zK,zL,zM,zN,zO,zP,zR,zS]at *);omega)
          |(exact(hcd rfl).elim)
          |((try simp only [zQ,zA,zB,zC,zD,zE,zF,zG,zH,zI,zJ,zK,zL,zM,zN,zO,zP,zR,zS]at *);refine⟨⟨j+1,by((try simp only [qV]at *);(try simp only [zQ,zA,zB,zC,zD,zE,zF,zG,zH,zI,zJ,zK,zL,zM,zN,zO,zP,zR,zS]at *);omega)⟩,by simp only [];omega,?_⟩;cbv;(repeat' (first|with_reducible refine hold ?_ ?_|with_reducible refine And.intro ?_ ?_));(all_goals first|trivial|exact qM (qE (by rfl))|exact qM (qF (by rfl))|exact qM (Fit.refl _)|exact qL (qK _)|(refine qM (qE ?_);(try simp only [qV]at *);simp only [zQ,zA,zB,zC,zD,zE,zF,zG,zH,zI,zJ,zK,zL,zM,zN,zO,zP,zR,zS]at *;omega)|(refine qL (qJ ?_);(repeat' (first|exact qA|exact qB|refine qC ?_ rfl ?_|refine qD ?_ ?_|exact qE (by rfl)|exact qF (by rfl)|exact Fit.refl _|exact qG _|(refine qE ?_;(try simp only [qV]at *);simp only [zQ,zA,zB,zC,zD,zE,zF,zG,zH,zI,zJ,zK,zL,zM,zN,zO,zP,zR,zS]at *;omega)));done)|(refine qL (ble_row ?_ ?_);(first|rfl|((try simp only [qV]at *);(try simp only [zQ,zA,zB,zC,zD,zE,zF,zG,zH,zI,zJ,zK,zL,zM,zN,zO,zP,zR,zS]at *);omega));intro ix h0 h1;first|exact Fit.refl _|(exfalso;(try simp only [qV]at *);(try simp only [zQ,zA,zB,zC,zD,zE,zF,zG,zH,zI,zJ,zK,zL,zM,zN,zO,zP,zR,zS]at *);omega))|skip))
          |(simp only [Hold];decide)
          |skip
end Go.Proofs.Ytdacdjdccibaiaa

namespace Go.Proofs.Ytdacdjdccibaiaa
open Go Go.Eng Go.Proofs
set_option maxRecDepth 10000
set_option maxHeartbeats 4000000 in
theorem law3_1 (tw tm:List Int)(tv:List (List Int))(rate:Int)(cs:List Csk)(ws:List Int)(hws:∀i,0≤ws.getD i 0∧ws.getD i 0≤255)(hwl:ws.length≤9223372036854775807)(hR1:Rdy tw tm tv rate cs)(h0:0<ws.length):FSpec Try.prog 3 [(.agg [(.sl 1 (.sym fun _=>zi (tw).length) (fun ix=>[.int .i64 (.sym fun _=>(tw).getD ix.den.toNat 0)])),(.sl 1 (.sym fun _=>zi (tm).length) (fun ix=>[.int .i64 (.sym fun _=>(tm).getD ix.den.toNat 0)])),(.sl 1 (.sym fun _=>zi (tv).length) (fun ix=>[(.sl 1 (.sym fun _=>zi ((tv).getD ix.den.toNat []).length) (fun jx=>[.int .i64 (.sym fun _=>((tv).getD ix.den.toNat []).getD jx.den.toNat 0)]))])),(.int .i64 (.sym fun _=>rate)),(.sl 5 (.sym fun _=>zi (cs).length) (fun ix=>[(.int .i64 (.sym fun _=>((cs).getD ix.den.toNat ck0).g)),(.int .i64 (.sym fun _=>((cs).getD ix.den.toNat ck0).wl)),(.int .i64 (.sym fun _=>((cs).getD ix.den.toNat ck0).wh)),(.int .i64 (.sym fun _=>((cs).getD ix.den.toNat ck0).ml)),(.int .i64 (.sym fun _=>((cs).getD ix.den.toNat ck0).mh))]))]),(.sl 1 (.sym fun _=>zi ws.length) (fun ix=>[.int .u8 (.sym fun _=>ws.getD ix.den.toNat 0)]))] [] (fun r _=>r=(.bool (.lit true))):=by
  have c4:=thin18 tw tm tv rate cs
  have c5:=fault58 tw tm tv rate cs
  have c6:=dipped6
  have c11:=store23 tw tm tv rate cs (thinS_T hR1.thin) (by have:=hR1.ok.few;omega)
  have hS:=hR1.ok
  have hthin:=hR1.thin
  have hsome:=hR1.some
  have hfew:=hS.few
  have hT:=hS.t
  have hTh:=thinS_T hthin
  have hfz:=faultS_iff.2 hS
  have ha:∀i,0≤(fun i:Nat=>(ws.getD ((2*zi i).tmod (zi ws.length)).toNat 0:Int)) i:=fun i=>(hws _).1
  have hb:∀i,0≤(fun i:Nat=>(ws.getD ((2*zi i+1).tmod (zi ws.length)).toNat 0:Int)) i:=fun i=>(hws _).1
  obtain⟨f,hf⟩:∃f:Nat→Int,f=tP tw tm tv cs (fun i:Nat=>(ws.getD ((2*zi i).tmod (zi ws.length)).toNat 0:Int)) (fun i:Nat=>(ws.getD ((2*zi i+1).tmod (zi ws.length)).toNat 0:Int)):=⟨_,rfl⟩
  obtain⟨Q,hQ⟩:∃Q:Nat→List Int,Q=fun i=>Lib.compact (mrkN (fun n=>(tm.getD 0 0)+zi (n/wid (cs.getD i ck0).wl (cs.getD i ck0).wh)) (vAt tw tm tv (cs.getD i ck0).wl (tm.getD 0 0) (wid (cs.getD i ck0).wl (cs.getD i ck0).wh)) (atS tw tm tv ((cs.getD i ck0).wl+(ws.getD ((2*zi i).tmod (zi ws.length)).toNat 0).tmod ((cs.getD i ck0).wh-(cs.getD i ck0).wl+1)) ((cs.getD i ck0).ml+(ws.getD ((2*zi i+1).tmod (zi ws.length)).toNat 0).tmod ((cs.getD i ck0).mh-(cs.getD i ck0).ml+1))) (atS tw tm tv ((cs.getD i ck0).wl+(ws.getD ((2*zi i).tmod (zi ws.length)).toNat 0).tmod ((cs.getD i ck0).wh-(cs.getD i ck0).wl+1)) ((cs.getD i ck0).ml+(ws.getD ((2*zi i+1).tmod (zi ws.length)).toNat 0).tmod ((cs.getD i ck0).mh-(cs.getD i ck0).ml+1))) (wid (tm.getD 0 0) (tm.getD (tm.length-1) 0)*wid (cs.getD i ck0).wl (cs.getD i ck0).wh)):=⟨_,rfl⟩
  have hx:∀i:Nat,(atS tw tm tv ((cs.getD i ck0).wl+(ws.getD ((2*zi i).tmod (zi ws.length)).toNat 0).tmod ((cs.getD i ck0).wh-(cs.getD i ck0).wl+1)) ((cs.getD i ck0).ml+(ws.getD ((2*zi i+1).tmod (zi ws.length)).toNat 0).tmod ((cs.getD i ck0).mh-(cs.getD i ck0).ml+1)))=f i:=fun i=>by rw [hf];rfl
  have c7:=fun (i:Nat) (hi:i<cs.length)=>(show FSpec Try.prog 7 [(.agg [(.sl 1 (.sym fun _=>zi (tw).length) (fun ix=>[.int .i64 (.sym fun _=>(tw).getD ix.den.toNat 0)])),(.sl 1 (.sym fun _=>zi (tm).length) (fun ix=>[.int .i64 (.sym fun _=>(tm).getD ix.den.toNat 0)])),(.sl 1 (.sym fun _=>zi (tv).length) (fun ix=>[(.sl 1 (.sym fun _=>zi ((tv).getD ix.den.toNat []).length) (fun jx=>[.int .i64 (.sym fun _=>((tv).getD ix.den.toNat []).getD jx.den.toNat 0)]))]))]),(.int .i64 (.sym fun _=>((cs.getD i ck0).wl+(ws.getD ((2*zi i).tmod (zi ws.length)).toNat 0).tmod ((cs.getD i ck0).wh-(cs.getD i ck0).wl+1)))),(.int .i64 (.sym fun _=>((cs.getD i ck0).ml+(ws.getD ((2*zi i+1).tmod (zi ws.length)).toNat 0).tmod ((cs.getD i ck0).mh-(cs.getD i ck0).ml+1))))] [] (fun r _=>r=(.tup [(.int .i64 (.sym fun _=>f i)),(.int .i64 (.sym fun _=>0))]))from by have q:=at7 tw tm tv ((cs.getD i ck0).wl+(ws.getD ((2*zi i).tmod (zi ws.length)).toNat 0).tmod ((cs.getD i ck0).wh-(cs.getD i ck0).wl+1)) ((cs.getD i ck0).ml+(ws.getD ((2*zi i+1).tmod (zi ws.length)).toNat 0).tmod ((cs.getD i ck0).mh-(cs.getD i ck0).ml+1)) hT (p_in (fa:=(fun i:Nat=>(ws.getD ((2*zi i).tmod (zi ws.length)).toNat 0:Int))) (fb:=(fun i:Nat=>(ws.getD ((2*zi i+1).tmod (zi ws.length)).toNat 0:Int))) hS ha hb hi);rw [hx i]at q;exact q)
  have c9:=fun (i:Nat) (hi:i<cs.length)=>(show FSpec Try.prog 9 [(.agg [(.sl 1 (.sym fun _=>zi (tw).length) (fun ix=>[.int .i64 (.sym fun _=>(tw).getD ix.den.toNat 0)])),(.sl 1 (.sym fun _=>zi (tm).length) (fun ix=>[.int .i64 (.sym fun _=>(tm).getD ix.den.toNat 0)])),(.sl 1 (.sym fun _=>zi (tv).length) (fun ix=>[(.sl 1 (.sym fun _=>zi ((tv).getD ix.den.toNat []).length) (fun jx=>[.int .i64 (.sym fun _=>((tv).getD ix.den.toNat []).getD jx.den.toNat 0)]))]))]),(.agg [(.int .i64 (.sym fun _=>(cs.getD i ck0).wl)),(.int .i64 (.sym fun _=>(cs.getD i ck0).wh))]),(.agg [(.int .i64 (.sym fun _=>f i)),(.int .i64 (.sym fun _=>f i))])] [] (fun r _=>r=(.tup [(.sl 1 (.sym fun _=>zi ((Q i)).length) (fun ix=>[.int .i64 (.sym fun _=>((Q i)).getD ix.den.toNat 0)])),(.int .i64 (.sym fun _=>0))]))from by have q:=meanings9 tw tm tv (cs.getD i ck0).wl (cs.getD i ck0).wh (atS tw tm tv ((cs.getD i ck0).wl+(ws.getD ((2*zi i).tmod (zi ws.length)).toNat 0).tmod ((cs.getD i ck0).wh-(cs.getD i ck0).wl+1)) ((cs.getD i ck0).ml+(ws.getD ((2*zi i+1).tmod (zi ws.length)).toNat 0).tmod ((cs.getD i ck0).mh-(cs.getD i ck0).ml+1))) (atS tw tm tv ((cs.getD i ck0).wl+(ws.getD ((2*zi i).tmod (zi ws.length)).toNat 0).tmod ((cs.getD i ck0).wh-(cs.getD i ck0).wl+1)) ((cs.getD i ck0).ml+(ws.getD ((2*zi i+1).tmod (zi ws.length)).toNat 0).tmod ((cs.getD i ck0).mh-(cs.getD i ck0).ml+1))) hT ⟨(hS.box i hi).w0,(hS.box i hi).w,(hS.box i hi).w1⟩ (Int.le_refl _) (mem_pos (mark_in (fa:=(fun i:Nat=>(ws.getD ((2*zi i).tmod (zi ws.length)).toNat 0:Int))) (fb:=(fun i:Nat=>(ws.getD ((2*zi i+1).tmod (zi ws.length)).toNat 0:Int))) hS ha hb hi));rw [show Lib.compact (mrkN (fun n=>(tm.getD 0 0)+zi (n/wid (cs.getD i ck0).wl (cs.getD i ck0).wh)) (vAt tw tm tv (cs.getD i ck0).wl (tm.getD 0 0) (wid (cs.getD i ck0).wl (cs.getD i ck0).wh)) (atS tw tm tv ((cs.getD i ck0).wl+(ws.getD ((2*zi i).tmod (zi ws.length)).toNat 0).tmod ((cs.getD i ck0).wh-(cs.getD i ck0).wl+1)) ((cs.getD i ck0).ml+(ws.getD ((2*zi i+1).tmod (zi ws.length)).toNat 0).tmod ((cs.getD i ck0).mh-(cs.getD i ck0).ml+1))) (atS tw tm tv ((cs.getD i ck0).wl+(ws.getD ((2*zi i).tmod (zi ws.length)).toNat 0).tmod ((cs.getD i ck0).wh-(cs.getD i ck0).wl+1)) ((cs.getD i ck0).ml+(ws.getD ((2*zi i+1).tmod (zi ws.length)).toNat 0).tmod ((cs.getD i ck0).mh-(cs.getD i ck0).ml+1))) (wid (tm.getD 0 0) (tm.getD (tm.length-1) 0)*wid (cs.getD i ck0).wl (cs.getD i ck0).wh))=Q i by rw [hQ],hx i]at q;exact q)
  have hmem:=fun (i:Nat) (hi:i<cs.length)=>(show((cs.getD i ck0).ml+(ws.getD ((2*zi i+1).tmod (zi ws.length)).toNat 0).tmod ((cs.getD i ck0).mh-(cs.getD i ck0).ml+1))∈Q i from by rw [hQ];exact mem_compact (mark_in (fa:=(fun i:Nat=>(ws.getD ((2*zi i).tmod (zi ws.length)).toNat 0:Int))) (fb:=(fun i:Nat=>(ws.getD ((2*zi i+1).tmod (zi ws.length)).toNat 0:Int))) hS ha hb hi))
  have hlim:=fun (i:Nat) (hi:i<cs.length)=>(show(Q i).length≤100000 from by rw [hQ];exact Nat.le_trans (comp_len _) (Nat.le_trans (mrk_len _ _ _ _ _) (walk_lim hT ⟨(hS.box i hi).w0,(hS.box i hi).w,(hS.box i hi).w1⟩)))
  have hbx:=fun (i:Nat) (hi:i<cs.length)=>(show((cs.getD i ck0).wl≤(cs.getD i ck0).wh∧(cs.getD i ck0).ml≤(cs.getD i ck0).mh)∧(0≤(cs.getD i ck0).wl∧(cs.getD i ck0).wh≤40)∧0≤(cs.getD i ck0).ml∧(cs.getD i ck0).mh≤60 from box_in hS hi)
  have hwm:=fun (i:Nat) (hi:i<cs.length)=>(show((cs.getD i ck0).wl≤((cs.getD i ck0).wl+(ws.getD ((2*zi i).tmod (zi ws.length)).toNat 0).tmod ((cs.getD i ck0).wh-(cs.getD i ck0).wl+1))∧((cs.getD i ck0).wl+(ws.getD ((2*zi i).tmod (zi ws.length)).toNat 0).tmod ((cs.getD i ck0).wh-(cs.getD i ck0).wl+1))≤(cs.getD i ck0).wh)∧(cs.getD i ck0).ml≤((cs.getD i ck0).ml+(ws.getD ((2*zi i+1).tmod (zi ws.length)).toNat 0).tmod ((cs.getD i ck0).mh-(cs.getD i ck0).ml+1))∧((cs.getD i ck0).ml+(ws.getD ((2*zi i+1).tmod (zi ws.length)).toNat 0).tmod ((cs.getD i ck0).mh-(cs.getD i ck0).ml+1))≤(cs.getD i ck0).mh from⟨w_in (fa:=(fun i:Nat=>(ws.getD ((2*zi i).tmod (zi ws.length)).toNat 0:Int))) (hS.box i hi) (ha i),m_in (fb:=(fun i:Nat=>(ws.getD ((2*zi i+1).tmod (zi ws.length)).toNat 0:Int))) (hS.box i hi) (hb i)⟩)
  have hTr:=tru_in (fa:=(fun i:Nat=>(ws.getD ((2*zi i).tmod (zi ws.length)).toNat 0:Int))) (fb:=(fun i:Nat=>(ws.getD ((2*zi i+1).tmod (zi ws.length)).toNat 0:Int))) hS ha hb
  have c8:=table61 tw tm tv hTh
  rw [←hf]at hTr
  obtain⟨t,ht⟩:∃t,t=trL f cs.length:=⟨_,rfl⟩
  rw [←ht]at hTr
  have htl:t.length=cs.length:=by rw [ht,trL_len]
  have c10:=tenths45z tw tm tv rate cs t hS hTr
  have c12:=duty44z tw tm tv rate cs t hS hTr
  have c13:=duties22z tw tm tv rate cs hS
  have hdu:=duty_in hS hTr
  have c14:=false38D tw tm tv rate cs (saidL cs t cs.length) [] hS (by rw [said_len];omega) (said_dec cs t) (said_ok hS hTr)
  clear hf hQ hx
  refine FSpec.is fun R hR=>qW (sc:=sc3) tyok mix Try.func3 rfl Try.call3 (by kernel_rfl) (by kernel_rfl) ?_
  generalize Try.prog=P at c4 c5 c6 c11 c7 c9 c8 c10 c12 c13 c14⊢
  cbv
  repeat' (first
      |with_reducible refine hold ?_ ?_
      |with_reducible refine And.intro ?_ ?_
      | (with_reducible refine qS ?_ ?_ ?_
         try cbv)
      | (with_reducible refine qT ?_ ?_
         try cbv)
      |(with_reducible intro hcd;(try simp only [zA,zB,zC,zD,zE,zF,zG,zH,zI,zJ,zK,zL,zM,zN,zO,zP]at hcd);try cbv)
      | (refine qP ?_ (c4) ?hfit
         case hfit=>((repeat' (first|exact qB|refine qD ?_ ?_|exact qE (by rfl)|exact qF (by rfl)|exact Fit.refl _|exact qA|refine qC ?_ rfl ?_));done)
         try cbv)
      | (refine qP ?_ (c5) ?hfit
         case hfit=>((repeat' (first|exact qB|refine qD ?_ ?_|exact qE (by rfl)|exact qF (by rfl)|exact Fit.refl _|exact qA|refine qC ?_ rfl ?_));done)
         try cbv)
      |fail)
  all_goals first
    |trivial
    |((try simp only [qV]at *);(try simp only [zQ,zA,zB,zC,zD,zE,zF,zG,zH,zI,zJ,zK,zL,zM,zN,zO,zP,zR,zS]at *);first|(refine qN ?_;omega)|(simp only [Hold];omega))
    |((try simp only [qV]at *);(try simp only [zQ,zA,zB,zC,zD,zE,zF,zG,zH,zI,zJ,zK,zL,zM,zN,zO,zP,zR,zS]at *);simp only [Hold];first|omega|exact⟨by omega,by omega⟩)
    |(exfalso;(try simp only [qV]at *);(try simp only [zQ,zA,zB,zC,zD,zE,zF,zG,zH,zI,zJ,zK,zL,zM,zN,zO,zP,zR,zS]at *);omega)
    |(exfalso;rw [hthin]at hcd;cases hcd;done)
    |(simp only [Hold];decide)
    |skip
  refine⟨none,[⟨.tmp 5,3,1⟩],{i:Nat // i≤cs.length},fun x=>⟨[(1,(.sl 1 (.sym fun _=>zi ws.length) (fun ix=>[.int .u8 (.sym fun _=>ws.getD ix.den.toNat 0)]))),(2,.own 0 0),(5,.row 18),(6,(.int .i64 (.sym fun _=>zi x.1)))],[(0,.cells [(.sl 1 (.sym fun _=>zi (tw).length) (fun ix=>[.int .i64 (.sym fun _=>(tw).getD ix.den.toNat 0)])),(.sl 1 (.sym fun _=>zi (tm).length) (fun ix=>[.int .i64 (.sym fun _=>(tm).getD ix.den.toNat 0)])),(.sl 1 (.sym fun _=>zi (tv).length) (fun ix=>[(.sl 1 (.sym fun _=>zi ((tv).getD ix.den.toNat []).length) (fun jx=>[.int .i64 (.sym fun _=>((tv).getD ix.den.toNat []).getD jx.den.toNat 0)]))])),(.int .i64 (.sym fun _=>rate)),(.sl 5 (.sym fun _=>zi (cs).length) (fun ix=>[(.int .i64 (.sym fun _=>((cs).getD ix.den.toNat ck0).g)),(.int .i64 (.sym fun _=>((cs).getD ix.den.toNat ck0).wl)),(.int .i64 (.sym fun _=>((cs).getD ix.den.toNat ck0).wh)),(.int .i64 (.sym fun _=>((cs).getD ix.den.toNat ck0).ml)),(.int .i64 (.sym fun _=>((cs).getD ix.den.toNat ck0).mh))]))] 28),(18,.row 3 1 (.sym fun _=>zi ((trL f x.1)).length) (fun ix=>[.int .i64 (.sym fun _=>((trL f x.1)).getD ix.den.toNat 0)]))],100⟩,fun x=>cs.length-x.1,?_,?_⟩
  · refine⟨⟨0,by omega⟩,?_⟩
    cbv
    repeat' (first
      |with_reducible refine hold ?_ ?_
      |with_reducible refine And.intro ?_ ?_)
    all_goals first
      |trivial
      |exact qM (qE (by rfl))
      |exact qM (qF (by rfl))
      |exact qM (Fit.refl _)
      |exact qL (qK _)
      |(refine qM (qE ?_);(try simp only [qV]at *);simp only [zQ,zA,zB,zC,zD,zE,zF,zG,zH,zI,zJ,zK,zL,zM,zN,zO,zP,zR,zS]at *;omega)
      |(refine qL (qJ ?_);(repeat' (first|exact qA|exact qB|refine qC ?_ rfl ?_|refine qD ?_ ?_|exact qE (by rfl)|exact qF (by rfl)|exact Fit.refl _|exact qG _|(refine qE ?_;(try simp only [qV]at *);simp only [zQ,zA,zB,zC,zD,zE,zF,zG,zH,zI,zJ,zK,zL,zM,zN,zO,zP,zR,zS]at *;omega)));done)
      |(refine qL (ble_row ?_ ?_);(first|rfl|((try simp only [qV]at *);(try simp only [zQ,zA,zB,zC,zD,zE,zF,zG,zH,zI,zJ,zK,zL,zM,zN,zO,zP,zR,zS]at *);omega));intro ix h0 h1;exfalso;(try simp only [qV]at *);(try simp only [zQ,zA,zB,zC,zD,zE,zF,zG,zH,zI,zJ,zK,zL,zM,zN,zO,zP,zR,zS]at *);omega)
      |skip
  · rintro ⟨i, hi⟩
    cbv
    have hlen:=trL_len f i
    have htr:trL f (i+1)=trL f i++[f i]:=rfl
    obtain⟨M,hM⟩:∃M,M=trL f i:=⟨_,rfl⟩
    have hMt:i=cs.length→M=t:=fun e=>by rw [hM,e,ht]
    rw [←hM]at hlen htr⊢
    obtain⟨mm,hmm⟩:∃mm,mm=((cs.getD i ck0).ml+(ws.getD ((2*zi i+1).tmod (zi ws.length)).toNat 0).tmod ((cs.getD i ck0).mh-(cs.getD i ck0).ml+1)):=⟨_,rfl⟩
    cbv
    repeat' (first
        |with_reducible refine hold ?_ ?_
        |with_reducible refine And.intro ?_ ?_
        | (with_reducible refine qS ?_ ?_ ?_
           try cbv)
        | (with_reducible refine qT ?_ ?_
           try cbv)
        |(with_reducible intro hcd;(try simp only [zA,zB,zC,zD,zE,zF,zG,zH,zI,zJ,zK,zL,zM,zN,zO,zP]at hcd);try cbv)
        | (refine qP ?_ (c8) ?hfit
           case hfit=>((repeat' (first|exact qB|refine qD ?_ ?_|exact qE (by rfl)|exact qF (by rfl)|exact Fit.refl _|exact qA|refine qC ?_ rfl ?_));done)
           try cbv)
        | (refine qP ?_ (c11) ?hfit
           case hfit=>((repeat' (first|exact qB|refine qD ?_ ?_|exact qE (by rfl)|exact qF (by rfl)|exact Fit.refl _|exact qA|refine qC ?_ rfl ?_));done)
           try cbv)
        | ((have hi9:i<cs.length:=(by((try simp only [qV]at *);(try simp only [zQ,zA,zB,zC,zD,zE,zF,zG,zH,zI,zJ,zK,zL,zM,zN,zO,zP,zR,zS]at *);omega)))
           refine qP ?_ (c7 i hi9) ?hfit
           case hfit=>((repeat' (first|exact qB|refine qD ?_ ?_|exact qE (by rfl)|exact qF (by rfl)|exact Fit.refl _|exact qA|refine qC ?_ rfl ?_));done)
           try cbv)
        | ((have hi9:i<cs.length:=(by((try simp only [qV]at *);(try simp only [zQ,zA,zB,zC,zD,zE,zF,zG,zH,zI,zJ,zK,zL,zM,zN,zO,zP,zR,zS]at *);omega)))
           refine qP ?_ (c9 i hi9) ?hfit
           case hfit=>((repeat' (first|exact qB|refine qD ?_ ?_|exact qE (by rfl)|exact qF (by rfl)|exact Fit.refl _|exact qA|refine qC ?_ rfl ?_));done)
           try cbv)
        |fail)
    all_goals first
      |trivial
      |((try simp only [qV]at *);(try simp only [zQ,zA,zB,zC,zD,zE,zF,zG,zH,zI,zJ,zK,zL,zM,zN,zO,zP,zR,zS]at *);first|(refine qN ?_;omega)|(simp only [Hold];omega))
      |((try simp only [qV]at *);(try simp only [zQ,zA,zB,zC,zD,zE,zF,zG,zH,zI,zJ,zK,zL,zM,zN,zO,zP,zR,zS]at *);simp only [Hold];first|omega|exact⟨by omega,by omega⟩)
      |((have hb9:=hbx i (by((try simp only [qV]at *);(try simp only [zQ,zA,zB,zC,zD,zE,zF,zG,zH,zI,zJ,zK,zL,zM,zN,zO,zP,zR,zS]at *);omega)));(have hw9:=hwm i (by((try simp only [qV]at *);(try simp only [zQ,zA,zB,zC,zD,zE,zF,zG,zH,zI,zJ,zK,zL,zM,zN,zO,zP,zR,zS]at *);omega)));(try simp only [qV]at *);(try simp only [zQ,zA,zB,zC,zD,zE,zF,zG,zH,zI,zJ,zK,zL,zM,zN,zO,zP,zR,zS]at *);first|(refine qN ?_;omega)|(simp only [Hold];first|omega|exact⟨by omega,by omega⟩))
      |((have hw9:=hws ((2*zi i).tmod (zi ws.length)).toNat);(have hw8:=hws ((2*zi i+1).tmod (zi ws.length)).toNat);(have hb9:=hbx i (by((try simp only [qV]at *);(try simp only [zQ,zA,zB,zC,zD,zE,zF,zG,zH,zI,zJ,zK,zL,zM,zN,zO,zP,zR,zS]at *);omega)));(have q1:=Int.tmod_nonneg (zi ws.length) (show 0≤2*zi i by simp only [zi_den];omega));(have q2:=Int.tmod_lt_of_pos (2*zi i) (show 0<zi ws.length by simp only [zi_den];omega));(have q3:=Int.tmod_nonneg (zi ws.length) (show 0≤2*zi i+1 by simp only [zi_den];omega));(have q4:=Int.tmod_lt_of_pos (2*zi i+1) (show 0<zi ws.length by simp only [zi_den];omega));(try simp only [qV]at *);(try simp only [zQ,zA,zB,zC,zD,zE,zF,zG,zH,zI,zJ,zK,zL,zM,zN,zO,zP,zR,zS]at *);first|(refine qN ?_;omega)|(simp only [Hold];first|omega|exact⟨by omega,by omega⟩))
      |(exfalso;(try simp only [qV]at *);(try simp only [zQ,zA,zB,zC,zD,zE,zF,zG,zH,zI,zJ,zK,zL,zM,zN,zO,zP,zR,zS]at *);omega)
      |(simp only [Hold];decide)
      |skip
    · refine⟨none,[],{k:Nat // k≤(Q i).length},fun x=>⟨[(1,(.sl 1 (.sym fun _=>zi ws.length) (fun ix=>[.int .u8 (.sym fun _=>ws.getD ix.den.toNat 0)]))),(2,.own 0 0),(5,.row 18),(6,(.int .i64 (.sym fun _=>zi i))),(11,(.int .i64 (.sym fun _=>mm))),(12,(.int .i64 (.sym fun _=>f i))),(13,(.int .i64 (.sym fun _=>0))),(14,(.sl 1 (.sym fun _=>zi ((Q i)).length) (fun ix=>[.int .i64 (.sym fun _=>((Q i)).getD ix.den.toNat 0)]))),(15,(.int .i64 (.sym fun _=>0))),(16,(.bool (.sym fun _=>hasN (Q i) mm x.1))),(17,(.int .i64 (.sym fun _=>zi x.1)))],[(0,.cells [(.sl 1 (.sym fun _=>zi (tw).length) (fun ix=>[.int .i64 (.sym fun _=>(tw).getD ix.den.toNat 0)])),(.sl 1 (.sym fun _=>zi (tm).length) (fun ix=>[.int .i64 (.sym fun _=>(tm).getD ix.den.toNat 0)])),(.sl 1 (.sym fun _=>zi (tv).length) (fun ix=>[(.sl 1 (.sym fun _=>zi ((tv).getD ix.den.toNat []).length) (fun jx=>[.int .i64 (.sym fun _=>((tv).getD ix.den.toNat []).getD jx.den.toNat 0)]))])),(.int .i64 (.sym fun _=>rate)),(.sl 5 (.sym fun _=>zi (cs).length) (fun ix=>[(.int .i64 (.sym fun _=>((cs).getD ix.den.toNat ck0).g)),(.int .i64 (.sym fun _=>((cs).getD ix.den.toNat ck0).wl)),(.int .i64 (.sym fun _=>((cs).getD ix.den.toNat ck0).wh)),(.int .i64 (.sym fun _=>((cs).getD ix.den.toNat ck0).ml)),(.int .i64 (.sym fun _=>((cs).getD ix.den.toNat ck0).mh))]))] 28),(18,.row 3 1 (.sym fun _=>zi (M).length) (fun ix=>[.int .i64 (.sym fun _=>(M).getD ix.den.toNat 0)]))],200⟩,fun x=>(Q i).length-x.1,?_,?_⟩
      · refine⟨⟨0,by omega⟩,?_⟩
        cbv
        repeat' (first
          |with_reducible refine hold ?_ ?_
          |with_reducible refine And.intro ?_ ?_)
        all_goals first
          |trivial
          |exact qM (qE (by rfl))
          |exact qM (qF (by rfl))
          |exact qM (Fit.refl _)
          |exact qL (qK _)
          |(refine qM (qE ?_);(try simp only [qV]at *);simp only [zQ,zA,zB,zC,zD,zE,zF,zG,zH,zI,zJ,zK,zL,zM,zN,zO,zP,zR,zS]at *;omega)
          |(refine qL (qJ ?_);(repeat' (first|exact qA|exact qB|refine qC ?_ rfl ?_|refine qD ?_ ?_|exact qE (by rfl)|exact qF (by rfl)|exact Fit.refl _|exact qG _|(refine qE ?_;(try simp only [qV]at *);simp only [zQ,zA,zB,zC,zD,zE,zF,zG,zH,zI,zJ,zK,zL,zM,zN,zO,zP,zR,zS]at *;omega)));done)
          |skip
      · rintro ⟨k,hk⟩
        cbv
        (have hl9:=hlim i (by((try simp only [qV]at *);(try simp only [zQ,zA,zB,zC,zD,zE,zF,zG,zH,zI,zJ,zK,zL,zM,zN,zO,zP,zR,zS]at *);omega)))
        cbv
        repeat' (first
            |with_reducible refine hold ?_ ?_
            |with_reducible refine And.intro ?_ ?_
            | (with_reducible refine qS ?_ ?_ ?_
               try cbv)
            | (with_reducible refine qT ?_ ?_
               try cbv)
            |(with_reducible intro hcd;(try simp only [zA,zB,zC,zD,zE,zF,zG,zH,zI,zJ,zK,zL,zM,zN,zO,zP]at hcd);try cbv)
            | (obtain⟨L2,eL2⟩:∃y:List Int,y=M++[f i]:=⟨_,rfl⟩
               refine⟨intsE L2,?_⟩
               cbv
               refine hold (hold_rowlist (L:=M) eL2 (by(first|rfl|((try simp only [qV]at *);(try simp only [zQ,zA,zB,zC,zD,zE,zF,zG,zH,zI,zJ,zK,zL,zM,zN,zO,zP,zR,zS]at *);done)|((try simp only [qV]at *);(try simp only [zQ,zA,zB,zC,zD,zE,zF,zG,zH,zI,zJ,zK,zL,zM,zN,zO,zP,zR,zS]at *);omega))) (by rfl) (fun ix=>Fit.refl _) (fun ix h=>qC (qE (by rfl)) rfl qA) (by(try simp only [qV]at *);(try simp only [zQ,zA,zB,zC,zD,zE,zF,zG,zH,zI,zJ,zK,zL,zM,zN,zO,zP,zR,zS]at *);omega)) (Or.inl ?_)
               try cbv)
            |fail)
        all_goals first
          |trivial
          |((try simp only [qV]at *);(try simp only [zQ,zA,zB,zC,zD,zE,zF,zG,zH,zI,zJ,zK,zL,zM,zN,zO,zP,zR,zS]at *);first|(refine qN ?_;omega)|(simp only [Hold];omega))
          |((try simp only [zQ,zA,zB,zC,zD,zE,zF,zG,zH,zI,zJ,zK,zL,zM,zN,zO,zP,zR,zS]at *);refine⟨⟨k+1,by((try simp only [qV]at *);(try simp only [zQ,zA,zB,zC,zD,zE,zF,zG,zH,zI,zJ,zK,zL,zM,zN,zO,zP,zR,zS]at *);omega)⟩,by simp only [];omega,?_⟩;cbv;(repeat' (first|with_reducible refine hold ?_ ?_|with_reducible refine And.intro ?_ ?_));(all_goals first|trivial|exact qM (qE (by rfl))|exact qM (qF (by rfl))|exact qM (Fit.refl _)|exact qL (qK _)|(refine qM (qE ?_);(try simp only [qV]at *);simp only [zQ,zA,zB,zC,zD,zE,zF,zG,zH,zI,zJ,zK,zL,zM,zN,zO,zP,zR,zS]at *;omega)|(refine qM (qF ?_);first|exact hasN_t (by assumption)|exact hasN_n (by assumption))|skip))
          |((have hm9:=hmem i (by((try simp only [qV]at *);(try simp only [zQ,zA,zB,zC,zD,zE,zF,zG,zH,zI,zJ,zK,zL,zM,zN,zO,zP,zR,zS]at *);omega)));rw [←hmm]at hm9;(have ha9:=hasN_all hm9);(have hk9:k=(Q i).length:=by((try simp only [qV]at *);(try simp only [zQ,zA,zB,zC,zD,zE,zF,zG,zH,zI,zJ,zK,zL,zM,zN,zO,zP,zR,zS]at *);omega));rw [←hk9]at ha9;simp_all;done)
          |(exact(hcd rfl).elim)
          |((try simp only [zQ,zA,zB,zC,zD,zE,zF,zG,zH,zI,zJ,zK,zL,zM,zN,zO,zP,zR,zS]at *);(have hx:trL f (i+1)=L2:=htr.trans eL2.symm);refine⟨⟨i+1,by((try simp only [qV]at *);(try simp only [zQ,zA,zB,zC,zD,zE,zF,zG,zH,zI,zJ,zK,zL,zM,zN,zO,zP,zR,zS]at *);omega)⟩,by simp only [];omega,?_⟩;cbv;(repeat' (first|with_reducible refine hold ?_ ?_|with_reducible refine And.intro ?_ ?_));(all_goals first|trivial|exact qM (qE (by rfl))|exact qM (qF (by rfl))|exact qM (Fit.refl _)|exact qL (qK _)|(refine qM (qE ?_);(try simp only [qV]at *);simp only [zQ,zA,zB,zC,zD,zE,zF,zG,zH,zI,zJ,zK,zL,zM,zN,zO,zP,zR,zS]at *;omega)|(refine qL (qJ ?_);(repeat' (first|exact qA|exact qB|refine qC ?_ rfl ?_|refine qD ?_ ?_|exact qE (by rfl)|exact qF (by rfl)|exact Fit.refl _|exact qG _|(refine qE ?_;(try simp only [qV]at *);simp only [zQ,zA,zB,zC,zD,zE,zF,zG,zH,zI,zJ,zK,zL,zM,zN,zO,zP,zR,zS]at *;omega)));done)|(simp only [hx];first|exact qL (qK _)|(refine qL (ble_row ?_ ?_)<;>first|rfl|(rw [eL2,List.length_append];rfl)|((try simp only [qV]at *);(try simp only [zQ,zA,zB,zC,zD,zE,zF,zG,zH,zI,zJ,zK,zL,zM,zN,zO,zP,zR,zS]at *);(try simp only [eL2,List.length_append,List.length_cons,List.length_nil]at *);omega)|(intro ix h0 h1;exact Fit.refl _)))|skip))
          |((try simp only [qV]at *);(try simp only [zQ,zA,zB,zC,zD,zE,zF,zG,zH,zI,zJ,zK,zL,zM,zN,zO,zP,zR,zS]at *);simp only [Hold];first|omega|exact⟨by omega,by omega⟩)
          |(exfalso;(try simp only [qV]at *);(try simp only [zQ,zA,zB,zC,zD,zE,zF,zG,zH,zI,zJ,zK,zL,zM,zN,zO,zP,zR,zS]at *);omega)
          |(simp only [Hold];decide)
          |skip
        trace_state
    · have hie :i=cs.length:=by((try simp only [qV]at *);(try simp only [zQ,zA,zB,zC,zD,zE,zF,zG,zH,zI,zJ,zK,zL,zM,zN,zO,zP,zR,zS]at *);omega)
      have hMe:=hMt hie
      subst hMe
      repeat' (first
          |with_reducible refine hold ?_ ?_
          |with_reducible refine And.intro ?_ ?_
          | (with_reducible refine qS ?_ ?_ ?_
             try cbv)
          | (with_reducible refine qT ?_ ?_
             try cbv)
          |(with_reducible intro hcd;(try simp only [zA,zB,zC,zD,zE,zF,zG,zH,zI,zJ,zK,zL,zM,zN,zO,zP]at hcd);try cbv)
          | (refine qP ?_ (c8) ?hfit
             case hfit=>((repeat' (first|exact qB|refine qD ?_ ?_|exact qE (by rfl)|exact qF (by rfl)|exact Fit.refl _|exact qA|refine qC ?_ rfl ?_));done)
             try cbv)
          | (refine qP ?_ (c11) ?hfit
             case hfit=>((repeat' (first|exact qB|refine qD ?_ ?_|exact qE (by rfl)|exact qF (by rfl)|exact Fit.refl _|exact qA|refine qC ?_ rfl ?_));done)
             try cbv)
          | (refine qP ?_ (c13) ?hfit
             case hfit=>((repeat' (first|exact qB|refine qD ?_ ?_|exact qE (by rfl)|exact qF (by rfl)|exact Fit.refl _|exact qA|refine qC ?_ rfl ?_));done)
             try cbv)
          | (refine⟨some [],(109:Nat),?_⟩
             cbv
             refine setl_k ?_ (c10) (by cbv;(repeat' (first|exact qB|refine qD ?_ ?_|exact qE (by rfl)|exact qF (by rfl)|exact Fit.refl _|exact qA|refine qC ?_ rfl ?_)))
             try cbv)
          | (refine⟨some [],(111:Nat),?_⟩
             cbv
             refine setl_k ?_ (c12) (by cbv;(repeat' (first|exact qB|refine qD ?_ ?_|exact qE (by rfl)|exact qF (by rfl)|exact Fit.refl _|exact qA|refine qC ?_ rfl ?_)))
             try cbv)
          | ((first|(refine qR ?_ (c12) rfl (by cbv;(repeat' (first|exact qB|refine qD ?_ ?_|exact qE (by rfl)|exact qF (by rfl)|exact Fit.refl _|exact qA|refine qC ?_ rfl ?_))))|(refine⟨none,?_⟩;refine qR ?_ (c12) rfl (by cbv;(repeat' (first|exact qB|refine qD ?_ ?_|exact qE (by rfl)|exact qF (by rfl)|exact Fit.refl _|exact qA|refine qC ?_ rfl ?_)))))
             try cbv)
          |fail)
      all_goals first
        |trivial
        |((try simp only [qV]at *);(try simp only [zQ,zA,zB,zC,zD,zE,zF,zG,zH,zI,zJ,zK,zL,zM,zN,zO,zP,zR,zS]at *);first|(refine qN ?_;omega)|(simp only [Hold];omega))
        |((try simp only [qV]at *);(try simp only [zQ,zA,zB,zC,zD,zE,zF,zG,zH,zI,zJ,zK,zL,zM,zN,zO,zP,zR,zS]at *);simp only [Hold];first|omega|exact⟨by omega,by omega⟩)
        |(exfalso;(try simp only [qV]at *);(try simp only [zQ,zA,zB,zC,zD,zE,zF,zG,zH,zI,zJ,zK,zL,zM,zN,zO,zP,zR,zS]at *);omega)
        |(exact(hcd rfl).elim)
        |(simp only [Hold];decide)
        |skip
      refine⟨none,[⟨.tmp 24,56,2⟩],{j:Nat // j≤cs.length},fun x=>⟨[(2,.own 0 0),(18,(.sl 1 (.sym fun _=>zi cs.length) (fun ix=>[(.int .i64 (.sym fun _=>tenthsP (cs.getD ix.den.toNat ck0).g (M.getD ix.den.toNat 0)))]))),(24,.row 167),(25,(.int .i64 (.sym fun _=>zi x.1)))],[(0,.cells [(.sl 1 (.sym fun _=>zi (tw).length) (fun ix=>[.int .i64 (.sym fun _=>(tw).getD ix.den.toNat 0)])),(.sl 1 (.sym fun _=>zi (tm).length) (fun ix=>[.int .i64 (.sym fun _=>(tm).getD ix.den.toNat 0)])),(.sl 1 (.sym fun _=>zi (tv).length) (fun ix=>[(.sl 1 (.sym fun _=>zi ((tv).getD ix.den.toNat []).length) (fun jx=>[.int .i64 (.sym fun _=>((tv).getD ix.den.toNat []).getD jx.den.toNat 0)]))])),(.int .i64 (.sym fun _=>rate)),(.sl 5 (.sym fun _=>zi (cs).length) (fun ix=>[(.int .i64 (.sym fun _=>((cs).getD ix.den.toNat ck0).g)),(.int .i64 (.sym fun _=>((cs).getD ix.den.toNat ck0).wl)),(.int .i64 (.sym fun _=>((cs).getD ix.den.toNat ck0).wh)),(.int .i64 (.sym fun _=>((cs).getD ix.den.toNat ck0).ml)),(.int .i64 (.sym fun _=>((cs).getD ix.den.toNat ck0).mh))]))] 28),(167,.row 56 2 (.sym fun _=>zi x.1) (fun ix=>[(.int .i64 (.sym fun _=>zi ix.den.toNat)),(.int .i64 (.sym fun _=>tenthsP (cs.getD ix.den.toNat ck0).g (M.getD ix.den.toNat 0)))]))],300⟩,fun x=>cs.length-x.1,?_,?_⟩
      · refine⟨⟨0,by omega⟩,?_⟩
        cbv
        repeat' (first
          |with_reducible refine hold ?_ ?_
          |with_reducible refine And.intro ?_ ?_)
        all_goals first
          |trivial
          |exact qM (qE (by rfl))
          |exact qM (qF (by rfl))
          |exact qM (Fit.refl _)
          |exact qL (qK _)
          |(refine qM (qE ?_);(try simp only [qV]at *);simp only [zQ,zA,zB,zC,zD,zE,zF,zG,zH,zI,zJ,zK,zL,zM,zN,zO,zP,zR,zS]at *;omega)
          |(refine qL (qJ ?_);(repeat' (first|exact qA|exact qB|refine qC ?_ rfl ?_|refine qD ?_ ?_|exact qE (by rfl)|exact qF (by rfl)|exact Fit.refl _|exact qG _|(refine qE ?_;(try simp only [qV]at *);simp only [zQ,zA,zB,zC,zD,zE,zF,zG,zH,zI,zJ,zK,zL,zM,zN,zO,zP,zR,zS]at *;omega)));done)
          |(refine qL (ble_row ?_ ?_);(first|rfl|((try simp only [qV]at *);(try simp only [zQ,zA,zB,zC,zD,zE,zF,zG,zH,zI,zJ,zK,zL,zM,zN,zO,zP,zR,zS]at *);omega));intro ix h0 h1;first|exact Fit.refl _|(exfalso;(try simp only [qV]at *);(try simp only [zQ,zA,zB,zC,zD,zE,zF,zG,zH,zI,zJ,zK,zL,zM,zN,zO,zP,zR,zS]at *);omega))
          |skip
      · rintro ⟨j,hj⟩
        cbv
        repeat' (first
            |with_reducible refine hold ?_ ?_
            |with_reducible refine And.intro ?_ ?_
            | (with_reducible refine qS ?_ ?_ ?_
               try cbv)
            | (with_reducible refine qT ?_ ?_
               try cbv)
            |(with_reducible intro hcd;(try simp only [zA,zB,zC,zD,zE,zF,zG,zH,zI,zJ,zK,zL,zM,zN,zO,zP]at hcd);try cbv)
            | (refine qP ?_ (c6) ?hfit
               case hfit=>((repeat' (first|exact qB|refine qD ?_ ?_|exact qE (by rfl)|exact qF (by rfl)|exact Fit.refl _|exact qA|refine qC ?_ rfl ?_));done)
               try cbv)
            | (refine qP ?_ (c11) ?hfit
               case hfit=>((repeat' (first|exact qB|refine qD ?_ ?_|exact qE (by rfl)|exact qF (by rfl)|exact Fit.refl _|exact qA|refine qC ?_ rfl ?_));done)
               try cbv)
            | (refine⟨(fun ix=>[(.int .i64 (.sym fun _=>zi ix.den.toNat)),(.int .i64 (.sym fun _=>tenthsP (cs.getD ix.den.toNat ck0).g (M.getD ix.den.toNat 0)))]:IX→List SV),?_⟩
               cbv
               refine hold (hold_rowapp (by intro ix jx h0 h1 h2;simp only [h2];exact Fit.refl _) (by intro ix jx h0 h1 h2;(have h3:jx.den.toNat=j:=by((try simp only [qV]at *);(try simp only [zQ,zA,zB,zC,zD,zE,zF,zG,zH,zI,zJ,zK,zL,zM,zN,zO,zP,zR,zS]at *);omega));simp only [h3];(first|exact Fit.refl _|(repeat' (first|exact qA|exact Fit.refl _|exact qE (by rfl)|refine qC ?_ rfl ?_)))) (by(try simp only [qV]at *);(try simp only [zQ,zA,zB,zC,zD,zE,zF,zG,zH,zI,zJ,zK,zL,zM,zN,zO,zP,zR,zS]at *);omega)) (Or.inl ?_)
               try cbv)
            | (refine⟨some [],(167:Nat),?_⟩
               cbv
               refine setl_k ?_ (c14) (by cbv;(repeat' (first|exact Fit.refl _|exact said_fit (by(try simp only [qV]at *);(try simp only [zQ,zA,zB,zC,zD,zE,zF,zG,zH,zI,zJ,zK,zL,zM,zN,zO,zP,zR,zS]at *);omega)|exact qB|refine qD ?_ ?_|exact qE (by rfl)|exact qF (by rfl)|exact Fit.refl _|exact qA|refine qC ?_ rfl ?_)))
               try cbv)
            |fail)
        all_goals first
          |trivial
          |((try simp only [qV]at *);(try simp only [zQ,zA,zB,zC,zD,zE,zF,zG,zH,zI,zJ,zK,zL,zM,zN,zO,zP,zR,zS]at *);first|(refine qN ?_;omega)|(simp only [Hold];omega))
          |(subst hR;(repeat' (first|exact qA|exact qB|refine qC ?_ rfl ?_|refine qD ?_ ?_|exact qE (by rfl)|exact qF (by rfl)|exact Fit.refl _|exact qG _|(refine qE ?_;(try simp only [qV]at *);simp only [zQ,zA,zB,zC,zD,zE,zF,zG,zH,zI,zJ,zK,zL,zM,zN,zO,zP,zR,zS]at *;omega)));done)
          |((try simp only [qV]at *);(try simp only [zQ,zA,zB,zC,zD,zE,zF,zG,zH,zI,zJ,zK,zL,zM,zN,zO,zP,zR,zS]at *);simp only [Hold];first|omega|exact⟨by omega,by omega⟩)
          |(exfalso;(try simp only [qV]at *);(try simp only [zQ,zA,zB,zC,zD,zE,zF,zG,zH,zI,zJ,zK,zL,zM,zN,zO,zP,zR,zS]at *);omega)
          |(exact(hcd rfl).elim)
          |((try simp only [zQ,zA,zB,zC,zD,zE,zF,zG,zH,zI,zJ,zK,zL,zM,zN,zO,zP,zR,zS]at *);refine⟨⟨j+1,by((try simp only [qV]at *);(try simp only [zQ,zA,zB,zC,zD,zE,zF,zG,zH,zI,zJ,zK,zL,zM,zN,zO,zP,zR,zS]at *);omega)⟩,by simp only [];omega,?_⟩;cbv;(repeat' (first|with_reducible refine hold ?_ ?_|with_reducible refine And.intro ?_ ?_));(all_goals first|trivial|exact qM (qE (by rfl))|exact qM (qF (by rfl))|exact qM (Fit.refl _)|exact qL (qK _)|(refine qM (qE ?_);(try simp only [qV]at *);simp only [zQ,zA,zB,zC,zD,zE,zF,zG,zH,zI,zJ,zK,zL,zM,zN,zO,zP,zR,zS]at *;omega)|(refine qL (qJ ?_);(repeat' (first|exact qA|exact qB|refine qC ?_ rfl ?_|refine qD ?_ ?_|exact qE (by rfl)|exact qF (by rfl)|exact Fit.refl _|exact qG _|(refine qE ?_;(try simp only [qV]at *);simp only [zQ,zA,zB,zC,zD,zE,zF,zG,zH,zI,zJ,zK,zL,zM,zN,zO,zP,zR,zS]at *;omega)));done)|(refine qL (ble_row ?_ ?_);(first|rfl|((try simp only [qV]at *);(try simp only [zQ,zA,zB,zC,zD,zE,zF,zG,zH,zI,zJ,zK,zL,zM,zN,zO,zP,zR,zS]at *);omega));intro ix h0 h1;first|exact Fit.refl _|(exfalso;(try simp only [qV]at *);(try simp only [zQ,zA,zB,zC,zD,zE,zF,zG,zH,zI,zJ,zK,zL,zM,zN,zO,zP,zR,zS]at *);omega))|skip))
          |(simp only [Hold];decide)
          |skip
theorem law3 (tw tm:List Int)(tv:List (List Int))(rate:Int)(cs:List Csk)(ws:List Int)(hws:∀i,0≤ws.getD i 0∧ws.getD i 0≤255)(hwl:ws.length≤9223372036854775807):FSpec Try.prog 3 [(.agg [(.sl 1 (.sym fun _=>zi (tw).length) (fun ix=>[.int .i64 (.sym fun _=>(tw).getD ix.den.toNat 0)])),(.sl 1 (.sym fun _=>zi (tm).length) (fun ix=>[.int .i64 (.sym fun _=>(tm).getD ix.den.toNat 0)])),(.sl 1 (.sym fun _=>zi (tv).length) (fun ix=>[(.sl 1 (.sym fun _=>zi ((tv).getD ix.den.toNat []).length) (fun jx=>[.int .i64 (.sym fun _=>((tv).getD ix.den.toNat []).getD jx.den.toNat 0)]))])),(.int .i64 (.sym fun _=>rate)),(.sl 5 (.sym fun _=>zi (cs).length) (fun ix=>[(.int .i64 (.sym fun _=>((cs).getD ix.den.toNat ck0).g)),(.int .i64 (.sym fun _=>((cs).getD ix.den.toNat ck0).wl)),(.int .i64 (.sym fun _=>((cs).getD ix.den.toNat ck0).wh)),(.int .i64 (.sym fun _=>((cs).getD ix.den.toNat ck0).ml)),(.int .i64 (.sym fun _=>((cs).getD ix.den.toNat ck0).mh))]))]),(.sl 1 (.sym fun _=>zi ws.length) (fun ix=>[.int .u8 (.sym fun _=>ws.getD ix.den.toNat 0)]))] [] (fun r _=>r = .bool (.lit true)):=by
  by_cases h:thinS tw tm tv cs=true∧faultS tw tm tv rate cs=0∧0<cs.length
  · rcases Nat.eq_zero_or_pos ws.length with h0|h0
    · exact law3_0 tw tm tv rate cs ws hws hwl ⟨h.1,faultS_iff.1 h.2.1,h.2.2⟩ h0
    · exact law3_1 tw tm tv rate cs ws hws hwl ⟨h.1,faultS_iff.1 h.2.1,h.2.2⟩ h0
  · exact law3t tw tm tv rate cs ws h
end Go.Proofs.Ytdacdjdccibaiaa
