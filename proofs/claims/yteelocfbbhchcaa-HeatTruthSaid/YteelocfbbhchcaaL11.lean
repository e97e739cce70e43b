/- HeatTruth: what the law computes. No condition. -/
import Derived.Test.YteelocfbbhchcaaT6
set_option linter.unusedVariables false
set_option linter.unusedSimpArgs false
set_option linter.deprecated false
set_option linter.all false

namespace Go.Proofs.Yteelocfbbhchcaa
open Go Go.Eng Go.Proofs
set_option maxRecDepth 10000
def pickP (lo hi w:Int):Int:=lo+w.tmod (hi-lo+1)
theorem word_bd {ws:List Int}(h:∀i:Nat,0≤ws.getD i 0∧ws.getD i 0≤255)(k:Int):0≤wordP ws k∧wordP ws k≤255:=by
  unfold wordP
  split
  · decide
  · exact h _
theorem pick_bd {lo hi w:Int}(h:lo≤hi)(hw:0≤w):lo≤pickP lo hi w∧pickP lo hi w≤hi:=by
  unfold pickP
  have a:=Int.tmod_nonneg (hi-lo+1) hw
  have b:=Int.tmod_lt_of_pos w (show 0<hi-lo+1 by omega)
  omega
def pkM (c:Clr)(ws:List Int):Int:=pickP c.rl c.rh (wordP ws 0)
def pkSv (c:Clr)(ws:List Int)(v:Nat):Int:=pickP (c.vs.getD v v0).sl (c.vs.getD v v0).sh (wordP ws (2*zi v+1))
def pkRv (c:Clr)(ws:List Int)(v:Nat):Int:=pickP (c.vs.getD v v0).rl (c.vs.getD v v0).rh (wordP ws (2*zi v+2))
def mkL (f:Nat→Int):Nat→List Int
  |0=>[]
  |n+1=>mkL f n++[f n]
theorem tab_len (f:Nat→Int)(n:Nat):(mkL f n).length=n:=by
  induction n with
  |zero=>rfl
  |succ n ih=>simp only [mkL,List.length_append,ih,List.length_cons,List.length_nil]
theorem tab_at (f:Nat→Int) {n i:Nat}(h:i<n):(mkL f n).getD i 0=f i:=by
  induction n with
  |zero=>omega
  | succ n ih=>
    simp only [mkL,List.getD_eq_getElem?_getD]
    by_cases e:i<n
    · rw [List.getElem?_append_left (by rw [tab_len];exact e),←List.getD_eq_getElem?_getD,ih e]
    · have e:i=n:=by omega
      subst e
      rw [List.getElem?_append_right (by rw [tab_len];exact Nat.le_refl _),tab_len]
      simp
def pkS (c:Clr)(ws:List Int):List Int:=mkL (pkSv c ws) c.vs.length
def pkR (c:Clr)(ws:List Int):List Int:=mkL (pkRv c ws) c.vs.length
theorem pk_truth {c:Clr}(hc:COk c) {ws:List Int}(h:∀i:Nat,0≤ws.getD i 0∧ws.getD i 0≤255):TruthC c (pkM c ws) (pkS c ws) (pkR c ws):=by
  have a:=pick_bd hc.ok.r1 (word_bd h 0).1
  refine⟨a.1,a.2,tab_len _ _,tab_len _ _,fun i hi=> ?_⟩
  have vo:=hc.ok.v i hi
  unfold vatOk at vo
  rw [pkS,pkR,tab_at _ hi,tab_at _ hi]
  exact⟨pick_bd vo.2.1 (word_bd h _).1,pick_bd vo.2.2.2.2.2.1 (word_bd h _).1⟩
def readyB (c:Clr):Bool:=thinB c 0&&decide (faultC c=0)
theorem ready_t {c:Clr}:readyB c=true↔ThinC c 0∧COk c:=by
  unfold readyB
  rw [Bool.and_eq_true,decide_eq_true_eq,thin_iff,faultC_iff]
end Go.Proofs.Yteelocfbbhchcaa

namespace Go.Proofs.Yteelocfbbhchcaa
open Go Go.Eng Go.Proofs
set_option maxRecDepth 10000
theorem vatA_ok {c:Clr}(hc:COk c) {v:Int}(h0:0≤v)(h1:v<c.vs.length):vatOk (vatA c v):=hc.ok.v v.toNat (by omega)
theorem vatA_nat (c:Clr)(v:Nat):vatA c (v:Int)=c.vs.getD v v0:=by unfold vatA;rw [Int.toNat_natCast]
theorem ways_fit {c:Clr} {l:List LookT} {o:List Int} {rm v:Int}(hv:vatOk (vatA c v)) {w:Int×Int}(h:w∈waysC c l v rm o):FitV c l o rm v w.1 w.2:=by
  have hv':=hv
  unfold vatOk at hv
  have:=mem_ways (by omega) h
  exact⟨this.2.1,this.2.2.1,this.2.2.2.1,by omega,this.1⟩
theorem fit_ways {c:Clr} {l:List LookT} {o:List Int} {rm v st rt:Int}(h:FitV c l o rm v st rt):0<(waysC c l v rm o).length:=some_fit h.fit h.s0 h.s1 h.r0 h.r1
theorem room_iff {c:Clr}(hc:COk c) {l:List LookT} {o:List Int} {rm:Int}:roomB c l o rm=true↔∀v:Nat,v<c.vs.length→∃st rt,FitV c l o rm v st rt:=by
  unfold roomB
  rw [allB_t]
  constructor
  · intro h v hv
    obtain⟨w,hw⟩:=some_mem (show 0<(waysC c l (v:Int) rm o).length from of_decide_eq_true (h v hv))
    exact⟨w.1,w.2,ways_fit (vatA_ok hc (by omega) (by omega)) hw⟩
  · intro h v hv
    obtain⟨st,rt,hf⟩:=h v hv
    exact decide_eq_true (fit_ways hf)
theorem lo_le {c:Clr} {l:List LookT} {rm v st rt:Int} {rs:List Int}(hv:vatOk (vatA c v))(hr:rm∈rs)(h:FitV c l [] rm v st rt)(k:Nat):loW c (wysL c l v rs) k≤atW c.hr rm st rt k:=by
  obtain⟨s0,s1,r0,r1,hf⟩:=h
  unfold vatOk at hv
  obtain⟨a,ha,hle⟩:=ways_lo (p:=fitW c l v rm []) (d:=difW c rm) (n:=((vatA c v).rh-(vatA c v).rl+1).toNat) s0 s1 r0 (by omega) hf
  have:=mnL_le (wyA c k) (mem_wysL.2 ⟨rm,hr,(a,rt),ha,rfl⟩)
  have h2:=at_mono (hr:=c.hr) (rt:=rt) (by omega) (by omega) (Int.le_refl rm) hle k
  exact Int.le_trans this h2
theorem hi_ge {c:Clr} {l:List LookT} {rm v st rt:Int} {rs:List Int}(hv:vatOk (vatA c v))(hr:rm∈rs)(h:FitV c l [] rm v st rt) {k:Nat}(hk:k≤8):atW c.hr rm st rt k≤hiW c (wysL c l v rs) k:=by
  obtain⟨s0,s1,r0,r1,hf⟩:=h
  unfold vatOk at hv
  obtain⟨a,b,ha,hle,hd⟩:=ways_hi (p:=fitW c l v rm []) (d:=difW c rm) (n:=((vatA c v).rh-(vatA c v).rl+1).toNat) s0 s1 r0 (by omega) hf
  have h1:=mxL_ge (wyA c k) (mem_wysL.2 ⟨rm,hr,(a,rt),ha,rfl⟩)
  have h2:=at_mono (hr:=c.hr) (rt:=rt) (by omega) (by omega) (Int.le_refl rm) hle k
  have h3:atW c.hr rm b rt k=atW c.hr rm a rt k:=by
    rcases hd with rfl|hd
    · rfl
    · exact(difW_no hd k hk).symm
  rw [h3]at h2
  exact Int.le_trans h2 h1
theorem hi_is {c:Clr} {l:List LookT} {v:Int} {rs:List Int}(hv:vatOk (vatA c v))(hne:wysL c l v rs≠[])(k:Nat):∃rm st rt,rm∈rs∧FitV c l [] rm v st rt∧hiW c (wysL c l v rs) k=atW c.hr rm st rt k:=by
  obtain⟨x,hx,e⟩:=mxL_is (wyA c k) hne
  obtain⟨rm,hm,w,hw,rfl⟩:=mem_wysL.1 hx
  exact⟨rm,w.1,w.2,hm,ways_fit hv hw,e⟩
theorem ne_of_empty {α:Type} {L:List α}(h:L.isEmpty=false):L≠[]:=fun e=>by rw [e]at h;cases h
theorem vy_ne {c:Clr} {l:List LookT}(h:askE c l=0) {v:Nat}(hv:v<c.vs.length):vyL c l v≠[]:=ne_of_empty (vyL_ne h hv)
theorem oy_ne {c:Clr} {l:List LookT} {rm:Int}(h:roomB c l [] rm=true) {v:Nat}(hv:v<c.vs.length):oyL c l rm v≠[]:=ne_of_empty (oyL_ne h hv)
theorem hi_room {c:Clr} {l:List LookT}(hc:COk c)(h:askE c l=0) {v:Nat}(hv:v<c.vs.length) {k:Nat}(hk:k≤8) {b:Int}:
    hiW c (vyL c l v) k≤b↔∀rm,rm∈roomsL c l []→hiW c (oyL c l rm v) k≤b:=by
  have vo:=vatA_ok hc (v:=(v:Int)) (by omega) (by omega)
  constructor
  · intro hb rm hm
    obtain⟨rm',st,rt,hm',hf,e⟩:=hi_is vo (oy_ne ((mem_rooms hc.ok.r1).1 hm).2.2 hv) k
    rw [List.mem_singleton.1 hm']at hf e
    have:=hi_ge vo hm hf hk
    unfold vyL at hb
    unfold oyL
    omega
  · intro hb
    obtain⟨rm,st,rt,hm,hf,e⟩:=hi_is vo (vy_ne h hv) k
    have h1:=hb rm hm
    have h2:=hi_ge vo (rs:=[rm]) (List.mem_singleton.2 rfl) hf hk
    unfold oyL at h1
    unfold vyL
    omega
def hiV (c:Clr)(l:List LookT)(lim:Int)(k v:Nat):Bool:=decide (hiW c (vyL c l v) k≤lim)
theorem sure_is {c:Clr} {l:List LookT}(hc:COk c)(h:askE c l=0) {k:Nat}(hk:k≤8)(lim:Int):sureB c l lim k=allB (hiV c l lim k) c.vs.length:=by
  apply Bool.eq_iff_iff.2
  unfold sureB
  rw [allB_t,allB_t]
  constructor
  · intro q v hv
    refine decide_eq_true ((hi_room hc h hv hk).2 fun rm hm=> ?_)
    obtain⟨i,hi,e⟩:=getD_mem hm
    have:=q i hi
    unfold coolT at this
    rw [allB_t,e]at this
    exact of_decide_eq_true (this v hv)
  · intro q i hi
    unfold coolT
    rw [allB_t]
    intro v hv
    exact decide_eq_true ((hi_room hc h hv hk).1 (of_decide_eq_true (q v hv)) _ (mem_getD hi))
theorem may_iff {c:Clr} {l:List LookT} {k:Nat} {lim:Int}:mayB c l lim k=true↔∃rm,rm∈roomsL c l []∧∀v,v<c.vs.length→loW c (oyL c l rm v) k≤lim:=by
  unfold mayB
  rw [decide_eq_true_eq,fidx_iff]
  constructor
  · rintro⟨j,_,hj,q⟩
    refine⟨_,mem_getD (L:=roomsL c l []) (k:=j) (by omega),fun v hv=> ?_⟩
    simp only [Bool.not_eq_false']at q
    unfold coolM at q
    rw [allB_t]at q
    exact of_decide_eq_true (q v hv)
  · rintro⟨rm,hm,q⟩
    obtain⟨i,hi,e⟩:=getD_mem hm
    refine⟨i,by omega,by omega,?_⟩
    simp only [Bool.not_eq_false',e]
    unfold coolM
    rw [allB_t]
    exact fun v hv=>decide_eq_true (q v hv)
end Go.Proofs.Yteelocfbbhchcaa

namespace Go.Proofs.Yteelocfbbhchcaa
open Go Go.Eng Go.Proofs
set_option maxRecDepth 10000
theorem word86 (ws:List Int)(k:Int)(hw:∀i:Nat,0≤ws.getD i 0∧ws.getD i 0≤255)(hk:0≤k):FSpec Try.prog 86 [(.sl 1 (.sym fun _=>zi (ws).length) (fun ix=>[.int .u8 (.sym fun _=>(ws).getD ix.den.toNat 0)])),(.int .i64 (.sym fun _=>k))] [] (fun r _=>r=(.int .i64 (.sym fun _=>wordP ws k))):=by
  refine FSpec.is fun R hR=>qX (sc:=sc86) tyok mix Try.func86 rfl Try.call86 (by kernel_rfl) (by kernel_rfl) ?_
  generalize Try.prog=P
  cbv
  repeat' (first
      |with_reducible refine hold ?_ ?_
      |with_reducible refine And.intro ?_ ?_
      | (with_reducible refine qU ?_ ?_
         try cbv)
      |(with_reducible intro hcd;(try simp only [zA,zB,zC,zD,zE,zF,zG,zH,zI,zJ,zK,zL,zM,zN,zO,zP]at hcd);try cbv)
      |fail)
  all_goals first
    |trivial
    |(subst hR;(refine qE ?_;unfold wordP;rw [if_pos (by(try simp only [qW]at *);(try simp only [zQ,zA,zB,zC,zD,zE,zF,zG,zH,zI,zJ,zK,zL,zM,zN,zO,zP,zR,zS]at *);omega)];rfl);done)
    |(subst hR;(refine qE ?_;unfold wordP;rw [if_neg (by(try simp only [qW]at *);(try simp only [zQ,zA,zB,zC,zD,zE,zF,zG,zH,zI,zJ,zK,zL,zM,zN,zO,zP,zR,zS]at *);omega)];rfl);done)
    |((have hl0:0<zi ws.length:=(by((try simp only [qW]at *);(try simp only [zQ,zA,zB,zC,zD,zE,zF,zG,zH,zI,zJ,zK,zL,zM,zN,zO,zP,zR,zS]at *);omega)));(have hr0:=Int.tmod_nonneg (zi ws.length) hk);(have hr1:=Int.tmod_lt_of_pos k hl0);(try simp only [qW]at *);(try simp only [zQ,zA,zB,zC,zD,zE,zF,zG,zH,zI,zJ,zK,zL,zM,zN,zO,zP,zR,zS]at *);simp only [Hold];first|omega|exact⟨by omega,by omega⟩)
    |(simp only [Hold];(have hb:=hw (k.tmod (zi ws.length)).toNat);(try simp only [qW]at *);(try simp only [zQ,zA,zB,zC,zD,zE,zF,zG,zH,zI,zJ,zK,zL,zM,zN,zO,zP,zR,zS]at *);first|(refine qO ?_;omega)|omega)
    |skip
theorem pick85 (lo hi w:Int)(h:0≤lo∧lo≤hi∧hi≤1000∧0≤w∧w≤255):FSpec Try.prog 85 [(.agg [(.int .i64 (.sym fun _=>lo)),(.int .i64 (.sym fun _=>hi))]),(.int .i64 (.sym fun _=>w))] [] (fun r _=>r=(.int .i64 (.sym fun _=>pickP lo hi w))):=by
  refine FSpec.is fun R hR=>qX (sc:=sc85) tyok mix Try.func85 rfl Try.call85 (by kernel_rfl) (by kernel_rfl) ?_
  generalize Try.prog=P
  cbv
  repeat' (first
      |with_reducible refine hold ?_ ?_
      | (with_reducible refine qU ?_ ?_
         try cbv)
      |fail)
  all_goals first
    |((try simp only [qW]at *);(try simp only [zQ,zA,zB,zC,zD,zE,zF,zG,zH,zI,zJ,zK,zL,zM,zN,zO,zP,zR,zS]at *);first|(refine qO ?_;omega)|(simp only [Hold];omega))
    |(subst hR;(exact qE rfl);done)
    |((have hr0:=Int.tmod_nonneg (hi-lo+1) h.2.2.2.1);(have hr1:=Int.tmod_lt_of_pos w (show 0<hi-lo+1 by omega));(try simp only [qW]at *);(try simp only [zQ,zA,zB,zC,zD,zE,zF,zG,zH,zI,zJ,zK,zL,zM,zN,zO,zP,zR,zS]at *);simp only [Hold];first|(refine qO ?_;omega)|omega)
    |skip
theorem ready42 (c:Clr):FSpec Try.prog 42 [(clrS c)] [] (fun r _=>r=(.bool (.sym fun _=>readyB c))):=by
  have c14:=thin14 c []
  have c47:=fault47 c
  refine FSpec.is fun R hR=>qX (sc:=sc42) tyok mix Try.func42 rfl Try.call42 (by kernel_rfl) (by kernel_rfl) ?_
  generalize Try.prog=P at c14 c47⊢
  cbv
  repeat' (first
      |with_reducible refine And.intro ?_ ?_
      |(with_reducible intro hcd;(try simp only [zA,zB,zC,zD,zE,zF,zG,zH,zI,zJ,zK,zL,zM,zN,zO,zP]at hcd);try cbv)
      | (refine qQ ?_ (c14) ?hfit
         case hfit=>((refine qD (Fit.refl _) (qD (qP rfl) qB));done)
         try cbv)
      | (refine qQ ?_ (c47) ?hfit
         case hfit=>((repeat' (first|exact qB|refine qD ?_ ?_|exact qE (by rfl)|exact qG (by rfl)|exact Fit.refl _|exact qA|refine qC ?_ rfl ?_));done)
         try cbv)
      |fail)
  all_goals first
    |(subst hR;(refine qG ?_;(try simp only [qW]at *);(try simp only [zQ,zA,zB,zC,zD,zE,zF,zG,zH,zI,zJ,zK,zL,zM,zN,zO,zP,zR,zS]at *);unfold readyB;(try simp only [List.length_nil]at *);simp_all;done);done)
    |skip
set_option maxHeartbeats 1000000 in
theorem picked43 (c:Clr)(ws:List Int)(hw:∀i:Nat,0≤ws.getD i 0∧ws.getD i 0≤255)(hc:COk c):FSpec Try.prog 43 [(clrS c),(.sl 1 (.sym fun _=>zi (ws).length) (fun ix=>[.int .u8 (.sym fun _=>(ws).getD ix.den.toNat 0)]))] [] (fun r _=>r=(.agg [(.int .i64 (.sym fun _=>pkM c ws)),(.sl 1 (.sym fun _=>zi ((pkS c ws)).length) (fun ix=>[.int .i64 (.sym fun _=>((pkS c ws)).getD ix.den.toNat 0)])),(.sl 1 (.sym fun _=>zi ((pkR c ws)).length) (fun ix=>[.int .i64 (.sym fun _=>((pkR c ws)).getD ix.den.toNat 0)]))])):=by
  have c86a:=word86 ws 0 hw (by decide)
  have c85a:=pick85 c.rl c.rh (wordP ws 0) (by have a:=hc.ok.r0;have b:=hc.ok.r1;have d:=hc.ok.r2;have e:=word_bd hw 0;omega)
  have c86s:=fun (i:Nat)=>word86 ws (2*zi i+1) hw (by simp only [zi_den];omega)
  have c86r:=fun (i:Nat)=>word86 ws (2*zi i+2) hw (by simp only [zi_den];omega)
  have c85s:=fun (i:Nat) (hi:i<c.vs.length)=>(show FSpec Try.prog 85 [(.agg [(.int .i64 (.sym fun _=>(c.vs.getD i v0).sl)),(.int .i64 (.sym fun _=>(c.vs.getD i v0).sh))]),(.int .i64 (.sym fun _=>wordP ws (2*zi i+1)))] [] (fun r _=>r=(.int .i64 (.sym fun _=>pkSv c ws i)))from pick85 (c.vs.getD i v0).sl (c.vs.getD i v0).sh (wordP ws (2*zi i+1)) (have a:=hc.ok.v i hi;have b:=word_bd hw (2*zi i+1);by unfold vatOk at a;omega))
  have c85r:=fun (i:Nat) (hi:i<c.vs.length)=>(show FSpec Try.prog 85 [(.agg [(.int .i64 (.sym fun _=>(c.vs.getD i v0).rl)),(.int .i64 (.sym fun _=>(c.vs.getD i v0).rh))]),(.int .i64 (.sym fun _=>wordP ws (2*zi i+2)))] [] (fun r _=>r=(.int .i64 (.sym fun _=>pkRv c ws i)))from pick85 (c.vs.getD i v0).rl (c.vs.getD i v0).rh (wordP ws (2*zi i+2)) (have a:=hc.ok.v i hi;have b:=word_bd hw (2*zi i+2);by unfold vatOk at a;omega))
  refine FSpec.is fun R hR=>qX (sc:=sc43) tyok mix Try.func43 rfl Try.call43 (by kernel_rfl) (by kernel_rfl) ?_
  generalize Try.prog=P at c86a c85a c86s c86r c85s c85r⊢
  cbv
  have h3:=hc.few.v
  repeat' (first
      | (refine qQ ?_ (c86a) ?hfit
         case hfit=>((repeat' (first|exact qB|refine qD ?_ ?_|exact qE (by rfl)|exact qG (by rfl)|exact Fit.refl _|exact qA|refine qC ?_ rfl ?_));done)
         try cbv)
      | (refine qQ ?_ (c85a) ?hfit
         case hfit=>((repeat' (first|exact qB|refine qD ?_ ?_|exact qE (by rfl)|exact qG (by rfl)|exact Fit.refl _|exact qA|refine qC ?_ rfl ?_));done)
         try cbv)
      |fail)
  all_goals first
    |skip
  refine⟨none,[⟨.cell 8 1,3,1⟩,⟨.cell 8 2,3,1⟩],{i:Nat // i≤c.vs.length},fun x=>⟨[(1,(.sl 1 (.sym fun _=>zi (ws).length) (fun ix=>[.int .u8 (.sym fun _=>(ws).getD ix.den.toNat 0)]))),(2,.own 0 0),(4,.own 1 0),(5,.own 8 0),(6,(.int .i64 (.sym fun _=>zi x.1)))],[(0,.cells [(.int .i64 (.sym fun _=>c.rl)),(.int .i64 (.sym fun _=>c.rh)),(.int .i64 (.sym fun _=>c.hr)),(.sl 4 (.sym fun _=>zi c.vs.length) (fun ix=>[(.int .i64 (.sym fun _=>(c.vs.getD ix.den.toNat v0).sl)),(.int .i64 (.sym fun _=>(c.vs.getD ix.den.toNat v0).sh)),(.int .i64 (.sym fun _=>(c.vs.getD ix.den.toNat v0).rl)),(.int .i64 (.sym fun _=>(c.vs.getD ix.den.toNat v0).rh))])),(.sl 2 (.sym fun _=>zi c.ts.length) (fun ix=>[(.int .i64 (.sym fun _=>(c.ts.getD ix.den.toNat t0).top)),(.sl 3 (.sym fun _=>zi ((c.ts.getD ix.den.toNat t0).ps).length) (fun jx=>[(.int .i64 (.sym fun _=>(((c.ts.getD ix.den.toNat t0).ps).getD jx.den.toNat p0).f)),(.int .i64 (.sym fun _=>(((c.ts.getD ix.den.toNat t0).ps).getD jx.den.toNat p0).el)),(.int .i64 (.sym fun _=>(((c.ts.getD ix.den.toNat t0).ps).getD jx.den.toNat p0).eh))]))]))] 27),(1,.cells [.int .i64 (.lit 0),.val (Value.slice none 0 0),.val (Value.slice none 0 0)] 30),(8,.cells [(.int .i64 (.sym fun _=>pkM c ws)),.row 11,.row 12] 30),(11,.row 3 1 (.sym fun _=>zi ((mkL (pkSv c ws) x.1)).length) (fun ix=>[.int .i64 (.sym fun _=>((mkL (pkSv c ws) x.1)).getD ix.den.toNat 0)])),(12,.row 3 1 (.sym fun _=>zi ((mkL (pkRv c ws) x.1)).length) (fun ix=>[.int .i64 (.sym fun _=>((mkL (pkRv c ws) x.1)).getD ix.den.toNat 0)]))],60⟩,fun x=>c.vs.length-x.1,?_,?_⟩
  · refine⟨⟨0,by omega⟩,?_⟩
    cbv
    repeat' (first
      |with_reducible refine hold ?_ ?_
      |with_reducible refine And.intro ?_ ?_)
    all_goals first
      |trivial
      |exact qN (qE (by rfl))
      |exact qN (Fit.refl _)
      |exact qM (qL _)
      |(refine qM (ble_row ?_ ?_);(first|rfl|((try simp only [qW]at *);(try simp only [zQ,zA,zB,zC,zD,zE,zF,zG,zH,zI,zJ,zK,zL,zM,zN,zO,zP,zR,zS]at *);omega));intro ix h0 h1;exfalso;(try simp only [qW]at *);(try simp only [zQ,zA,zB,zC,zD,zE,zF,zG,zH,zI,zJ,zK,zL,zM,zN,zO,zP,zR,zS]at *);omega)
      |skip
  · rintro ⟨i,hi⟩
    cbv
    have hSl:=tab_len (pkSv c ws) i
    have hRl:=tab_len (pkRv c ws) i
    have hY:mkL (pkSv c ws) (i+1)=mkL (pkSv c ws) i++[pkSv c ws i]:=rfl
    have hZ:mkL (pkRv c ws) (i+1)=mkL (pkRv c ws) i++[pkRv c ws i]:=rfl
    obtain⟨S1,hS1⟩:∃M,M=mkL (pkSv c ws) i:=⟨_,rfl⟩
    obtain⟨S2,hS2⟩:∃M,M=mkL (pkRv c ws) i:=⟨_,rfl⟩
    rw [←hS1]at hSl hY⊢
    rw [←hS2]at hRl hZ⊢
    cbv
    repeat' (first
        |with_reducible refine hold ?_ ?_
        |with_reducible refine And.intro ?_ ?_
        |(with_reducible intro hcd;(try simp only [zA,zB,zC,zD,zE,zF,zG,zH,zI,zJ,zK,zL,zM,zN,zO,zP]at hcd);try cbv)
        | (refine Exists.intro (α:=Nat) 11 ?_
           cbv
           refine Exists.intro (α:=Nat) 12 ?_
           cbv)
        | (refine qQ ?_ (c86s i) ?hfit
           case hfit=>((repeat' (first|exact qB|refine qD ?_ ?_|exact qE (by rfl)|exact qG (by rfl)|exact Fit.refl _|exact qA|refine qC ?_ rfl ?_));done)
           try cbv)
        | (refine qQ ?_ (c85s i (by((try simp only [qW]at *);(try simp only [zQ,zA,zB,zC,zD,zE,zF,zG,zH,zI,zJ,zK,zL,zM,zN,zO,zP,zR,zS]at *);omega))) ?hfit
           case hfit=>((repeat' (first|exact qB|refine qD ?_ ?_|exact qE (by rfl)|exact qG (by rfl)|exact Fit.refl _|exact qA|refine qC ?_ rfl ?_));done)
           try cbv)
        | (refine qQ ?_ (c86r i) ?hfit
           case hfit=>((repeat' (first|exact qB|refine qD ?_ ?_|exact qE (by rfl)|exact qG (by rfl)|exact Fit.refl _|exact qA|refine qC ?_ rfl ?_));done)
           try cbv)
        | (refine qQ ?_ (c85r i (by((try simp only [qW]at *);(try simp only [zQ,zA,zB,zC,zD,zE,zF,zG,zH,zI,zJ,zK,zL,zM,zN,zO,zP,zR,zS]at *);omega))) ?hfit
           case hfit=>((repeat' (first|exact qB|refine qD ?_ ?_|exact qE (by rfl)|exact qG (by rfl)|exact Fit.refl _|exact qA|refine qC ?_ rfl ?_));done)
           try cbv)
        | (obtain⟨L2,eL2⟩:∃y:List Int,y=S1++[pkSv c ws i]:=⟨_,rfl⟩
           refine⟨intsE L2,?_⟩
           cbv
           refine hold (hold_rowlist (L:=S1) eL2 (by(first|rfl|((try simp only [qW]at *);(try simp only [zQ,zA,zB,zC,zD,zE,zF,zG,zH,zI,zJ,zK,zL,zM,zN,zO,zP,zR,zS]at *);done)|((try simp only [qW]at *);(try simp only [zQ,zA,zB,zC,zD,zE,zF,zG,zH,zI,zJ,zK,zL,zM,zN,zO,zP,zR,zS]at *);omega))) (by rfl) (fun ix=>Fit.refl _) (fun ix h=>qC (qE (by rfl)) rfl qA) (by(try simp only [qW]at *);(try simp only [zQ,zA,zB,zC,zD,zE,zF,zG,zH,zI,zJ,zK,zL,zM,zN,zO,zP,zR,zS]at *);omega)) (Or.inl ?_)
           try cbv)
        | (obtain⟨L3,eL3⟩:∃y:List Int,y=S2++[pkRv c ws i]:=⟨_,rfl⟩
           refine⟨intsE L3,?_⟩
           cbv
           refine hold (hold_rowlist (L:=S2) eL3 (by(first|rfl|((try simp only [qW]at *);(try simp only [zQ,zA,zB,zC,zD,zE,zF,zG,zH,zI,zJ,zK,zL,zM,zN,zO,zP,zR,zS]at *);done)|((try simp only [qW]at *);(try simp only [zQ,zA,zB,zC,zD,zE,zF,zG,zH,zI,zJ,zK,zL,zM,zN,zO,zP,zR,zS]at *);omega))) (by rfl) (fun ix=>Fit.refl _) (fun ix h=>qC (qE (by rfl)) rfl qA) (by(try simp only [qW]at *);(try simp only [zQ,zA,zB,zC,zD,zE,zF,zG,zH,zI,zJ,zK,zL,zM,zN,zO,zP,zR,zS]at *);omega)) (Or.inl ?_)
           try cbv)
        |fail)
    all_goals first
      |((try simp only [qW]at *);(try simp only [zQ,zA,zB,zC,zD,zE,zF,zG,zH,zI,zJ,zK,zL,zM,zN,zO,zP,zR,zS]at *);first|(refine qO ?_;omega)|(simp only [Hold];omega))
      |((have hie:i=c.vs.length:=(by((try simp only [qW]at *);(try simp only [zQ,zA,zB,zC,zD,zE,zF,zG,zH,zI,zJ,zK,zL,zM,zN,zO,zP,zR,zS]at *);omega)));(have e1:S1=pkS c ws:=by rw [hS1,hie];rfl);(have e2:S2=pkR c ws:=by rw [hS2,hie];rfl);subst hR;rw [←e1,←e2];exact Fit.refl _)
      |((try simp only [zQ,zA,zB,zC,zD,zE,zF,zG,zH,zI,zJ,zK,zL,zM,zN,zO,zP,zR,zS]at *);(have hx:mkL (pkSv c ws) (i+1)=L2:=hY.trans eL2.symm);(have hy:mkL (pkRv c ws) (i+1)=L3:=hZ.trans eL3.symm);refine⟨⟨i+1,by omega⟩,by simp only [];omega,?_⟩;cbv;(repeat' (first|with_reducible refine hold ?_ ?_|with_reducible refine And.intro ?_ ?_));(all_goals first|trivial|exact qN (qE (by rfl))|exact qN (qG (by rfl))|exact qN (Fit.refl _)|exact qM (qL _)|(refine qN (qE ?_);(try simp only [qW]at *);simp only [zQ,zA,zB,zC,zD,zE,zF,zG,zH,zI,zJ,zK,zL,zM,zN,zO,zP,zR,zS]at *;omega)|(refine qM (qK ?_);(repeat' (first|exact qA|exact qB|refine qC ?_ rfl ?_|refine qD ?_ ?_|exact qE (by rfl)|exact qG (by rfl)|exact Fit.refl _|exact qH _|(refine qE ?_;(try simp only [qW]at *);simp only [zQ,zA,zB,zC,zD,zE,zF,zG,zH,zI,zJ,zK,zL,zM,zN,zO,zP,zR,zS]at *;omega)));done)|(simp only [hx,hy];first|exact qM (qL _)|(refine qM (ble_row ?_ ?_)<;>first|rfl|(rw [eL2,List.length_append];rfl)|(rw [eL3,List.length_append];rfl)|((try simp only [qW]at *);(try simp only [zQ,zA,zB,zC,zD,zE,zF,zG,zH,zI,zJ,zK,zL,zM,zN,zO,zP,zR,zS,eL2,eL3,List.length_append,List.length_cons,List.length_nil]at *);omega)|(intro ix h0 h1;exact Fit.refl _)))|skip))
      |skip
end Go.Proofs.Yteelocfbbhchcaa

namespace Go.Proofs.Yteelocfbbhchcaa
open Go Go.Eng Go.Proofs
set_option maxRecDepth 10000
theorem looked_z {c:Clr} {l:List LookT}(hC:COk c)(h:lookF c l=0):lookedF c l=0:=by unfold lookedF;rw [if_pos (faultC_iff.2 hC)];exact h
end Go.Proofs.Yteelocfbbhchcaa

namespace Go.Proofs.Yteelocfbbhchcaa
open Go Go.Eng Go.Proofs
set_option maxRecDepth 10000
theorem firstOf_none {f:Nat→Option (List Int)}:∀{k i:Nat},firstOf f k i=none→∀j,i≤j→j<i+k→f j=none:=by
  intro k
  induction k with
  |zero=>intro i _ j h1 h2;omega
  | succ k ih=>
    intro i h j h1 h2
    simp only [firstOf]at h
    split at h
    · cases h
    · rename_i hf
      by_cases e:j=i
      · rw [e];exact hf
      · exact ih h j (by omega) (by omega)
theorem firstOf_at {f:Nat→Option (List Int)} {r:List Int}:∀{k i:Nat},firstOf f k i=some r→∃j,i≤j∧j<i+k∧f j=some r∧∀j',i≤j'→j'<j→f j'=none:=by
  intro k
  induction k with
  |zero=>intro i h;cases h
  | succ k ih=>
    intro i h
    simp only [firstOf]at h
    split at h
    · rename_i r' hf
      cases h
      exact⟨i,Nat.le_refl _,by omega,hf,fun j' h1 h2=>by omega⟩
    · rename_i hf
      obtain⟨j,h1,h2,h3,h4⟩:=ih h
      refine⟨j,by omega,by omega,h3,fun j' a b=> ?_⟩
      by_cases e:j'=i
      · rw [e];exact hf
      · exact h4 j' (by omega) b
def Asc (n:Nat):Nat→List Int→Prop
  |_,[]=>True
  |i,x::t=>∃j:Nat,x=(j:Int)∧i≤j∧j<n∧Asc n (j+1) t
def LexLt :List Int→List Int→Prop
  |x::s,y::t=>x<y∨(x=y∧LexLt s t)
  |_,_=>False
theorem asc_room {n:Nat}:∀{s:List Int} {i:Nat},Asc n i s→s=[]∨i+s.length≤n:=by
  intro s
  induction s with
  |nil=>intro i _;exact .inl rfl
  | cons x t ih=>
    rintro i ⟨j,_,h1,h2,h3⟩
    right
    rcases ih h3 with e|e
    · subst e;simp only [List.length_cons,List.length_nil];omega
    · simp only [List.length_cons];omega
theorem choose_none {n:Nat} {ok:List Int→Bool}:∀{m:Nat} {l:List Int} {i:Nat},chooseL n ok m l i=none→∀s,Asc n i s→s.length=m→ok (l++s)=false:=by
  intro m
  induction m with
  | zero=>
    intro l i h s hs hl
    rw [List.length_eq_zero_iff.1 hl,List.append_nil]
    simp only [chooseL]at h
    split at h
    · cases h
    · rename_i q;simpa using q
  | succ m ih=>
    intro l i h s hs hl
    cases s with
    |nil=>cases hl
    | cons x t=>
      obtain⟨j,rfl,h1,h2,h3⟩:=hs
      simp only [List.length_cons]at hl
      simp only [chooseL]at h
      have hj:j<i+(n-m-i):=by
        rcases asc_room h3 with e|e
        · rw [e]at hl;simp at hl;omega
        · omega
      have:=ih (firstOf_none h j h1 hj) t h3 (by omega)
      simpa using this
theorem choose_some {n:Nat} {ok:List Int→Bool} {F:List Int}:∀{m:Nat} {l:List Int} {i:Nat},chooseL n ok m l i=some F→∃s,Asc n i s∧s.length=m∧F=l++s∧ok F=true∧∀s',Asc n i s'→s'.length=m→ok (l++s')=true→s=s'∨LexLt s s':=by
  intro m
  induction m with
  | zero=>
    intro l i h
    simp only [chooseL]at h
    split at h
    · rename_i q
      cases h
      refine⟨[],trivial,rfl,(List.append_nil _).symm,q,fun s' _ hl _=>.inl (List.length_eq_zero_iff.1 hl).symm⟩
    · cases h
  | succ m ih=>
    intro l i h
    simp only [chooseL]at h
    obtain⟨j,h1,h2,h3,h4⟩:=firstOf_at h
    obtain⟨s,a1,a2,a3,a4,a5⟩:=ih h3
    refine⟨(j:Int)::s,⟨j,rfl,h1,by omega,a1⟩,by simp [a2],by rw [a3];simp,a4,fun s' hs hl hok=> ?_⟩
    cases s' with
    |nil=>cases hl
    | cons x t=>
      obtain⟨j',rfl,b1,b2,b3⟩:=hs
      simp only [List.length_cons]at hl
      rcases Nat.lt_trichotomy j j' with e|e|e
      · exact .inr (.inl (by omega))
      · subst e
        rcases a5 t b3 (by omega) (by simpa using hok)with q|q
        · exact .inl (by rw [q])
        · exact .inr (.inr ⟨rfl,q⟩)
      · have:=choose_none (h4 j' b1 e) t b3 (by omega)
        rw [show l++[(j':Int)]++t=l++(j':Int)::t by simp,hok]at this
        cases this
theorem leave_spec {c:Clr} {l:List LookT}(h:lookedF c l=0):Asc l.length 0 (leaveL c l)∧okL c l (leaveL c l)=true ∧
    ∀s,Asc l.length 0 s→okL c l s=true→(leaveL c l).length≤s.length∧(s.length=(leaveL c l).length→leaveL c l=s∨LexLt (leaveL c l) s):=by
  have hO:=leave_yes h
  unfold leaveO at hO
  obtain⟨m,_,h2,h3,h4⟩:=firstOf_at hO
  obtain⟨s,a1,a2,a3,a4,a5⟩:=choose_some h3
  have e:leaveL c l=s:=by rw [a3];simp
  refine⟨e▸a1,a4,fun s' hs hok=> ?_⟩
  rw [e]
  have hmin:s.length≤s'.length:=by
    refine Nat.le_of_not_lt fun hlt=> ?_
    have:=choose_none (h4 s'.length (by omega) (by omega)) s' hs rfl
    rw [List.nil_append,hok]at this
    cases this
  exact⟨hmin,fun he=>a5 s' hs (by omega) (by simpa using hok)⟩
theorem right_iff {c:Clr} {l:List LookT} {v:Int} {x:Nat→Int} {o:List Int}:rightB c l v x o=true↔∀i,i<l.length→(l.getD i k0).v=v→inL o i=false→seeB c (l.getD i k0) (x (l.getD i k0).h.toNat)=true:=by
  unfold rightB
  rw [allB_t]
  constructor
  · intro h i hi h1 h2
    have:=h i hi
    unfold rightP at this
    rw [h1,h2,decide_eq_true rfl]at this
    simpa using this
  · intro h i hi
    unfold rightP
    by_cases h1:(l.getD i k0).v=v
    · cases h2:inL o i with
      |true=>simp
      |false=>rw [h i hi h1 h2];simp
    · rw [decide_eq_false h1];rfl
theorem ok_iff {c:Clr}(hc:COk c) {l:List LookT} {o:List Int}:okL c l o=true↔∃rm,c.rl≤rm∧rm≤c.rh∧∀v:Nat,v<c.vs.length→∃st rt,FitV c l o rm v st rt:=by
  unfold okL
  rw [decide_eq_true_eq]
  constructor
  · intro h
    obtain⟨rm,hm⟩:=some_mem h
    have:=(mem_rooms hc.ok.r1).1 hm
    exact⟨rm,this.1,this.2.1,(room_iff hc).1 this.2.2⟩
  · rintro⟨rm,h1,h2,h3⟩
    exact List.length_pos_of_mem ((mem_rooms hc.ok.r1).2 ⟨h1,h2,(room_iff hc).2 h3⟩)
theorem ask_ok {c:Clr} {l:List LookT}(h:lookedF c l=0):askE c l=0↔okL c l []=true:=by
  unfold askE okL
  rw [if_pos h,decide_eq_true_eq]
  split
  · rename_i q;exact⟨fun e=>(by cases e),fun e=>absurd q (by omega)⟩
  · rename_i q;exact⟨fun _=>by omega,fun _=>rfl⟩
theorem leave_nil {c:Clr} {l:List LookT}(h:lookedF c l=0):askE c l=0↔(leaveL c l).length=0:=by
  have hs:=leave_spec h
  rw [ask_ok h]
  constructor
  · intro q;have:=(hs.2.2 [] trivial q).1;simpa using this
  · intro q;have:=hs.2.1;rwa [List.length_eq_zero_iff.1 q]at this
theorem more_at (l:List LookT)(x:LookT) {i:Nat}(h:i<l.length):(l++[x]).getD i k0=l.getD i k0:=by
  simp only [List.getD_eq_getElem?_getD]
  rw [List.getElem?_append_left h]
end Go.Proofs.Yteelocfbbhchcaa

namespace Go.Proofs.Yteelocfbbhchcaa
open Go Go.Eng Go.Proofs
set_option maxRecDepth 10000
theorem lit_t {f:FuncId} {args:List SV} {b:Bool}(h:FSpec Try.prog f args [] (fun r _=>r = .bool (.sym fun _=>b)))(hb:b=true):FSpec Try.prog f args [] (fun r _=>r = .bool (.lit true)):=h.post fun r bs q=>⟨_,by subst q;exact qG hb,rfl⟩
theorem lit_f {f:FuncId} {args:List SV} {b:Bool}(h:FSpec Try.prog f args [] (fun r _=>r = .bool (.sym fun _=>b)))(hb:b=false):FSpec Try.prog f args [] (fun r _=>r = .bool (.lit false)):=h.post fun r bs q=>⟨_,by subst q;exact qG hb,rfl⟩
theorem more_new (l:List LookT)(x:LookT) {i:Nat}(h:i=l.length):(l++[x]).getD i k0=x:=by
  subst h
  simp [List.getD_eq_getElem?_getD]
end Go.Proofs.Yteelocfbbhchcaa

namespace Go.Proofs.Yteelocfbbhchcaa
open Go Go.Eng Go.Proofs
set_option maxRecDepth 10000
theorem bounds_y {c:Clr} {l:List LookT}(hA:askE c l=0):FSpec Try.prog 30 [(clrS c),(lksS l)] [] (fun r _=>r=(.tup [(.sl 1 (.sym fun _=>zi c.vs.length) (fun ix=>[(.sl 2 (.sym fun _=>zi (c.hr.toNat+1)) (fun jx=>[(.int .i64 (.sym fun _=>loW c (vyL c l ix.den.toNat) jx.den.toNat)),(.int .i64 (.sym fun _=>hiW c (vyL c l ix.den.toNat) jx.den.toNat))]))])),(.int .i64 (.lit (0)))])):=
  (bounds30 c l).post fun r bs q=>⟨_,by subst q;exact qD (fit_sl (congrArg zi (bndN_yes hA)) (fun _ _ _=>Fit.refl _)) (qD (qE hA) qB),rfl⟩
theorem leave_y {c:Clr} {l:List LookT}(hA:lookedF c l=0):FSpec Try.prog 45 [(clrS c),(lksS l)] [] (fun r _=>r=(.tup [(.sl 1 (.sym fun _=>zi (leaveL c l).length) (fun ix=>[.int .i64 (.sym fun _=>(leaveL c l).getD ix.den.toNat 0)])),(.int .i64 (.lit (0)))])):=
  (leave45 c l).post fun r bs q=>⟨_,by subst q;exact qD (Fit.refl _) (qD (qE hA) qB),rfl⟩
end Go.Proofs.Yteelocfbbhchcaa

namespace Go.Proofs.Yteelocfbbhchcaa
open Go Go.Eng Go.Proofs
set_option maxRecDepth 10000
theorem right90 (c:Clr)(k:LookT)(f:Nat→Int)(hC:COk c)(hk:LookIn c k):FSpec Try.prog 90 [(clrS c),(.agg [(.int .i64 (.sym fun _=>k.v)),(.int .i64 (.sym fun _=>k.h)),(.int .i64 (.sym fun _=>k.t)),(.int .i64 (.sym fun _=>k.s))]),(.sl 1 (.sym fun _=>zi (c.hr.toNat+1)) (fun ix=>[(.int .i64 (.sym fun _=>f ix.den.toNat))]))] [] (fun r _=>r=(.bool (.sym fun _=>seeB c k (f k.h.toNat)))):=by
  have c22:= @within22
  have c26:=(show FSpec Try.prog 26 [(.agg [(.int .i64 (.sym fun _=>(c.ts.getD k.t.toNat t0).top)),(.sl 3 (.sym fun _=>zi ((c.ts.getD k.t.toNat t0).ps).length) (fun jx=>[(.int .i64 (.sym fun _=>(((c.ts.getD k.t.toNat t0).ps).getD jx.den.toNat p0).f)),(.int .i64 (.sym fun _=>(((c.ts.getD k.t.toNat t0).ps).getD jx.den.toNat p0).el)),(.int .i64 (.sym fun _=>(((c.ts.getD k.t.toNat t0).ps).getD jx.den.toNat p0).eh))]))]),(.int .i64 (.sym fun _=>k.s))] [] (fun r _=>r=(.agg [(.int .i64 (.sym fun _=>meanLo (thA c k) k.s)),(.int .i64 (.sym fun _=>meanHi (thA c k) k.s))]))from mean26 (thA c k) k.s (hC.ok.t k.t.toNat (by have:=hk.t0;have:=hk.t1;omega)) (by have:=hC.few.p k.t.toNat (by have:=hk.t0;have:=hk.t1;omega);unfold thA;omega) hk.on)
  refine FSpec.is fun R hR=>qX (sc:=sc90) tyok mix Try.func90 rfl Try.call90 (by kernel_rfl) (by kernel_rfl) ?_
  generalize Try.prog=P at c22 c26⊢
  cbv
  repeat' (first
      |with_reducible refine hold ?_ ?_
      | (refine qQ ?_ (c26) ?hfit
         case hfit=>((repeat' (first|exact qB|refine qD ?_ ?_|exact qE (by rfl)|exact qG (by rfl)|exact Fit.refl _|exact qA|refine qC ?_ rfl ?_));done)
         try cbv)
      | (refine qQ ?_ (c22 _ _ _) (by(repeat' (first|exact qB|refine qD ?_ ?_|exact qE (by rfl)|exact qG (by rfl)|exact Fit.refl _|exact qA|refine qC ?_ rfl ?_)))
         try cbv)
      |fail)
  all_goals first
    |((try clear c26);(try clear c22);(subst hR;(refine qG ?_;(have e:=ixh f k.h);unfold seeB;first|rfl|((try simp only [qW]at *);(try simp only [zQ,zA,zB,zC,zD,zE,zF,zG,zH,zI,zJ,zK,zL,zM,zN,zO,zP,zR,zS]at *);rw [e]));done))
    |((try clear c26);(try clear c22);((have q0:=hk.t0);(have q1:=hk.t1);(have q2:=hk.h0);(have q3:=hk.h1);(try simp only [qW]at *);(try simp only [zQ,zA,zB,zC,zD,zE,zF,zG,zH,zI,zJ,zK,zL,zM,zN,zO,zP,zR,zS]at *);simp only [Hold];first|omega|exact⟨by omega,by omega⟩))
    |skip
end Go.Proofs.Yteelocfbbhchcaa

namespace Go.Proofs.Yteelocfbbhchcaa
open Go Go.Eng Go.Proofs
set_option maxRecDepth 10000
theorem allB_go {p:Nat→Bool} {n:Nat}(h:allB p n=true):p n=allB p (n+1):=by rw [allB_succ,h,Bool.true_and]
theorem allB_end {p:Nat→Bool} {n:Nat}(h:allB p n=false):false=allB p (n+1):=by rw [allB_succ,h,Bool.false_and]
end Go.Proofs.Yteelocfbbhchcaa

namespace Go.Proofs.Yteelocfbbhchcaa
open Go Go.Eng Go.Proofs
set_option maxRecDepth 10000
theorem cool_0 {c:Clr} {l:List LookT}(lim:Int)(hA:askE c l=0):FSpec Try.prog 32 [(clrS c),(lksS l),(.int .i64 (.sym fun _=>lim))] [] (fun r _=>r=(.tup [(.int .i64 (.sym fun _=>sureH c l lim)),(.int .i64 (.sym fun _=>mayH c l lim)),(.int .i64 (.lit (0)))])):=
  (cool32 c l lim).post fun r bs q=>⟨_,by subst q;exact qD (Fit.refl _) (qD (Fit.refl _) (qD (qE hA) qB)),rfl⟩
end Go.Proofs.Yteelocfbbhchcaa

namespace Go.Proofs.Yteelocfbbhchcaa
open Go Go.Eng Go.Proofs
set_option maxRecDepth 10000
theorem look_in {L:List LookT} {i:Nat}(h:i<L.length):L.getD i k0∈L:=by
  rw [List.getD_eq_getElem?_getD,List.getElem?_eq_getElem h]
  exact List.getElem_mem h
end Go.Proofs.Yteelocfbbhchcaa

namespace Go.Proofs.Yteelocfbbhchcaa
open Go Go.Eng Go.Proofs
set_option maxRecDepth 10000
def looksE (L:List LookT)(ix:IX):List SV:=[(.int .i64 (.sym fun _=>((L).getD ix.den.toNat k0).v)),(.int .i64 (.sym fun _=>((L).getD ix.den.toNat k0).h)),(.int .i64 (.sym fun _=>((L).getD ix.den.toNat k0).t)),(.int .i64 (.sym fun _=>((L).getD ix.den.toNat k0).s))]
theorem hold_lookapp {n m b:Int} {L L2:List LookT} {y:LookT} {e new:IX→List SV}(h2:L2=L++[y])(hn:n=(L.length:Int))(hm:m=1)(he:∀ix,Fit (.agg (e ix)) (.agg (looksE L ix)))(hx:∀ix:IX,ix.den=0→Fit (.agg (new ix)) (.agg [(.int .i64 (.sym fun _=>y.v)),(.int .i64 (.sym fun _=>y.h)),(.int .i64 (.sym fun _=>y.t)),(.int .i64 (.sym fun _=>y.s))]))(hb:(n+m)*b≤140737488355328):
    Hold (RowApp n e m new (looksE L2)∧0≤n∧0≤m∧(n+m)*b≤140737488355328):=by
  subst hm
  subst h2
  refine hold_rowapp (fun ix jx h0 h1 h2=>(he ix).trans ?_) (fun ix jx h0 h1 h2=>(hx ix (by omega)).trans ?_) ⟨by omega,by omega,hb⟩
  · have q:=more_at L y (i:=ix.den.toNat) (by omega)
    have e3:jx.den.toNat=ix.den.toNat:=by rw [h2]
    unfold looksE
    simp only [e3,q]
    exact Fit.refl _
  · have q:=more_new L y (i:=jx.den.toNat) (by omega)
    unfold looksE
    simp only [q]
    exact Fit.refl _
end Go.Proofs.Yteelocfbbhchcaa

namespace Go.Proofs.Yteelocfbbhchcaa
open Go Go.Eng Go.Proofs
set_option maxRecDepth 10000
theorem fr_nil {α:Type} {p:Nat→Bool} {f:Nat→α} {n:Nat}(h:∀j,j<n→p j=false):frL p f n=[]:=by
  induction n with
  |zero=>rfl
  | succ n ih=>
    have e:=ih fun j hj=>h j (by omega)
    simp only [frL,e,h n (by omega)]
    rfl
theorem fr_one {α:Type} {p:Nat→Bool} {f:Nat→α} {k:Nat}(h:∀j,j<k→p j=false)(hk:p k=true):∀m,frL p f (k+1+m)=[f k]:=by
  intro m
  induction m with
  | zero=>
    have e:=fr_nil (f:=f) h
    show frL p f (k+1)=_
    simp only [frL,e,hk]
    rfl
  | succ m ih=>
    show frL p f (k+1+m+1)=_
    simp only [frL,ih]
    rfl
theorem fr_len {α:Type} {p:Nat→Bool} {f:Nat→α} {n:Nat}:(frL p f n).length≤1:=by
  induction n with
  |zero=>exact Nat.zero_le _
  | succ n ih=>
    simp only [frL]
    split
    · split
      · simp
      · simp
    · exact ih
def lkN (c:Clr)(ws:List Int):Nat:=if c.ts.length=0 then 0 else min ws.length 5
theorem lk_len {c:Clr} {ws:List Int} {rm:Int} {ss rs:List Int}(n:Nat):(lkL c ws rm ss rs n).length≤n:=by
  induction n with
  |zero=>exact Nat.le_refl _
  | succ n ih=>
    have:=fr_len (p:=lkP c ws rm ss rs n) (f:=lkK c ws rm ss rs n) (n:=21)
    simp only [lkL,List.length_append]
    omega
theorem lkN_le (c:Clr)(ws:List Int):lkN c ws≤5:=by unfold lkN;split<;>omega
theorem lk_bd {c:Clr}(hC:COk c) {ws:List Int}(hw:∀i:Nat,0≤ws.getD i 0∧ws.getD i 0≤255)(i:Nat):
    (0≤lkV c ws i∧lkV c ws i<c.vs.length)∧(0≤lkH c ws i∧lkH c ws i≤c.hr)∧(0<c.ts.length→0≤lkT c ws i∧lkT c ws i<c.ts.length):=by
  have h1:=hC.ok.h1
  have hv:0<c.vs.length:=by have:=hC.ok.vn;omega
  have a:=word_bd hw (zi i)
  have b:=word_bd hw (zi i+1)
  have q:0≤(wordP ws (zi i)).tdiv 4:=Int.tdiv_nonneg a.1 (by decide)
  refine⟨⟨Int.tmod_nonneg _ a.1,Int.tmod_lt_of_pos _ (by simp only [zi_den];omega)⟩,⟨Int.tmod_nonneg _ q,?_⟩,fun hts=>⟨Int.tmod_nonneg _ b.1,Int.tmod_lt_of_pos _ (by simp only [zi_den];omega)⟩⟩
  have:=Int.tmod_lt_of_pos ((wordP ws (zi i)).tdiv 4) (show 0<c.hr+1 by omega)
  unfold lkH
  omega
theorem lk_ok {c:Clr}(hC:COk c) {ws:List Int}(hw:∀i:Nat,0≤ws.getD i 0∧ws.getD i 0≤255) {rm:Int} {ss rs:List Int}:lookF c (lkL c ws rm ss rs (lkN c ws))=0:=by
  rw [lookF_iff]
  refine⟨Nat.le_trans (lk_len _) (by have:=lkN_le c ws;omega),fun j hj=> ?_⟩
  obtain⟨i,k,hi,hk,hp,e⟩:=lk_mem (look_in hj)
  have hts:0<c.ts.length:=by
    unfold lkN at hi
    split at hi
    · omega
    · omega
  have b:=lk_bd hC hw i
  rw [e]
  unfold lkP at hp
  rw [Bool.and_eq_true]at hp
  exact⟨b.1.1,b.1.2,b.2.1.1,b.2.1.2,(b.2.2 hts).1,(b.2.2 hts).2,hp.1⟩
theorem lk_fit {c:Clr}(hC:COk c) {ws:List Int}(hw:∀i:Nat,0≤ws.getD i 0∧ws.getD i 0≤255) {rm:Int} {ss rs:List Int}(hT:TruthC c rm ss rs) {v:Nat}(hv:v<c.vs.length):FitV c (lkL c ws rm ss rs (lkN c ws)) [] rm v (ss.getD v 0) (rs.getD v 0):=by
  have q:=hT.v v hv
  rw [←vatA_nat]at q
  refine⟨q.1.1,q.1.2,q.2.1,q.2.2,right_iff.2 fun j hj h1 _=> ?_⟩
  obtain⟨i,k,hi,hk,hp,e⟩:=lk_mem (look_in hj)
  have hts:0<c.ts.length:=by
    unfold lkN at hi
    split at hi
    · omega
    · omega
  have b:=lk_bd hC hw i
  rw [e]at h1⊢
  have e1:lkV c ws i=(v:Int):=h1
  unfold lkP at hp
  rw [Bool.and_eq_true]at hp
  have h2:=hp.2
  unfold lkR at h2
  rw [e1,Int.toNat_natCast]at h2
  rw [at_le (by have:=b.2.1;show((lkH c ws i).toNat:Int)≤c.hr;omega)]
  exact h2
end Go.Proofs.Yteelocfbbhchcaa

namespace Go.Proofs.Yteelocfbbhchcaa
open Go Go.Eng Go.Proofs
set_option maxRecDepth 10000
def pvS (s:Nat→Int):Nat→Int
  |0=>0
  |k+1=>s k
theorem lkN_is (c:Clr)(ws:List Int):(c.ts.length=0∧lkN c ws=0)∨(0<c.ts.length∧lkN c ws≤ws.length∧lkN c ws≤5∧(lkN c ws=ws.length∨lkN c ws=5)):=by
  unfold lkN
  split<;>omega
set_option maxHeartbeats 1000000 in
theorem looked48 (c:Clr)(rm:Int)(ss rs ws:List Int)(hC:COk c)(hT:TruthC c rm ss rs)(hw:∀i:Nat,0≤ws.getD i 0∧ws.getD i 0≤255):FSpec Try.prog 48 [(clrS c),(.agg [(.int .i64 (.sym fun _=>rm)),(.sl 1 (.sym fun _=>zi (ss).length) (fun ix=>[.int .i64 (.sym fun _=>(ss).getD ix.den.toNat 0)])),(.sl 1 (.sym fun _=>zi (rs).length) (fun ix=>[.int .i64 (.sym fun _=>(rs).getD ix.den.toNat 0)]))]),(.sl 1 (.sym fun _=>zi (ws).length) (fun ix=>[.int .u8 (.sym fun _=>(ws).getD ix.den.toNat 0)]))] [] (fun r _=>r=(.sl 4 (.sym fun _=>zi (lkL c ws rm ss rs (lkN c ws)).length) (fun ix=>[(.int .i64 (.sym fun _=>((lkL c ws rm ss rs (lkN c ws)).getD ix.den.toNat k0).v)),(.int .i64 (.sym fun _=>((lkL c ws rm ss rs (lkN c ws)).getD ix.den.toNat k0).h)),(.int .i64 (.sym fun _=>((lkL c ws rm ss rs (lkN c ws)).getD ix.den.toNat k0).t)),(.int .i64 (.sym fun _=>((lkL c ws rm ss rs (lkN c ws)).getD ix.den.toNat k0).s))]))):=by
  have hN:=lkN_is c ws
  have h3:=hC.few.v
  have h33:=hC.few.t
  have h8:=hC.ok.h8
  have h1:=hC.ok.h1
  have hc0:=hC.ok.r0
  have hc2:=hC.ok.r2
  have hr0:=hT.r0
  have hr1:=hT.r1
  have hss:=hT.s
  have hrs:=hT.r
  have hvn:=hC.ok.vn
  have c86a:=fun (i:Nat)=>word86 ws (zi i) hw (by simp only [zi_den];omega)
  have c86b:=fun (i:Nat)=>word86 ws (zi i+1) hw (by simp only [zi_den];omega)
  have c86c:=fun (i:Nat)=>word86 ws (zi i+2) hw (by simp only [zi_den];omega)
  have c28:=fun (i:Nat) (h:WayOk rm (ss.getD (lkV c ws i).toNat 0) (rs.getD (lkV c ws i).toNat 0))=>(show FSpec Try.prog 28 [(clrS c),(.int .i64 (.sym fun _=>rm)),(.int .i64 (.sym fun _=>ss.getD (lkV c ws i).toNat 0)),(.int .i64 (.sym fun _=>rs.getD (lkV c ws i).toNat 0))] [] (fun r _=>r=(.sl 1 (.sym fun _=>zi (c.hr.toNat+1)) (fun ix=>[(.int .i64 (.sym fun _=>runW rm (ss.getD (lkV c ws i).toNat 0) (rs.getD (lkV c ws i).toNat 0) ix.den.toNat))])))from ref28 c rm _ _ h h1 h8)
  have c23:=fun (i k:Nat) (h:0<c.ts.length)=>on23 (c.ts.getD (lkT c ws i).toNat t0) (lkS c ws rm ss rs i k) (by have a:=(lk_bd hC hw i).2.2 h;have b:=hC.ok.t (lkT c ws i).toNat (by omega);unfold thOk at b;omega)
  have c90:=fun (i k:Nat) (h:LookIn c (lkK c ws rm ss rs i k))=>right90 c (lkK c ws rm ss rs i k) (runW rm (ss.getD (lkV c ws i).toNat 0) (rs.getD (lkV c ws i).toNat 0)) hC h
  refine FSpec.is fun R hR=>qX (sc:=sc48) tyok mix Try.func48 rfl Try.call48 (by kernel_rfl) (by kernel_rfl) ?_
  generalize Try.prog=P at c86a c86b c86c c28 c23 c90⊢
  cbv
  repeat' (first
      |fail)
  all_goals first
    |skip
  refine⟨none,[⟨.tmp 7,90,4⟩],{x:Nat×List LookT // x.1≤lkN c ws∧x.2=lkL c ws rm ss rs x.1},fun x=>⟨[(2,(.sl 1 (.sym fun _=>zi (ws).length) (fun ix=>[.int .u8 (.sym fun _=>(ws).getD ix.den.toNat 0)]))),(3,.own 0 0),(4,.own 1 0),(7,.row 5),(8,(.int .i64 (.sym fun _=>zi x.1.1)))],[(0,.cells [(.int .i64 (.sym fun _=>c.rl)),(.int .i64 (.sym fun _=>c.rh)),(.int .i64 (.sym fun _=>c.hr)),(.sl 4 (.sym fun _=>zi c.vs.length) (fun ix=>[(.int .i64 (.sym fun _=>(c.vs.getD ix.den.toNat v0).sl)),(.int .i64 (.sym fun _=>(c.vs.getD ix.den.toNat v0).sh)),(.int .i64 (.sym fun _=>(c.vs.getD ix.den.toNat v0).rl)),(.int .i64 (.sym fun _=>(c.vs.getD ix.den.toNat v0).rh))])),(.sl 2 (.sym fun _=>zi c.ts.length) (fun ix=>[(.int .i64 (.sym fun _=>(c.ts.getD ix.den.toNat t0).top)),(.sl 3 (.sym fun _=>zi ((c.ts.getD ix.den.toNat t0).ps).length) (fun jx=>[(.int .i64 (.sym fun _=>(((c.ts.getD ix.den.toNat t0).ps).getD jx.den.toNat p0).f)),(.int .i64 (.sym fun _=>(((c.ts.getD ix.den.toNat t0).ps).getD jx.den.toNat p0).el)),(.int .i64 (.sym fun _=>(((c.ts.getD ix.den.toNat t0).ps).getD jx.den.toNat p0).eh))]))]))] 27),(1,.cells [(.int .i64 (.sym fun _=>rm)),(.sl 1 (.sym fun _=>zi (ss).length) (fun ix=>[.int .i64 (.sym fun _=>(ss).getD ix.den.toNat 0)])),(.sl 1 (.sym fun _=>zi (rs).length) (fun ix=>[.int .i64 (.sym fun _=>(rs).getD ix.den.toNat 0)]))] 30),(5,.row 90 4 (.sym fun _=>zi (x.1.2).length) (fun ix=>[(.int .i64 (.sym fun _=>((x.1.2).getD ix.den.toNat k0).v)),(.int .i64 (.sym fun _=>((x.1.2).getD ix.den.toNat k0).h)),(.int .i64 (.sym fun _=>((x.1.2).getD ix.den.toNat k0).t)),(.int .i64 (.sym fun _=>((x.1.2).getD ix.den.toNat k0).s))]))],60⟩,fun x=>lkN c ws-x.1.1,?_,?_⟩
  · refine⟨⟨(0,[]),by omega,rfl⟩,?_⟩
    cbv
    repeat' (first
      |with_reducible refine hold ?_ ?_
      |with_reducible refine And.intro ?_ ?_)
    all_goals first
      |trivial
      |exact qN (qE (by rfl))
      |exact qN (Fit.refl _)
      |exact qM (qL _)
      |(refine qM (ble_row ?_ ?_);(first|rfl|((try simp only [qW]at *);(try simp only [zQ,zA,zB,zC,zD,zE,zF,zG,zH,zI,zJ,zK,zL,zM,zN,zO,zP,zR,zS]at *);omega));intro ix h0 h1;exfalso;(try simp only [qW]at *);(try simp only [zQ,zA,zB,zC,zD,zE,zF,zG,zH,zI,zJ,zK,zL,zM,zN,zO,zP,zR,zS]at *);omega)
      |skip
  · rintro ⟨⟨i,L⟩,hi,hL⟩
    cbv
    dsimp only at hi hL
    have hLl:L.length≤i:=by rw [hL];exact lk_len i
    have hlk:=lk_bd hC hw i
    have hV:0≤(wordP ws (zi i)).tmod (zi c.vs.length)∧(wordP ws (zi i)).tmod (zi c.vs.length)<c.vs.length:=hlk.1
    have hH:0≤((wordP ws (zi i)).tdiv 4).tmod (c.hr+1)∧((wordP ws (zi i)).tdiv 4).tmod (c.hr+1)≤c.hr:=hlk.2.1
    have hTT:0<c.ts.length→0≤(wordP ws (zi i+1)).tmod (zi c.ts.length)∧(wordP ws (zi i+1)).tmod (zi c.ts.length)<c.ts.length:=hlk.2.2
    have hw0:=word_bd hw (zi i)
    have hw1:=word_bd hw (zi i+1)
    have hw2:=word_bd hw (zi i+2)
    have hq0:0≤(wordP ws (zi i)).tdiv 4:=Int.tdiv_nonneg hw0.1 (by decide)
    have hq1:(wordP ws (zi i)).tdiv 4≤wordP ws (zi i):=Int.tdiv_le_self 4 hw0.1
    have hWO:WayOk rm (ss.getD (lkV c ws i).toNat 0) (rs.getD (lkV c ws i).toNat 0):=by
      have a:=hT.v (lkV c ws i).toNat (by have:=hlk.1;omega)
      have b:=hC.ok.v (lkV c ws i).toNat (by have:=hlk.1;omega)
      unfold vatOk at b
      exact⟨by omega,by omega,by omega,by omega,by omega,by omega⟩
    have hRn:0≤runW rm (ss.getD (lkV c ws i).toNat 0) (rs.getD (lkV c ws i).toNat 0) (((wordP ws (zi i)).tdiv 4).tmod (c.hr+1)).toNat∧runW rm (ss.getD (lkV c ws i).toNat 0) (rs.getD (lkV c ws i).toNat 0) (((wordP ws (zi i)).tdiv 4).tmod (c.hr+1)).toNat≤200:=hWO.bd _
    cbv
    repeat' (first
        |with_reducible refine hold ?_ ?_
        |with_reducible refine And.intro ?_ ?_
        | (with_reducible refine qT ?_ ?_ ?_
           try cbv)
        | (with_reducible refine qU ?_ ?_
           try cbv)
        |(with_reducible intro hcd;(try simp only [zA,zB,zC,zD,zE,zF,zG,zH,zI,zJ,zK,zL,zM,zN,zO,zP]at hcd);try cbv)
        | (refine qQ ?_ (c86a i) ?hfit
           case hfit=>((repeat' (first|exact qB|refine qD ?_ ?_|exact qE (by rfl)|exact qG (by rfl)|exact Fit.refl _|exact qA|refine qC ?_ rfl ?_));done)
           try cbv)
        | (refine qQ ?_ (c86b i) ?hfit
           case hfit=>((repeat' (first|exact qB|refine qD ?_ ?_|exact qE (by rfl)|exact qG (by rfl)|exact Fit.refl _|exact qA|refine qC ?_ rfl ?_));done)
           try cbv)
        | (refine qQ ?_ (c28 i hWO) ?hfit
           case hfit=>((repeat' (first|exact qB|refine qD ?_ ?_|exact qE (by rfl)|exact qG (by rfl)|exact Fit.refl _|exact qA|refine qC ?_ rfl ?_));done)
           try cbv)
        |fail)
    all_goals first
      |((try clear c86a);(try clear c86b);(try clear c86c);(try clear c28);(try clear c23);(try clear c90);((try simp only [qW]at *);(try simp only [zQ,zA,zB,zC,zD,zE,zF,zG,zH,zI,zJ,zK,zL,zM,zN,zO,zP,zR,zS]at *);first|(refine qO ?_;omega)|(simp only [Hold];omega)))
      |((try clear c86a);(try clear c86b);(try clear c86c);(try clear c28);(try clear c23);(try clear c90);(subst hR;((have hie:i=lkN c ws:=(by((try simp only [qW]at *);(try simp only [zQ,zA,zB,zC,zD,zE,zF,zG,zH,zI,zJ,zK,zL,zM,zN,zO,zP,zR,zS]at *);omega)));subst hie;subst hL;exact Fit.refl _);done))
      |skip
    refine⟨none,[],{k:Nat // k≤21∧∀j,j<k→lkP c ws rm ss rs i j=false},fun x=>⟨[(2,(.sl 1 (.sym fun _=>zi (ws).length) (fun ix=>[.int .u8 (.sym fun _=>(ws).getD ix.den.toNat 0)]))),(3,.own 0 0),(4,.own 1 0),(7,.row 5),(8,(.int .i64 (.sym fun _=>zi i))),(9,.own 98 0),(10,(.sl 1 (.sym fun _=>zi (c.hr.toNat+1)) (fun ix=>[(.int .i64 (.sym fun _=>runW rm (ss.getD (lkV c ws i).toNat 0) (rs.getD (lkV c ws i).toNat 0) ix.den.toNat))]))),(11,(.int .i64 (.sym fun _=>zi x.1)))],[(0,.cells [(.int .i64 (.sym fun _=>c.rl)),(.int .i64 (.sym fun _=>c.rh)),(.int .i64 (.sym fun _=>c.hr)),(.sl 4 (.sym fun _=>zi c.vs.length) (fun ix=>[(.int .i64 (.sym fun _=>(c.vs.getD ix.den.toNat v0).sl)),(.int .i64 (.sym fun _=>(c.vs.getD ix.den.toNat v0).sh)),(.int .i64 (.sym fun _=>(c.vs.getD ix.den.toNat v0).rl)),(.int .i64 (.sym fun _=>(c.vs.getD ix.den.toNat v0).rh))])),(.sl 2 (.sym fun _=>zi c.ts.length) (fun ix=>[(.int .i64 (.sym fun _=>(c.ts.getD ix.den.toNat t0).top)),(.sl 3 (.sym fun _=>zi ((c.ts.getD ix.den.toNat t0).ps).length) (fun jx=>[(.int .i64 (.sym fun _=>(((c.ts.getD ix.den.toNat t0).ps).getD jx.den.toNat p0).f)),(.int .i64 (.sym fun _=>(((c.ts.getD ix.den.toNat t0).ps).getD jx.den.toNat p0).el)),(.int .i64 (.sym fun _=>(((c.ts.getD ix.den.toNat t0).ps).getD jx.den.toNat p0).eh))]))]))] 27),(1,.cells [(.int .i64 (.sym fun _=>rm)),(.sl 1 (.sym fun _=>zi (ss).length) (fun ix=>[.int .i64 (.sym fun _=>(ss).getD ix.den.toNat 0)])),(.sl 1 (.sym fun _=>zi (rs).length) (fun ix=>[.int .i64 (.sym fun _=>(rs).getD ix.den.toNat 0)]))] 30),(5,.row 90 4 (.sym fun _=>zi (L).length) (fun ix=>[(.int .i64 (.sym fun _=>((L).getD ix.den.toNat k0).v)),(.int .i64 (.sym fun _=>((L).getD ix.den.toNat k0).h)),(.int .i64 (.sym fun _=>((L).getD ix.den.toNat k0).t)),(.int .i64 (.sym fun _=>((L).getD ix.den.toNat k0).s))])),(98,.cells [(.int .i64 (.sym fun _=>(wordP ws (zi i)).tmod (zi c.vs.length))),(.int .i64 (.sym fun _=>((wordP ws (zi i)).tdiv 4).tmod (c.hr+1))),(.int .i64 (.sym fun _=>(wordP ws (zi i+1)).tmod (zi c.ts.length))),(.int .i64 (.sym fun _=>pvS (lkS c ws rm ss rs i) x.1))] 90)],300⟩,fun x=>21-x.1,?_,?_⟩
    · refine⟨⟨0,by omega,fun j hj=>by omega⟩,?_⟩
      cbv
      repeat' (first
        |with_reducible refine hold ?_ ?_
        |with_reducible refine And.intro ?_ ?_)
      all_goals first
        |trivial
        |exact qN (qE (by rfl))
        |exact qN (Fit.refl _)
        |exact qM (qL _)
        |(refine qM (qK ?_);(repeat' (first|exact qA|exact qB|refine qC ?_ rfl ?_|refine qD ?_ ?_|exact qE (by rfl)|exact qG (by rfl)|exact Fit.refl _|exact qH _|(refine qE ?_;(try simp only [qW]at *);simp only [zQ,zA,zB,zC,zD,zE,zF,zG,zH,zI,zJ,zK,zL,zM,zN,zO,zP,zR,zS]at *;omega)));done)
        |skip
    · rintro ⟨k,hk,hk2⟩
      cbv
      have hw3:0≤(zi k+wordP ws (zi i+2)).tmod 21∧(zi k+wordP ws (zi i+2)).tmod 21<21:=⟨Int.tmod_nonneg _ (Int.add_nonneg (by simp only [zi_den];omega) hw2.1),Int.tmod_lt_of_pos _ (by decide)⟩
      repeat' (first
          |with_reducible refine hold ?_ ?_
          |with_reducible refine And.intro ?_ ?_
          | (with_reducible refine qU ?_ ?_
             try cbv)
          |(with_reducible intro hcd;(try simp only [zA,zB,zC,zD,zE,zF,zG,zH,zI,zJ,zK,zL,zM,zN,zO,zP]at hcd);try cbv)
          | (refine qQ ?_ (c86c i) ?hfit
             case hfit=>((repeat' (first|exact qB|refine qD ?_ ?_|exact qE (by rfl)|exact qG (by rfl)|exact Fit.refl _|exact qA|refine qC ?_ rfl ?_));done)
             try cbv)
          | (refine qQ ?_ (c23 i k (by((try simp only [qW]at *);(try simp only [zQ,zA,zB,zC,zD,zE,zF,zG,zH,zI,zJ,zK,zL,zM,zN,zO,zP,zR,zS]at *);omega))) ?hfit
             case hfit=>((repeat' (first|exact qB|refine qD ?_ ?_|exact qE (by rfl)|exact qG (by rfl)|exact Fit.refl _|exact qA|refine qC ?_ rfl ?_));done)
             try cbv)
          | (refine qQ ?_ (c90 i k ⟨hlk.1.1,hlk.1.2,hlk.2.1.1,hlk.2.1.2,(hlk.2.2 (by((try simp only [qW]at *);(try simp only [zQ,zA,zB,zC,zD,zE,zF,zG,zH,zI,zJ,zK,zL,zM,zN,zO,zP,zR,zS]at *);omega))).1,(hlk.2.2 (by((try simp only [qW]at *);(try simp only [zQ,zA,zB,zC,zD,zE,zF,zG,zH,zI,zJ,zK,zL,zM,zN,zO,zP,zR,zS]at *);omega))).2,by assumption⟩) ?hfit
             case hfit=>((repeat' (first|exact qB|refine qD ?_ ?_|exact qE (by rfl)|exact qG (by rfl)|exact Fit.refl _|exact qA|refine qC ?_ rfl ?_));done)
             try cbv)
          | (obtain⟨L2,eL2⟩:∃y:List LookT,y=L++[(lkK c ws rm ss rs i k)]:=⟨_,rfl⟩
             refine⟨looksE L2,?_⟩
             cbv
             refine hold (hold_lookapp (L:=L) eL2 (by(first|rfl|((try simp only [qW]at *);(try simp only [zQ,zA,zB,zC,zD,zE,zF,zG,zH,zI,zJ,zK,zL,zM,zN,zO,zP,zR,zS]at *);done)|((try simp only [qW]at *);(try simp only [zQ,zA,zB,zC,zD,zE,zF,zG,zH,zI,zJ,zK,zL,zM,zN,zO,zP,zR,zS]at *);omega))) (by rfl) (fun ix=>Fit.refl _) (fun ix h=>Fit.refl _) (by(try simp only [qW]at *);(try simp only [zQ,zA,zB,zC,zD,zE,zF,zG,zH,zI,zJ,zK,zL,zM,zN,zO,zP,zR,zS]at *);omega)) (Or.inl ?_)
             try cbv)
          |fail)
      all_goals first
        |((try clear c86a);(try clear c86b);(try clear c86c);(try clear c28);(try clear c23);(try clear c90);((try simp only [qW]at *);(try simp only [zQ,zA,zB,zC,zD,zE,zF,zG,zH,zI,zJ,zK,zL,zM,zN,zO,zP,zR,zS]at *);first|(refine qO ?_;omega)|(simp only [Hold];omega)))
        |((try clear c86a);(try clear c86b);(try clear c86c);(try clear c28);(try clear c23);(try clear c90);((try simp only [zQ,zA,zB,zC,zD,zE,zF,zG,zH,zI,zJ,zK,zL,zM,zN,zO,zP,zR,zS]at *);(have hpk:lkP c ws rm ss rs i k=true:=by unfold lkP;rw [Bool.and_eq_true];exact⟨by assumption,by assumption⟩);refine⟨⟨(i+1,L2),by((try simp only [qW]at *);(try simp only [zQ,zA,zB,zC,zD,zE,zF,zG,zH,zI,zJ,zK,zL,zM,zN,zO,zP,zR,zS]at *);omega),by rw [eL2,hL];show _=lkL c ws rm ss rs i++frL (lkP c ws rm ss rs i) (lkK c ws rm ss rs i) 21;rw [show 21=k+1+(20-k) by omega,fr_one hk2 hpk]⟩,by simp only [];omega,?_⟩;cbv;(repeat' (first|with_reducible refine hold ?_ ?_|with_reducible refine And.intro ?_ ?_));(all_goals first|trivial|exact qN (qE (by rfl))|exact qN (qG (by rfl))|exact qN (Fit.refl _)|exact qM (qL _)|(refine qN (qE ?_);(try simp only [qW]at *);simp only [zQ,zA,zB,zC,zD,zE,zF,zG,zH,zI,zJ,zK,zL,zM,zN,zO,zP,zR,zS]at *;omega)|(refine qM (qK ?_);(repeat' (first|exact qA|exact qB|refine qC ?_ rfl ?_|refine qD ?_ ?_|exact qE (by rfl)|exact qG (by rfl)|exact Fit.refl _|exact qH _|(refine qE ?_;(try simp only [qW]at *);simp only [zQ,zA,zB,zC,zD,zE,zF,zG,zH,zI,zJ,zK,zL,zM,zN,zO,zP,zR,zS]at *;omega)));done)|(refine qM (ble_row ?_ ?_);(first|rfl|((try simp only [qW]at *);(try simp only [zQ,zA,zB,zC,zD,zE,zF,zG,zH,zI,zJ,zK,zL,zM,zN,zO,zP,zR,zS]at *);simp only [eL2,List.length_append,List.length_cons,List.length_nil];omega));intro ix h0 h1;exact Fit.refl _)|skip)))
        |((try clear c86a);(try clear c86b);(try clear c86c);(try clear c28);(try clear c23);(try clear c90);((try simp only [zQ,zA,zB,zC,zD,zE,zF,zG,zH,zI,zJ,zK,zL,zM,zN,zO,zP,zR,zS]at *);(have hk21:k=21:=(by((try simp only [qW]at *);(try simp only [zQ,zA,zB,zC,zD,zE,zF,zG,zH,zI,zJ,zK,zL,zM,zN,zO,zP,zR,zS]at *);omega)));refine⟨⟨(i+1,L),by((try simp only [qW]at *);(try simp only [zQ,zA,zB,zC,zD,zE,zF,zG,zH,zI,zJ,zK,zL,zM,zN,zO,zP,zR,zS]at *);omega),by rw [hL];show _=lkL c ws rm ss rs i++frL (lkP c ws rm ss rs i) (lkK c ws rm ss rs i) 21;rw [←hk21,fr_nil hk2,List.append_nil]⟩,by simp only [];omega,?_⟩;cbv;(repeat' (first|with_reducible refine hold ?_ ?_|with_reducible refine And.intro ?_ ?_));(all_goals first|trivial|exact qN (qE (by rfl))|exact qN (qG (by rfl))|exact qN (Fit.refl _)|exact qM (qL _)|(refine qN (qE ?_);(try simp only [qW]at *);simp only [zQ,zA,zB,zC,zD,zE,zF,zG,zH,zI,zJ,zK,zL,zM,zN,zO,zP,zR,zS]at *;omega)|(refine qM (qK ?_);(repeat' (first|exact qA|exact qB|refine qC ?_ rfl ?_|refine qD ?_ ?_|exact qE (by rfl)|exact qG (by rfl)|exact Fit.refl _|exact qH _|(refine qE ?_;(try simp only [qW]at *);simp only [zQ,zA,zB,zC,zD,zE,zF,zG,zH,zI,zJ,zK,zL,zM,zN,zO,zP,zR,zS]at *;omega)));done)|(refine qM (ble_row ?_ ?_);(first|rfl|((try simp only [qW]at *);(try simp only [zQ,zA,zB,zC,zD,zE,zF,zG,zH,zI,zJ,zK,zL,zM,zN,zO,zP,zR,zS]at *);simp only [List.length_append,List.length_cons,List.length_nil];omega));intro ix h0 h1;exact Fit.refl _)|skip)))
        |((try clear c86a);(try clear c86b);(try clear c86c);(try clear c28);(try clear c23);(try clear c90);((try simp only [zQ,zA,zB,zC,zD,zE,zF,zG,zH,zI,zJ,zK,zL,zM,zN,zO,zP,zR,zS]at *);refine⟨⟨k+1,by omega,fun j hj=>(Nat.lt_or_ge j k).elim (hk2 j) fun q=>by rw [show j=k by omega];unfold lkP;rw [Bool.and_eq_false_iff];first|exact .inl (by assumption)|exact .inr (by assumption)⟩,by simp only [];omega,?_⟩;cbv;(repeat' (first|with_reducible refine hold ?_ ?_|with_reducible refine And.intro ?_ ?_));(all_goals first|trivial|exact qN (qE (by rfl))|exact qN (qG (by rfl))|exact qN (Fit.refl _)|exact qM (qL _)|(refine qN (qE ?_);(try simp only [qW]at *);simp only [zQ,zA,zB,zC,zD,zE,zF,zG,zH,zI,zJ,zK,zL,zM,zN,zO,zP,zR,zS]at *;omega)|(refine qM (qK ?_);(repeat' (first|exact qA|exact qB|refine qC ?_ rfl ?_|refine qD ?_ ?_|exact qE (by rfl)|exact qG (by rfl)|exact Fit.refl _|exact qH _|(refine qE ?_;(try simp only [qW]at *);simp only [zQ,zA,zB,zC,zD,zE,zF,zG,zH,zI,zJ,zK,zL,zM,zN,zO,zP,zR,zS]at *;omega)));done)|skip)))
        |skip
end Go.Proofs.Yteelocfbbhchcaa

namespace Go.Proofs.Yteelocfbbhchcaa
open Go Go.Eng Go.Proofs
set_option maxRecDepth 10000
theorem right_in {c:Clr} {l:List LookT} {rm:Int} {ss rs:List Int}(h:Right c l rm ss rs):rm∈roomsL c l []:=
  (mem_rooms h.cok.ok.r1).2 ⟨h.tru.r0,h.tru.r1,(room_iff h.cok).2 fun v hv=>⟨_,_,h.f v hv⟩⟩
theorem right_ask {c:Clr} {l:List LookT} {rm:Int} {ss rs:List Int}(h:Right c l rm ss rs):askE c l=0:=
  (ask_ok (looked_z h.cok h.look)).2 ((ok_iff h.cok).2 ⟨rm,h.tru.r0,h.tru.r1,fun v hv=>⟨_,_,h.f v hv⟩⟩)
theorem right_leave {c:Clr} {l:List LookT} {rm:Int} {ss rs:List Int}(h:Right c l rm ss rs):(leaveL c l).length=0:=(leave_nil (looked_z h.cok h.look)).1 (right_ask h)
theorem right_prove {c:Clr} {l:List LookT} {rm:Int} {ss rs:List Int}(h:Right c l rm ss rs):proveB c l rm ss rs=true:=
  prove_yes (looked_z h.cok h.look) (truthB_iff.2 h.tru) fun v hv=>(h.f v hv).fit
theorem right_bd {c:Clr} {l:List LookT} {rm:Int} {ss rs:List Int}(h:Right c l rm ss rs) {v k:Nat}(hv:v<c.vs.length)(hk:k<c.hr.toNat+1):
    loW c (vyL c l v) k≤runW rm (ss.getD v 0) (rs.getD v 0) k∧runW rm (ss.getD v 0) (rs.getD v 0) k≤hiW c (vyL c l v) k:=by
  have h1:=h.cok.ok.h1
  have h8:=h.cok.ok.h8
  have vo:=vatA_ok h.cok (v:=(v:Int)) (by omega) (by omega)
  have a:=lo_le vo (right_in h) (h.f v hv) k
  have b:=hi_ge vo (right_in h) (h.f v hv) (k:=k) (by omega)
  rw [at_le (by omega)]at a b
  exact⟨a,b⟩
theorem right_sure {c:Clr} {l:List LookT} {rm:Int} {ss rs:List Int}(h:Right c l rm ss rs) {lim:Int} {v k:Nat}(hv:v<c.vs.length)(hk:k<c.hr.toNat+1)(hs:(k:Int)=sureH c l lim):runW rm (ss.getD v 0) (rs.getD v 0) k≤lim:=by
  have hA:=right_ask h
  have h8:=h.cok.ok.h8
  unfold sureH at hs
  rw [if_pos hA]at hs
  rcases hour_spec (sureB c l lim) (c.hr.toNat+1)with⟨e,_⟩|⟨a,e,ha,hp,_⟩
  · omega
  · have:a=k:=by omega
    subst this
    rw [sure_is h.cok hA (by omega),allB_t]at hp
    have q:=of_decide_eq_true (hp v hv)
    have:=(right_bd h hv hk).2
    omega
theorem right_may {c:Clr} {l:List LookT} {rm:Int} {ss rs:List Int}(h:Right c l rm ss rs) {lim:Int} {k:Nat}(hk:k<c.hr.toNat+1)(hs:mayH c l lim<0∨(k:Int)<mayH c l lim)(hall:∀v,v<c.vs.length→runW rm (ss.getD v 0) (rs.getD v 0) k≤lim):False:=by
  have hA:=right_ask h
  have h1:=h.cok.ok.h1
  have hm:mayB c l lim k=true:=may_iff.2 ⟨rm,right_in h,fun v hv=>by
    have a:=lo_le (rs:=[rm]) (vatA_ok h.cok (v:=(v:Int)) (by omega) (by omega)) (List.mem_singleton.2 rfl) (h.f v hv) k
    rw [at_le (by omega)]at a
    exact Int.le_trans a (hall v hv)⟩
  unfold mayH at hs
  rw [if_pos hA]at hs
  rcases hour_spec (mayB c l lim) (c.hr.toNat+1)with⟨e,q⟩|⟨a,e,ha,hp,q⟩
  · rw [q k hk]at hm;cases hm
  · rw [q k (by omega)]at hm;cases hm
theorem right_step {c:Clr} {l:List LookT} {rm:Int} {ss rs:List Int}(h:Right c l rm ss rs) {v k:Nat}(hv:v<c.vs.length):min rm (runW rm (ss.getD v 0) (rs.getD v 0) k)≤runW rm (ss.getD v 0) (rs.getD v 0) (k+1)∧runW rm (ss.getD v 0) (rs.getD v 0) (k+1)≤max rm (runW rm (ss.getD v 0) (rs.getD v 0) k):=by
  have q:=h.tru.v v hv
  have b:=h.cok.ok.v v hv
  unfold vatOk at b
  exact step_bd (by omega) (by omega)
theorem right_hours {c:Clr} {l:List LookT}(lim:Int)(hC:COk c)(hA:askE c l=0):(-1≤sureH c l lim∧sureH c l lim≤c.hr)∧(-1≤mayH c l lim∧mayH c l lim≤c.hr):=by
  have h1:=hC.ok.h1
  have a:=hour_bd (sureB c l lim) (c.hr.toNat+1)
  have b:=hour_bd (mayB c l lim) (c.hr.toNat+1)
  unfold sureH mayH
  rw [if_pos hA,if_pos hA]
  omega
end Go.Proofs.Yteelocfbbhchcaa

namespace Go.Proofs.Yteelocfbbhchcaa
open Go Go.Eng Go.Proofs
set_option maxRecDepth 10000
theorem law11t (c:Clr)(ws:List Int)(lim:Int)(h:readyB c=false):FSpec Try.prog 11 [(clrS c),(.sl 1 (.sym fun _=>zi (ws).length) (fun ix=>[.int .u8 (.sym fun _=>(ws).getD ix.den.toNat 0)])),(.int .i64 (.sym fun _=>lim))] [] (fun r _=>r=(.bool (.lit true))):=by
  have c15:=awake15
  have c42:=lit_f (ready42 c) h
  refine FSpec.is fun R hR=>qX (sc:=sc11) tyok mix Try.func11 rfl Try.call11 (by kernel_rfl) (by kernel_rfl) ?_
  generalize Try.prog=P at c15 c42⊢
  cbv
  repeat' (first
      | (refine qQ ?_ (c42) ?hfit
         case hfit=>((repeat' (first|exact qB|refine qD ?_ ?_|exact qE (by rfl)|exact qG (by rfl)|exact Fit.refl _|exact qA|refine qC ?_ rfl ?_));done)
         try cbv)
      | (refine qQ ?_ (c15) ?hfit
         case hfit=>((repeat' (first|exact qB|refine qD ?_ ?_|exact qE (by rfl)|exact qG (by rfl)|exact Fit.refl _|exact qA|refine qC ?_ rfl ?_));done)
         try cbv)
      |fail)
  all_goals first
    |((try clear c42);(try clear c15);(subst hR;(repeat' (first|exact qA|exact qB|refine qC ?_ rfl ?_|refine qD ?_ ?_|exact qE (by rfl)|exact qG (by rfl)|exact Fit.refl _|exact qH _|(refine qE ?_;(try simp only [qW]at *);simp only [zQ,zA,zB,zC,zD,zE,zF,zG,zH,zI,zJ,zK,zL,zM,zN,zO,zP,zR,zS]at *;omega)));done))
    |skip
set_option maxHeartbeats 4000000 in
theorem law11y (c:Clr)(ws:List Int)(lim rm:Int)(ss rs:List Int)(l:List LookT)(hw:∀i:Nat,0≤ws.getD i 0∧ws.getD i 0≤255)(hT:ThinC c 0)(e1:rm=pkM c ws)(e2:ss=pkS c ws)(e3:rs=pkR c ws)(e4:l=lkL c ws rm ss rs (lkN c ws))(hQ:Right c l rm ss rs):FSpec Try.prog 11 [(clrS c),(.sl 1 (.sym fun _=>zi (ws).length) (fun ix=>[.int .u8 (.sym fun _=>(ws).getD ix.den.toNat 0)])),(.int .i64 (.sym fun _=>lim))] [] (fun r _=>r=(.bool (.lit true))):=by
  have hA:=right_ask hQ
  have hl6:=(lookF_iff.1 hQ.look).len
  have hv3:=hQ.cok.few.v
  have h8:=hQ.cok.ok.h8
  have h1:=hQ.cok.ok.h1
  have hlv:=right_leave hQ
  have hhs:=right_hours (l:=l) lim hQ.cok hA
  have c15:=awake15
  have c42:=lit_t (ready42 c) (ready_t.2 ⟨hT,hQ.cok⟩)
  have c17:=cellar17 c (by have:=hT.v;omega) (by have:=hT.t;omega) (fun i hi=>by have:=hT.p i hi;omega)
  have c43:=(show FSpec Try.prog 43 [(clrS c),(.sl 1 (.sym fun _=>zi (ws).length) (fun ix=>[.int .u8 (.sym fun _=>(ws).getD ix.den.toNat 0)]))] [] (fun r _=>r=(.agg [(.int .i64 (.sym fun _=>rm)),(.sl 1 (.sym fun _=>zi (ss).length) (fun ix=>[.int .i64 (.sym fun _=>(ss).getD ix.den.toNat 0)])),(.sl 1 (.sym fun _=>zi (rs).length) (fun ix=>[.int .i64 (.sym fun _=>(rs).getD ix.den.toNat 0)]))]))from by rw [e1,e2,e3];exact picked43 c ws hw hQ.cok)
  have c48:=(show FSpec Try.prog 48 [(clrS c),(.agg [(.int .i64 (.sym fun _=>rm)),(.sl 1 (.sym fun _=>zi (ss).length) (fun ix=>[.int .i64 (.sym fun _=>(ss).getD ix.den.toNat 0)])),(.sl 1 (.sym fun _=>zi (rs).length) (fun ix=>[.int .i64 (.sym fun _=>(rs).getD ix.den.toNat 0)]))]),(.sl 1 (.sym fun _=>zi (ws).length) (fun ix=>[.int .u8 (.sym fun _=>(ws).getD ix.den.toNat 0)]))] [] (fun r _=>r=(lksS l))from by rw [e4];exact looked48 c rm ss rs ws hQ.cok hQ.tru hw)
  have c19:=truth19 rm ss rs (by have:=hQ.tru.s;omega) (by have:=hQ.tru.r;omega)
  have c18:=(show FSpec Try.prog 18 [(clrS c),(.agg [(.int .i64 (.sym fun _=>rm)),(.sl 1 (.sym fun _=>zi (ss).length) (fun ix=>[.int .i64 (.sym fun _=>(ss).getD ix.den.toNat 0)])),(.sl 1 (.sym fun _=>zi (rs).length) (fun ix=>[.int .i64 (.sym fun _=>(rs).getD ix.den.toNat 0)]))])] [] (fun r _=>r=(.tup [(.sl 1 (.sym fun _=>zi c.vs.length) (fun ix=>[(.sl 1 (.sym fun _=>zi (c.hr.toNat+1)) (fun jx=>[(.int .i64 (.sym fun _=>runW rm (ss.getD ix.den.toNat 0) (rs.getD ix.den.toNat 0) jx.den.toNat))]))])),(.int .i64 (.lit (0)))]))from(play18 c rm ss rs (by omega)).post fun r bs q=>⟨_,by subst q;exact qD (fit_sl (congrArg zi (playE_yes (faultC_iff.2 hQ.cok) (truthB_iff.2 hQ.tru)).2) (fun _ _ _=>Fit.refl _)) (qD (qE (playE_yes (faultC_iff.2 hQ.cok) (truthB_iff.2 hQ.tru)).1) qB),rfl⟩)
  have c31:=looks31 l (by omega)
  have c30:=bounds_y hA
  have c45:=leave_y (looked_z hQ.cok hQ.look)
  have c32:=cool_0 lim hA
  have c49:=lit_t (prove49 c l rm ss rs (by omega)) (right_prove hQ)
  refine FSpec.is fun R hR=>qX (sc:=sc11) tyok mix Try.func11 rfl Try.call11 (by kernel_rfl) (by kernel_rfl) ?_
  generalize Try.prog=P at c15 c42 c17 c43 c48 c19 c18 c31 c30 c45 c32 c49⊢
  cbv
  repeat' (first
      |with_reducible refine And.intro ?_ ?_
      |(with_reducible intro hcd;(try simp only [zA,zB,zC,zD,zE,zF,zG,zH,zI,zJ,zK,zL,zM,zN,zO,zP]at hcd);try cbv)
      | (refine qQ ?_ (c42) ?hfit
         case hfit=>((repeat' (first|exact qB|refine qD ?_ ?_|exact qE (by rfl)|exact qG (by rfl)|exact Fit.refl _|exact qA|refine qC ?_ rfl ?_));done)
         try cbv)
      | (refine qQ ?_ (c17) ?hfit
         case hfit=>((repeat' (first|exact qB|refine qD ?_ ?_|exact qE (by rfl)|exact qG (by rfl)|exact Fit.refl _|exact qA|refine qC ?_ rfl ?_));done)
         try cbv)
      | (refine qQ ?_ (c43) ?hfit
         case hfit=>((repeat' (first|exact qB|refine qD ?_ ?_|exact qE (by rfl)|exact qG (by rfl)|exact Fit.refl _|exact qA|refine qC ?_ rfl ?_));done)
         try cbv)
      | (refine qQ ?_ (c48) ?hfit
         case hfit=>((repeat' (first|exact qB|refine qD ?_ ?_|exact qE (by rfl)|exact qG (by rfl)|exact Fit.refl _|exact qA|refine qC ?_ rfl ?_));done)
         try cbv)
      | (refine qQ ?_ (c19) ?hfit
         case hfit=>((repeat' (first|exact qB|refine qD ?_ ?_|exact qE (by rfl)|exact qG (by rfl)|exact Fit.refl _|exact qA|refine qC ?_ rfl ?_));done)
         try cbv)
      | (refine qQ ?_ (c18) ?hfit
         case hfit=>((repeat' (first|exact qB|refine qD ?_ ?_|exact qE (by rfl)|exact qG (by rfl)|exact Fit.refl _|exact qA|refine qC ?_ rfl ?_));done)
         try cbv)
      | (refine qQ ?_ (c31) ?hfit
         case hfit=>((repeat' (first|exact qB|refine qD ?_ ?_|exact qE (by rfl)|exact qG (by rfl)|exact Fit.refl _|exact qA|refine qC ?_ rfl ?_));done)
         try cbv)
      | (refine qQ ?_ (c30) ?hfit
         case hfit=>((repeat' (first|exact qB|refine qD ?_ ?_|exact qE (by rfl)|exact qG (by rfl)|exact Fit.refl _|exact qA|refine qC ?_ rfl ?_));done)
         try cbv)
      | (refine qQ ?_ (c45) ?hfit
         case hfit=>((repeat' (first|exact qB|refine qD ?_ ?_|exact qE (by rfl)|exact qG (by rfl)|exact Fit.refl _|exact qA|refine qC ?_ rfl ?_));done)
         try cbv)
      | (refine qQ ?_ (c32) ?hfit
         case hfit=>((repeat' (first|exact qB|refine qD ?_ ?_|exact qE (by rfl)|exact qG (by rfl)|exact Fit.refl _|exact qA|refine qC ?_ rfl ?_));done)
         try cbv)
      | (refine qQ ?_ (c49) ?hfit
         case hfit=>((repeat' (first|exact qB|refine qD ?_ ?_|exact qE (by rfl)|exact qG (by rfl)|exact Fit.refl _|exact qA|refine qC ?_ rfl ?_));done)
         try cbv)
      |fail)
  all_goals first
    |trivial
    |((try clear c15);(try clear c42);(try clear c17);(try clear c43);(try clear c48);(try clear c19);(try clear c18);(try clear c31);(try clear c30);(try clear c45);(try clear c32);(try clear c49);(exfalso;(try simp only [qW]at *);(try simp only [zQ,zA,zB,zC,zD,zE,zF,zG,zH,zI,zJ,zK,zL,zM,zN,zO,zP,zR,zS]at *);(try simp only [allB_t,allB_f,inB_t,inB_f,ofB_t,ofB_f,shB_t,shB_f,spB_t,spB_f]at *);omega))
    |skip
  refine⟨none,[],{v:Nat // v≤c.vs.length},fun x=>⟨[(3,.own 0 0),(2,(.int .i64 (.sym fun _=>lim))),(7,.own 8 0),(9,(.sl 1 (.sym fun _=>zi c.vs.length) (fun ix=>[(.sl 1 (.sym fun _=>zi (c.hr.toNat+1)) (fun jx=>[(.int .i64 (.sym fun _=>runW rm (ss.getD ix.den.toNat 0) (rs.getD ix.den.toNat 0) jx.den.toNat))]))]))),(11,(.sl 1 (.sym fun _=>zi c.vs.length) (fun ix=>[(.sl 2 (.sym fun _=>zi (c.hr.toNat+1)) (fun jx=>[(.int .i64 (.sym fun _=>loW c (vyL c l ix.den.toNat) jx.den.toNat)),(.int .i64 (.sym fun _=>hiW c (vyL c l ix.den.toNat) jx.den.toNat))]))]))),(15,(.int .i64 (.sym fun _=>sureH c l lim))),(16,(.int .i64 (.sym fun _=>mayH c l lim))),(18,(.int .i64 (.sym fun _=>zi x.1)))],[(0,.cells [(.int .i64 (.sym fun _=>c.rl)),(.int .i64 (.sym fun _=>c.rh)),(.int .i64 (.sym fun _=>c.hr)),(.sl 4 (.sym fun _=>zi c.vs.length) (fun ix=>[(.int .i64 (.sym fun _=>(c.vs.getD ix.den.toNat v0).sl)),(.int .i64 (.sym fun _=>(c.vs.getD ix.den.toNat v0).sh)),(.int .i64 (.sym fun _=>(c.vs.getD ix.den.toNat v0).rl)),(.int .i64 (.sym fun _=>(c.vs.getD ix.den.toNat v0).rh))])),(.sl 2 (.sym fun _=>zi c.ts.length) (fun ix=>[(.int .i64 (.sym fun _=>(c.ts.getD ix.den.toNat t0).top)),(.sl 3 (.sym fun _=>zi ((c.ts.getD ix.den.toNat t0).ps).length) (fun jx=>[(.int .i64 (.sym fun _=>(((c.ts.getD ix.den.toNat t0).ps).getD jx.den.toNat p0).f)),(.int .i64 (.sym fun _=>(((c.ts.getD ix.den.toNat t0).ps).getD jx.den.toNat p0).el)),(.int .i64 (.sym fun _=>(((c.ts.getD ix.den.toNat t0).ps).getD jx.den.toNat p0).eh))]))]))] 27),(8,.cells [(.int .i64 (.sym fun _=>rm)),(.sl 1 (.sym fun _=>zi (ss).length) (fun ix=>[.int .i64 (.sym fun _=>(ss).getD ix.den.toNat 0)])),(.sl 1 (.sym fun _=>zi (rs).length) (fun ix=>[.int .i64 (.sym fun _=>(rs).getD ix.den.toNat 0)]))] 30)],600⟩,fun x=>c.vs.length-x.1,?_,?_⟩
  · refine⟨⟨0,by omega⟩,?_⟩
    cbv
    repeat' (first
      |with_reducible refine hold ?_ ?_
      |with_reducible refine And.intro ?_ ?_)
    all_goals first
      |trivial
      |exact qN (qE (by rfl))
      |exact qN (Fit.refl _)
      |exact qM (qL _)
      |skip
  · rintro ⟨v, hv⟩
    cbv
    repeat' (first
        |with_reducible refine hold ?_ ?_
        |with_reducible refine And.intro ?_ ?_
        |(with_reducible intro hcd;(try simp only [zA,zB,zC,zD,zE,zF,zG,zH,zI,zJ,zK,zL,zM,zN,zO,zP]at hcd);try cbv)
        |fail)
    all_goals first
      |trivial
      |((try clear c15);(try clear c42);(try clear c17);(try clear c43);(try clear c48);(try clear c19);(try clear c18);(try clear c31);(try clear c30);(try clear c45);(try clear c32);(try clear c49);((try simp only [qW]at *);(try simp only [zQ,zA,zB,zC,zD,zE,zF,zG,zH,zI,zJ,zK,zL,zM,zN,zO,zP,zR,zS,allB_t,allB_f,inB_t,inB_f,ofB_t,ofB_f,shB_t,shB_f,spB_t,spB_f]at *);first|(refine qO ?_;omega)|(simp only [Hold];omega)))
      |((try clear c15);(try clear c42);(try clear c17);(try clear c43);(try clear c48);(try clear c19);(try clear c18);(try clear c31);(try clear c30);(try clear c45);(try clear c32);(try clear c49);(exfalso;(try simp only [qW]at *);(try simp only [zQ,zA,zB,zC,zD,zE,zF,zG,zH,zI,zJ,zK,zL,zM,zN,zO,zP,zR,zS]at *);(try simp only [allB_t,allB_f,inB_t,inB_f,ofB_t,ofB_f,shB_t,shB_f,spB_t,spB_f]at *);omega))
      |skip
    · refine⟨none,[],{k:Nat // k≤c.hr.toNat+1},fun x=>⟨[(3,.own 0 0),(2,(.int .i64 (.sym fun _=>lim))),(7,.own 8 0),(9,(.sl 1 (.sym fun _=>zi c.vs.length) (fun ix=>[(.sl 1 (.sym fun _=>zi (c.hr.toNat+1)) (fun jx=>[(.int .i64 (.sym fun _=>runW rm (ss.getD ix.den.toNat 0) (rs.getD ix.den.toNat 0) jx.den.toNat))]))]))),(11,(.sl 1 (.sym fun _=>zi c.vs.length) (fun ix=>[(.sl 2 (.sym fun _=>zi (c.hr.toNat+1)) (fun jx=>[(.int .i64 (.sym fun _=>loW c (vyL c l ix.den.toNat) jx.den.toNat)),(.int .i64 (.sym fun _=>hiW c (vyL c l ix.den.toNat) jx.den.toNat))]))]))),(15,(.int .i64 (.sym fun _=>sureH c l lim))),(16,(.int .i64 (.sym fun _=>mayH c l lim))),(18,(.int .i64 (.sym fun _=>zi v))),(19,(.int .i64 (.sym fun _=>zi x.1)))],[(0,.cells [(.int .i64 (.sym fun _=>c.rl)),(.int .i64 (.sym fun _=>c.rh)),(.int .i64 (.sym fun _=>c.hr)),(.sl 4 (.sym fun _=>zi c.vs.length) (fun ix=>[(.int .i64 (.sym fun _=>(c.vs.getD ix.den.toNat v0).sl)),(.int .i64 (.sym fun _=>(c.vs.getD ix.den.toNat v0).sh)),(.int .i64 (.sym fun _=>(c.vs.getD ix.den.toNat v0).rl)),(.int .i64 (.sym fun _=>(c.vs.getD ix.den.toNat v0).rh))])),(.sl 2 (.sym fun _=>zi c.ts.length) (fun ix=>[(.int .i64 (.sym fun _=>(c.ts.getD ix.den.toNat t0).top)),(.sl 3 (.sym fun _=>zi ((c.ts.getD ix.den.toNat t0).ps).length) (fun jx=>[(.int .i64 (.sym fun _=>(((c.ts.getD ix.den.toNat t0).ps).getD jx.den.toNat p0).f)),(.int .i64 (.sym fun _=>(((c.ts.getD ix.den.toNat t0).ps).getD jx.den.toNat p0).el)),(.int .i64 (.sym fun _=>(((c.ts.getD ix.den.toNat t0).ps).getD jx.den.toNat p0).eh))]))]))] 27),(8,.cells [(.int .i64 (.sym fun _=>rm)),(.sl 1 (.sym fun _=>zi (ss).length) (fun ix=>[.int .i64 (.sym fun _=>(ss).getD ix.den.toNat 0)])),(.sl 1 (.sym fun _=>zi (rs).length) (fun ix=>[.int .i64 (.sym fun _=>(rs).getD ix.den.toNat 0)]))] 30)],700⟩,fun x=>c.hr.toNat+1-x.1,?_,?_⟩
      · refine⟨⟨0,by omega⟩,?_⟩
        cbv
        repeat' (first
          |with_reducible refine hold ?_ ?_
          |with_reducible refine And.intro ?_ ?_)
        all_goals first
          |trivial
          |exact qN (qE (by rfl))
          |exact qN (Fit.refl _)
          |exact qM (qL _)
          |skip
      · rintro⟨k,hk⟩
        cbv
        have hbd:v<c.vs.length→k<c.hr.toNat+1→loW c (vyL c l v) k≤runW rm (ss.getD v 0) (rs.getD v 0) k∧runW rm (ss.getD v 0) (rs.getD v 0) k≤hiW c (vyL c l v) k:=fun a b=>right_bd hQ a b
        have hsu:v<c.vs.length→k<c.hr.toNat+1→(k:Int)=sureH c l lim→runW rm (ss.getD v 0) (rs.getD v 0) k≤lim:=fun a b e=>right_sure hQ a b e
        have hst:0<k→v<c.vs.length→min rm (runW rm (ss.getD v 0) (rs.getD v 0) (zi k-1).toNat)≤runW rm (ss.getD v 0) (rs.getD v 0) k∧runW rm (ss.getD v 0) (rs.getD v 0) k≤max rm (runW rm (ss.getD v 0) (rs.getD v 0) (zi k-1).toNat):=fun a b=>by
          have:=right_step hQ (v:=v) (k:=k-1) b
          rw [show k-1+1=k by omega]at this
          rw [show(zi k-1).toNat=k-1 by simp only [zi_den];omega]
          exact this
        cbv
        repeat' (first
            |with_reducible refine hold ?_ ?_
            |with_reducible refine And.intro ?_ ?_
            |(with_reducible intro hcd;(try simp only [zA,zB,zC,zD,zE,zF,zG,zH,zI,zJ,zK,zL,zM,zN,zO,zP]at hcd);try cbv)
            |fail)
        all_goals first
          |((try clear c15);(try clear c42);(try clear c17);(try clear c43);(try clear c48);(try clear c19);(try clear c18);(try clear c31);(try clear c30);(try clear c45);(try clear c32);(try clear c49);((try simp only [qW]at *);(try simp only [zQ,zA,zB,zC,zD,zE,zF,zG,zH,zI,zJ,zK,zL,zM,zN,zO,zP,zR,zS,allB_t,allB_f,inB_t,inB_f,ofB_t,ofB_f,shB_t,shB_f,spB_t,spB_f]at *);first|(refine qO ?_;omega)|(simp only [Hold];omega)))
          |((try clear c15);(try clear c42);(try clear c17);(try clear c43);(try clear c48);(try clear c19);(try clear c18);(try clear c31);(try clear c30);(try clear c45);(try clear c32);(try clear c49);(exfalso;(try simp only [qW]at *);(try simp only [zQ,zA,zB,zC,zD,zE,zF,zG,zH,zI,zJ,zK,zL,zM,zN,zO,zP,zR,zS]at *);(try simp only [allB_t,allB_f,inB_t,inB_f,ofB_t,ofB_f,shB_t,shB_f,spB_t,spB_f]at *);omega))
          |((try clear c15);(try clear c42);(try clear c17);(try clear c43);(try clear c48);(try clear c19);(try clear c18);(try clear c31);(try clear c30);(try clear c45);(try clear c32);(try clear c49);((try simp only [zQ,zA,zB,zC,zD,zE,zF,zG,zH,zI,zJ,zK,zL,zM,zN,zO,zP,zR,zS]at *);refine⟨⟨k+1,by omega⟩,by simp only [];omega,?_⟩;cbv;(repeat' (first|with_reducible refine hold ?_ ?_|with_reducible refine And.intro ?_ ?_));(all_goals first|trivial|exact qN (qE (by rfl))|exact qN (qG (by rfl))|exact qN (Fit.refl _)|exact qM (qL _)|(refine qN (qE ?_);(try simp only [qW]at *);simp only [zQ,zA,zB,zC,zD,zE,zF,zG,zH,zI,zJ,zK,zL,zM,zN,zO,zP,zR,zS]at *;omega)|(refine qM (qK ?_);(repeat' (first|exact qA|exact qB|refine qC ?_ rfl ?_|refine qD ?_ ?_|exact qE (by rfl)|exact qG (by rfl)|exact Fit.refl _|exact qH _|(refine qE ?_;(try simp only [qW]at *);simp only [zQ,zA,zB,zC,zD,zE,zF,zG,zH,zI,zJ,zK,zL,zM,zN,zO,zP,zR,zS]at *;omega)));done)|skip)))
          |((try clear c15);(try clear c42);(try clear c17);(try clear c43);(try clear c48);(try clear c19);(try clear c18);(try clear c31);(try clear c30);(try clear c45);(try clear c32);(try clear c49);((try simp only [zQ,zA,zB,zC,zD,zE,zF,zG,zH,zI,zJ,zK,zL,zM,zN,zO,zP,zR,zS]at *);refine⟨⟨v+1,by omega⟩,by simp only [];omega,?_⟩;cbv;(repeat' (first|with_reducible refine hold ?_ ?_|with_reducible refine And.intro ?_ ?_));(all_goals first|trivial|exact qN (qE (by rfl))|exact qN (qG (by rfl))|exact qN (Fit.refl _)|exact qM (qL _)|(refine qN (qE ?_);(try simp only [qW]at *);simp only [zQ,zA,zB,zC,zD,zE,zF,zG,zH,zI,zJ,zK,zL,zM,zN,zO,zP,zR,zS]at *;omega)|(refine qM (qK ?_);(repeat' (first|exact qA|exact qB|refine qC ?_ rfl ?_|refine qD ?_ ?_|exact qE (by rfl)|exact qG (by rfl)|exact Fit.refl _|exact qH _|(refine qE ?_;(try simp only [qW]at *);simp only [zQ,zA,zB,zC,zD,zE,zF,zG,zH,zI,zJ,zK,zL,zM,zN,zO,zP,zR,zS]at *;omega)));done)|skip)))
          |skip
    · refine ⟨none,[],{k:Nat // k≤c.hr.toNat+1},fun x=>⟨[(3,.own 0 0),(2,(.int .i64 (.sym fun _=>lim))),(7,.own 8 0),(9,(.sl 1 (.sym fun _=>zi c.vs.length) (fun ix=>[(.sl 1 (.sym fun _=>zi (c.hr.toNat+1)) (fun jx=>[(.int .i64 (.sym fun _=>runW rm (ss.getD ix.den.toNat 0) (rs.getD ix.den.toNat 0) jx.den.toNat))]))]))),(11,(.sl 1 (.sym fun _=>zi c.vs.length) (fun ix=>[(.sl 2 (.sym fun _=>zi (c.hr.toNat+1)) (fun jx=>[(.int .i64 (.sym fun _=>loW c (vyL c l ix.den.toNat) jx.den.toNat)),(.int .i64 (.sym fun _=>hiW c (vyL c l ix.den.toNat) jx.den.toNat))]))]))),(15,(.int .i64 (.sym fun _=>sureH c l lim))),(16,(.int .i64 (.sym fun _=>mayH c l lim))),(20,(.int .i64 (.sym fun _=>zi x.1)))],[(0,.cells [(.int .i64 (.sym fun _=>c.rl)),(.int .i64 (.sym fun _=>c.rh)),(.int .i64 (.sym fun _=>c.hr)),(.sl 4 (.sym fun _=>zi c.vs.length) (fun ix=>[(.int .i64 (.sym fun _=>(c.vs.getD ix.den.toNat v0).sl)),(.int .i64 (.sym fun _=>(c.vs.getD ix.den.toNat v0).sh)),(.int .i64 (.sym fun _=>(c.vs.getD ix.den.toNat v0).rl)),(.int .i64 (.sym fun _=>(c.vs.getD ix.den.toNat v0).rh))])),(.sl 2 (.sym fun _=>zi c.ts.length) (fun ix=>[(.int .i64 (.sym fun _=>(c.ts.getD ix.den.toNat t0).top)),(.sl 3 (.sym fun _=>zi ((c.ts.getD ix.den.toNat t0).ps).length) (fun jx=>[(.int .i64 (.sym fun _=>(((c.ts.getD ix.den.toNat t0).ps).getD jx.den.toNat p0).f)),(.int .i64 (.sym fun _=>(((c.ts.getD ix.den.toNat t0).ps).getD jx.den.toNat p0).el)),(.int .i64 (.sym fun _=>(((c.ts.getD ix.den.toNat t0).ps).getD jx.den.toNat p0).eh))]))]))] 27),(8,.cells [(.int .i64 (.sym fun _=>rm)),(.sl 1 (.sym fun _=>zi (ss).length) (fun ix=>[.int .i64 (.sym fun _=>(ss).getD ix.den.toNat 0)])),(.sl 1 (.sym fun _=>zi (rs).length) (fun ix=>[.int .i64 (.sym fun _=>(rs).getD ix.den.toNat 0)]))] 30)],800⟩,fun x=>c.hr.toNat+1-x.1,?_,?_⟩
      · refine⟨⟨0,by omega⟩,?_⟩
        cbv
        repeat' (first
          |with_reducible refine hold ?_ ?_
          |with_reducible refine And.intro ?_ ?_)
        all_goals first
          |trivial
          |exact qN (qE (by rfl))
          |exact qN (Fit.refl _)
          |exact qM (qL _)
          |skip
      · rintro ⟨k,hk⟩
        cbv
        repeat' (first
            |with_reducible refine And.intro ?_ ?_
            |(with_reducible intro hcd;(try simp only [zA,zB,zC,zD,zE,zF,zG,zH,zI,zJ,zK,zL,zM,zN,zO,zP]at hcd);try cbv)
            | (refine qQ ?_ (c15) ?hfit
               case hfit=>((repeat' (first|exact qB|refine qD ?_ ?_|exact qE (by rfl)|exact qG (by rfl)|exact Fit.refl _|exact qA|refine qC ?_ rfl ?_));done)
               try cbv)
            |fail)
        all_goals first
          |((try clear c15);(try clear c42);(try clear c17);(try clear c43);(try clear c48);(try clear c19);(try clear c18);(try clear c31);(try clear c30);(try clear c45);(try clear c32);(try clear c49);(subst hR;(repeat' (first|exact qA|exact qB|refine qC ?_ rfl ?_|refine qD ?_ ?_|exact qE (by rfl)|exact qG (by rfl)|exact Fit.refl _|exact qH _|(refine qE ?_;(try simp only [qW]at *);simp only [zQ,zA,zB,zC,zD,zE,zF,zG,zH,zI,zJ,zK,zL,zM,zN,zO,zP,zR,zS]at *;omega)));done))
          |skip
        all_goals (
          refine⟨none,[],{v:Nat // v≤c.vs.length},fun x=>⟨[(3,.own 0 0),(2,(.int .i64 (.sym fun _=>lim))),(7,.own 8 0),(9,(.sl 1 (.sym fun _=>zi c.vs.length) (fun ix=>[(.sl 1 (.sym fun _=>zi (c.hr.toNat+1)) (fun jx=>[(.int .i64 (.sym fun _=>runW rm (ss.getD ix.den.toNat 0) (rs.getD ix.den.toNat 0) jx.den.toNat))]))]))),(11,(.sl 1 (.sym fun _=>zi c.vs.length) (fun ix=>[(.sl 2 (.sym fun _=>zi (c.hr.toNat+1)) (fun jx=>[(.int .i64 (.sym fun _=>loW c (vyL c l ix.den.toNat) jx.den.toNat)),(.int .i64 (.sym fun _=>hiW c (vyL c l ix.den.toNat) jx.den.toNat))]))]))),(15,(.int .i64 (.sym fun _=>sureH c l lim))),(16,(.int .i64 (.sym fun _=>mayH c l lim))),(20,(.int .i64 (.sym fun _=>zi k))),(21,(.bool (.sym fun _=>allB (fun v=>decide (runW rm (ss.getD v 0) (rs.getD v 0) k≤lim)) x.1))),(22,(.int .i64 (.sym fun _=>zi x.1)))],[(0,.cells [(.int .i64 (.sym fun _=>c.rl)),(.int .i64 (.sym fun _=>c.rh)),(.int .i64 (.sym fun _=>c.hr)),(.sl 4 (.sym fun _=>zi c.vs.length) (fun ix=>[(.int .i64 (.sym fun _=>(c.vs.getD ix.den.toNat v0).sl)),(.int .i64 (.sym fun _=>(c.vs.getD ix.den.toNat v0).sh)),(.int .i64 (.sym fun _=>(c.vs.getD ix.den.toNat v0).rl)),(.int .i64 (.sym fun _=>(c.vs.getD ix.den.toNat v0).rh))])),(.sl 2 (.sym fun _=>zi c.ts.length) (fun ix=>[(.int .i64 (.sym fun _=>(c.ts.getD ix.den.toNat t0).top)),(.sl 3 (.sym fun _=>zi ((c.ts.getD ix.den.toNat t0).ps).length) (fun jx=>[(.int .i64 (.sym fun _=>(((c.ts.getD ix.den.toNat t0).ps).getD jx.den.toNat p0).f)),(.int .i64 (.sym fun _=>(((c.ts.getD ix.den.toNat t0).ps).getD jx.den.toNat p0).el)),(.int .i64 (.sym fun _=>(((c.ts.getD ix.den.toNat t0).ps).getD jx.den.toNat p0).eh))]))]))] 27),(8,.cells [(.int .i64 (.sym fun _=>rm)),(.sl 1 (.sym fun _=>zi (ss).length) (fun ix=>[.int .i64 (.sym fun _=>(ss).getD ix.den.toNat 0)])),(.sl 1 (.sym fun _=>zi (rs).length) (fun ix=>[.int .i64 (.sym fun _=>(rs).getD ix.den.toNat 0)]))] 30)],900⟩,fun x=>c.vs.length-x.1,?_,?_⟩
          · refine⟨⟨0,by omega⟩,?_⟩
            cbv
            repeat' (first
              |with_reducible refine hold ?_ ?_
              |with_reducible refine And.intro ?_ ?_)
            all_goals first
              |trivial
              |exact qN (qE (by rfl))
              |exact qN (qG (by rfl))
              |exact qN (Fit.refl _)
              |exact qM (qL _)
              |skip
          · rintro⟨v,hv⟩
            cbv
            repeat' (first
                |with_reducible refine hold ?_ ?_
                |with_reducible refine And.intro ?_ ?_
                |(with_reducible intro hcd;(try simp only [zA,zB,zC,zD,zE,zF,zG,zH,zI,zJ,zK,zL,zM,zN,zO,zP]at hcd);try cbv)
                |fail)
            all_goals first
              |((try clear c15);(try clear c42);(try clear c17);(try clear c43);(try clear c48);(try clear c19);(try clear c18);(try clear c31);(try clear c30);(try clear c45);(try clear c32);(try clear c49);((try simp only [qW]at *);(try simp only [zQ,zA,zB,zC,zD,zE,zF,zG,zH,zI,zJ,zK,zL,zM,zN,zO,zP,zR,zS,allB_t,allB_f,inB_t,inB_f,ofB_t,ofB_f,shB_t,shB_f,spB_t,spB_f]at *);first|(refine qO ?_;omega)|(simp only [Hold];omega)))
              |((try clear c15);(try clear c42);(try clear c17);(try clear c43);(try clear c48);(try clear c19);(try clear c18);(try clear c31);(try clear c30);(try clear c45);(try clear c32);(try clear c49);((try simp only [zQ,zA,zB,zC,zD,zE,zF,zG,zH,zI,zJ,zK,zL,zM,zN,zO,zP,zR,zS]at *);refine⟨⟨v+1,by omega⟩,by simp only [];omega,?_⟩;cbv;(repeat' (first|with_reducible refine hold ?_ ?_|with_reducible refine And.intro ?_ ?_));(all_goals first|trivial|exact qN (qE (by rfl))|exact qN (qG (by rfl))|exact qN (Fit.refl _)|exact qM (qL _)|(refine qN (qE ?_);(try simp only [qW]at *);simp only [zQ,zA,zB,zC,zD,zE,zF,zG,zH,zI,zJ,zK,zL,zM,zN,zO,zP,zR,zS]at *;omega)|(refine qM (qK ?_);(repeat' (first|exact qA|exact qB|refine qC ?_ rfl ?_|refine qD ?_ ?_|exact qE (by rfl)|exact qG (by rfl)|exact Fit.refl _|exact qH _|(refine qE ?_;(try simp only [qW]at *);simp only [zQ,zA,zB,zC,zD,zE,zF,zG,zH,zI,zJ,zK,zL,zM,zN,zO,zP,zR,zS]at *;omega)));done)|(refine qN (qG (allB_end (by assumption))))|(refine qN (qG (allB_go (p:=(fun v=>decide (runW rm (ss.getD v 0) (rs.getD v 0) k≤lim))) (by assumption))))|skip)))
              |((try clear c15);(try clear c42);(try clear c17);(try clear c43);(try clear c48);(try clear c19);(try clear c18);(try clear c31);(try clear c30);(try clear c45);(try clear c32);(try clear c49);(exfalso;(have hve:v=c.vs.length:=(by((try simp only [qW]at *);(try simp only [zQ,zA,zB,zC,zD,zE,zF,zG,zH,zI,zJ,zK,zL,zM,zN,zO,zP,zR,zS]at *);omega)));(have hall:allB (fun v=>decide (runW rm (ss.getD v 0) (rs.getD v 0) k≤lim)) v=true:=by assumption);rw [hve,allB_t]at hall;exact right_may hQ (lim:=lim) (k:=k) (by((try simp only [qW]at *);(try simp only [zQ,zA,zB,zC,zD,zE,zF,zG,zH,zI,zJ,zK,zL,zM,zN,zO,zP,zR,zS]at *);omega)) (by((try simp only [qW]at *);(try simp only [zQ,zA,zB,zC,zD,zE,zF,zG,zH,zI,zJ,zK,zL,zM,zN,zO,zP,zR,zS]at *);omega)) (fun u hu=>of_decide_eq_true (hall u hu))))
              |((try clear c15);(try clear c42);(try clear c17);(try clear c43);(try clear c48);(try clear c19);(try clear c18);(try clear c31);(try clear c30);(try clear c45);(try clear c32);(try clear c49);((try simp only [zQ,zA,zB,zC,zD,zE,zF,zG,zH,zI,zJ,zK,zL,zM,zN,zO,zP,zR,zS]at *);refine⟨⟨k+1,by omega⟩,by simp only [];omega,?_⟩;cbv;(repeat' (first|with_reducible refine hold ?_ ?_|with_reducible refine And.intro ?_ ?_));(all_goals first|trivial|exact qN (qE (by rfl))|exact qN (qG (by rfl))|exact qN (Fit.refl _)|exact qM (qL _)|(refine qN (qE ?_);(try simp only [qW]at *);simp only [zQ,zA,zB,zC,zD,zE,zF,zG,zH,zI,zJ,zK,zL,zM,zN,zO,zP,zR,zS]at *;omega)|(refine qM (qK ?_);(repeat' (first|exact qA|exact qB|refine qC ?_ rfl ?_|refine qD ?_ ?_|exact qE (by rfl)|exact qG (by rfl)|exact Fit.refl _|exact qH _|(refine qE ?_;(try simp only [qW]at *);simp only [zQ,zA,zB,zC,zD,zE,zF,zG,zH,zI,zJ,zK,zL,zM,zN,zO,zP,zR,zS]at *;omega)));done)|skip)))
              |skip)
theorem law11 (c:Clr)(ws:List Int)(lim:Int)(hw:∀i:Nat,0≤ws.getD i 0∧ws.getD i 0≤255):FSpec Try.prog 11 [(clrS c),(.sl 1 (.sym fun _=>zi (ws).length) (fun ix=>[.int .u8 (.sym fun _=>(ws).getD ix.den.toNat 0)])),(.int .i64 (.sym fun _=>lim))] [] (fun r _=>r = .bool (.lit true)):=by
  cases h:readyB c with
  |false=>exact law11t c ws lim h
  | true=>
    obtain⟨hT,hC⟩:=ready_t.1 h
    have ht:=pk_truth hC hw
    exact law11y c ws lim _ _ _ _ hw hT rfl rfl rfl rfl ⟨hC,lk_ok hC hw,ht,fun v hv=>lk_fit hC hw ht hv⟩
end Go.Proofs.Yteelocfbbhchcaa
