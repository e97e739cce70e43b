/- HeatHours: what the law computes. No condition. -/
import Derived.Test.YteelocfbbhchcaaT6
set_option linter.unusedVariables false
set_option linter.unusedSimpArgs false
set_option linter.deprecated false
set_option linter.all false

namespace Go.Proofs.Yteelocfbbhchcaa
open Go Go.Eng Go.Proofs
set_option maxRecDepth 10000
def readyB (c:Clr):Bool:=thinB c 0&&decide (faultC c=0)
theorem ready_t {c:Clr}:readyB c=true↔ThinC c 0∧COk c:=by
  unfold readyB
  rw [Bool.and_eq_true,decide_eq_true_eq,thin_iff,faultC_iff]
theorem ready_ok {c:Clr}(h:readyB c=true):COk c:=(ready_t.1 h).2
end Go.Proofs.Yteelocfbbhchcaa

namespace Go.Proofs.Yteelocfbbhchcaa
open Go Go.Eng Go.Proofs
set_option maxRecDepth 10000
theorem vatA_ok {c:Clr}(hc:COk c) {v:Int}(h0:0≤v)(h1:v<c.vs.length):vatOk (vatA c v):=hc.ok.v v.toNat (by omega)
theorem ways_fit {c:Clr} {l:List LookT} {o:List Int} {rm v:Int}(hv:vatOk (vatA c v)) {w:Int×Int}(h:w∈waysC c l v rm o):FitV c l o rm v w.1 w.2:=by
  have hv':=hv
  unfold vatOk at hv
  have:=mem_ways (by omega) h
  exact⟨this.2.1,this.2.2.1,this.2.2.2.1,by omega,this.1⟩
theorem lo_le {c:Clr} {l:List LookT} {rm v st rt:Int} {rs:List Int}(hv:vatOk (vatA c v))(hr:rm∈rs)(h:FitV c l [] rm v st rt)(k:Nat):loW c (wysL c l v rs) k≤atW c.hr rm st rt k:=by
  obtain⟨s0,s1,r0,r1,hf⟩:=h
  unfold vatOk at hv
  obtain⟨a,ha,hle⟩:=ways_lo (p:=fitW c l v rm []) (d:=difW c rm) (n:=((vatA c v).rh-(vatA c v).rl+1).toNat) s0 s1 r0 (by omega) hf
  have:=mnL_le (wyA c k) (mem_wysL.2 ⟨rm,hr,(a,rt),ha,rfl⟩)
  have h2:=at_mono (hr:=c.hr) (rt:=rt) (by omega) (by omega) (Int.le_refl rm) hle k
  exact Int.le_trans this h2
theorem hi_ge {c:Clr} {l:List LookT} {rm v st rt:Int} {rs:List Int}(hv:vatOk (vatA c v))(hr:rm∈rs)(h:FitV c l [] rm v st rt) {k:Nat}(hk:k≤8):atW c.hr rm st rt k≤hiW c (wysL c l v rs) k:=by
  obtain⟨s0,s1,r0,r1,hf⟩:=h
  unfold vatOk at hv
  obtain⟨a,b,ha,hle,hd⟩:=ways_hi (p:=fitW c l v rm []) (d:=difW c rm) (n:=((vatA c v).rh-(vatA c v).rl+1).toNat) s0 s1 r0 (by omega) hf
  have h1:=mxL_ge (wyA c k) (mem_wysL.2 ⟨rm,hr,(a,rt),ha,rfl⟩)
  have h2:=at_mono (hr:=c.hr) (rt:=rt) (by omega) (by omega) (Int.le_refl rm) hle k
  have h3:atW c.hr rm b rt k=atW c.hr rm a rt k:=by
    rcases hd with rfl|hd
    · rfl
    · exact(difW_no hd k hk).symm
  rw [h3]at h2
  exact Int.le_trans h2 h1
theorem hi_is {c:Clr} {l:List LookT} {v:Int} {rs:List Int}(hv:vatOk (vatA c v))(hne:wysL c l v rs≠[])(k:Nat):∃rm st rt,rm∈rs∧FitV c l [] rm v st rt∧hiW c (wysL c l v rs) k=atW c.hr rm st rt k:=by
  obtain⟨x,hx,e⟩:=mxL_is (wyA c k) hne
  obtain⟨rm,hm,w,hw,rfl⟩:=mem_wysL.1 hx
  exact⟨rm,w.1,w.2,hm,ways_fit hv hw,e⟩
theorem ne_of_empty {α:Type} {L:List α}(h:L.isEmpty=false):L≠[]:=fun e=>by rw [e]at h;cases h
theorem vy_ne {c:Clr} {l:List LookT}(h:askE c l=0) {v:Nat}(hv:v<c.vs.length):vyL c l v≠[]:=ne_of_empty (vyL_ne h hv)
theorem oy_ne {c:Clr} {l:List LookT} {rm:Int}(h:roomB c l [] rm=true) {v:Nat}(hv:v<c.vs.length):oyL c l rm v≠[]:=ne_of_empty (oyL_ne h hv)
theorem hi_room {c:Clr} {l:List LookT}(hc:COk c)(h:askE c l=0) {v:Nat}(hv:v<c.vs.length) {k:Nat}(hk:k≤8) {b:Int}:
    hiW c (vyL c l v) k≤b↔∀rm,rm∈roomsL c l []→hiW c (oyL c l rm v) k≤b:=by
  have vo:=vatA_ok hc (v:=(v:Int)) (by omega) (by omega)
  constructor
  · intro hb rm hm
    obtain⟨rm',st,rt,hm',hf,e⟩:=hi_is vo (oy_ne ((mem_rooms hc.ok.r1).1 hm).2.2 hv) k
    rw [List.mem_singleton.1 hm']at hf e
    have:=hi_ge vo hm hf hk
    unfold vyL at hb
    unfold oyL
    omega
  · intro hb
    obtain⟨rm,st,rt,hm,hf,e⟩:=hi_is vo (vy_ne h hv) k
    have h1:=hb rm hm
    have h2:=hi_ge vo (rs:=[rm]) (List.mem_singleton.2 rfl) hf hk
    unfold oyL at h1
    unfold vyL
    omega
def hiV (c:Clr)(l:List LookT)(lim:Int)(k v:Nat):Bool:=decide (hiW c (vyL c l v) k≤lim)
theorem sure_is {c:Clr} {l:List LookT}(hc:COk c)(h:askE c l=0) {k:Nat}(hk:k≤8)(lim:Int):sureB c l lim k=allB (hiV c l lim k) c.vs.length:=by
  apply Bool.eq_iff_iff.2
  unfold sureB
  rw [allB_t,allB_t]
  constructor
  · intro q v hv
    refine decide_eq_true ((hi_room hc h hv hk).2 fun rm hm=> ?_)
    obtain⟨i,hi,e⟩:=getD_mem hm
    have:=q i hi
    unfold coolT at this
    rw [allB_t,e]at this
    exact of_decide_eq_true (this v hv)
  · intro q i hi
    unfold coolT
    rw [allB_t]
    intro v hv
    exact decide_eq_true ((hi_room hc h hv hk).1 (of_decide_eq_true (q v hv)) _ (mem_getD hi))
theorem may_iff {c:Clr} {l:List LookT} {k:Nat} {lim:Int}:mayB c l lim k=true↔∃rm,rm∈roomsL c l []∧∀v,v<c.vs.length→loW c (oyL c l rm v) k≤lim:=by
  unfold mayB
  rw [decide_eq_true_eq,fidx_iff]
  constructor
  · rintro⟨j,_,hj,q⟩
    refine⟨_,mem_getD (L:=roomsL c l []) (k:=j) (by omega),fun v hv=> ?_⟩
    simp only [Bool.not_eq_false']at q
    unfold coolM at q
    rw [allB_t]at q
    exact of_decide_eq_true (q v hv)
  · rintro⟨rm,hm,q⟩
    obtain⟨i,hi,e⟩:=getD_mem hm
    refine⟨i,by omega,by omega,?_⟩
    simp only [Bool.not_eq_false',e]
    unfold coolM
    rw [allB_t]
    exact fun v hv=>decide_eq_true (q v hv)
theorem lo_hi {c:Clr} {l:List LookT}(hc:COk c) {rm:Int}(h:roomB c l [] rm=true) {v:Nat}(hv:v<c.vs.length) {k:Nat}(hk:k≤8):loW c (oyL c l rm v) k≤hiW c (oyL c l rm v) k:=by
  have vo:=vatA_ok hc (v:=(v:Int)) (by omega) (by omega)
  obtain⟨rm',st,rt,hm,hf,e⟩:=hi_is vo (oy_ne h hv) k
  have:=lo_le vo hm hf k
  unfold oyL at *
  omega
theorem sure_may {c:Clr} {l:List LookT}(hc:COk c)(h:askE c l=0) {k:Nat}(hk:k≤8) {lim:Int}(q:sureB c l lim k=true):mayB c l lim k=true:=by
  rw [sure_is hc h hk,allB_t]at q
  obtain⟨rm,hm⟩:=some_mem (show 0<(roomsL c l []).length by have:=(askE_ok h).2;omega)
  refine may_iff.2 ⟨rm,hm,fun v hv=> ?_⟩
  have h1:=(hi_room hc h hv hk).1 (of_decide_eq_true (q v hv)) rm hm
  have h2:=lo_hi hc ((mem_rooms hc.ok.r1).1 hm).2.2 hv hk
  omega
theorem sure_mono {c:Clr} {l:List LookT}(hc:COk c)(h:askE c l=0) {k:Nat}(hk:k≤8) {a b:Int}(hab:a≤b)(q:sureB c l a k=true):sureB c l b k=true:=by
  rw [sure_is hc h hk,allB_t]at q⊢
  exact fun v hv=>decide_eq_true (Int.le_trans (of_decide_eq_true (q v hv)) hab)
theorem may_mono {c:Clr} {l:List LookT} {k:Nat} {a b:Int}(hab:a≤b)(q:mayB c l a k=true):mayB c l b k=true:=by
  rw [may_iff]at q⊢
  obtain⟨rm,hm,q⟩:=q
  exact⟨rm,hm,fun v hv=>Int.le_trans (q v hv) hab⟩
theorem hour_le {p q:Nat→Bool} {n:Nat}(h:∀k,k<n→p k=true→q k=true):hourN p n = -1∨(0≤hourN q n∧hourN q n≤hourN p n):=by
  rcases hour_spec p n with⟨e,_⟩|⟨a,ha,hlt,hp,_⟩
  · exact .inl e
  · right
    rcases hour_spec q n with⟨_,hf⟩|⟨b,hb,_,_,hbef⟩
    · have:=h a hlt hp;rw [hf a hlt]at this;cases this
    · have:b≤a:=by
        refine Nat.le_of_not_lt fun hlt'=> ?_
        have h1:=hbef a hlt'
        rw [h a hlt hp]at h1;cases h1
      omega
theorem hours_law {c:Clr} {l:List LookT}(hc:COk c)(h:askE c l=0) {a b:Int}(hab:a≤b):
    (sureH c l a = -1∨(0≤mayH c l a∧mayH c l a≤sureH c l a∧0≤sureH c l b∧sureH c l b≤sureH c l a))∧(mayH c l a = -1∨(0≤mayH c l b∧mayH c l b≤mayH c l a)):=by
  have h8:=hc.ok.h8
  have e:∀x,sureH c l x=hourN (sureB c l x) (c.hr.toNat+1):=fun x=>by unfold sureH;rw [if_pos h]
  have e':∀x,mayH c l x=hourN (mayB c l x) (c.hr.toNat+1):=fun x=>by unfold mayH;rw [if_pos h]
  rw [e,e,e',e']
  have h1:=hour_le (p:=sureB c l a) (q:=mayB c l a) (n:=c.hr.toNat+1) fun k hk q=>sure_may hc h (by omega) q
  have h2:=hour_le (p:=sureB c l a) (q:=sureB c l b) (n:=c.hr.toNat+1) fun k hk q=>sure_mono hc h (by omega) hab q
  have h3:=hour_le (p:=mayB c l a) (q:=mayB c l b) (n:=c.hr.toNat+1) fun k hk q=>may_mono hab q
  omega
theorem hour_at {c:Clr} {l:List LookT}(hc:COk c)(h:askE c l=0) {a:Int} {k:Nat}(hk:(k:Int)≤c.hr)(q:sureH c l a = -1∨(k:Int)≤sureH c l a):allB (hiV c l a k) c.vs.length=decide ((k:Int)=sureH c l a):=by
  have h8:=hc.ok.h8
  have e:sureH c l a=hourN (sureB c l a) (c.hr.toNat+1):=by unfold sureH;rw [if_pos h]
  rw [←sure_is hc h (by omega)]
  rw [e]at q⊢
  rcases hour_spec (sureB c l a) (c.hr.toNat+1)with⟨e1,hf⟩|⟨b,hb,hlt,hp,hbef⟩
  · rw [hf k (by omega),e1,decide_eq_false (by omega)]
  · rw [hb]at q⊢
    rcases Nat.lt_or_ge k b with hlt'|hge
    · rw [hbef k hlt',decide_eq_false (by omega)]
    · have:k=b:=by omega
      subst this
      rw [hp,decide_eq_true rfl]
end Go.Proofs.Yteelocfbbhchcaa

namespace Go.Proofs.Yteelocfbbhchcaa
open Go Go.Eng Go.Proofs
set_option maxRecDepth 10000
theorem ready42 (c:Clr):FSpec Try.prog 42 [(clrS c)] [] (fun r _=>r=(.bool (.sym fun _=>readyB c))):=by
  have c14:=thin14 c []
  have c47:=fault47 c
  refine FSpec.is fun R hR=>qX (sc:=sc42) tyok mix Try.func42 rfl Try.call42 (by kernel_rfl) (by kernel_rfl) ?_
  generalize Try.prog=P at c14 c47⊢
  cbv
  repeat' (first
      |with_reducible refine And.intro ?_ ?_
      |(with_reducible intro hcd;(try simp only [zA,zB,zC,zD,zE,zF,zG,zH,zI,zJ,zK,zL,zM,zN,zO,zP]at hcd);try cbv)
      | (refine qQ ?_ (c14) ?hfit
         case hfit=>((refine qD (Fit.refl _) (qD (qP rfl) qB));done)
         try cbv)
      | (refine qQ ?_ (c47) ?hfit
         case hfit=>((repeat' (first|exact qB|refine qD ?_ ?_|exact qE (by rfl)|exact qG (by rfl)|exact Fit.refl _|exact qA|refine qC ?_ rfl ?_));done)
         try cbv)
      |fail)
  all_goals first
    |(subst hR;(refine qG ?_;(try simp only [qW]at *);(try simp only [zQ,zA,zB,zC,zD,zE,zF,zG,zH,zI,zJ,zK,zL,zM,zN,zO,zP,zR,zS]at *);unfold readyB;(try simp only [List.length_nil]at *);simp_all;done);done)
    |skip
end Go.Proofs.Yteelocfbbhchcaa

namespace Go.Proofs.Yteelocfbbhchcaa
open Go Go.Eng Go.Proofs
set_option maxRecDepth 10000
theorem looked_z {c:Clr} {l:List LookT}(hC:COk c)(h:lookF c l=0):lookedF c l=0:=by unfold lookedF;rw [if_pos (faultC_iff.2 hC)];exact h
theorem ask_11 {c:Clr} {l:List LookT}(hC:COk c)(h:lookF c l=0)(h':¬askE c l=0):askE c l=11:=by
  unfold askE at *
  rw [if_pos (looked_z hC h)]at *
  split at h'<;>rename_i q
  · rw [if_pos q]
  · exact absurd rfl h'
theorem law9t (c:Clr)(l:List LookT)(n y:Int)(hn: -32768≤n∧n≤32767)(hy:0≤y∧y≤255)(h:¬(readyB c=true∧lookF c l=0)):FSpec Try.prog 9 [(clrS c),(lksS l),(.int .i16 (.sym fun _=>n)),(.int .u8 (.sym fun _=>y))] [] (fun r _=>r=(.bool (.lit true))):=by
  have c15:=awake15
  have c42:=ready42 c
  have c44:=fun h:readyB c=true=>lookfault44 c l (ready_ok h).fewT
  refine FSpec.is fun R hR=>qX (sc:=sc9) tyok mix Try.func9 rfl Try.call9 (by kernel_rfl) (by kernel_rfl) ?_
  generalize Try.prog=P at c15 c42 c44⊢
  cbv
  repeat' (first
      |with_reducible refine hold ?_ ?_
      |with_reducible refine And.intro ?_ ?_
      |(with_reducible intro hcd;(try simp only [zA,zB,zC,zD,zE,zF,zG,zH,zI,zJ,zK,zL,zM,zN,zO,zP]at hcd);try cbv)
      | (refine qQ ?_ (c42) ?hfit
         case hfit=>((repeat' (first|exact qB|refine qD ?_ ?_|exact qE (by rfl)|exact qG (by rfl)|exact Fit.refl _|exact qA|refine qC ?_ rfl ?_));done)
         try cbv)
      | (refine qQ ?_ (c44 (show Hold _ from ?_)) ?hfit
         case hfit=>((repeat' (first|exact qB|refine qD ?_ ?_|exact qE (by rfl)|exact qG (by rfl)|exact Fit.refl _|exact qA|refine qC ?_ rfl ?_));done)
         try cbv)
      | (refine qQ ?_ (c15) ?hfit
         case hfit=>((repeat' (first|exact qB|refine qD ?_ ?_|exact qE (by rfl)|exact qG (by rfl)|exact Fit.refl _|exact qA|refine qC ?_ rfl ?_));done)
         try cbv)
      |fail)
  all_goals first
    |trivial
    |((try simp only [qW]at *);(try simp only [zQ,zA,zB,zC,zD,zE,zF,zG,zH,zI,zJ,zK,zL,zM,zN,zO,zP,zR,zS,allB_t,allB_f,inB_t,inB_f,ofB_t,ofB_f,shB_t,shB_f,spB_t,spB_f]at *);first|(refine qO ?_;omega)|(simp only [Hold];omega))
    |(subst hR;(repeat' (first|exact qA|exact qB|refine qC ?_ rfl ?_|refine qD ?_ ?_|exact qE (by rfl)|exact qG (by rfl)|exact Fit.refl _|exact qH _|(refine qE ?_;(try simp only [qW]at *);simp only [zQ,zA,zB,zC,zD,zE,zF,zG,zH,zI,zJ,zK,zL,zM,zN,zO,zP,zR,zS]at *;omega)));done)
    |(exfalso;(try simp only [qW]at *);(try simp only [zQ,zA,zB,zC,zD,zE,zF,zG,zH,zI,zJ,zK,zL,zM,zN,zO,zP,zR,zS]at *);exact h ⟨by assumption,by omega⟩)
    |skip
theorem law9n (c:Clr)(l:List LookT)(n y:Int)(hn: -32768≤n∧n≤32767)(hy:0≤y∧y≤255)(hT:ThinC c 0)(hC:COk c)(hL:lookF c l=0)(hA:¬askE c l=0):FSpec Try.prog 9 [(clrS c),(lksS l),(.int .i16 (.sym fun _=>n)),(.int .u8 (.sym fun _=>y))] [] (fun r _=>r=(.bool (.lit true))):=by
  have c15:=awake15
  have c42:=ready42 c
  have c44:=lookfault44 c l hC.fewT
  have c17:=cellar17 c (by have:=hT.v;omega) (by have:=hT.t;omega) (fun i hi=>by have:=hT.p i hi;omega)
  have c31:=looks31 l (by have:=(lookF_iff.1 hL).len;omega)
  have c30:=bounds30 c l
  have c32a:=cool32 c l n
  have c32b:=cool32 c l (n+y)
  have hRd:=ready_t.2 ⟨hT,hC⟩
  rw [hRd]at c42
  rw [hL]at c44
  have hE:=ask_11 hC hL hA
  rw [hE]at c30 c32a c32b
  refine FSpec.is fun R hR=>qX (sc:=sc9) tyok mix Try.func9 rfl Try.call9 (by kernel_rfl) (by kernel_rfl) ?_
  generalize Try.prog=P at c15 c42 c44 c17 c31 c30 c32a c32b⊢
  cbv
  repeat' (first
      |with_reducible refine hold ?_ ?_
      |with_reducible refine And.intro ?_ ?_
      |(with_reducible intro hcd;(try simp only [zA,zB,zC,zD,zE,zF,zG,zH,zI,zJ,zK,zL,zM,zN,zO,zP]at hcd);try cbv)
      | (refine qQ ?_ (c42) ?hfit
         case hfit=>((repeat' (first|exact qB|refine qD ?_ ?_|exact qE (by rfl)|exact qG (by rfl)|exact Fit.refl _|exact qA|refine qC ?_ rfl ?_));done)
         try cbv)
      | (refine qQ ?_ (c44) ?hfit
         case hfit=>((repeat' (first|exact qB|refine qD ?_ ?_|exact qE (by rfl)|exact qG (by rfl)|exact Fit.refl _|exact qA|refine qC ?_ rfl ?_));done)
         try cbv)
      | (refine qQ ?_ (c15) ?hfit
         case hfit=>((repeat' (first|exact qB|refine qD ?_ ?_|exact qE (by rfl)|exact qG (by rfl)|exact Fit.refl _|exact qA|refine qC ?_ rfl ?_));done)
         try cbv)
      | (refine qQ ?_ (c17) ?hfit
         case hfit=>((repeat' (first|exact qB|refine qD ?_ ?_|exact qE (by rfl)|exact qG (by rfl)|exact Fit.refl _|exact qA|refine qC ?_ rfl ?_));done)
         try cbv)
      | (refine qQ ?_ (c31) ?hfit
         case hfit=>((repeat' (first|exact qB|refine qD ?_ ?_|exact qE (by rfl)|exact qG (by rfl)|exact Fit.refl _|exact qA|refine qC ?_ rfl ?_));done)
         try cbv)
      | (refine qQ ?_ (c30) ?hfit
         case hfit=>((repeat' (first|exact qB|refine qD ?_ ?_|exact qE (by rfl)|exact qG (by rfl)|exact Fit.refl _|exact qA|refine qC ?_ rfl ?_));done)
         try cbv)
      | (refine qQ ?_ (c32a) ?hfit
         case hfit=>((repeat' (first|exact qB|refine qD ?_ ?_|exact qE (by rfl)|exact qG (by rfl)|exact Fit.refl _|exact qA|refine qC ?_ rfl ?_));done)
         try cbv)
      | (refine qQ ?_ (c32b) ?hfit
         case hfit=>((repeat' (first|exact qB|refine qD ?_ ?_|exact qE (by rfl)|exact qG (by rfl)|exact Fit.refl _|exact qA|refine qC ?_ rfl ?_));done)
         try cbv)
      |fail)
  all_goals first
    |trivial
    |((try clear c15);(try clear c42);(try clear c44);(try clear c17);(try clear c31);(try clear c30);(try clear c32a);(try clear c32b);((try simp only [qW]at *);(try simp only [zQ,zA,zB,zC,zD,zE,zF,zG,zH,zI,zJ,zK,zL,zM,zN,zO,zP,zR,zS,allB_t,allB_f,inB_t,inB_f,ofB_t,ofB_f,shB_t,shB_f,spB_t,spB_f]at *);first|(refine qO ?_;omega)|(simp only [Hold];omega)))
    |((try clear c15);(try clear c42);(try clear c44);(try clear c17);(try clear c31);(try clear c30);(try clear c32a);(try clear c32b);(subst hR;(repeat' (first|exact qA|exact qB|refine qC ?_ rfl ?_|refine qD ?_ ?_|exact qE (by rfl)|exact qG (by rfl)|exact Fit.refl _|exact qH _|(refine qE ?_;(try simp only [qW]at *);simp only [zQ,zA,zB,zC,zD,zE,zF,zG,zH,zI,zJ,zK,zL,zM,zN,zO,zP,zR,zS]at *;omega)));done))
    |skip
set_option maxHeartbeats 1000000 in
theorem law9yA (c:Clr)(l:List LookT)(n y:Int)(hn: -32768≤n∧n≤32767)(hy:0≤y∧y≤255)(hT:ThinC c 0)(hC:COk c)(hL:lookF c l=0)(hA:askE c l=0)(hS:sureH c l n = -1)(hM:mayH c l n = -1):FSpec Try.prog 9 [(clrS c),(lksS l),(.int .i16 (.sym fun _=>n)),(.int .u8 (.sym fun _=>y))] [] (fun r _=>r=(.bool (.lit true))):=by
  have c15:=awake15
  have c42:=ready42 c
  have c44:=lookfault44 c l hC.fewT
  have c17:=cellar17 c (by have:=hT.v;omega) (by have:=hT.t;omega) (fun i hi=>by have:=hT.p i hi;omega)
  have c31:=looks31 l (by have:=(lookF_iff.1 hL).len;omega)
  have c30:=bounds30 c l
  have c32a:=(show FSpec Try.prog 32 [(clrS c),(lksS l),(.int .i64 (.sym fun _=>n))] [] (fun r _=>r=(.tup [(.int .i64 (.lit (-1))),(.int .i64 (.lit (-1))),(.int .i64 (.lit (0)))]))from(cool32 c l n).post fun r bs q=>⟨_,by subst q;exact qD (qE hS) (qD (qE hM) (qD (qE hA) qB)),rfl⟩)
  have c32b:=cool32 c l (n+y)
  have hRd:=ready_t.2 ⟨hT,hC⟩
  rw [hRd]at c42
  rw [hL]at c44
  have hlaw:=hours_law hC hA (a:=n) (b:=n+y) (by omega)
  have hf3:=hC.few.v
  have h8:=hC.ok.h8
  have h1:=hC.ok.h1
  have hb:=bndN_yes hA
  rw [hA]at c30 c32b
  rw [hb]at c30
  refine FSpec.is fun R hR=>qX (sc:=sc9) tyok mix Try.func9 rfl Try.call9 (by kernel_rfl) (by kernel_rfl) ?_
  generalize Try.prog=P at c15 c42 c44 c17 c31 c30 c32a c32b⊢
  cbv
  repeat' (first
      |with_reducible refine hold ?_ ?_
      |with_reducible refine And.intro ?_ ?_
      |(with_reducible intro hcd;(try simp only [zA,zB,zC,zD,zE,zF,zG,zH,zI,zJ,zK,zL,zM,zN,zO,zP]at hcd);try cbv)
      | (refine qQ ?_ (c42) ?hfit
         case hfit=>((repeat' (first|exact qB|refine qD ?_ ?_|exact qE (by rfl)|exact qG (by rfl)|exact Fit.refl _|exact qA|refine qC ?_ rfl ?_));done)
         try cbv)
      | (refine qQ ?_ (c44) ?hfit
         case hfit=>((repeat' (first|exact qB|refine qD ?_ ?_|exact qE (by rfl)|exact qG (by rfl)|exact Fit.refl _|exact qA|refine qC ?_ rfl ?_));done)
         try cbv)
      | (refine qQ ?_ (c15) ?hfit
         case hfit=>((repeat' (first|exact qB|refine qD ?_ ?_|exact qE (by rfl)|exact qG (by rfl)|exact Fit.refl _|exact qA|refine qC ?_ rfl ?_));done)
         try cbv)
      | (refine qQ ?_ (c17) ?hfit
         case hfit=>((repeat' (first|exact qB|refine qD ?_ ?_|exact qE (by rfl)|exact qG (by rfl)|exact Fit.refl _|exact qA|refine qC ?_ rfl ?_));done)
         try cbv)
      | (refine qQ ?_ (c31) ?hfit
         case hfit=>((repeat' (first|exact qB|refine qD ?_ ?_|exact qE (by rfl)|exact qG (by rfl)|exact Fit.refl _|exact qA|refine qC ?_ rfl ?_));done)
         try cbv)
      | (refine qQ ?_ (c30) ?hfit
         case hfit=>((repeat' (first|exact qB|refine qD ?_ ?_|exact qE (by rfl)|exact qG (by rfl)|exact Fit.refl _|exact qA|refine qC ?_ rfl ?_));done)
         try cbv)
      | (refine qQ ?_ (c32a) ?hfit
         case hfit=>((repeat' (first|exact qB|refine qD ?_ ?_|exact qE (by rfl)|exact qG (by rfl)|exact Fit.refl _|exact qA|refine qC ?_ rfl ?_));done)
         try cbv)
      | (refine qQ ?_ (c32b) ?hfit
         case hfit=>((repeat' (first|exact qB|refine qD ?_ ?_|exact qE (by rfl)|exact qG (by rfl)|exact Fit.refl _|exact qA|refine qC ?_ rfl ?_));done)
         try cbv)
      |fail)
  all_goals first
    |trivial
    |((try clear c15);(try clear c42);(try clear c44);(try clear c17);(try clear c31);(try clear c30);(try clear c32a);(try clear c32b);((try simp only [qW]at *);(try simp only [zQ,zA,zB,zC,zD,zE,zF,zG,zH,zI,zJ,zK,zL,zM,zN,zO,zP,zR,zS,allB_t,allB_f,inB_t,inB_f,ofB_t,ofB_f,shB_t,shB_f,spB_t,spB_f]at *);first|(refine qO ?_;omega)|(simp only [Hold];omega)))
    |skip
  refine⟨none,[],{k:Nat // k≤c.hr.toNat+1},fun x=>⟨[(4,.own 0 0),(9,(.int .i64 (.sym fun _=>n))),(10,(.sl 1 (.sym fun _=>zi c.vs.length) (fun ix=>[(.sl 2 (.sym fun _=>zi (c.hr.toNat+1)) (fun jx=>[(.int .i64 (.sym fun _=>loW c (vyL c l ix.den.toNat) jx.den.toNat)),(.int .i64 (.sym fun _=>hiW c (vyL c l ix.den.toNat) jx.den.toNat))]))]))),(12,(.int .i64 (.lit (-1)))),(18,(.int .i64 (.sym fun _=>zi x.1)))],[(0,.cells [(.int .i64 (.sym fun _=>c.rl)),(.int .i64 (.sym fun _=>c.rh)),(.int .i64 (.sym fun _=>c.hr)),(.sl 4 (.sym fun _=>zi c.vs.length) (fun ix=>[(.int .i64 (.sym fun _=>(c.vs.getD ix.den.toNat v0).sl)),(.int .i64 (.sym fun _=>(c.vs.getD ix.den.toNat v0).sh)),(.int .i64 (.sym fun _=>(c.vs.getD ix.den.toNat v0).rl)),(.int .i64 (.sym fun _=>(c.vs.getD ix.den.toNat v0).rh))])),(.sl 2 (.sym fun _=>zi c.ts.length) (fun ix=>[(.int .i64 (.sym fun _=>(c.ts.getD ix.den.toNat t0).top)),(.sl 3 (.sym fun _=>zi ((c.ts.getD ix.den.toNat t0).ps).length) (fun jx=>[(.int .i64 (.sym fun _=>(((c.ts.getD ix.den.toNat t0).ps).getD jx.den.toNat p0).f)),(.int .i64 (.sym fun _=>(((c.ts.getD ix.den.toNat t0).ps).getD jx.den.toNat p0).el)),(.int .i64 (.sym fun _=>(((c.ts.getD ix.den.toNat t0).ps).getD jx.den.toNat p0).eh))]))]))] 27)],300⟩,fun x=>9-x.1,?_,?_⟩
  · refine⟨⟨0,by omega⟩,?_⟩
    cbv
    repeat' (first
      |with_reducible refine hold ?_ ?_
      |with_reducible refine And.intro ?_ ?_)
    all_goals first
      |trivial
      |exact qN (qE (by rfl))
      |exact qN (Fit.refl _)
      |exact qM (qL _)
      |skip
  · rintro ⟨k,hk⟩
    cbv
    repeat' (first
        |with_reducible refine And.intro ?_ ?_
        |(with_reducible intro hcd;(try simp only [zA,zB,zC,zD,zE,zF,zG,zH,zI,zJ,zK,zL,zM,zN,zO,zP]at hcd);try cbv)
        | (refine qQ ?_ (c15) ?hfit
           case hfit=>((repeat' (first|exact qB|refine qD ?_ ?_|exact qE (by rfl)|exact qG (by rfl)|exact Fit.refl _|exact qA|refine qC ?_ rfl ?_));done)
           try cbv)
        |fail)
    all_goals first
      |((try clear c15);(try clear c42);(try clear c44);(try clear c17);(try clear c31);(try clear c30);(try clear c32a);(try clear c32b);(subst hR;(repeat' (first|exact qA|exact qB|refine qC ?_ rfl ?_|refine qD ?_ ?_|exact qE (by rfl)|exact qG (by rfl)|exact Fit.refl _|exact qH _|(refine qE ?_;(try simp only [qW]at *);simp only [zQ,zA,zB,zC,zD,zE,zF,zG,zH,zI,zJ,zK,zL,zM,zN,zO,zP,zR,zS]at *;omega)));done))
      |skip
    refine⟨none,[],{v:Nat // v≤c.vs.length},fun x=>⟨[(4,.own 0 0),(9,(.int .i64 (.sym fun _=>n))),(10,(.sl 1 (.sym fun _=>zi c.vs.length) (fun ix=>[(.sl 2 (.sym fun _=>zi (c.hr.toNat+1)) (fun jx=>[(.int .i64 (.sym fun _=>loW c (vyL c l ix.den.toNat) jx.den.toNat)),(.int .i64 (.sym fun _=>hiW c (vyL c l ix.den.toNat) jx.den.toNat))]))]))),(12,(.int .i64 (.lit (-1)))),(18,(.int .i64 (.sym fun _=>zi k))),(19,(.bool (.sym fun _=>allB (hiV c l n k) x.1))),(20,(.int .i64 (.sym fun _=>zi x.1)))],[(0,.cells [(.int .i64 (.sym fun _=>c.rl)),(.int .i64 (.sym fun _=>c.rh)),(.int .i64 (.sym fun _=>c.hr)),(.sl 4 (.sym fun _=>zi c.vs.length) (fun ix=>[(.int .i64 (.sym fun _=>(c.vs.getD ix.den.toNat v0).sl)),(.int .i64 (.sym fun _=>(c.vs.getD ix.den.toNat v0).sh)),(.int .i64 (.sym fun _=>(c.vs.getD ix.den.toNat v0).rl)),(.int .i64 (.sym fun _=>(c.vs.getD ix.den.toNat v0).rh))])),(.sl 2 (.sym fun _=>zi c.ts.length) (fun ix=>[(.int .i64 (.sym fun _=>(c.ts.getD ix.den.toNat t0).top)),(.sl 3 (.sym fun _=>zi ((c.ts.getD ix.den.toNat t0).ps).length) (fun jx=>[(.int .i64 (.sym fun _=>(((c.ts.getD ix.den.toNat t0).ps).getD jx.den.toNat p0).f)),(.int .i64 (.sym fun _=>(((c.ts.getD ix.den.toNat t0).ps).getD jx.den.toNat p0).el)),(.int .i64 (.sym fun _=>(((c.ts.getD ix.den.toNat t0).ps).getD jx.den.toNat p0).eh))]))]))] 27)],400⟩,fun x=>c.vs.length-x.1,?_,?_⟩
    · refine⟨⟨0,by omega⟩,?_⟩
      cbv
      repeat' (first
        |with_reducible refine hold ?_ ?_
        |with_reducible refine And.intro ?_ ?_)
      all_goals first
        |trivial
        |exact qN (qE (by rfl))
        |exact qN (qG (by rfl))
        |exact qN (Fit.refl _)
        |exact qM (qL _)
        |skip
    · rintro⟨v,hv⟩
      cbv
      cbv
      repeat' (first
          |with_reducible refine hold ?_ ?_
          |with_reducible refine And.intro ?_ ?_
          |(with_reducible intro hcd;(try simp only [zA,zB,zC,zD,zE,zF,zG,zH,zI,zJ,zK,zL,zM,zN,zO,zP]at hcd);try cbv)
          |fail)
      all_goals first
        |((try clear c15);(try clear c42);(try clear c44);(try clear c17);(try clear c31);(try clear c30);(try clear c32a);(try clear c32b);((try simp only [qW]at *);(try simp only [zQ,zA,zB,zC,zD,zE,zF,zG,zH,zI,zJ,zK,zL,zM,zN,zO,zP,zR,zS,allB_t,allB_f,inB_t,inB_f,ofB_t,ofB_f,shB_t,shB_f,spB_t,spB_f]at *);first|(refine qO ?_;omega)|(simp only [Hold];omega)))
        |((try clear c15);(try clear c42);(try clear c44);(try clear c17);(try clear c31);(try clear c30);(try clear c32a);(try clear c32b);(exfalso;(try simp only [qW]at *);(try simp only [zQ,zA,zB,zC,zD,zE,zF,zG,zH,zI,zJ,zK,zL,zM,zN,zO,zP,zR,zS]at *);(try simp only [allB_t,allB_f,inB_t,inB_f,ofB_t,ofB_f,shB_t,shB_f,spB_t,spB_f]at *);omega))
        |((try clear c15);(try clear c42);(try clear c44);(try clear c17);(try clear c31);(try clear c30);(try clear c32a);(try clear c32b);((try simp only [zQ,zA,zB,zC,zD,zE,zF,zG,zH,zI,zJ,zK,zL,zM,zN,zO,zP,zR,zS]at *);refine⟨⟨v+1,by omega⟩,by simp only [];omega,?_⟩;cbv;(repeat' (first|with_reducible refine hold ?_ ?_|with_reducible refine And.intro ?_ ?_));(all_goals first|trivial|exact qN (qE (by rfl))|exact qN (qG (by rfl))|exact qN (Fit.refl _)|exact qM (qL _)|(refine qN (qE ?_);(try simp only [qW]at *);simp only [zQ,zA,zB,zC,zD,zE,zF,zG,zH,zI,zJ,zK,zL,zM,zN,zO,zP,zR,zS]at *;omega)|(refine qM (qK ?_);(repeat' (first|exact qA|exact qB|refine qC ?_ rfl ?_|refine qD ?_ ?_|exact qE (by rfl)|exact qG (by rfl)|exact Fit.refl _|exact qH _|(refine qE ?_;(try simp only [qW]at *);simp only [zQ,zA,zB,zC,zD,zE,zF,zG,zH,zI,zJ,zK,zL,zM,zN,zO,zP,zR,zS]at *;omega)));done)|(exact qN (qG (allB_zero _)))|(refine qN (qG ?_);(try simp only [qW]at *);(try simp only [zQ,zA,zB,zC,zD,zE,zF,zG,zH,zI,zJ,zK,zL,zM,zN,zO,zP,zR,zS]at *);exact hasB_next (p:=hiV c l n k) (by assumption))|(refine qN (qG ?_);exact(by assumption:allB (hiV c l n k) v=false).symm.trans (hasB_stay (by assumption)))|skip)))
        |((try clear c15);(try clear c42);(try clear c44);(try clear c17);(try clear c31);(try clear c30);(try clear c32a);(try clear c32b);(exfalso;(have hie:v=c.vs.length:=(by((try simp only [qW]at *);(try simp only [zQ,zA,zB,zC,zD,zE,zF,zG,zH,zI,zJ,zK,zL,zM,zN,zO,zP,zR,zS]at *);omega)));subst hie;(have q:=hour_at hC hA (a:=n) (k:=k) (by((try simp only [qW]at *);(try simp only [zQ,zA,zB,zC,zD,zE,zF,zG,zH,zI,zJ,zK,zL,zM,zN,zO,zP,zR,zS]at *);omega)) (by((try simp only [qW]at *);(try simp only [zQ,zA,zB,zC,zD,zE,zF,zG,zH,zI,zJ,zK,zL,zM,zN,zO,zP,zR,zS]at *);omega)));(have e:=(by assumption:(allB _ _==decide _)=false));(try rw [hS]at q);(rw [q]at e);(first|(simp [zi_den]at e;done)|(simp [zi_den]at e;exact e rfl))))
        |((try clear c15);(try clear c42);(try clear c44);(try clear c17);(try clear c31);(try clear c30);(try clear c32a);(try clear c32b);((try simp only [zQ,zA,zB,zC,zD,zE,zF,zG,zH,zI,zJ,zK,zL,zM,zN,zO,zP,zR,zS]at *);refine⟨⟨k+1,by omega⟩,by simp only [];omega,?_⟩;cbv;(repeat' (first|with_reducible refine hold ?_ ?_|with_reducible refine And.intro ?_ ?_));(all_goals first|trivial|exact qN (qE (by rfl))|exact qN (qG (by rfl))|exact qN (Fit.refl _)|exact qM (qL _)|(refine qN (qE ?_);(try simp only [qW]at *);simp only [zQ,zA,zB,zC,zD,zE,zF,zG,zH,zI,zJ,zK,zL,zM,zN,zO,zP,zR,zS]at *;omega)|(refine qM (qK ?_);(repeat' (first|exact qA|exact qB|refine qC ?_ rfl ?_|refine qD ?_ ?_|exact qE (by rfl)|exact qG (by rfl)|exact Fit.refl _|exact qH _|(refine qE ?_;(try simp only [qW]at *);simp only [zQ,zA,zB,zC,zD,zE,zF,zG,zH,zI,zJ,zK,zL,zM,zN,zO,zP,zR,zS]at *;omega)));done)|(exact qN (qG (allB_zero _)))|(refine qN (qG ?_);(try simp only [qW]at *);(try simp only [zQ,zA,zB,zC,zD,zE,zF,zG,zH,zI,zJ,zK,zL,zM,zN,zO,zP,zR,zS]at *);exact hasB_next (p:=hiV c l n k) (by assumption))|(refine qN (qG ?_);exact(by assumption:allB (hiV c l n k) v=false).symm.trans (hasB_stay (by assumption)))|skip)))
        |skip
set_option maxHeartbeats 1000000 in
theorem law9yB (c:Clr)(l:List LookT)(n y:Int)(hn: -32768≤n∧n≤32767)(hy:0≤y∧y≤255)(hT:ThinC c 0)(hC:COk c)(hL:lookF c l=0)(hA:askE c l=0)(hS:sureH c l n = -1)(hM:¬mayH c l n = -1):FSpec Try.prog 9 [(clrS c),(lksS l),(.int .i16 (.sym fun _=>n)),(.int .u8 (.sym fun _=>y))] [] (fun r _=>r=(.bool (.lit true))):=by
  have c15:=awake15
  have c42:=ready42 c
  have c44:=lookfault44 c l hC.fewT
  have c17:=cellar17 c (by have:=hT.v;omega) (by have:=hT.t;omega) (fun i hi=>by have:=hT.p i hi;omega)
  have c31:=looks31 l (by have:=(lookF_iff.1 hL).len;omega)
  have c30:=bounds30 c l
  have c32a:=(show FSpec Try.prog 32 [(clrS c),(lksS l),(.int .i64 (.sym fun _=>n))] [] (fun r _=>r=(.tup [(.int .i64 (.lit (-1))),(.int .i64 (.sym fun _=>mayH c l n)),(.int .i64 (.lit (0)))]))from(cool32 c l n).post fun r bs q=>⟨_,by subst q;exact qD (qE hS) (qD (Fit.refl _) (qD (qE hA) qB)),rfl⟩)
  have c32b:=cool32 c l (n+y)
  have hRd:=ready_t.2 ⟨hT,hC⟩
  rw [hRd]at c42
  rw [hL]at c44
  have hlaw:=hours_law hC hA (a:=n) (b:=n+y) (by omega)
  have hf3:=hC.few.v
  have h8:=hC.ok.h8
  have h1:=hC.ok.h1
  have hb:=bndN_yes hA
  rw [hA]at c30 c32b
  rw [hb]at c30
  refine FSpec.is fun R hR=>qX (sc:=sc9) tyok mix Try.func9 rfl Try.call9 (by kernel_rfl) (by kernel_rfl) ?_
  generalize Try.prog=P at c15 c42 c44 c17 c31 c30 c32a c32b⊢
  cbv
  repeat' (first
      |with_reducible refine hold ?_ ?_
      |with_reducible refine And.intro ?_ ?_
      |(with_reducible intro hcd;(try simp only [zA,zB,zC,zD,zE,zF,zG,zH,zI,zJ,zK,zL,zM,zN,zO,zP]at hcd);try cbv)
      | (refine qQ ?_ (c42) ?hfit
         case hfit=>((repeat' (first|exact qB|refine qD ?_ ?_|exact qE (by rfl)|exact qG (by rfl)|exact Fit.refl _|exact qA|refine qC ?_ rfl ?_));done)
         try cbv)
      | (refine qQ ?_ (c44) ?hfit
         case hfit=>((repeat' (first|exact qB|refine qD ?_ ?_|exact qE (by rfl)|exact qG (by rfl)|exact Fit.refl _|exact qA|refine qC ?_ rfl ?_));done)
         try cbv)
      | (refine qQ ?_ (c15) ?hfit
         case hfit=>((repeat' (first|exact qB|refine qD ?_ ?_|exact qE (by rfl)|exact qG (by rfl)|exact Fit.refl _|exact qA|refine qC ?_ rfl ?_));done)
         try cbv)
      | (refine qQ ?_ (c17) ?hfit
         case hfit=>((repeat' (first|exact qB|refine qD ?_ ?_|exact qE (by rfl)|exact qG (by rfl)|exact Fit.refl _|exact qA|refine qC ?_ rfl ?_));done)
         try cbv)
      | (refine qQ ?_ (c31) ?hfit
         case hfit=>((repeat' (first|exact qB|refine qD ?_ ?_|exact qE (by rfl)|exact qG (by rfl)|exact Fit.refl _|exact qA|refine qC ?_ rfl ?_));done)
         try cbv)
      | (refine qQ ?_ (c30) ?hfit
         case hfit=>((repeat' (first|exact qB|refine qD ?_ ?_|exact qE (by rfl)|exact qG (by rfl)|exact Fit.refl _|exact qA|refine qC ?_ rfl ?_));done)
         try cbv)
      | (refine qQ ?_ (c32a) ?hfit
         case hfit=>((repeat' (first|exact qB|refine qD ?_ ?_|exact qE (by rfl)|exact qG (by rfl)|exact Fit.refl _|exact qA|refine qC ?_ rfl ?_));done)
         try cbv)
      | (refine qQ ?_ (c32b) ?hfit
         case hfit=>((repeat' (first|exact qB|refine qD ?_ ?_|exact qE (by rfl)|exact qG (by rfl)|exact Fit.refl _|exact qA|refine qC ?_ rfl ?_));done)
         try cbv)
      |fail)
  all_goals first
    |trivial
    |((try clear c15);(try clear c42);(try clear c44);(try clear c17);(try clear c31);(try clear c30);(try clear c32a);(try clear c32b);((try simp only [qW]at *);(try simp only [zQ,zA,zB,zC,zD,zE,zF,zG,zH,zI,zJ,zK,zL,zM,zN,zO,zP,zR,zS,allB_t,allB_f,inB_t,inB_f,ofB_t,ofB_f,shB_t,shB_f,spB_t,spB_f]at *);first|(refine qO ?_;omega)|(simp only [Hold];omega)))
    |((try clear c15);(try clear c42);(try clear c44);(try clear c17);(try clear c31);(try clear c30);(try clear c32a);(try clear c32b);(exfalso;(try simp only [qW]at *);(try simp only [zQ,zA,zB,zC,zD,zE,zF,zG,zH,zI,zJ,zK,zL,zM,zN,zO,zP,zR,zS]at *);(try simp only [allB_t,allB_f,inB_t,inB_f,ofB_t,ofB_f,shB_t,shB_f,spB_t,spB_f]at *);omega))
    |skip
  refine⟨none,[],{k:Nat // k≤c.hr.toNat+1},fun x=>⟨[(4,.own 0 0),(9,(.int .i64 (.sym fun _=>n))),(10,(.sl 1 (.sym fun _=>zi c.vs.length) (fun ix=>[(.sl 2 (.sym fun _=>zi (c.hr.toNat+1)) (fun jx=>[(.int .i64 (.sym fun _=>loW c (vyL c l ix.den.toNat) jx.den.toNat)),(.int .i64 (.sym fun _=>hiW c (vyL c l ix.den.toNat) jx.den.toNat))]))]))),(12,(.int .i64 (.lit (-1)))),(18,(.int .i64 (.sym fun _=>zi x.1)))],[(0,.cells [(.int .i64 (.sym fun _=>c.rl)),(.int .i64 (.sym fun _=>c.rh)),(.int .i64 (.sym fun _=>c.hr)),(.sl 4 (.sym fun _=>zi c.vs.length) (fun ix=>[(.int .i64 (.sym fun _=>(c.vs.getD ix.den.toNat v0).sl)),(.int .i64 (.sym fun _=>(c.vs.getD ix.den.toNat v0).sh)),(.int .i64 (.sym fun _=>(c.vs.getD ix.den.toNat v0).rl)),(.int .i64 (.sym fun _=>(c.vs.getD ix.den.toNat v0).rh))])),(.sl 2 (.sym fun _=>zi c.ts.length) (fun ix=>[(.int .i64 (.sym fun _=>(c.ts.getD ix.den.toNat t0).top)),(.sl 3 (.sym fun _=>zi ((c.ts.getD ix.den.toNat t0).ps).length) (fun jx=>[(.int .i64 (.sym fun _=>(((c.ts.getD ix.den.toNat t0).ps).getD jx.den.toNat p0).f)),(.int .i64 (.sym fun _=>(((c.ts.getD ix.den.toNat t0).ps).getD jx.den.toNat p0).el)),(.int .i64 (.sym fun _=>(((c.ts.getD ix.den.toNat t0).ps).getD jx.den.toNat p0).eh))]))]))] 27)],300⟩,fun x=>9-x.1,?_,?_⟩
  · refine⟨⟨0,by omega⟩,?_⟩
    cbv
    repeat' (first
      |with_reducible refine hold ?_ ?_
      |with_reducible refine And.intro ?_ ?_)
    all_goals first
      |trivial
      |exact qN (qE (by rfl))
      |exact qN (Fit.refl _)
      |exact qM (qL _)
      |skip
  · rintro ⟨k,hk⟩
    cbv
    repeat' (first
        |with_reducible refine And.intro ?_ ?_
        |(with_reducible intro hcd;(try simp only [zA,zB,zC,zD,zE,zF,zG,zH,zI,zJ,zK,zL,zM,zN,zO,zP]at hcd);try cbv)
        | (refine qQ ?_ (c15) ?hfit
           case hfit=>((repeat' (first|exact qB|refine qD ?_ ?_|exact qE (by rfl)|exact qG (by rfl)|exact Fit.refl _|exact qA|refine qC ?_ rfl ?_));done)
           try cbv)
        |fail)
    all_goals first
      |((try clear c15);(try clear c42);(try clear c44);(try clear c17);(try clear c31);(try clear c30);(try clear c32a);(try clear c32b);(subst hR;(repeat' (first|exact qA|exact qB|refine qC ?_ rfl ?_|refine qD ?_ ?_|exact qE (by rfl)|exact qG (by rfl)|exact Fit.refl _|exact qH _|(refine qE ?_;(try simp only [qW]at *);simp only [zQ,zA,zB,zC,zD,zE,zF,zG,zH,zI,zJ,zK,zL,zM,zN,zO,zP,zR,zS]at *;omega)));done))
      |skip
    refine⟨none,[],{v:Nat // v≤c.vs.length},fun x=>⟨[(4,.own 0 0),(9,(.int .i64 (.sym fun _=>n))),(10,(.sl 1 (.sym fun _=>zi c.vs.length) (fun ix=>[(.sl 2 (.sym fun _=>zi (c.hr.toNat+1)) (fun jx=>[(.int .i64 (.sym fun _=>loW c (vyL c l ix.den.toNat) jx.den.toNat)),(.int .i64 (.sym fun _=>hiW c (vyL c l ix.den.toNat) jx.den.toNat))]))]))),(12,(.int .i64 (.lit (-1)))),(18,(.int .i64 (.sym fun _=>zi k))),(19,(.bool (.sym fun _=>allB (hiV c l n k) x.1))),(20,(.int .i64 (.sym fun _=>zi x.1)))],[(0,.cells [(.int .i64 (.sym fun _=>c.rl)),(.int .i64 (.sym fun _=>c.rh)),(.int .i64 (.sym fun _=>c.hr)),(.sl 4 (.sym fun _=>zi c.vs.length) (fun ix=>[(.int .i64 (.sym fun _=>(c.vs.getD ix.den.toNat v0).sl)),(.int .i64 (.sym fun _=>(c.vs.getD ix.den.toNat v0).sh)),(.int .i64 (.sym fun _=>(c.vs.getD ix.den.toNat v0).rl)),(.int .i64 (.sym fun _=>(c.vs.getD ix.den.toNat v0).rh))])),(.sl 2 (.sym fun _=>zi c.ts.length) (fun ix=>[(.int .i64 (.sym fun _=>(c.ts.getD ix.den.toNat t0).top)),(.sl 3 (.sym fun _=>zi ((c.ts.getD ix.den.toNat t0).ps).length) (fun jx=>[(.int .i64 (.sym fun _=>(((c.ts.getD ix.den.toNat t0).ps).getD jx.den.toNat p0).f)),(.int .i64 (.sym fun _=>(((c.ts.getD ix.den.toNat t0).ps).getD jx.den.toNat p0).el)),(.int .i64 (.sym fun _=>(((c.ts.getD ix.den.toNat t0).ps).getD jx.den.toNat p0).eh))]))]))] 27)],400⟩,fun x=>c.vs.length-x.1,?_,?_⟩
    · refine⟨⟨0,by omega⟩,?_⟩
      cbv
      repeat' (first
        |with_reducible refine hold ?_ ?_
        |with_reducible refine And.intro ?_ ?_)
      all_goals first
        |trivial
        |exact qN (qE (by rfl))
        |exact qN (qG (by rfl))
        |exact qN (Fit.refl _)
        |exact qM (qL _)
        |skip
    · rintro⟨v,hv⟩
      cbv
      cbv
      repeat' (first
          |with_reducible refine hold ?_ ?_
          |with_reducible refine And.intro ?_ ?_
          |(with_reducible intro hcd;(try simp only [zA,zB,zC,zD,zE,zF,zG,zH,zI,zJ,zK,zL,zM,zN,zO,zP]at hcd);try cbv)
          |fail)
      all_goals first
        |((try clear c15);(try clear c42);(try clear c44);(try clear c17);(try clear c31);(try clear c30);(try clear c32a);(try clear c32b);((try simp only [qW]at *);(try simp only [zQ,zA,zB,zC,zD,zE,zF,zG,zH,zI,zJ,zK,zL,zM,zN,zO,zP,zR,zS,allB_t,allB_f,inB_t,inB_f,ofB_t,ofB_f,shB_t,shB_f,spB_t,spB_f]at *);first|(refine qO ?_;omega)|(simp only [Hold];omega)))
        |((try clear c15);(try clear c42);(try clear c44);(try clear c17);(try clear c31);(try clear c30);(try clear c32a);(try clear c32b);(exfalso;(try simp only [qW]at *);(try simp only [zQ,zA,zB,zC,zD,zE,zF,zG,zH,zI,zJ,zK,zL,zM,zN,zO,zP,zR,zS]at *);(try simp only [allB_t,allB_f,inB_t,inB_f,ofB_t,ofB_f,shB_t,shB_f,spB_t,spB_f]at *);omega))
        |((try clear c15);(try clear c42);(try clear c44);(try clear c17);(try clear c31);(try clear c30);(try clear c32a);(try clear c32b);((try simp only [zQ,zA,zB,zC,zD,zE,zF,zG,zH,zI,zJ,zK,zL,zM,zN,zO,zP,zR,zS]at *);refine⟨⟨v+1,by omega⟩,by simp only [];omega,?_⟩;cbv;(repeat' (first|with_reducible refine hold ?_ ?_|with_reducible refine And.intro ?_ ?_));(all_goals first|trivial|exact qN (qE (by rfl))|exact qN (qG (by rfl))|exact qN (Fit.refl _)|exact qM (qL _)|(refine qN (qE ?_);(try simp only [qW]at *);simp only [zQ,zA,zB,zC,zD,zE,zF,zG,zH,zI,zJ,zK,zL,zM,zN,zO,zP,zR,zS]at *;omega)|(refine qM (qK ?_);(repeat' (first|exact qA|exact qB|refine qC ?_ rfl ?_|refine qD ?_ ?_|exact qE (by rfl)|exact qG (by rfl)|exact Fit.refl _|exact qH _|(refine qE ?_;(try simp only [qW]at *);simp only [zQ,zA,zB,zC,zD,zE,zF,zG,zH,zI,zJ,zK,zL,zM,zN,zO,zP,zR,zS]at *;omega)));done)|(exact qN (qG (allB_zero _)))|(refine qN (qG ?_);(try simp only [qW]at *);(try simp only [zQ,zA,zB,zC,zD,zE,zF,zG,zH,zI,zJ,zK,zL,zM,zN,zO,zP,zR,zS]at *);exact hasB_next (p:=hiV c l n k) (by assumption))|(refine qN (qG ?_);exact(by assumption:allB (hiV c l n k) v=false).symm.trans (hasB_stay (by assumption)))|skip)))
        |((try clear c15);(try clear c42);(try clear c44);(try clear c17);(try clear c31);(try clear c30);(try clear c32a);(try clear c32b);(exfalso;(have hie:v=c.vs.length:=(by((try simp only [qW]at *);(try simp only [zQ,zA,zB,zC,zD,zE,zF,zG,zH,zI,zJ,zK,zL,zM,zN,zO,zP,zR,zS]at *);omega)));subst hie;(have q:=hour_at hC hA (a:=n) (k:=k) (by((try simp only [qW]at *);(try simp only [zQ,zA,zB,zC,zD,zE,zF,zG,zH,zI,zJ,zK,zL,zM,zN,zO,zP,zR,zS]at *);omega)) (by((try simp only [qW]at *);(try simp only [zQ,zA,zB,zC,zD,zE,zF,zG,zH,zI,zJ,zK,zL,zM,zN,zO,zP,zR,zS]at *);omega)));(have e:=(by assumption:(allB _ _==decide _)=false));(try rw [hS]at q);(rw [q]at e);(first|(simp [zi_den]at e;done)|(simp [zi_den]at e;exact e rfl))))
        |((try clear c15);(try clear c42);(try clear c44);(try clear c17);(try clear c31);(try clear c30);(try clear c32a);(try clear c32b);((try simp only [zQ,zA,zB,zC,zD,zE,zF,zG,zH,zI,zJ,zK,zL,zM,zN,zO,zP,zR,zS]at *);refine⟨⟨k+1,by omega⟩,by simp only [];omega,?_⟩;cbv;(repeat' (first|with_reducible refine hold ?_ ?_|with_reducible refine And.intro ?_ ?_));(all_goals first|trivial|exact qN (qE (by rfl))|exact qN (qG (by rfl))|exact qN (Fit.refl _)|exact qM (qL _)|(refine qN (qE ?_);(try simp only [qW]at *);simp only [zQ,zA,zB,zC,zD,zE,zF,zG,zH,zI,zJ,zK,zL,zM,zN,zO,zP,zR,zS]at *;omega)|(refine qM (qK ?_);(repeat' (first|exact qA|exact qB|refine qC ?_ rfl ?_|refine qD ?_ ?_|exact qE (by rfl)|exact qG (by rfl)|exact Fit.refl _|exact qH _|(refine qE ?_;(try simp only [qW]at *);simp only [zQ,zA,zB,zC,zD,zE,zF,zG,zH,zI,zJ,zK,zL,zM,zN,zO,zP,zR,zS]at *;omega)));done)|(exact qN (qG (allB_zero _)))|(refine qN (qG ?_);(try simp only [qW]at *);(try simp only [zQ,zA,zB,zC,zD,zE,zF,zG,zH,zI,zJ,zK,zL,zM,zN,zO,zP,zR,zS]at *);exact hasB_next (p:=hiV c l n k) (by assumption))|(refine qN (qG ?_);exact(by assumption:allB (hiV c l n k) v=false).symm.trans (hasB_stay (by assumption)))|skip)))
        |skip
set_option maxHeartbeats 1000000 in
theorem law9yC (c:Clr)(l:List LookT)(n y:Int)(hn: -32768≤n∧n≤32767)(hy:0≤y∧y≤255)(hT:ThinC c 0)(hC:COk c)(hL:lookF c l=0)(hA:askE c l=0)(hS:¬sureH c l n = -1):FSpec Try.prog 9 [(clrS c),(lksS l),(.int .i16 (.sym fun _=>n)),(.int .u8 (.sym fun _=>y))] [] (fun r _=>r=(.bool (.lit true))):=by
  have c15:=awake15
  have c42:=ready42 c
  have c44:=lookfault44 c l hC.fewT
  have c17:=cellar17 c (by have:=hT.v;omega) (by have:=hT.t;omega) (fun i hi=>by have:=hT.p i hi;omega)
  have c31:=looks31 l (by have:=(lookF_iff.1 hL).len;omega)
  have c30:=bounds30 c l
  have c32a:=cool32 c l n
  have c32b:=cool32 c l (n+y)
  have hRd:=ready_t.2 ⟨hT,hC⟩
  rw [hRd]at c42
  rw [hL]at c44
  have hlaw:=hours_law hC hA (a:=n) (b:=n+y) (by omega)
  have hf3:=hC.few.v
  have h8:=hC.ok.h8
  have h1:=hC.ok.h1
  have hb:=bndN_yes hA
  rw [hA]at c30 c32a c32b
  rw [hb]at c30
  refine FSpec.is fun R hR=>qX (sc:=sc9) tyok mix Try.func9 rfl Try.call9 (by kernel_rfl) (by kernel_rfl) ?_
  generalize Try.prog=P at c15 c42 c44 c17 c31 c30 c32a c32b⊢
  cbv
  repeat' (first
      |with_reducible refine hold ?_ ?_
      |with_reducible refine And.intro ?_ ?_
      |(with_reducible intro hcd;(try simp only [zA,zB,zC,zD,zE,zF,zG,zH,zI,zJ,zK,zL,zM,zN,zO,zP]at hcd);try cbv)
      | (refine qQ ?_ (c42) ?hfit
         case hfit=>((repeat' (first|exact qB|refine qD ?_ ?_|exact qE (by rfl)|exact qG (by rfl)|exact Fit.refl _|exact qA|refine qC ?_ rfl ?_));done)
         try cbv)
      | (refine qQ ?_ (c44) ?hfit
         case hfit=>((repeat' (first|exact qB|refine qD ?_ ?_|exact qE (by rfl)|exact qG (by rfl)|exact Fit.refl _|exact qA|refine qC ?_ rfl ?_));done)
         try cbv)
      | (refine qQ ?_ (c15) ?hfit
         case hfit=>((repeat' (first|exact qB|refine qD ?_ ?_|exact qE (by rfl)|exact qG (by rfl)|exact Fit.refl _|exact qA|refine qC ?_ rfl ?_));done)
         try cbv)
      | (refine qQ ?_ (c17) ?hfit
         case hfit=>((repeat' (first|exact qB|refine qD ?_ ?_|exact qE (by rfl)|exact qG (by rfl)|exact Fit.refl _|exact qA|refine qC ?_ rfl ?_));done)
         try cbv)
      | (refine qQ ?_ (c31) ?hfit
         case hfit=>((repeat' (first|exact qB|refine qD ?_ ?_|exact qE (by rfl)|exact qG (by rfl)|exact Fit.refl _|exact qA|refine qC ?_ rfl ?_));done)
         try cbv)
      | (refine qQ ?_ (c30) ?hfit
         case hfit=>((repeat' (first|exact qB|refine qD ?_ ?_|exact qE (by rfl)|exact qG (by rfl)|exact Fit.refl _|exact qA|refine qC ?_ rfl ?_));done)
         try cbv)
      | (refine qQ ?_ (c32a) ?hfit
         case hfit=>((repeat' (first|exact qB|refine qD ?_ ?_|exact qE (by rfl)|exact qG (by rfl)|exact Fit.refl _|exact qA|refine qC ?_ rfl ?_));done)
         try cbv)
      | (refine qQ ?_ (c32b) ?hfit
         case hfit=>((repeat' (first|exact qB|refine qD ?_ ?_|exact qE (by rfl)|exact qG (by rfl)|exact Fit.refl _|exact qA|refine qC ?_ rfl ?_));done)
         try cbv)
      |fail)
  all_goals first
    |trivial
    |((try clear c15);(try clear c42);(try clear c44);(try clear c17);(try clear c31);(try clear c30);(try clear c32a);(try clear c32b);((try simp only [qW]at *);(try simp only [zQ,zA,zB,zC,zD,zE,zF,zG,zH,zI,zJ,zK,zL,zM,zN,zO,zP,zR,zS,allB_t,allB_f,inB_t,inB_f,ofB_t,ofB_f,shB_t,shB_f,spB_t,spB_f]at *);first|(refine qO ?_;omega)|(simp only [Hold];omega)))
    |((try clear c15);(try clear c42);(try clear c44);(try clear c17);(try clear c31);(try clear c30);(try clear c32a);(try clear c32b);(exfalso;(try simp only [qW]at *);(try simp only [zQ,zA,zB,zC,zD,zE,zF,zG,zH,zI,zJ,zK,zL,zM,zN,zO,zP,zR,zS]at *);(try simp only [allB_t,allB_f,inB_t,inB_f,ofB_t,ofB_f,shB_t,shB_f,spB_t,spB_f]at *);omega))
    |skip
  refine⟨none,[],{k:Nat // k≤c.hr.toNat+1},fun x=>⟨[(4,.own 0 0),(9,(.int .i64 (.sym fun _=>n))),(10,(.sl 1 (.sym fun _=>zi c.vs.length) (fun ix=>[(.sl 2 (.sym fun _=>zi (c.hr.toNat+1)) (fun jx=>[(.int .i64 (.sym fun _=>loW c (vyL c l ix.den.toNat) jx.den.toNat)),(.int .i64 (.sym fun _=>hiW c (vyL c l ix.den.toNat) jx.den.toNat))]))]))),(12,(.int .i64 (.sym fun _=>sureH c l n))),(18,(.int .i64 (.sym fun _=>zi x.1)))],[(0,.cells [(.int .i64 (.sym fun _=>c.rl)),(.int .i64 (.sym fun _=>c.rh)),(.int .i64 (.sym fun _=>c.hr)),(.sl 4 (.sym fun _=>zi c.vs.length) (fun ix=>[(.int .i64 (.sym fun _=>(c.vs.getD ix.den.toNat v0).sl)),(.int .i64 (.sym fun _=>(c.vs.getD ix.den.toNat v0).sh)),(.int .i64 (.sym fun _=>(c.vs.getD ix.den.toNat v0).rl)),(.int .i64 (.sym fun _=>(c.vs.getD ix.den.toNat v0).rh))])),(.sl 2 (.sym fun _=>zi c.ts.length) (fun ix=>[(.int .i64 (.sym fun _=>(c.ts.getD ix.den.toNat t0).top)),(.sl 3 (.sym fun _=>zi ((c.ts.getD ix.den.toNat t0).ps).length) (fun jx=>[(.int .i64 (.sym fun _=>(((c.ts.getD ix.den.toNat t0).ps).getD jx.den.toNat p0).f)),(.int .i64 (.sym fun _=>(((c.ts.getD ix.den.toNat t0).ps).getD jx.den.toNat p0).el)),(.int .i64 (.sym fun _=>(((c.ts.getD ix.den.toNat t0).ps).getD jx.den.toNat p0).eh))]))]))] 27)],300⟩,fun x=>9-x.1,?_,?_⟩
  · refine⟨⟨0,by omega⟩,?_⟩
    cbv
    repeat' (first
      |with_reducible refine hold ?_ ?_
      |with_reducible refine And.intro ?_ ?_)
    all_goals first
      |trivial
      |exact qN (qE (by rfl))
      |exact qN (Fit.refl _)
      |exact qM (qL _)
      |skip
  · rintro ⟨k,hk⟩
    cbv
    repeat' (first
        |with_reducible refine And.intro ?_ ?_
        |(with_reducible intro hcd;(try simp only [zA,zB,zC,zD,zE,zF,zG,zH,zI,zJ,zK,zL,zM,zN,zO,zP]at hcd);try cbv)
        | (refine qQ ?_ (c15) ?hfit
           case hfit=>((repeat' (first|exact qB|refine qD ?_ ?_|exact qE (by rfl)|exact qG (by rfl)|exact Fit.refl _|exact qA|refine qC ?_ rfl ?_));done)
           try cbv)
        |fail)
    all_goals first
      |((try clear c15);(try clear c42);(try clear c44);(try clear c17);(try clear c31);(try clear c30);(try clear c32a);(try clear c32b);(subst hR;(repeat' (first|exact qA|exact qB|refine qC ?_ rfl ?_|refine qD ?_ ?_|exact qE (by rfl)|exact qG (by rfl)|exact Fit.refl _|exact qH _|(refine qE ?_;(try simp only [qW]at *);simp only [zQ,zA,zB,zC,zD,zE,zF,zG,zH,zI,zJ,zK,zL,zM,zN,zO,zP,zR,zS]at *;omega)));done))
      |skip
    refine⟨none,[],{v:Nat // v≤c.vs.length},fun x=>⟨[(4,.own 0 0),(9,(.int .i64 (.sym fun _=>n))),(10,(.sl 1 (.sym fun _=>zi c.vs.length) (fun ix=>[(.sl 2 (.sym fun _=>zi (c.hr.toNat+1)) (fun jx=>[(.int .i64 (.sym fun _=>loW c (vyL c l ix.den.toNat) jx.den.toNat)),(.int .i64 (.sym fun _=>hiW c (vyL c l ix.den.toNat) jx.den.toNat))]))]))),(12,(.int .i64 (.sym fun _=>sureH c l n))),(18,(.int .i64 (.sym fun _=>zi k))),(19,(.bool (.sym fun _=>allB (hiV c l n k) x.1))),(20,(.int .i64 (.sym fun _=>zi x.1)))],[(0,.cells [(.int .i64 (.sym fun _=>c.rl)),(.int .i64 (.sym fun _=>c.rh)),(.int .i64 (.sym fun _=>c.hr)),(.sl 4 (.sym fun _=>zi c.vs.length) (fun ix=>[(.int .i64 (.sym fun _=>(c.vs.getD ix.den.toNat v0).sl)),(.int .i64 (.sym fun _=>(c.vs.getD ix.den.toNat v0).sh)),(.int .i64 (.sym fun _=>(c.vs.getD ix.den.toNat v0).rl)),(.int .i64 (.sym fun _=>(c.vs.getD ix.den.toNat v0).rh))])),(.sl 2 (.sym fun _=>zi c.ts.length) (fun ix=>[(.int .i64 (.sym fun _=>(c.ts.getD ix.den.toNat t0).top)),(.sl 3 (.sym fun _=>zi ((c.ts.getD ix.den.toNat t0).ps).length) (fun jx=>[(.int .i64 (.sym fun _=>(((c.ts.getD ix.den.toNat t0).ps).getD jx.den.toNat p0).f)),(.int .i64 (.sym fun _=>(((c.ts.getD ix.den.toNat t0).ps).getD jx.den.toNat p0).el)),(.int .i64 (.sym fun _=>(((c.ts.getD ix.den.toNat t0).ps).getD jx.den.toNat p0).eh))]))]))] 27)],400⟩,fun x=>c.vs.length-x.1,?_,?_⟩
    · refine⟨⟨0,by omega⟩,?_⟩
      cbv
      repeat' (first
        |with_reducible refine hold ?_ ?_
        |with_reducible refine And.intro ?_ ?_)
      all_goals first
        |trivial
        |exact qN (qE (by rfl))
        |exact qN (qG (by rfl))
        |exact qN (Fit.refl _)
        |exact qM (qL _)
        |skip
    · rintro⟨v,hv⟩
      cbv
      cbv
      repeat' (first
          |with_reducible refine hold ?_ ?_
          |with_reducible refine And.intro ?_ ?_
          |(with_reducible intro hcd;(try simp only [zA,zB,zC,zD,zE,zF,zG,zH,zI,zJ,zK,zL,zM,zN,zO,zP]at hcd);try cbv)
          |fail)
      all_goals first
        |trivial
        |((try clear c15);(try clear c42);(try clear c44);(try clear c17);(try clear c31);(try clear c30);(try clear c32a);(try clear c32b);((try simp only [qW]at *);(try simp only [zQ,zA,zB,zC,zD,zE,zF,zG,zH,zI,zJ,zK,zL,zM,zN,zO,zP,zR,zS,allB_t,allB_f,inB_t,inB_f,ofB_t,ofB_f,shB_t,shB_f,spB_t,spB_f]at *);first|(refine qO ?_;omega)|(simp only [Hold];omega)))
        |((try clear c15);(try clear c42);(try clear c44);(try clear c17);(try clear c31);(try clear c30);(try clear c32a);(try clear c32b);(exfalso;(try simp only [qW]at *);(try simp only [zQ,zA,zB,zC,zD,zE,zF,zG,zH,zI,zJ,zK,zL,zM,zN,zO,zP,zR,zS]at *);(try simp only [allB_t,allB_f,inB_t,inB_f,ofB_t,ofB_f,shB_t,shB_f,spB_t,spB_f]at *);omega))
        |((try clear c15);(try clear c42);(try clear c44);(try clear c17);(try clear c31);(try clear c30);(try clear c32a);(try clear c32b);((try simp only [zQ,zA,zB,zC,zD,zE,zF,zG,zH,zI,zJ,zK,zL,zM,zN,zO,zP,zR,zS]at *);refine⟨⟨v+1,by omega⟩,by simp only [];omega,?_⟩;cbv;(repeat' (first|with_reducible refine hold ?_ ?_|with_reducible refine And.intro ?_ ?_));(all_goals first|trivial|exact qN (qE (by rfl))|exact qN (qG (by rfl))|exact qN (Fit.refl _)|exact qM (qL _)|(refine qN (qE ?_);(try simp only [qW]at *);simp only [zQ,zA,zB,zC,zD,zE,zF,zG,zH,zI,zJ,zK,zL,zM,zN,zO,zP,zR,zS]at *;omega)|(refine qM (qK ?_);(repeat' (first|exact qA|exact qB|refine qC ?_ rfl ?_|refine qD ?_ ?_|exact qE (by rfl)|exact qG (by rfl)|exact Fit.refl _|exact qH _|(refine qE ?_;(try simp only [qW]at *);simp only [zQ,zA,zB,zC,zD,zE,zF,zG,zH,zI,zJ,zK,zL,zM,zN,zO,zP,zR,zS]at *;omega)));done)|(exact qN (qG (allB_zero _)))|(refine qN (qG ?_);(try simp only [qW]at *);(try simp only [zQ,zA,zB,zC,zD,zE,zF,zG,zH,zI,zJ,zK,zL,zM,zN,zO,zP,zR,zS]at *);exact hasB_next (p:=hiV c l n k) (by assumption))|(refine qN (qG ?_);exact(by assumption:allB (hiV c l n k) v=false).symm.trans (hasB_stay (by assumption)))|skip)))
        |((try clear c15);(try clear c42);(try clear c44);(try clear c17);(try clear c31);(try clear c30);(try clear c32a);(try clear c32b);(exfalso;(have hie:v=c.vs.length:=(by((try simp only [qW]at *);(try simp only [zQ,zA,zB,zC,zD,zE,zF,zG,zH,zI,zJ,zK,zL,zM,zN,zO,zP,zR,zS]at *);omega)));subst hie;(have q:=hour_at hC hA (a:=n) (k:=k) (by((try simp only [qW]at *);(try simp only [zQ,zA,zB,zC,zD,zE,zF,zG,zH,zI,zJ,zK,zL,zM,zN,zO,zP,zR,zS]at *);omega)) (by((try simp only [qW]at *);(try simp only [zQ,zA,zB,zC,zD,zE,zF,zG,zH,zI,zJ,zK,zL,zM,zN,zO,zP,zR,zS]at *);omega)));(have e:=(by assumption:(allB _ _==decide _)=false));(try rw [hS]at q);(rw [q]at e);(first|(simp [zi_den]at e;done)|(simp [zi_den]at e;exact e rfl))))
        |((try clear c15);(try clear c42);(try clear c44);(try clear c17);(try clear c31);(try clear c30);(try clear c32a);(try clear c32b);((try simp only [zQ,zA,zB,zC,zD,zE,zF,zG,zH,zI,zJ,zK,zL,zM,zN,zO,zP,zR,zS]at *);refine⟨⟨k+1,by omega⟩,by simp only [];omega,?_⟩;cbv;(repeat' (first|with_reducible refine hold ?_ ?_|with_reducible refine And.intro ?_ ?_));(all_goals first|trivial|exact qN (qE (by rfl))|exact qN (qG (by rfl))|exact qN (Fit.refl _)|exact qM (qL _)|(refine qN (qE ?_);(try simp only [qW]at *);simp only [zQ,zA,zB,zC,zD,zE,zF,zG,zH,zI,zJ,zK,zL,zM,zN,zO,zP,zR,zS]at *;omega)|(refine qM (qK ?_);(repeat' (first|exact qA|exact qB|refine qC ?_ rfl ?_|refine qD ?_ ?_|exact qE (by rfl)|exact qG (by rfl)|exact Fit.refl _|exact qH _|(refine qE ?_;(try simp only [qW]at *);simp only [zQ,zA,zB,zC,zD,zE,zF,zG,zH,zI,zJ,zK,zL,zM,zN,zO,zP,zR,zS]at *;omega)));done)|(exact qN (qG (allB_zero _)))|(refine qN (qG ?_);(try simp only [qW]at *);(try simp only [zQ,zA,zB,zC,zD,zE,zF,zG,zH,zI,zJ,zK,zL,zM,zN,zO,zP,zR,zS]at *);exact hasB_next (p:=hiV c l n k) (by assumption))|(refine qN (qG ?_);exact(by assumption:allB (hiV c l n k) v=false).symm.trans (hasB_stay (by assumption)))|skip)))
        |skip
theorem law9 (c:Clr)(l:List LookT)(n y:Int)(hn: -32768≤n∧n≤32767)(hy:0≤y∧y≤255):FSpec Try.prog 9 [(clrS c),(lksS l),(.int .i16 (.sym fun _=>n)),(.int .u8 (.sym fun _=>y))] [] (fun r _=>r = .bool (.lit true)):=by
  by_cases h:readyB c=true∧lookF c l=0
  · obtain⟨hT,hC⟩:=ready_t.1 h.1
    by_cases hA:askE c l=0
    · by_cases hS:sureH c l n = -1
      · by_cases hM:mayH c l n = -1
        · exact law9yA c l n y hn hy hT hC h.2 hA hS hM
        · exact law9yB c l n y hn hy hT hC h.2 hA hS hM
      · exact law9yC c l n y hn hy hT hC h.2 hA hS
    · exact law9n c l n y hn hy hT hC h.2 hA
  · exact law9t c l n y hn hy h
end Go.Proofs.Yteelocfbbhchcaa
