/- HeatWider: what the law computes. No condition. -/
import Derived.Test.YteelocfbbhchcaaT6
set_option linter.unusedVariables false
set_option linter.unusedSimpArgs false
set_option linter.deprecated false
set_option linter.all false

namespace Go.Proofs.Yteelocfbbhchcaa
open Go Go.Eng Go.Proofs
set_option maxRecDepth 10000
def readyB (c:Clr):Bool:=thinB c 0&&decide (faultC c=0)
theorem ready_t {c:Clr}:readyB c=true↔ThinC c 0∧COk c:=by
  unfold readyB
  rw [Bool.and_eq_true,decide_eq_true_eq,thin_iff,faultC_iff]
theorem ready_ok {c:Clr}(h:readyB c=true):COk c:=(ready_t.1 h).2
end Go.Proofs.Yteelocfbbhchcaa

namespace Go.Proofs.Yteelocfbbhchcaa
open Go Go.Eng Go.Proofs
set_option maxRecDepth 10000
theorem vatA_ok {c:Clr}(hc:COk c) {v:Int}(h0:0≤v)(h1:v<c.vs.length):vatOk (vatA c v):=hc.ok.v v.toNat (by omega)
theorem vatA_nat (c:Clr)(v:Nat):vatA c (v:Int)=c.vs.getD v v0:=by unfold vatA;rw [Int.toNat_natCast]
theorem ways_fit {c:Clr} {l:List LookT} {o:List Int} {rm v:Int}(hv:vatOk (vatA c v)) {w:Int×Int}(h:w∈waysC c l v rm o):FitV c l o rm v w.1 w.2:=by
  have hv':=hv
  unfold vatOk at hv
  have:=mem_ways (by omega) h
  exact⟨this.2.1,this.2.2.1,this.2.2.2.1,by omega,this.1⟩
theorem fit_ways {c:Clr} {l:List LookT} {o:List Int} {rm v st rt:Int}(h:FitV c l o rm v st rt):0<(waysC c l v rm o).length:=some_fit h.fit h.s0 h.s1 h.r0 h.r1
theorem room_iff {c:Clr}(hc:COk c) {l:List LookT} {o:List Int} {rm:Int}:roomB c l o rm=true↔∀v:Nat,v<c.vs.length→∃st rt,FitV c l o rm v st rt:=by
  unfold roomB
  rw [allB_t]
  constructor
  · intro h v hv
    obtain⟨w,hw⟩:=some_mem (show 0<(waysC c l (v:Int) rm o).length from of_decide_eq_true (h v hv))
    exact⟨w.1,w.2,ways_fit (vatA_ok hc (by omega) (by omega)) hw⟩
  · intro h v hv
    obtain⟨st,rt,hf⟩:=h v hv
    exact decide_eq_true (fit_ways hf)
theorem lo_le {c:Clr} {l:List LookT} {rm v st rt:Int} {rs:List Int}(hv:vatOk (vatA c v))(hr:rm∈rs)(h:FitV c l [] rm v st rt)(k:Nat):loW c (wysL c l v rs) k≤atW c.hr rm st rt k:=by
  obtain⟨s0,s1,r0,r1,hf⟩:=h
  unfold vatOk at hv
  obtain⟨a,ha,hle⟩:=ways_lo (p:=fitW c l v rm []) (d:=difW c rm) (n:=((vatA c v).rh-(vatA c v).rl+1).toNat) s0 s1 r0 (by omega) hf
  have:=mnL_le (wyA c k) (mem_wysL.2 ⟨rm,hr,(a,rt),ha,rfl⟩)
  have h2:=at_mono (hr:=c.hr) (rt:=rt) (by omega) (by omega) (Int.le_refl rm) hle k
  exact Int.le_trans this h2
theorem hi_ge {c:Clr} {l:List LookT} {rm v st rt:Int} {rs:List Int}(hv:vatOk (vatA c v))(hr:rm∈rs)(h:FitV c l [] rm v st rt) {k:Nat}(hk:k≤8):atW c.hr rm st rt k≤hiW c (wysL c l v rs) k:=by
  obtain⟨s0,s1,r0,r1,hf⟩:=h
  unfold vatOk at hv
  obtain⟨a,b,ha,hle,hd⟩:=ways_hi (p:=fitW c l v rm []) (d:=difW c rm) (n:=((vatA c v).rh-(vatA c v).rl+1).toNat) s0 s1 r0 (by omega) hf
  have h1:=mxL_ge (wyA c k) (mem_wysL.2 ⟨rm,hr,(a,rt),ha,rfl⟩)
  have h2:=at_mono (hr:=c.hr) (rt:=rt) (by omega) (by omega) (Int.le_refl rm) hle k
  have h3:atW c.hr rm b rt k=atW c.hr rm a rt k:=by
    rcases hd with rfl|hd
    · rfl
    · exact(difW_no hd k hk).symm
  rw [h3]at h2
  exact Int.le_trans h2 h1
theorem lo_is {c:Clr} {l:List LookT} {v:Int} {rs:List Int}(hv:vatOk (vatA c v))(hne:wysL c l v rs≠[])(k:Nat):∃rm st rt,rm∈rs∧FitV c l [] rm v st rt∧loW c (wysL c l v rs) k=atW c.hr rm st rt k:=by
  obtain⟨x,hx,e⟩:=mnL_is (wyA c k) hne
  obtain⟨rm,hm,w,hw,rfl⟩:=mem_wysL.1 hx
  exact⟨rm,w.1,w.2,hm,ways_fit hv hw,e⟩
theorem hi_is {c:Clr} {l:List LookT} {v:Int} {rs:List Int}(hv:vatOk (vatA c v))(hne:wysL c l v rs≠[])(k:Nat):∃rm st rt,rm∈rs∧FitV c l [] rm v st rt∧hiW c (wysL c l v rs) k=atW c.hr rm st rt k:=by
  obtain⟨x,hx,e⟩:=mxL_is (wyA c k) hne
  obtain⟨rm,hm,w,hw,rfl⟩:=mem_wysL.1 hx
  exact⟨rm,w.1,w.2,hm,ways_fit hv hw,e⟩
theorem ne_of_empty {α:Type} {L:List α}(h:L.isEmpty=false):L≠[]:=fun e=>by rw [e]at h;cases h
theorem vy_ne {c:Clr} {l:List LookT}(h:askE c l=0) {v:Nat}(hv:v<c.vs.length):vyL c l v≠[]:=ne_of_empty (vyL_ne h hv)
end Go.Proofs.Yteelocfbbhchcaa

namespace Go.Proofs.Yteelocfbbhchcaa
open Go Go.Eng Go.Proofs
set_option maxRecDepth 10000
theorem ready42 (c:Clr):FSpec Try.prog 42 [(clrS c)] [] (fun r _=>r=(.bool (.sym fun _=>readyB c))):=by
  have c14:=thin14 c []
  have c47:=fault47 c
  refine FSpec.is fun R hR=>qX (sc:=sc42) tyok mix Try.func42 rfl Try.call42 (by kernel_rfl) (by kernel_rfl) ?_
  generalize Try.prog=P at c14 c47⊢
  cbv
  repeat' (first
      |with_reducible refine And.intro ?_ ?_
      |(with_reducible intro hcd;(try simp only [zA,zB,zC,zD,zE,zF,zG,zH,zI,zJ,zK,zL,zM,zN,zO,zP]at hcd);try cbv)
      | (refine qQ ?_ (c14) ?hfit
         case hfit=>((refine qD (Fit.refl _) (qD (qP rfl) qB));done)
         try cbv)
      | (refine qQ ?_ (c47) ?hfit
         case hfit=>((repeat' (first|exact qB|refine qD ?_ ?_|exact qE (by rfl)|exact qG (by rfl)|exact Fit.refl _|exact qA|refine qC ?_ rfl ?_));done)
         try cbv)
      |fail)
  all_goals first
    |(subst hR;(refine qG ?_;(try simp only [qW]at *);(try simp only [zQ,zA,zB,zC,zD,zE,zF,zG,zH,zI,zJ,zK,zL,zM,zN,zO,zP,zR,zS]at *);unfold readyB;(try simp only [List.length_nil]at *);simp_all;done);done)
    |skip
end Go.Proofs.Yteelocfbbhchcaa

namespace Go.Proofs.Yteelocfbbhchcaa
open Go Go.Eng Go.Proofs
set_option maxRecDepth 10000
theorem looked_z {c:Clr} {l:List LookT}(hC:COk c)(h:lookF c l=0):lookedF c l=0:=by unfold lookedF;rw [if_pos (faultC_iff.2 hC)];exact h
theorem ask_11 {c:Clr} {l:List LookT}(hC:COk c)(h:lookF c l=0)(h':¬askE c l=0):askE c l=11:=by
  unfold askE at *
  rw [if_pos (looked_z hC h)]at *
  split at h'<;>rename_i q
  · rw [if_pos q]
  · exact absurd rfl h'
end Go.Proofs.Yteelocfbbhchcaa

namespace Go.Proofs.Yteelocfbbhchcaa
open Go Go.Eng Go.Proofs
set_option maxRecDepth 10000
theorem rem_as {a b q:Int} {K:Int→Prop}(h:K q)(hb:Hold (b≠0))(hq:a.tmod b=q):∃q,(∀_:Unit,remOb a b q)∧K q:=by
  subst hq
  exact qU h hb
theorem tmod_nat {b n:Int}(hb:0≤b)(hn:0<n):b.tmod n=zi (b.tmod n).toNat∧((b.tmod n).toNat:Int)<n:=by
  have h1:=Int.tmod_nonneg n hb
  have h2:=Int.tmod_lt_of_pos b hn
  simp only [zi_den]
  omega
end Go.Proofs.Yteelocfbbhchcaa

namespace Go.Proofs.Yteelocfbbhchcaa
open Go Go.Eng Go.Proofs
set_option maxRecDepth 10000
theorem firstOf_none {f:Nat→Option (List Int)}:∀{k i:Nat},firstOf f k i=none→∀j,i≤j→j<i+k→f j=none:=by
  intro k
  induction k with
  |zero=>intro i _ j h1 h2;omega
  | succ k ih=>
    intro i h j h1 h2
    simp only [firstOf]at h
    split at h
    · cases h
    · rename_i hf
      by_cases e:j=i
      · rw [e];exact hf
      · exact ih h j (by omega) (by omega)
theorem firstOf_at {f:Nat→Option (List Int)} {r:List Int}:∀{k i:Nat},firstOf f k i=some r→∃j,i≤j∧j<i+k∧f j=some r∧∀j',i≤j'→j'<j→f j'=none:=by
  intro k
  induction k with
  |zero=>intro i h;cases h
  | succ k ih=>
    intro i h
    simp only [firstOf]at h
    split at h
    · rename_i r' hf
      cases h
      exact⟨i,Nat.le_refl _,by omega,hf,fun j' h1 h2=>by omega⟩
    · rename_i hf
      obtain⟨j,h1,h2,h3,h4⟩:=ih h
      refine⟨j,by omega,by omega,h3,fun j' a b=> ?_⟩
      by_cases e:j'=i
      · rw [e];exact hf
      · exact h4 j' (by omega) b
def Asc (n:Nat):Nat→List Int→Prop
  |_,[]=>True
  |i,x::t=>∃j:Nat,x=(j:Int)∧i≤j∧j<n∧Asc n (j+1) t
def LexLt :List Int→List Int→Prop
  |x::s,y::t=>x<y∨(x=y∧LexLt s t)
  |_,_=>False
theorem asc_room {n:Nat}:∀{s:List Int} {i:Nat},Asc n i s→s=[]∨i+s.length≤n:=by
  intro s
  induction s with
  |nil=>intro i _;exact .inl rfl
  | cons x t ih=>
    rintro i ⟨j,_,h1,h2,h3⟩
    right
    rcases ih h3 with e|e
    · subst e;simp only [List.length_cons,List.length_nil];omega
    · simp only [List.length_cons];omega
theorem choose_none {n:Nat} {ok:List Int→Bool}:∀{m:Nat} {l:List Int} {i:Nat},chooseL n ok m l i=none→∀s,Asc n i s→s.length=m→ok (l++s)=false:=by
  intro m
  induction m with
  | zero=>
    intro l i h s hs hl
    rw [List.length_eq_zero_iff.1 hl,List.append_nil]
    simp only [chooseL]at h
    split at h
    · cases h
    · rename_i q;simpa using q
  | succ m ih=>
    intro l i h s hs hl
    cases s with
    |nil=>cases hl
    | cons x t=>
      obtain⟨j,rfl,h1,h2,h3⟩:=hs
      simp only [List.length_cons]at hl
      simp only [chooseL]at h
      have hj:j<i+(n-m-i):=by
        rcases asc_room h3 with e|e
        · rw [e]at hl;simp at hl;omega
        · omega
      have:=ih (firstOf_none h j h1 hj) t h3 (by omega)
      simpa using this
theorem choose_some {n:Nat} {ok:List Int→Bool} {F:List Int}:∀{m:Nat} {l:List Int} {i:Nat},chooseL n ok m l i=some F→∃s,Asc n i s∧s.length=m∧F=l++s∧ok F=true∧∀s',Asc n i s'→s'.length=m→ok (l++s')=true→s=s'∨LexLt s s':=by
  intro m
  induction m with
  | zero=>
    intro l i h
    simp only [chooseL]at h
    split at h
    · rename_i q
      cases h
      refine⟨[],trivial,rfl,(List.append_nil _).symm,q,fun s' _ hl _=>.inl (List.length_eq_zero_iff.1 hl).symm⟩
    · cases h
  | succ m ih=>
    intro l i h
    simp only [chooseL]at h
    obtain⟨j,h1,h2,h3,h4⟩:=firstOf_at h
    obtain⟨s,a1,a2,a3,a4,a5⟩:=ih h3
    refine⟨(j:Int)::s,⟨j,rfl,h1,by omega,a1⟩,by simp [a2],by rw [a3];simp,a4,fun s' hs hl hok=> ?_⟩
    cases s' with
    |nil=>cases hl
    | cons x t=>
      obtain⟨j',rfl,b1,b2,b3⟩:=hs
      simp only [List.length_cons]at hl
      rcases Nat.lt_trichotomy j j' with e|e|e
      · exact .inr (.inl (by omega))
      · subst e
        rcases a5 t b3 (by omega) (by simpa using hok)with q|q
        · exact .inl (by rw [q])
        · exact .inr (.inr ⟨rfl,q⟩)
      · have:=choose_none (h4 j' b1 e) t b3 (by omega)
        rw [show l++[(j':Int)]++t=l++(j':Int)::t by simp,hok]at this
        cases this
theorem leave_spec {c:Clr} {l:List LookT}(h:lookedF c l=0):Asc l.length 0 (leaveL c l)∧okL c l (leaveL c l)=true ∧
    ∀s,Asc l.length 0 s→okL c l s=true→(leaveL c l).length≤s.length∧(s.length=(leaveL c l).length→leaveL c l=s∨LexLt (leaveL c l) s):=by
  have hO:=leave_yes h
  unfold leaveO at hO
  obtain⟨m,_,h2,h3,h4⟩:=firstOf_at hO
  obtain⟨s,a1,a2,a3,a4,a5⟩:=choose_some h3
  have e:leaveL c l=s:=by rw [a3];simp
  refine⟨e▸a1,a4,fun s' hs hok=> ?_⟩
  rw [e]
  have hmin:s.length≤s'.length:=by
    refine Nat.le_of_not_lt fun hlt=> ?_
    have:=choose_none (h4 s'.length (by omega) (by omega)) s' hs rfl
    rw [List.nil_append,hok]at this
    cases this
  exact⟨hmin,fun he=>a5 s' hs (by omega) (by simpa using hok)⟩
theorem right_iff {c:Clr} {l:List LookT} {v:Int} {x:Nat→Int} {o:List Int}:rightB c l v x o=true↔∀i,i<l.length→(l.getD i k0).v=v→inL o i=false→seeB c (l.getD i k0) (x (l.getD i k0).h.toNat)=true:=by
  unfold rightB
  rw [allB_t]
  constructor
  · intro h i hi h1 h2
    have:=h i hi
    unfold rightP at this
    rw [h1,h2,decide_eq_true rfl]at this
    simpa using this
  · intro h i hi
    unfold rightP
    by_cases h1:(l.getD i k0).v=v
    · cases h2:inL o i with
      |true=>simp
      |false=>rw [h i hi h1 h2];simp
    · rw [decide_eq_false h1];rfl
theorem ok_iff {c:Clr}(hc:COk c) {l:List LookT} {o:List Int}:okL c l o=true↔∃rm,c.rl≤rm∧rm≤c.rh∧∀v:Nat,v<c.vs.length→∃st rt,FitV c l o rm v st rt:=by
  unfold okL
  rw [decide_eq_true_eq]
  constructor
  · intro h
    obtain⟨rm,hm⟩:=some_mem h
    have:=(mem_rooms hc.ok.r1).1 hm
    exact⟨rm,this.1,this.2.1,(room_iff hc).1 this.2.2⟩
  · rintro⟨rm,h1,h2,h3⟩
    exact List.length_pos_of_mem ((mem_rooms hc.ok.r1).2 ⟨h1,h2,(room_iff hc).2 h3⟩)
theorem ask_ok {c:Clr} {l:List LookT}(h:lookedF c l=0):askE c l=0↔okL c l []=true:=by
  unfold askE okL
  rw [if_pos h,decide_eq_true_eq]
  split
  · rename_i q;exact⟨fun e=>(by cases e),fun e=>absurd q (by omega)⟩
  · rename_i q;exact⟨fun _=>by omega,fun _=>rfl⟩
theorem ok_mono {c x:Clr} {l l':List LookT} {o o':List Int}(hc:COk c)(hx:COk x)(m:Mono c l o x l' o')(h:okL c l o=true):okL x l' o'=true:=by
  obtain⟨rm,h1,h2,h3⟩:=(ok_iff hc).1 h
  have a:=m.r0;have b:=m.r1
  refine(ok_iff hx).2 ⟨rm,by omega,by omega,fun v hv=> ?_⟩
  have hv:=m.n▸hv
  obtain⟨st,rt,hf⟩:=h3 v hv
  exact⟨st,rt,m.fit rm v st rt hv hf⟩
theorem room_mono {c x:Clr} {l l':List LookT} {o o':List Int}(hc:COk c)(hx:COk x)(m:Mono c l o x l' o') {rm:Int}(h:rm∈roomsL c l o):rm∈roomsL x l' o':=by
  obtain⟨h1,h2,h3⟩:=(mem_rooms hc.ok.r1).1 h
  have a:=m.r0;have b:=m.r1
  refine(mem_rooms hx.ok.r1).2 ⟨by omega,by omega,(room_iff hx).2 fun v hv=> ?_⟩
  have hv:=m.n▸hv
  obtain⟨st,rt,hf⟩:=(room_iff hc).1 h3 v hv
  exact⟨st,rt,m.fit rm v st rt hv hf⟩
theorem bound_mono {c x:Clr} {l l':List LookT}(hc:COk c)(hx:COk x)(m:Mono c l [] x l' [])(h:askE c l=0) {v:Nat}(hv:v<c.vs.length) {k:Nat}(hk:k≤8):
    loW x (vyL x l' v) k≤loW c (vyL c l v) k∧hiW c (vyL c l v) k≤hiW x (vyL x l' v) k:=by
  have vo:=vatA_ok hc (v:=(v:Int)) (by omega) (by omega)
  have vx:=vatA_ok hx (v:=(v:Int)) (by omega) (by have:=m.n;omega)
  obtain⟨rm,st,rt,hm,hf,e⟩:=lo_is vo (vy_ne h hv) k
  obtain⟨rm',st',rt',hm',hf',e'⟩:=hi_is vo (vy_ne h hv) k
  have a:=lo_le vx (room_mono hc hx m hm) (m.fit rm v st rt hv hf) k
  have b:=hi_ge vx (room_mono hc hx m hm') (m.fit rm' v st' rt' hv hf') hk
  rw [m.hr]at a b
  unfold vyL at *
  omega
end Go.Proofs.Yteelocfbbhchcaa

namespace Go.Proofs.Yteelocfbbhchcaa
open Go Go.Eng Go.Proofs
set_option maxRecDepth 10000
theorem lit_t {f:FuncId} {args:List SV} {b:Bool}(h:FSpec Try.prog f args [] (fun r _=>r = .bool (.sym fun _=>b)))(hb:b=true):FSpec Try.prog f args [] (fun r _=>r = .bool (.lit true)):=h.post fun r bs q=>⟨_,by subst q;exact qG hb,rfl⟩
theorem lit_i {f:FuncId} {args:List SV} {n:Int}(h:FSpec Try.prog f args [] (fun r _=>r = .int .i64 (.sym fun _=>n))) {m:Int}(hb:n=m):FSpec Try.prog f args [] (fun r _=>r = .int .i64 (.lit m)):=h.post fun r bs q=>⟨_,by subst q;exact qE hb,rfl⟩
theorem inside46 (n m:Nat)(fa ga fb gb:Nat→Nat→Int)(hn:n≤1000)(hm:m≤1000)(h:∀v k,v<n→k<m→fb v k≤fa v k∧ga v k≤gb v k):FSpec Try.prog 46 [(.sl 1 (.sym fun _=>zi n) (fun ix=>[(.sl 2 (.sym fun _=>zi (m)) (fun jx=>[(.int .i64 (.sym fun _=>fa ix.den.toNat jx.den.toNat)),(.int .i64 (.sym fun _=>ga ix.den.toNat jx.den.toNat))]))])),(.sl 1 (.sym fun _=>zi n) (fun ix=>[(.sl 2 (.sym fun _=>zi (m)) (fun jx=>[(.int .i64 (.sym fun _=>fb ix.den.toNat jx.den.toNat)),(.int .i64 (.sym fun _=>gb ix.den.toNat jx.den.toNat))]))]))] [] (fun r _=>r=(.bool (.lit true))):=by
  refine FSpec.is fun R hR=>qX (sc:=sc46) tyok mix Try.func46 rfl Try.call46 (by kernel_rfl) (by kernel_rfl) ?_
  generalize Try.prog=P
  cbv
  repeat' (first
      |with_reducible refine And.intro ?_ ?_
      |(with_reducible intro hcd;(try simp only [zA,zB,zC,zD,zE,zF,zG,zH,zI,zJ,zK,zL,zM,zN,zO,zP]at hcd);try cbv)
      |fail)
  all_goals first
    |trivial
    |skip
  refine⟨none,[],{v:Nat // v≤n},fun x=>⟨[(0,(.sl 1 (.sym fun _=>zi n) (fun ix=>[(.sl 2 (.sym fun _=>zi (m)) (fun jx=>[(.int .i64 (.sym fun _=>fa ix.den.toNat jx.den.toNat)),(.int .i64 (.sym fun _=>ga ix.den.toNat jx.den.toNat))]))]))),(1,(.sl 1 (.sym fun _=>zi n) (fun ix=>[(.sl 2 (.sym fun _=>zi (m)) (fun jx=>[(.int .i64 (.sym fun _=>fb ix.den.toNat jx.den.toNat)),(.int .i64 (.sym fun _=>gb ix.den.toNat jx.den.toNat))]))]))),(5,(.int .i64 (.sym fun _=>zi x.1)))],[],30⟩,fun x=>n-x.1,?_,?_⟩
  · refine⟨⟨0,by omega⟩,?_⟩
    cbv
    repeat' (first
      |with_reducible refine hold ?_ ?_
      |with_reducible refine And.intro ?_ ?_)
    all_goals first
      |trivial
      |exact qN (qE (by rfl))
      |exact qN (Fit.refl _)
      |skip
  · rintro⟨v,hv⟩
    cbv
    repeat' (first
        |with_reducible refine hold ?_ ?_
        |with_reducible refine And.intro ?_ ?_
        |(with_reducible intro hcd;(try simp only [zA,zB,zC,zD,zE,zF,zG,zH,zI,zJ,zK,zL,zM,zN,zO,zP]at hcd);try cbv)
        |fail)
    all_goals first
      |trivial
      |((try simp only [qW]at *);(try simp only [zQ,zA,zB,zC,zD,zE,zF,zG,zH,zI,zJ,zK,zL,zM,zN,zO,zP,zR,zS]at *);first|(refine qO ?_;omega)|(simp only [Hold];omega))
      |(subst hR;(repeat' (first|exact qA|exact qB|refine qC ?_ rfl ?_|refine qD ?_ ?_|exact qE (by rfl)|exact qG (by rfl)|exact Fit.refl _|exact qH _|(refine qE ?_;(try simp only [qW]at *);simp only [zQ,zA,zB,zC,zD,zE,zF,zG,zH,zI,zJ,zK,zL,zM,zN,zO,zP,zR,zS]at *;omega)));done)
      |skip
    refine⟨none,[],{k:Nat // k≤m},fun x=>⟨[(0,(.sl 1 (.sym fun _=>zi n) (fun ix=>[(.sl 2 (.sym fun _=>zi (m)) (fun jx=>[(.int .i64 (.sym fun _=>fa ix.den.toNat jx.den.toNat)),(.int .i64 (.sym fun _=>ga ix.den.toNat jx.den.toNat))]))]))),(1,(.sl 1 (.sym fun _=>zi n) (fun ix=>[(.sl 2 (.sym fun _=>zi (m)) (fun jx=>[(.int .i64 (.sym fun _=>fb ix.den.toNat jx.den.toNat)),(.int .i64 (.sym fun _=>gb ix.den.toNat jx.den.toNat))]))]))),(5,(.int .i64 (.sym fun _=>zi v))),(6,(.int .i64 (.sym fun _=>zi x.1)))],[],60⟩,fun x=>m-x.1,?_,?_⟩
    · refine⟨⟨0,by omega⟩,?_⟩
      cbv
      repeat' (first
        |with_reducible refine hold ?_ ?_
        |with_reducible refine And.intro ?_ ?_)
      all_goals first
        |trivial
        |exact qN (qE (by rfl))
        |exact qN (Fit.refl _)
        |skip
    · rintro⟨k,hk⟩
      cbv
      cbv
      repeat' (first
          |with_reducible refine hold ?_ ?_
          |with_reducible refine And.intro ?_ ?_
          |(with_reducible intro hcd;(try simp only [zA,zB,zC,zD,zE,zF,zG,zH,zI,zJ,zK,zL,zM,zN,zO,zP]at hcd);try cbv)
          |fail)
      all_goals first
        |((try simp only [qW]at *);(try simp only [zQ,zA,zB,zC,zD,zE,zF,zG,zH,zI,zJ,zK,zL,zM,zN,zO,zP,zR,zS]at *);first|(refine qO ?_;omega)|(simp only [Hold];omega))
        |(exfalso;(have hh:=h v k (by((try simp only [qW]at *);(try simp only [zQ,zA,zB,zC,zD,zE,zF,zG,zH,zI,zJ,zK,zL,zM,zN,zO,zP,zR,zS]at *);omega)) (by((try simp only [qW]at *);(try simp only [zQ,zA,zB,zC,zD,zE,zF,zG,zH,zI,zJ,zK,zL,zM,zN,zO,zP,zR,zS]at *);omega)));(try simp only [qW]at *);(try simp only [zQ,zA,zB,zC,zD,zE,zF,zG,zH,zI,zJ,zK,zL,zM,zN,zO,zP,zR,zS]at *);omega)
        |((try simp only [zQ,zA,zB,zC,zD,zE,zF,zG,zH,zI,zJ,zK,zL,zM,zN,zO,zP,zR,zS]at *);refine⟨⟨k+1,by omega⟩,by simp only [];omega,?_⟩;cbv;(repeat' (first|with_reducible refine hold ?_ ?_|with_reducible refine And.intro ?_ ?_));(all_goals first|trivial|exact qN (qE (by rfl))|exact qN (qG (by rfl))|exact qN (Fit.refl _)|exact qM (qL _)|(refine qN (qE ?_);(try simp only [qW]at *);simp only [zQ,zA,zB,zC,zD,zE,zF,zG,zH,zI,zJ,zK,zL,zM,zN,zO,zP,zR,zS]at *;omega)|(refine qM (qK ?_);(repeat' (first|exact qA|exact qB|refine qC ?_ rfl ?_|refine qD ?_ ?_|exact qE (by rfl)|exact qG (by rfl)|exact Fit.refl _|exact qH _|(refine qE ?_;(try simp only [qW]at *);simp only [zQ,zA,zB,zC,zD,zE,zF,zG,zH,zI,zJ,zK,zL,zM,zN,zO,zP,zR,zS]at *;omega)));done)|skip))
        |((try simp only [zQ,zA,zB,zC,zD,zE,zF,zG,zH,zI,zJ,zK,zL,zM,zN,zO,zP,zR,zS]at *);refine⟨⟨v+1,by omega⟩,by simp only [];omega,?_⟩;cbv;(repeat' (first|with_reducible refine hold ?_ ?_|with_reducible refine And.intro ?_ ?_));(all_goals first|trivial|exact qN (qE (by rfl))|exact qN (qG (by rfl))|exact qN (Fit.refl _)|exact qM (qL _)|(refine qN (qE ?_);(try simp only [qW]at *);simp only [zQ,zA,zB,zC,zD,zE,zF,zG,zH,zI,zJ,zK,zL,zM,zN,zO,zP,zR,zS]at *;omega)|(refine qM (qK ?_);(repeat' (first|exact qA|exact qB|refine qC ?_ rfl ?_|refine qD ?_ ?_|exact qE (by rfl)|exact qG (by rfl)|exact Fit.refl _|exact qH _|(refine qE ?_;(try simp only [qW]at *);simp only [zQ,zA,zB,zC,zD,zE,zF,zG,zH,zI,zJ,zK,zL,zM,zN,zO,zP,zR,zS]at *;omega)));done)|skip))
        |skip
end Go.Proofs.Yteelocfbbhchcaa

namespace Go.Proofs.Yteelocfbbhchcaa
open Go Go.Eng Go.Proofs
set_option maxRecDepth 10000
theorem leave_len {c:Clr} {l:List LookT}(h:lookedF c l=0):(leaveL c l).length≤l.length:=by
  rcases asc_room (leave_spec h).1 with e|e
  · rw [e];simp
  · omega
end Go.Proofs.Yteelocfbbhchcaa

namespace Go.Proofs.Yteelocfbbhchcaa
open Go Go.Eng Go.Proofs
set_option maxRecDepth 10000
def mx2 (a b:Int):Int:=if b>a then b else a
end Go.Proofs.Yteelocfbbhchcaa

namespace Go.Proofs.Yteelocfbbhchcaa
open Go Go.Eng Go.Proofs
set_option maxRecDepth 10000
def mn2 (a b:Int):Int:=if b<a then b else a
def widV (a b d e:Int)(v:VatT):VatT:=⟨mx2 0 (v.sl-a),mn2 200 (v.sh+b),mx2 0 (v.rl-d),mn2 100 (v.rh+e)⟩
def widP (a:Int)(p:PartT):PartT:=⟨p.f,p.el,mn2 10 (p.eh+a)⟩
def widL (a:Int)(ps:List PartT):List PartT:=ps.set 0 (widP a (ps.getD 0 p0))
def widT (a:Int)(t:ThmT):ThmT:=⟨t.top,widL a t.ps⟩
def widC (c:Clr)(k:Nat)(a b d e f g:Int):Clr:=⟨mx2 0 (c.rl-f),c.rh,c.hr,c.vs.set k (widV a b d e (c.vs.getD k v0)),c.ts.map (widT g)⟩
theorem set_at {α:Type} {l:List α} {k:Nat} {x d:α}(h:k<l.length)(i:Nat):(l.set k x).getD i d=if i=k then x else l.getD i d:=by
  simp only [List.getD_eq_getElem?_getD,List.getElem?_set]
  by_cases e:k=i
  · subst e;simp [h]
  · rw [if_neg e,if_neg fun q=>e q.symm]
theorem map_at (g:Int)(l:List ThmT) {i:Nat}(h:i<l.length):(l.map (widT g)).getD i t0=widT g (l.getD i t0):=by
  simp only [List.getD_eq_getElem?_getD,List.getElem?_map]
  rw [List.getElem?_eq_getElem h]
  rfl
theorem widL_at {a:Int} {ps:List PartT}(h:0<ps.length)(i:Nat):(widL a ps).getD i p0=if i=0 then widP a (ps.getD 0 p0)else ps.getD i p0:=set_at h i
theorem widL_len (a:Int)(ps:List PartT):(widL a ps).length=ps.length:=by unfold widL;simp
theorem widL_f {a:Int} {ps:List PartT}(h:0<ps.length)(i:Nat):((widL a ps).getD i p0).f=(ps.getD i p0).f:=by
  rw [widL_at h]
  split
  · rename_i q;rw [q];rfl
  · rfl
theorem mAt_eq {ps qs:List PartT} {s:Int}(h:∀i,(qs.getD i p0).f=(ps.getD i p0).f):∀n,mAt qs s n=mAt ps s n:=by
  intro n
  induction n with
  |zero=>rfl
  |succ n ih=>simp only [mAt,h,ih]
theorem widT_mean {g:Int} {t:ThmT}(hp:0<t.ps.length)(ht:∀i,i<t.ps.length→(t.ps.getD i p0).eh≤10)(hg:0≤g)(s:Int):meanLo (widT g t) s≤meanLo t s∧meanHi (widT g t) s=meanHi t s:=by
  unfold meanLo meanHi meanP
  have e:mAt (widT g t).ps s ((widT g t).ps.length-1)=mAt t.ps s (t.ps.length-1):=by
    show mAt (widL g t.ps) s ((widL g t.ps).length-1)=_
    rw [widL_len]
    exact mAt_eq (widL_f hp) _
  rw [e]
  have hm:=mAt_le t.ps s (t.ps.length-1)
  show s-((widL g t.ps).getD (mAt t.ps s (t.ps.length-1)) p0).eh≤_∧s-((widL g t.ps).getD (mAt t.ps s (t.ps.length-1)) p0).el=_
  obtain⟨n,hn⟩:∃n,mAt t.ps s (t.ps.length-1)=n:=⟨_,rfl⟩
  rw [hn]at hm⊢
  rw [widL_at hp]
  have:=ht n (by omega)
  split
  · rename_i q
    subst q
    show s-mn2 10 ((t.ps.getD 0 p0).eh+g)≤s-(t.ps.getD 0 p0).eh∧s-(t.ps.getD 0 p0).el=s-(t.ps.getD 0 p0).el
    unfold mn2
    exact⟨by split<;>omega,rfl⟩
  · exact⟨Int.le_refl _,rfl⟩
theorem widT_on {g:Int} {t:ThmT}(hp:0<t.ps.length)(s:Int):onB (widT g t) s=onB t s:=by
  unfold onB
  show inB ((widL g t.ps).getD 0 p0).f s t.top=_
  rw [widL_f hp]
section
variable {c:Clr} {k:Nat} {a b d e f g:Int}
theorem wid_th (h:Wd k c a b d e f g) {x:LookT}(hx:LookIn c x):thA (widC c k a b d e f g) x=widT g (thA c x):=by
  unfold thA widC
  exact map_at g c.ts (by have:=hx.t0;have:=hx.t1;omega)
theorem wid_lookin (hC:COk c)(h:Wd k c a b d e f g) {x:LookT}(hx:LookIn c x):LookIn (widC c k a b d e f g) x:=by
  refine⟨hx.v0,?_,hx.h0,hx.h1,hx.t0,?_,?_⟩
  · show x.v<((c.vs.set k _).length:Int)
    rw [List.length_set];exact hx.v1
  · show x.t<((c.ts.map _).length:Int)
    rw [List.length_map];exact hx.t1
  · rw [wid_th h hx,widT_on]
    · exact hx.on
    · have:=(hC.ok.t x.t.toNat (by have:=hx.t0;have:=hx.t1;omega)).2.2.1
      unfold thA
      omega
theorem wid_look (hC:COk c)(h:Wd k c a b d e f g) {l:List LookT}(hl:lookF c l=0):lookF (widC c k a b d e f g) l=0:=by
  rw [lookF_iff]at hl⊢
  exact⟨hl.len,fun i hi=>wid_lookin hC h (hl.ok i hi)⟩
theorem wid_vat (h:Wd k c a b d e f g)(i:Nat):vatA (widC c k a b d e f g) (i:Int)=if i=k then widV a b d e (c.vs.getD k v0)else c.vs.getD i v0:=by
  rw [vatA_nat]
  exact set_at h.k i
theorem wid_see (hC:COk c)(h:Wd k c a b d e f g) {x:LookT}(hx:LookIn c x) {w:Int}(hs:seeB c x w=true):seeB (widC c k a b d e f g) x w=true:=by
  have ho:=hC.ok.t x.t.toNat (by have:=hx.t0;have:=hx.t1;omega)
  have hm:=widT_mean (g:=g) (t:=thA c x) (by have:=ho.2.2.1;unfold thA;omega) (fun i hi=>by have:=ho.2.2.2 i hi;unfold partOk at this;unfold thA;omega) h.g x.s
  unfold seeB at hs⊢
  rw [wid_th h hx,inB_t]at *
  omega
theorem wid_mono (hC:COk c)(h:Wd k c a b d e f g) {l:List LookT}(hl:lookF c l=0)(o:List Int):Mono c l o (widC c k a b d e f g) l o:=by
  rw [lookF_iff]at hl
  refine⟨by unfold widC;simp,rfl,?_,Int.le_refl _,fun rm v st rt hv hf=> ?_⟩
  · have:=h.f
    have:=hC.ok.r0
    show mx2 0 (c.rl-f)≤c.rl
    unfold mx2
    split<;>omega
  · have ho:=hC.ok.v v hv
    unfold vatOk at ho
    obtain⟨s0,s1,r0,r1,hf⟩:=hf
    rw [vatA_nat]at s0 s1 r0 r1
    have hw:=wid_vat h v
    have q1:=h.a
    have q2:=h.b
    have q3:=h.d
    have q4:=h.e
    have key:(vatA (widC c k a b d e f g) (v:Int)).sl≤st∧st≤(vatA (widC c k a b d e f g) (v:Int)).sh∧(vatA (widC c k a b d e f g) (v:Int)).rl≤rt∧rt≤(vatA (widC c k a b d e f g) (v:Int)).rh:=by
      rw [hw]
      split
      · rename_i e
        subst e
        unfold widV mx2 mn2
        simp only
        refine⟨?_,?_,?_,?_⟩<;>split<;>omega
      · exact⟨s0,s1,r0,r1⟩
    refine⟨key.1,key.2.1,key.2.2.1,key.2.2.2,?_⟩
    unfold fitW at hf⊢
    rw [right_iff]at hf⊢
    intro i hi h1 h2
    exact wid_see hC h (hl.ok i hi) (hf i hi h1 h2)
theorem wid_ask (hC:COk c)(hX:COk (widC c k a b d e f g))(h:Wd k c a b d e f g) {l:List LookT}(hl:lookF c l=0)(hA:askE c l=0):askE (widC c k a b d e f g) l=0:=
  (ask_ok (looked_z hX (wid_look hC h hl))).2 (ok_mono hC hX (wid_mono hC h hl []) ((ask_ok (looked_z hC hl)).1 hA))
theorem wid_leave (hC:COk c)(hX:COk (widC c k a b d e f g))(h:Wd k c a b d e f g) {l:List LookT}(hl:lookF c l=0):(leaveL (widC c k a b d e f g) l).length≤(leaveL c l).length:=by
  have s:=leave_spec (looked_z hC hl)
  have t:=leave_spec (looked_z hX (wid_look hC h hl))
  exact(t.2.2 _ s.1 (ok_mono hC hX (wid_mono hC h hl _) s.2.1)).1
end
end Go.Proofs.Yteelocfbbhchcaa

namespace Go.Proofs.Yteelocfbbhchcaa
open Go Go.Eng Go.Proofs
set_option maxRecDepth 10000
def sc8b :SC:=[(15,[⟨2,false,[],false,0,none⟩]),(16,[⟨0,false,[],false,0,none⟩]),(5,[⟨0,false,[],false,0,none⟩,⟨1,false,[0],false,0,none⟩,⟨2,false,[],false,0,none⟩,⟨3,false,[2],false,0,none⟩,⟨4,false,[],false,0,none⟩,⟨5,false,[4],false,0,none⟩,⟨6,false,[4,5],false,0,none⟩,⟨7,false,[2,3,4,5,6],false,0,none⟩,⟨8,true,[0,1,2,3,4,5,6,7],false,0,none⟩,⟨9,true,[0,1,2,3,4,5,6,7,8],false,0,none⟩]),(6,[⟨0,false,[],false,0,none⟩,⟨1,false,[],false,0,none⟩,⟨2,false,[1],false,0,none⟩,⟨3,false,[1,2],false,0,none⟩,⟨4,false,[1,2,3],false,0,none⟩,⟨5,false,[1,2,3,4],false,0,none⟩,⟨6,false,[],false,0,none⟩,⟨7,false,[6],false,0,none⟩,⟨8,false,[6,7],false,0,none⟩,⟨9,false,[1,2,3,4,5,6,7,8],false,0,none⟩,⟨10,false,[1,2,3,4,5,6,7,8,9],false,0,none⟩,⟨11,false,[],false,0,none⟩,⟨12,false,[11],false,0,none⟩,⟨13,false,[11,12],false,0,none⟩,⟨14,false,[11,12,13],false,0,none⟩,⟨15,false,[11,12,13,14],false,0,none⟩,⟨16,false,[],false,0,none⟩,⟨17,false,[16],false,0,none⟩,⟨18,false,[16,17],false,0,none⟩,⟨19,false,[16,17,18],false,0,none⟩,⟨20,false,[11,12,13,14,15,16,17,18,19],false,0,none⟩,⟨21,false,[11,12,13,14,15,16,17,18,19,20],false,0,none⟩,⟨22,false,[1,2,3,4,5,6,7,8,9,10,11,12,13,14,15,16,17,18,19,20,21],false,0,none⟩,⟨23,true,[0,1,2,3,4,5,6,7,8,9,10,11,12,13,14,15,16,17,18,19,20,21,22],false,0,none⟩,⟨24,true,[0,1,2,3,4,5,6,7,8,9,10,11,12,13,14,15,16,17,18,19,20,21,22,23],false,0,none⟩,⟨25,true,[0,1,2,3,4,5,6,7,8,9,10,11,12,13,14,15,16,17,18,19,20,21,22,23,24],false,0,none⟩]),(7,[⟨0,false,[],false,0,none⟩,⟨1,false,[],false,0,none⟩,⟨2,false,[1],false,0,none⟩,⟨3,false,[1,2],false,0,none⟩,⟨4,false,[1,2,3],false,0,none⟩,⟨5,false,[1,2,3,4],false,0,none⟩,⟨6,false,[],false,0,none⟩,⟨7,false,[6],false,0,none⟩,⟨8,false,[6,7],false,0,none⟩,⟨9,false,[6,7,8],false,0,none⟩,⟨10,false,[1,2,3,4,5,6,7,8,9],false,0,none⟩,⟨11,false,[1,2,3,4,5,6,7,8,9,10],false,0,none⟩,⟨12,false,[],false,0,none⟩,⟨13,false,[12],false,0,none⟩,⟨14,false,[12,13],false,0,none⟩,⟨15,false,[12,13,14],false,0,none⟩,⟨16,false,[12,13,14,15],false,0,none⟩,⟨17,false,[],false,0,none⟩,⟨18,false,[17],false,0,none⟩,⟨19,false,[17,18],false,0,none⟩,⟨20,false,[17,18,19],false,0,none⟩,⟨21,false,[12,13,14,15,16,17,18,19,20],false,0,none⟩,⟨22,false,[12,13,14,15,16,17,18,19,20,21],false,0,none⟩,⟨23,false,[1,2,3,4,5,6,7,8,9,10,11,12,13,14,15,16,17,18,19,20,21,22],false,0,none⟩,⟨24,true,[0,1,2,3,4,5,6,7,8,9,10,11,12,13,14,15,16,17,18,19,20,21,22,23],false,0,none⟩,⟨25,true,[0,1,2,3,4,5,6,7,8,9,10,11,12,13,14,15,16,17,18,19,20,21,22,23,24],false,0,none⟩,⟨26,true,[0,1,2,3,4,5,6,7,8,9,10,11,12,13,14,15,16,17,18,19,20,21,22,23,24,25],false,0,none⟩]),(13,[⟨0,false,[],false,0,none⟩,⟨1,false,[0],false,0,none⟩,⟨2,false,[],false,0,none⟩,⟨3,false,[0,1,2],false,0,none⟩,⟨4,false,[0,1,2,3],false,0,none⟩,⟨5,false,[0,1,2,3,4],false,0,none⟩,⟨6,false,[],false,0,none⟩,⟨7,false,[],false,0,none⟩,⟨8,false,[7],false,0,none⟩,⟨9,false,[],false,0,none⟩,⟨10,false,[7,8,9],false,0,none⟩,⟨11,false,[7,8,9,10],false,0,none⟩,⟨12,false,[7,8,9,10,11],false,0,none⟩,⟨15,false,[],false,0,none⟩,⟨13,false,[6,7,8,9,10,11,12],false,0,none⟩,⟨14,false,[0,1,2,3,4,5,6,7,8,9,10,11,12,13],false,0,none⟩,⟨16,true,[0,1,2,3,4,5,6,7,8,9,10,11,12,13,14,15],false,0,none⟩]),(14,[⟨0,false,[],false,0,none⟩,⟨1,false,[0],false,0,none⟩,⟨2,false,[],false,0,none⟩,⟨3,false,[2],false,0,none⟩,⟨4,false,[2,3],false,0,none⟩,⟨5,false,[2,3,4],false,0,none⟩,⟨6,false,[2,3,4,5],false,0,none⟩,⟨7,false,[2,3,4,5,6],false,0,none⟩,⟨8,false,[],false,0,none⟩,⟨9,false,[8],false,0,none⟩,⟨10,false,[8,9],false,0,none⟩,⟨11,false,[2,3,4,5,6,7,8,9,10],false,0,none⟩,⟨12,false,[2,3,4,5,6,7,8,9,10,11],false,0,none⟩,⟨13,true,[0,1,2,3,4,5,6,7,8,9,10,11,12],false,0,none⟩,⟨14,true,[0,1,2,3,4,5,6,7,8,9,10,11,12,13],false,0,none⟩,⟨15,true,[0,1,2,3,4,5,6,7,8,9,10,11,12,13,14],false,0,none⟩,⟨16,true,[0,1,2,3,4,5,6,7,8,9,10,11,12,13,14,15],false,0,none⟩])]
theorem lit_iP {P:Program} {f:FuncId} {args:List SV} {n:Int}(h:FSpec P f args [] (fun r _=>r = .int .i64 (.sym fun _=>n))) {m:Int}(hb:n=m):FSpec P f args [] (fun r _=>r = .int .i64 (.lit m)):=h.post fun r bs q=>⟨_,by subst q;exact qE hb,rfl⟩
theorem bd_yP {P:Program} {c:Clr} {l:List LookT}(h:FSpec P 30 [(clrS c),(lksS l)] [] (fun r _=>r=(.tup [(.sl 1 (.sym fun _=>zi (bndN c l)) (fun ix=>[(.sl 2 (.sym fun _=>zi (c.hr.toNat+1)) (fun jx=>[(.int .i64 (.sym fun _=>loW c (vyL c l ix.den.toNat) jx.den.toNat)),(.int .i64 (.sym fun _=>hiW c (vyL c l ix.den.toNat) jx.den.toNat))]))])),(.int .i64 (.sym fun _=>askE c l))])))(hA:askE c l=0):FSpec P 30 [(clrS c),(lksS l)] [] (fun r _=>r=(.tup [(.sl 1 (.sym fun _=>zi c.vs.length) (fun ix=>[(.sl 2 (.sym fun _=>zi (c.hr.toNat+1)) (fun jx=>[(.int .i64 (.sym fun _=>loW c (vyL c l ix.den.toNat) jx.den.toNat)),(.int .i64 (.sym fun _=>hiW c (vyL c l ix.den.toNat) jx.den.toNat))]))])),(.int .i64 (.lit (0)))])):=
  h.post fun r bs q=>⟨_,by subst q;exact qD (fit_sl (congrArg zi (bndN_yes hA)) (fun _ _ _=>Fit.refl _)) (qD (qE hA) qB),rfl⟩
theorem bd_nP {P:Program} {c:Clr} {l:List LookT}(h:FSpec P 30 [(clrS c),(lksS l)] [] (fun r _=>r=(.tup [(.sl 1 (.sym fun _=>zi (bndN c l)) (fun ix=>[(.sl 2 (.sym fun _=>zi (c.hr.toNat+1)) (fun jx=>[(.int .i64 (.sym fun _=>loW c (vyL c l ix.den.toNat) jx.den.toNat)),(.int .i64 (.sym fun _=>hiW c (vyL c l ix.den.toNat) jx.den.toNat))]))])),(.int .i64 (.sym fun _=>askE c l))])))(hA:askE c l=11):FSpec P 30 [(clrS c),(lksS l)] [] (fun r _=>r=(.tup [(.sl 1 (.lit 0) (fun ix=>[(.sl 2 (.sym fun _=>zi (c.hr.toNat+1)) (fun jx=>[(.int .i64 (.sym fun _=>loW c (vyL c l ix.den.toNat) jx.den.toNat)),(.int .i64 (.sym fun _=>hiW c (vyL c l ix.den.toNat) jx.den.toNat))]))])),(.int .i64 (.lit (11)))])):=
  h.post fun r bs q=>⟨_,by subst q;exact qD (fit_sl ((congrArg zi (bndN_no (by omega))).trans rfl) (fun _ _ _=>Fit.refl _)) (qD (qE hA) qB),rfl⟩
theorem lv_yP {P:Program} {c:Clr} {l:List LookT}(h:FSpec P 45 [(clrS c),(lksS l)] [] (fun r _=>r=(.tup [(.sl 1 (.sym fun _=>zi (leaveL c l).length) (fun ix=>[.int .i64 (.sym fun _=>(leaveL c l).getD ix.den.toNat 0)])),(.int .i64 (.sym fun _=>lookedF c l))])))(hA:lookedF c l=0):FSpec P 45 [(clrS c),(lksS l)] [] (fun r _=>r=(.tup [(.sl 1 (.sym fun _=>zi (leaveL c l).length) (fun ix=>[.int .i64 (.sym fun _=>(leaveL c l).getD ix.den.toNat 0)])),(.int .i64 (.lit (0)))])):=
  h.post fun r bs q=>⟨_,by subst q;exact qD (Fit.refl _) (qD (qE hA) qB),rfl⟩
theorem bd_wP {P:Program} {c X:Clr} {l:List LookT}(h:FSpec P 30 [(.agg [(.int .i64 (.sym fun _=>X.rl)),(.int .i64 (.sym fun _=>X.rh)),(.int .i64 (.sym fun _=>X.hr)),(.sl 4 (.sym fun _=>zi X.vs.length) (fun ix=>[(.int .i64 (.sym fun _=>(X.vs.getD ix.den.toNat v0).sl)),(.int .i64 (.sym fun _=>(X.vs.getD ix.den.toNat v0).sh)),(.int .i64 (.sym fun _=>(X.vs.getD ix.den.toNat v0).rl)),(.int .i64 (.sym fun _=>(X.vs.getD ix.den.toNat v0).rh))])),(.sl 2 (.sym fun _=>zi X.ts.length) (fun ix=>[(.int .i64 (.sym fun _=>(X.ts.getD ix.den.toNat t0).top)),(.sl 3 (.sym fun _=>zi ((X.ts.getD ix.den.toNat t0).ps).length) (fun jx=>[(.int .i64 (.sym fun _=>(((X.ts.getD ix.den.toNat t0).ps).getD jx.den.toNat p0).f)),(.int .i64 (.sym fun _=>(((X.ts.getD ix.den.toNat t0).ps).getD jx.den.toNat p0).el)),(.int .i64 (.sym fun _=>(((X.ts.getD ix.den.toNat t0).ps).getD jx.den.toNat p0).eh))]))]))]),(lksS l)] [] (fun r _=>r=(.tup [(.sl 1 (.sym fun _=>zi (bndN X l)) (fun ix=>[(.sl 2 (.sym fun _=>zi (X.hr.toNat+1)) (fun jx=>[(.int .i64 (.sym fun _=>loW X (vyL X l ix.den.toNat) jx.den.toNat)),(.int .i64 (.sym fun _=>hiW X (vyL X l ix.den.toNat) jx.den.toNat))]))])),(.int .i64 (.sym fun _=>askE X l))])))(hv:X.vs.length=c.vs.length)(hh:X.hr=c.hr)(hG:askE X l=0):FSpec P 30 [(.agg [(.int .i64 (.sym fun _=>X.rl)),(.int .i64 (.sym fun _=>X.rh)),(.int .i64 (.sym fun _=>X.hr)),(.sl 4 (.sym fun _=>zi X.vs.length) (fun ix=>[(.int .i64 (.sym fun _=>(X.vs.getD ix.den.toNat v0).sl)),(.int .i64 (.sym fun _=>(X.vs.getD ix.den.toNat v0).sh)),(.int .i64 (.sym fun _=>(X.vs.getD ix.den.toNat v0).rl)),(.int .i64 (.sym fun _=>(X.vs.getD ix.den.toNat v0).rh))])),(.sl 2 (.sym fun _=>zi X.ts.length) (fun ix=>[(.int .i64 (.sym fun _=>(X.ts.getD ix.den.toNat t0).top)),(.sl 3 (.sym fun _=>zi ((X.ts.getD ix.den.toNat t0).ps).length) (fun jx=>[(.int .i64 (.sym fun _=>(((X.ts.getD ix.den.toNat t0).ps).getD jx.den.toNat p0).f)),(.int .i64 (.sym fun _=>(((X.ts.getD ix.den.toNat t0).ps).getD jx.den.toNat p0).el)),(.int .i64 (.sym fun _=>(((X.ts.getD ix.den.toNat t0).ps).getD jx.den.toNat p0).eh))]))]))]),(lksS l)] [] (fun r _=>r=(.tup [(.sl 1 (.sym fun _=>zi c.vs.length) (fun ix=>[(.sl 2 (.sym fun _=>zi (c.hr.toNat+1)) (fun jx=>[(.int .i64 (.sym fun _=>loW X (vyL X l ix.den.toNat) jx.den.toNat)),(.int .i64 (.sym fun _=>hiW X (vyL X l ix.den.toNat) jx.den.toNat))]))])),(.int .i64 (.lit (0)))])):=
  h.post fun r bs q=>⟨_,by subst q;exact qD (fit_sl (congrArg zi ((bndN_yes hG).trans hv)) (fun _ _ _=>qC (fit_sl (congrArg zi (by rw [hh])) (fun _ _ _=>Fit.refl _)) rfl qA)) (qD (qE hG) qB),rfl⟩
def hfV (a b:Int)(v:VatT):VatT:=⟨mx2 0 (v.sl-a),mn2 200 (v.sh+b),v.rl,v.rh⟩
theorem set_no {α:Type} {l:List α} {k j:Nat} {x d:α}(h:j≠k):(l.set k x).getD j d=l.getD j d:=by
  simp only [List.getD_eq_getElem?_getD]
  rw [List.getElem?_set_ne (fun e=>h e.symm)]
theorem set_is {α:Type} {l:List α} {k:Nat} {x d:α}(h:k<l.length):(l.set k x).getD k d=x:=by
  rw [List.getD_eq_getElem?_getD,List.getElem?_set_self h];rfl
theorem law8t (c:Clr)(l:List LookT)(w b:Int)(hw:0≤w∧w≤255)(hb:0≤b∧b≤255)(h:¬(readyB c=true∧lookF c l=0)):FSpec Try.prog 8 [(clrS c),(lksS l),(.int .u8 (.sym fun _=>w)),(.int .u8 (.sym fun _=>b))] [] (fun r _=>r=(.bool (.lit true))):=by
  have c15:=awake15
  have c42:=ready42 c
  have c44:=fun h:readyB c=true=>lookfault44 c l (ready_ok h).fewT
  refine FSpec.is fun R hR=>qX (sc:=sc8) tyok mix Try.func8 rfl Try.call8 (by kernel_rfl) (by kernel_rfl) ?_
  generalize Try.prog=P at c15 c42 c44⊢
  cbv
  repeat' (first
      |with_reducible refine hold ?_ ?_
      |with_reducible refine And.intro ?_ ?_
      | (with_reducible refine qT ?_ ?_ ?_
         try cbv)
      | (with_reducible refine qU ?_ ?_
         try cbv)
      |(with_reducible intro hcd;(try simp only [zA,zB,zC,zD,zE,zF,zG,zH,zI,zJ,zK,zL,zM,zN,zO,zP]at hcd);try cbv)
      | (refine qQ ?_ (c42) ?hfit
         case hfit=>((repeat' (first|exact qB|refine qD ?_ ?_|exact qE (by rfl)|exact qG (by rfl)|exact Fit.refl _|exact qA|refine qC ?_ rfl ?_));done)
         try cbv)
      | (refine qQ ?_ (c44 (show Hold _ from ?_)) ?hfit
         case hfit=>((repeat' (first|exact qB|refine qD ?_ ?_|exact qE (by rfl)|exact qG (by rfl)|exact Fit.refl _|exact qA|refine qC ?_ rfl ?_));done)
         try cbv)
      | (refine qQ ?_ (c15) ?hfit
         case hfit=>((repeat' (first|exact qB|refine qD ?_ ?_|exact qE (by rfl)|exact qG (by rfl)|exact Fit.refl _|exact qA|refine qC ?_ rfl ?_));done)
         try cbv)
      |fail)
  all_goals first
    |trivial
    |((try simp only [qW]at *);(try simp only [zQ,zA,zB,zC,zD,zE,zF,zG,zH,zI,zJ,zK,zL,zM,zN,zO,zP,zR,zS,allB_t,allB_f,inB_t,inB_f,ofB_t,ofB_f,shB_t,shB_f,spB_t,spB_f]at *);first|(refine qO ?_;omega)|(simp only [Hold];omega))
    |(subst hR;(repeat' (first|exact qA|exact qB|refine qC ?_ rfl ?_|refine qD ?_ ?_|exact qE (by rfl)|exact qG (by rfl)|exact Fit.refl _|exact qH _|(refine qE ?_;(try simp only [qW]at *);simp only [zQ,zA,zB,zC,zD,zE,zF,zG,zH,zI,zJ,zK,zL,zM,zN,zO,zP,zR,zS]at *;omega)));done)
    |(exfalso;(try simp only [qW]at *);(try simp only [zQ,zA,zB,zC,zD,zE,zF,zG,zH,zI,zJ,zK,zL,zM,zN,zO,zP,zR,zS]at *);exact h ⟨by assumption,by omega⟩)
    |skip
set_option maxHeartbeats 2000000 in
theorem law8y (c X:Clr)(l:List LookT)(w b:Int)(hw:0≤w∧w≤255)(hb:0≤b∧b≤255)(k:Nat)(hk:w.tmod (zi c.vs.length)=zi k)(hk2:k<c.vs.length)(a1 a2 a3 a4 a5:Int)(ha1:b.tmod 3=a1)(ha2:(b.tdiv 3).tmod 3=a2)(ha3:(b.tdiv 9).tmod 3=a3)(ha4:(b.tdiv 27).tmod 3=a4)(ha5:b.tmod 2=a5)(hX:X=widC c k a1 a2 a3 a4 a5 (b.tdiv 81))(hW:Wd k c a1 a2 a3 a4 a5 (b.tdiv 81))(hT:ThinC c 0)(hC:COk c)(hL:lookF c l=0)(hcs:faultC X=1∨faultC X=3∨(faultC X=0∧askE c l=0∧askE X l=0)∨(faultC X=0∧askE c l=11∧askE X l=0)∨(faultC X=0∧askE c l=11∧askE X l=11)):FSpec Try.prog 8 [(clrS c),(lksS l),(.int .u8 (.sym fun _=>w)),(.int .u8 (.sym fun _=>b))] [] (fun r _=>r=(.bool (.lit true))):=by
  have hl6:=(lookF_iff.1 hL).len
  have hv3:=hC.few.v
  have ht3:=hC.few.t
  have hp4:=hC.few.p
  have hth:=hC.ok.t
  have hvk:=hC.ok.v k hk2
  unfold vatOk at hvk
  have h8:=hC.ok.h8
  have h1:=hC.ok.h1
  have hr0:=hC.ok.r0
  have hr2:=hC.ok.r2
  have hr1:=hC.ok.r1
  have hv1l:((c.vs.set k (hfV a1 a2 (c.vs.getD k v0))).getD k v0).rl=(c.vs.getD k v0).rl:=by rw [set_is hk2];rfl
  have hv1h:((c.vs.set k (hfV a1 a2 (c.vs.getD k v0))).getD k v0).rh=(c.vs.getD k v0).rh:=by rw [set_is hk2];rfl
  have hXv:X.vs.length=c.vs.length:=by rw [hX];unfold widC;simp
  have hXt:X.ts.length=c.ts.length:=by rw [hX];unfold widC;simp
  have hXh:X.hr=c.hr:=by rw [hX];rfl
  have hXa:∀i,i<c.ts.length→X.ts.getD i t0=widT (b.tdiv 81) (c.ts.getD i t0):=fun i hi=>by rw [hX];exact map_at _ _ hi
  have hb1:0≤a1∧a1<3:=by subst ha1;exact⟨Int.tmod_nonneg _ hb.1,Int.tmod_lt_of_pos _ (by decide)⟩
  have hb2:0≤a2∧a2<3:=by subst ha2;exact⟨Int.tmod_nonneg _ (Int.tdiv_nonneg hb.1 (by decide)),Int.tmod_lt_of_pos _ (by decide)⟩
  have hb3:0≤a3∧a3<3:=by subst ha3;exact⟨Int.tmod_nonneg _ (Int.tdiv_nonneg hb.1 (by decide)),Int.tmod_lt_of_pos _ (by decide)⟩
  have hb4:0≤a4∧a4<3:=by subst ha4;exact⟨Int.tmod_nonneg _ (Int.tdiv_nonneg hb.1 (by decide)),Int.tmod_lt_of_pos _ (by decide)⟩
  have hb5:0≤a5∧a5<2:=by subst ha5;exact⟨Int.tmod_nonneg _ hb.1,Int.tmod_lt_of_pos _ (by decide)⟩
  have hq3:0≤b.tdiv 3∧b.tdiv 3≤255:=⟨Int.tdiv_nonneg hb.1 (by decide),Int.le_trans (Int.tdiv_le_self _ hb.1) hb.2⟩
  have hq9:0≤b.tdiv 9∧b.tdiv 9≤255:=⟨Int.tdiv_nonneg hb.1 (by decide),Int.le_trans (Int.tdiv_le_self _ hb.1) hb.2⟩
  have hq27:0≤b.tdiv 27∧b.tdiv 27≤255:=⟨Int.tdiv_nonneg hb.1 (by decide),Int.le_trans (Int.tdiv_le_self _ hb.1) hb.2⟩
  have hq81:0≤b.tdiv 81∧b.tdiv 81≤255:=⟨Int.tdiv_nonneg hb.1 (by decide),Int.le_trans (Int.tdiv_le_self _ hb.1) hb.2⟩
  have c15:=awake15
  have c42:=lit_t (ready42 c) (ready_t.2 ⟨hT,hC⟩)
  have c44:=lit_i (lookfault44 c l hC.fewT) hL
  have c47:=fault47 X
  have c17:=cellar17 c (by have:=hT.v;omega) (by have:=hT.t;omega) (fun i hi=>by have:=hT.p i hi;omega)
  have c17x:=cellar17 X (by omega) (by omega) (fun i hi=>by have:=hp4 i (by omega);rw [hXa i (by omega)];show(widL _ _).length≤1000;rw [widL_len];omega)
  have c31:=looks31 l (by omega)
  have c30:=bounds30 c l
  have c30x:=bounds30 X l
  have c45:=leave45 c l
  have c45x:=leave45 X l
  have c46:=fun h:∀v k,v<c.vs.length→k<c.hr.toNat+1→loW X (vyL X l v) k≤loW c (vyL c l v) k∧hiW c (vyL c l v) k≤hiW X (vyL X l v) k=>(show FSpec Try.prog 46 [(.sl 1 (.sym fun _=>zi c.vs.length) (fun ix=>[(.sl 2 (.sym fun _=>zi (c.hr.toNat+1)) (fun jx=>[(.int .i64 (.sym fun _=>loW c (vyL c l ix.den.toNat) jx.den.toNat)),(.int .i64 (.sym fun _=>hiW c (vyL c l ix.den.toNat) jx.den.toNat))]))])),(.sl 1 (.sym fun _=>zi c.vs.length) (fun ix=>[(.sl 2 (.sym fun _=>zi (c.hr.toNat+1)) (fun jx=>[(.int .i64 (.sym fun _=>loW X (vyL X l ix.den.toNat) jx.den.toNat)),(.int .i64 (.sym fun _=>hiW X (vyL X l ix.den.toNat) jx.den.toNat))]))]))] [] (fun r _=>r=(.bool (.lit true)))from inside46 c.vs.length (c.hr.toNat+1) (fun v k=>loW c (vyL c l v) k) (fun v k=>hiW c (vyL c l v) k) (fun v k=>loW X (vyL X l v) k) (fun v k=>hiW X (vyL X l v) k) (by omega) (by omega) h)
  refine FSpec.is fun R hR=>qX (sc:=sc8b) tyok mix Try.func8 rfl Try.call8 (by kernel_rfl) (by kernel_rfl) ?_
  generalize Try.prog=P at c15 c42 c44 c47 c17 c17x c31 c30 c30x c45 c45x c46⊢
  cbv
  repeat' (first
      | (refine rem_as ?_ ?_ (show _=zi k from hk)
         try cbv)
      | (refine rem_as ?_ ?_ (show _=a1 from ha1)
         try cbv)
      | (refine rem_as ?_ ?_ (show _=a2 from ha2)
         try cbv)
      | (refine rem_as ?_ ?_ (show _=a3 from ha3)
         try cbv)
      | (refine rem_as ?_ ?_ (show _=a4 from ha4)
         try cbv)
      | (refine rem_as ?_ ?_ (show _=a5 from ha5)
         try cbv)
      |with_reducible refine hold ?_ ?_
      | (with_reducible refine qT ?_ ?_ ?_
         try cbv)
      | (refine qQ ?_ (c42) ?hfit
         case hfit=>((repeat' (first|exact qB|refine qD ?_ ?_|exact qE (by rfl)|exact qG (by rfl)|exact Fit.refl _|exact qA|refine qC ?_ rfl ?_));done)
         try cbv)
      | (refine qQ ?_ (c44) ?hfit
         case hfit=>((repeat' (first|exact qB|refine qD ?_ ?_|exact qE (by rfl)|exact qG (by rfl)|exact Fit.refl _|exact qA|refine qC ?_ rfl ?_));done)
         try cbv)
      | (refine⟨fun ix=>[(.int .i64 (.sym fun _=>(((c.vs.set k (hfV a1 a2 (c.vs.getD k v0)))).getD ix.den.toNat v0).sl)),(.int .i64 (.sym fun _=>(((c.vs.set k (hfV a1 a2 (c.vs.getD k v0)))).getD ix.den.toNat v0).sh)),(.int .i64 (.sym fun _=>(((c.vs.set k (hfV a1 a2 (c.vs.getD k v0)))).getD ix.den.toNat v0).rl)),(.int .i64 (.sym fun _=>(((c.vs.set k (hfV a1 a2 (c.vs.getD k v0)))).getD ix.den.toNat v0).rh))],?_⟩
         cbv
         refine hold (hold_rowupd (o2:=0) (x:=_) (by((try simp only [qW]at *);(try simp only [zQ,zA,zB,zC,zD,zE,zF,zG,zH,zI,zJ,zK,zL,zM,zN,zO,zP,zR,zS]at *);omega)) (by intro jx h0 h1 h2;(have e:(c.vs.set k (hfV a1 a2 (c.vs.getD k v0))).getD jx.den.toNat v0=c.vs.getD jx.den.toNat v0:=(set_no (by((try simp only [qW]at *);(try simp only [zQ,zA,zB,zC,zD,zE,zF,zG,zH,zI,zJ,zK,zL,zM,zN,zO,zP,zR,zS]at *);omega))));simp only [e];exact Fit.refl _) (by intro jx h0 h1 h2;refine⟨_,rfl,?_⟩;(have e:jx.den.toNat=k:=by(try simp only [qW]at *);(try simp only [zQ,zA,zB,zC,zD,zE,zF,zG,zH,zI,zJ,zK,zL,zM,zN,zO,zP,zR,zS]at *);omega);(have e2:(c.vs.set k (hfV a1 a2 (c.vs.getD k v0))).getD k v0=_:=set_is hk2);simp only [e,e2];exact(qC (qE (by first|rfl|((try simp only [qW]at *);(try simp only [zQ,zA,zB,zC,zD,zE,zF,zG,zH,zI,zJ,zK,zL,zM,zN,zO,zP,zR,zS]at *);rfl)|((try simp only [qW]at *);(try simp only [zQ,zA,zB,zC,zD,zE,zF,zG,zH,zI,zJ,zK,zL,zM,zN,zO,zP,zR,zS]at *);omega))) rfl (qC (qE (by first|rfl|((try simp only [qW]at *);(try simp only [zQ,zA,zB,zC,zD,zE,zF,zG,zH,zI,zJ,zK,zL,zM,zN,zO,zP,zR,zS]at *);rfl)|((try simp only [qW]at *);(try simp only [zQ,zA,zB,zC,zD,zE,zF,zG,zH,zI,zJ,zK,zL,zM,zN,zO,zP,zR,zS]at *);omega))) rfl (qC (qE (by first|rfl|((try simp only [qW]at *);(try simp only [zQ,zA,zB,zC,zD,zE,zF,zG,zH,zI,zJ,zK,zL,zM,zN,zO,zP,zR,zS]at *);rfl)|((try simp only [qW]at *);(try simp only [zQ,zA,zB,zC,zD,zE,zF,zG,zH,zI,zJ,zK,zL,zM,zN,zO,zP,zR,zS]at *);omega))) rfl (qC (qE (by first|rfl|((try simp only [qW]at *);(try simp only [zQ,zA,zB,zC,zD,zE,zF,zG,zH,zI,zJ,zK,zL,zM,zN,zO,zP,zR,zS]at *);rfl)|((try simp only [qW]at *);(try simp only [zQ,zA,zB,zC,zD,zE,zF,zG,zH,zI,zJ,zK,zL,zM,zN,zO,zP,zR,zS]at *);omega))) rfl qA)))))) ?_
         try cbv)
      | (refine⟨fun ix=>[(.int .i64 (.sym fun _=>(((c.vs.set k (widV a1 a2 a3 a4 (c.vs.getD k v0)))).getD ix.den.toNat v0).sl)),(.int .i64 (.sym fun _=>(((c.vs.set k (widV a1 a2 a3 a4 (c.vs.getD k v0)))).getD ix.den.toNat v0).sh)),(.int .i64 (.sym fun _=>(((c.vs.set k (widV a1 a2 a3 a4 (c.vs.getD k v0)))).getD ix.den.toNat v0).rl)),(.int .i64 (.sym fun _=>(((c.vs.set k (widV a1 a2 a3 a4 (c.vs.getD k v0)))).getD ix.den.toNat v0).rh))],?_⟩
         cbv
         refine hold (hold_rowupd (o2:=2) (x:=_) (by((try simp only [qW]at *);(try simp only [zQ,zA,zB,zC,zD,zE,zF,zG,zH,zI,zJ,zK,zL,zM,zN,zO,zP,zR,zS]at *);omega)) (by intro jx h0 h1 h2;(have e:(c.vs.set k (widV a1 a2 a3 a4 (c.vs.getD k v0))).getD jx.den.toNat v0=(c.vs.set k (hfV a1 a2 (c.vs.getD k v0))).getD jx.den.toNat v0:=((set_no (by((try simp only [qW]at *);(try simp only [zQ,zA,zB,zC,zD,zE,zF,zG,zH,zI,zJ,zK,zL,zM,zN,zO,zP,zR,zS]at *);omega))).trans (set_no (by((try simp only [qW]at *);(try simp only [zQ,zA,zB,zC,zD,zE,zF,zG,zH,zI,zJ,zK,zL,zM,zN,zO,zP,zR,zS]at *);omega))).symm));simp only [e];exact Fit.refl _) (by intro jx h0 h1 h2;refine⟨_,rfl,?_⟩;(have e:jx.den.toNat=k:=by(try simp only [qW]at *);(try simp only [zQ,zA,zB,zC,zD,zE,zF,zG,zH,zI,zJ,zK,zL,zM,zN,zO,zP,zR,zS]at *);omega);(have e2:(c.vs.set k (widV a1 a2 a3 a4 (c.vs.getD k v0))).getD k v0=_:=set_is hk2);(have e3:(c.vs.set k (hfV a1 a2 (c.vs.getD k v0))).getD k v0=_:=set_is hk2);simp only [e,e2,e3];exact(qC (qE (by first|rfl|((try simp only [qW]at *);(try simp only [zQ,zA,zB,zC,zD,zE,zF,zG,zH,zI,zJ,zK,zL,zM,zN,zO,zP,zR,zS]at *);rfl)|((try simp only [qW]at *);(try simp only [zQ,zA,zB,zC,zD,zE,zF,zG,zH,zI,zJ,zK,zL,zM,zN,zO,zP,zR,zS]at *);(try simp only [e3]);rfl)|((try simp only [qW]at *);(try simp only [zQ,zA,zB,zC,zD,zE,zF,zG,zH,zI,zJ,zK,zL,zM,zN,zO,zP,zR,zS]at *);omega))) rfl (qC (qE (by first|rfl|((try simp only [qW]at *);(try simp only [zQ,zA,zB,zC,zD,zE,zF,zG,zH,zI,zJ,zK,zL,zM,zN,zO,zP,zR,zS]at *);rfl)|((try simp only [qW]at *);(try simp only [zQ,zA,zB,zC,zD,zE,zF,zG,zH,zI,zJ,zK,zL,zM,zN,zO,zP,zR,zS]at *);(try simp only [e3]);rfl)|((try simp only [qW]at *);(try simp only [zQ,zA,zB,zC,zD,zE,zF,zG,zH,zI,zJ,zK,zL,zM,zN,zO,zP,zR,zS]at *);omega))) rfl (qC (qE (by first|rfl|((try simp only [qW]at *);(try simp only [zQ,zA,zB,zC,zD,zE,zF,zG,zH,zI,zJ,zK,zL,zM,zN,zO,zP,zR,zS]at *);rfl)|((try simp only [qW]at *);(try simp only [zQ,zA,zB,zC,zD,zE,zF,zG,zH,zI,zJ,zK,zL,zM,zN,zO,zP,zR,zS]at *);(try simp only [e3]);rfl)|((try simp only [qW]at *);(try simp only [zQ,zA,zB,zC,zD,zE,zF,zG,zH,zI,zJ,zK,zL,zM,zN,zO,zP,zR,zS]at *);omega))) rfl (qC (qE (by first|rfl|((try simp only [qW]at *);(try simp only [zQ,zA,zB,zC,zD,zE,zF,zG,zH,zI,zJ,zK,zL,zM,zN,zO,zP,zR,zS]at *);rfl)|((try simp only [qW]at *);(try simp only [zQ,zA,zB,zC,zD,zE,zF,zG,zH,zI,zJ,zK,zL,zM,zN,zO,zP,zR,zS]at *);(try simp only [e3]);rfl)|((try simp only [qW]at *);(try simp only [zQ,zA,zB,zC,zD,zE,zF,zG,zH,zI,zJ,zK,zL,zM,zN,zO,zP,zR,zS]at *);omega))) rfl qA)))))) ?_
         try cbv)
      |fail)
  all_goals first
    |((try clear c15);(try clear c42);(try clear c44);(try clear c47);(try clear c17);(try clear c17x);(try clear c31);(try clear c30);(try clear c30x);(try clear c45);(try clear c45x);(try clear c46);((try simp only [qW]at *);(try simp only [zQ,zA,zB,zC,zD,zE,zF,zG,zH,zI,zJ,zK,zL,zM,zN,zO,zP,zR,zS,allB_t,allB_f,inB_t,inB_f,ofB_t,ofB_f,shB_t,shB_f,spB_t,spB_f]at *);first|(refine qO ?_;omega)|(simp only [Hold];omega)))
    |skip
  refine⟨none,[⟨.cell 12 4,53,2⟩],{i:Nat // i≤c.ts.length},fun x=>⟨[(4,.own 0 0),(1,(lksS l)),(3,(.int .u8 (.sym fun _=>b))),(9,.own 12 0),(11,(.int .i64 (.sym fun _=>zi x.1)))],[(0,.cells [(.int .i64 (.sym fun _=>c.rl)),(.int .i64 (.sym fun _=>c.rh)),(.int .i64 (.sym fun _=>c.hr)),(.sl 4 (.sym fun _=>zi c.vs.length) (fun ix=>[(.int .i64 (.sym fun _=>(c.vs.getD ix.den.toNat v0).sl)),(.int .i64 (.sym fun _=>(c.vs.getD ix.den.toNat v0).sh)),(.int .i64 (.sym fun _=>(c.vs.getD ix.den.toNat v0).rl)),(.int .i64 (.sym fun _=>(c.vs.getD ix.den.toNat v0).rh))])),(.sl 2 (.sym fun _=>zi c.ts.length) (fun ix=>[(.int .i64 (.sym fun _=>(c.ts.getD ix.den.toNat t0).top)),(.sl 3 (.sym fun _=>zi ((c.ts.getD ix.den.toNat t0).ps).length) (fun jx=>[(.int .i64 (.sym fun _=>(((c.ts.getD ix.den.toNat t0).ps).getD jx.den.toNat p0).f)),(.int .i64 (.sym fun _=>(((c.ts.getD ix.den.toNat t0).ps).getD jx.den.toNat p0).el)),(.int .i64 (.sym fun _=>(((c.ts.getD ix.den.toNat t0).ps).getD jx.den.toNat p0).eh))]))]))] 27),(12,.cells [(.int .i64 (.sym fun _=>X.rl)),(.int .i64 (.sym fun _=>X.rh)),(.int .i64 (.sym fun _=>X.hr)),.row 17,.row 100] 27),(17,.row 98 4 (.sym fun _=>zi X.vs.length) (fun ix=>[(.int .i64 (.sym fun _=>(X.vs.getD ix.den.toNat v0).sl)),(.int .i64 (.sym fun _=>(X.vs.getD ix.den.toNat v0).sh)),(.int .i64 (.sym fun _=>(X.vs.getD ix.den.toNat v0).rl)),(.int .i64 (.sym fun _=>(X.vs.getD ix.den.toNat v0).rh))])),(100,.row 53 2 (.sym fun _=>zi x.1) (fun ix=>[(.int .i64 (.sym fun _=>(X.ts.getD ix.den.toNat t0).top)),(.sl 3 (.sym fun _=>zi ((X.ts.getD ix.den.toNat t0).ps).length) (fun jx=>[(.int .i64 (.sym fun _=>(((X.ts.getD ix.den.toNat t0).ps).getD jx.den.toNat p0).f)),(.int .i64 (.sym fun _=>(((X.ts.getD ix.den.toNat t0).ps).getD jx.den.toNat p0).el)),(.int .i64 (.sym fun _=>(((X.ts.getD ix.den.toNat t0).ps).getD jx.den.toNat p0).eh))]))]))],200⟩,fun x=>c.ts.length-x.1,?_,?_⟩
  · refine⟨⟨0,by omega⟩,?_⟩
    cbv
    repeat' (first
      |with_reducible refine hold ?_ ?_
      |with_reducible refine And.intro ?_ ?_)
    all_goals first
      |trivial
      |exact qN (qE (by rfl))
      |exact qN (Fit.refl _)
      |exact qM (qL _)
      |(refine qM (qK ?_);(repeat' (first|exact qA|exact Fit.refl _|refine qC ?_ rfl ?_|exact qE (by rfl)|(refine qE ?_;rw [hX];first|rfl|((try simp only [qW]at *);(try simp only [zQ,zA,zB,zC,zD,zE,zF,zG,zH,zI,zJ,zK,zL,zM,zN,zO,zP,zR,zS]at *);rfl))));done)
      |(refine qM (ble_row ?_ ?_);(exact congrArg zi (by rw [hX];simp only [widC,List.length_set]));intro ix h0 h1;rw [hX];exact Fit.refl _)
      |(refine qM (ble_row ?_ ?_);(first|rfl|((try simp only [qW]at *);(try simp only [zQ,zA,zB,zC,zD,zE,zF,zG,zH,zI,zJ,zK,zL,zM,zN,zO,zP,zR,zS]at *);omega));intro ix h0 h1;exfalso;(try simp only [qW]at *);(try simp only [zQ,zA,zB,zC,zD,zE,zF,zG,zH,zI,zJ,zK,zL,zM,zN,zO,zP,zR,zS]at *);omega)
      |skip
  · rintro ⟨i,hi⟩
    cbv
    have hps:i<c.ts.length→(c.ts.getD i t0).ps.length≠0∧(c.ts.getD i t0).ps.length≤4:=fun h=>⟨(hth i h).2.2.1,hp4 i h⟩
    have hpe:i<c.ts.length→ -10≤((c.ts.getD i t0).ps.getD 0 p0).eh∧((c.ts.getD i t0).ps.getD 0 p0).eh≤10:=fun h=>by have:=(hth i h).2.2.2 0 (by have:=(hth i h).2.2.1;omega);unfold partOk at this;omega
    repeat' (first
        |with_reducible refine hold ?_ ?_
        |with_reducible refine And.intro ?_ ?_
        | (with_reducible refine qT ?_ ?_ ?_
           try cbv)
        |(with_reducible intro hcd;(try simp only [zA,zB,zC,zD,zE,zF,zG,zH,zI,zJ,zK,zL,zM,zN,zO,zP]at hcd);try cbv)
        | (refine⟨fun ix=>[(.int .i64 (.sym fun _=>(((widL (b.tdiv 81) (c.ts.getD i t0).ps)).getD ix.den.toNat p0).f)),(.int .i64 (.sym fun _=>(((widL (b.tdiv 81) (c.ts.getD i t0).ps)).getD ix.den.toNat p0).el)),(.int .i64 (.sym fun _=>(((widL (b.tdiv 81) (c.ts.getD i t0).ps)).getD ix.den.toNat p0).eh))],?_⟩
           cbv
           refine hold (hold_rowupd (o2:=2) (x:=_) (by((try simp only [qW]at *);(try simp only [zQ,zA,zB,zC,zD,zE,zF,zG,zH,zI,zJ,zK,zL,zM,zN,zO,zP,zR,zS]at *);omega)) (by intro jx h0 h1 h2;(have e:(widL (b.tdiv 81) (c.ts.getD i t0).ps).getD jx.den.toNat p0=(c.ts.getD i t0).ps.getD jx.den.toNat p0:=set_no (by((try simp only [qW]at *);(try simp only [zQ,zA,zB,zC,zD,zE,zF,zG,zH,zI,zJ,zK,zL,zM,zN,zO,zP,zR,zS]at *);omega)));simp only [e];exact Fit.refl _) (by intro jx h0 h1 h2;refine⟨_,rfl,?_⟩;(have e:jx.den.toNat=0:=by(try simp only [qW]at *);(try simp only [zQ,zA,zB,zC,zD,zE,zF,zG,zH,zI,zJ,zK,zL,zM,zN,zO,zP,zR,zS]at *);omega);(have e2:(widL (b.tdiv 81) (c.ts.getD i t0).ps).getD 0 p0=_:=set_is (by have:=hps (by((try simp only [qW]at *);(try simp only [zQ,zA,zB,zC,zD,zE,zF,zG,zH,zI,zJ,zK,zL,zM,zN,zO,zP,zR,zS]at *);omega));omega));simp only [e,e2];exact(qC (qE (by first|rfl|((try simp only [qW]at *);(try simp only [zQ,zA,zB,zC,zD,zE,zF,zG,zH,zI,zJ,zK,zL,zM,zN,zO,zP,zR,zS]at *);rfl)|((try simp only [qW]at *);(try simp only [zQ,zA,zB,zC,zD,zE,zF,zG,zH,zI,zJ,zK,zL,zM,zN,zO,zP,zR,zS]at *);omega))) rfl (qC (qE (by first|rfl|((try simp only [qW]at *);(try simp only [zQ,zA,zB,zC,zD,zE,zF,zG,zH,zI,zJ,zK,zL,zM,zN,zO,zP,zR,zS]at *);rfl)|((try simp only [qW]at *);(try simp only [zQ,zA,zB,zC,zD,zE,zF,zG,zH,zI,zJ,zK,zL,zM,zN,zO,zP,zR,zS]at *);omega))) rfl (qC (qE (by first|rfl|((try simp only [qW]at *);(try simp only [zQ,zA,zB,zC,zD,zE,zF,zG,zH,zI,zJ,zK,zL,zM,zN,zO,zP,zR,zS]at *);rfl)|((try simp only [qW]at *);(try simp only [zQ,zA,zB,zC,zD,zE,zF,zG,zH,zI,zJ,zK,zL,zM,zN,zO,zP,zR,zS]at *);omega))) rfl qA))))) ?_
           try cbv)
        | (refine⟨fun ix=>[(.int .i64 (.sym fun _=>(X.ts.getD ix.den.toNat t0).top)),(.sl 3 (.sym fun _=>zi ((X.ts.getD ix.den.toNat t0).ps).length) (fun jx=>[(.int .i64 (.sym fun _=>(((X.ts.getD ix.den.toNat t0).ps).getD jx.den.toNat p0).f)),(.int .i64 (.sym fun _=>(((X.ts.getD ix.den.toNat t0).ps).getD jx.den.toNat p0).el)),(.int .i64 (.sym fun _=>(((X.ts.getD ix.den.toNat t0).ps).getD jx.den.toNat p0).eh))]))],?_⟩
           cbv
           refine hold (hold_rowapp (by intro ix jx h0 h1 h2;simp only [h2];exact Fit.refl _) (by intro ix jx h0 h1 h2;(have h3:jx.den.toNat=i:=by((try simp only [qW]at *);(try simp only [zQ,zA,zB,zC,zD,zE,zF,zG,zH,zI,zJ,zK,zL,zM,zN,zO,zP,zR,zS]at *);omega));simp only [h3];(have e4:=hXa i (by((try simp only [qW]at *);(try simp only [zQ,zA,zB,zC,zD,zE,zF,zG,zH,zI,zJ,zK,zL,zM,zN,zO,zP,zR,zS]at *);omega)));simp only [e4];exact qC (qE (by first|rfl|((try simp only [qW]at *);(try simp only [zQ,zA,zB,zC,zD,zE,zF,zG,zH,zI,zJ,zK,zL,zM,zN,zO,zP,zR,zS]at *);rfl))) rfl (qC (fit_sl (by(try simp only [qW]at *);exact congrArg zi (widL_len _ _).symm) (fun _ _ _=>Fit.refl _)) rfl qA)) (by(try simp only [qW]at *);(try simp only [zQ,zA,zB,zC,zD,zE,zF,zG,zH,zI,zJ,zK,zL,zM,zN,zO,zP,zR,zS]at *);omega)) (Or.inl ?_)
           try cbv)
        | (refine Exists.intro (α:=List Nat) [218] ?_
           cbv
           fail_if_success (show False))
        |fail)
    all_goals first
      |((try clear c15);(try clear c42);(try clear c44);(try clear c47);(try clear c17);(try clear c17x);(try clear c31);(try clear c30);(try clear c30x);(try clear c45);(try clear c45x);(try clear c46);((try simp only [qW]at *);(try simp only [zQ,zA,zB,zC,zD,zE,zF,zG,zH,zI,zJ,zK,zL,zM,zN,zO,zP,zR,zS,allB_t,allB_f,inB_t,inB_f,ofB_t,ofB_f,shB_t,shB_f,spB_t,spB_f]at *);first|(refine qO ?_;omega)|(simp only [Hold];omega)))
      |((try clear c15);(try clear c42);(try clear c44);(try clear c47);(try clear c17);(try clear c17x);(try clear c31);(try clear c30);(try clear c30x);(try clear c45);(try clear c45x);(try clear c46);((have hh:=hps (by((try simp only [qW]at *);(try simp only [zQ,zA,zB,zC,zD,zE,zF,zG,zH,zI,zJ,zK,zL,zM,zN,zO,zP,zR,zS]at *);omega)));(have hh2:=hpe (by((try simp only [qW]at *);(try simp only [zQ,zA,zB,zC,zD,zE,zF,zG,zH,zI,zJ,zK,zL,zM,zN,zO,zP,zR,zS]at *);omega)));(try simp only [qW]at *);(try simp only [zQ,zA,zB,zC,zD,zE,zF,zG,zH,zI,zJ,zK,zL,zM,zN,zO,zP,zR,zS]at *);(try simp only [Int.toNat_zero]at *);simp only [Hold];first|(refine qO ?_;omega)|omega|exact⟨by omega,by omega⟩))
      |((try clear c15);(try clear c42);(try clear c44);(try clear c47);(try clear c17);(try clear c17x);(try clear c31);(try clear c30);(try clear c30x);(try clear c45);(try clear c45x);(try clear c46);((try simp only [zQ,zA,zB,zC,zD,zE,zF,zG,zH,zI,zJ,zK,zL,zM,zN,zO,zP,zR,zS]at *);refine⟨⟨i+1,by omega⟩,by simp only [];omega,?_⟩;cbv;(repeat' (first|with_reducible refine hold ?_ ?_|with_reducible refine And.intro ?_ ?_));(all_goals first|trivial|exact qN (qE (by rfl))|exact qN (qG (by rfl))|exact qN (Fit.refl _)|exact qM (qL _)|(refine qN (qE ?_);(try simp only [qW]at *);simp only [zQ,zA,zB,zC,zD,zE,zF,zG,zH,zI,zJ,zK,zL,zM,zN,zO,zP,zR,zS]at *;omega)|(refine qM (qK ?_);(repeat' (first|exact qA|exact qB|refine qC ?_ rfl ?_|refine qD ?_ ?_|exact qE (by rfl)|exact qG (by rfl)|exact Fit.refl _|exact qH _|(refine qE ?_;(try simp only [qW]at *);simp only [zQ,zA,zB,zC,zD,zE,zF,zG,zH,zI,zJ,zK,zL,zM,zN,zO,zP,zR,zS]at *;omega)));done)|(refine qM (ble_row ?_ ?_);((try simp only [qW]at *);(try simp only [zQ,zA,zB,zC,zD,zE,zF,zG,zH,zI,zJ,zK,zL,zM,zN,zO,zP,zR,zS]at *);omega);intro ix h0 h1;exact Fit.refl _)|skip)))
      |skip
    have hiE:i=X.ts.length:=(by((try simp only [qW]at *);(try simp only [zQ,zA,zB,zC,zD,zE,zF,zG,zH,zI,zJ,zK,zL,zM,zN,zO,zP,zR,zS]at *);omega))
    subst hiE
    rcases hcs with hF|hF|⟨hF,hE,hG⟩|⟨hF,hE,hG⟩|⟨hF,hE,hG⟩
    · have d47:=lit_iP c47 hF
      repeat' (first
          | (refine qQ ?_ (d47) ?hfit
             case hfit=>((repeat' (first|exact qB|refine qD ?_ ?_|exact qE (by rfl)|exact qG (by rfl)|exact Fit.refl _|exact qA|refine qC ?_ rfl ?_));done)
             try cbv)
          | (refine qQ ?_ (c15) ?hfit
             case hfit=>((repeat' (first|exact qB|refine qD ?_ ?_|exact qE (by rfl)|exact qG (by rfl)|exact Fit.refl _|exact qA|refine qC ?_ rfl ?_));done)
             try cbv)
          | (refine Exists.intro (α:=List Nat) [17,100] ?_
             cbv
             fail_if_success (show False))
          |fail)
      all_goals first
        |((try clear c15);(try clear c42);(try clear c44);(try clear c47);(try clear c17);(try clear c17x);(try clear c31);(try clear c30);(try clear c30x);(try clear c45);(try clear c45x);(try clear c46);(try clear d47);(try clear d30);(try clear d30x);(try clear d45);(try clear d45x);(try clear d46);(subst hR;(repeat' (first|exact qA|exact qB|refine qC ?_ rfl ?_|refine qD ?_ ?_|exact qE (by rfl)|exact qG (by rfl)|exact Fit.refl _|exact qH _|(refine qE ?_;(try simp only [qW]at *);simp only [zQ,zA,zB,zC,zD,zE,zF,zG,zH,zI,zJ,zK,zL,zM,zN,zO,zP,zR,zS]at *;omega)));done))
        |skip
    · have d47:=lit_iP c47 hF
      repeat' (first
          | (refine qQ ?_ (d47) ?hfit
             case hfit=>((repeat' (first|exact qB|refine qD ?_ ?_|exact qE (by rfl)|exact qG (by rfl)|exact Fit.refl _|exact qA|refine qC ?_ rfl ?_));done)
             try cbv)
          | (refine qQ ?_ (c15) ?hfit
             case hfit=>((repeat' (first|exact qB|refine qD ?_ ?_|exact qE (by rfl)|exact qG (by rfl)|exact Fit.refl _|exact qA|refine qC ?_ rfl ?_));done)
             try cbv)
          | (refine Exists.intro (α:=List Nat) [17,100] ?_
             cbv
             fail_if_success (show False))
          |fail)
      all_goals first
        |((try clear c15);(try clear c42);(try clear c44);(try clear c47);(try clear c17);(try clear c17x);(try clear c31);(try clear c30);(try clear c30x);(try clear c45);(try clear c45x);(try clear c46);(try clear d47);(try clear d30);(try clear d30x);(try clear d45);(try clear d45x);(try clear d46);(subst hR;(repeat' (first|exact qA|exact qB|refine qC ?_ rfl ?_|refine qD ?_ ?_|exact qE (by rfl)|exact qG (by rfl)|exact Fit.refl _|exact qH _|(refine qE ?_;(try simp only [qW]at *);simp only [zQ,zA,zB,zC,zD,zE,zF,zG,zH,zI,zJ,zK,zL,zM,zN,zO,zP,zR,zS]at *;omega)));done))
        |skip
    · have d47:=lit_iP c47 hF
      have hCX:COk X:=faultC_iff.1 hF
      have hLX:lookF X l=0:=by rw [hX];exact wid_look hC hW hL
      have hll:(leaveL X l).length≤(leaveL c l).length:=by rw [hX];exact wid_leave hC (hX▸hCX) hW hL
      have hlc:=leave_len (looked_z hC hL)
      have hlx:=leave_len (looked_z hCX hLX)
      have d30:=bd_yP c30 hE
      have d30x:=bd_wP c30x hXv hXh hG
      have d45:=lv_yP c45 (looked_z hC hL)
      have d45x:=lv_yP c45x (looked_z hCX hLX)
      have d46:=c46 (fun v k hv hk=>bound_mono hC hCX (by rw [hX];exact wid_mono hC hW hL []) hE hv (by omega))
      repeat' (first
          |with_reducible refine And.intro ?_ ?_
          |(with_reducible intro hcd;(try simp only [zA,zB,zC,zD,zE,zF,zG,zH,zI,zJ,zK,zL,zM,zN,zO,zP]at hcd);try cbv)
          | (refine qQ ?_ (d47) ?hfit
             case hfit=>((repeat' (first|exact qB|refine qD ?_ ?_|exact qE (by rfl)|exact qG (by rfl)|exact Fit.refl _|exact qA|refine qC ?_ rfl ?_));done)
             try cbv)
          | (refine qQ ?_ (c15) ?hfit
             case hfit=>((repeat' (first|exact qB|refine qD ?_ ?_|exact qE (by rfl)|exact qG (by rfl)|exact Fit.refl _|exact qA|refine qC ?_ rfl ?_));done)
             try cbv)
          | (refine qQ ?_ (c17) ?hfit
             case hfit=>((repeat' (first|exact qB|refine qD ?_ ?_|exact qE (by rfl)|exact qG (by rfl)|exact Fit.refl _|exact qA|refine qC ?_ rfl ?_));done)
             try cbv)
          | (refine qQ ?_ (c17x) ?hfit
             case hfit=>((repeat' (first|exact qB|refine qD ?_ ?_|exact qE (by rfl)|exact qG (by rfl)|exact Fit.refl _|exact qA|refine qC ?_ rfl ?_));done)
             try cbv)
          | (refine qQ ?_ (c31) ?hfit
             case hfit=>((repeat' (first|exact qB|refine qD ?_ ?_|exact qE (by rfl)|exact qG (by rfl)|exact Fit.refl _|exact qA|refine qC ?_ rfl ?_));done)
             try cbv)
          | (refine qQ ?_ (d30) ?hfit
             case hfit=>((repeat' (first|exact qB|refine qD ?_ ?_|exact qE (by rfl)|exact qG (by rfl)|exact Fit.refl _|exact qA|refine qC ?_ rfl ?_));done)
             try cbv)
          | (refine qQ ?_ (d30x) ?hfit
             case hfit=>((repeat' (first|exact qB|refine qD ?_ ?_|exact qE (by rfl)|exact qG (by rfl)|exact Fit.refl _|exact qA|refine qC ?_ rfl ?_));done)
             try cbv)
          | (refine qQ ?_ (d45) ?hfit
             case hfit=>((repeat' (first|exact qB|refine qD ?_ ?_|exact qE (by rfl)|exact qG (by rfl)|exact Fit.refl _|exact qA|refine qC ?_ rfl ?_));done)
             try cbv)
          | (refine qQ ?_ (d45x) ?hfit
             case hfit=>((repeat' (first|exact qB|refine qD ?_ ?_|exact qE (by rfl)|exact qG (by rfl)|exact Fit.refl _|exact qA|refine qC ?_ rfl ?_));done)
             try cbv)
          | (refine qQ ?_ (d46) ?hfit
             case hfit=>((repeat' (first|exact qB|refine qD ?_ ?_|exact qE (by rfl)|exact qG (by rfl)|exact Fit.refl _|exact qA|refine qC ?_ rfl ?_));done)
             try cbv)
          | (refine Exists.intro (α:=List Nat) [17,100] ?_
             cbv
             fail_if_success (show False))
          |fail)
      all_goals first
        |((try clear c15);(try clear c42);(try clear c44);(try clear c47);(try clear c17);(try clear c17x);(try clear c31);(try clear c30);(try clear c30x);(try clear c45);(try clear c45x);(try clear c46);(try clear d47);(try clear d30);(try clear d30x);(try clear d45);(try clear d45x);(try clear d46);(subst hR;(repeat' (first|exact qA|exact qB|refine qC ?_ rfl ?_|refine qD ?_ ?_|exact qE (by rfl)|exact qG (by rfl)|exact Fit.refl _|exact qH _|(refine qE ?_;(try simp only [qW]at *);simp only [zQ,zA,zB,zC,zD,zE,zF,zG,zH,zI,zJ,zK,zL,zM,zN,zO,zP,zR,zS]at *;omega)));done))
        |((try clear c15);(try clear c42);(try clear c44);(try clear c47);(try clear c17);(try clear c17x);(try clear c31);(try clear c30);(try clear c30x);(try clear c45);(try clear c45x);(try clear c46);(try clear d47);(try clear d30);(try clear d30x);(try clear d45);(try clear d45x);(try clear d46);(exfalso;(try simp only [qW]at *);(try simp only [zQ,zA,zB,zC,zD,zE,zF,zG,zH,zI,zJ,zK,zL,zM,zN,zO,zP,zR,zS]at *);(try simp only [allB_t,allB_f,inB_t,inB_f,ofB_t,ofB_f,shB_t,shB_f,spB_t,spB_f]at *);omega))
        |skip
    · have d47:=lit_iP c47 hF
      have hCX:COk X:=faultC_iff.1 hF
      have hLX:lookF X l=0:=by rw [hX];exact wid_look hC hW hL
      have hll:(leaveL X l).length≤(leaveL c l).length:=by rw [hX];exact wid_leave hC (hX▸hCX) hW hL
      have hlc:=leave_len (looked_z hC hL)
      have hlx:=leave_len (looked_z hCX hLX)
      have d30:=bd_nP c30 hE
      have d30x:=bd_wP c30x hXv hXh hG
      have d45:=lv_yP c45 (looked_z hC hL)
      have d45x:=lv_yP c45x (looked_z hCX hLX)
      repeat' (first
          |with_reducible refine And.intro ?_ ?_
          |(with_reducible intro hcd;(try simp only [zA,zB,zC,zD,zE,zF,zG,zH,zI,zJ,zK,zL,zM,zN,zO,zP]at hcd);try cbv)
          | (refine qQ ?_ (d47) ?hfit
             case hfit=>((repeat' (first|exact qB|refine qD ?_ ?_|exact qE (by rfl)|exact qG (by rfl)|exact Fit.refl _|exact qA|refine qC ?_ rfl ?_));done)
             try cbv)
          | (refine qQ ?_ (c15) ?hfit
             case hfit=>((repeat' (first|exact qB|refine qD ?_ ?_|exact qE (by rfl)|exact qG (by rfl)|exact Fit.refl _|exact qA|refine qC ?_ rfl ?_));done)
             try cbv)
          | (refine qQ ?_ (c17) ?hfit
             case hfit=>((repeat' (first|exact qB|refine qD ?_ ?_|exact qE (by rfl)|exact qG (by rfl)|exact Fit.refl _|exact qA|refine qC ?_ rfl ?_));done)
             try cbv)
          | (refine qQ ?_ (c17x) ?hfit
             case hfit=>((repeat' (first|exact qB|refine qD ?_ ?_|exact qE (by rfl)|exact qG (by rfl)|exact Fit.refl _|exact qA|refine qC ?_ rfl ?_));done)
             try cbv)
          | (refine qQ ?_ (c31) ?hfit
             case hfit=>((repeat' (first|exact qB|refine qD ?_ ?_|exact qE (by rfl)|exact qG (by rfl)|exact Fit.refl _|exact qA|refine qC ?_ rfl ?_));done)
             try cbv)
          | (refine qQ ?_ (d30) ?hfit
             case hfit=>((repeat' (first|exact qB|refine qD ?_ ?_|exact qE (by rfl)|exact qG (by rfl)|exact Fit.refl _|exact qA|refine qC ?_ rfl ?_));done)
             try cbv)
          | (refine qQ ?_ (d30x) ?hfit
             case hfit=>((repeat' (first|exact qB|refine qD ?_ ?_|exact qE (by rfl)|exact qG (by rfl)|exact Fit.refl _|exact qA|refine qC ?_ rfl ?_));done)
             try cbv)
          | (refine qQ ?_ (d45) ?hfit
             case hfit=>((repeat' (first|exact qB|refine qD ?_ ?_|exact qE (by rfl)|exact qG (by rfl)|exact Fit.refl _|exact qA|refine qC ?_ rfl ?_));done)
             try cbv)
          | (refine qQ ?_ (d45x) ?hfit
             case hfit=>((repeat' (first|exact qB|refine qD ?_ ?_|exact qE (by rfl)|exact qG (by rfl)|exact Fit.refl _|exact qA|refine qC ?_ rfl ?_));done)
             try cbv)
          | (refine Exists.intro (α:=List Nat) [17,100] ?_
             cbv
             fail_if_success (show False))
          |fail)
      all_goals first
        |((try clear c15);(try clear c42);(try clear c44);(try clear c47);(try clear c17);(try clear c17x);(try clear c31);(try clear c30);(try clear c30x);(try clear c45);(try clear c45x);(try clear c46);(try clear d47);(try clear d30);(try clear d30x);(try clear d45);(try clear d45x);(try clear d46);(subst hR;(repeat' (first|exact qA|exact qB|refine qC ?_ rfl ?_|refine qD ?_ ?_|exact qE (by rfl)|exact qG (by rfl)|exact Fit.refl _|exact qH _|(refine qE ?_;(try simp only [qW]at *);simp only [zQ,zA,zB,zC,zD,zE,zF,zG,zH,zI,zJ,zK,zL,zM,zN,zO,zP,zR,zS]at *;omega)));done))
        |((try clear c15);(try clear c42);(try clear c44);(try clear c47);(try clear c17);(try clear c17x);(try clear c31);(try clear c30);(try clear c30x);(try clear c45);(try clear c45x);(try clear c46);(try clear d47);(try clear d30);(try clear d30x);(try clear d45);(try clear d45x);(try clear d46);(exfalso;(try simp only [qW]at *);(try simp only [zQ,zA,zB,zC,zD,zE,zF,zG,zH,zI,zJ,zK,zL,zM,zN,zO,zP,zR,zS]at *);(try simp only [allB_t,allB_f,inB_t,inB_f,ofB_t,ofB_f,shB_t,shB_f,spB_t,spB_f]at *);omega))
        |skip
    · have d47:=lit_iP c47 hF
      have hCX:COk X:=faultC_iff.1 hF
      have hLX:lookF X l=0:=by rw [hX];exact wid_look hC hW hL
      have hll:(leaveL X l).length≤(leaveL c l).length:=by rw [hX];exact wid_leave hC (hX▸hCX) hW hL
      have hlc:=leave_len (looked_z hC hL)
      have hlx:=leave_len (looked_z hCX hLX)
      have d30:=bd_nP c30 hE
      have d30x:=bd_nP c30x hG
      have d45:=lv_yP c45 (looked_z hC hL)
      have d45x:=lv_yP c45x (looked_z hCX hLX)
      repeat' (first
          |with_reducible refine And.intro ?_ ?_
          |(with_reducible intro hcd;(try simp only [zA,zB,zC,zD,zE,zF,zG,zH,zI,zJ,zK,zL,zM,zN,zO,zP]at hcd);try cbv)
          | (refine qQ ?_ (d47) ?hfit
             case hfit=>((repeat' (first|exact qB|refine qD ?_ ?_|exact qE (by rfl)|exact qG (by rfl)|exact Fit.refl _|exact qA|refine qC ?_ rfl ?_));done)
             try cbv)
          | (refine qQ ?_ (c15) ?hfit
             case hfit=>((repeat' (first|exact qB|refine qD ?_ ?_|exact qE (by rfl)|exact qG (by rfl)|exact Fit.refl _|exact qA|refine qC ?_ rfl ?_));done)
             try cbv)
          | (refine qQ ?_ (c17) ?hfit
             case hfit=>((repeat' (first|exact qB|refine qD ?_ ?_|exact qE (by rfl)|exact qG (by rfl)|exact Fit.refl _|exact qA|refine qC ?_ rfl ?_));done)
             try cbv)
          | (refine qQ ?_ (c17x) ?hfit
             case hfit=>((repeat' (first|exact qB|refine qD ?_ ?_|exact qE (by rfl)|exact qG (by rfl)|exact Fit.refl _|exact qA|refine qC ?_ rfl ?_));done)
             try cbv)
          | (refine qQ ?_ (c31) ?hfit
             case hfit=>((repeat' (first|exact qB|refine qD ?_ ?_|exact qE (by rfl)|exact qG (by rfl)|exact Fit.refl _|exact qA|refine qC ?_ rfl ?_));done)
             try cbv)
          | (refine qQ ?_ (d30) ?hfit
             case hfit=>((repeat' (first|exact qB|refine qD ?_ ?_|exact qE (by rfl)|exact qG (by rfl)|exact Fit.refl _|exact qA|refine qC ?_ rfl ?_));done)
             try cbv)
          | (refine qQ ?_ (d30x) ?hfit
             case hfit=>((repeat' (first|exact qB|refine qD ?_ ?_|exact qE (by rfl)|exact qG (by rfl)|exact Fit.refl _|exact qA|refine qC ?_ rfl ?_));done)
             try cbv)
          | (refine qQ ?_ (d45) ?hfit
             case hfit=>((repeat' (first|exact qB|refine qD ?_ ?_|exact qE (by rfl)|exact qG (by rfl)|exact Fit.refl _|exact qA|refine qC ?_ rfl ?_));done)
             try cbv)
          | (refine qQ ?_ (d45x) ?hfit
             case hfit=>((repeat' (first|exact qB|refine qD ?_ ?_|exact qE (by rfl)|exact qG (by rfl)|exact Fit.refl _|exact qA|refine qC ?_ rfl ?_));done)
             try cbv)
          | (refine Exists.intro (α:=List Nat) [17,100] ?_
             cbv
             fail_if_success (show False))
          |fail)
      all_goals first
        |((try clear c15);(try clear c42);(try clear c44);(try clear c47);(try clear c17);(try clear c17x);(try clear c31);(try clear c30);(try clear c30x);(try clear c45);(try clear c45x);(try clear c46);(try clear d47);(try clear d30);(try clear d30x);(try clear d45);(try clear d45x);(try clear d46);(subst hR;(repeat' (first|exact qA|exact qB|refine qC ?_ rfl ?_|refine qD ?_ ?_|exact qE (by rfl)|exact qG (by rfl)|exact Fit.refl _|exact qH _|(refine qE ?_;(try simp only [qW]at *);simp only [zQ,zA,zB,zC,zD,zE,zF,zG,zH,zI,zJ,zK,zL,zM,zN,zO,zP,zR,zS]at *;omega)));done))
        |((try clear c15);(try clear c42);(try clear c44);(try clear c47);(try clear c17);(try clear c17x);(try clear c31);(try clear c30);(try clear c30x);(try clear c45);(try clear c45x);(try clear c46);(try clear d47);(try clear d30);(try clear d30x);(try clear d45);(try clear d45x);(try clear d46);(exfalso;(try simp only [qW]at *);(try simp only [zQ,zA,zB,zC,zD,zE,zF,zG,zH,zI,zJ,zK,zL,zM,zN,zO,zP,zR,zS]at *);(try simp only [allB_t,allB_f,inB_t,inB_f,ofB_t,ofB_f,shB_t,shB_f,spB_t,spB_f]at *);omega))
        |skip
theorem law8 (c:Clr)(l:List LookT)(w b:Int)(hw:0≤w∧w≤255)(hb:0≤b∧b≤255):FSpec Try.prog 8 [(clrS c),(lksS l),(.int .u8 (.sym fun _=>w)),(.int .u8 (.sym fun _=>b))] [] (fun r _=>r = .bool (.lit true)):=by
  by_cases h:readyB c=true∧lookF c l=0
  · obtain⟨hT,hC⟩:=ready_t.1 h.1
    have hn:(0:Int)<zi c.vs.length:=by have:=hC.ok.vn;simp only [zi_den];omega
    have e1:=tmod_nat hw.1 hn
    have hk2:(w.tmod (zi c.vs.length)).toNat<c.vs.length:=by have:=e1.2;simp only [zi_den]at this;exact Int.ofNat_lt.1 this
    have hW:Wd (w.tmod (zi c.vs.length)).toNat c (b.tmod 3) ((b.tdiv 3).tmod 3) ((b.tdiv 9).tmod 3) ((b.tdiv 27).tmod 3) (b.tmod 2) (b.tdiv 81):=⟨hk2,Int.tmod_nonneg _ hb.1,Int.tmod_nonneg _ (Int.tdiv_nonneg hb.1 (by decide)),Int.tmod_nonneg _ (Int.tdiv_nonneg hb.1 (by decide)),Int.tmod_nonneg _ (Int.tdiv_nonneg hb.1 (by decide)),Int.tmod_nonneg _ hb.1,Int.tdiv_nonneg hb.1 (by decide)⟩
    obtain⟨X,hX⟩:∃X,X=widC c (w.tmod (zi c.vs.length)).toNat (b.tmod 3) ((b.tdiv 3).tmod 3) ((b.tdiv 9).tmod 3) ((b.tdiv 27).tmod 3) (b.tmod 2) (b.tdiv 81):=⟨_,rfl⟩
    refine law8y c X l w b hw hb _ e1.1 hk2 _ _ _ _ _ rfl rfl rfl rfl rfl hX hW hT hC h.2 ?_
    rcases faultC_cases X with hF|hF|hF
    · have hCX:COk X:=faultC_iff.1 hF
      have hLX:lookF X l=0:=by rw [hX];exact wid_look hC hW h.2
      by_cases hE:askE c l=0
      · exact .inr (.inr (.inl ⟨hF,hE,by rw [hX];exact wid_ask hC (hX▸hCX) hW h.2 hE⟩))
      · by_cases hG:askE X l=0
        · exact .inr (.inr (.inr (.inl ⟨hF,ask_11 hC h.2 hE,hG⟩)))
        · exact .inr (.inr (.inr (.inr ⟨hF,ask_11 hC h.2 hE,ask_11 hCX hLX hG⟩)))
    · exact .inl hF
    · exact .inr (.inl hF)
  · exact law8t c l w b hw hb h
end Go.Proofs.Yteelocfbbhchcaa
