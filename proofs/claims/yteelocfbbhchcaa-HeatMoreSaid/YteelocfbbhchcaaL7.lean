/- HeatMore: what the law computes. No condition. -/
import Derived.Test.YteelocfbbhchcaaT6
set_option linter.unusedVariables false
set_option linter.unusedSimpArgs false
set_option linter.deprecated false
set_option linter.all false

namespace Go.Proofs.Yteelocfbbhchcaa
open Go Go.Eng Go.Proofs
set_option maxRecDepth 10000
def readyB (c:Clr):Bool:=thinB c 0&&decide (faultC c=0)
theorem ready_t {c:Clr}:readyB c=true↔ThinC c 0∧COk c:=by
  unfold readyB
  rw [Bool.and_eq_true,decide_eq_true_eq,thin_iff,faultC_iff]
theorem ready_ok {c:Clr}(h:readyB c=true):COk c:=(ready_t.1 h).2
end Go.Proofs.Yteelocfbbhchcaa

namespace Go.Proofs.Yteelocfbbhchcaa
open Go Go.Eng Go.Proofs
set_option maxRecDepth 10000
theorem vatA_ok {c:Clr}(hc:COk c) {v:Int}(h0:0≤v)(h1:v<c.vs.length):vatOk (vatA c v):=hc.ok.v v.toNat (by omega)
theorem ways_fit {c:Clr} {l:List LookT} {o:List Int} {rm v:Int}(hv:vatOk (vatA c v)) {w:Int×Int}(h:w∈waysC c l v rm o):FitV c l o rm v w.1 w.2:=by
  have hv':=hv
  unfold vatOk at hv
  have:=mem_ways (by omega) h
  exact⟨this.2.1,this.2.2.1,this.2.2.2.1,by omega,this.1⟩
theorem fit_ways {c:Clr} {l:List LookT} {o:List Int} {rm v st rt:Int}(h:FitV c l o rm v st rt):0<(waysC c l v rm o).length:=some_fit h.fit h.s0 h.s1 h.r0 h.r1
theorem room_iff {c:Clr}(hc:COk c) {l:List LookT} {o:List Int} {rm:Int}:roomB c l o rm=true↔∀v:Nat,v<c.vs.length→∃st rt,FitV c l o rm v st rt:=by
  unfold roomB
  rw [allB_t]
  constructor
  · intro h v hv
    obtain⟨w,hw⟩:=some_mem (show 0<(waysC c l (v:Int) rm o).length from of_decide_eq_true (h v hv))
    exact⟨w.1,w.2,ways_fit (vatA_ok hc (by omega) (by omega)) hw⟩
  · intro h v hv
    obtain⟨st,rt,hf⟩:=h v hv
    exact decide_eq_true (fit_ways hf)
theorem lo_le {c:Clr} {l:List LookT} {rm v st rt:Int} {rs:List Int}(hv:vatOk (vatA c v))(hr:rm∈rs)(h:FitV c l [] rm v st rt)(k:Nat):loW c (wysL c l v rs) k≤atW c.hr rm st rt k:=by
  obtain⟨s0,s1,r0,r1,hf⟩:=h
  unfold vatOk at hv
  obtain⟨a,ha,hle⟩:=ways_lo (p:=fitW c l v rm []) (d:=difW c rm) (n:=((vatA c v).rh-(vatA c v).rl+1).toNat) s0 s1 r0 (by omega) hf
  have:=mnL_le (wyA c k) (mem_wysL.2 ⟨rm,hr,(a,rt),ha,rfl⟩)
  have h2:=at_mono (hr:=c.hr) (rt:=rt) (by omega) (by omega) (Int.le_refl rm) hle k
  exact Int.le_trans this h2
theorem hi_ge {c:Clr} {l:List LookT} {rm v st rt:Int} {rs:List Int}(hv:vatOk (vatA c v))(hr:rm∈rs)(h:FitV c l [] rm v st rt) {k:Nat}(hk:k≤8):atW c.hr rm st rt k≤hiW c (wysL c l v rs) k:=by
  obtain⟨s0,s1,r0,r1,hf⟩:=h
  unfold vatOk at hv
  obtain⟨a,b,ha,hle,hd⟩:=ways_hi (p:=fitW c l v rm []) (d:=difW c rm) (n:=((vatA c v).rh-(vatA c v).rl+1).toNat) s0 s1 r0 (by omega) hf
  have h1:=mxL_ge (wyA c k) (mem_wysL.2 ⟨rm,hr,(a,rt),ha,rfl⟩)
  have h2:=at_mono (hr:=c.hr) (rt:=rt) (by omega) (by omega) (Int.le_refl rm) hle k
  have h3:atW c.hr rm b rt k=atW c.hr rm a rt k:=by
    rcases hd with rfl|hd
    · rfl
    · exact(difW_no hd k hk).symm
  rw [h3]at h2
  exact Int.le_trans h2 h1
theorem lo_is {c:Clr} {l:List LookT} {v:Int} {rs:List Int}(hv:vatOk (vatA c v))(hne:wysL c l v rs≠[])(k:Nat):∃rm st rt,rm∈rs∧FitV c l [] rm v st rt∧loW c (wysL c l v rs) k=atW c.hr rm st rt k:=by
  obtain⟨x,hx,e⟩:=mnL_is (wyA c k) hne
  obtain⟨rm,hm,w,hw,rfl⟩:=mem_wysL.1 hx
  exact⟨rm,w.1,w.2,hm,ways_fit hv hw,e⟩
theorem hi_is {c:Clr} {l:List LookT} {v:Int} {rs:List Int}(hv:vatOk (vatA c v))(hne:wysL c l v rs≠[])(k:Nat):∃rm st rt,rm∈rs∧FitV c l [] rm v st rt∧hiW c (wysL c l v rs) k=atW c.hr rm st rt k:=by
  obtain⟨x,hx,e⟩:=mxL_is (wyA c k) hne
  obtain⟨rm,hm,w,hw,rfl⟩:=mem_wysL.1 hx
  exact⟨rm,w.1,w.2,hm,ways_fit hv hw,e⟩
theorem ne_of_empty {α:Type} {L:List α}(h:L.isEmpty=false):L≠[]:=fun e=>by rw [e]at h;cases h
theorem vy_ne {c:Clr} {l:List LookT}(h:askE c l=0) {v:Nat}(hv:v<c.vs.length):vyL c l v≠[]:=ne_of_empty (vyL_ne h hv)
end Go.Proofs.Yteelocfbbhchcaa

namespace Go.Proofs.Yteelocfbbhchcaa
open Go Go.Eng Go.Proofs
set_option maxRecDepth 10000
theorem ready42 (c:Clr):FSpec Try.prog 42 [(clrS c)] [] (fun r _=>r=(.bool (.sym fun _=>readyB c))):=by
  have c14:=thin14 c []
  have c47:=fault47 c
  refine FSpec.is fun R hR=>qX (sc:=sc42) tyok mix Try.func42 rfl Try.call42 (by kernel_rfl) (by kernel_rfl) ?_
  generalize Try.prog=P at c14 c47⊢
  cbv
  repeat' (first
      |with_reducible refine And.intro ?_ ?_
      |(with_reducible intro hcd;(try simp only [zA,zB,zC,zD,zE,zF,zG,zH,zI,zJ,zK,zL,zM,zN,zO,zP]at hcd);try cbv)
      | (refine qQ ?_ (c14) ?hfit
         case hfit=>((refine qD (Fit.refl _) (qD (qP rfl) qB));done)
         try cbv)
      | (refine qQ ?_ (c47) ?hfit
         case hfit=>((repeat' (first|exact qB|refine qD ?_ ?_|exact qE (by rfl)|exact qG (by rfl)|exact Fit.refl _|exact qA|refine qC ?_ rfl ?_));done)
         try cbv)
      |fail)
  all_goals first
    |(subst hR;(refine qG ?_;(try simp only [qW]at *);(try simp only [zQ,zA,zB,zC,zD,zE,zF,zG,zH,zI,zJ,zK,zL,zM,zN,zO,zP,zR,zS]at *);unfold readyB;(try simp only [List.length_nil]at *);simp_all;done);done)
    |skip
end Go.Proofs.Yteelocfbbhchcaa

namespace Go.Proofs.Yteelocfbbhchcaa
open Go Go.Eng Go.Proofs
set_option maxRecDepth 10000
theorem looked_z {c:Clr} {l:List LookT}(hC:COk c)(h:lookF c l=0):lookedF c l=0:=by unfold lookedF;rw [if_pos (faultC_iff.2 hC)];exact h
theorem ask_11 {c:Clr} {l:List LookT}(hC:COk c)(h:lookF c l=0)(h':¬askE c l=0):askE c l=11:=by
  unfold askE at *
  rw [if_pos (looked_z hC h)]at *
  split at h'<;>rename_i q
  · rw [if_pos q]
  · exact absurd rfl h'
end Go.Proofs.Yteelocfbbhchcaa

namespace Go.Proofs.Yteelocfbbhchcaa
open Go Go.Eng Go.Proofs
set_option maxRecDepth 10000
theorem firstOf_none {f:Nat→Option (List Int)}:∀{k i:Nat},firstOf f k i=none→∀j,i≤j→j<i+k→f j=none:=by
  intro k
  induction k with
  |zero=>intro i _ j h1 h2;omega
  | succ k ih=>
    intro i h j h1 h2
    simp only [firstOf]at h
    split at h
    · cases h
    · rename_i hf
      by_cases e:j=i
      · rw [e];exact hf
      · exact ih h j (by omega) (by omega)
theorem firstOf_at {f:Nat→Option (List Int)} {r:List Int}:∀{k i:Nat},firstOf f k i=some r→∃j,i≤j∧j<i+k∧f j=some r∧∀j',i≤j'→j'<j→f j'=none:=by
  intro k
  induction k with
  |zero=>intro i h;cases h
  | succ k ih=>
    intro i h
    simp only [firstOf]at h
    split at h
    · rename_i r' hf
      cases h
      exact⟨i,Nat.le_refl _,by omega,hf,fun j' h1 h2=>by omega⟩
    · rename_i hf
      obtain⟨j,h1,h2,h3,h4⟩:=ih h
      refine⟨j,by omega,by omega,h3,fun j' a b=> ?_⟩
      by_cases e:j'=i
      · rw [e];exact hf
      · exact h4 j' (by omega) b
def Asc (n:Nat):Nat→List Int→Prop
  |_,[]=>True
  |i,x::t=>∃j:Nat,x=(j:Int)∧i≤j∧j<n∧Asc n (j+1) t
def LexLt :List Int→List Int→Prop
  |x::s,y::t=>x<y∨(x=y∧LexLt s t)
  |_,_=>False
theorem asc_room {n:Nat}:∀{s:List Int} {i:Nat},Asc n i s→s=[]∨i+s.length≤n:=by
  intro s
  induction s with
  |nil=>intro i _;exact .inl rfl
  | cons x t ih=>
    rintro i ⟨j,_,h1,h2,h3⟩
    right
    rcases ih h3 with e|e
    · subst e;simp only [List.length_cons,List.length_nil];omega
    · simp only [List.length_cons];omega
theorem choose_none {n:Nat} {ok:List Int→Bool}:∀{m:Nat} {l:List Int} {i:Nat},chooseL n ok m l i=none→∀s,Asc n i s→s.length=m→ok (l++s)=false:=by
  intro m
  induction m with
  | zero=>
    intro l i h s hs hl
    rw [List.length_eq_zero_iff.1 hl,List.append_nil]
    simp only [chooseL]at h
    split at h
    · cases h
    · rename_i q;simpa using q
  | succ m ih=>
    intro l i h s hs hl
    cases s with
    |nil=>cases hl
    | cons x t=>
      obtain⟨j,rfl,h1,h2,h3⟩:=hs
      simp only [List.length_cons]at hl
      simp only [chooseL]at h
      have hj:j<i+(n-m-i):=by
        rcases asc_room h3 with e|e
        · rw [e]at hl;simp at hl;omega
        · omega
      have:=ih (firstOf_none h j h1 hj) t h3 (by omega)
      simpa using this
theorem choose_some {n:Nat} {ok:List Int→Bool} {F:List Int}:∀{m:Nat} {l:List Int} {i:Nat},chooseL n ok m l i=some F→∃s,Asc n i s∧s.length=m∧F=l++s∧ok F=true∧∀s',Asc n i s'→s'.length=m→ok (l++s')=true→s=s'∨LexLt s s':=by
  intro m
  induction m with
  | zero=>
    intro l i h
    simp only [chooseL]at h
    split at h
    · rename_i q
      cases h
      refine⟨[],trivial,rfl,(List.append_nil _).symm,q,fun s' _ hl _=>.inl (List.length_eq_zero_iff.1 hl).symm⟩
    · cases h
  | succ m ih=>
    intro l i h
    simp only [chooseL]at h
    obtain⟨j,h1,h2,h3,h4⟩:=firstOf_at h
    obtain⟨s,a1,a2,a3,a4,a5⟩:=ih h3
    refine⟨(j:Int)::s,⟨j,rfl,h1,by omega,a1⟩,by simp [a2],by rw [a3];simp,a4,fun s' hs hl hok=> ?_⟩
    cases s' with
    |nil=>cases hl
    | cons x t=>
      obtain⟨j',rfl,b1,b2,b3⟩:=hs
      simp only [List.length_cons]at hl
      rcases Nat.lt_trichotomy j j' with e|e|e
      · exact .inr (.inl (by omega))
      · subst e
        rcases a5 t b3 (by omega) (by simpa using hok)with q|q
        · exact .inl (by rw [q])
        · exact .inr (.inr ⟨rfl,q⟩)
      · have:=choose_none (h4 j' b1 e) t b3 (by omega)
        rw [show l++[(j':Int)]++t=l++(j':Int)::t by simp,hok]at this
        cases this
theorem leave_spec {c:Clr} {l:List LookT}(h:lookedF c l=0):Asc l.length 0 (leaveL c l)∧okL c l (leaveL c l)=true ∧
    ∀s,Asc l.length 0 s→okL c l s=true→(leaveL c l).length≤s.length∧(s.length=(leaveL c l).length→leaveL c l=s∨LexLt (leaveL c l) s):=by
  have hO:=leave_yes h
  unfold leaveO at hO
  obtain⟨m,_,h2,h3,h4⟩:=firstOf_at hO
  obtain⟨s,a1,a2,a3,a4,a5⟩:=choose_some h3
  have e:leaveL c l=s:=by rw [a3];simp
  refine⟨e▸a1,a4,fun s' hs hok=> ?_⟩
  rw [e]
  have hmin:s.length≤s'.length:=by
    refine Nat.le_of_not_lt fun hlt=> ?_
    have:=choose_none (h4 s'.length (by omega) (by omega)) s' hs rfl
    rw [List.nil_append,hok]at this
    cases this
  exact⟨hmin,fun he=>a5 s' hs (by omega) (by simpa using hok)⟩
theorem right_iff {c:Clr} {l:List LookT} {v:Int} {x:Nat→Int} {o:List Int}:rightB c l v x o=true↔∀i,i<l.length→(l.getD i k0).v=v→inL o i=false→seeB c (l.getD i k0) (x (l.getD i k0).h.toNat)=true:=by
  unfold rightB
  rw [allB_t]
  constructor
  · intro h i hi h1 h2
    have:=h i hi
    unfold rightP at this
    rw [h1,h2,decide_eq_true rfl]at this
    simpa using this
  · intro h i hi
    unfold rightP
    by_cases h1:(l.getD i k0).v=v
    · cases h2:inL o i with
      |true=>simp
      |false=>rw [h i hi h1 h2];simp
    · rw [decide_eq_false h1];rfl
theorem ok_iff {c:Clr}(hc:COk c) {l:List LookT} {o:List Int}:okL c l o=true↔∃rm,c.rl≤rm∧rm≤c.rh∧∀v:Nat,v<c.vs.length→∃st rt,FitV c l o rm v st rt:=by
  unfold okL
  rw [decide_eq_true_eq]
  constructor
  · intro h
    obtain⟨rm,hm⟩:=some_mem h
    have:=(mem_rooms hc.ok.r1).1 hm
    exact⟨rm,this.1,this.2.1,(room_iff hc).1 this.2.2⟩
  · rintro⟨rm,h1,h2,h3⟩
    exact List.length_pos_of_mem ((mem_rooms hc.ok.r1).2 ⟨h1,h2,(room_iff hc).2 h3⟩)
theorem ask_ok {c:Clr} {l:List LookT}(h:lookedF c l=0):askE c l=0↔okL c l []=true:=by
  unfold askE okL
  rw [if_pos h,decide_eq_true_eq]
  split
  · rename_i q;exact⟨fun e=>(by cases e),fun e=>absurd q (by omega)⟩
  · rename_i q;exact⟨fun _=>by omega,fun _=>rfl⟩
theorem leave_nil {c:Clr} {l:List LookT}(h:lookedF c l=0):askE c l=0↔(leaveL c l).length=0:=by
  have hs:=leave_spec h
  rw [ask_ok h]
  constructor
  · intro q;have:=(hs.2.2 [] trivial q).1;simpa using this
  · intro q;have:=hs.2.1;rwa [List.length_eq_zero_iff.1 q]at this
theorem ok_mono {c x:Clr} {l l':List LookT} {o o':List Int}(hc:COk c)(hx:COk x)(m:Mono c l o x l' o')(h:okL c l o=true):okL x l' o'=true:=by
  obtain⟨rm,h1,h2,h3⟩:=(ok_iff hc).1 h
  have a:=m.r0;have b:=m.r1
  refine(ok_iff hx).2 ⟨rm,by omega,by omega,fun v hv=> ?_⟩
  have hv:=m.n▸hv
  obtain⟨st,rt,hf⟩:=h3 v hv
  exact⟨st,rt,m.fit rm v st rt hv hf⟩
theorem room_mono {c x:Clr} {l l':List LookT} {o o':List Int}(hc:COk c)(hx:COk x)(m:Mono c l o x l' o') {rm:Int}(h:rm∈roomsL c l o):rm∈roomsL x l' o':=by
  obtain⟨h1,h2,h3⟩:=(mem_rooms hc.ok.r1).1 h
  have a:=m.r0;have b:=m.r1
  refine(mem_rooms hx.ok.r1).2 ⟨by omega,by omega,(room_iff hx).2 fun v hv=> ?_⟩
  have hv:=m.n▸hv
  obtain⟨st,rt,hf⟩:=(room_iff hc).1 h3 v hv
  exact⟨st,rt,m.fit rm v st rt hv hf⟩
theorem bound_mono {c x:Clr} {l l':List LookT}(hc:COk c)(hx:COk x)(m:Mono c l [] x l' [])(h:askE c l=0) {v:Nat}(hv:v<c.vs.length) {k:Nat}(hk:k≤8):
    loW x (vyL x l' v) k≤loW c (vyL c l v) k∧hiW c (vyL c l v) k≤hiW x (vyL x l' v) k:=by
  have vo:=vatA_ok hc (v:=(v:Int)) (by omega) (by omega)
  have vx:=vatA_ok hx (v:=(v:Int)) (by omega) (by have:=m.n;omega)
  obtain⟨rm,st,rt,hm,hf,e⟩:=lo_is vo (vy_ne h hv) k
  obtain⟨rm',st',rt',hm',hf',e'⟩:=hi_is vo (vy_ne h hv) k
  have a:=lo_le vx (room_mono hc hx m hm) (m.fit rm v st rt hv hf) k
  have b:=hi_ge vx (room_mono hc hx m hm') (m.fit rm' v st' rt' hv hf') hk
  rw [m.hr]at a b
  unfold vyL at *
  omega
theorem more_at (l:List LookT)(x:LookT) {i:Nat}(h:i<l.length):(l++[x]).getD i k0=l.getD i k0:=by
  simp only [List.getD_eq_getElem?_getD]
  rw [List.getElem?_append_left h]
theorem inL_no {o:List Int} {v:Int}:inL o v=false↔v∉o:=by rw [←inL_mem,Bool.not_eq_true]
theorem more_fit {c:Clr} {l:List LookT} {x:LookT} {o o':List Int}(ho:∀i:Nat,i<l.length→(i:Int)∈o→(i:Int)∈o') {rm v st rt:Int}(h:FitV c (l++[x]) o rm v st rt):FitV c l o' rm v st rt:=by
  refine⟨h.s0,h.s1,h.r0,h.r1,right_iff.2 fun i hi h1 h2=> ?_⟩
  have hf:=right_iff.1 h.fit i (by simp;omega)
  rw [more_at l x hi]at hf
  exact hf h1 (inL_no.2 fun q=>inL_no.1 h2 (ho i hi q))
theorem more_fit2 {c:Clr} {l:List LookT} {x:LookT} {o:List Int} {rm v st rt:Int}(h:FitV c l o rm v st rt):FitV c (l++[x]) (o++[(l.length:Int)]) rm v st rt:=by
  refine⟨h.s0,h.s1,h.r0,h.r1,right_iff.2 fun i hi h1 h2=> ?_⟩
  have hni:=inL_no.1 h2
  simp only [List.mem_append,List.mem_singleton,not_or]at hni
  have hi':i<l.length:=by simp at hi;omega
  rw [more_at l x hi']at h1⊢
  exact right_iff.1 h.fit i hi' h1 (inL_no.2 hni.1)
theorem asc_snoc {n:Nat}:∀{s:List Int} {i:Nat},i≤n→Asc n i s→Asc (n+1) i (s++[(n:Int)]):=by
  intro s
  induction s with
  |nil=>intro i hi _;exact⟨n,rfl,hi,by omega,trivial⟩
  |cons x t ih=>rintro i hi ⟨j,a,b,d,e⟩;exact⟨j,a,b,by omega,ih (by omega) e⟩
theorem asc_cut {n:Nat}:∀{s:List Int} {i:Nat},Asc (n+1) i s→∃t,Asc n i t∧t.length≤s.length∧∀j:Nat,j<n→(j:Int)∈s→(j:Int)∈t:=by
  intro s
  induction s with
  |nil=>intro i _;exact⟨[],trivial,Nat.le_refl _,fun j _ h=>h⟩
  | cons x s ih=>
    rintro i ⟨j,rfl,b,d,e⟩
    obtain⟨t,t1,t2,t3⟩:=ih e
    by_cases hj:j<n
    · refine⟨(j:Int)::t,⟨j,rfl,b,hj,t1⟩,by simp;omega,fun k hk h=> ?_⟩
      rcases List.mem_cons.1 h with q|q
      · rw [q];exact List.mem_cons_self ..
      · exact List.mem_cons_of_mem _ (t3 k hk q)
    · have hjn:j=n:=by omega
      subst hjn
      refine⟨[],trivial,by simp,fun k hk h=> ?_⟩
      rcases List.mem_cons.1 h with q|q
      · omega
      · exfalso
        have:s=[]:=by
          rcases asc_room e with r|r
          · exact r
          · cases s with
            |nil=>rfl
            |cons y u=>simp at r;omega
        rw [this]at q;cases q
theorem more_mono {c:Clr} {l:List LookT} {x:LookT} {o o':List Int}(ho:∀i:Nat,i<l.length→(i:Int)∈o→(i:Int)∈o'):Mono c (l++[x]) o c l o':=
  ⟨rfl,rfl,Int.le_refl _,Int.le_refl _,fun _ _ _ _ _ h=>more_fit ho h⟩
theorem more_leave {c:Clr} {l:List LookT} {x:LookT}(hc:COk c)(h:lookedF c l=0)(h':lookedF c (l++[x])=0):(leaveL c l).length≤(leaveL c (l++[x])).length∧(leaveL c (l++[x])).length≤(leaveL c l).length+1:=by
  have s:=leave_spec h
  have u:=leave_spec h'
  have hlen:(l++[x]).length=l.length+1:=by simp
  rw [hlen]at u
  constructor
  · obtain⟨t,t1,t2,t3⟩:=asc_cut u.1
    have:=(s.2.2 t t1 (ok_mono hc hc (more_mono t3) u.2.1)).1
    omega
  · have ha:=asc_snoc (Nat.zero_le _) s.1
    have hm:Mono c l (leaveL c l) c (l++[x]) (leaveL c l++[(l.length:Int)]):=⟨rfl,rfl,Int.le_refl _,Int.le_refl _,fun _ _ _ _ _ h=>more_fit2 h⟩
    have:=(u.2.2 _ ha (ok_mono hc hc hm s.2.1)).1
    simpa using this
end Go.Proofs.Yteelocfbbhchcaa

namespace Go.Proofs.Yteelocfbbhchcaa
open Go Go.Eng Go.Proofs
set_option maxRecDepth 10000
def sc7b :SC:=[(1,[⟨0,false,[],false,0,none⟩,⟨1,false,[],false,0,none⟩,⟨3,false,[],false,0,none⟩,⟨4,false,[3],false,0,none⟩,⟨2,false,[0,1],false,0,none⟩,⟨5,true,[0,1,2,3,4],false,0,none⟩,⟨6,true,[0,1,2,3,4,5],false,0,none⟩])]
theorem lit_t {f:FuncId} {args:List SV} {b:Bool}(h:FSpec Try.prog f args [] (fun r _=>r = .bool (.sym fun _=>b)))(hb:b=true):FSpec Try.prog f args [] (fun r _=>r = .bool (.lit true)):=h.post fun r bs q=>⟨_,by subst q;exact qG hb,rfl⟩
theorem lit_i {f:FuncId} {args:List SV} {n:Int}(h:FSpec Try.prog f args [] (fun r _=>r = .int .i64 (.sym fun _=>n))) {m:Int}(hb:n=m):FSpec Try.prog f args [] (fun r _=>r = .int .i64 (.lit m)):=h.post fun r bs q=>⟨_,by subst q;exact qE hb,rfl⟩
theorem inside46 (n m:Nat)(fa ga fb gb:Nat→Nat→Int)(hn:n≤1000)(hm:m≤1000)(h:∀v k,v<n→k<m→fb v k≤fa v k∧ga v k≤gb v k):FSpec Try.prog 46 [(.sl 1 (.sym fun _=>zi n) (fun ix=>[(.sl 2 (.sym fun _=>zi (m)) (fun jx=>[(.int .i64 (.sym fun _=>fa ix.den.toNat jx.den.toNat)),(.int .i64 (.sym fun _=>ga ix.den.toNat jx.den.toNat))]))])),(.sl 1 (.sym fun _=>zi n) (fun ix=>[(.sl 2 (.sym fun _=>zi (m)) (fun jx=>[(.int .i64 (.sym fun _=>fb ix.den.toNat jx.den.toNat)),(.int .i64 (.sym fun _=>gb ix.den.toNat jx.den.toNat))]))]))] [] (fun r _=>r=(.bool (.lit true))):=by
  refine FSpec.is fun R hR=>qX (sc:=sc46) tyok mix Try.func46 rfl Try.call46 (by kernel_rfl) (by kernel_rfl) ?_
  generalize Try.prog=P
  cbv
  repeat' (first
      |with_reducible refine And.intro ?_ ?_
      |(with_reducible intro hcd;(try simp only [zA,zB,zC,zD,zE,zF,zG,zH,zI,zJ,zK,zL,zM,zN,zO,zP]at hcd);try cbv)
      |fail)
  all_goals first
    |trivial
    |skip
  refine⟨none,[],{v:Nat // v≤n},fun x=>⟨[(0,(.sl 1 (.sym fun _=>zi n) (fun ix=>[(.sl 2 (.sym fun _=>zi (m)) (fun jx=>[(.int .i64 (.sym fun _=>fa ix.den.toNat jx.den.toNat)),(.int .i64 (.sym fun _=>ga ix.den.toNat jx.den.toNat))]))]))),(1,(.sl 1 (.sym fun _=>zi n) (fun ix=>[(.sl 2 (.sym fun _=>zi (m)) (fun jx=>[(.int .i64 (.sym fun _=>fb ix.den.toNat jx.den.toNat)),(.int .i64 (.sym fun _=>gb ix.den.toNat jx.den.toNat))]))]))),(5,(.int .i64 (.sym fun _=>zi x.1)))],[],30⟩,fun x=>n-x.1,?_,?_⟩
  · refine⟨⟨0,by omega⟩,?_⟩
    cbv
    repeat' (first
      |with_reducible refine hold ?_ ?_
      |with_reducible refine And.intro ?_ ?_)
    all_goals first
      |trivial
      |exact qN (qE (by rfl))
      |exact qN (Fit.refl _)
      |skip
  · rintro⟨v,hv⟩
    cbv
    repeat' (first
        |with_reducible refine hold ?_ ?_
        |with_reducible refine And.intro ?_ ?_
        |(with_reducible intro hcd;(try simp only [zA,zB,zC,zD,zE,zF,zG,zH,zI,zJ,zK,zL,zM,zN,zO,zP]at hcd);try cbv)
        |fail)
    all_goals first
      |trivial
      |((try simp only [qW]at *);(try simp only [zQ,zA,zB,zC,zD,zE,zF,zG,zH,zI,zJ,zK,zL,zM,zN,zO,zP,zR,zS]at *);first|(refine qO ?_;omega)|(simp only [Hold];omega))
      |(subst hR;(repeat' (first|exact qA|exact qB|refine qC ?_ rfl ?_|refine qD ?_ ?_|exact qE (by rfl)|exact qG (by rfl)|exact Fit.refl _|exact qH _|(refine qE ?_;(try simp only [qW]at *);simp only [zQ,zA,zB,zC,zD,zE,zF,zG,zH,zI,zJ,zK,zL,zM,zN,zO,zP,zR,zS]at *;omega)));done)
      |skip
    refine⟨none,[],{k:Nat // k≤m},fun x=>⟨[(0,(.sl 1 (.sym fun _=>zi n) (fun ix=>[(.sl 2 (.sym fun _=>zi (m)) (fun jx=>[(.int .i64 (.sym fun _=>fa ix.den.toNat jx.den.toNat)),(.int .i64 (.sym fun _=>ga ix.den.toNat jx.den.toNat))]))]))),(1,(.sl 1 (.sym fun _=>zi n) (fun ix=>[(.sl 2 (.sym fun _=>zi (m)) (fun jx=>[(.int .i64 (.sym fun _=>fb ix.den.toNat jx.den.toNat)),(.int .i64 (.sym fun _=>gb ix.den.toNat jx.den.toNat))]))]))),(5,(.int .i64 (.sym fun _=>zi v))),(6,(.int .i64 (.sym fun _=>zi x.1)))],[],60⟩,fun x=>m-x.1,?_,?_⟩
    · refine⟨⟨0,by omega⟩,?_⟩
      cbv
      repeat' (first
        |with_reducible refine hold ?_ ?_
        |with_reducible refine And.intro ?_ ?_)
      all_goals first
        |trivial
        |exact qN (qE (by rfl))
        |exact qN (Fit.refl _)
        |skip
    · rintro⟨k,hk⟩
      cbv
      cbv
      repeat' (first
          |with_reducible refine hold ?_ ?_
          |with_reducible refine And.intro ?_ ?_
          |(with_reducible intro hcd;(try simp only [zA,zB,zC,zD,zE,zF,zG,zH,zI,zJ,zK,zL,zM,zN,zO,zP]at hcd);try cbv)
          |fail)
      all_goals first
        |((try simp only [qW]at *);(try simp only [zQ,zA,zB,zC,zD,zE,zF,zG,zH,zI,zJ,zK,zL,zM,zN,zO,zP,zR,zS]at *);first|(refine qO ?_;omega)|(simp only [Hold];omega))
        |(exfalso;(have hh:=h v k (by((try simp only [qW]at *);(try simp only [zQ,zA,zB,zC,zD,zE,zF,zG,zH,zI,zJ,zK,zL,zM,zN,zO,zP,zR,zS]at *);omega)) (by((try simp only [qW]at *);(try simp only [zQ,zA,zB,zC,zD,zE,zF,zG,zH,zI,zJ,zK,zL,zM,zN,zO,zP,zR,zS]at *);omega)));(try simp only [qW]at *);(try simp only [zQ,zA,zB,zC,zD,zE,zF,zG,zH,zI,zJ,zK,zL,zM,zN,zO,zP,zR,zS]at *);omega)
        |((try simp only [zQ,zA,zB,zC,zD,zE,zF,zG,zH,zI,zJ,zK,zL,zM,zN,zO,zP,zR,zS]at *);refine⟨⟨k+1,by omega⟩,by simp only [];omega,?_⟩;cbv;(repeat' (first|with_reducible refine hold ?_ ?_|with_reducible refine And.intro ?_ ?_));(all_goals first|trivial|exact qN (qE (by rfl))|exact qN (qG (by rfl))|exact qN (Fit.refl _)|exact qM (qL _)|(refine qN (qE ?_);(try simp only [qW]at *);simp only [zQ,zA,zB,zC,zD,zE,zF,zG,zH,zI,zJ,zK,zL,zM,zN,zO,zP,zR,zS]at *;omega)|(refine qM (qK ?_);(repeat' (first|exact qA|exact qB|refine qC ?_ rfl ?_|refine qD ?_ ?_|exact qE (by rfl)|exact qG (by rfl)|exact Fit.refl _|exact qH _|(refine qE ?_;(try simp only [qW]at *);simp only [zQ,zA,zB,zC,zD,zE,zF,zG,zH,zI,zJ,zK,zL,zM,zN,zO,zP,zR,zS]at *;omega)));done)|skip))
        |((try simp only [zQ,zA,zB,zC,zD,zE,zF,zG,zH,zI,zJ,zK,zL,zM,zN,zO,zP,zR,zS]at *);refine⟨⟨v+1,by omega⟩,by simp only [];omega,?_⟩;cbv;(repeat' (first|with_reducible refine hold ?_ ?_|with_reducible refine And.intro ?_ ?_));(all_goals first|trivial|exact qN (qE (by rfl))|exact qN (qG (by rfl))|exact qN (Fit.refl _)|exact qM (qL _)|(refine qN (qE ?_);(try simp only [qW]at *);simp only [zQ,zA,zB,zC,zD,zE,zF,zG,zH,zI,zJ,zK,zL,zM,zN,zO,zP,zR,zS]at *;omega)|(refine qM (qK ?_);(repeat' (first|exact qA|exact qB|refine qC ?_ rfl ?_|refine qD ?_ ?_|exact qE (by rfl)|exact qG (by rfl)|exact Fit.refl _|exact qH _|(refine qE ?_;(try simp only [qW]at *);simp only [zQ,zA,zB,zC,zD,zE,zF,zG,zH,zI,zJ,zK,zL,zM,zN,zO,zP,zR,zS]at *;omega)));done)|skip))
        |skip
theorem more_new (l:List LookT)(x:LookT) {i:Nat}(h:i=l.length):(l++[x]).getD i k0=x:=by
  subst h
  simp [List.getD_eq_getElem?_getD]
theorem law7t (c:Clr)(l:List LookT)(x:LookT)(hz:l.length*32≤140737488351232)(h:¬(readyB c=true∧l.length≤5∧lookF c (l++[x])=0)):FSpec Try.prog 7 [(clrS c),(lksS l),(.agg [(.int .i64 (.sym fun _=>x.v)),(.int .i64 (.sym fun _=>x.h)),(.int .i64 (.sym fun _=>x.t)),(.int .i64 (.sym fun _=>x.s))])] [] (fun r _=>r=(.bool (.lit true))):=by
  have c15:=awake15
  have c42:=ready42 c
  have c44:=fun h:readyB c=true=>lookfault44 c (l++[x]) (ready_ok h).fewT
  refine FSpec.is fun R hR=>qX (sc:=sc7b) tyok mix Try.func7 rfl Try.call7 (by kernel_rfl) (by kernel_rfl) ?_
  generalize Try.prog=P at c15 c42 c44⊢
  cbv
  repeat' (first
      |with_reducible refine hold ?_ ?_
      |with_reducible refine And.intro ?_ ?_
      |(with_reducible intro hcd;(try simp only [zA,zB,zC,zD,zE,zF,zG,zH,zI,zJ,zK,zL,zM,zN,zO,zP]at hcd);try cbv)
      | (refine qQ ?_ (c42) ?hfit
         case hfit=>((repeat' (first|exact qB|refine qD ?_ ?_|exact qE (by rfl)|exact qG (by rfl)|exact Fit.refl _|exact qA|refine qC ?_ rfl ?_));done)
         try cbv)
      | (refine qQ ?_ (c15) ?hfit
         case hfit=>((repeat' (first|exact qB|refine qD ?_ ?_|exact qE (by rfl)|exact qG (by rfl)|exact Fit.refl _|exact qA|refine qC ?_ rfl ?_));done)
         try cbv)
      | (refine⟨fun ix=>[(.int .i64 (.sym fun _=>(((l++[x])).getD ix.den.toNat k0).v)),(.int .i64 (.sym fun _=>(((l++[x])).getD ix.den.toNat k0).h)),(.int .i64 (.sym fun _=>(((l++[x])).getD ix.den.toNat k0).t)),(.int .i64 (.sym fun _=>(((l++[x])).getD ix.den.toNat k0).s))],?_⟩
         cbv
         refine hold (hold_rowapp (by intro ix jx h0 h1 h2;(have e:=more_at l x (i:=ix.den.toNat) (by(try simp only [qW]at *);(try simp only [zQ,zA,zB,zC,zD,zE,zF,zG,zH,zI,zJ,zK,zL,zM,zN,zO,zP,zR,zS]at *);omega));(have e3:jx.den.toNat=ix.den.toNat:=by rw [h2]);simp only [e3,e];exact Fit.refl _) (by intro ix jx h0 h1 h2;(have e:=more_new l x (i:=jx.den.toNat) (by(try simp only [qW]at *);(try simp only [zQ,zA,zB,zC,zD,zE,zF,zG,zH,zI,zJ,zK,zL,zM,zN,zO,zP,zR,zS]at *);omega));simp only [e];exact(qC (qE rfl) rfl (qC (qE rfl) rfl (qC (qE rfl) rfl (qC (qE rfl) rfl qA))))) (by(try simp only [qW]at *);(try simp only [zQ,zA,zB,zC,zD,zE,zF,zG,zH,zI,zJ,zK,zL,zM,zN,zO,zP,zR,zS]at *);omega)) (Or.inl ?_)
         try cbv)
      | (refine⟨none,?_⟩
         refine qS ?_ (c44 (show Hold _ from ?_)) rfl (by cbv;(refine qD (Fit.refl _) (qD (fit_sl (by(try simp only [qW]at *);(try simp only [zQ,zA,zB,zC,zD,zE,zF,zG,zH,zI,zJ,zK,zL,zM,zN,zO,zP,zR,zS]at *);(try simp only [List.length_append,List.length_cons,List.length_nil]);omega) (fun _ _ _=>Fit.refl _)) qB)))
         try cbv)
      |fail)
  all_goals first
    |trivial
    |((try clear c15);(try clear c42);(try clear c44);((try simp only [qW]at *);(try simp only [zQ,zA,zB,zC,zD,zE,zF,zG,zH,zI,zJ,zK,zL,zM,zN,zO,zP,zR,zS,allB_t,allB_f,inB_t,inB_f,ofB_t,ofB_f,shB_t,shB_f,spB_t,spB_f]at *);first|(refine qO ?_;omega)|(simp only [Hold];omega)))
    |((try clear c15);(try clear c42);(try clear c44);(subst hR;(repeat' (first|exact qA|exact qB|refine qC ?_ rfl ?_|refine qD ?_ ?_|exact qE (by rfl)|exact qG (by rfl)|exact Fit.refl _|exact qH _|(refine qE ?_;(try simp only [qW]at *);simp only [zQ,zA,zB,zC,zD,zE,zF,zG,zH,zI,zJ,zK,zL,zM,zN,zO,zP,zR,zS]at *;omega)));done))
    |((try clear c15);(try clear c42);(try clear c44);(exfalso;(try simp only [qW]at *);(try simp only [zQ,zA,zB,zC,zD,zE,zF,zG,zH,zI,zJ,zK,zL,zM,zN,zO,zP,zR,zS]at *);exact h ⟨by assumption,by omega,by omega⟩))
    |skip
end Go.Proofs.Yteelocfbbhchcaa

namespace Go.Proofs.Yteelocfbbhchcaa
open Go Go.Eng Go.Proofs
set_option maxRecDepth 10000
theorem look_less {c:Clr} {l:List LookT} {x:LookT}(h:lookF c (l++[x])=0):lookF c l=0:=by
  rw [lookF_iff]at h⊢
  refine⟨by have:=h.len;simp at this;omega,fun i hi=> ?_⟩
  have:=h.ok i (by simp;omega)
  rwa [more_at l x hi]at this
theorem leave_len {c:Clr} {l:List LookT}(h:lookedF c l=0):(leaveL c l).length≤l.length:=by
  rcases asc_room (leave_spec h).1 with e|e
  · rw [e];simp
  · omega
theorem looked_0 {c:Clr} {l:List LookT}(hC:COk c)(h:lookF c l=0):lookedF c l=0:=looked_z hC h
theorem bounds_y {c:Clr} {l:List LookT}(hA:askE c l=0):FSpec Try.prog 30 [(clrS c),(lksS l)] [] (fun r _=>r=(.tup [(.sl 1 (.sym fun _=>zi c.vs.length) (fun ix=>[(.sl 2 (.sym fun _=>zi (c.hr.toNat+1)) (fun jx=>[(.int .i64 (.sym fun _=>loW c (vyL c l ix.den.toNat) jx.den.toNat)),(.int .i64 (.sym fun _=>hiW c (vyL c l ix.den.toNat) jx.den.toNat))]))])),(.int .i64 (.lit (0)))])):=
  (bounds30 c l).post fun r bs q=>⟨_,by subst q;exact qD (fit_sl (congrArg zi (bndN_yes hA)) (fun _ _ _=>Fit.refl _)) (qD (qE hA) qB),rfl⟩
theorem bounds_n {c:Clr} {l:List LookT}(hA:askE c l=11):FSpec Try.prog 30 [(clrS c),(lksS l)] [] (fun r _=>r=(.tup [(.sl 1 (.lit 0) (fun ix=>[(.sl 2 (.sym fun _=>zi (c.hr.toNat+1)) (fun jx=>[(.int .i64 (.sym fun _=>loW c (vyL c l ix.den.toNat) jx.den.toNat)),(.int .i64 (.sym fun _=>hiW c (vyL c l ix.den.toNat) jx.den.toNat))]))])),(.int .i64 (.lit (11)))])):=
  (bounds30 c l).post fun r bs q=>⟨_,by subst q;exact qD (fit_sl ((congrArg zi (bndN_no (by omega))).trans rfl) (fun _ _ _=>Fit.refl _)) (qD (qE hA) qB),rfl⟩
theorem leave_y {c:Clr} {l:List LookT}(hA:lookedF c l=0):FSpec Try.prog 45 [(clrS c),(lksS l)] [] (fun r _=>r=(.tup [(.sl 1 (.sym fun _=>zi (leaveL c l).length) (fun ix=>[.int .i64 (.sym fun _=>(leaveL c l).getD ix.den.toNat 0)])),(.int .i64 (.lit (0)))])):=
  (leave45 c l).post fun r bs q=>⟨_,by subst q;exact qD (Fit.refl _) (qD (qE hA) qB),rfl⟩
set_option maxHeartbeats 1000000 in
theorem law7yA (c:Clr)(l:List LookT)(x:LookT)(hz:l.length*32≤140737488351232)(hT:ThinC c 0)(hC:COk c)(h5:l.length≤5)(hL:lookF c (l++[x])=0)(hE:askE c l=0)(hF:askE c (l++[x])=0):FSpec Try.prog 7 [(clrS c),(lksS l),(.agg [(.int .i64 (.sym fun _=>x.v)),(.int .i64 (.sym fun _=>x.h)),(.int .i64 (.sym fun _=>x.t)),(.int .i64 (.sym fun _=>x.s))])] [] (fun r _=>r=(.bool (.lit true))):=by
  have hl0:=looked_0 hC (look_less hL)
  have hr0:=looked_0 hC hL
  have hm:=more_leave hC hl0 hr0
  have hs0:=leave_nil hl0
  have hu0:=leave_nil hr0
  rw [hE]at hs0
  rw [hF]at hu0
  have hsl:=leave_len hl0
  have hd1:(true==decide (zi (leaveL c l).length=0))=true:=by simp only [zi_den];by_cases q:(leaveL c l).length=0<;>simp [q]at hs0⊢
  have hd2:(true==decide (zi (leaveL c (l++[x])).length=0))=true:=by simp only [zi_den];by_cases q:(leaveL c (l++[x])).length=0<;>simp [q]at hu0⊢
  have hv3:=hC.few.v
  have h8:=hC.ok.h8
  have h1:=hC.ok.h1
  have c15:=awake15
  have c42:=lit_t (ready42 c) (ready_t.2 ⟨hT,hC⟩)
  have c44:=lit_i (lookfault44 c (l++[x]) hC.fewT) hL
  have c17:=cellar17 c (by have:=hT.v;omega) (by have:=hT.t;omega) (fun i hi=>by have:=hT.p i hi;omega)
  have c31:=looks31 l (by omega)
  have c31r:=looks31 (l++[x]) (by simp only [List.length_append,List.length_cons,List.length_nil];omega)
  have c30:=bounds_y hE
  have c30r:=bounds_y hF
  have c45:=leave_y hl0
  have c45r:=leave_y hr0
  have c46:=(show FSpec Try.prog 46 [(.sl 1 (.sym fun _=>zi c.vs.length) (fun ix=>[(.sl 2 (.sym fun _=>zi (c.hr.toNat+1)) (fun jx=>[(.int .i64 (.sym fun _=>loW c (vyL c (l++[x]) ix.den.toNat) jx.den.toNat)),(.int .i64 (.sym fun _=>hiW c (vyL c (l++[x]) ix.den.toNat) jx.den.toNat))]))])),(.sl 1 (.sym fun _=>zi c.vs.length) (fun ix=>[(.sl 2 (.sym fun _=>zi (c.hr.toNat+1)) (fun jx=>[(.int .i64 (.sym fun _=>loW c (vyL c l ix.den.toNat) jx.den.toNat)),(.int .i64 (.sym fun _=>hiW c (vyL c l ix.den.toNat) jx.den.toNat))]))]))] [] (fun r _=>r=(.bool (.lit true)))from inside46 c.vs.length (c.hr.toNat+1) (fun v k=>loW c (vyL c (l++[x]) v) k) (fun v k=>hiW c (vyL c (l++[x]) v) k) (fun v k=>loW c (vyL c l v) k) (fun v k=>hiW c (vyL c l v) k) (by omega) (by omega) (fun v k hv hk=>bound_mono hC hC (more_mono (fun _ _ h=>h)) hF hv (by omega)))
  refine FSpec.is fun R hR=>qX (sc:=sc7b) tyok mix Try.func7 rfl Try.call7 (by kernel_rfl) (by kernel_rfl) ?_
  generalize Try.prog=P at c15 c42 c44 c17 c31 c31r c30 c30r c45 c45r c46⊢
  cbv
  repeat' (first
      |with_reducible refine hold ?_ ?_
      |with_reducible refine And.intro ?_ ?_
      |(with_reducible intro hcd;(try simp only [zA,zB,zC,zD,zE,zF,zG,zH,zI,zJ,zK,zL,zM,zN,zO,zP]at hcd);try cbv)
      | (refine qQ ?_ (c42) ?hfit
         case hfit=>((repeat' (first|exact qB|refine qD ?_ ?_|exact qE (by rfl)|exact qG (by rfl)|exact Fit.refl _|exact qA|refine qC ?_ rfl ?_));done)
         try cbv)
      | (refine qQ ?_ (c15) ?hfit
         case hfit=>((repeat' (first|exact qB|refine qD ?_ ?_|exact qE (by rfl)|exact qG (by rfl)|exact Fit.refl _|exact qA|refine qC ?_ rfl ?_));done)
         try cbv)
      | (refine qQ ?_ (c17) ?hfit
         case hfit=>((repeat' (first|exact qB|refine qD ?_ ?_|exact qE (by rfl)|exact qG (by rfl)|exact Fit.refl _|exact qA|refine qC ?_ rfl ?_));done)
         try cbv)
      | (refine qQ ?_ (c31) ?hfit
         case hfit=>((repeat' (first|exact qB|refine qD ?_ ?_|exact qE (by rfl)|exact qG (by rfl)|exact Fit.refl _|exact qA|refine qC ?_ rfl ?_));done)
         try cbv)
      | (refine qQ ?_ (c30) ?hfit
         case hfit=>((repeat' (first|exact qB|refine qD ?_ ?_|exact qE (by rfl)|exact qG (by rfl)|exact Fit.refl _|exact qA|refine qC ?_ rfl ?_));done)
         try cbv)
      | (refine qQ ?_ (c30r) ?hfit
         case hfit=>((repeat' (first|exact qB|refine qD ?_ ?_|exact qE (by rfl)|exact qG (by rfl)|exact Fit.refl _|exact qA|refine qC ?_ rfl ?_));done)
         try cbv)
      | (refine qQ ?_ (c45) ?hfit
         case hfit=>((repeat' (first|exact qB|refine qD ?_ ?_|exact qE (by rfl)|exact qG (by rfl)|exact Fit.refl _|exact qA|refine qC ?_ rfl ?_));done)
         try cbv)
      | (refine qQ ?_ (c45r) ?hfit
         case hfit=>((repeat' (first|exact qB|refine qD ?_ ?_|exact qE (by rfl)|exact qG (by rfl)|exact Fit.refl _|exact qA|refine qC ?_ rfl ?_));done)
         try cbv)
      | (refine qQ ?_ (c46) ?hfit
         case hfit=>((repeat' (first|exact qB|refine qD ?_ ?_|exact qE (by rfl)|exact qG (by rfl)|exact Fit.refl _|exact qA|refine qC ?_ rfl ?_));done)
         try cbv)
      | (refine⟨fun ix=>[(.int .i64 (.sym fun _=>(((l++[x])).getD ix.den.toNat k0).v)),(.int .i64 (.sym fun _=>(((l++[x])).getD ix.den.toNat k0).h)),(.int .i64 (.sym fun _=>(((l++[x])).getD ix.den.toNat k0).t)),(.int .i64 (.sym fun _=>(((l++[x])).getD ix.den.toNat k0).s))],?_⟩
         cbv
         refine hold (hold_rowapp (by intro ix jx h0 h1 h2;(have e:=more_at l x (i:=ix.den.toNat) (by(try simp only [qW]at *);(try simp only [zQ,zA,zB,zC,zD,zE,zF,zG,zH,zI,zJ,zK,zL,zM,zN,zO,zP,zR,zS]at *);omega));(have e3:jx.den.toNat=ix.den.toNat:=by rw [h2]);simp only [e3,e];exact Fit.refl _) (by intro ix jx h0 h1 h2;(have e:=more_new l x (i:=jx.den.toNat) (by(try simp only [qW]at *);(try simp only [zQ,zA,zB,zC,zD,zE,zF,zG,zH,zI,zJ,zK,zL,zM,zN,zO,zP,zR,zS]at *);omega));simp only [e];exact(qC (qE rfl) rfl (qC (qE rfl) rfl (qC (qE rfl) rfl (qC (qE rfl) rfl qA))))) (by(try simp only [qW]at *);(try simp only [zQ,zA,zB,zC,zD,zE,zF,zG,zH,zI,zJ,zK,zL,zM,zN,zO,zP,zR,zS]at *);omega)) (Or.inl ?_)
         try cbv)
      | (refine⟨none,?_⟩
         refine qS ?_ (c44) rfl (by cbv;(refine qD (Fit.refl _) (qD (fit_sl (by(try simp only [qW]at *);(try simp only [zQ,zA,zB,zC,zD,zE,zF,zG,zH,zI,zJ,zK,zL,zM,zN,zO,zP,zR,zS]at *);(try simp only [List.length_append,List.length_cons,List.length_nil]);omega) (fun _ _ _=>Fit.refl _)) qB)))
         try cbv)
      | (refine⟨some [],(5:Nat),?_⟩
         cbv
         refine setl_k ?_ (c31r) (by cbv;(refine qD (fit_sl (by(try simp only [qW]at *);(try simp only [zQ,zA,zB,zC,zD,zE,zF,zG,zH,zI,zJ,zK,zL,zM,zN,zO,zP,zR,zS]at *);(try simp only [List.length_append,List.length_cons,List.length_nil]);omega) (fun _ _ _=>Fit.refl _)) qB))
         try cbv
         fail_if_success (show False))
      | (refine qQ ?_ (c31r) ?hfit
         case hfit=>((refine qD (fit_sl (by(try simp only [qW]at *);(try simp only [zQ,zA,zB,zC,zD,zE,zF,zG,zH,zI,zJ,zK,zL,zM,zN,zO,zP,zR,zS]at *);(try simp only [List.length_append,List.length_cons,List.length_nil]);omega) (fun _ _ _=>Fit.refl _)) qB);done)
         try cbv)
      |fail)
  all_goals first
    |((try clear c15);(try clear c42);(try clear c44);(try clear c17);(try clear c31);(try clear c31r);(try clear c30);(try clear c30r);(try clear c45);(try clear c45r);((try simp only [qW]at *);(try simp only [zQ,zA,zB,zC,zD,zE,zF,zG,zH,zI,zJ,zK,zL,zM,zN,zO,zP,zR,zS,allB_t,allB_f,inB_t,inB_f,ofB_t,ofB_f,shB_t,shB_f,spB_t,spB_f]at *);first|(refine qO ?_;omega)|(simp only [Hold];omega)))
    |((try clear c15);(try clear c42);(try clear c44);(try clear c17);(try clear c31);(try clear c31r);(try clear c30);(try clear c30r);(try clear c45);(try clear c45r);(subst hR;(repeat' (first|exact qA|exact qB|refine qC ?_ rfl ?_|refine qD ?_ ?_|exact qE (by rfl)|exact qG (by rfl)|exact Fit.refl _|exact qH _|(refine qE ?_;(try simp only [qW]at *);simp only [zQ,zA,zB,zC,zD,zE,zF,zG,zH,zI,zJ,zK,zL,zM,zN,zO,zP,zR,zS]at *;omega)));done))
    |((try clear c15);(try clear c42);(try clear c44);(try clear c17);(try clear c31);(try clear c31r);(try clear c30);(try clear c30r);(try clear c45);(try clear c45r);(exfalso;(try simp only [qW]at *);(try simp only [zQ,zA,zB,zC,zD,zE,zF,zG,zH,zI,zJ,zK,zL,zM,zN,zO,zP,zR,zS]at *);(try simp only [allB_t,allB_f,inB_t,inB_f,ofB_t,ofB_f,shB_t,shB_f,spB_t,spB_f]at *);omega))
    |((try clear c15);(try clear c42);(try clear c44);(try clear c17);(try clear c31);(try clear c31r);(try clear c30);(try clear c30r);(try clear c45);(try clear c45r);(exact Bool.noConfusion (hd1.symm.trans (by assumption))))
    |((try clear c15);(try clear c42);(try clear c44);(try clear c17);(try clear c31);(try clear c31r);(try clear c30);(try clear c30r);(try clear c45);(try clear c45r);(exact Bool.noConfusion (hd2.symm.trans (by assumption))))
    |skip
set_option maxHeartbeats 1000000 in
theorem law7yB (c:Clr)(l:List LookT)(x:LookT)(hz:l.length*32≤140737488351232)(hT:ThinC c 0)(hC:COk c)(h5:l.length≤5)(hL:lookF c (l++[x])=0)(hE:askE c l=0)(hF:askE c (l++[x])=11):FSpec Try.prog 7 [(clrS c),(lksS l),(.agg [(.int .i64 (.sym fun _=>x.v)),(.int .i64 (.sym fun _=>x.h)),(.int .i64 (.sym fun _=>x.t)),(.int .i64 (.sym fun _=>x.s))])] [] (fun r _=>r=(.bool (.lit true))):=by
  have hl0:=looked_0 hC (look_less hL)
  have hr0:=looked_0 hC hL
  have hm:=more_leave hC hl0 hr0
  have hs0:=leave_nil hl0
  have hu0:=leave_nil hr0
  rw [hE]at hs0
  rw [hF]at hu0
  have hsl:=leave_len hl0
  have hd1:(true==decide (zi (leaveL c l).length=0))=true:=by simp only [zi_den];by_cases q:(leaveL c l).length=0<;>simp [q]at hs0⊢
  have hd2:(false==decide (zi (leaveL c (l++[x])).length=0))=true:=by simp only [zi_den];by_cases q:(leaveL c (l++[x])).length=0<;>simp [q]at hu0⊢
  have hv3:=hC.few.v
  have h8:=hC.ok.h8
  have h1:=hC.ok.h1
  have c15:=awake15
  have c42:=lit_t (ready42 c) (ready_t.2 ⟨hT,hC⟩)
  have c44:=lit_i (lookfault44 c (l++[x]) hC.fewT) hL
  have c17:=cellar17 c (by have:=hT.v;omega) (by have:=hT.t;omega) (fun i hi=>by have:=hT.p i hi;omega)
  have c31:=looks31 l (by omega)
  have c31r:=looks31 (l++[x]) (by simp only [List.length_append,List.length_cons,List.length_nil];omega)
  have c30:=bounds_y hE
  have c30r:=bounds_n hF
  have c45:=leave_y hl0
  have c45r:=leave_y hr0
  refine FSpec.is fun R hR=>qX (sc:=sc7b) tyok mix Try.func7 rfl Try.call7 (by kernel_rfl) (by kernel_rfl) ?_
  generalize Try.prog=P at c15 c42 c44 c17 c31 c31r c30 c30r c45 c45r⊢
  cbv
  repeat' (first
      |with_reducible refine hold ?_ ?_
      |with_reducible refine And.intro ?_ ?_
      |(with_reducible intro hcd;(try simp only [zA,zB,zC,zD,zE,zF,zG,zH,zI,zJ,zK,zL,zM,zN,zO,zP]at hcd);try cbv)
      | (refine qQ ?_ (c42) ?hfit
         case hfit=>((repeat' (first|exact qB|refine qD ?_ ?_|exact qE (by rfl)|exact qG (by rfl)|exact Fit.refl _|exact qA|refine qC ?_ rfl ?_));done)
         try cbv)
      | (refine qQ ?_ (c15) ?hfit
         case hfit=>((repeat' (first|exact qB|refine qD ?_ ?_|exact qE (by rfl)|exact qG (by rfl)|exact Fit.refl _|exact qA|refine qC ?_ rfl ?_));done)
         try cbv)
      | (refine qQ ?_ (c17) ?hfit
         case hfit=>((repeat' (first|exact qB|refine qD ?_ ?_|exact qE (by rfl)|exact qG (by rfl)|exact Fit.refl _|exact qA|refine qC ?_ rfl ?_));done)
         try cbv)
      | (refine qQ ?_ (c31) ?hfit
         case hfit=>((repeat' (first|exact qB|refine qD ?_ ?_|exact qE (by rfl)|exact qG (by rfl)|exact Fit.refl _|exact qA|refine qC ?_ rfl ?_));done)
         try cbv)
      | (refine qQ ?_ (c30) ?hfit
         case hfit=>((repeat' (first|exact qB|refine qD ?_ ?_|exact qE (by rfl)|exact qG (by rfl)|exact Fit.refl _|exact qA|refine qC ?_ rfl ?_));done)
         try cbv)
      | (refine qQ ?_ (c30r) ?hfit
         case hfit=>((repeat' (first|exact qB|refine qD ?_ ?_|exact qE (by rfl)|exact qG (by rfl)|exact Fit.refl _|exact qA|refine qC ?_ rfl ?_));done)
         try cbv)
      | (refine qQ ?_ (c45) ?hfit
         case hfit=>((repeat' (first|exact qB|refine qD ?_ ?_|exact qE (by rfl)|exact qG (by rfl)|exact Fit.refl _|exact qA|refine qC ?_ rfl ?_));done)
         try cbv)
      | (refine qQ ?_ (c45r) ?hfit
         case hfit=>((repeat' (first|exact qB|refine qD ?_ ?_|exact qE (by rfl)|exact qG (by rfl)|exact Fit.refl _|exact qA|refine qC ?_ rfl ?_));done)
         try cbv)
      | (refine⟨fun ix=>[(.int .i64 (.sym fun _=>(((l++[x])).getD ix.den.toNat k0).v)),(.int .i64 (.sym fun _=>(((l++[x])).getD ix.den.toNat k0).h)),(.int .i64 (.sym fun _=>(((l++[x])).getD ix.den.toNat k0).t)),(.int .i64 (.sym fun _=>(((l++[x])).getD ix.den.toNat k0).s))],?_⟩
         cbv
         refine hold (hold_rowapp (by intro ix jx h0 h1 h2;(have e:=more_at l x (i:=ix.den.toNat) (by(try simp only [qW]at *);(try simp only [zQ,zA,zB,zC,zD,zE,zF,zG,zH,zI,zJ,zK,zL,zM,zN,zO,zP,zR,zS]at *);omega));(have e3:jx.den.toNat=ix.den.toNat:=by rw [h2]);simp only [e3,e];exact Fit.refl _) (by intro ix jx h0 h1 h2;(have e:=more_new l x (i:=jx.den.toNat) (by(try simp only [qW]at *);(try simp only [zQ,zA,zB,zC,zD,zE,zF,zG,zH,zI,zJ,zK,zL,zM,zN,zO,zP,zR,zS]at *);omega));simp only [e];exact(qC (qE rfl) rfl (qC (qE rfl) rfl (qC (qE rfl) rfl (qC (qE rfl) rfl qA))))) (by(try simp only [qW]at *);(try simp only [zQ,zA,zB,zC,zD,zE,zF,zG,zH,zI,zJ,zK,zL,zM,zN,zO,zP,zR,zS]at *);omega)) (Or.inl ?_)
         try cbv)
      | (refine⟨none,?_⟩
         refine qS ?_ (c44) rfl (by cbv;(refine qD (Fit.refl _) (qD (fit_sl (by(try simp only [qW]at *);(try simp only [zQ,zA,zB,zC,zD,zE,zF,zG,zH,zI,zJ,zK,zL,zM,zN,zO,zP,zR,zS]at *);(try simp only [List.length_append,List.length_cons,List.length_nil]);omega) (fun _ _ _=>Fit.refl _)) qB)))
         try cbv)
      | (refine⟨some [],(5:Nat),?_⟩
         cbv
         refine setl_k ?_ (c31r) (by cbv;(refine qD (fit_sl (by(try simp only [qW]at *);(try simp only [zQ,zA,zB,zC,zD,zE,zF,zG,zH,zI,zJ,zK,zL,zM,zN,zO,zP,zR,zS]at *);(try simp only [List.length_append,List.length_cons,List.length_nil]);omega) (fun _ _ _=>Fit.refl _)) qB))
         try cbv
         fail_if_success (show False))
      | (refine qQ ?_ (c31r) ?hfit
         case hfit=>((refine qD (fit_sl (by(try simp only [qW]at *);(try simp only [zQ,zA,zB,zC,zD,zE,zF,zG,zH,zI,zJ,zK,zL,zM,zN,zO,zP,zR,zS]at *);(try simp only [List.length_append,List.length_cons,List.length_nil]);omega) (fun _ _ _=>Fit.refl _)) qB);done)
         try cbv)
      |fail)
  all_goals first
    |((try clear c15);(try clear c42);(try clear c44);(try clear c17);(try clear c31);(try clear c31r);(try clear c30);(try clear c30r);(try clear c45);(try clear c45r);((try simp only [qW]at *);(try simp only [zQ,zA,zB,zC,zD,zE,zF,zG,zH,zI,zJ,zK,zL,zM,zN,zO,zP,zR,zS,allB_t,allB_f,inB_t,inB_f,ofB_t,ofB_f,shB_t,shB_f,spB_t,spB_f]at *);first|(refine qO ?_;omega)|(simp only [Hold];omega)))
    |((try clear c15);(try clear c42);(try clear c44);(try clear c17);(try clear c31);(try clear c31r);(try clear c30);(try clear c30r);(try clear c45);(try clear c45r);(subst hR;(repeat' (first|exact qA|exact qB|refine qC ?_ rfl ?_|refine qD ?_ ?_|exact qE (by rfl)|exact qG (by rfl)|exact Fit.refl _|exact qH _|(refine qE ?_;(try simp only [qW]at *);simp only [zQ,zA,zB,zC,zD,zE,zF,zG,zH,zI,zJ,zK,zL,zM,zN,zO,zP,zR,zS]at *;omega)));done))
    |((try clear c15);(try clear c42);(try clear c44);(try clear c17);(try clear c31);(try clear c31r);(try clear c30);(try clear c30r);(try clear c45);(try clear c45r);(exfalso;(try simp only [qW]at *);(try simp only [zQ,zA,zB,zC,zD,zE,zF,zG,zH,zI,zJ,zK,zL,zM,zN,zO,zP,zR,zS]at *);(try simp only [allB_t,allB_f,inB_t,inB_f,ofB_t,ofB_f,shB_t,shB_f,spB_t,spB_f]at *);omega))
    |((try clear c15);(try clear c42);(try clear c44);(try clear c17);(try clear c31);(try clear c31r);(try clear c30);(try clear c30r);(try clear c45);(try clear c45r);(exact Bool.noConfusion (hd1.symm.trans (by assumption))))
    |((try clear c15);(try clear c42);(try clear c44);(try clear c17);(try clear c31);(try clear c31r);(try clear c30);(try clear c30r);(try clear c45);(try clear c45r);(exact Bool.noConfusion (hd2.symm.trans (by assumption))))
    |skip
set_option maxHeartbeats 1000000 in
theorem law7yC (c:Clr)(l:List LookT)(x:LookT)(hz:l.length*32≤140737488351232)(hT:ThinC c 0)(hC:COk c)(h5:l.length≤5)(hL:lookF c (l++[x])=0)(hE:askE c l=11)(hF:askE c (l++[x])=11):FSpec Try.prog 7 [(clrS c),(lksS l),(.agg [(.int .i64 (.sym fun _=>x.v)),(.int .i64 (.sym fun _=>x.h)),(.int .i64 (.sym fun _=>x.t)),(.int .i64 (.sym fun _=>x.s))])] [] (fun r _=>r=(.bool (.lit true))):=by
  have hl0:=looked_0 hC (look_less hL)
  have hr0:=looked_0 hC hL
  have hm:=more_leave hC hl0 hr0
  have hs0:=leave_nil hl0
  have hu0:=leave_nil hr0
  rw [hE]at hs0
  rw [hF]at hu0
  have hsl:=leave_len hl0
  have hd1:(false==decide (zi (leaveL c l).length=0))=true:=by simp only [zi_den];by_cases q:(leaveL c l).length=0<;>simp [q]at hs0⊢
  have hd2:(false==decide (zi (leaveL c (l++[x])).length=0))=true:=by simp only [zi_den];by_cases q:(leaveL c (l++[x])).length=0<;>simp [q]at hu0⊢
  have hv3:=hC.few.v
  have h8:=hC.ok.h8
  have h1:=hC.ok.h1
  have c15:=awake15
  have c42:=lit_t (ready42 c) (ready_t.2 ⟨hT,hC⟩)
  have c44:=lit_i (lookfault44 c (l++[x]) hC.fewT) hL
  have c17:=cellar17 c (by have:=hT.v;omega) (by have:=hT.t;omega) (fun i hi=>by have:=hT.p i hi;omega)
  have c31:=looks31 l (by omega)
  have c31r:=looks31 (l++[x]) (by simp only [List.length_append,List.length_cons,List.length_nil];omega)
  have c30:=bounds_n hE
  have c30r:=bounds_n hF
  have c45:=leave_y hl0
  have c45r:=leave_y hr0
  refine FSpec.is fun R hR=>qX (sc:=sc7b) tyok mix Try.func7 rfl Try.call7 (by kernel_rfl) (by kernel_rfl) ?_
  generalize Try.prog=P at c15 c42 c44 c17 c31 c31r c30 c30r c45 c45r⊢
  cbv
  repeat' (first
      |with_reducible refine hold ?_ ?_
      |with_reducible refine And.intro ?_ ?_
      |(with_reducible intro hcd;(try simp only [zA,zB,zC,zD,zE,zF,zG,zH,zI,zJ,zK,zL,zM,zN,zO,zP]at hcd);try cbv)
      | (refine qQ ?_ (c42) ?hfit
         case hfit=>((repeat' (first|exact qB|refine qD ?_ ?_|exact qE (by rfl)|exact qG (by rfl)|exact Fit.refl _|exact qA|refine qC ?_ rfl ?_));done)
         try cbv)
      | (refine qQ ?_ (c15) ?hfit
         case hfit=>((repeat' (first|exact qB|refine qD ?_ ?_|exact qE (by rfl)|exact qG (by rfl)|exact Fit.refl _|exact qA|refine qC ?_ rfl ?_));done)
         try cbv)
      | (refine qQ ?_ (c17) ?hfit
         case hfit=>((repeat' (first|exact qB|refine qD ?_ ?_|exact qE (by rfl)|exact qG (by rfl)|exact Fit.refl _|exact qA|refine qC ?_ rfl ?_));done)
         try cbv)
      | (refine qQ ?_ (c31) ?hfit
         case hfit=>((repeat' (first|exact qB|refine qD ?_ ?_|exact qE (by rfl)|exact qG (by rfl)|exact Fit.refl _|exact qA|refine qC ?_ rfl ?_));done)
         try cbv)
      | (refine qQ ?_ (c30) ?hfit
         case hfit=>((repeat' (first|exact qB|refine qD ?_ ?_|exact qE (by rfl)|exact qG (by rfl)|exact Fit.refl _|exact qA|refine qC ?_ rfl ?_));done)
         try cbv)
      | (refine qQ ?_ (c30r) ?hfit
         case hfit=>((repeat' (first|exact qB|refine qD ?_ ?_|exact qE (by rfl)|exact qG (by rfl)|exact Fit.refl _|exact qA|refine qC ?_ rfl ?_));done)
         try cbv)
      | (refine qQ ?_ (c45) ?hfit
         case hfit=>((repeat' (first|exact qB|refine qD ?_ ?_|exact qE (by rfl)|exact qG (by rfl)|exact Fit.refl _|exact qA|refine qC ?_ rfl ?_));done)
         try cbv)
      | (refine qQ ?_ (c45r) ?hfit
         case hfit=>((repeat' (first|exact qB|refine qD ?_ ?_|exact qE (by rfl)|exact qG (by rfl)|exact Fit.refl _|exact qA|refine qC ?_ rfl ?_));done)
         try cbv)
      | (refine⟨fun ix=>[(.int .i64 (.sym fun _=>(((l++[x])).getD ix.den.toNat k0).v)),(.int .i64 (.sym fun _=>(((l++[x])).getD ix.den.toNat k0).h)),(.int .i64 (.sym fun _=>(((l++[x])).getD ix.den.toNat k0).t)),(.int .i64 (.sym fun _=>(((l++[x])).getD ix.den.toNat k0).s))],?_⟩
         cbv
         refine hold (hold_rowapp (by intro ix jx h0 h1 h2;(have e:=more_at l x (i:=ix.den.toNat) (by(try simp only [qW]at *);(try simp only [zQ,zA,zB,zC,zD,zE,zF,zG,zH,zI,zJ,zK,zL,zM,zN,zO,zP,zR,zS]at *);omega));(have e3:jx.den.toNat=ix.den.toNat:=by rw [h2]);simp only [e3,e];exact Fit.refl _) (by intro ix jx h0 h1 h2;(have e:=more_new l x (i:=jx.den.toNat) (by(try simp only [qW]at *);(try simp only [zQ,zA,zB,zC,zD,zE,zF,zG,zH,zI,zJ,zK,zL,zM,zN,zO,zP,zR,zS]at *);omega));simp only [e];exact(qC (qE rfl) rfl (qC (qE rfl) rfl (qC (qE rfl) rfl (qC (qE rfl) rfl qA))))) (by(try simp only [qW]at *);(try simp only [zQ,zA,zB,zC,zD,zE,zF,zG,zH,zI,zJ,zK,zL,zM,zN,zO,zP,zR,zS]at *);omega)) (Or.inl ?_)
         try cbv)
      | (refine⟨none,?_⟩
         refine qS ?_ (c44) rfl (by cbv;(refine qD (Fit.refl _) (qD (fit_sl (by(try simp only [qW]at *);(try simp only [zQ,zA,zB,zC,zD,zE,zF,zG,zH,zI,zJ,zK,zL,zM,zN,zO,zP,zR,zS]at *);(try simp only [List.length_append,List.length_cons,List.length_nil]);omega) (fun _ _ _=>Fit.refl _)) qB)))
         try cbv)
      | (refine⟨some [],(5:Nat),?_⟩
         cbv
         refine setl_k ?_ (c31r) (by cbv;(refine qD (fit_sl (by(try simp only [qW]at *);(try simp only [zQ,zA,zB,zC,zD,zE,zF,zG,zH,zI,zJ,zK,zL,zM,zN,zO,zP,zR,zS]at *);(try simp only [List.length_append,List.length_cons,List.length_nil]);omega) (fun _ _ _=>Fit.refl _)) qB))
         try cbv
         fail_if_success (show False))
      | (refine qQ ?_ (c31r) ?hfit
         case hfit=>((refine qD (fit_sl (by(try simp only [qW]at *);(try simp only [zQ,zA,zB,zC,zD,zE,zF,zG,zH,zI,zJ,zK,zL,zM,zN,zO,zP,zR,zS]at *);(try simp only [List.length_append,List.length_cons,List.length_nil]);omega) (fun _ _ _=>Fit.refl _)) qB);done)
         try cbv)
      |fail)
  all_goals first
    |((try clear c15);(try clear c42);(try clear c44);(try clear c17);(try clear c31);(try clear c31r);(try clear c30);(try clear c30r);(try clear c45);(try clear c45r);((try simp only [qW]at *);(try simp only [zQ,zA,zB,zC,zD,zE,zF,zG,zH,zI,zJ,zK,zL,zM,zN,zO,zP,zR,zS,allB_t,allB_f,inB_t,inB_f,ofB_t,ofB_f,shB_t,shB_f,spB_t,spB_f]at *);first|(refine qO ?_;omega)|(simp only [Hold];omega)))
    |((try clear c15);(try clear c42);(try clear c44);(try clear c17);(try clear c31);(try clear c31r);(try clear c30);(try clear c30r);(try clear c45);(try clear c45r);(subst hR;(repeat' (first|exact qA|exact qB|refine qC ?_ rfl ?_|refine qD ?_ ?_|exact qE (by rfl)|exact qG (by rfl)|exact Fit.refl _|exact qH _|(refine qE ?_;(try simp only [qW]at *);simp only [zQ,zA,zB,zC,zD,zE,zF,zG,zH,zI,zJ,zK,zL,zM,zN,zO,zP,zR,zS]at *;omega)));done))
    |((try clear c15);(try clear c42);(try clear c44);(try clear c17);(try clear c31);(try clear c31r);(try clear c30);(try clear c30r);(try clear c45);(try clear c45r);(exfalso;(try simp only [qW]at *);(try simp only [zQ,zA,zB,zC,zD,zE,zF,zG,zH,zI,zJ,zK,zL,zM,zN,zO,zP,zR,zS]at *);(try simp only [allB_t,allB_f,inB_t,inB_f,ofB_t,ofB_f,shB_t,shB_f,spB_t,spB_f]at *);omega))
    |((try clear c15);(try clear c42);(try clear c44);(try clear c17);(try clear c31);(try clear c31r);(try clear c30);(try clear c30r);(try clear c45);(try clear c45r);(exact Bool.noConfusion (hd1.symm.trans (by assumption))))
    |((try clear c15);(try clear c42);(try clear c44);(try clear c17);(try clear c31);(try clear c31r);(try clear c30);(try clear c30r);(try clear c45);(try clear c45r);(exact Bool.noConfusion (hd2.symm.trans (by assumption))))
    |skip
theorem more_ask {c:Clr} {l:List LookT} {x:LookT}(hC:COk c)(hl:lookedF c l=0)(hr:lookedF c (l++[x])=0)(h:askE c (l++[x])=0):askE c l=0:=
  (ask_ok hl).2 (ok_mono hC hC (more_mono (fun _ _ h=>h)) ((ask_ok hr).1 h))
theorem law7 (c:Clr)(l:List LookT)(x:LookT)(hz:l.length*32≤140737488351232):FSpec Try.prog 7 [(clrS c),(lksS l),(.agg [(.int .i64 (.sym fun _=>x.v)),(.int .i64 (.sym fun _=>x.h)),(.int .i64 (.sym fun _=>x.t)),(.int .i64 (.sym fun _=>x.s))])] [] (fun r _=>r = .bool (.lit true)):=by
  by_cases h:readyB c=true∧l.length≤5∧lookF c (l++[x])=0
  · obtain⟨h1,h5,hL⟩:=h
    obtain⟨hT,hC⟩:=ready_t.1 h1
    by_cases hF:askE c (l++[x])=0
    · exact law7yA c l x hz hT hC h5 hL (more_ask hC (looked_0 hC (look_less hL)) (looked_0 hC hL) hF) hF
    · by_cases hE:askE c l=0
      · exact law7yB c l x hz hT hC h5 hL hE (ask_11 hC hL hF)
      · exact law7yC c l x hz hT hC h5 hL (ask_11 hC (look_less hL) hE) (ask_11 hC hL hF)
  · exact law7t c l x hz h
end Go.Proofs.Yteelocfbbhchcaa
