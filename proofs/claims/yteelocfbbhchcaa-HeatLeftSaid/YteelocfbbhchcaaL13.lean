/- HeatLeft: what the law computes. No condition. -/
import Derived.Test.YteelocfbbhchcaaT6
set_option linter.unusedVariables false
set_option linter.unusedSimpArgs false
set_option linter.deprecated false
set_option linter.all false

namespace Go.Proofs.Yteelocfbbhchcaa
open Go Go.Eng Go.Proofs
set_option maxRecDepth 10000
def readyB (c:Clr):Bool:=thinB c 0&&decide (faultC c=0)
theorem ready_t {c:Clr}:readyB c=true↔ThinC c 0∧COk c:=by
  unfold readyB
  rw [Bool.and_eq_true,decide_eq_true_eq,thin_iff,faultC_iff]
theorem ready_ok {c:Clr}(h:readyB c=true):COk c:=(ready_t.1 h).2
end Go.Proofs.Yteelocfbbhchcaa

namespace Go.Proofs.Yteelocfbbhchcaa
open Go Go.Eng Go.Proofs
set_option maxRecDepth 10000
theorem vatA_ok {c:Clr}(hc:COk c) {v:Int}(h0:0≤v)(h1:v<c.vs.length):vatOk (vatA c v):=hc.ok.v v.toNat (by omega)
theorem vatA_nat (c:Clr)(v:Nat):vatA c (v:Int)=c.vs.getD v v0:=by unfold vatA;rw [Int.toNat_natCast]
theorem ways_fit {c:Clr} {l:List LookT} {o:List Int} {rm v:Int}(hv:vatOk (vatA c v)) {w:Int×Int}(h:w∈waysC c l v rm o):FitV c l o rm v w.1 w.2:=by
  have hv':=hv
  unfold vatOk at hv
  have:=mem_ways (by omega) h
  exact⟨this.2.1,this.2.2.1,this.2.2.2.1,by omega,this.1⟩
theorem fit_ways {c:Clr} {l:List LookT} {o:List Int} {rm v st rt:Int}(h:FitV c l o rm v st rt):0<(waysC c l v rm o).length:=some_fit h.fit h.s0 h.s1 h.r0 h.r1
theorem room_iff {c:Clr}(hc:COk c) {l:List LookT} {o:List Int} {rm:Int}:roomB c l o rm=true↔∀v:Nat,v<c.vs.length→∃st rt,FitV c l o rm v st rt:=by
  unfold roomB
  rw [allB_t]
  constructor
  · intro h v hv
    obtain⟨w,hw⟩:=some_mem (show 0<(waysC c l (v:Int) rm o).length from of_decide_eq_true (h v hv))
    exact⟨w.1,w.2,ways_fit (vatA_ok hc (by omega) (by omega)) hw⟩
  · intro h v hv
    obtain⟨st,rt,hf⟩:=h v hv
    exact decide_eq_true (fit_ways hf)
end Go.Proofs.Yteelocfbbhchcaa

namespace Go.Proofs.Yteelocfbbhchcaa
open Go Go.Eng Go.Proofs
set_option maxRecDepth 10000
theorem ready42 (c:Clr):FSpec Try.prog 42 [(clrS c)] [] (fun r _=>r=(.bool (.sym fun _=>readyB c))):=by
  have c14:=thin14 c []
  have c47:=fault47 c
  refine FSpec.is fun R hR=>qX (sc:=sc42) tyok mix Try.func42 rfl Try.call42 (by kernel_rfl) (by kernel_rfl) ?_
  generalize Try.prog=P at c14 c47⊢
  cbv
  repeat' (first
      |with_reducible refine And.intro ?_ ?_
      |(with_reducible intro hcd;(try simp only [zA,zB,zC,zD,zE,zF,zG,zH,zI,zJ,zK,zL,zM,zN,zO,zP]at hcd);try cbv)
      | (refine qQ ?_ (c14) ?hfit
         case hfit=>((refine qD (Fit.refl _) (qD (qP rfl) qB));done)
         try cbv)
      | (refine qQ ?_ (c47) ?hfit
         case hfit=>((repeat' (first|exact qB|refine qD ?_ ?_|exact qE (by rfl)|exact qG (by rfl)|exact Fit.refl _|exact qA|refine qC ?_ rfl ?_));done)
         try cbv)
      |fail)
  all_goals first
    |(subst hR;(refine qG ?_;(try simp only [qW]at *);(try simp only [zQ,zA,zB,zC,zD,zE,zF,zG,zH,zI,zJ,zK,zL,zM,zN,zO,zP,zR,zS]at *);unfold readyB;(try simp only [List.length_nil]at *);simp_all;done);done)
    |skip
end Go.Proofs.Yteelocfbbhchcaa

namespace Go.Proofs.Yteelocfbbhchcaa
open Go Go.Eng Go.Proofs
set_option maxRecDepth 10000
theorem looked_z {c:Clr} {l:List LookT}(hC:COk c)(h:lookF c l=0):lookedF c l=0:=by unfold lookedF;rw [if_pos (faultC_iff.2 hC)];exact h
theorem ask_11 {c:Clr} {l:List LookT}(hC:COk c)(h:lookF c l=0)(h':¬askE c l=0):askE c l=11:=by
  unfold askE at *
  rw [if_pos (looked_z hC h)]at *
  split at h'<;>rename_i q
  · rw [if_pos q]
  · exact absurd rfl h'
end Go.Proofs.Yteelocfbbhchcaa

namespace Go.Proofs.Yteelocfbbhchcaa
open Go Go.Eng Go.Proofs
set_option maxRecDepth 10000
theorem rem_as {a b q:Int} {K:Int→Prop}(h:K q)(hb:Hold (b≠0))(hq:a.tmod b=q):∃q,(∀_:Unit,remOb a b q)∧K q:=by
  subst hq
  exact qU h hb
end Go.Proofs.Yteelocfbbhchcaa

namespace Go.Proofs.Yteelocfbbhchcaa
open Go Go.Eng Go.Proofs
set_option maxRecDepth 10000
theorem firstOf_none {f:Nat→Option (List Int)}:∀{k i:Nat},firstOf f k i=none→∀j,i≤j→j<i+k→f j=none:=by
  intro k
  induction k with
  |zero=>intro i _ j h1 h2;omega
  | succ k ih=>
    intro i h j h1 h2
    simp only [firstOf]at h
    split at h
    · cases h
    · rename_i hf
      by_cases e:j=i
      · rw [e];exact hf
      · exact ih h j (by omega) (by omega)
theorem firstOf_at {f:Nat→Option (List Int)} {r:List Int}:∀{k i:Nat},firstOf f k i=some r→∃j,i≤j∧j<i+k∧f j=some r∧∀j',i≤j'→j'<j→f j'=none:=by
  intro k
  induction k with
  |zero=>intro i h;cases h
  | succ k ih=>
    intro i h
    simp only [firstOf]at h
    split at h
    · rename_i r' hf
      cases h
      exact⟨i,Nat.le_refl _,by omega,hf,fun j' h1 h2=>by omega⟩
    · rename_i hf
      obtain⟨j,h1,h2,h3,h4⟩:=ih h
      refine⟨j,by omega,by omega,h3,fun j' a b=> ?_⟩
      by_cases e:j'=i
      · rw [e];exact hf
      · exact h4 j' (by omega) b
def Asc (n:Nat):Nat→List Int→Prop
  |_,[]=>True
  |i,x::t=>∃j:Nat,x=(j:Int)∧i≤j∧j<n∧Asc n (j+1) t
def LexLt :List Int→List Int→Prop
  |x::s,y::t=>x<y∨(x=y∧LexLt s t)
  |_,_=>False
theorem asc_room {n:Nat}:∀{s:List Int} {i:Nat},Asc n i s→s=[]∨i+s.length≤n:=by
  intro s
  induction s with
  |nil=>intro i _;exact .inl rfl
  | cons x t ih=>
    rintro i ⟨j,_,h1,h2,h3⟩
    right
    rcases ih h3 with e|e
    · subst e;simp only [List.length_cons,List.length_nil];omega
    · simp only [List.length_cons];omega
theorem choose_none {n:Nat} {ok:List Int→Bool}:∀{m:Nat} {l:List Int} {i:Nat},chooseL n ok m l i=none→∀s,Asc n i s→s.length=m→ok (l++s)=false:=by
  intro m
  induction m with
  | zero=>
    intro l i h s hs hl
    rw [List.length_eq_zero_iff.1 hl,List.append_nil]
    simp only [chooseL]at h
    split at h
    · cases h
    · rename_i q;simpa using q
  | succ m ih=>
    intro l i h s hs hl
    cases s with
    |nil=>cases hl
    | cons x t=>
      obtain⟨j,rfl,h1,h2,h3⟩:=hs
      simp only [List.length_cons]at hl
      simp only [chooseL]at h
      have hj:j<i+(n-m-i):=by
        rcases asc_room h3 with e|e
        · rw [e]at hl;simp at hl;omega
        · omega
      have:=ih (firstOf_none h j h1 hj) t h3 (by omega)
      simpa using this
theorem choose_some {n:Nat} {ok:List Int→Bool} {F:List Int}:∀{m:Nat} {l:List Int} {i:Nat},chooseL n ok m l i=some F→∃s,Asc n i s∧s.length=m∧F=l++s∧ok F=true∧∀s',Asc n i s'→s'.length=m→ok (l++s')=true→s=s'∨LexLt s s':=by
  intro m
  induction m with
  | zero=>
    intro l i h
    simp only [chooseL]at h
    split at h
    · rename_i q
      cases h
      refine⟨[],trivial,rfl,(List.append_nil _).symm,q,fun s' _ hl _=>.inl (List.length_eq_zero_iff.1 hl).symm⟩
    · cases h
  | succ m ih=>
    intro l i h
    simp only [chooseL]at h
    obtain⟨j,h1,h2,h3,h4⟩:=firstOf_at h
    obtain⟨s,a1,a2,a3,a4,a5⟩:=ih h3
    refine⟨(j:Int)::s,⟨j,rfl,h1,by omega,a1⟩,by simp [a2],by rw [a3];simp,a4,fun s' hs hl hok=> ?_⟩
    cases s' with
    |nil=>cases hl
    | cons x t=>
      obtain⟨j',rfl,b1,b2,b3⟩:=hs
      simp only [List.length_cons]at hl
      rcases Nat.lt_trichotomy j j' with e|e|e
      · exact .inr (.inl (by omega))
      · subst e
        rcases a5 t b3 (by omega) (by simpa using hok)with q|q
        · exact .inl (by rw [q])
        · exact .inr (.inr ⟨rfl,q⟩)
      · have:=choose_none (h4 j' b1 e) t b3 (by omega)
        rw [show l++[(j':Int)]++t=l++(j':Int)::t by simp,hok]at this
        cases this
theorem leave_spec {c:Clr} {l:List LookT}(h:lookedF c l=0):Asc l.length 0 (leaveL c l)∧okL c l (leaveL c l)=true ∧
    ∀s,Asc l.length 0 s→okL c l s=true→(leaveL c l).length≤s.length∧(s.length=(leaveL c l).length→leaveL c l=s∨LexLt (leaveL c l) s):=by
  have hO:=leave_yes h
  unfold leaveO at hO
  obtain⟨m,_,h2,h3,h4⟩:=firstOf_at hO
  obtain⟨s,a1,a2,a3,a4,a5⟩:=choose_some h3
  have e:leaveL c l=s:=by rw [a3];simp
  refine⟨e▸a1,a4,fun s' hs hok=> ?_⟩
  rw [e]
  have hmin:s.length≤s'.length:=by
    refine Nat.le_of_not_lt fun hlt=> ?_
    have:=choose_none (h4 s'.length (by omega) (by omega)) s' hs rfl
    rw [List.nil_append,hok]at this
    cases this
  exact⟨hmin,fun he=>a5 s' hs (by omega) (by simpa using hok)⟩
theorem right_iff {c:Clr} {l:List LookT} {v:Int} {x:Nat→Int} {o:List Int}:rightB c l v x o=true↔∀i,i<l.length→(l.getD i k0).v=v→inL o i=false→seeB c (l.getD i k0) (x (l.getD i k0).h.toNat)=true:=by
  unfold rightB
  rw [allB_t]
  constructor
  · intro h i hi h1 h2
    have:=h i hi
    unfold rightP at this
    rw [h1,h2,decide_eq_true rfl]at this
    simpa using this
  · intro h i hi
    unfold rightP
    by_cases h1:(l.getD i k0).v=v
    · cases h2:inL o i with
      |true=>simp
      |false=>rw [h i hi h1 h2];simp
    · rw [decide_eq_false h1];rfl
theorem ok_iff {c:Clr}(hc:COk c) {l:List LookT} {o:List Int}:okL c l o=true↔∃rm,c.rl≤rm∧rm≤c.rh∧∀v:Nat,v<c.vs.length→∃st rt,FitV c l o rm v st rt:=by
  unfold okL
  rw [decide_eq_true_eq]
  constructor
  · intro h
    obtain⟨rm,hm⟩:=some_mem h
    have:=(mem_rooms hc.ok.r1).1 hm
    exact⟨rm,this.1,this.2.1,(room_iff hc).1 this.2.2⟩
  · rintro⟨rm,h1,h2,h3⟩
    exact List.length_pos_of_mem ((mem_rooms hc.ok.r1).2 ⟨h1,h2,(room_iff hc).2 h3⟩)
theorem ask_ok {c:Clr} {l:List LookT}(h:lookedF c l=0):askE c l=0↔okL c l []=true:=by
  unfold askE okL
  rw [if_pos h,decide_eq_true_eq]
  split
  · rename_i q;exact⟨fun e=>(by cases e),fun e=>absurd q (by omega)⟩
  · rename_i q;exact⟨fun _=>by omega,fun _=>rfl⟩
theorem more_at (l:List LookT)(x:LookT) {i:Nat}(h:i<l.length):(l++[x]).getD i k0=l.getD i k0:=by
  simp only [List.getD_eq_getElem?_getD]
  rw [List.getElem?_append_left h]
theorem inL_no {o:List Int} {v:Int}:inL o v=false↔v∉o:=by rw [←inL_mem,Bool.not_eq_true]
theorem asc_mono {n m:Nat}(hnm:n≤m):∀{s:List Int} {i:Nat},Asc n i s→Asc m i s:=by
  intro s
  induction s with
  |nil=>intro i _;trivial
  |cons x t ih=>rintro i ⟨j,a,b,d,e⟩;exact⟨j,a,b,by omega,ih e⟩
theorem asc_snoc {n:Nat}:∀{s:List Int} {i:Nat},i≤n→Asc n i s→Asc (n+1) i (s++[(n:Int)]):=by
  intro s
  induction s with
  |nil=>intro i hi _;exact⟨n,rfl,hi,by omega,trivial⟩
  |cons x t ih=>rintro i hi ⟨j,a,b,d,e⟩;exact⟨j,a,b,by omega,ih (by omega) e⟩
end Go.Proofs.Yteelocfbbhchcaa

namespace Go.Proofs.Yteelocfbbhchcaa
open Go Go.Eng Go.Proofs
set_option maxRecDepth 10000
theorem lit_t {f:FuncId} {args:List SV} {b:Bool}(h:FSpec Try.prog f args [] (fun r _=>r = .bool (.sym fun _=>b)))(hb:b=true):FSpec Try.prog f args [] (fun r _=>r = .bool (.lit true)):=h.post fun r bs q=>⟨_,by subst q;exact qG hb,rfl⟩
theorem lit_f {f:FuncId} {args:List SV} {b:Bool}(h:FSpec Try.prog f args [] (fun r _=>r = .bool (.sym fun _=>b)))(hb:b=false):FSpec Try.prog f args [] (fun r _=>r = .bool (.lit false)):=h.post fun r bs q=>⟨_,by subst q;exact qG hb,rfl⟩
theorem lit_i {f:FuncId} {args:List SV} {n:Int}(h:FSpec Try.prog f args [] (fun r _=>r = .int .i64 (.sym fun _=>n))) {m:Int}(hb:n=m):FSpec Try.prog f args [] (fun r _=>r = .int .i64 (.lit m)):=h.post fun r bs q=>⟨_,by subst q;exact qE hb,rfl⟩
theorem more_new (l:List LookT)(x:LookT) {i:Nat}(h:i=l.length):(l++[x]).getD i k0=x:=by
  subst h
  simp [List.getD_eq_getElem?_getD]
end Go.Proofs.Yteelocfbbhchcaa

namespace Go.Proofs.Yteelocfbbhchcaa
open Go Go.Eng Go.Proofs
set_option maxRecDepth 10000
theorem leave_len {c:Clr} {l:List LookT}(h:lookedF c l=0):(leaveL c l).length≤l.length:=by
  rcases asc_room (leave_spec h).1 with e|e
  · rw [e];simp
  · omega
theorem leave_y {c:Clr} {l:List LookT}(hA:lookedF c l=0):FSpec Try.prog 45 [(clrS c),(lksS l)] [] (fun r _=>r=(.tup [(.sl 1 (.sym fun _=>zi (leaveL c l).length) (fun ix=>[.int .i64 (.sym fun _=>(leaveL c l).getD ix.den.toNat 0)])),(.int .i64 (.lit (0)))])):=
  (leave45 c l).post fun r bs q=>⟨_,by subst q;exact qD (Fit.refl _) (qD (qE hA) qB),rfl⟩
end Go.Proofs.Yteelocfbbhchcaa

namespace Go.Proofs.Yteelocfbbhchcaa
open Go Go.Eng Go.Proofs
set_option maxRecDepth 10000
theorem inL_e (i:Nat):inL [] i=false:=rfl
end Go.Proofs.Yteelocfbbhchcaa

namespace Go.Proofs.Yteelocfbbhchcaa
open Go Go.Eng Go.Proofs
set_option maxRecDepth 10000
theorem fdiv_nat (b p:Nat):(b:Int).fdiv (2^p)=((b/2^p:Nat):Int):=by
  rw [Int.fdiv_eq_ediv_of_nonneg _ (Int.le_of_lt (Int.pow_pos (by decide)))]
  simp
theorem tb_val (b p:Nat):((b:Int).fdiv (2^p)).tmod 2=(((b/2^p)%2:Nat):Int):=by
  rw [fdiv_nat]
  exact(Int.ofNat_tmod _ _).symm
theorem tb_iff (b p:Nat):((b:Int).fdiv (2^p)).tmod 2=1↔b.testBit p=true:=by
  rw [tb_val,Nat.testBit_eq_decide_div_mod_eq,decide_eq_true_eq]
  omega
theorem tb_not (b p:Nat):((b:Int).fdiv (2^p)).tmod 2=0↔b.testBit p=false:=by
  rw [tb_val,Nat.testBit_eq_decide_div_mod_eq,decide_eq_false_iff_not]
  omega
theorem tb_bd (b p:Nat):0≤(b:Int).fdiv (2^p)∧(b:Int).fdiv (2^p)≤b:=by
  rw [fdiv_nat]
  have h:=Nat.div_le_self b (2^p)
  generalize b/2^p=y at h⊢
  omega
def bitsN (b:Nat):Nat→List Int
  |0=>[]
  |p+1=>if b.testBit p=true then bitsN b p++[(p:Int)]else bitsN b p
theorem bitsN_y {b p:Nat}(h:((b:Int).fdiv (2^p)).tmod 2=1):bitsN b (p+1)=bitsN b p++[(p:Int)]:=by simp only [bitsN,(tb_iff b p).1 h,if_true]
theorem bitsN_n {b p:Nat}(h:¬((b:Int).fdiv (2^p)).tmod 2=1):bitsN b (p+1)=bitsN b p:=by
  have:¬b.testBit p=true:=fun q=>h ((tb_iff b p).2 q)
  simp only [bitsN,if_neg this]
theorem bitsN_len (b:Nat):∀n,(bitsN b n).length≤n:=by
  intro n
  induction n with
  |zero=>exact Nat.le_refl _
  | succ n ih=>
    simp only [bitsN]
    split
    · simp;omega
    · omega
theorem bitsN_mem {b n:Nat} {x:Int}:x∈bitsN b n↔∃p:Nat,p<n∧x=(p:Int)∧b.testBit p=true:=by
  induction n with
  |zero=>simp [bitsN]
  | succ n ih=>
    simp only [bitsN]
    split
    · rename_i h
      rw [List.mem_append,ih,List.mem_singleton]
      constructor
      · rintro(⟨p,hp,e,q⟩|e)
        · exact⟨p,by omega,e,q⟩
        · exact⟨n,by omega,e,h⟩
      · rintro⟨p,hp,e,q⟩
        by_cases e1:p=n
        · subst e1;exact .inr e
        · exact .inl ⟨p,by omega,e,q⟩
    · rename_i h
      rw [ih]
      constructor
      · rintro⟨p,hp,e,q⟩;exact⟨p,by omega,e,q⟩
      · rintro⟨p,hp,e,q⟩
        by_cases e1:p=n
        · subst e1;exact absurd q h
        · exact⟨p,by omega,e,q⟩
def lessL (a b:List Int):Bool:=if a.length=b.length then lexB a b else decide (a.length<b.length)
where lexB:List Int→List Int→Bool
  |x::s,y::t=>if x=y then lexB s t else decide (x<y)
  |_,_=>false
theorem lex_at {a b:List Int}:∀{i:Nat},i<a.length→a.length=b.length→(∀j,j<i→a.getD j 0=b.getD j 0)→¬a.getD i 0=b.getD i 0→lessL.lexB a b=decide (a.getD i 0<b.getD i 0):=by
  induction a generalizing b with
  |nil=>intro i h;simp at h
  | cons x s ih=>
    intro i hi he hj hd
    cases b with
    |nil=>simp at he
    | cons y t=>
      cases i with
      | zero=>
        simp only [List.getD_cons_zero]at hd⊢
        simp only [lessL.lexB,if_neg hd]
      | succ i=>
        have h0:=hj 0 (by omega)
        simp only [List.getD_cons_zero]at h0
        simp only [lessL.lexB,if_pos h0,List.getD_cons_succ]at hd⊢
        exact ih (by simpa using hi) (by simpa using he) (fun j q=>by have:=hj (j+1) (by omega);simpa using this) hd
theorem lex_same {a b:List Int}(h:∀j,j<a.length→a.getD j 0=b.getD j 0)(he:a.length=b.length):lessL.lexB a b=false:=by
  induction a generalizing b with
  |nil=>simp only [lessL.lexB]
  | cons x s ih=>
    cases b with
    |nil=>simp at he
    | cons y t=>
      have h0:=h 0 (by simp)
      simp only [List.getD_cons_zero]at h0
      simp only [lessL.lexB,if_pos h0]
      exact ih (fun j q=>by have:=h (j+1) (by simpa using q);simpa using this) (by simpa using he)
theorem less_at {a b:List Int} {i:Nat}(hi:i<a.length)(he:a.length=b.length)(hj:∀j,j<i→a.getD j 0=b.getD j 0)(hd:¬a.getD i 0=b.getD i 0):lessL a b=decide (a.getD i 0<b.getD i 0):=by
  unfold lessL
  rw [if_pos he]
  exact lex_at hi he hj hd
theorem less_end {a b:List Int} {i:Nat}(hi:i≤a.length)(hj:∀j,j<i→a.getD j 0=b.getD j 0)(h:¬(i<a.length∧a.length=b.length)):lessL a b=decide ((a.length:Int)<b.length):=by
  unfold lessL
  by_cases he:a.length=b.length
  · have hia:i=a.length:=by
      by_cases q:i<a.length
      · exact absurd ⟨q,he⟩ h
      · omega
    rw [if_pos he,lex_same (fun j q=>hj j (by omega)) he]
    symm
    exact decide_eq_false (by omega)
  · rw [if_neg he]
    apply decide_eq_decide.2
    omega
theorem lex_irr {a b:List Int}(h:LexLt b a):lessL.lexB a b=false:=by
  induction a generalizing b with
  |nil=>cases b<;>simp only [lessL.lexB]
  | cons x s ih=>
    cases b with
    |nil=>simp only [lessL.lexB]
    | cons y t=>
      unfold LexLt at h
      rcases h with h|⟨h,q⟩
      · simp only [lessL.lexB,if_neg (show ¬x=y by omega)]
        exact decide_eq_false (by omega)
      · simp only [lessL.lexB,if_pos h.symm]
        exact ih q
theorem lex_refl (a:List Int):lessL.lexB a a=false:=by
  induction a with
  |nil=>simp only [lessL.lexB]
  |cons x s ih=>simp only [lessL.lexB,if_true];exact ih
end Go.Proofs.Yteelocfbbhchcaa

namespace Go.Proofs.Yteelocfbbhchcaa
open Go Go.Eng Go.Proofs
set_option maxRecDepth 10000
theorem bits55 (k:Nat)(hk:k<2^16):FSpec Try.prog 55 [(.int .i64 (.sym fun _=>zi k))] [] (fun r _=>r=(.sl 1 (.sym fun _=>zi (bitsN k 16).length) (fun ix=>[.int .i64 (.sym fun _=>(bitsN k 16).getD ix.den.toNat 0)]))):=by
  refine FSpec.is fun R hR=>qX (sc:=sc55) tyok mix Try.func55 rfl Try.call55 (by kernel_rfl) (by kernel_rfl) ?_
  generalize Try.prog=P
  cbv
  repeat' (first
      |fail)
  all_goals first
    |skip
  refine⟨none,[⟨.tmp 3,3,1⟩],{x:Nat×List Int // x.1≤16∧x.2=bitsN k x.1},fun x=>⟨[(0,(.int .i64 (.sym fun _=>zi k))),(3,.row 3),(4,(.int .i64 (.sym fun _=>zi x.1.1)))],[(3,.row 3 1 (.sym fun _=>zi (x.1.2).length) (fun ix=>[.int .i64 (.sym fun _=>(x.1.2).getD ix.den.toNat 0)]))],30⟩,fun x=>16-x.1.1,?_,?_⟩
  · refine⟨⟨(0,[]),by omega,rfl⟩,?_⟩
    cbv
    repeat' (first
      |with_reducible refine hold ?_ ?_
      |with_reducible refine And.intro ?_ ?_)
    all_goals first
      |trivial
      |exact qN (qE (by rfl))
      |exact qN (Fit.refl _)
      |(refine qM (ble_row ?_ ?_);(first|rfl|((try simp only [qW]at *);(try simp only [zQ,zA,zB,zC,zD,zE,zF,zG,zH,zI,zJ,zK,zL,zM,zN,zO,zP,zR,zS]at *);omega));intro ix h0 h1;exfalso;(try simp only [qW]at *);(try simp only [zQ,zA,zB,zC,zD,zE,zF,zG,zH,zI,zJ,zK,zL,zM,zN,zO,zP,zR,zS]at *);omega)
      |skip
  · rintro ⟨⟨p,L⟩,hp,hL⟩
    cbv
    dsimp only at hp hL
    have hs:=tb_bd k p
    have hlen:=bitsN_len k p
    rw [←hL]at hlen
    repeat' (first
        |with_reducible refine hold ?_ ?_
        |with_reducible refine And.intro ?_ ?_
        | (with_reducible refine qU ?_ ?_
           try cbv)
        |(with_reducible intro hcd;(try simp only [zA,zB,zC,zD,zE,zF,zG,zH,zI,zJ,zK,zL,zM,zN,zO,zP]at hcd);try cbv)
        | (with_reducible refine shr_k ?_ ?_
           try cbv)
        | (obtain⟨L2,eL2⟩:∃y:List Int,y=L++[zi p]:=⟨_,rfl⟩
           refine⟨intsE L2,?_⟩
           cbv
           refine hold (hold_rowlist (L:=L) eL2 (by(first|rfl|((try simp only [qW]at *);(try simp only [zQ,zA,zB,zC,zD,zE,zF,zG,zH,zI,zJ,zK,zL,zM,zN,zO,zP,zR,zS]at *);done)|((try simp only [qW]at *);(try simp only [zQ,zA,zB,zC,zD,zE,zF,zG,zH,zI,zJ,zK,zL,zM,zN,zO,zP,zR,zS]at *);omega))) (by rfl) (fun ix=>Fit.refl _) (fun ix h=>qC (qE (by rfl)) rfl qA) (by(try simp only [qW]at *);(try simp only [zQ,zA,zB,zC,zD,zE,zF,zG,zH,zI,zJ,zK,zL,zM,zN,zO,zP,zR,zS]at *);omega)) (Or.inl ?_)
           try cbv)
        |fail)
    all_goals first
      |((try simp only [qW]at *);(try simp only [zQ,zA,zB,zC,zD,zE,zF,zG,zH,zI,zJ,zK,zL,zM,zN,zO,zP,zR,zS]at *);first|(refine qO ?_;omega)|(simp only [Hold];omega))
      |(subst hR;((have he:p=16:=(by((try simp only [qW]at *);(try simp only [zQ,zA,zB,zC,zD,zE,zF,zG,zH,zI,zJ,zK,zL,zM,zN,zO,zP,zR,zS]at *);omega)));subst he;subst hL;exact Fit.refl _);done)
      |((try simp only [qW]at *);(try simp only [zQ,zA,zB,zC,zD,zE,zF,zG,zH,zI,zJ,zK,zL,zM,zN,zO,zP,zR,zS]at *);first|(refine hold_u64 ?_;omega)|(refine hold_u8 ?_;omega)|(refine hold_sh64 ?_;omega))
      |((try simp only [zQ,zA,zB,zC,zD,zE,zF,zG,zH,zI,zJ,zK,zL,zM,zN,zO,zP,zR,zS]at *);(have hp16:p<16:=(by((try simp only [qW]at *);(try simp only [zQ,zA,zB,zC,zD,zE,zF,zG,zH,zI,zJ,zK,zL,zM,zN,zO,zP,zR,zS]at *);omega)));refine⟨⟨(p+1,L2),by((try simp only [qW]at *);(try simp only [zQ,zA,zB,zC,zD,zE,zF,zG,zH,zI,zJ,zK,zL,zM,zN,zO,zP,zR,zS]at *);omega),by rw [eL2,hL];exact(bitsN_y (by(try simp only [qW]at *);(try simp only [zQ,zA,zB,zC,zD,zE,zF,zG,zH,zI,zJ,zK,zL,zM,zN,zO,zP,zR,zS]at *);assumption)).symm⟩,by simp only [];omega,?_⟩;cbv;(repeat' (first|with_reducible refine hold ?_ ?_|with_reducible refine And.intro ?_ ?_));(all_goals first|trivial|exact qN (qE (by rfl))|exact qN (qG (by rfl))|exact qN (Fit.refl _)|exact qM (qL _)|(refine qN (qE ?_);(try simp only [qW]at *);simp only [zQ,zA,zB,zC,zD,zE,zF,zG,zH,zI,zJ,zK,zL,zM,zN,zO,zP,zR,zS]at *;omega)|(refine qM (ble_list ?_ ?_);(first|rfl|((try simp only [qW]at *);(try simp only [zQ,zA,zB,zC,zD,zE,zF,zG,zH,zI,zJ,zK,zL,zM,zN,zO,zP,zR,zS]at *);simp only [eL2,List.length_append,List.length_cons,List.length_nil];omega));intro ix;(try simp only [eL2]);first|exact Fit.refl _|exact qC (qE (by rfl)) rfl qA)|skip))
      |((try simp only [zQ,zA,zB,zC,zD,zE,zF,zG,zH,zI,zJ,zK,zL,zM,zN,zO,zP,zR,zS]at *);(have hp16:p<16:=(by((try simp only [qW]at *);(try simp only [zQ,zA,zB,zC,zD,zE,zF,zG,zH,zI,zJ,zK,zL,zM,zN,zO,zP,zR,zS]at *);omega)));refine⟨⟨(p+1,L),by((try simp only [qW]at *);(try simp only [zQ,zA,zB,zC,zD,zE,zF,zG,zH,zI,zJ,zK,zL,zM,zN,zO,zP,zR,zS]at *);omega),by rw [hL];exact(bitsN_n (by(try simp only [qW]at *);(try simp only [zQ,zA,zB,zC,zD,zE,zF,zG,zH,zI,zJ,zK,zL,zM,zN,zO,zP,zR,zS]at *);assumption)).symm⟩,by simp only [];omega,?_⟩;cbv;(repeat' (first|with_reducible refine hold ?_ ?_|with_reducible refine And.intro ?_ ?_));(all_goals first|trivial|exact qN (qE (by rfl))|exact qN (qG (by rfl))|exact qN (Fit.refl _)|exact qM (qL _)|(refine qN (qE ?_);(try simp only [qW]at *);simp only [zQ,zA,zB,zC,zD,zE,zF,zG,zH,zI,zJ,zK,zL,zM,zN,zO,zP,zR,zS]at *;omega)|(refine qM (ble_list ?_ ?_);(first|rfl|((try simp only [qW]at *);(try simp only [zQ,zA,zB,zC,zD,zE,zF,zG,zH,zI,zJ,zK,zL,zM,zN,zO,zP,zR,zS]at *);simp only [List.length_append,List.length_cons,List.length_nil];omega));intro ix;first|exact Fit.refl _|exact qC (qE (by rfl)) rfl qA)|skip))
      |skip
theorem less54 (a b:List Int)(ha:a.length≤1000)(hb:b.length≤1000):FSpec Try.prog 54 [(.sl 1 (.sym fun _=>zi (a).length) (fun ix=>[.int .i64 (.sym fun _=>(a).getD ix.den.toNat 0)])),(.sl 1 (.sym fun _=>zi (b).length) (fun ix=>[.int .i64 (.sym fun _=>(b).getD ix.den.toNat 0)]))] [] (fun r _=>r=(.bool (.sym fun _=>lessL a b))):=by
  refine FSpec.is fun R hR=>qX (sc:=sc54) tyok mix Try.func54 rfl Try.call54 (by kernel_rfl) (by kernel_rfl) ?_
  generalize Try.prog=P
  cbv
  repeat' (first
      |fail)
  all_goals first
    |skip
  refine⟨none,[],{i:Nat // i≤a.length∧∀j,j<i→a.getD j 0=b.getD j 0},fun x=>⟨[(0,(.sl 1 (.sym fun _=>zi (a).length) (fun ix=>[.int .i64 (.sym fun _=>(a).getD ix.den.toNat 0)]))),(1,(.sl 1 (.sym fun _=>zi (b).length) (fun ix=>[.int .i64 (.sym fun _=>(b).getD ix.den.toNat 0)]))),(5,(.int .i64 (.sym fun _=>zi x.1)))],[],60⟩,fun x=>a.length-x.1,?_,?_⟩
  · refine⟨⟨0,by omega,fun j hj=>by omega⟩,?_⟩
    cbv
    repeat' (first
      |with_reducible refine hold ?_ ?_
      |with_reducible refine And.intro ?_ ?_)
    all_goals first
      |trivial
      |exact qN (qE (by rfl))
      |exact qN (Fit.refl _)
      |skip
  · rintro⟨i,hi,hq⟩
    cbv
    repeat' (first
        |with_reducible refine hold ?_ ?_
        |with_reducible refine And.intro ?_ ?_
        |(with_reducible intro hcd;(try simp only [zA,zB,zC,zD,zE,zF,zG,zH,zI,zJ,zK,zL,zM,zN,zO,zP]at hcd);try cbv)
        |fail)
    all_goals first
      |((try simp only [qW]at *);(try simp only [zQ,zA,zB,zC,zD,zE,zF,zG,zH,zI,zJ,zK,zL,zM,zN,zO,zP,zR,zS]at *);first|(refine qO ?_;omega)|(simp only [Hold];omega))
      |(subst hR;(refine qG ?_;(have hne:¬a.getD i 0=b.getD i 0:=by assumption);exact(less_at (i:=i) (by((try simp only [qW]at *);(try simp only [zQ,zA,zB,zC,zD,zE,zF,zG,zH,zI,zJ,zK,zL,zM,zN,zO,zP,zR,zS]at *);omega)) (by((try simp only [qW]at *);(try simp only [zQ,zA,zB,zC,zD,zE,zF,zG,zH,zI,zJ,zK,zL,zM,zN,zO,zP,zR,zS]at *);omega)) hq hne).symm);done)
      |(subst hR;(refine qG ?_;exact(less_end (i:=i) hi hq (by(try simp only [qW]at *);(try simp only [zQ,zA,zB,zC,zD,zE,zF,zG,zH,zI,zJ,zK,zL,zM,zN,zO,zP,zR,zS]at *);omega)).symm);done)
      |((try simp only [zQ,zA,zB,zC,zD,zE,zF,zG,zH,zI,zJ,zK,zL,zM,zN,zO,zP,zR,zS]at *);(have hne:a.getD i 0=b.getD i 0:=by first|assumption|exact Classical.not_not.1 (by assumption));refine⟨⟨i+1,by omega,fun j hj=>(Nat.lt_or_ge j i).elim (hq j) fun q=>by rw [show j=i by omega];exact hne⟩,by simp only [];omega,?_⟩;cbv;(repeat' (first|with_reducible refine hold ?_ ?_|with_reducible refine And.intro ?_ ?_));(all_goals first|trivial|exact qN (qE (by rfl))|exact qN (qG (by rfl))|exact qN (Fit.refl _)|exact qM (qL _)|(refine qN (qE ?_);(try simp only [qW]at *);simp only [zQ,zA,zB,zC,zD,zE,zF,zG,zH,zI,zJ,zK,zL,zM,zN,zO,zP,zR,zS]at *;omega)|(refine qM (qK ?_);(repeat' (first|exact qA|exact qB|refine qC ?_ rfl ?_|refine qD ?_ ?_|exact qE (by rfl)|exact qG (by rfl)|exact Fit.refl _|exact qH _|(refine qE ?_;(try simp only [qW]at *);simp only [zQ,zA,zB,zC,zD,zE,zF,zG,zH,zI,zJ,zK,zL,zM,zN,zO,zP,zR,zS]at *;omega)));done)|skip))
      |skip
end Go.Proofs.Yteelocfbbhchcaa

namespace Go.Proofs.Yteelocfbbhchcaa
open Go Go.Eng Go.Proofs
set_option maxRecDepth 10000
def maskN (L:List Int):Nat→Nat
  |0=>0
  |i+1=>maskN L i |||2^(L.getD i 0).toNat
theorem mask_bit (L:List Int)(n p:Nat):(maskN L n).testBit p=true↔∃i,i<n∧(L.getD i 0).toNat=p:=by
  induction n with
  |zero=>simp [maskN]
  | succ n ih=>
    simp only [maskN,Nat.testBit_or,Bool.or_eq_true,ih,Nat.testBit_two_pow,decide_eq_true_eq]
    constructor
    · rintro(⟨i,hi,e⟩|e)
      · exact⟨i,by omega,e⟩
      · exact⟨n,by omega,e⟩
    · rintro⟨i,hi,e⟩
      by_cases q:i=n
      · subst q;exact .inr e
      · exact .inl ⟨i,by omega,e⟩
theorem mask_lt {L:List Int} {m:Nat}:∀{n:Nat},(∀i,i<n→(L.getD i 0).toNat<m)→maskN L n<2^m:=by
  intro n
  induction n with
  |zero=>intro _;exact Nat.pow_pos (by decide)
  | succ n ih=>
    intro h
    exact Nat.or_lt_two_pow (ih fun i hi=>h i (by omega)) (Nat.pow_lt_pow_right (by decide) (h n (by omega)))
def keepN (l:List LookT)(M:Nat):Nat→List LookT
  |0=>[]
  |i+1=>if M.testBit i=true then keepN l M i else keepN l M i++[l.getD i k0]
theorem keep_y {l:List LookT} {M i:Nat}(h:((M:Int).fdiv (2^i)).tmod 2=0):keepN l M (i+1)=keepN l M i++[l.getD i k0]:=by
  simp only [keepN,(tb_not M i).1 h,Bool.false_eq_true,if_false]
theorem keep_n {l:List LookT} {M i:Nat}(h:¬((M:Int).fdiv (2^i)).tmod 2=0):keepN l M (i+1)=keepN l M i:=by
  have:M.testBit i=true:=by
    cases e:M.testBit i with
    |true=>rfl
    |false=>exact absurd ((tb_not M i).2 e) h
  simp only [keepN,this,if_true]
theorem keep_len (l:List LookT)(M:Nat):∀n,(keepN l M n).length≤n:=by
  intro n
  induction n with
  |zero=>exact Nat.le_refl _
  | succ n ih=>
    simp only [keepN]
    split
    · omega
    · simp;omega
theorem keep_mem {l:List LookT} {M n:Nat} {x:LookT}:x∈keepN l M n↔∃i,i<n∧M.testBit i=false∧x=l.getD i k0:=by
  induction n with
  |zero=>simp [keepN]
  | succ n ih=>
    simp only [keepN]
    split
    · rename_i h
      rw [ih]
      constructor
      · rintro⟨i,hi,e,q⟩;exact⟨i,by omega,e,q⟩
      · rintro⟨i,hi,e,q⟩
        by_cases e1:i=n
        · subst e1;rw [h]at e;cases e
        · exact⟨i,by omega,e,q⟩
    · rename_i h
      rw [List.mem_append,ih,List.mem_singleton]
      constructor
      · rintro(⟨i,hi,e,q⟩|e)
        · exact⟨i,by omega,e,q⟩
        · exact⟨n,by omega,by simpa using h,e⟩
      · rintro⟨i,hi,e,q⟩
        by_cases e1:i=n
        · subst e1;exact .inr q
        · exact .inl ⟨i,by omega,e,q⟩
theorem look_in {L:List LookT} {i:Nat}(h:i<L.length):L.getD i k0∈L:=by
  rw [List.getD_eq_getElem?_getD,List.getElem?_eq_getElem h]
  exact List.getElem_mem h
theorem look_at {L:List LookT} {x:LookT}(h:x∈L):∃i,i<L.length∧L.getD i k0=x:=by
  obtain⟨i,hi,e⟩:=List.getElem_of_mem h
  refine⟨i,hi,?_⟩
  rw [List.getD_eq_getElem?_getD,List.getElem?_eq_getElem hi]
  exact e
def IsM (n M:Nat)(o:List Int):Prop:=∀i:Nat,i<n→(M.testBit i=true↔(i:Int)∈o)
theorem keep_fit {c:Clr} {l:List LookT} {M:Nat} {o:List Int}(hM:IsM l.length M o) {rm v st rt:Int}:FitV c (keepN l M l.length) [] rm v st rt↔FitV c l o rm v st rt:=by
  constructor
  · intro h
    refine⟨h.s0,h.s1,h.r0,h.r1,right_iff.2 fun i hi h1 h2=> ?_⟩
    have hm:l.getD i k0∈keepN l M l.length:=keep_mem.2 ⟨i,hi,by
      cases e:M.testBit i with
      |false=>rfl
      |true=>exact absurd ((hM i hi).1 e) (inL_no.1 h2),rfl⟩
    obtain⟨j,hj,e⟩:=look_at hm
    have:=right_iff.1 h.fit j hj (by rw [e];exact h1) (inL_e j)
    rwa [e]at this
  · intro h
    refine⟨h.s0,h.s1,h.r0,h.r1,right_iff.2 fun j hj h1 _=> ?_⟩
    obtain⟨i,hi,e,q⟩:=keep_mem.1 (look_in hj)
    rw [q]at h1⊢
    exact right_iff.1 h.fit i hi h1 (inL_no.2 fun hx=>by rw [(hM i hi).2 hx]at e;cases e)
theorem keep_ok {c:Clr}(hC:COk c) {l:List LookT} {M:Nat} {o:List Int}(hM:IsM l.length M o):okL c (keepN l M l.length) []=true↔okL c l o=true:=by
  rw [ok_iff hC,ok_iff hC]
  constructor
  · rintro⟨rm,h1,h2,h3⟩
    refine⟨rm,h1,h2,fun v hv=> ?_⟩
    obtain⟨st,rt,hf⟩:=h3 v hv
    exact⟨st,rt,(keep_fit hM).1 hf⟩
  · rintro⟨rm,h1,h2,h3⟩
    refine⟨rm,h1,h2,fun v hv=> ?_⟩
    obtain⟨st,rt,hf⟩:=h3 v hv
    exact⟨st,rt,(keep_fit hM).2 hf⟩
theorem keep_look {c:Clr} {l:List LookT}(h:lookF c l=0)(M:Nat):lookF c (keepN l M l.length)=0:=by
  rw [lookF_iff]at h⊢
  refine⟨Nat.le_trans (keep_len l M _) h.len,fun j hj=> ?_⟩
  obtain⟨i,hi,_,q⟩:=keep_mem.1 (look_in hj)
  rw [q]
  exact h.ok i hi
theorem asc_at {n:Nat} {L:List Int}:∀{s:Nat},Asc n s L→∀i,i<L.length→(s:Int)≤L.getD i 0∧L.getD i 0<n:=by
  induction L with
  |nil=>intro s _ i hi;simp at hi
  | cons x t ih=>
    rintro s ⟨j,rfl,h1,h2,h3⟩ i hi
    cases i with
    |zero=>simp only [List.getD_cons_zero];omega
    | succ i=>
      simp only [List.getD_cons_succ]
      have:=ih h3 i (by simpa using hi)
      omega
theorem asc_lt {n:Nat} {L:List Int}:∀{s:Nat},Asc n s L→∀i,0<i→i<L.length→L.getD (i-1) 0<L.getD i 0:=by
  induction L with
  |nil=>intro s _ i _ hi;simp at hi
  | cons x t ih=>
    rintro s ⟨j,rfl,h1,h2,h3⟩ i h0 hi
    cases i with
    |zero=>omega
    | succ i=>
      cases i with
      | zero=>
        have:=asc_at h3 0 (by simpa using hi)
        simp only [List.getD_cons_succ,List.getD_cons_zero]at this⊢
        show((j:Nat):Int)<_
        omega
      | succ i=>
        have:=ih h3 (i+1) (by omega) (by simpa using hi)
        simpa using this
theorem mask_is {n:Nat} {L:List Int}(h:Asc n 0 L):IsM n (maskN L L.length) L:=by
  intro i hi
  rw [mask_bit]
  constructor
  · rintro⟨j,hj,e⟩
    have:=asc_at h j hj
    have e2:L.getD j 0=(i:Int):=by omega
    rw [←e2]
    exact mem_getD hj
  · intro hx
    obtain⟨j,hj,e⟩:=getD_mem hx
    exact⟨j,hj,by omega⟩
theorem bits_asc (b n:Nat):Asc n 0 (bitsN b n):=by
  induction n with
  |zero=>trivial
  | succ n ih=>
    simp only [bitsN]
    split
    · exact asc_snoc (by omega) ih
    · exact asc_mono (by omega) ih
theorem bits_up {b n:Nat}(h:b<2^n):∀m,bitsN b (n+m)=bitsN b n:=by
  intro m
  induction m with
  |zero=>rfl
  | succ m ih=>
    show bitsN b (n+m+1)=_
    have hb:b.testBit (n+m)=false:=Nat.testBit_lt_two_pow (Nat.lt_of_lt_of_le h (Nat.pow_le_pow_right (by decide) (by omega)))
    simp only [bitsN,hb,Bool.false_eq_true,if_false]
    exact ih
theorem bits_is {b n:Nat}:IsM n b (bitsN b n):=by
  intro i hi
  rw [bitsN_mem]
  constructor
  · intro h;exact⟨i,hi,rfl,h⟩
  · rintro⟨p,_,e,q⟩
    have:i=p:=by omega
    rw [this];exact q
theorem show_at {c:Clr} {l:List LookT} {rm:Int}:∀{n i:Nat},i<n→(showS c l rm n).getD i 0=smS c l (i:Int) rm []∧(showR c l rm n).getD i 0=smR c l (i:Int) rm []:=by
  intro n
  induction n with
  |zero=>intro i h;omega
  | succ n ih=>
    intro i h
    simp only [showS,showR]
    have hl:=showS_len c l rm n
    by_cases e:i=n
    · subst e
      exact⟨getD_app_eq hl.1.symm,getD_app_eq hl.2.symm⟩
    · rw [getD_app_lt (by omega),getD_app_lt (by omega)]
      exact ih (by omega)
theorem show_prove {c:Clr} {l:List LookT}(h:askE c l=0):proveB c l (shM c l) (shS c l) (shR c l)=true:=by
  obtain⟨h1,h2,h3⟩:=sh_yes h
  obtain⟨hC,hl⟩:=lookedF_spec (askE_ok h).1
  have hm:shM c l∈roomsL c l []:=by
    rw [h1]
    exact mem_getD (by have:=(askE_ok h).2;omega)
  obtain⟨g0,g1,g2⟩:=(mem_rooms hC.ok.r1).1 hm
  have hw:∀v:Nat,v<c.vs.length→FitV c l [] (shM c l) v ((shS c l).getD v 0) ((shR c l).getD v 0):=fun v hv=>by
    obtain⟨st,rt,hf⟩:=(room_iff hC).1 g2 v hv
    have hp:=fit_ways hf
    obtain⟨_,_,e1,e2⟩:=some_yes hp
    rw [h2,h3,(show_at hv).1,(show_at hv).2,e1,e2]
    refine ways_fit (vatA_ok hC (by omega) (by omega)) ?_
    rw [List.getD_eq_getElem?_getD,List.getElem?_eq_getElem hp]
    exact List.getElem_mem hp
  have hl1:=showS_len c l (shM c l) c.vs.length
  refine prove_yes (askE_ok h).1 (truthB_iff.2 ⟨g0,g1,by rw [h2];exact hl1.1,by rw [h3];exact hl1.2,fun v hv=> ?_⟩) fun v hv=>(hw v hv).fit
  have q:=hw v hv
  have a:=q.s0;have a1:=q.s1;have a2:=q.r0;have a3:=q.r1
  rw [vatA_nat]at a a1 a2 a3
  exact⟨⟨a,a1⟩,a2,a3⟩
theorem left_ask {c:Clr} {l:List LookT}(hC:COk c)(hL:lookF c l=0):askE c (keepN l (maskN (leaveL c l) (leaveL c l).length) l.length)=0:=by
  have hs:=leave_spec (looked_z hC hL)
  rw [ask_ok (looked_z hC (keep_look hL _)),keep_ok hC (mask_is hs.1)]
  exact hs.2.1
theorem left_less {c:Clr} {l:List LookT}(hC:COk c)(hL:lookF c l=0) {b:Nat}(hb:b<2^l.length)(h:askE c (keepN l b l.length)=0):lessL (bitsN b 16) (leaveL c l)=false:=by
  have hs:=leave_spec (looked_z hC hL)
  have hn:l.length≤6:=(lookF_iff.1 hL).len
  have e:bitsN b 16=bitsN b l.length:=by
    have:=bits_up hb (16-l.length)
    rwa [show l.length+(16-l.length)=16 by omega]at this
  rw [e]
  have hok:=(keep_ok hC (bits_is (n:=l.length))).1 ((ask_ok (looked_z hC (keep_look hL _))).1 h)
  have q:=hs.2.2 _ (bits_asc b l.length) hok
  unfold lessL
  split
  · rename_i he
    rcases q.2 he with r|r
    · rw [←r];exact lex_refl _
    · exact lex_irr r
  · exact decide_eq_false (by omega)
end Go.Proofs.Yteelocfbbhchcaa

namespace Go.Proofs.Yteelocfbbhchcaa
open Go Go.Eng Go.Proofs
set_option maxRecDepth 10000
set_option maxHeartbeats 1000000 in
theorem show51y (c:Clr)(l:List LookT)(h:askE c l=0):FSpec Try.prog 51 [(clrS c),(lksS l)] [] (fun r _=>r=(.tup [(.agg [(.int .i64 (.sym fun _=>shM c l)),(.sl 1 (.sym fun _=>zi (shS c l).length) (fun ix=>[.int .i64 (.sym fun _=>(shS c l).getD ix.den.toNat 0)])),(.sl 1 (.sym fun _=>zi (shR c l).length) (fun ix=>[.int .i64 (.sym fun _=>(shR c l).getD ix.den.toNat 0)]))]),(.int .i64 (.sym fun _=>askE c l))])):=by
  have c71:=asked71 c l h
  have c92:=fun (i:Nat) (rm:Int) (hr:RoomIn c l rm) (hi:i<c.vs.length)=>(show FSpec Try.prog 92 [(wpS c l),(.int .i64 (.sym fun _=>rm)),(.int .i64 (.sym fun _=>zi i)),(.sl 1 (.sym fun _=>zi (([]:List Int)).length) (fun ix=>[.int .i64 (.sym fun _=>(([]:List Int)).getD ix.den.toNat 0)]))] [] (fun r _=>r=(.tup [(.agg [(.int .i64 (.sym fun _=>smM c l (zi i) rm [])),(.int .i64 (.sym fun _=>smS c l (zi i) rm [])),(.int .i64 (.sym fun _=>smR c l (zi i) rm []))]),(.bool (.sym fun _=>someB c l (zi i) rm []))]))from some92 c l rm (zi i) [] (lookedF_spec (askE_ok h).1).1 (lookedF_spec (askE_ok h).1).2 (by simp only [zi_den];omega) (by simp only [zi_den];omega) hr.r0 hr.r1 (by simp))
  refine FSpec.is fun R hR=>qX (sc:=sc51) tyok mix Try.func51 rfl Try.call51 (by kernel_rfl) (by kernel_rfl) ?_
  generalize Try.prog=P at c71 c92⊢
  cbv
  have hc:=(lookedF_spec (askE_ok h).1).1
  have hfv:=hc.few.v
  have hM:=sh_yes h
  have hlen:=rooms_len hc l []
  have hne:=(askE_ok h).2
  have hri:=roomIn_at hc (l:=l) (k:=0) (by omega)
  rw [←hM.1]at hri
  have h00:=hM.1
  obtain⟨rm,hrm⟩:∃r,r=shM c l:=⟨_,rfl⟩
  rw [←hrm]at hri h00
  repeat' (first
      |with_reducible refine hold ?_ ?_
      |with_reducible refine And.intro ?_ ?_
      |(with_reducible intro hcd;(try simp only [zA,zB,zC,zD,zE,zF,zG,zH,zI,zJ,zK,zL,zM,zN,zO,zP]at hcd);try cbv)
      | (refine qQ ?_ (c71) ?hfit
         case hfit=>((repeat' (first|exact qB|refine qD ?_ ?_|exact qE (by rfl)|exact qG (by rfl)|exact Fit.refl _|exact qA|refine qC ?_ rfl ?_));done)
         try cbv)
      |fail)
  all_goals first
    |trivial
    |((try simp only [qW]at *);(try simp only [zQ,zA,zB,zC,zD,zE,zF,zG,zH,zI,zJ,zK,zL,zM,zN,zO,zP,zR,zS]at *);first|(refine qO ?_;omega)|(simp only [Hold];omega))
    |skip
  refine⟨none,[⟨.cell 19 1,3,1⟩,⟨.cell 19 2,3,1⟩],{i:Nat // i≤c.vs.length},fun x=>⟨[(2,.own 0 0),(4,.own 1 0),(6,(wpS c l)),(9,.own 19 0),(30,(.int .i64 (.sym fun _=>zi c.vs.length))),(31,(.int .i64 (.sym fun _=>zi x.1)))],[(0,.cells [(.int .i64 (.sym fun _=>c.rl)),(.int .i64 (.sym fun _=>c.rh)),(.int .i64 (.sym fun _=>c.hr)),(.sl 4 (.sym fun _=>zi c.vs.length) (fun ix=>[(.int .i64 (.sym fun _=>(c.vs.getD ix.den.toNat v0).sl)),(.int .i64 (.sym fun _=>(c.vs.getD ix.den.toNat v0).sh)),(.int .i64 (.sym fun _=>(c.vs.getD ix.den.toNat v0).rl)),(.int .i64 (.sym fun _=>(c.vs.getD ix.den.toNat v0).rh))])),(.sl 2 (.sym fun _=>zi c.ts.length) (fun ix=>[(.int .i64 (.sym fun _=>(c.ts.getD ix.den.toNat t0).top)),(.sl 3 (.sym fun _=>zi ((c.ts.getD ix.den.toNat t0).ps).length) (fun jx=>[(.int .i64 (.sym fun _=>(((c.ts.getD ix.den.toNat t0).ps).getD jx.den.toNat p0).f)),(.int .i64 (.sym fun _=>(((c.ts.getD ix.den.toNat t0).ps).getD jx.den.toNat p0).el)),(.int .i64 (.sym fun _=>(((c.ts.getD ix.den.toNat t0).ps).getD jx.den.toNat p0).eh))]))]))] 40),(1,.cells [.int .i64 (.lit 0),.val (Value.slice none 0 0),.val (Value.slice none 0 0)] 45),(19,.cells [(.int .i64 (.sym fun _=>rm)),.row 25,.row 26] 45),(25,.row 3 1 (.sym fun _=>zi ((showS c l rm x.1)).length) (fun ix=>[.int .i64 (.sym fun _=>((showS c l rm x.1)).getD ix.den.toNat 0)])),(26,.row 3 1 (.sym fun _=>zi ((showR c l rm x.1)).length) (fun ix=>[.int .i64 (.sym fun _=>((showR c l rm x.1)).getD ix.den.toNat 0)]))],60⟩,fun x=>c.vs.length-x.1,?_,?_⟩
  · refine⟨⟨0,by omega⟩,?_⟩
    cbv
    repeat' (first
      |with_reducible refine hold ?_ ?_
      |with_reducible refine And.intro ?_ ?_)
    all_goals first
      |trivial
      |exact qN (qE (by rfl))
      |exact qN (Fit.refl _)
      |exact qM (qL _)
      |(refine qM (ble_row ?_ ?_);(first|rfl|((try simp only [qW]at *);(try simp only [zQ,zA,zB,zC,zD,zE,zF,zG,zH,zI,zJ,zK,zL,zM,zN,zO,zP,zR,zS]at *);omega));intro ix h0 h1;exfalso;(try simp only [qW]at *);(try simp only [zQ,zA,zB,zC,zD,zE,zF,zG,zH,zI,zJ,zK,zL,zM,zN,zO,zP,zR,zS]at *);omega)
      |(refine qM (qK (qC (qE h00.symm) rfl (qC (Fit.refl _) rfl (qC (Fit.refl _) rfl qA)))))
      |skip
  · rintro ⟨i,hi⟩
    cbv
    have hSl:=(showS_len c l rm i).1
    have hRl:=(showS_len c l rm i).2
    have hY:showS c l rm (i+1)=showS c l rm i++[smS c l (zi i) rm []]:=rfl
    have hZ:showR c l rm (i+1)=showR c l rm i++[smR c l (zi i) rm []]:=rfl
    obtain⟨S1,hS1⟩:∃M,M=showS c l rm i:=⟨_,rfl⟩
    obtain⟨S2,hS2⟩:∃M,M=showR c l rm i:=⟨_,rfl⟩
    rw [←hS1]at hSl hY⊢
    rw [←hS2]at hRl hZ⊢
    cbv
    repeat' (first
        |with_reducible refine hold ?_ ?_
        |with_reducible refine And.intro ?_ ?_
        |(with_reducible intro hcd;(try simp only [zA,zB,zC,zD,zE,zF,zG,zH,zI,zJ,zK,zL,zM,zN,zO,zP]at hcd);try cbv)
        | (refine Exists.intro (α:=Nat) 25 ?_
           cbv
           refine Exists.intro (α:=Nat) 26 ?_
           cbv)
        | (refine qQ ?_ (c92 i rm hri (by((try simp only [qW]at *);(try simp only [zQ,zA,zB,zC,zD,zE,zF,zG,zH,zI,zJ,zK,zL,zM,zN,zO,zP,zR,zS]at *);omega))) ?hfit
           case hfit=>((refine qD (Fit.refl _) (qD (qE (by rfl)) (qD (qE (by rfl)) (qD (qP rfl) qB))));done)
           try cbv)
        | (obtain⟨L2,eL2⟩:∃y:List Int,y=S1++[smS c l (zi i) rm []]:=⟨_,rfl⟩
           refine⟨intsE L2,?_⟩
           cbv
           refine hold (hold_rowlist (L:=S1) eL2 (by(first|rfl|((try simp only [qW]at *);(try simp only [zQ,zA,zB,zC,zD,zE,zF,zG,zH,zI,zJ,zK,zL,zM,zN,zO,zP,zR,zS]at *);done)|((try simp only [qW]at *);(try simp only [zQ,zA,zB,zC,zD,zE,zF,zG,zH,zI,zJ,zK,zL,zM,zN,zO,zP,zR,zS]at *);omega))) (by rfl) (fun ix=>Fit.refl _) (fun ix h=>qC (qE (by rfl)) rfl qA) (by(try simp only [qW]at *);(try simp only [zQ,zA,zB,zC,zD,zE,zF,zG,zH,zI,zJ,zK,zL,zM,zN,zO,zP,zR,zS]at *);omega)) (Or.inl ?_)
           try cbv)
        | (obtain⟨L3,eL3⟩:∃y:List Int,y=S2++[smR c l (zi i) rm []]:=⟨_,rfl⟩
           refine⟨intsE L3,?_⟩
           cbv
           refine hold (hold_rowlist (L:=S2) eL3 (by(first|rfl|((try simp only [qW]at *);(try simp only [zQ,zA,zB,zC,zD,zE,zF,zG,zH,zI,zJ,zK,zL,zM,zN,zO,zP,zR,zS]at *);done)|((try simp only [qW]at *);(try simp only [zQ,zA,zB,zC,zD,zE,zF,zG,zH,zI,zJ,zK,zL,zM,zN,zO,zP,zR,zS]at *);omega))) (by rfl) (fun ix=>Fit.refl _) (fun ix h=>qC (qE (by rfl)) rfl qA) (by(try simp only [qW]at *);(try simp only [zQ,zA,zB,zC,zD,zE,zF,zG,zH,zI,zJ,zK,zL,zM,zN,zO,zP,zR,zS]at *);omega)) (Or.inl ?_)
           try cbv)
        |fail)
    all_goals first
      |((try simp only [qW]at *);(try simp only [zQ,zA,zB,zC,zD,zE,zF,zG,zH,zI,zJ,zK,zL,zM,zN,zO,zP,zR,zS]at *);first|(refine qO ?_;omega)|(simp only [Hold];omega))
      |((have hie:i=c.vs.length:=(by((try simp only [qW]at *);(try simp only [zQ,zA,zB,zC,zD,zE,zF,zG,zH,zI,zJ,zK,zL,zM,zN,zO,zP,zR,zS]at *);omega)));(have e1:S1=shS c l:=by rw [hS1,hie,hrm];exact hM.2.1.symm);(have e2:S2=shR c l:=by rw [hS2,hie,hrm];exact hM.2.2.symm);subst hR;rw [←e1,←e2,←hrm];exact qD (Fit.refl _) (qD (qE h.symm) qB))
      |((try simp only [zQ,zA,zB,zC,zD,zE,zF,zG,zH,zI,zJ,zK,zL,zM,zN,zO,zP,zR,zS]at *);(have hx:showS c l rm (i+1)=L2:=hY.trans eL2.symm);(have hy:showR c l rm (i+1)=L3:=hZ.trans eL3.symm);refine⟨⟨i+1,by omega⟩,by simp only [];omega,?_⟩;cbv;(repeat' (first|with_reducible refine hold ?_ ?_|with_reducible refine And.intro ?_ ?_));(all_goals first|trivial|exact qN (qE (by rfl))|exact qN (qG (by rfl))|exact qN (Fit.refl _)|exact qM (qL _)|(refine qN (qE ?_);(try simp only [qW]at *);simp only [zQ,zA,zB,zC,zD,zE,zF,zG,zH,zI,zJ,zK,zL,zM,zN,zO,zP,zR,zS]at *;omega)|(refine qM (qK ?_);(repeat' (first|exact qA|exact qB|refine qC ?_ rfl ?_|refine qD ?_ ?_|exact qE (by rfl)|exact qG (by rfl)|exact Fit.refl _|exact qH _|(refine qE ?_;(try simp only [qW]at *);simp only [zQ,zA,zB,zC,zD,zE,zF,zG,zH,zI,zJ,zK,zL,zM,zN,zO,zP,zR,zS]at *;omega)));done)|(simp only [hx,hy];first|exact qM (qL _)|(refine qM (ble_row ?_ ?_)<;>first|rfl|(rw [eL2,List.length_append];rfl)|(rw [eL3,List.length_append];rfl)|((try simp only [qW]at *);(try simp only [zQ,zA,zB,zC,zD,zE,zF,zG,zH,zI,zJ,zK,zL,zM,zN,zO,zP,zR,zS,eL2,eL3,List.length_append,List.length_cons,List.length_nil]at *);omega)|(intro ix h0 h1;exact Fit.refl _)))|skip))
      |skip
theorem show51n (c:Clr)(l:List LookT)(h:¬askE c l=0):FSpec Try.prog 51 [(clrS c),(lksS l)] [] (fun r _=>r=(.tup [(.agg [(.int .i64 (.sym fun _=>shM c l)),(.sl 1 (.sym fun _=>zi (shS c l).length) (fun ix=>[.int .i64 (.sym fun _=>(shS c l).getD ix.den.toNat 0)])),(.sl 1 (.sym fun _=>zi (shR c l).length) (fun ix=>[.int .i64 (.sym fun _=>(shR c l).getD ix.den.toNat 0)]))]),(.int .i64 (.sym fun _=>askE c l))])):=by
  have c71:=asked71n c l h
  refine FSpec.is fun R hR=>qX (sc:=sc51) tyok mix Try.func51 rfl Try.call51 (by kernel_rfl) (by kernel_rfl) ?_
  generalize Try.prog=P at c71⊢
  cbv
  have hM:=sh_no h
  repeat' (first
      |with_reducible refine And.intro ?_ ?_
      |(with_reducible intro hcd;(try simp only [zA,zB,zC,zD,zE,zF,zG,zH,zI,zJ,zK,zL,zM,zN,zO,zP]at hcd);try cbv)
      | (refine qQ ?_ (c71) ?hfit
         case hfit=>((repeat' (first|exact qB|refine qD ?_ ?_|exact qE (by rfl)|exact qG (by rfl)|exact Fit.refl _|exact qA|refine qC ?_ rfl ?_));done)
         try cbv)
      |fail)
  all_goals first
    |trivial
    |(subst hR;exact qD (qC (qE hM.1.symm) rfl (qC (qP (by rw [hM.2.1];rfl)) rfl (qC (qP (by rw [hM.2.2];rfl)) rfl qA))) (qD (Fit.refl _) qB);done)
    |skip
theorem show51 (c:Clr)(l:List LookT):FSpec Try.prog 51 [(clrS c),(lksS l)] [] (fun r _=>r=(.tup [(.agg [(.int .i64 (.sym fun _=>shM c l)),(.sl 1 (.sym fun _=>zi (shS c l).length) (fun ix=>[.int .i64 (.sym fun _=>(shS c l).getD ix.den.toNat 0)])),(.sl 1 (.sym fun _=>zi (shR c l).length) (fun ix=>[.int .i64 (.sym fun _=>(shR c l).getD ix.den.toNat 0)]))]),(.int .i64 (.sym fun _=>askE c l))])):=by
  by_cases h:askE c l=0
  · exact show51y c l h
  · exact show51n c l h
end Go.Proofs.Yteelocfbbhchcaa

namespace Go.Proofs.Yteelocfbbhchcaa
open Go Go.Eng Go.Proofs
set_option maxRecDepth 10000
def looksE (L:List LookT)(ix:IX):List SV:=[(.int .i64 (.sym fun _=>((L).getD ix.den.toNat k0).v)),(.int .i64 (.sym fun _=>((L).getD ix.den.toNat k0).h)),(.int .i64 (.sym fun _=>((L).getD ix.den.toNat k0).t)),(.int .i64 (.sym fun _=>((L).getD ix.den.toNat k0).s))]
theorem hold_lookapp {n m b:Int} {L L2:List LookT} {y:LookT} {e new:IX→List SV}(h2:L2=L++[y])(hn:n=(L.length:Int))(hm:m=1)(he:∀ix,Fit (.agg (e ix)) (.agg (looksE L ix)))(hx:∀ix:IX,ix.den=0→Fit (.agg (new ix)) (.agg [(.int .i64 (.sym fun _=>y.v)),(.int .i64 (.sym fun _=>y.h)),(.int .i64 (.sym fun _=>y.t)),(.int .i64 (.sym fun _=>y.s))]))(hb:(n+m)*b≤140737488355328):
    Hold (RowApp n e m new (looksE L2)∧0≤n∧0≤m∧(n+m)*b≤140737488355328):=by
  subst hm
  subst h2
  refine hold_rowapp (fun ix jx h0 h1 h2=>(he ix).trans ?_) (fun ix jx h0 h1 h2=>(hx ix (by omega)).trans ?_) ⟨by omega,by omega,hb⟩
  · have q:=more_at L y (i:=ix.den.toNat) (by omega)
    have e3:jx.den.toNat=ix.den.toNat:=by rw [h2]
    unfold looksE
    simp only [e3,q]
    exact Fit.refl _
  · have q:=more_new L y (i:=jx.den.toNat) (by omega)
    unfold looksE
    simp only [q]
    exact Fit.refl _
theorem or_ob3 {a b:Int} {x y:Nat}(ha:a=(x:Int))(hb:b=(y:Int))(hx:x<2^6)(hy:y<2^6):Hold (∃x' y':Nat,a=(x':Int)∧b=(y':Int)∧inR .i64 (x':Int)∧inR .i64 (y':Int)∧inR .i64 ((x' |||y':Nat):Int)∧zi (x |||y)=((x' |||y':Nat):Int)):=by
  have h3:(x |||y)<2^6:=Nat.or_lt_two_pow hx hy
  refine⟨x,y,ha,hb,?_,?_,?_,rfl⟩<;>unfold inR<;>simp only<;>omega
theorem p2_ok6 {q:Int}(h0:0≤q)(hn:q≤6):Hold (inR .i64 (1*2^q.toNat)):=by
  have h2:2^q.toNat≤2^6:=Nat.pow_le_pow_right (by decide) (by omega)
  have e:(1:Int)*2^q.toNat=((2^q.toNat:Nat):Int):=by simp
  rw [e]
  clear e
  generalize 2^q.toNat=y at h2⊢
  refine qO ?_
  omega
theorem rem_ne (n:Nat):Hold ((1:Int)*2^n≠0):=by
  have:(0:Int)<2^n:=Int.pow_pos (by decide)
  unfold Hold
  omega
theorem rem_eq (o n:Nat):((o:Int)).tmod (1*2^n)=((o%2^n:Nat):Int):=by
  rw [Int.one_mul]
  have e:(2:Int)^n=((2^n:Nat):Int):=by simp
  rw [e]
  exact(Int.ofNat_tmod _ _).symm
theorem left_show {c:Clr} {K:List LookT} {e:Int}(h:askE c K=e):FSpec Try.prog 51 [(clrS c),(.sl 4 (.sym fun _=>zi (K).length) (fun ix=>[(.int .i64 (.sym fun _=>((K).getD ix.den.toNat k0).v)),(.int .i64 (.sym fun _=>((K).getD ix.den.toNat k0).h)),(.int .i64 (.sym fun _=>((K).getD ix.den.toNat k0).t)),(.int .i64 (.sym fun _=>((K).getD ix.den.toNat k0).s))]))] [] (fun r _=>r=(.tup [(.agg [(.int .i64 (.sym fun _=>shM c K)),(.sl 1 (.sym fun _=>zi (shS c K).length) (fun ix=>[.int .i64 (.sym fun _=>(shS c K).getD ix.den.toNat 0)])),(.sl 1 (.sym fun _=>zi (shR c K).length) (fun ix=>[.int .i64 (.sym fun _=>(shR c K).getD ix.den.toNat 0)]))]),(.int .i64 (.sym fun _=>e))])):=
  (show51 c K).post fun r bs q=>⟨_,by subst q;exact qD (Fit.refl _) (qD (qE h) qB),rfl⟩
theorem law13t (c:Clr)(l:List LookT)(o:Int)(ho:0≤o∧o≤255)(h:¬(readyB c=true∧lookF c l=0)):FSpec Try.prog 13 [(clrS c),(lksS l),(.int .u8 (.sym fun _=>o))] [] (fun r _=>r=(.bool (.lit true))):=by
  have c15:=awake15
  have c42:=ready42 c
  have c44:=fun h:readyB c=true=>lookfault44 c l (ready_ok h).fewT
  refine FSpec.is fun R hR=>qX (sc:=sc13) tyok mix Try.func13 rfl Try.call13 (by kernel_rfl) (by kernel_rfl) ?_
  generalize Try.prog=P at c15 c42 c44⊢
  cbv
  repeat' (first
      |with_reducible refine And.intro ?_ ?_
      |(with_reducible intro hcd;(try simp only [zA,zB,zC,zD,zE,zF,zG,zH,zI,zJ,zK,zL,zM,zN,zO,zP]at hcd);try cbv)
      | (refine qQ ?_ (c42) ?hfit
         case hfit=>((repeat' (first|exact qB|refine qD ?_ ?_|exact qE (by rfl)|exact qG (by rfl)|exact Fit.refl _|exact qA|refine qC ?_ rfl ?_));done)
         try cbv)
      | (refine qQ ?_ (c44 (show Hold _ from ?_)) ?hfit
         case hfit=>((repeat' (first|exact qB|refine qD ?_ ?_|exact qE (by rfl)|exact qG (by rfl)|exact Fit.refl _|exact qA|refine qC ?_ rfl ?_));done)
         try cbv)
      | (refine qQ ?_ (c15) ?hfit
         case hfit=>((repeat' (first|exact qB|refine qD ?_ ?_|exact qE (by rfl)|exact qG (by rfl)|exact Fit.refl _|exact qA|refine qC ?_ rfl ?_));done)
         try cbv)
      |fail)
  all_goals first
    |trivial
    |(subst hR;(repeat' (first|exact qA|exact qB|refine qC ?_ rfl ?_|refine qD ?_ ?_|exact qE (by rfl)|exact qG (by rfl)|exact Fit.refl _|exact qH _|(refine qE ?_;(try simp only [qW]at *);simp only [zQ,zA,zB,zC,zD,zE,zF,zG,zH,zI,zJ,zK,zL,zM,zN,zO,zP,zR,zS]at *;omega)));done)
    |(exfalso;(try simp only [qW]at *);(try simp only [zQ,zA,zB,zC,zD,zE,zF,zG,zH,zI,zJ,zK,zL,zM,zN,zO,zP,zR,zS]at *);exact h ⟨by assumption,by omega⟩)
    |skip
set_option maxHeartbeats 1000000 in
theorem law13yA (c:Clr)(l:List LookT)(o:Nat)(ho:o≤255)(hT:ThinC c 0)(hC:COk c)(hL:lookF c l=0)(hE:askE c (keepN l (o%2^l.length) l.length)=0):FSpec Try.prog 13 [(clrS c),(lksS l),(.int .u8 (.sym fun _=>zi o))] [] (fun r _=>r=(.bool (.lit true))):=by
  have hl6:=(lookF_iff.1 hL).len
  have hA:=(leave_spec (looked_z hC hL)).1
  have hlen:=leave_len (looked_z hC hL)
  have hXa:=asc_at hA
  have hXl:=asc_lt hA
  have hml:∀i,i<(leaveL c l).length→maskN (leaveL c l) i<2^6:=fun i hi=>Nat.lt_of_lt_of_le (mask_lt (m:=l.length) fun j hj=>by have:=hXa j (by omega);omega) (Nat.pow_le_pow_right (by decide) hl6)
  have hmz:maskN (leaveL c l) (leaveL c l).length<2^6:=Nat.lt_of_lt_of_le (mask_lt (m:=l.length) fun j hj=>by have:=hXa j (by omega);omega) (Nat.pow_le_pow_right (by decide) hl6)
  have hpl:∀i,i<(leaveL c l).length→2^((leaveL c l).getD i 0).toNat<2^6:=fun i hi=>Nat.pow_lt_pow_right (by decide) (by have:=hXa i hi;omega)
  have hTl:o%2^l.length<2^l.length:=Nat.mod_lt _ (Nat.pow_pos (by decide))
  have hTz:o%2^l.length<2^6:=Nat.lt_of_lt_of_le hTl (Nat.pow_le_pow_right (by decide) hl6)
  have c15:=awake15
  have c42:=lit_t (ready42 c) (ready_t.2 ⟨hT,hC⟩)
  have c44:=lit_i (lookfault44 c l hC.fewT) hL
  have c17:=cellar17 c (by have:=hT.v;omega) (by have:=hT.t;omega) (fun i hi=>by have:=hT.p i hi;omega)
  have c31:=looks31 l (by omega)
  have c45:=leave_y (looked_z hC hL)
  have c31k:=fun (K:List LookT) (h:K.length≤6)=>looks31 K (by omega)
  have c51k:=fun (K:List LookT) (h:K=(keepN l (maskN (leaveL c l) (leaveL c l).length) l.length))=>left_show (c:=c) (K:=K) (e:=0) (by rw [h];exact left_ask hC hL)
  have c51q:=fun (K:List LookT) (h:K=(keepN l (o%2^l.length) l.length))=>left_show (c:=c) (K:=K) (e:=0) (by rw [h];exact hE)
  have c49:=fun (K:List LookT) (h:K=(keepN l (maskN (leaveL c l) (leaveL c l).length) l.length))=>lit_t (prove49 c K (shM c K) (shS c K) (shR c K) (by have:=hT.v;omega)) (show_prove (by rw [h];exact left_ask hC hL))
  have c55:=bits55 (o%2^l.length) (by omega)
  have c54:=lit_f (less54 (bitsN (o%2^l.length) 16) (leaveL c l) (by have:=bitsN_len (o%2^l.length) 16;omega) (by omega)) (left_less hC hL hTl hE)
  refine FSpec.is fun R hR=>qX (sc:=sc13) tyok mix Try.func13 rfl Try.call13 (by kernel_rfl) (by kernel_rfl) ?_
  generalize Try.prog=P at c15 c42 c44 c17 c31 c45 c31k c51k c51q c49 c55 c54⊢
  cbv
  repeat' (first
      |with_reducible refine And.intro ?_ ?_
      |(with_reducible intro hcd;(try simp only [zA,zB,zC,zD,zE,zF,zG,zH,zI,zJ,zK,zL,zM,zN,zO,zP]at hcd);try cbv)
      | (refine qQ ?_ (c42) ?hfit
         case hfit=>((repeat' (first|exact qB|refine qD ?_ ?_|exact qE (by rfl)|exact qG (by rfl)|exact Fit.refl _|exact qA|refine qC ?_ rfl ?_));done)
         try cbv)
      | (refine qQ ?_ (c44) ?hfit
         case hfit=>((repeat' (first|exact qB|refine qD ?_ ?_|exact qE (by rfl)|exact qG (by rfl)|exact Fit.refl _|exact qA|refine qC ?_ rfl ?_));done)
         try cbv)
      | (refine qQ ?_ (c17) ?hfit
         case hfit=>((repeat' (first|exact qB|refine qD ?_ ?_|exact qE (by rfl)|exact qG (by rfl)|exact Fit.refl _|exact qA|refine qC ?_ rfl ?_));done)
         try cbv)
      | (refine qQ ?_ (c31) ?hfit
         case hfit=>((repeat' (first|exact qB|refine qD ?_ ?_|exact qE (by rfl)|exact qG (by rfl)|exact Fit.refl _|exact qA|refine qC ?_ rfl ?_));done)
         try cbv)
      | (refine qQ ?_ (c45) ?hfit
         case hfit=>((repeat' (first|exact qB|refine qD ?_ ?_|exact qE (by rfl)|exact qG (by rfl)|exact Fit.refl _|exact qA|refine qC ?_ rfl ?_));done)
         try cbv)
      |fail)
  all_goals first
    |((try clear c15);(try clear c42);(try clear c44);(try clear c17);(try clear c31);(try clear c45);(try clear c31k);(try clear c51k);(try clear c51q);(try clear c49);(try clear c55);(try clear c54);(exfalso;(try simp only [qW]at *);(try simp only [zQ,zA,zB,zC,zD,zE,zF,zG,zH,zI,zJ,zK,zL,zM,zN,zO,zP,zR,zS]at *);(try simp only [allB_t,allB_f,inB_t,inB_f,ofB_t,ofB_f,shB_t,shB_f,spB_t,spB_f]at *);omega))
    |skip
  refine⟨none,[],{i:Nat // i≤(leaveL c l).length},fun x=>⟨[(3,.own 0 0),(1,(lksS l)),(7,(.sl 1 (.sym fun _=>zi ((leaveL c l)).length) (fun ix=>[.int .i64 (.sym fun _=>((leaveL c l)).getD ix.den.toNat 0)]))),(2,(.int .u8 (.sym fun _=>zi o))),(9,(.int .i64 (.sym fun _=>zi (maskN (leaveL c l) x.1)))),(10,(.int .i64 (.sym fun _=>zi x.1)))],[(0,.cells [(.int .i64 (.sym fun _=>c.rl)),(.int .i64 (.sym fun _=>c.rh)),(.int .i64 (.sym fun _=>c.hr)),(.sl 4 (.sym fun _=>zi c.vs.length) (fun ix=>[(.int .i64 (.sym fun _=>(c.vs.getD ix.den.toNat v0).sl)),(.int .i64 (.sym fun _=>(c.vs.getD ix.den.toNat v0).sh)),(.int .i64 (.sym fun _=>(c.vs.getD ix.den.toNat v0).rl)),(.int .i64 (.sym fun _=>(c.vs.getD ix.den.toNat v0).rh))])),(.sl 2 (.sym fun _=>zi c.ts.length) (fun ix=>[(.int .i64 (.sym fun _=>(c.ts.getD ix.den.toNat t0).top)),(.sl 3 (.sym fun _=>zi ((c.ts.getD ix.den.toNat t0).ps).length) (fun jx=>[(.int .i64 (.sym fun _=>(((c.ts.getD ix.den.toNat t0).ps).getD jx.den.toNat p0).f)),(.int .i64 (.sym fun _=>(((c.ts.getD ix.den.toNat t0).ps).getD jx.den.toNat p0).el)),(.int .i64 (.sym fun _=>(((c.ts.getD ix.den.toNat t0).ps).getD jx.den.toNat p0).eh))]))]))] 27)],200⟩,fun x=>(leaveL c l).length-x.1,?_,?_⟩
  · refine⟨⟨0,by omega⟩,?_⟩
    cbv
    repeat' (first
      |with_reducible refine hold ?_ ?_
      |with_reducible refine And.intro ?_ ?_)
    all_goals first
      |trivial
      |exact qN (qE (by rfl))
      |exact qN (Fit.refl _)
      |exact qM (qL _)
      |skip
  · rintro ⟨i, hi⟩
    cbv
    have hx1:i<(leaveL c l).length→0≤(leaveL c l).getD i 0∧(leaveL c l).getD i 0<l.length:=fun q=>by have:=hXa i q;omega
    have hx2:0<i→i<(leaveL c l).length→(leaveL c l).getD (zi i-1).toNat 0<(leaveL c l).getD i 0:=fun a b=>by rw [show(zi i-1).toNat=i-1 by simp only [zi_den];omega];exact hXl i a b
    repeat' (first
        | (refine rem_as (q:=zi (o%2^l.length)) ?_ ?_ ?_
           try cbv)
        |with_reducible refine hold ?_ ?_
        |with_reducible refine And.intro ?_ ?_
        |(with_reducible intro hcd;(try simp only [zA,zB,zC,zD,zE,zF,zG,zH,zI,zJ,zK,zL,zM,zN,zO,zP]at hcd);try cbv)
        | (with_reducible refine shl_k ?_ ?_ ?_
           try cbv)
        | (refine⟨zi (maskN (leaveL c l) i |||2^((leaveL c l).getD i 0).toNat),?_⟩
           cbv
           refine hold (or_ob3 (x:=maskN (leaveL c l) i) (y:=2^((leaveL c l).getD i 0).toNat) (by first|rfl|((try simp only [qW]at *);(try simp only [zQ,zA,zB,zC,zD,zE,zF,zG,zH,zI,zJ,zK,zL,zM,zN,zO,zP,zR,zS]at *);rfl)) (by((try simp only [qW]at *);(try simp only [zQ,zA,zB,zC,zD,zE,zF,zG,zH,zI,zJ,zK,zL,zM,zN,zO,zP,zR,zS]at *));(try simp)) (hml i (by((try simp only [qW]at *);(try simp only [zQ,zA,zB,zC,zD,zE,zF,zG,zH,zI,zJ,zK,zL,zM,zN,zO,zP,zR,zS]at *);omega))) (hpl i (by((try simp only [qW]at *);(try simp only [zQ,zA,zB,zC,zD,zE,zF,zG,zH,zI,zJ,zK,zL,zM,zN,zO,zP,zR,zS]at *);omega)))) ?_
           try cbv)
        |fail)
    all_goals first
      |((try clear c15);(try clear c42);(try clear c44);(try clear c17);(try clear c31);(try clear c45);(try clear c31k);(try clear c51k);(try clear c51q);(try clear c49);(try clear c55);(try clear c54);((try simp only [qW]at *);(try simp only [zQ,zA,zB,zC,zD,zE,zF,zG,zH,zI,zJ,zK,zL,zM,zN,zO,zP,zR,zS,allB_t,allB_f,inB_t,inB_f,ofB_t,ofB_f,shB_t,shB_f,spB_t,spB_f]at *);first|(refine qO ?_;omega)|(simp only [Hold];omega)))
      |((try clear c15);(try clear c42);(try clear c44);(try clear c17);(try clear c31);(try clear c45);(try clear c31k);(try clear c51k);(try clear c51q);(try clear c49);(try clear c55);(try clear c54);(exact p2_ok6 (q:=zi l.length) (by simp only [zi_den];omega) (by simp only [zi_den];omega)))
      |((try clear c15);(try clear c42);(try clear c44);(try clear c17);(try clear c31);(try clear c45);(try clear c31k);(try clear c51k);(try clear c51q);(try clear c49);(try clear c55);(try clear c54);((try simp only [qW]at *);(try simp only [zQ,zA,zB,zC,zD,zE,zF,zG,zH,zI,zJ,zK,zL,zM,zN,zO,zP,zR,zS]at *);first|(refine hold_u64 ?_;omega)|(refine hold_u8 ?_;omega)|(refine hold_sh64 ?_;omega)|(refine qO ?_;omega)))
      |((try clear c15);(try clear c42);(try clear c44);(try clear c17);(try clear c31);(try clear c45);(try clear c31k);(try clear c51k);(try clear c51q);(try clear c49);(try clear c55);(try clear c54);((try simp only [qW]at *);(try simp only [zQ,zA,zB,zC,zD,zE,zF,zG,zH,zI,zJ,zK,zL,zM,zN,zO,zP,zR,zS]at *);first|(exact p2_ok6 (by omega) (by omega))|(exact rem_ne _)|(exact rem_eq _ _)))
      |((try clear c15);(try clear c42);(try clear c44);(try clear c17);(try clear c31);(try clear c45);(try clear c31k);(try clear c51k);(try clear c51q);(try clear c49);(try clear c55);(try clear c54);(exfalso;(try simp only [qW]at *);(try simp only [zQ,zA,zB,zC,zD,zE,zF,zG,zH,zI,zJ,zK,zL,zM,zN,zO,zP,zR,zS]at *);(try simp only [allB_t,allB_f,inB_t,inB_f,ofB_t,ofB_f,shB_t,shB_f,spB_t,spB_f]at *);omega))
      |((try clear c15);(try clear c42);(try clear c44);(try clear c17);(try clear c31);(try clear c45);(try clear c31k);(try clear c51k);(try clear c51q);(try clear c49);(try clear c55);(try clear c54);((try simp only [zQ,zA,zB,zC,zD,zE,zF,zG,zH,zI,zJ,zK,zL,zM,zN,zO,zP,zR,zS]at *);refine⟨⟨i+1,by omega⟩,by simp only [];omega,?_⟩;cbv;(repeat' (first|with_reducible refine hold ?_ ?_|with_reducible refine And.intro ?_ ?_));(all_goals first|trivial|exact qN (qE (by rfl))|exact qN (qG (by rfl))|exact qN (Fit.refl _)|exact qM (qL _)|(refine qN (qE ?_);(try simp only [qW]at *);simp only [zQ,zA,zB,zC,zD,zE,zF,zG,zH,zI,zJ,zK,zL,zM,zN,zO,zP,zR,zS]at *;omega)|(refine qM (qK ?_);(repeat' (first|exact qA|exact qB|refine qC ?_ rfl ?_|refine qD ?_ ?_|exact qE (by rfl)|exact qG (by rfl)|exact Fit.refl _|exact qH _|(refine qE ?_;(try simp only [qW]at *);simp only [zQ,zA,zB,zC,zD,zE,zF,zG,zH,zI,zJ,zK,zL,zM,zN,zO,zP,zR,zS]at *;omega)));done)|(exact qN (qE rfl))|skip)))
      |skip
    (have hiE1:i=(leaveL c l).length:=(by((try simp only [qW]at *);(try simp only [zQ,zA,zB,zC,zD,zE,zF,zG,zH,zI,zJ,zK,zL,zM,zN,zO,zP,zR,zS]at *);omega)))
    subst hiE1
    refine⟨none,[⟨.tmp 12,90,4⟩,⟨.tmp 13,90,4⟩],{x:Nat×List LookT×List LookT // x.1≤l.length∧x.2.1=keepN l (maskN (leaveL c l) (leaveL c l).length) x.1∧x.2.2=keepN l (o%2^l.length) x.1},fun x=>⟨[(3,.own 0 0),(1,(lksS l)),(7,(.sl 1 (.sym fun _=>zi ((leaveL c l)).length) (fun ix=>[.int .i64 (.sym fun _=>((leaveL c l)).getD ix.den.toNat 0)]))),(9,(.int .i64 (.sym fun _=>zi (maskN (leaveL c l) (leaveL c l).length)))),(11,(.int .i64 (.sym fun _=>zi (o%2^l.length)))),(12,.row 215),(13,.row 216),(14,(.int .i64 (.sym fun _=>zi x.1.1)))],[(0,.cells [(.int .i64 (.sym fun _=>c.rl)),(.int .i64 (.sym fun _=>c.rh)),(.int .i64 (.sym fun _=>c.hr)),(.sl 4 (.sym fun _=>zi c.vs.length) (fun ix=>[(.int .i64 (.sym fun _=>(c.vs.getD ix.den.toNat v0).sl)),(.int .i64 (.sym fun _=>(c.vs.getD ix.den.toNat v0).sh)),(.int .i64 (.sym fun _=>(c.vs.getD ix.den.toNat v0).rl)),(.int .i64 (.sym fun _=>(c.vs.getD ix.den.toNat v0).rh))])),(.sl 2 (.sym fun _=>zi c.ts.length) (fun ix=>[(.int .i64 (.sym fun _=>(c.ts.getD ix.den.toNat t0).top)),(.sl 3 (.sym fun _=>zi ((c.ts.getD ix.den.toNat t0).ps).length) (fun jx=>[(.int .i64 (.sym fun _=>(((c.ts.getD ix.den.toNat t0).ps).getD jx.den.toNat p0).f)),(.int .i64 (.sym fun _=>(((c.ts.getD ix.den.toNat t0).ps).getD jx.den.toNat p0).el)),(.int .i64 (.sym fun _=>(((c.ts.getD ix.den.toNat t0).ps).getD jx.den.toNat p0).eh))]))]))] 27),(215,.row 90 4 (.sym fun _=>zi (x.1.2.1).length) (fun ix=>[(.int .i64 (.sym fun _=>((x.1.2.1).getD ix.den.toNat k0).v)),(.int .i64 (.sym fun _=>((x.1.2.1).getD ix.den.toNat k0).h)),(.int .i64 (.sym fun _=>((x.1.2.1).getD ix.den.toNat k0).t)),(.int .i64 (.sym fun _=>((x.1.2.1).getD ix.den.toNat k0).s))])),(216,.row 90 4 (.sym fun _=>zi (x.1.2.2).length) (fun ix=>[(.int .i64 (.sym fun _=>((x.1.2.2).getD ix.den.toNat k0).v)),(.int .i64 (.sym fun _=>((x.1.2.2).getD ix.den.toNat k0).h)),(.int .i64 (.sym fun _=>((x.1.2.2).getD ix.den.toNat k0).t)),(.int .i64 (.sym fun _=>((x.1.2.2).getD ix.den.toNat k0).s))]))],400⟩,fun x=>l.length-x.1.1,?_,?_⟩
    · refine⟨⟨(0,[],[]),by omega,rfl,rfl⟩,?_⟩
      cbv
      repeat' (first
        |with_reducible refine hold ?_ ?_
        |with_reducible refine And.intro ?_ ?_)
      all_goals first
        |trivial
        |exact qN (qE (by rfl))
        |exact qN (Fit.refl _)
        |exact qM (qL _)
        |(refine qM (ble_row ?_ ?_);(first|rfl|((try simp only [qW]at *);(try simp only [zQ,zA,zB,zC,zD,zE,zF,zG,zH,zI,zJ,zK,zL,zM,zN,zO,zP,zR,zS]at *);omega));intro ix h0 h1;exfalso;(try simp only [qW]at *);(try simp only [zQ,zA,zB,zC,zD,zE,zF,zG,zH,zI,zJ,zK,zL,zM,zN,zO,zP,zR,zS]at *);omega)
        |skip
    · rintro ⟨⟨i,K,Q⟩,hi,hK,hQ⟩
      cbv
      dsimp only at hi hK hQ
      have hs:=tb_bd (maskN (leaveL c l) (leaveL c l).length) i
      have ht:=tb_bd (o%2^l.length) i
      have hK6:K.length≤6:=by have:=keep_len l (maskN (leaveL c l) (leaveL c l).length) i;rw [←hK]at this;omega
      have hQ6:Q.length≤6:=by have:=keep_len l (o%2^l.length) i;rw [←hQ]at this;omega
      by_cases hiE:i=l.length
      · repeat' (first
            |with_reducible refine hold ?_ ?_
            |with_reducible refine And.intro ?_ ?_
            | (with_reducible refine qU ?_ ?_
               try cbv)
            |(with_reducible intro hcd;(try simp only [zA,zB,zC,zD,zE,zF,zG,zH,zI,zJ,zK,zL,zM,zN,zO,zP]at hcd);try cbv)
            | (refine qQ ?_ (c17) ?hfit
               case hfit=>((repeat' (first|exact qB|refine qD ?_ ?_|exact qE (by rfl)|exact qG (by rfl)|exact Fit.refl _|exact qA|refine qC ?_ rfl ?_));done)
               try cbv)
            | (refine qQ ?_ (c15) ?hfit
               case hfit=>((repeat' (first|exact qB|refine qD ?_ ?_|exact qE (by rfl)|exact qG (by rfl)|exact Fit.refl _|exact qA|refine qC ?_ rfl ?_));done)
               try cbv)
            | (refine qQ ?_ (c55) ?hfit
               case hfit=>((repeat' (first|exact qB|refine qD ?_ ?_|exact qE (by rfl)|exact qG (by rfl)|exact Fit.refl _|exact qA|refine qC ?_ rfl ?_));done)
               try cbv)
            | (refine qQ ?_ (c54) ?hfit
               case hfit=>((repeat' (first|exact qB|refine qD ?_ ?_|exact qE (by rfl)|exact qG (by rfl)|exact Fit.refl _|exact qA|refine qC ?_ rfl ?_));done)
               try cbv)
            | (with_reducible refine shr_k ?_ ?_
               try cbv)
            | (obtain⟨K2,eK2⟩:∃y:List LookT,y=K++[l.getD i k0]:=⟨_,rfl⟩
               refine⟨looksE K2,?_⟩
               cbv
               refine hold (hold_lookapp (L:=K) eK2 (by(first|rfl|((try simp only [qW]at *);(try simp only [zQ,zA,zB,zC,zD,zE,zF,zG,zH,zI,zJ,zK,zL,zM,zN,zO,zP,zR,zS]at *);done)|((try simp only [qW]at *);(try simp only [zQ,zA,zB,zC,zD,zE,zF,zG,zH,zI,zJ,zK,zL,zM,zN,zO,zP,zR,zS]at *);omega))) (by rfl) (fun ix=>Fit.refl _) (fun ix h=>Fit.refl _) (by(try simp only [qW]at *);(try simp only [zQ,zA,zB,zC,zD,zE,zF,zG,zH,zI,zJ,zK,zL,zM,zN,zO,zP,zR,zS]at *);omega)) (Or.inl ?_)
               try cbv)
            | (obtain⟨Q2,eQ2⟩:∃y:List LookT,y=Q++[l.getD i k0]:=⟨_,rfl⟩
               refine⟨looksE Q2,?_⟩
               cbv
               refine hold (hold_lookapp (L:=Q) eQ2 (by(first|rfl|((try simp only [qW]at *);(try simp only [zQ,zA,zB,zC,zD,zE,zF,zG,zH,zI,zJ,zK,zL,zM,zN,zO,zP,zR,zS]at *);done)|((try simp only [qW]at *);(try simp only [zQ,zA,zB,zC,zD,zE,zF,zG,zH,zI,zJ,zK,zL,zM,zN,zO,zP,zR,zS]at *);omega))) (by rfl) (fun ix=>Fit.refl _) (fun ix h=>Fit.refl _) (by(try simp only [qW]at *);(try simp only [zQ,zA,zB,zC,zD,zE,zF,zG,zH,zI,zJ,zK,zL,zM,zN,zO,zP,zR,zS]at *);omega)) (Or.inl ?_)
               try cbv)
            | (refine⟨some [],(215:Nat),?_⟩
               cbv
               refine setl_k ?_ (c31k K hK6) (by cbv;(repeat' (first|exact qB|refine qD ?_ ?_|exact qE (by rfl)|exact qG (by rfl)|exact Fit.refl _|exact qA|refine qC ?_ rfl ?_)))
               try cbv
               fail_if_success (show False))
            | (refine⟨some [],(216:Nat),?_⟩
               cbv
               refine setl_k ?_ (c31k Q hQ6) (by cbv;(repeat' (first|exact qB|refine qD ?_ ?_|exact qE (by rfl)|exact qG (by rfl)|exact Fit.refl _|exact qA|refine qC ?_ rfl ?_)))
               try cbv
               fail_if_success (show False))
            | (refine qQ ?_ (c31k K hK6) ?hfit
               case hfit=>((repeat' (first|exact qB|refine qD ?_ ?_|exact qE (by rfl)|exact qG (by rfl)|exact Fit.refl _|exact qA|refine qC ?_ rfl ?_));done)
               try cbv)
            | (refine qQ ?_ (c51k K (by rw [hK,hiE])) ?hfit
               case hfit=>((repeat' (first|exact qB|refine qD ?_ ?_|exact qE (by rfl)|exact qG (by rfl)|exact Fit.refl _|exact qA|refine qC ?_ rfl ?_));done)
               try cbv)
            | (refine qQ ?_ (c51q Q (by rw [hQ,hiE])) ?hfit
               case hfit=>((repeat' (first|exact qB|refine qD ?_ ?_|exact qE (by rfl)|exact qG (by rfl)|exact Fit.refl _|exact qA|refine qC ?_ rfl ?_));done)
               try cbv)
            | (refine qQ ?_ (c49 K (by rw [hK,hiE])) ?hfit
               case hfit=>((repeat' (first|exact qB|refine qD ?_ ?_|exact qE (by rfl)|exact qG (by rfl)|exact Fit.refl _|exact qA|refine qC ?_ rfl ?_));done)
               try cbv)
            |fail)
        all_goals first
          |trivial
          |((try clear c15);(try clear c42);(try clear c44);(try clear c17);(try clear c31);(try clear c45);(try clear c31k);(try clear c51k);(try clear c51q);(try clear c49);(try clear c55);(try clear c54);((try simp only [qW]at *);(try simp only [zQ,zA,zB,zC,zD,zE,zF,zG,zH,zI,zJ,zK,zL,zM,zN,zO,zP,zR,zS,allB_t,allB_f,inB_t,inB_f,ofB_t,ofB_f,shB_t,shB_f,spB_t,spB_f]at *);first|(refine qO ?_;omega)|(simp only [Hold];omega)))
          |((try clear c15);(try clear c42);(try clear c44);(try clear c17);(try clear c31);(try clear c45);(try clear c31k);(try clear c51k);(try clear c51q);(try clear c49);(try clear c55);(try clear c54);(subst hR;(repeat' (first|exact qA|exact qB|refine qC ?_ rfl ?_|refine qD ?_ ?_|exact qE (by rfl)|exact qG (by rfl)|exact Fit.refl _|exact qH _|(refine qE ?_;(try simp only [qW]at *);simp only [zQ,zA,zB,zC,zD,zE,zF,zG,zH,zI,zJ,zK,zL,zM,zN,zO,zP,zR,zS]at *;omega)));done))
          |((try clear c15);(try clear c42);(try clear c44);(try clear c17);(try clear c31);(try clear c45);(try clear c31k);(try clear c51k);(try clear c51q);(try clear c49);(try clear c55);(try clear c54);((try simp only [zQ,zA,zB,zC,zD,zE,zF,zG,zH,zI,zJ,zK,zL,zM,zN,zO,zP,zR,zS]at *);refine⟨⟨(i+1,K2,Q2),by((try simp only [qW]at *);(try simp only [zQ,zA,zB,zC,zD,zE,zF,zG,zH,zI,zJ,zK,zL,zM,zN,zO,zP,zR,zS]at *);omega),by rw [eK2,hK];exact(keep_y (by(try simp only [qW]at *);assumption)).symm,by rw [eQ2,hQ];exact(keep_y (by(try simp only [qW]at *);assumption)).symm⟩,by simp only [];omega,?_⟩;cbv;(repeat' (first|with_reducible refine hold ?_ ?_|with_reducible refine And.intro ?_ ?_));(all_goals first|trivial|exact qN (qE (by rfl))|exact qN (qG (by rfl))|exact qN (Fit.refl _)|exact qM (qL _)|(refine qN (qE ?_);(try simp only [qW]at *);simp only [zQ,zA,zB,zC,zD,zE,zF,zG,zH,zI,zJ,zK,zL,zM,zN,zO,zP,zR,zS]at *;omega)|(refine qM (qK ?_);(repeat' (first|exact qA|exact qB|refine qC ?_ rfl ?_|refine qD ?_ ?_|exact qE (by rfl)|exact qG (by rfl)|exact Fit.refl _|exact qH _|(refine qE ?_;(try simp only [qW]at *);simp only [zQ,zA,zB,zC,zD,zE,zF,zG,zH,zI,zJ,zK,zL,zM,zN,zO,zP,zR,zS]at *;omega)));done)|(refine qM (ble_row ?_ ?_);(first|rfl|((try simp only [qW]at *);(try simp only [zQ,zA,zB,zC,zD,zE,zF,zG,zH,zI,zJ,zK,zL,zM,zN,zO,zP,zR,zS]at *);simp only [eK2,List.length_append,List.length_cons,List.length_nil];omega));intro ix h0 h1;exact Fit.refl _)|(refine qM (ble_row ?_ ?_);(first|rfl|((try simp only [qW]at *);(try simp only [zQ,zA,zB,zC,zD,zE,zF,zG,zH,zI,zJ,zK,zL,zM,zN,zO,zP,zR,zS]at *);simp only [eQ2,List.length_append,List.length_cons,List.length_nil];omega));intro ix h0 h1;exact Fit.refl _)|skip)))
          |((try clear c15);(try clear c42);(try clear c44);(try clear c17);(try clear c31);(try clear c45);(try clear c31k);(try clear c51k);(try clear c51q);(try clear c49);(try clear c55);(try clear c54);((try simp only [zQ,zA,zB,zC,zD,zE,zF,zG,zH,zI,zJ,zK,zL,zM,zN,zO,zP,zR,zS]at *);refine⟨⟨(i+1,K2,Q),by((try simp only [qW]at *);(try simp only [zQ,zA,zB,zC,zD,zE,zF,zG,zH,zI,zJ,zK,zL,zM,zN,zO,zP,zR,zS]at *);omega),by rw [eK2,hK];exact(keep_y (by(try simp only [qW]at *);assumption)).symm,by rw [hQ];exact(keep_n (by(try simp only [qW]at *);assumption)).symm⟩,by simp only [];omega,?_⟩;cbv;(repeat' (first|with_reducible refine hold ?_ ?_|with_reducible refine And.intro ?_ ?_));(all_goals first|trivial|exact qN (qE (by rfl))|exact qN (qG (by rfl))|exact qN (Fit.refl _)|exact qM (qL _)|(refine qN (qE ?_);(try simp only [qW]at *);simp only [zQ,zA,zB,zC,zD,zE,zF,zG,zH,zI,zJ,zK,zL,zM,zN,zO,zP,zR,zS]at *;omega)|(refine qM (qK ?_);(repeat' (first|exact qA|exact qB|refine qC ?_ rfl ?_|refine qD ?_ ?_|exact qE (by rfl)|exact qG (by rfl)|exact Fit.refl _|exact qH _|(refine qE ?_;(try simp only [qW]at *);simp only [zQ,zA,zB,zC,zD,zE,zF,zG,zH,zI,zJ,zK,zL,zM,zN,zO,zP,zR,zS]at *;omega)));done)|(refine qM (ble_row ?_ ?_);(first|rfl|((try simp only [qW]at *);(try simp only [zQ,zA,zB,zC,zD,zE,zF,zG,zH,zI,zJ,zK,zL,zM,zN,zO,zP,zR,zS]at *);simp only [eK2,List.length_append,List.length_cons,List.length_nil];omega));intro ix h0 h1;exact Fit.refl _)|(refine qM (ble_row ?_ ?_);(first|rfl|((try simp only [qW]at *);(try simp only [zQ,zA,zB,zC,zD,zE,zF,zG,zH,zI,zJ,zK,zL,zM,zN,zO,zP,zR,zS]at *);simp only [List.length_append,List.length_cons,List.length_nil];omega));intro ix h0 h1;exact Fit.refl _)|skip)))
          |((try clear c15);(try clear c42);(try clear c44);(try clear c17);(try clear c31);(try clear c45);(try clear c31k);(try clear c51k);(try clear c51q);(try clear c49);(try clear c55);(try clear c54);((try simp only [zQ,zA,zB,zC,zD,zE,zF,zG,zH,zI,zJ,zK,zL,zM,zN,zO,zP,zR,zS]at *);refine⟨⟨(i+1,K,Q2),by((try simp only [qW]at *);(try simp only [zQ,zA,zB,zC,zD,zE,zF,zG,zH,zI,zJ,zK,zL,zM,zN,zO,zP,zR,zS]at *);omega),by rw [hK];exact(keep_n (by(try simp only [qW]at *);assumption)).symm,by rw [eQ2,hQ];exact(keep_y (by(try simp only [qW]at *);assumption)).symm⟩,by simp only [];omega,?_⟩;cbv;(repeat' (first|with_reducible refine hold ?_ ?_|with_reducible refine And.intro ?_ ?_));(all_goals first|trivial|exact qN (qE (by rfl))|exact qN (qG (by rfl))|exact qN (Fit.refl _)|exact qM (qL _)|(refine qN (qE ?_);(try simp only [qW]at *);simp only [zQ,zA,zB,zC,zD,zE,zF,zG,zH,zI,zJ,zK,zL,zM,zN,zO,zP,zR,zS]at *;omega)|(refine qM (qK ?_);(repeat' (first|exact qA|exact qB|refine qC ?_ rfl ?_|refine qD ?_ ?_|exact qE (by rfl)|exact qG (by rfl)|exact Fit.refl _|exact qH _|(refine qE ?_;(try simp only [qW]at *);simp only [zQ,zA,zB,zC,zD,zE,zF,zG,zH,zI,zJ,zK,zL,zM,zN,zO,zP,zR,zS]at *;omega)));done)|(refine qM (ble_row ?_ ?_);(first|rfl|((try simp only [qW]at *);(try simp only [zQ,zA,zB,zC,zD,zE,zF,zG,zH,zI,zJ,zK,zL,zM,zN,zO,zP,zR,zS]at *);simp only [List.length_append,List.length_cons,List.length_nil];omega));intro ix h0 h1;exact Fit.refl _)|(refine qM (ble_row ?_ ?_);(first|rfl|((try simp only [qW]at *);(try simp only [zQ,zA,zB,zC,zD,zE,zF,zG,zH,zI,zJ,zK,zL,zM,zN,zO,zP,zR,zS]at *);simp only [eQ2,List.length_append,List.length_cons,List.length_nil];omega));intro ix h0 h1;exact Fit.refl _)|skip)))
          |((try clear c15);(try clear c42);(try clear c44);(try clear c17);(try clear c31);(try clear c45);(try clear c31k);(try clear c51k);(try clear c51q);(try clear c49);(try clear c55);(try clear c54);((try simp only [zQ,zA,zB,zC,zD,zE,zF,zG,zH,zI,zJ,zK,zL,zM,zN,zO,zP,zR,zS]at *);refine⟨⟨(i+1,K,Q),by((try simp only [qW]at *);(try simp only [zQ,zA,zB,zC,zD,zE,zF,zG,zH,zI,zJ,zK,zL,zM,zN,zO,zP,zR,zS]at *);omega),by rw [hK];exact(keep_n (by(try simp only [qW]at *);assumption)).symm,by rw [hQ];exact(keep_n (by(try simp only [qW]at *);assumption)).symm⟩,by simp only [];omega,?_⟩;cbv;(repeat' (first|with_reducible refine hold ?_ ?_|with_reducible refine And.intro ?_ ?_));(all_goals first|trivial|exact qN (qE (by rfl))|exact qN (qG (by rfl))|exact qN (Fit.refl _)|exact qM (qL _)|(refine qN (qE ?_);(try simp only [qW]at *);simp only [zQ,zA,zB,zC,zD,zE,zF,zG,zH,zI,zJ,zK,zL,zM,zN,zO,zP,zR,zS]at *;omega)|(refine qM (qK ?_);(repeat' (first|exact qA|exact qB|refine qC ?_ rfl ?_|refine qD ?_ ?_|exact qE (by rfl)|exact qG (by rfl)|exact Fit.refl _|exact qH _|(refine qE ?_;(try simp only [qW]at *);simp only [zQ,zA,zB,zC,zD,zE,zF,zG,zH,zI,zJ,zK,zL,zM,zN,zO,zP,zR,zS]at *;omega)));done)|(refine qM (ble_row ?_ ?_);(first|rfl|((try simp only [qW]at *);(try simp only [zQ,zA,zB,zC,zD,zE,zF,zG,zH,zI,zJ,zK,zL,zM,zN,zO,zP,zR,zS]at *);simp only [List.length_append,List.length_cons,List.length_nil];omega));intro ix h0 h1;exact Fit.refl _)|(refine qM (ble_row ?_ ?_);(first|rfl|((try simp only [qW]at *);(try simp only [zQ,zA,zB,zC,zD,zE,zF,zG,zH,zI,zJ,zK,zL,zM,zN,zO,zP,zR,zS]at *);simp only [List.length_append,List.length_cons,List.length_nil];omega));intro ix h0 h1;exact Fit.refl _)|skip)))
          |skip
      · repeat' (first
            |with_reducible refine hold ?_ ?_
            |with_reducible refine And.intro ?_ ?_
            | (with_reducible refine qU ?_ ?_
               try cbv)
            |(with_reducible intro hcd;(try simp only [zA,zB,zC,zD,zE,zF,zG,zH,zI,zJ,zK,zL,zM,zN,zO,zP]at hcd);try cbv)
            | (refine qQ ?_ (c17) ?hfit
               case hfit=>((repeat' (first|exact qB|refine qD ?_ ?_|exact qE (by rfl)|exact qG (by rfl)|exact Fit.refl _|exact qA|refine qC ?_ rfl ?_));done)
               try cbv)
            | (with_reducible refine shr_k ?_ ?_
               try cbv)
            | (obtain⟨K2,eK2⟩:∃y:List LookT,y=K++[l.getD i k0]:=⟨_,rfl⟩
               refine⟨looksE K2,?_⟩
               cbv
               refine hold (hold_lookapp (L:=K) eK2 (by(first|rfl|((try simp only [qW]at *);(try simp only [zQ,zA,zB,zC,zD,zE,zF,zG,zH,zI,zJ,zK,zL,zM,zN,zO,zP,zR,zS]at *);done)|((try simp only [qW]at *);(try simp only [zQ,zA,zB,zC,zD,zE,zF,zG,zH,zI,zJ,zK,zL,zM,zN,zO,zP,zR,zS]at *);omega))) (by rfl) (fun ix=>Fit.refl _) (fun ix h=>Fit.refl _) (by(try simp only [qW]at *);(try simp only [zQ,zA,zB,zC,zD,zE,zF,zG,zH,zI,zJ,zK,zL,zM,zN,zO,zP,zR,zS]at *);omega)) (Or.inl ?_)
               try cbv)
            | (obtain⟨Q2,eQ2⟩:∃y:List LookT,y=Q++[l.getD i k0]:=⟨_,rfl⟩
               refine⟨looksE Q2,?_⟩
               cbv
               refine hold (hold_lookapp (L:=Q) eQ2 (by(first|rfl|((try simp only [qW]at *);(try simp only [zQ,zA,zB,zC,zD,zE,zF,zG,zH,zI,zJ,zK,zL,zM,zN,zO,zP,zR,zS]at *);done)|((try simp only [qW]at *);(try simp only [zQ,zA,zB,zC,zD,zE,zF,zG,zH,zI,zJ,zK,zL,zM,zN,zO,zP,zR,zS]at *);omega))) (by rfl) (fun ix=>Fit.refl _) (fun ix h=>Fit.refl _) (by(try simp only [qW]at *);(try simp only [zQ,zA,zB,zC,zD,zE,zF,zG,zH,zI,zJ,zK,zL,zM,zN,zO,zP,zR,zS]at *);omega)) (Or.inl ?_)
               try cbv)
            | (refine⟨some [],(215:Nat),?_⟩
               cbv
               refine setl_k ?_ (c31k K hK6) (by cbv;(repeat' (first|exact qB|refine qD ?_ ?_|exact qE (by rfl)|exact qG (by rfl)|exact Fit.refl _|exact qA|refine qC ?_ rfl ?_)))
               try cbv
               fail_if_success (show False))
            |fail)
        all_goals first
          |((try clear c15);(try clear c42);(try clear c44);(try clear c17);(try clear c31);(try clear c45);(try clear c31k);(try clear c51k);(try clear c51q);(try clear c49);(try clear c55);(try clear c54);((try simp only [qW]at *);(try simp only [zQ,zA,zB,zC,zD,zE,zF,zG,zH,zI,zJ,zK,zL,zM,zN,zO,zP,zR,zS,allB_t,allB_f,inB_t,inB_f,ofB_t,ofB_f,shB_t,shB_f,spB_t,spB_f]at *);first|(refine qO ?_;omega)|(simp only [Hold];omega)))
          |((try clear c15);(try clear c42);(try clear c44);(try clear c17);(try clear c31);(try clear c45);(try clear c31k);(try clear c51k);(try clear c51q);(try clear c49);(try clear c55);(try clear c54);((try simp only [qW]at *);(try simp only [zQ,zA,zB,zC,zD,zE,zF,zG,zH,zI,zJ,zK,zL,zM,zN,zO,zP,zR,zS]at *);first|(refine hold_u64 ?_;omega)|(refine hold_u8 ?_;omega)|(refine hold_sh64 ?_;omega)|(refine qO ?_;omega)))
          |((try clear c15);(try clear c42);(try clear c44);(try clear c17);(try clear c31);(try clear c45);(try clear c31k);(try clear c51k);(try clear c51q);(try clear c49);(try clear c55);(try clear c54);((try simp only [zQ,zA,zB,zC,zD,zE,zF,zG,zH,zI,zJ,zK,zL,zM,zN,zO,zP,zR,zS]at *);refine⟨⟨(i+1,K2,Q2),by((try simp only [qW]at *);(try simp only [zQ,zA,zB,zC,zD,zE,zF,zG,zH,zI,zJ,zK,zL,zM,zN,zO,zP,zR,zS]at *);omega),by rw [eK2,hK];exact(keep_y (by(try simp only [qW]at *);assumption)).symm,by rw [eQ2,hQ];exact(keep_y (by(try simp only [qW]at *);assumption)).symm⟩,by simp only [];omega,?_⟩;cbv;(repeat' (first|with_reducible refine hold ?_ ?_|with_reducible refine And.intro ?_ ?_));(all_goals first|trivial|exact qN (qE (by rfl))|exact qN (qG (by rfl))|exact qN (Fit.refl _)|exact qM (qL _)|(refine qN (qE ?_);(try simp only [qW]at *);simp only [zQ,zA,zB,zC,zD,zE,zF,zG,zH,zI,zJ,zK,zL,zM,zN,zO,zP,zR,zS]at *;omega)|(refine qM (qK ?_);(repeat' (first|exact qA|exact qB|refine qC ?_ rfl ?_|refine qD ?_ ?_|exact qE (by rfl)|exact qG (by rfl)|exact Fit.refl _|exact qH _|(refine qE ?_;(try simp only [qW]at *);simp only [zQ,zA,zB,zC,zD,zE,zF,zG,zH,zI,zJ,zK,zL,zM,zN,zO,zP,zR,zS]at *;omega)));done)|(refine qM (ble_row ?_ ?_);(first|rfl|((try simp only [qW]at *);(try simp only [zQ,zA,zB,zC,zD,zE,zF,zG,zH,zI,zJ,zK,zL,zM,zN,zO,zP,zR,zS]at *);simp only [eK2,List.length_append,List.length_cons,List.length_nil];omega));intro ix h0 h1;exact Fit.refl _)|(refine qM (ble_row ?_ ?_);(first|rfl|((try simp only [qW]at *);(try simp only [zQ,zA,zB,zC,zD,zE,zF,zG,zH,zI,zJ,zK,zL,zM,zN,zO,zP,zR,zS]at *);simp only [eQ2,List.length_append,List.length_cons,List.length_nil];omega));intro ix h0 h1;exact Fit.refl _)|skip)))
          |((try clear c15);(try clear c42);(try clear c44);(try clear c17);(try clear c31);(try clear c45);(try clear c31k);(try clear c51k);(try clear c51q);(try clear c49);(try clear c55);(try clear c54);((try simp only [zQ,zA,zB,zC,zD,zE,zF,zG,zH,zI,zJ,zK,zL,zM,zN,zO,zP,zR,zS]at *);refine⟨⟨(i+1,K2,Q),by((try simp only [qW]at *);(try simp only [zQ,zA,zB,zC,zD,zE,zF,zG,zH,zI,zJ,zK,zL,zM,zN,zO,zP,zR,zS]at *);omega),by rw [eK2,hK];exact(keep_y (by(try simp only [qW]at *);assumption)).symm,by rw [hQ];exact(keep_n (by(try simp only [qW]at *);assumption)).symm⟩,by simp only [];omega,?_⟩;cbv;(repeat' (first|with_reducible refine hold ?_ ?_|with_reducible refine And.intro ?_ ?_));(all_goals first|trivial|exact qN (qE (by rfl))|exact qN (qG (by rfl))|exact qN (Fit.refl _)|exact qM (qL _)|(refine qN (qE ?_);(try simp only [qW]at *);simp only [zQ,zA,zB,zC,zD,zE,zF,zG,zH,zI,zJ,zK,zL,zM,zN,zO,zP,zR,zS]at *;omega)|(refine qM (qK ?_);(repeat' (first|exact qA|exact qB|refine qC ?_ rfl ?_|refine qD ?_ ?_|exact qE (by rfl)|exact qG (by rfl)|exact Fit.refl _|exact qH _|(refine qE ?_;(try simp only [qW]at *);simp only [zQ,zA,zB,zC,zD,zE,zF,zG,zH,zI,zJ,zK,zL,zM,zN,zO,zP,zR,zS]at *;omega)));done)|(refine qM (ble_row ?_ ?_);(first|rfl|((try simp only [qW]at *);(try simp only [zQ,zA,zB,zC,zD,zE,zF,zG,zH,zI,zJ,zK,zL,zM,zN,zO,zP,zR,zS]at *);simp only [eK2,List.length_append,List.length_cons,List.length_nil];omega));intro ix h0 h1;exact Fit.refl _)|(refine qM (ble_row ?_ ?_);(first|rfl|((try simp only [qW]at *);(try simp only [zQ,zA,zB,zC,zD,zE,zF,zG,zH,zI,zJ,zK,zL,zM,zN,zO,zP,zR,zS]at *);simp only [List.length_append,List.length_cons,List.length_nil];omega));intro ix h0 h1;exact Fit.refl _)|skip)))
          |((try clear c15);(try clear c42);(try clear c44);(try clear c17);(try clear c31);(try clear c45);(try clear c31k);(try clear c51k);(try clear c51q);(try clear c49);(try clear c55);(try clear c54);((try simp only [zQ,zA,zB,zC,zD,zE,zF,zG,zH,zI,zJ,zK,zL,zM,zN,zO,zP,zR,zS]at *);refine⟨⟨(i+1,K,Q2),by((try simp only [qW]at *);(try simp only [zQ,zA,zB,zC,zD,zE,zF,zG,zH,zI,zJ,zK,zL,zM,zN,zO,zP,zR,zS]at *);omega),by rw [hK];exact(keep_n (by(try simp only [qW]at *);assumption)).symm,by rw [eQ2,hQ];exact(keep_y (by(try simp only [qW]at *);assumption)).symm⟩,by simp only [];omega,?_⟩;cbv;(repeat' (first|with_reducible refine hold ?_ ?_|with_reducible refine And.intro ?_ ?_));(all_goals first|trivial|exact qN (qE (by rfl))|exact qN (qG (by rfl))|exact qN (Fit.refl _)|exact qM (qL _)|(refine qN (qE ?_);(try simp only [qW]at *);simp only [zQ,zA,zB,zC,zD,zE,zF,zG,zH,zI,zJ,zK,zL,zM,zN,zO,zP,zR,zS]at *;omega)|(refine qM (qK ?_);(repeat' (first|exact qA|exact qB|refine qC ?_ rfl ?_|refine qD ?_ ?_|exact qE (by rfl)|exact qG (by rfl)|exact Fit.refl _|exact qH _|(refine qE ?_;(try simp only [qW]at *);simp only [zQ,zA,zB,zC,zD,zE,zF,zG,zH,zI,zJ,zK,zL,zM,zN,zO,zP,zR,zS]at *;omega)));done)|(refine qM (ble_row ?_ ?_);(first|rfl|((try simp only [qW]at *);(try simp only [zQ,zA,zB,zC,zD,zE,zF,zG,zH,zI,zJ,zK,zL,zM,zN,zO,zP,zR,zS]at *);simp only [List.length_append,List.length_cons,List.length_nil];omega));intro ix h0 h1;exact Fit.refl _)|(refine qM (ble_row ?_ ?_);(first|rfl|((try simp only [qW]at *);(try simp only [zQ,zA,zB,zC,zD,zE,zF,zG,zH,zI,zJ,zK,zL,zM,zN,zO,zP,zR,zS]at *);simp only [eQ2,List.length_append,List.length_cons,List.length_nil];omega));intro ix h0 h1;exact Fit.refl _)|skip)))
          |((try clear c15);(try clear c42);(try clear c44);(try clear c17);(try clear c31);(try clear c45);(try clear c31k);(try clear c51k);(try clear c51q);(try clear c49);(try clear c55);(try clear c54);((try simp only [zQ,zA,zB,zC,zD,zE,zF,zG,zH,zI,zJ,zK,zL,zM,zN,zO,zP,zR,zS]at *);refine⟨⟨(i+1,K,Q),by((try simp only [qW]at *);(try simp only [zQ,zA,zB,zC,zD,zE,zF,zG,zH,zI,zJ,zK,zL,zM,zN,zO,zP,zR,zS]at *);omega),by rw [hK];exact(keep_n (by(try simp only [qW]at *);assumption)).symm,by rw [hQ];exact(keep_n (by(try simp only [qW]at *);assumption)).symm⟩,by simp only [];omega,?_⟩;cbv;(repeat' (first|with_reducible refine hold ?_ ?_|with_reducible refine And.intro ?_ ?_));(all_goals first|trivial|exact qN (qE (by rfl))|exact qN (qG (by rfl))|exact qN (Fit.refl _)|exact qM (qL _)|(refine qN (qE ?_);(try simp only [qW]at *);simp only [zQ,zA,zB,zC,zD,zE,zF,zG,zH,zI,zJ,zK,zL,zM,zN,zO,zP,zR,zS]at *;omega)|(refine qM (qK ?_);(repeat' (first|exact qA|exact qB|refine qC ?_ rfl ?_|refine qD ?_ ?_|exact qE (by rfl)|exact qG (by rfl)|exact Fit.refl _|exact qH _|(refine qE ?_;(try simp only [qW]at *);simp only [zQ,zA,zB,zC,zD,zE,zF,zG,zH,zI,zJ,zK,zL,zM,zN,zO,zP,zR,zS]at *;omega)));done)|(refine qM (ble_row ?_ ?_);(first|rfl|((try simp only [qW]at *);(try simp only [zQ,zA,zB,zC,zD,zE,zF,zG,zH,zI,zJ,zK,zL,zM,zN,zO,zP,zR,zS]at *);simp only [List.length_append,List.length_cons,List.length_nil];omega));intro ix h0 h1;exact Fit.refl _)|(refine qM (ble_row ?_ ?_);(first|rfl|((try simp only [qW]at *);(try simp only [zQ,zA,zB,zC,zD,zE,zF,zG,zH,zI,zJ,zK,zL,zM,zN,zO,zP,zR,zS]at *);simp only [List.length_append,List.length_cons,List.length_nil];omega));intro ix h0 h1;exact Fit.refl _)|skip)))
          |((try clear c15);(try clear c42);(try clear c44);(try clear c17);(try clear c31);(try clear c45);(try clear c31k);(try clear c51k);(try clear c51q);(try clear c49);(try clear c55);(try clear c54);(exfalso;(try simp only [qW]at *);(try simp only [zQ,zA,zB,zC,zD,zE,zF,zG,zH,zI,zJ,zK,zL,zM,zN,zO,zP,zR,zS]at *);(try simp only [allB_t,allB_f,inB_t,inB_f,ofB_t,ofB_f,shB_t,shB_f,spB_t,spB_f]at *);omega))
          |skip
set_option maxHeartbeats 1000000 in
theorem law13yB (c:Clr)(l:List LookT)(o:Nat)(ho:o≤255)(hT:ThinC c 0)(hC:COk c)(hL:lookF c l=0)(hE:askE c (keepN l (o%2^l.length) l.length)=11):FSpec Try.prog 13 [(clrS c),(lksS l),(.int .u8 (.sym fun _=>zi o))] [] (fun r _=>r=(.bool (.lit true))):=by
  have hl6:=(lookF_iff.1 hL).len
  have hA:=(leave_spec (looked_z hC hL)).1
  have hlen:=leave_len (looked_z hC hL)
  have hXa:=asc_at hA
  have hXl:=asc_lt hA
  have hml:∀i,i<(leaveL c l).length→maskN (leaveL c l) i<2^6:=fun i hi=>Nat.lt_of_lt_of_le (mask_lt (m:=l.length) fun j hj=>by have:=hXa j (by omega);omega) (Nat.pow_le_pow_right (by decide) hl6)
  have hmz:maskN (leaveL c l) (leaveL c l).length<2^6:=Nat.lt_of_lt_of_le (mask_lt (m:=l.length) fun j hj=>by have:=hXa j (by omega);omega) (Nat.pow_le_pow_right (by decide) hl6)
  have hpl:∀i,i<(leaveL c l).length→2^((leaveL c l).getD i 0).toNat<2^6:=fun i hi=>Nat.pow_lt_pow_right (by decide) (by have:=hXa i hi;omega)
  have hTl:o%2^l.length<2^l.length:=Nat.mod_lt _ (Nat.pow_pos (by decide))
  have hTz:o%2^l.length<2^6:=Nat.lt_of_lt_of_le hTl (Nat.pow_le_pow_right (by decide) hl6)
  have c15:=awake15
  have c42:=lit_t (ready42 c) (ready_t.2 ⟨hT,hC⟩)
  have c44:=lit_i (lookfault44 c l hC.fewT) hL
  have c17:=cellar17 c (by have:=hT.v;omega) (by have:=hT.t;omega) (fun i hi=>by have:=hT.p i hi;omega)
  have c31:=looks31 l (by omega)
  have c45:=leave_y (looked_z hC hL)
  have c31k:=fun (K:List LookT) (h:K.length≤6)=>looks31 K (by omega)
  have c51k:=fun (K:List LookT) (h:K=(keepN l (maskN (leaveL c l) (leaveL c l).length) l.length))=>left_show (c:=c) (K:=K) (e:=0) (by rw [h];exact left_ask hC hL)
  have c51q:=fun (K:List LookT) (h:K=(keepN l (o%2^l.length) l.length))=>left_show (c:=c) (K:=K) (e:=11) (by rw [h];exact hE)
  have c49:=fun (K:List LookT) (h:K=(keepN l (maskN (leaveL c l) (leaveL c l).length) l.length))=>lit_t (prove49 c K (shM c K) (shS c K) (shR c K) (by have:=hT.v;omega)) (show_prove (by rw [h];exact left_ask hC hL))
  refine FSpec.is fun R hR=>qX (sc:=sc13) tyok mix Try.func13 rfl Try.call13 (by kernel_rfl) (by kernel_rfl) ?_
  generalize Try.prog=P at c15 c42 c44 c17 c31 c45 c31k c51k c51q c49⊢
  cbv
  repeat' (first
      |with_reducible refine And.intro ?_ ?_
      |(with_reducible intro hcd;(try simp only [zA,zB,zC,zD,zE,zF,zG,zH,zI,zJ,zK,zL,zM,zN,zO,zP]at hcd);try cbv)
      | (refine qQ ?_ (c42) ?hfit
         case hfit=>((repeat' (first|exact qB|refine qD ?_ ?_|exact qE (by rfl)|exact qG (by rfl)|exact Fit.refl _|exact qA|refine qC ?_ rfl ?_));done)
         try cbv)
      | (refine qQ ?_ (c44) ?hfit
         case hfit=>((repeat' (first|exact qB|refine qD ?_ ?_|exact qE (by rfl)|exact qG (by rfl)|exact Fit.refl _|exact qA|refine qC ?_ rfl ?_));done)
         try cbv)
      | (refine qQ ?_ (c17) ?hfit
         case hfit=>((repeat' (first|exact qB|refine qD ?_ ?_|exact qE (by rfl)|exact qG (by rfl)|exact Fit.refl _|exact qA|refine qC ?_ rfl ?_));done)
         try cbv)
      | (refine qQ ?_ (c31) ?hfit
         case hfit=>((repeat' (first|exact qB|refine qD ?_ ?_|exact qE (by rfl)|exact qG (by rfl)|exact Fit.refl _|exact qA|refine qC ?_ rfl ?_));done)
         try cbv)
      | (refine qQ ?_ (c45) ?hfit
         case hfit=>((repeat' (first|exact qB|refine qD ?_ ?_|exact qE (by rfl)|exact qG (by rfl)|exact Fit.refl _|exact qA|refine qC ?_ rfl ?_));done)
         try cbv)
      |fail)
  all_goals first
    |((try clear c15);(try clear c42);(try clear c44);(try clear c17);(try clear c31);(try clear c45);(try clear c31k);(try clear c51k);(try clear c51q);(try clear c49);(exfalso;(try simp only [qW]at *);(try simp only [zQ,zA,zB,zC,zD,zE,zF,zG,zH,zI,zJ,zK,zL,zM,zN,zO,zP,zR,zS]at *);(try simp only [allB_t,allB_f,inB_t,inB_f,ofB_t,ofB_f,shB_t,shB_f,spB_t,spB_f]at *);omega))
    |skip
  refine⟨none,[],{i:Nat // i≤(leaveL c l).length},fun x=>⟨[(3,.own 0 0),(1,(lksS l)),(7,(.sl 1 (.sym fun _=>zi ((leaveL c l)).length) (fun ix=>[.int .i64 (.sym fun _=>((leaveL c l)).getD ix.den.toNat 0)]))),(2,(.int .u8 (.sym fun _=>zi o))),(9,(.int .i64 (.sym fun _=>zi (maskN (leaveL c l) x.1)))),(10,(.int .i64 (.sym fun _=>zi x.1)))],[(0,.cells [(.int .i64 (.sym fun _=>c.rl)),(.int .i64 (.sym fun _=>c.rh)),(.int .i64 (.sym fun _=>c.hr)),(.sl 4 (.sym fun _=>zi c.vs.length) (fun ix=>[(.int .i64 (.sym fun _=>(c.vs.getD ix.den.toNat v0).sl)),(.int .i64 (.sym fun _=>(c.vs.getD ix.den.toNat v0).sh)),(.int .i64 (.sym fun _=>(c.vs.getD ix.den.toNat v0).rl)),(.int .i64 (.sym fun _=>(c.vs.getD ix.den.toNat v0).rh))])),(.sl 2 (.sym fun _=>zi c.ts.length) (fun ix=>[(.int .i64 (.sym fun _=>(c.ts.getD ix.den.toNat t0).top)),(.sl 3 (.sym fun _=>zi ((c.ts.getD ix.den.toNat t0).ps).length) (fun jx=>[(.int .i64 (.sym fun _=>(((c.ts.getD ix.den.toNat t0).ps).getD jx.den.toNat p0).f)),(.int .i64 (.sym fun _=>(((c.ts.getD ix.den.toNat t0).ps).getD jx.den.toNat p0).el)),(.int .i64 (.sym fun _=>(((c.ts.getD ix.den.toNat t0).ps).getD jx.den.toNat p0).eh))]))]))] 27)],200⟩,fun x=>(leaveL c l).length-x.1,?_,?_⟩
  · refine⟨⟨0,by omega⟩,?_⟩
    cbv
    repeat' (first
      |with_reducible refine hold ?_ ?_
      |with_reducible refine And.intro ?_ ?_)
    all_goals first
      |trivial
      |exact qN (qE (by rfl))
      |exact qN (Fit.refl _)
      |exact qM (qL _)
      |skip
  · rintro ⟨i, hi⟩
    cbv
    have hx1:i<(leaveL c l).length→0≤(leaveL c l).getD i 0∧(leaveL c l).getD i 0<l.length:=fun q=>by have:=hXa i q;omega
    have hx2:0<i→i<(leaveL c l).length→(leaveL c l).getD (zi i-1).toNat 0<(leaveL c l).getD i 0:=fun a b=>by rw [show(zi i-1).toNat=i-1 by simp only [zi_den];omega];exact hXl i a b
    repeat' (first
        | (refine rem_as (q:=zi (o%2^l.length)) ?_ ?_ ?_
           try cbv)
        |with_reducible refine hold ?_ ?_
        |with_reducible refine And.intro ?_ ?_
        |(with_reducible intro hcd;(try simp only [zA,zB,zC,zD,zE,zF,zG,zH,zI,zJ,zK,zL,zM,zN,zO,zP]at hcd);try cbv)
        | (with_reducible refine shl_k ?_ ?_ ?_
           try cbv)
        | (refine⟨zi (maskN (leaveL c l) i |||2^((leaveL c l).getD i 0).toNat),?_⟩
           cbv
           refine hold (or_ob3 (x:=maskN (leaveL c l) i) (y:=2^((leaveL c l).getD i 0).toNat) (by first|rfl|((try simp only [qW]at *);(try simp only [zQ,zA,zB,zC,zD,zE,zF,zG,zH,zI,zJ,zK,zL,zM,zN,zO,zP,zR,zS]at *);rfl)) (by((try simp only [qW]at *);(try simp only [zQ,zA,zB,zC,zD,zE,zF,zG,zH,zI,zJ,zK,zL,zM,zN,zO,zP,zR,zS]at *));(try simp)) (hml i (by((try simp only [qW]at *);(try simp only [zQ,zA,zB,zC,zD,zE,zF,zG,zH,zI,zJ,zK,zL,zM,zN,zO,zP,zR,zS]at *);omega))) (hpl i (by((try simp only [qW]at *);(try simp only [zQ,zA,zB,zC,zD,zE,zF,zG,zH,zI,zJ,zK,zL,zM,zN,zO,zP,zR,zS]at *);omega)))) ?_
           try cbv)
        |fail)
    all_goals first
      |((try clear c15);(try clear c42);(try clear c44);(try clear c17);(try clear c31);(try clear c45);(try clear c31k);(try clear c51k);(try clear c51q);(try clear c49);((try simp only [qW]at *);(try simp only [zQ,zA,zB,zC,zD,zE,zF,zG,zH,zI,zJ,zK,zL,zM,zN,zO,zP,zR,zS,allB_t,allB_f,inB_t,inB_f,ofB_t,ofB_f,shB_t,shB_f,spB_t,spB_f]at *);first|(refine qO ?_;omega)|(simp only [Hold];omega)))
      |((try clear c15);(try clear c42);(try clear c44);(try clear c17);(try clear c31);(try clear c45);(try clear c31k);(try clear c51k);(try clear c51q);(try clear c49);(exact p2_ok6 (q:=zi l.length) (by simp only [zi_den];omega) (by simp only [zi_den];omega)))
      |((try clear c15);(try clear c42);(try clear c44);(try clear c17);(try clear c31);(try clear c45);(try clear c31k);(try clear c51k);(try clear c51q);(try clear c49);((try simp only [qW]at *);(try simp only [zQ,zA,zB,zC,zD,zE,zF,zG,zH,zI,zJ,zK,zL,zM,zN,zO,zP,zR,zS]at *);first|(refine hold_u64 ?_;omega)|(refine hold_u8 ?_;omega)|(refine hold_sh64 ?_;omega)|(refine qO ?_;omega)))
      |((try clear c15);(try clear c42);(try clear c44);(try clear c17);(try clear c31);(try clear c45);(try clear c31k);(try clear c51k);(try clear c51q);(try clear c49);((try simp only [qW]at *);(try simp only [zQ,zA,zB,zC,zD,zE,zF,zG,zH,zI,zJ,zK,zL,zM,zN,zO,zP,zR,zS]at *);first|(exact p2_ok6 (by omega) (by omega))|(exact rem_ne _)|(exact rem_eq _ _)))
      |((try clear c15);(try clear c42);(try clear c44);(try clear c17);(try clear c31);(try clear c45);(try clear c31k);(try clear c51k);(try clear c51q);(try clear c49);(exfalso;(try simp only [qW]at *);(try simp only [zQ,zA,zB,zC,zD,zE,zF,zG,zH,zI,zJ,zK,zL,zM,zN,zO,zP,zR,zS]at *);(try simp only [allB_t,allB_f,inB_t,inB_f,ofB_t,ofB_f,shB_t,shB_f,spB_t,spB_f]at *);omega))
      |((try clear c15);(try clear c42);(try clear c44);(try clear c17);(try clear c31);(try clear c45);(try clear c31k);(try clear c51k);(try clear c51q);(try clear c49);((try simp only [zQ,zA,zB,zC,zD,zE,zF,zG,zH,zI,zJ,zK,zL,zM,zN,zO,zP,zR,zS]at *);refine⟨⟨i+1,by omega⟩,by simp only [];omega,?_⟩;cbv;(repeat' (first|with_reducible refine hold ?_ ?_|with_reducible refine And.intro ?_ ?_));(all_goals first|trivial|exact qN (qE (by rfl))|exact qN (qG (by rfl))|exact qN (Fit.refl _)|exact qM (qL _)|(refine qN (qE ?_);(try simp only [qW]at *);simp only [zQ,zA,zB,zC,zD,zE,zF,zG,zH,zI,zJ,zK,zL,zM,zN,zO,zP,zR,zS]at *;omega)|(refine qM (qK ?_);(repeat' (first|exact qA|exact qB|refine qC ?_ rfl ?_|refine qD ?_ ?_|exact qE (by rfl)|exact qG (by rfl)|exact Fit.refl _|exact qH _|(refine qE ?_;(try simp only [qW]at *);simp only [zQ,zA,zB,zC,zD,zE,zF,zG,zH,zI,zJ,zK,zL,zM,zN,zO,zP,zR,zS]at *;omega)));done)|(exact qN (qE rfl))|skip)))
      |skip
    (have hiE1:i=(leaveL c l).length:=(by((try simp only [qW]at *);(try simp only [zQ,zA,zB,zC,zD,zE,zF,zG,zH,zI,zJ,zK,zL,zM,zN,zO,zP,zR,zS]at *);omega)))
    subst hiE1
    refine⟨none,[⟨.tmp 12,90,4⟩,⟨.tmp 13,90,4⟩],{x:Nat×List LookT×List LookT // x.1≤l.length∧x.2.1=keepN l (maskN (leaveL c l) (leaveL c l).length) x.1∧x.2.2=keepN l (o%2^l.length) x.1},fun x=>⟨[(3,.own 0 0),(1,(lksS l)),(7,(.sl 1 (.sym fun _=>zi ((leaveL c l)).length) (fun ix=>[.int .i64 (.sym fun _=>((leaveL c l)).getD ix.den.toNat 0)]))),(9,(.int .i64 (.sym fun _=>zi (maskN (leaveL c l) (leaveL c l).length)))),(11,(.int .i64 (.sym fun _=>zi (o%2^l.length)))),(12,.row 215),(13,.row 216),(14,(.int .i64 (.sym fun _=>zi x.1.1)))],[(0,.cells [(.int .i64 (.sym fun _=>c.rl)),(.int .i64 (.sym fun _=>c.rh)),(.int .i64 (.sym fun _=>c.hr)),(.sl 4 (.sym fun _=>zi c.vs.length) (fun ix=>[(.int .i64 (.sym fun _=>(c.vs.getD ix.den.toNat v0).sl)),(.int .i64 (.sym fun _=>(c.vs.getD ix.den.toNat v0).sh)),(.int .i64 (.sym fun _=>(c.vs.getD ix.den.toNat v0).rl)),(.int .i64 (.sym fun _=>(c.vs.getD ix.den.toNat v0).rh))])),(.sl 2 (.sym fun _=>zi c.ts.length) (fun ix=>[(.int .i64 (.sym fun _=>(c.ts.getD ix.den.toNat t0).top)),(.sl 3 (.sym fun _=>zi ((c.ts.getD ix.den.toNat t0).ps).length) (fun jx=>[(.int .i64 (.sym fun _=>(((c.ts.getD ix.den.toNat t0).ps).getD jx.den.toNat p0).f)),(.int .i64 (.sym fun _=>(((c.ts.getD ix.den.toNat t0).ps).getD jx.den.toNat p0).el)),(.int .i64 (.sym fun _=>(((c.ts.getD ix.den.toNat t0).ps).getD jx.den.toNat p0).eh))]))]))] 27),(215,.row 90 4 (.sym fun _=>zi (x.1.2.1).length) (fun ix=>[(.int .i64 (.sym fun _=>((x.1.2.1).getD ix.den.toNat k0).v)),(.int .i64 (.sym fun _=>((x.1.2.1).getD ix.den.toNat k0).h)),(.int .i64 (.sym fun _=>((x.1.2.1).getD ix.den.toNat k0).t)),(.int .i64 (.sym fun _=>((x.1.2.1).getD ix.den.toNat k0).s))])),(216,.row 90 4 (.sym fun _=>zi (x.1.2.2).length) (fun ix=>[(.int .i64 (.sym fun _=>((x.1.2.2).getD ix.den.toNat k0).v)),(.int .i64 (.sym fun _=>((x.1.2.2).getD ix.den.toNat k0).h)),(.int .i64 (.sym fun _=>((x.1.2.2).getD ix.den.toNat k0).t)),(.int .i64 (.sym fun _=>((x.1.2.2).getD ix.den.toNat k0).s))]))],400⟩,fun x=>l.length-x.1.1,?_,?_⟩
    · refine⟨⟨(0,[],[]),by omega,rfl,rfl⟩,?_⟩
      cbv
      repeat' (first
        |with_reducible refine hold ?_ ?_
        |with_reducible refine And.intro ?_ ?_)
      all_goals first
        |trivial
        |exact qN (qE (by rfl))
        |exact qN (Fit.refl _)
        |exact qM (qL _)
        |(refine qM (ble_row ?_ ?_);(first|rfl|((try simp only [qW]at *);(try simp only [zQ,zA,zB,zC,zD,zE,zF,zG,zH,zI,zJ,zK,zL,zM,zN,zO,zP,zR,zS]at *);omega));intro ix h0 h1;exfalso;(try simp only [qW]at *);(try simp only [zQ,zA,zB,zC,zD,zE,zF,zG,zH,zI,zJ,zK,zL,zM,zN,zO,zP,zR,zS]at *);omega)
        |skip
    · rintro ⟨⟨i,K,Q⟩,hi,hK,hQ⟩
      cbv
      dsimp only at hi hK hQ
      have hs:=tb_bd (maskN (leaveL c l) (leaveL c l).length) i
      have ht:=tb_bd (o%2^l.length) i
      have hK6:K.length≤6:=by have:=keep_len l (maskN (leaveL c l) (leaveL c l).length) i;rw [←hK]at this;omega
      have hQ6:Q.length≤6:=by have:=keep_len l (o%2^l.length) i;rw [←hQ]at this;omega
      by_cases hiE:i=l.length
      · repeat' (first
            |with_reducible refine hold ?_ ?_
            |with_reducible refine And.intro ?_ ?_
            | (with_reducible refine qU ?_ ?_
               try cbv)
            |(with_reducible intro hcd;(try simp only [zA,zB,zC,zD,zE,zF,zG,zH,zI,zJ,zK,zL,zM,zN,zO,zP]at hcd);try cbv)
            | (refine qQ ?_ (c17) ?hfit
               case hfit=>((repeat' (first|exact qB|refine qD ?_ ?_|exact qE (by rfl)|exact qG (by rfl)|exact Fit.refl _|exact qA|refine qC ?_ rfl ?_));done)
               try cbv)
            | (refine qQ ?_ (c15) ?hfit
               case hfit=>((repeat' (first|exact qB|refine qD ?_ ?_|exact qE (by rfl)|exact qG (by rfl)|exact Fit.refl _|exact qA|refine qC ?_ rfl ?_));done)
               try cbv)
            | (with_reducible refine shr_k ?_ ?_
               try cbv)
            | (obtain⟨K2,eK2⟩:∃y:List LookT,y=K++[l.getD i k0]:=⟨_,rfl⟩
               refine⟨looksE K2,?_⟩
               cbv
               refine hold (hold_lookapp (L:=K) eK2 (by(first|rfl|((try simp only [qW]at *);(try simp only [zQ,zA,zB,zC,zD,zE,zF,zG,zH,zI,zJ,zK,zL,zM,zN,zO,zP,zR,zS]at *);done)|((try simp only [qW]at *);(try simp only [zQ,zA,zB,zC,zD,zE,zF,zG,zH,zI,zJ,zK,zL,zM,zN,zO,zP,zR,zS]at *);omega))) (by rfl) (fun ix=>Fit.refl _) (fun ix h=>Fit.refl _) (by(try simp only [qW]at *);(try simp only [zQ,zA,zB,zC,zD,zE,zF,zG,zH,zI,zJ,zK,zL,zM,zN,zO,zP,zR,zS]at *);omega)) (Or.inl ?_)
               try cbv)
            | (obtain⟨Q2,eQ2⟩:∃y:List LookT,y=Q++[l.getD i k0]:=⟨_,rfl⟩
               refine⟨looksE Q2,?_⟩
               cbv
               refine hold (hold_lookapp (L:=Q) eQ2 (by(first|rfl|((try simp only [qW]at *);(try simp only [zQ,zA,zB,zC,zD,zE,zF,zG,zH,zI,zJ,zK,zL,zM,zN,zO,zP,zR,zS]at *);done)|((try simp only [qW]at *);(try simp only [zQ,zA,zB,zC,zD,zE,zF,zG,zH,zI,zJ,zK,zL,zM,zN,zO,zP,zR,zS]at *);omega))) (by rfl) (fun ix=>Fit.refl _) (fun ix h=>Fit.refl _) (by(try simp only [qW]at *);(try simp only [zQ,zA,zB,zC,zD,zE,zF,zG,zH,zI,zJ,zK,zL,zM,zN,zO,zP,zR,zS]at *);omega)) (Or.inl ?_)
               try cbv)
            | (refine⟨some [],(215:Nat),?_⟩
               cbv
               refine setl_k ?_ (c31k K hK6) (by cbv;(repeat' (first|exact qB|refine qD ?_ ?_|exact qE (by rfl)|exact qG (by rfl)|exact Fit.refl _|exact qA|refine qC ?_ rfl ?_)))
               try cbv
               fail_if_success (show False))
            | (refine⟨some [],(216:Nat),?_⟩
               cbv
               refine setl_k ?_ (c31k Q hQ6) (by cbv;(repeat' (first|exact qB|refine qD ?_ ?_|exact qE (by rfl)|exact qG (by rfl)|exact Fit.refl _|exact qA|refine qC ?_ rfl ?_)))
               try cbv
               fail_if_success (show False))
            | (refine qQ ?_ (c31k K hK6) ?hfit
               case hfit=>((repeat' (first|exact qB|refine qD ?_ ?_|exact qE (by rfl)|exact qG (by rfl)|exact Fit.refl _|exact qA|refine qC ?_ rfl ?_));done)
               try cbv)
            | (refine qQ ?_ (c51k K (by rw [hK,hiE])) ?hfit
               case hfit=>((repeat' (first|exact qB|refine qD ?_ ?_|exact qE (by rfl)|exact qG (by rfl)|exact Fit.refl _|exact qA|refine qC ?_ rfl ?_));done)
               try cbv)
            | (refine qQ ?_ (c51q Q (by rw [hQ,hiE])) ?hfit
               case hfit=>((repeat' (first|exact qB|refine qD ?_ ?_|exact qE (by rfl)|exact qG (by rfl)|exact Fit.refl _|exact qA|refine qC ?_ rfl ?_));done)
               try cbv)
            | (refine qQ ?_ (c49 K (by rw [hK,hiE])) ?hfit
               case hfit=>((repeat' (first|exact qB|refine qD ?_ ?_|exact qE (by rfl)|exact qG (by rfl)|exact Fit.refl _|exact qA|refine qC ?_ rfl ?_));done)
               try cbv)
            |fail)
        all_goals first
          |trivial
          |((try clear c15);(try clear c42);(try clear c44);(try clear c17);(try clear c31);(try clear c45);(try clear c31k);(try clear c51k);(try clear c51q);(try clear c49);((try simp only [qW]at *);(try simp only [zQ,zA,zB,zC,zD,zE,zF,zG,zH,zI,zJ,zK,zL,zM,zN,zO,zP,zR,zS,allB_t,allB_f,inB_t,inB_f,ofB_t,ofB_f,shB_t,shB_f,spB_t,spB_f]at *);first|(refine qO ?_;omega)|(simp only [Hold];omega)))
          |((try clear c15);(try clear c42);(try clear c44);(try clear c17);(try clear c31);(try clear c45);(try clear c31k);(try clear c51k);(try clear c51q);(try clear c49);(subst hR;(repeat' (first|exact qA|exact qB|refine qC ?_ rfl ?_|refine qD ?_ ?_|exact qE (by rfl)|exact qG (by rfl)|exact Fit.refl _|exact qH _|(refine qE ?_;(try simp only [qW]at *);simp only [zQ,zA,zB,zC,zD,zE,zF,zG,zH,zI,zJ,zK,zL,zM,zN,zO,zP,zR,zS]at *;omega)));done))
          |((try clear c15);(try clear c42);(try clear c44);(try clear c17);(try clear c31);(try clear c45);(try clear c31k);(try clear c51k);(try clear c51q);(try clear c49);((try simp only [zQ,zA,zB,zC,zD,zE,zF,zG,zH,zI,zJ,zK,zL,zM,zN,zO,zP,zR,zS]at *);refine⟨⟨(i+1,K2,Q2),by((try simp only [qW]at *);(try simp only [zQ,zA,zB,zC,zD,zE,zF,zG,zH,zI,zJ,zK,zL,zM,zN,zO,zP,zR,zS]at *);omega),by rw [eK2,hK];exact(keep_y (by(try simp only [qW]at *);assumption)).symm,by rw [eQ2,hQ];exact(keep_y (by(try simp only [qW]at *);assumption)).symm⟩,by simp only [];omega,?_⟩;cbv;(repeat' (first|with_reducible refine hold ?_ ?_|with_reducible refine And.intro ?_ ?_));(all_goals first|trivial|exact qN (qE (by rfl))|exact qN (qG (by rfl))|exact qN (Fit.refl _)|exact qM (qL _)|(refine qN (qE ?_);(try simp only [qW]at *);simp only [zQ,zA,zB,zC,zD,zE,zF,zG,zH,zI,zJ,zK,zL,zM,zN,zO,zP,zR,zS]at *;omega)|(refine qM (qK ?_);(repeat' (first|exact qA|exact qB|refine qC ?_ rfl ?_|refine qD ?_ ?_|exact qE (by rfl)|exact qG (by rfl)|exact Fit.refl _|exact qH _|(refine qE ?_;(try simp only [qW]at *);simp only [zQ,zA,zB,zC,zD,zE,zF,zG,zH,zI,zJ,zK,zL,zM,zN,zO,zP,zR,zS]at *;omega)));done)|(refine qM (ble_row ?_ ?_);(first|rfl|((try simp only [qW]at *);(try simp only [zQ,zA,zB,zC,zD,zE,zF,zG,zH,zI,zJ,zK,zL,zM,zN,zO,zP,zR,zS]at *);simp only [eK2,List.length_append,List.length_cons,List.length_nil];omega));intro ix h0 h1;exact Fit.refl _)|(refine qM (ble_row ?_ ?_);(first|rfl|((try simp only [qW]at *);(try simp only [zQ,zA,zB,zC,zD,zE,zF,zG,zH,zI,zJ,zK,zL,zM,zN,zO,zP,zR,zS]at *);simp only [eQ2,List.length_append,List.length_cons,List.length_nil];omega));intro ix h0 h1;exact Fit.refl _)|skip)))
          |((try clear c15);(try clear c42);(try clear c44);(try clear c17);(try clear c31);(try clear c45);(try clear c31k);(try clear c51k);(try clear c51q);(try clear c49);((try simp only [zQ,zA,zB,zC,zD,zE,zF,zG,zH,zI,zJ,zK,zL,zM,zN,zO,zP,zR,zS]at *);refine⟨⟨(i+1,K2,Q),by((try simp only [qW]at *);(try simp only [zQ,zA,zB,zC,zD,zE,zF,zG,zH,zI,zJ,zK,zL,zM,zN,zO,zP,zR,zS]at *);omega),by rw [eK2,hK];exact(keep_y (by(try simp only [qW]at *);assumption)).symm,by rw [hQ];exact(keep_n (by(try simp only [qW]at *);assumption)).symm⟩,by simp only [];omega,?_⟩;cbv;(repeat' (first|with_reducible refine hold ?_ ?_|with_reducible refine And.intro ?_ ?_));(all_goals first|trivial|exact qN (qE (by rfl))|exact qN (qG (by rfl))|exact qN (Fit.refl _)|exact qM (qL _)|(refine qN (qE ?_);(try simp only [qW]at *);simp only [zQ,zA,zB,zC,zD,zE,zF,zG,zH,zI,zJ,zK,zL,zM,zN,zO,zP,zR,zS]at *;omega)|(refine qM (qK ?_);(repeat' (first|exact qA|exact qB|refine qC ?_ rfl ?_|refine qD ?_ ?_|exact qE (by rfl)|exact qG (by rfl)|exact Fit.refl _|exact qH _|(refine qE ?_;(try simp only [qW]at *);simp only [zQ,zA,zB,zC,zD,zE,zF,zG,zH,zI,zJ,zK,zL,zM,zN,zO,zP,zR,zS]at *;omega)));done)|(refine qM (ble_row ?_ ?_);(first|rfl|((try simp only [qW]at *);(try simp only [zQ,zA,zB,zC,zD,zE,zF,zG,zH,zI,zJ,zK,zL,zM,zN,zO,zP,zR,zS]at *);simp only [eK2,List.length_append,List.length_cons,List.length_nil];omega));intro ix h0 h1;exact Fit.refl _)|(refine qM (ble_row ?_ ?_);(first|rfl|((try simp only [qW]at *);(try simp only [zQ,zA,zB,zC,zD,zE,zF,zG,zH,zI,zJ,zK,zL,zM,zN,zO,zP,zR,zS]at *);simp only [List.length_append,List.length_cons,List.length_nil];omega));intro ix h0 h1;exact Fit.refl _)|skip)))
          |((try clear c15);(try clear c42);(try clear c44);(try clear c17);(try clear c31);(try clear c45);(try clear c31k);(try clear c51k);(try clear c51q);(try clear c49);((try simp only [zQ,zA,zB,zC,zD,zE,zF,zG,zH,zI,zJ,zK,zL,zM,zN,zO,zP,zR,zS]at *);refine⟨⟨(i+1,K,Q2),by((try simp only [qW]at *);(try simp only [zQ,zA,zB,zC,zD,zE,zF,zG,zH,zI,zJ,zK,zL,zM,zN,zO,zP,zR,zS]at *);omega),by rw [hK];exact(keep_n (by(try simp only [qW]at *);assumption)).symm,by rw [eQ2,hQ];exact(keep_y (by(try simp only [qW]at *);assumption)).symm⟩,by simp only [];omega,?_⟩;cbv;(repeat' (first|with_reducible refine hold ?_ ?_|with_reducible refine And.intro ?_ ?_));(all_goals first|trivial|exact qN (qE (by rfl))|exact qN (qG (by rfl))|exact qN (Fit.refl _)|exact qM (qL _)|(refine qN (qE ?_);(try simp only [qW]at *);simp only [zQ,zA,zB,zC,zD,zE,zF,zG,zH,zI,zJ,zK,zL,zM,zN,zO,zP,zR,zS]at *;omega)|(refine qM (qK ?_);(repeat' (first|exact qA|exact qB|refine qC ?_ rfl ?_|refine qD ?_ ?_|exact qE (by rfl)|exact qG (by rfl)|exact Fit.refl _|exact qH _|(refine qE ?_;(try simp only [qW]at *);simp only [zQ,zA,zB,zC,zD,zE,zF,zG,zH,zI,zJ,zK,zL,zM,zN,zO,zP,zR,zS]at *;omega)));done)|(refine qM (ble_row ?_ ?_);(first|rfl|((try simp only [qW]at *);(try simp only [zQ,zA,zB,zC,zD,zE,zF,zG,zH,zI,zJ,zK,zL,zM,zN,zO,zP,zR,zS]at *);simp only [List.length_append,List.length_cons,List.length_nil];omega));intro ix h0 h1;exact Fit.refl _)|(refine qM (ble_row ?_ ?_);(first|rfl|((try simp only [qW]at *);(try simp only [zQ,zA,zB,zC,zD,zE,zF,zG,zH,zI,zJ,zK,zL,zM,zN,zO,zP,zR,zS]at *);simp only [eQ2,List.length_append,List.length_cons,List.length_nil];omega));intro ix h0 h1;exact Fit.refl _)|skip)))
          |((try clear c15);(try clear c42);(try clear c44);(try clear c17);(try clear c31);(try clear c45);(try clear c31k);(try clear c51k);(try clear c51q);(try clear c49);((try simp only [zQ,zA,zB,zC,zD,zE,zF,zG,zH,zI,zJ,zK,zL,zM,zN,zO,zP,zR,zS]at *);refine⟨⟨(i+1,K,Q),by((try simp only [qW]at *);(try simp only [zQ,zA,zB,zC,zD,zE,zF,zG,zH,zI,zJ,zK,zL,zM,zN,zO,zP,zR,zS]at *);omega),by rw [hK];exact(keep_n (by(try simp only [qW]at *);assumption)).symm,by rw [hQ];exact(keep_n (by(try simp only [qW]at *);assumption)).symm⟩,by simp only [];omega,?_⟩;cbv;(repeat' (first|with_reducible refine hold ?_ ?_|with_reducible refine And.intro ?_ ?_));(all_goals first|trivial|exact qN (qE (by rfl))|exact qN (qG (by rfl))|exact qN (Fit.refl _)|exact qM (qL _)|(refine qN (qE ?_);(try simp only [qW]at *);simp only [zQ,zA,zB,zC,zD,zE,zF,zG,zH,zI,zJ,zK,zL,zM,zN,zO,zP,zR,zS]at *;omega)|(refine qM (qK ?_);(repeat' (first|exact qA|exact qB|refine qC ?_ rfl ?_|refine qD ?_ ?_|exact qE (by rfl)|exact qG (by rfl)|exact Fit.refl _|exact qH _|(refine qE ?_;(try simp only [qW]at *);simp only [zQ,zA,zB,zC,zD,zE,zF,zG,zH,zI,zJ,zK,zL,zM,zN,zO,zP,zR,zS]at *;omega)));done)|(refine qM (ble_row ?_ ?_);(first|rfl|((try simp only [qW]at *);(try simp only [zQ,zA,zB,zC,zD,zE,zF,zG,zH,zI,zJ,zK,zL,zM,zN,zO,zP,zR,zS]at *);simp only [List.length_append,List.length_cons,List.length_nil];omega));intro ix h0 h1;exact Fit.refl _)|(refine qM (ble_row ?_ ?_);(first|rfl|((try simp only [qW]at *);(try simp only [zQ,zA,zB,zC,zD,zE,zF,zG,zH,zI,zJ,zK,zL,zM,zN,zO,zP,zR,zS]at *);simp only [List.length_append,List.length_cons,List.length_nil];omega));intro ix h0 h1;exact Fit.refl _)|skip)))
          |skip
      · repeat' (first
            |with_reducible refine hold ?_ ?_
            |with_reducible refine And.intro ?_ ?_
            | (with_reducible refine qU ?_ ?_
               try cbv)
            |(with_reducible intro hcd;(try simp only [zA,zB,zC,zD,zE,zF,zG,zH,zI,zJ,zK,zL,zM,zN,zO,zP]at hcd);try cbv)
            | (refine qQ ?_ (c17) ?hfit
               case hfit=>((repeat' (first|exact qB|refine qD ?_ ?_|exact qE (by rfl)|exact qG (by rfl)|exact Fit.refl _|exact qA|refine qC ?_ rfl ?_));done)
               try cbv)
            | (with_reducible refine shr_k ?_ ?_
               try cbv)
            | (obtain⟨K2,eK2⟩:∃y:List LookT,y=K++[l.getD i k0]:=⟨_,rfl⟩
               refine⟨looksE K2,?_⟩
               cbv
               refine hold (hold_lookapp (L:=K) eK2 (by(first|rfl|((try simp only [qW]at *);(try simp only [zQ,zA,zB,zC,zD,zE,zF,zG,zH,zI,zJ,zK,zL,zM,zN,zO,zP,zR,zS]at *);done)|((try simp only [qW]at *);(try simp only [zQ,zA,zB,zC,zD,zE,zF,zG,zH,zI,zJ,zK,zL,zM,zN,zO,zP,zR,zS]at *);omega))) (by rfl) (fun ix=>Fit.refl _) (fun ix h=>Fit.refl _) (by(try simp only [qW]at *);(try simp only [zQ,zA,zB,zC,zD,zE,zF,zG,zH,zI,zJ,zK,zL,zM,zN,zO,zP,zR,zS]at *);omega)) (Or.inl ?_)
               try cbv)
            | (obtain⟨Q2,eQ2⟩:∃y:List LookT,y=Q++[l.getD i k0]:=⟨_,rfl⟩
               refine⟨looksE Q2,?_⟩
               cbv
               refine hold (hold_lookapp (L:=Q) eQ2 (by(first|rfl|((try simp only [qW]at *);(try simp only [zQ,zA,zB,zC,zD,zE,zF,zG,zH,zI,zJ,zK,zL,zM,zN,zO,zP,zR,zS]at *);done)|((try simp only [qW]at *);(try simp only [zQ,zA,zB,zC,zD,zE,zF,zG,zH,zI,zJ,zK,zL,zM,zN,zO,zP,zR,zS]at *);omega))) (by rfl) (fun ix=>Fit.refl _) (fun ix h=>Fit.refl _) (by(try simp only [qW]at *);(try simp only [zQ,zA,zB,zC,zD,zE,zF,zG,zH,zI,zJ,zK,zL,zM,zN,zO,zP,zR,zS]at *);omega)) (Or.inl ?_)
               try cbv)
            | (refine⟨some [],(215:Nat),?_⟩
               cbv
               refine setl_k ?_ (c31k K hK6) (by cbv;(repeat' (first|exact qB|refine qD ?_ ?_|exact qE (by rfl)|exact qG (by rfl)|exact Fit.refl _|exact qA|refine qC ?_ rfl ?_)))
               try cbv
               fail_if_success (show False))
            |fail)
        all_goals first
          |((try clear c15);(try clear c42);(try clear c44);(try clear c17);(try clear c31);(try clear c45);(try clear c31k);(try clear c51k);(try clear c51q);(try clear c49);((try simp only [qW]at *);(try simp only [zQ,zA,zB,zC,zD,zE,zF,zG,zH,zI,zJ,zK,zL,zM,zN,zO,zP,zR,zS,allB_t,allB_f,inB_t,inB_f,ofB_t,ofB_f,shB_t,shB_f,spB_t,spB_f]at *);first|(refine qO ?_;omega)|(simp only [Hold];omega)))
          |((try clear c15);(try clear c42);(try clear c44);(try clear c17);(try clear c31);(try clear c45);(try clear c31k);(try clear c51k);(try clear c51q);(try clear c49);((try simp only [qW]at *);(try simp only [zQ,zA,zB,zC,zD,zE,zF,zG,zH,zI,zJ,zK,zL,zM,zN,zO,zP,zR,zS]at *);first|(refine hold_u64 ?_;omega)|(refine hold_u8 ?_;omega)|(refine hold_sh64 ?_;omega)|(refine qO ?_;omega)))
          |((try clear c15);(try clear c42);(try clear c44);(try clear c17);(try clear c31);(try clear c45);(try clear c31k);(try clear c51k);(try clear c51q);(try clear c49);((try simp only [zQ,zA,zB,zC,zD,zE,zF,zG,zH,zI,zJ,zK,zL,zM,zN,zO,zP,zR,zS]at *);refine⟨⟨(i+1,K2,Q2),by((try simp only [qW]at *);(try simp only [zQ,zA,zB,zC,zD,zE,zF,zG,zH,zI,zJ,zK,zL,zM,zN,zO,zP,zR,zS]at *);omega),by rw [eK2,hK];exact(keep_y (by(try simp only [qW]at *);assumption)).symm,by rw [eQ2,hQ];exact(keep_y (by(try simp only [qW]at *);assumption)).symm⟩,by simp only [];omega,?_⟩;cbv;(repeat' (first|with_reducible refine hold ?_ ?_|with_reducible refine And.intro ?_ ?_));(all_goals first|trivial|exact qN (qE (by rfl))|exact qN (qG (by rfl))|exact qN (Fit.refl _)|exact qM (qL _)|(refine qN (qE ?_);(try simp only [qW]at *);simp only [zQ,zA,zB,zC,zD,zE,zF,zG,zH,zI,zJ,zK,zL,zM,zN,zO,zP,zR,zS]at *;omega)|(refine qM (qK ?_);(repeat' (first|exact qA|exact qB|refine qC ?_ rfl ?_|refine qD ?_ ?_|exact qE (by rfl)|exact qG (by rfl)|exact Fit.refl _|exact qH _|(refine qE ?_;(try simp only [qW]at *);simp only [zQ,zA,zB,zC,zD,zE,zF,zG,zH,zI,zJ,zK,zL,zM,zN,zO,zP,zR,zS]at *;omega)));done)|(refine qM (ble_row ?_ ?_);(first|rfl|((try simp only [qW]at *);(try simp only [zQ,zA,zB,zC,zD,zE,zF,zG,zH,zI,zJ,zK,zL,zM,zN,zO,zP,zR,zS]at *);simp only [eK2,List.length_append,List.length_cons,List.length_nil];omega));intro ix h0 h1;exact Fit.refl _)|(refine qM (ble_row ?_ ?_);(first|rfl|((try simp only [qW]at *);(try simp only [zQ,zA,zB,zC,zD,zE,zF,zG,zH,zI,zJ,zK,zL,zM,zN,zO,zP,zR,zS]at *);simp only [eQ2,List.length_append,List.length_cons,List.length_nil];omega));intro ix h0 h1;exact Fit.refl _)|skip)))
          |((try clear c15);(try clear c42);(try clear c44);(try clear c17);(try clear c31);(try clear c45);(try clear c31k);(try clear c51k);(try clear c51q);(try clear c49);((try simp only [zQ,zA,zB,zC,zD,zE,zF,zG,zH,zI,zJ,zK,zL,zM,zN,zO,zP,zR,zS]at *);refine⟨⟨(i+1,K2,Q),by((try simp only [qW]at *);(try simp only [zQ,zA,zB,zC,zD,zE,zF,zG,zH,zI,zJ,zK,zL,zM,zN,zO,zP,zR,zS]at *);omega),by rw [eK2,hK];exact(keep_y (by(try simp only [qW]at *);assumption)).symm,by rw [hQ];exact(keep_n (by(try simp only [qW]at *);assumption)).symm⟩,by simp only [];omega,?_⟩;cbv;(repeat' (first|with_reducible refine hold ?_ ?_|with_reducible refine And.intro ?_ ?_));(all_goals first|trivial|exact qN (qE (by rfl))|exact qN (qG (by rfl))|exact qN (Fit.refl _)|exact qM (qL _)|(refine qN (qE ?_);(try simp only [qW]at *);simp only [zQ,zA,zB,zC,zD,zE,zF,zG,zH,zI,zJ,zK,zL,zM,zN,zO,zP,zR,zS]at *;omega)|(refine qM (qK ?_);(repeat' (first|exact qA|exact qB|refine qC ?_ rfl ?_|refine qD ?_ ?_|exact qE (by rfl)|exact qG (by rfl)|exact Fit.refl _|exact qH _|(refine qE ?_;(try simp only [qW]at *);simp only [zQ,zA,zB,zC,zD,zE,zF,zG,zH,zI,zJ,zK,zL,zM,zN,zO,zP,zR,zS]at *;omega)));done)|(refine qM (ble_row ?_ ?_);(first|rfl|((try simp only [qW]at *);(try simp only [zQ,zA,zB,zC,zD,zE,zF,zG,zH,zI,zJ,zK,zL,zM,zN,zO,zP,zR,zS]at *);simp only [eK2,List.length_append,List.length_cons,List.length_nil];omega));intro ix h0 h1;exact Fit.refl _)|(refine qM (ble_row ?_ ?_);(first|rfl|((try simp only [qW]at *);(try simp only [zQ,zA,zB,zC,zD,zE,zF,zG,zH,zI,zJ,zK,zL,zM,zN,zO,zP,zR,zS]at *);simp only [List.length_append,List.length_cons,List.length_nil];omega));intro ix h0 h1;exact Fit.refl _)|skip)))
          |((try clear c15);(try clear c42);(try clear c44);(try clear c17);(try clear c31);(try clear c45);(try clear c31k);(try clear c51k);(try clear c51q);(try clear c49);((try simp only [zQ,zA,zB,zC,zD,zE,zF,zG,zH,zI,zJ,zK,zL,zM,zN,zO,zP,zR,zS]at *);refine⟨⟨(i+1,K,Q2),by((try simp only [qW]at *);(try simp only [zQ,zA,zB,zC,zD,zE,zF,zG,zH,zI,zJ,zK,zL,zM,zN,zO,zP,zR,zS]at *);omega),by rw [hK];exact(keep_n (by(try simp only [qW]at *);assumption)).symm,by rw [eQ2,hQ];exact(keep_y (by(try simp only [qW]at *);assumption)).symm⟩,by simp only [];omega,?_⟩;cbv;(repeat' (first|with_reducible refine hold ?_ ?_|with_reducible refine And.intro ?_ ?_));(all_goals first|trivial|exact qN (qE (by rfl))|exact qN (qG (by rfl))|exact qN (Fit.refl _)|exact qM (qL _)|(refine qN (qE ?_);(try simp only [qW]at *);simp only [zQ,zA,zB,zC,zD,zE,zF,zG,zH,zI,zJ,zK,zL,zM,zN,zO,zP,zR,zS]at *;omega)|(refine qM (qK ?_);(repeat' (first|exact qA|exact qB|refine qC ?_ rfl ?_|refine qD ?_ ?_|exact qE (by rfl)|exact qG (by rfl)|exact Fit.refl _|exact qH _|(refine qE ?_;(try simp only [qW]at *);simp only [zQ,zA,zB,zC,zD,zE,zF,zG,zH,zI,zJ,zK,zL,zM,zN,zO,zP,zR,zS]at *;omega)));done)|(refine qM (ble_row ?_ ?_);(first|rfl|((try simp only [qW]at *);(try simp only [zQ,zA,zB,zC,zD,zE,zF,zG,zH,zI,zJ,zK,zL,zM,zN,zO,zP,zR,zS]at *);simp only [List.length_append,List.length_cons,List.length_nil];omega));intro ix h0 h1;exact Fit.refl _)|(refine qM (ble_row ?_ ?_);(first|rfl|((try simp only [qW]at *);(try simp only [zQ,zA,zB,zC,zD,zE,zF,zG,zH,zI,zJ,zK,zL,zM,zN,zO,zP,zR,zS]at *);simp only [eQ2,List.length_append,List.length_cons,List.length_nil];omega));intro ix h0 h1;exact Fit.refl _)|skip)))
          |((try clear c15);(try clear c42);(try clear c44);(try clear c17);(try clear c31);(try clear c45);(try clear c31k);(try clear c51k);(try clear c51q);(try clear c49);((try simp only [zQ,zA,zB,zC,zD,zE,zF,zG,zH,zI,zJ,zK,zL,zM,zN,zO,zP,zR,zS]at *);refine⟨⟨(i+1,K,Q),by((try simp only [qW]at *);(try simp only [zQ,zA,zB,zC,zD,zE,zF,zG,zH,zI,zJ,zK,zL,zM,zN,zO,zP,zR,zS]at *);omega),by rw [hK];exact(keep_n (by(try simp only [qW]at *);assumption)).symm,by rw [hQ];exact(keep_n (by(try simp only [qW]at *);assumption)).symm⟩,by simp only [];omega,?_⟩;cbv;(repeat' (first|with_reducible refine hold ?_ ?_|with_reducible refine And.intro ?_ ?_));(all_goals first|trivial|exact qN (qE (by rfl))|exact qN (qG (by rfl))|exact qN (Fit.refl _)|exact qM (qL _)|(refine qN (qE ?_);(try simp only [qW]at *);simp only [zQ,zA,zB,zC,zD,zE,zF,zG,zH,zI,zJ,zK,zL,zM,zN,zO,zP,zR,zS]at *;omega)|(refine qM (qK ?_);(repeat' (first|exact qA|exact qB|refine qC ?_ rfl ?_|refine qD ?_ ?_|exact qE (by rfl)|exact qG (by rfl)|exact Fit.refl _|exact qH _|(refine qE ?_;(try simp only [qW]at *);simp only [zQ,zA,zB,zC,zD,zE,zF,zG,zH,zI,zJ,zK,zL,zM,zN,zO,zP,zR,zS]at *;omega)));done)|(refine qM (ble_row ?_ ?_);(first|rfl|((try simp only [qW]at *);(try simp only [zQ,zA,zB,zC,zD,zE,zF,zG,zH,zI,zJ,zK,zL,zM,zN,zO,zP,zR,zS]at *);simp only [List.length_append,List.length_cons,List.length_nil];omega));intro ix h0 h1;exact Fit.refl _)|(refine qM (ble_row ?_ ?_);(first|rfl|((try simp only [qW]at *);(try simp only [zQ,zA,zB,zC,zD,zE,zF,zG,zH,zI,zJ,zK,zL,zM,zN,zO,zP,zR,zS]at *);simp only [List.length_append,List.length_cons,List.length_nil];omega));intro ix h0 h1;exact Fit.refl _)|skip)))
          |((try clear c15);(try clear c42);(try clear c44);(try clear c17);(try clear c31);(try clear c45);(try clear c31k);(try clear c51k);(try clear c51q);(try clear c49);(exfalso;(try simp only [qW]at *);(try simp only [zQ,zA,zB,zC,zD,zE,zF,zG,zH,zI,zJ,zK,zL,zM,zN,zO,zP,zR,zS]at *);(try simp only [allB_t,allB_f,inB_t,inB_f,ofB_t,ofB_f,shB_t,shB_f,spB_t,spB_f]at *);omega))
          |skip
theorem law13 (c:Clr)(l:List LookT)(o:Int)(ho:0≤o∧o≤255):FSpec Try.prog 13 [(clrS c),(lksS l),(.int .u8 (.sym fun _=>o))] [] (fun r _=>r = .bool (.lit true)):=by
  by_cases h:readyB c=true∧lookF c l=0
  · obtain⟨hT,hC⟩:=ready_t.1 h.1
    obtain⟨n,rfl⟩:=Int.eq_ofNat_of_zero_le ho.1
    by_cases hE:askE c (keepN l (n%2^l.length) l.length)=0
    · exact law13yA c l n (by omega) hT hC h.2 hE
    · exact law13yB c l n (by omega) hT hC h.2 (ask_11 hC (keep_look h.2 _) hE)
  · exact law13t c l o ho h
end Go.Proofs.Yteelocfbbhchcaa
