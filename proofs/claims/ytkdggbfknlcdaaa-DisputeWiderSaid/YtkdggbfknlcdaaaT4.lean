/- Contracts of the functions that the laws come to. No condition. -/
import Derived.Test.YtkdggbfknlcdaaaE3
import Derived.Test.YtkdggbfknlcdaaaProg
set_option linter.unusedVariables false
set_option linter.unusedSimpArgs false
set_option linter.deprecated false

namespace Go.Eng.Few
open Go Go.Eng
theorem uq7 {L:List Int} {k:Nat}(h:k<L.length):L.getD k 0∈L:=by
  rw [List.getD_eq_getElem?_getD,List.getElem?_eq_getElem h];exact List.getElem_mem h
theorem uhU {L:List Int} {x:Int}(h:x∈L):∃k,k<L.length∧L.getD k 0=x:=by
  obtain⟨k,hk,e⟩:=List.getElem_of_mem h
  exact⟨k,hk,by rw [List.getD_eq_getElem?_getD,List.getElem?_eq_getElem hk];exact e⟩
def ubt (f:Nat→Option (List Int)):Nat→Nat→Option (List Int)
  |0,_=>none
  | k+1,i=>match f i with
    |some r=>some r
    |none=>ubt f k (i+1)
theorem ugu {f:Nat→Option (List Int)} {k i:Nat} {r:List Int}(hk:0<k)(h:f i=some r):ubt f k i=some r:=by
  cases k with
  |zero=>omega
  |succ k=>simp only [ubt,h]
theorem umE {f:Nat→Option (List Int)} {k i:Nat}(hk:0<k)(h:f i=none):ubt f k i=ubt f (k-1) (i+1):=by
  cases k with
  |zero=>omega
  |succ k=>simp only [ubt,h,Nat.add_sub_cancel]
def ub7 (n:Nat)(ok:List Int→Bool):Nat→List Int→Nat→Option (List Int)
  |0,l,_=>if ok l=true then some l else none
  |m+1,l,i=>ubt (fun j=>ub7 n ok m (l++[(j:Int)]) (j+1)) (n-m-i) i
def uaF :Nat→List Int
  |0=>[]
  |n+1=>uaF n++[(n:Int)]
theorem ukg {n:Nat} {ok:List Int→Bool}(h:ok (uaF n)=true):∀m,m≤n→ub7 n ok m (uaF (n-m)) (n-m)=some (uaF n):=by
  intro m
  induction m with
  |zero=>intro _;simp only [ub7,Nat.sub_zero,h,if_true]
  | succ m ih=>
    intro hm
    have:=ih (by omega)
    simp only [ub7]
    rw [show n-m-(n-(m+1))=1 by omega]
    refine ugu (by omega) ?_
    rw [show n-(m+1)+1=n-m by omega]
    rw [show n-m=n-(m+1)+1 by omega]at this⊢
    exact this
theorem ujx {f:Nat→Option (List Int)} {j:Nat} {r:List Int}(h:f j=some r):∀k i,i≤j→j<i+k→∃r',ubt f k i=some r':=by
  intro k
  induction k with
  |zero=>intro i h1 h2;omega
  | succ k ih=>
    intro i h1 h2
    cases hf:f i with
    |some r'=>exact⟨r',ugu (by omega) hf⟩
    | none=>
      rw [umE (by omega) hf,Nat.add_sub_cancel]
      by_cases e:i=j
      · rw [e,h]at hf;cases hf
      · exact ih (i+1) (by omega) (by omega)
theorem ulW {n i:Nat}(h:i<n):(i:Int)∈uaF n:=by
  induction n with
  |zero=>omega
  | succ n ih=>
    simp only [uaF,List.mem_append,List.mem_singleton]
    by_cases e:i=n
    · exact Or.inr (by rw [e])
    · exact Or.inl (ih (by omega))
theorem urd {L l:List Int} {x:Int}(h:L=l++[x]):zi l.length+1=zi L.length:=by
  subst h
  simp only [uax,List.length_append,List.length_cons,List.length_nil]
  omega
theorem uiA {f:Nat→Option (List Int)}:∀{k i:Nat},ubt f k i=none→∀j,i≤j→j<i+k→f j=none:=by
  intro k
  induction k with
  |zero=>intro i _ j h1 h2;omega
  | succ k ih=>
    intro i h j h1 h2
    simp only [ubt]at h
    split at h
    · cases h
    · rename_i hf
      by_cases e:j=i
      · rw [e];exact hf
      · exact ih h j (by omega) (by omega)
theorem uh3 {f:Nat→Option (List Int)} {r:List Int}:∀{k i:Nat},ubt f k i=some r→∃j,i≤j∧j<i+k∧f j=some r∧∀j',i≤j'→j'<j→f j'=none:=by
  intro k
  induction k with
  |zero=>intro i h;cases h
  | succ k ih=>
    intro i h
    simp only [ubt]at h
    split at h
    · rename_i r' hf
      cases h
      exact⟨i,Nat.le_refl _,by omega,hf,fun j' h1 h2=>by omega⟩
    · rename_i hf
      obtain⟨j,h1,h2,h3,h4⟩:=ih h
      refine⟨j,by omega,by omega,h3,fun j' a b=> ?_⟩
      by_cases e:j'=i
      · rw [e];exact hf
      · exact h4 j' (by omega) b
def Asc (n:Nat):Nat→List Int→Prop
  |_,[]=>True
  |i,x::t=>∃j:Nat,x=(j:Int)∧i≤j∧j<n∧Asc n (j+1) t
def uqq :List Int→List Int→Prop
  |x::s,y::t=>x<y∨(x=y∧uqq s t)
  |_,_=>False
theorem uhG {n:Nat}:∀{s:List Int} {i:Nat},Asc n i s→s=[]∨i+s.length≤n:=by
  intro s
  induction s with
  |nil=>intro i _;exact .inl rfl
  | cons x t ih=>
    rintro i ⟨j,_,h1,h2,h3⟩
    right
    rcases ih h3 with e|e
    · subst e;simp only [List.length_cons,List.length_nil];omega
    · simp only [List.length_cons];omega
theorem ues {n:Nat} {ok:List Int→Bool}:∀{m:Nat} {l:List Int} {i:Nat},ub7 n ok m l i=none→∀s,Asc n i s→s.length=m→ok (l++s)=false:=by
  intro m
  induction m with
  | zero=>
    intro l i h s hs hl
    rw [List.length_eq_zero_iff.1 hl,List.append_nil]
    simp only [ub7]at h
    split at h
    · cases h
    · rename_i q;simpa using q
  | succ m ih=>
    intro l i h s hs hl
    cases s with
    |nil=>cases hl
    | cons x t=>
      obtain⟨j,rfl,h1,h2,h3⟩:=hs
      simp only [List.length_cons]at hl
      simp only [ub7]at h
      have hj:j<i+(n-m-i):=by
        rcases uhG h3 with e|e
        · rw [e]at hl;simp at hl;omega
        · omega
      have:=ih (uiA h j h1 hj) t h3 (by omega)
      simpa using this
theorem ugh {n:Nat} {ok:List Int→Bool} {F:List Int}:∀{m:Nat} {l:List Int} {i:Nat},ub7 n ok m l i=some F→∃s,Asc n i s∧s.length=m∧F=l++s∧ok F=true∧∀s',Asc n i s'→s'.length=m→ok (l++s')=true→s=s'∨uqq s s':=by
  intro m
  induction m with
  | zero=>
    intro l i h
    simp only [ub7]at h
    split at h
    · rename_i q
      cases h
      refine⟨[],trivial,rfl,(List.append_nil _).symm,q,fun s' _ hl _=>.inl (List.length_eq_zero_iff.1 hl).symm⟩
    · cases h
  | succ m ih=>
    intro l i h
    simp only [ub7]at h
    obtain⟨j,h1,h2,h3,h4⟩:=uh3 h
    obtain⟨s,a1,a2,a3,a4,a5⟩:=ih h3
    refine⟨(j:Int)::s,⟨j,rfl,h1,by omega,a1⟩,by simp [a2],by rw [a3];simp,a4,fun s' hs hl hok=> ?_⟩
    cases s' with
    |nil=>cases hl
    | cons x t=>
      obtain⟨j',rfl,b1,b2,b3⟩:=hs
      simp only [List.length_cons]at hl
      rcases Nat.lt_trichotomy j j' with e|e|e
      · exact .inr (.inl (by omega))
      · subst e
        rcases a5 t b3 (by omega) (by simpa using hok)with q|q
        · exact .inl (by rw [q])
        · exact .inr (.inr ⟨rfl,q⟩)
      · have:=ues (h4 j' b1 e) t b3 (by omega)
        rw [show l++[(j':Int)]++t=l++(j':Int)::t by simp,hok]at this
        cases this
theorem uqK {n m:Nat}(hnm:n≤m):∀{s:List Int} {i:Nat},Asc n i s→Asc m i s:=by
  intro s
  induction s with
  |nil=>intro i _;trivial
  |cons x t ih=>rintro i ⟨j,a,b,d,e⟩;exact⟨j,a,b,by omega,ih e⟩
theorem uqD {n:Nat}:∀{s:List Int} {i:Nat},i≤n→Asc n i s→Asc (n+1) i (s++[(n:Int)]):=by
  intro s
  induction s with
  |nil=>intro i hi _;exact⟨n,rfl,hi,by omega,trivial⟩
  |cons x t ih=>rintro i hi ⟨j,a,b,d,e⟩;exact⟨j,a,b,by omega,ih (by omega) e⟩
def ueo (b:Nat):Nat→List Int
  |0=>[]
  |p+1=>if b.testBit p=true then ueo b p++[(p:Int)]else ueo b p
theorem uny {b n:Nat} {x:Int}:x∈ueo b n↔∃p:Nat,p<n∧x=(p:Int)∧b.testBit p=true:=by
  induction n with
  |zero=>simp [ueo]
  | succ n ih=>
    simp only [ueo]
    split
    · rename_i h
      rw [List.mem_append,ih,List.mem_singleton]
      constructor
      · rintro(⟨p,hp,e,q⟩|e)
        · exact⟨p,by omega,e,q⟩
        · exact⟨n,by omega,e,h⟩
      · rintro⟨p,hp,e,q⟩
        by_cases e1:p=n
        · subst e1;exact .inr e
        · exact .inl ⟨p,by omega,e,q⟩
    · rename_i h
      rw [ih]
      constructor
      · rintro⟨p,hp,e,q⟩;exact⟨p,by omega,e,q⟩
      · rintro⟨p,hp,e,q⟩
        by_cases e1:p=n
        · subst e1;exact absurd q h
        · exact⟨p,by omega,e,q⟩
def ugQ (a b:List Int):Bool:=if a.length=b.length then lexB a b else decide (a.length<b.length)
where lexB:List Int→List Int→Bool
  |x::s,y::t=>if x=y then lexB s t else decide (x<y)
  |_,_=>false
theorem uqX (a:List Int):ugQ.lexB a a=false:=by
  induction a with
  |nil=>simp only [ugQ.lexB]
  |cons x s ih=>simp only [ugQ.lexB,if_true];exact ih
def uiZ (L:List Int):Nat→Nat
  |0=>0
  |i+1=>uiZ L i |||2^(L.getD i 0).toNat
theorem ur2 (L:List Int)(n p:Nat):(uiZ L n).testBit p=true↔∃i,i<n∧(L.getD i 0).toNat=p:=by
  induction n with
  |zero=>simp [uiZ]
  | succ n ih=>
    simp only [uiZ,Nat.testBit_or,Bool.or_eq_true,ih,Nat.testBit_two_pow,decide_eq_true_eq]
    constructor
    · rintro(⟨i,hi,e⟩|e)
      · exact⟨i,by omega,e⟩
      · exact⟨n,by omega,e⟩
    · rintro⟨i,hi,e⟩
      by_cases q:i=n
      · subst q;exact .inr e
      · exact .inl ⟨i,by omega,e⟩
theorem usd {L:List Int} {m:Nat}:∀{n:Nat},(∀i,i<n→(L.getD i 0).toNat<m)→uiZ L n<2^m:=by
  intro n
  induction n with
  |zero=>intro _;exact Nat.pow_pos (by decide)
  | succ n ih=>
    intro h
    exact Nat.or_lt_two_pow (ih fun i hi=>h i (by omega)) (Nat.pow_lt_pow_right (by decide) (h n (by omega)))
def IsM (n M:Nat)(o:List Int):Prop:=∀i:Nat,i<n→(M.testBit i=true↔(i:Int)∈o)
theorem uiB {n:Nat} {L:List Int}:∀{s:Nat},Asc n s L→∀i,i<L.length→(s:Int)≤L.getD i 0∧L.getD i 0<n:=by
  induction L with
  |nil=>intro s _ i hi;simp at hi
  | cons x t ih=>
    rintro s ⟨j,rfl,h1,h2,h3⟩ i hi
    cases i with
    |zero=>simp only [List.getD_cons_zero];omega
    | succ i=>
      simp only [List.getD_cons_succ]
      have:=ih h3 i (by simpa using hi)
      omega
theorem unH {n:Nat} {L:List Int}(h:Asc n 0 L):IsM n (uiZ L L.length) L:=by
  intro i hi
  rw [ur2]
  constructor
  · rintro⟨j,hj,e⟩
    have:=uiB h j hj
    have e2:L.getD j 0=(i:Int):=by omega
    rw [←e2]
    exact uq7 hj
  · intro hx
    obtain⟨j,hj,e⟩:=uhU hx
    exact⟨j,hj,by omega⟩
theorem uhS (b n:Nat):Asc n 0 (ueo b n):=by
  induction n with
  |zero=>trivial
  | succ n ih=>
    simp only [ueo]
    split
    · exact uqD (by omega) ih
    · exact uqK (by omega) ih
theorem uo3 :∀{a b d:List Int},a.length=b.length→b.length=d.length→ugQ.lexB a b=true→ugQ.lexB b d=true→ugQ.lexB a d=true:=by
  intro a
  induction a with
  |nil=>intro b d _ _ h;cases b<;>simp [ugQ.lexB]at h
  | cons x s ih=>
    intro b d h1 h2 p q
    cases b with
    |nil=>cases h1
    | cons y t=>
      cases d with
      |nil=>cases h2
      | cons z u=>
        simp only [List.length_cons,Nat.add_right_cancel_iff]at h1 h2
        simp only [ugQ.lexB]at p q⊢
        by_cases e1:x=y
        · rw [if_pos e1]at p
          by_cases e2:y=z
          · rw [if_pos e2]at q
            rw [if_pos (e1.trans e2)]
            exact ih h1 h2 p q
          · rw [if_neg e2]at q
            rw [if_neg (by rw [e1];exact e2),e1]
            exact q
        · rw [if_neg e1,decide_eq_true_eq]at p
          by_cases e2:y=z
          · rw [if_neg (by omega),decide_eq_true_eq]
            omega
          · rw [if_neg e2,decide_eq_true_eq]at q
            rw [if_neg (by omega),decide_eq_true_eq]
            omega
theorem urt {a b:List Int}(h:uqq a b):ugQ.lexB a b=true:=by
  induction a generalizing b with
  |nil=>cases h
  | cons x s ih=>
    cases b with
    |nil=>cases h
    | cons y t=>
      simp only [ugQ.lexB]
      rcases h with h|⟨h,h2⟩
      · rw [if_neg (by omega),decide_eq_true_eq];exact h
      · rw [if_pos h];exact ih h2
theorem utQ {n:Nat}:∀{a b:List Int} {s t:Nat},Asc n s a→Asc n t b→(∀x,x∈a↔x∈b)→a=b:=by
  intro a
  induction a with
  | nil=>
    intro b s t _ _ h
    cases b with
    |nil=>rfl
    |cons y u=>have:=(h y).2 (by simp);cases this
  | cons x r ih=>
    intro b s t ha hb h
    cases b with
    |nil=>have:=(h x).1 (by simp);cases this
    | cons y u=>
      obtain⟨j,rfl,a1,a2,a3⟩:=ha
      obtain⟨k,rfl,b1,b2,b3⟩:=hb
      have up:∀{m:Nat} {q:List Int},Asc n m q→∀z∈q,(m:Int)≤z:=fun {m q} hq z hz=>by
        obtain⟨i,hi,e⟩:=uhU hz
        have:=(uiB hq i hi).1
        omega
      have e:j=k:=by
        have p:=(h (j:Int)).1 (by simp)
        have q:=(h (k:Int)).2 (by simp)
        rcases List.mem_cons.1 p with p|p
        · omega
        · rcases List.mem_cons.1 q with q|q
          · omega
          · have:=up b3 _ p
            have:=up a3 _ q
            omega
      subst e
      congr 1
      refine ih a3 b3 fun z=>⟨fun hz=> ?_,fun hz=> ?_⟩
      · rcases List.mem_cons.1 ((h z).1 (List.mem_cons_of_mem _ hz))with q|q
        · have:=up a3 _ hz;omega
        · exact q
      · rcases List.mem_cons.1 ((h z).2 (List.mem_cons_of_mem _ hz))with q|q
        · have:=up b3 _ hz;omega
        · exact q
def fewO (n:Nat)(ok:List Int→Bool):Option (List Int):=ubt (fun m=>ub7 n ok m [] 0) (n+1) 0
def fewL (n:Nat)(ok:List Int→Bool):List Int:=(fewO n ok).getD []
theorem upG {n:Nat} {ok:List Int→Bool}(h:ok (uaF n)=true):fewO n ok=some (fewL n ok):=by
  have:=ukg h n (Nat.le_refl _)
  rw [Nat.sub_self]at this
  obtain⟨F,hF⟩:=ujx (f:=fun m=>ub7 n ok m [] 0) (j:=n) this (n+1) 0 (by omega) (by omega)
  unfold fewL
  rw [show fewO n ok=some F from hF];rfl
theorem ubJ {n:Nat} {ok:List Int→Bool}(h:ok (uaF n)=true):Asc n 0 (fewL n ok)∧ok (fewL n ok)=true ∧
    ∀s,Asc n 0 s→ok s=true→(fewL n ok).length≤s.length∧(s.length=(fewL n ok).length→fewL n ok=s∨uqq (fewL n ok) s):=by
  have hO:=upG h
  unfold fewO at hO
  obtain⟨m,_,h2,h3,h4⟩:=uh3 hO
  obtain⟨s,a1,a2,a3,a4,a5⟩:=ugh h3
  have e:fewL n ok=s:=by rw [a3];simp
  refine⟨e▸a1,a4,fun s' hs hok=> ?_⟩
  rw [e]
  have hmin:s.length≤s'.length:=by
    refine Nat.le_of_not_lt fun hlt=> ?_
    have:=ues (h4 s'.length (by omega) (by omega)) s' hs rfl
    rw [List.nil_append,hok]at this
    cases this
  exact⟨hmin,fun he=>a5 s' hs (by omega) (by simpa using hok)⟩
theorem unU {n:Nat} {ok:List Int→Bool}(h:ok (uaF n)=true):ok []=true↔(fewL n ok).length=0:=by
  have hs:=ubJ h
  constructor
  · intro q;have:=(hs.2.2 [] trivial q).1;simpa using this
  · intro q;have:=hs.2.1;rwa [List.length_eq_zero_iff.1 q]at this
theorem ujO {n:Nat} {ok:List Int→Bool}(h:ok (uaF n)=true):(fewL n ok).length≤n:=by
  rcases uhG (ubJ h).1 with e|e
  · rw [e];simp
  · omega
end Go.Eng.Few

namespace Go.Eng.Few
def allC (n:Nat)(ok:List Int→Bool):Nat→List Int→Nat→List (List Int)
  |0,l,_=>if ok l=true then [l]else []
  |m+1,l,i=>(List.range (n-m-i)).flatMap fun j=>allC n ok m (l++[((i+j:Nat):Int)]) (i+j+1)
theorem ueS {n:Nat} {ok:List Int→Bool}:∀{m:Nat} {l:List Int} {i:Nat} {F:List Int},F∈allC n ok m l i↔∃s,Asc n i s∧s.length=m∧F=l++s∧ok F=true:=by
  intro m
  induction m with
  | zero=>
    intro l i F
    simp only [allC]
    constructor
    · intro h
      split at h
      · rename_i q
        rw [List.mem_singleton]at h
        subst h
        exact⟨[],trivial,rfl,(List.append_nil _).symm,q⟩
      · cases h
    · rintro⟨s,_,hl,rfl,q⟩
      rw [List.length_eq_zero_iff.1 hl,List.append_nil]at q⊢
      rw [if_pos q];exact List.mem_singleton.2 rfl
  | succ m ih=>
    intro l i F
    simp only [allC,List.mem_flatMap,List.mem_range]
    constructor
    · rintro⟨j,hj,hF⟩
      obtain⟨s,a1,a2,a3,a4⟩:=ih.1 hF
      exact⟨((i+j:Nat):Int)::s,⟨i+j,rfl,by omega,by omega,a1⟩,by simp [a2],by rw [a3];simp,a4⟩
    · rintro⟨s,hs,hl,e,q⟩
      cases s with
      |nil=>cases hl
      | cons x t=>
        obtain⟨j,rfl,h1,h2,h3⟩:=hs
        simp only [List.length_cons]at hl
        have hr:j-i<n-m-i:=by
          rcases uhG h3 with e|e
          · rw [e]at hl;simp at hl;omega
          · omega
        refine⟨j-i,hr,ih.2 ⟨t,?_,by omega,?_,q⟩⟩
        · rw [show i+(j-i)+1=j+1 by omega];exact h3
        · rw [e,show i+(j-i)=j by omega];simp
def lenO (n:Nat)(ok:List Int→Bool):Nat→Nat→List (List Int)
  |0,_=>[]
  |k+1,m=>if(allC n ok m [] 0).isEmpty=true then lenO n ok k (m+1)else allC n ok m [] 0
def uat (n:Nat)(ok:List Int→Bool):List (List Int):=lenO n ok (n+1) 0
theorem unN {n:Nat} {ok:List Int→Bool}:∀{k m:Nat},(∃j,m≤j∧j<m+k∧allC n ok j [] 0≠[])→∃j,m≤j∧j<m+k∧lenO n ok k m=allC n ok j [] 0∧allC n ok j [] 0≠[]∧∀i,m≤i→i<j→allC n ok i [] 0=[]:=by
  intro k
  induction k with
  |zero=>rintro m ⟨j,h1,h2,_⟩;omega
  | succ k ih=>
    rintro m ⟨j,h1,h2,h3⟩
    simp only [lenO]
    cases he:(allC n ok m [] 0).isEmpty with
    | true=>
      have e0:=List.isEmpty_iff.1 he
      rw [if_pos rfl]
      have hm:m≠j:=fun q=>by subst q;exact h3 e0
      obtain⟨j',a1,a2,a3,a4,a5⟩:=ih (m:=m+1) ⟨j,by omega,by omega,h3⟩
      refine⟨j',by omega,by omega,a3,a4,fun i b1 b2=> ?_⟩
      by_cases q:i=m
      · subst q;exact e0
      · exact a5 i (by omega) b2
    | false=>
      rw [if_neg (by simp)]
      exact⟨m,Nat.le_refl _,by omega,rfl,(fun q=>by rw [q]at he;cases he),fun i b1 b2=>by omega⟩
theorem uoU {n:Nat} {ok:List Int→Bool}:∀{m:Nat} {l:List Int} {i:Nat},(allC n ok m l i).head?=ub7 n ok m l i:=by
  intro m
  induction m with
  | zero=>
    intro l i
    simp only [allC,ub7]
    split<;>rfl
  | succ m ih=>
    intro l i
    simp only [allC,ub7]
    have key:∀k a,((List.range k).flatMap fun j=>allC n ok m (l++[((i+a+j:Nat):Int)]) (i+a+j+1)).head?=ubt (fun j=>ub7 n ok m (l++[(j:Int)]) (j+1)) k (i+a):=by
      intro k
      induction k with
      |zero=>intro a;rfl
      | succ k ihk=>
        intro a
        rw [List.range_succ_eq_map,List.flatMap_cons,List.head?_append,ih]
        simp only [ubt,Nat.add_zero]
        cases ub7 n ok m (l++[((i+a:Nat):Int)]) (i+a+1)with
        |some r=>rfl
        | none=>
          simp only [Option.none_or,List.flatMap_map]
          have:=ihk (a+1)
          rw [show i+(a+1)=i+a+1 by omega]at this
          rw [←this]
          congr 1
          congr 1
          funext j
          rw [show i+a+1+j=i+a+(j+1) by omega]
    have:=key (n-m-i) 0
    simpa using this
theorem uir {n:Nat} {ok:List Int→Bool}(h:ok (uaF n)=true):∃j,j≤n∧uat n ok=allC n ok j [] 0∧allC n ok j [] 0≠[]∧∀i,i<j→allC n ok i [] 0=[]:=by
  have hs:=ubJ h
  obtain⟨j,a1,a2,a3,a4,a5⟩:=unN (n:=n) (ok:=ok) (k:=n+1) (m:=0) ⟨(fewL n ok).length,Nat.zero_le _,by have:=ujO h;omega,fun q=>by
    have:=(ueS (m:=(fewL n ok).length) (l:=[]) (i:=0) (F:=fewL n ok)).2 ⟨_,hs.1,rfl,rfl,hs.2.1⟩
    rw [q]at this;cases this⟩
  exact⟨j,by omega,a3,a4,fun i hi=>a5 i (Nat.zero_le _) hi⟩
theorem ueN {n:Nat} {ok:List Int→Bool}(h:ok (uaF n)=true) {F:List Int}:F∈uat n ok↔Asc n 0 F∧ok F=true∧F.length=(fewL n ok).length:=by
  obtain⟨j,hj,e,hne,hno⟩:=uir h
  have hs:=ubJ h
  have hjl:(fewL n ok).length=j:=by
    have h1:¬(fewL n ok).length<j:=fun q=>by
      have:=(ueS (m:=(fewL n ok).length) (l:=[]) (i:=0) (F:=fewL n ok)).2 ⟨_,hs.1,rfl,rfl,hs.2.1⟩
      rw [hno _ q]at this;cases this
    obtain⟨F,hF⟩:=List.exists_mem_of_ne_nil _ hne
    obtain⟨s,b1,b2,b3,b4⟩:=ueS.1 hF
    rw [List.nil_append]at b3
    subst b3
    have:=(hs.2.2 _ b1 b4).1
    omega
  rw [e,ueS]
  constructor
  · rintro⟨s,b1,b2,b3,b4⟩
    rw [List.nil_append]at b3
    subst b3
    exact⟨b1,b4,by omega⟩
  · rintro⟨b1,b2,b3⟩
    exact⟨F,b1,by omega,rfl,b2⟩
theorem umm {n:Nat} {ok:List Int→Bool}(h:ok (uaF n)=true):(uat n ok).head?=some (fewL n ok):=by
  obtain⟨j,hj,e,hne,hno⟩:=uir h
  have hs:=ubJ h
  have hm:=(ueN h (F:=fewL n ok)).2 ⟨hs.1,hs.2.1,rfl⟩
  rw [e,uoU]
  rw [e]at hm
  obtain⟨s,b1,b2,b3,b4⟩:=ueS.1 hm
  cases hc:ub7 n ok j [] 0 with
  | none=>
    have:=ues hc s b1 b2
    rw [←b3,b4]at this;cases this
  | some G=>
    obtain⟨t,c1,c2,c3,c4,c5⟩:=ugh hc
    rw [List.nil_append]at c3 b3
    subst c3
    have hl:(fewL n ok).length=j:=by rw [b3];exact b2
    rcases(hs.2.2 _ c1 c4).2 (by omega)with q|q
    · rw [q]
    · rcases c5 (fewL n ok) hs.1 (by omega) (by simpa using hs.2.1)with r|r
      · rw [r]
      · exfalso
        have a:=urt q
        have b:=urt r
        have:=uo3 (by omega) (by omega) a b
        have c:=uqX (fewL n ok)
        rw [c]at this;cases this
end Go.Eng.Few

namespace Go.Eng.Few
structure Agree (P:Nat)(ok:List Int→Bool)(h:Nat→Bool):Prop where
  p:P≤16
  all:ok (uaF P)=true
  h:∀b,b<2^P→h b=ok (ueo b 16)
def ujS (P:Nat)(ok:List Int→Bool)(p:Nat):Bool:=(uat P ok).all fun F=>F.contains (p:Int)
def ujL (P:Nat)(ok:List Int→Bool)(p:Nat):Bool:=(uat P ok).any fun F=>F.contains (p:Int)
def selL (f:Nat→Bool):Nat→List Int
  |0=>[]
  |p+1=>if f p=true then selL f p++[(p:Int)]else selL f p
theorem ur3 {b:Nat} {f:Nat→Bool}:∀{n:Nat},(∀p,p<n→b.testBit p=f p)→ueo b n=selL f n:=by
  intro n
  induction n with
  |zero=>intro _;rfl
  | succ n ih=>
    intro h
    simp only [ueo,selL,h n (by omega),ih fun p hp=>h p (by omega)]
end Go.Eng.Few

namespace Go.Eng.Dif
def mn (a b:Int):Int:=if b<a then b else a
theorem ure (a b:Int):mn a b≤a:=by unfold mn;split<;>omega
theorem urm (a b:Int):mn a b≤b:=by unfold mn;split<;>omega
theorem uqa (a b:Int):mn a b=a∨mn a b=b:=by unfold mn;split<;>simp
theorem usi {a b:Int}(h:a≤b):mn a b=a:=by unfold mn;rw [if_neg (by omega)]
def lst (M:Nat→Int)(p:Nat)(n:Int):Nat→Int:=fun i=>if i=p then mn (M i) n else M i
def at4 (f t:Nat):Nat:=f*4+t
def stp (v:Nat)(M:Nat→Int)(k:Nat):Nat→Int:=lst M k (M (at4 (k/4) v)+M (at4 v (k%4)))
def phN (v:Nat)(M:Nat→Int):Nat→Nat→Int
  |0=>M
  |k+1=>stp v (phN v M k) k
def fwN (M:Nat→Int):Nat→Nat→Int
  |0=>M
  |v+1=>phN v (fwN M v) 16
def fw (M:Nat→Int):Nat→Int:=fwN M 4
def fwP (M:Nat→Int):Nat→Nat→Int
  |0=>M
  |n+1=>fw (fwP M n)
def clo (M:Nat→Int):Nat→Int:=fwP M 4
def okD (M:Nat→Int):Bool:=decide (0≤M 0∧0≤M 5∧0≤M 10∧0≤M 15)
def Sol (M:Nat→Int)(x:Nat→Int):Prop:=∀f t,f<4→t<4→x t-x f≤M (at4 f t)
theorem ulE (M:Nat→Int)(p:Nat)(n:Int)(i:Nat):lst M p n i≤M i:=by
  unfold lst
  split
  · exact ure _ _
  · exact Int.le_refl _
theorem uul (v:Nat)(M:Nat→Int)(k i:Nat):stp v M k i≤M i:=ulE _ _ _ _
theorem uoM (v:Nat)(M:Nat→Int):∀k i,phN v M k i≤M i:=by
  intro k
  induction k with
  |zero=>exact fun i=>Int.le_refl _
  |succ k ih=>exact fun i=>Int.le_trans (uul _ _ _ _) (ih i)
theorem urV (M:Nat→Int):∀v i,fwN M v i≤M i:=by
  intro v
  induction v with
  |zero=>exact fun i=>Int.le_refl _
  |succ v ih=>exact fun i=>Int.le_trans (uoM _ _ _ _) (ih i)
theorem uqZ (M:Nat→Int)(i:Nat):fw M i≤M i:=urV M 4 i
theorem urS (M:Nat→Int):∀n i,fwP M n i≤M i:=by
  intro n
  induction n with
  |zero=>exact fun i=>Int.le_refl _
  |succ n ih=>exact fun i=>Int.le_trans (uqZ _ _) (ih i)
theorem ula (M:Nat→Int)(i:Nat):clo M i≤M i:=urS M 4 i
theorem uij {f t:Nat}(h:t<4):at4 f t/4=f:=by unfold at4;omega
theorem uig {f t:Nat}(h:t<4):at4 f t%4=t:=by unfold at4;omega
theorem ute {v:Nat} {M:Nat→Int} {k:Nat} {x:Nat→Int}(hv:v<4)(hk:k<16)(h:Sol M x):Sol (stp v M k) x:=by
  intro f t hf ht
  unfold stp lst
  split
  · rename_i e
    have a:=h f t hf ht
    have b:=h (k/4) v (by omega) hv
    have c:=h v (k%4) hv (by omega)
    have e1:k/4=f:=by rw [←e];exact uij ht
    have e2:k%4=t:=by rw [←e];exact uig ht
    rw [e1]at b
    rw [e2]at c
    rw [e1,e2]
    unfold mn
    split<;>omega
  · exact h f t hf ht
theorem ut8 {v:Nat} {M:Nat→Int} {x:Nat→Int}(hv:v<4)(h:Sol M x):∀k,k≤16→Sol (phN v M k) x:=by
  intro k
  induction k with
  |zero=>exact fun _=>h
  |succ k ih=>exact fun hk=>ute hv (by omega) (ih (by omega))
theorem usB {M:Nat→Int} {x:Nat→Int}(h:Sol M x):∀v,v≤4→Sol (fwN M v) x:=by
  intro v
  induction v with
  |zero=>exact fun _=>h
  |succ v ih=>exact fun hv=>ut8 (by omega) (ih (by omega)) 16 (Nat.le_refl _)
theorem uuO {M:Nat→Int} {x:Nat→Int}(h:Sol M x):Sol (fw M) x:=usB h 4 (Nat.le_refl _)
theorem utF {M:Nat→Int} {x:Nat→Int}(h:Sol M x):∀n,Sol (fwP M n) x:=by
  intro n
  induction n with
  |zero=>exact h
  |succ n ih=>exact uuO ih
theorem uej {M:Nat→Int} {x:Nat→Int}:Sol (clo M) x↔Sol M x:=
  ⟨fun h f t hf ht=>Int.le_trans (h f t hf ht) (ula M _),fun h=>utF h 4⟩
theorem uuw {v:Nat} {M:Nat→Int}(hv:v<4)(hd:0≤M (at4 v v)):∀k,k≤16→∀f t,f<4→t<4→phN v M k (at4 f t)=if at4 f t<k then mn (M (at4 f t)) (M (at4 f v)+M (at4 v t))else M (at4 f t):=by
  intro k
  induction k with
  |zero=>intro _ f t _ _;rfl
  | succ k ih=>
    intro hk f t hf ht
    have ih:=ih (by omega)
    show stp v (phN v M k) k (at4 f t)=_
    unfold stp lst
    by_cases e:at4 f t=k
    · rw [if_pos e,if_pos (by omega)]
      have e1:k/4=f:=by rw [←e];exact uij ht
      have e2:k%4=t:=by rw [←e];exact uig ht
      rw [e1,e2,ih f t hf ht,ih f v hf hv,ih v t hv ht,if_neg (by omega)]
      have a:(if at4 f v<k then mn (M (at4 f v)) (M (at4 f v)+M (at4 v v))else M (at4 f v))=M (at4 f v):=by
        split
        · exact usi (by omega)
        · rfl
      have b:(if at4 v t<k then mn (M (at4 v t)) (M (at4 v v)+M (at4 v t))else M (at4 v t))=M (at4 v t):=by
        split
        · exact usi (by omega)
        · rfl
      rw [a,b]
    · rw [if_neg e,ih f t hf ht]
      by_cases q:at4 f t<k
      · rw [if_pos q,if_pos (by omega)]
      · rw [if_neg q,if_neg (by omega)]
def Clo (M:Nat→Int):Prop:=∀f v t,f<4→v<4→t<4→M (at4 f t)≤M (at4 f v)+M (at4 v t)
def Dg (M:Nat→Int):Prop:=∀n,n<4→0≤M (at4 n n)
theorem ugb {M:Nat→Int}:okD M=true↔Dg M:=by
  unfold okD
  rw [decide_eq_true_eq]
  constructor
  · rintro⟨a,b,c,d⟩ n hn
    have:n=0∨n=1∨n=2∨n=3:=by omega
    rcases this with rfl|rfl|rfl|rfl
    · exact a
    · exact b
    · exact c
    · exact d
  · intro h
    exact⟨h 0 (by omega),h 1 (by omega),h 2 (by omega),h 3 (by omega)⟩
theorem uik {M:Nat→Int} {v:Nat}(hv:v<4)(hd:Dg (fwN M v)) {f t:Nat}(hf:f<4)(ht:t<4):fwN M (v+1) (at4 f t)=mn (fwN M v (at4 f t)) (fwN M v (at4 f v)+fwN M v (at4 v t)):=by
  show phN v (fwN M v) 16 (at4 f t)=_
  rw [uuw hv (hd v hv) 16 (Nat.le_refl _) f t hf ht,if_pos (by unfold at4;omega)]
theorem usO {M:Nat→Int}(hd:Dg (fw M)):∀w,w≤4→∀v,v<w→∀f t,f<4→t<4→fwN M w (at4 f t)≤fwN M w (at4 f v)+fwN M w (at4 v t):=by
  have hdw:∀w,w≤4→Dg (fwN M w):=by
    intro w hw n hn
    have key:∀d w,w+d=4→fwN M 4 (at4 n n)≤fwN M w (at4 n n):=by
      intro d
      induction d with
      |zero=>intro w e;rw [show w=4 by omega];exact Int.le_refl _
      |succ d ih=>intro w e;exact Int.le_trans (ih (w+1) (by omega)) (uoM _ _ _ _)
    exact Int.le_trans (hd n hn) (key (4-w) w (by omega))
  intro w
  induction w with
  |zero=>intro _ v hv;omega
  | succ w ih=>
    intro hw v hv f t hf ht
    have ih:=ih (by omega)
    have hD:=hdw w (by omega)
    have hw4:w<4:=by omega
    rw [uik hw4 hD hf ht,uik hw4 hD hf (by omega:v<4),uik hw4 hD (by omega:v<4) ht]
    have dw:=hD w hw4
    have m1:=ure (fwN M w (at4 f t)) (fwN M w (at4 f w)+fwN M w (at4 w t))
    have m2:=urm (fwN M w (at4 f t)) (fwN M w (at4 f w)+fwN M w (at4 w t))
    by_cases e:v=w
    · subst e
      rcases uqa (fwN M v (at4 f v)) (fwN M v (at4 f v)+fwN M v (at4 v v))with q|q<;>rcases uqa (fwN M v (at4 v t)) (fwN M v (at4 v v)+fwN M v (at4 v t))with r|r<;>rw [q,r]<;>omega
    · have c1:=ih v (by omega) f t hf ht
      have c2:=ih v (by omega) f w hf hw4
      have c3:=ih v (by omega) w t hw4 ht
      have c4:=ih v (by omega) w w hw4 hw4
      rcases uqa (fwN M w (at4 f v)) (fwN M w (at4 f w)+fwN M w (at4 w v))with q|q<;>rcases uqa (fwN M w (at4 v t)) (fwN M w (at4 v w)+fwN M w (at4 w t))with r|r<;>rw [q,r]<;>omega
theorem uuY {M:Nat→Int}(hd:Dg (fw M)):Clo (fw M):=fun f v t hf hv ht=>usO hd 4 (Nat.le_refl _) v hv f t hf ht
theorem upW {v:Nat} {M:Nat→Int}(hv:v<4)(hc:Clo M) {k:Nat}(hk:k<16) {i:Nat}(hi:i<16):stp v M k i=M i:=by
  unfold stp lst
  split
  · rename_i e
    subst e
    refine usi ?_
    have:=hc (i/4) v (i%4) (by omega) hv (by omega)
    rwa [show at4 (i/4) (i%4)=i by unfold at4;omega]at this
  · rfl
def Same (A B:Nat→Int):Prop:=∀i,i<16→A i=B i
theorem uez {f t:Nat}(hf:f<4)(ht:t<4):at4 f t<16:=by unfold at4;omega
theorem ueD {A B:Nat→Int}(h:Same A B)(hc:Clo B):Clo A:=fun f v t hf hv ht=>by
  rw [h _ (uez hf ht),h _ (uez hf hv),h _ (uez hv ht)];exact hc f v t hf hv ht
theorem uqr {v:Nat} {M:Nat→Int}(hv:v<4)(hc:Clo M):∀k,k≤16→Same (phN v M k) M:=by
  intro k
  induction k with
  |zero=>intro _ i _;rfl
  | succ k ih=>
    intro hk i hi
    have ih:=ih (by omega)
    show stp v (phN v M k) k i=_
    rw [upW hv (ueD ih hc) (by omega) hi]
    exact ih i hi
theorem urc {M:Nat→Int}(hc:Clo M):∀v,v≤4→Same (fwN M v) M:=by
  intro v
  induction v with
  |zero=>intro _ i _;rfl
  | succ v ih=>
    intro hv i hi
    have ih:=ih (by omega)
    show phN v (fwN M v) 16 i=_
    rw [uqr (by omega) (ueD ih hc) 16 (Nat.le_refl _) i hi]
    exact ih i hi
theorem uk4 {M:Nat→Int}(hc:Clo M):Same (fw M) M:=urc hc 4 (Nat.le_refl _)
theorem usU {A B:Nat→Int}(h:∀i,A i≤B i)(hd:Dg A):Dg B:=fun n hn=>Int.le_trans (hd n hn) (h _)
theorem uko {M:Nat→Int}(hd:Dg (clo M)):Clo (clo M):=by
  have h1:Dg (fw M):=usU (fun i=>Int.le_trans (uqZ _ _) (Int.le_trans (uqZ _ _) (uqZ (fw M) i))) hd
  have c1:=uuY h1
  have s2:=uk4 c1
  have c2:=ueD s2 c1
  have s3:=uk4 c2
  have c3:=ueD s3 c2
  exact ueD (uk4 c3) c3
theorem unE {M:Nat→Int}(hc:Clo M)(hd:Dg M)(s:Nat)(hs:s<4):Sol M (fun t=>M (at4 s t)):=fun f t hf ht=>by
  have:=hc s f t hs hf ht
  show M (at4 s t)-M (at4 s f)≤_
  omega
theorem uuD {M:Nat→Int} {x:Nat→Int}(h:Sol M x):Dg M:=fun n hn=>by
  have:=h n n hn hn
  omega
theorem uuI {M:Nat→Int}:okD (clo M)=true↔∃x,Sol M x:=by
  rw [ugb]
  constructor
  · intro h
    exact⟨_,uej.1 (unE (uko h) h 0 (by omega))⟩
  · rintro⟨x,hx⟩
    exact uuD (uej.2 hx)
theorem unY {A B:Nat→Int}(h:Same A B):Same (fw A) (fw B):=by
  have hs:∀v k X Y,v<4→k<16→Same X Y→Same (stp v X k) (stp v Y k):=fun v k X Y hv hk hXY i hi=>by
    unfold stp lst
    rw [hXY _ (uez (by omega:k/4<4) hv),hXY _ (uez hv (by omega:k%4<4)),hXY i hi]
  have hp:∀v X Y,v<4→Same X Y→∀k,k≤16→Same (phN v X k) (phN v Y k):=fun v X Y hv hXY k=>by
    induction k with
    |zero=>exact fun _=>hXY
    |succ k ih=>exact fun hk=>hs v k _ _ hv (by omega) (ih (by omega))
  have hf:∀v,v≤4→Same (fwN A v) (fwN B v):=fun v=>by
    induction v with
    |zero=>exact fun _=>h
    |succ v ih=>exact fun hv=>hp v _ _ (by omega) (ih (by omega)) 16 (Nat.le_refl _)
  exact hf 4 (Nat.le_refl _)
theorem uqA {M:Nat→Int} {n:Nat}(h:Same (fwP M (n+1)) (fwP M n)):∀k,Same (fwP M (n+1+k)) (fwP M (n+1)):=by
  intro k
  induction k with
  |zero=>intro i _;rfl
  | succ k ih=>
    intro i hi
    show fw (fwP M (n+1+k)) i=_
    rw [unY ih i hi]
    exact unY h i hi
def cf (v k i:Nat):Int:=if i<k then(if i=at4 v v then 2 else if i/4=v∨i%4=v then 3 else 6)else 1
theorem uwa {v:Nat} {M:Nat→Int} {b:Int}(hv:v<4)(hb:0≤b)(h:∀i,i<16→ -b≤M i):∀k,k≤16→∀i,i<16→ -(cf v k i*b)≤phN v M k i:=by
  intro k
  induction k with
  |zero=>intro _ i hi;have:=h i hi;unfold cf;simp only [Nat.not_lt_zero,if_false,phN];omega
  | succ k ih=>
    intro hk i hi
    have ih:=ih (by omega)
    show _≤stp v (phN v M k) k i
    unfold stp lst
    have c1:=ih i hi
    by_cases e:i=k
    · subst e
      rw [if_pos rfl]
      have c2:=ih (at4 (i/4) v) (uez (by omega) hv)
      have c3:=ih (at4 v (i%4)) (uez hv (by omega))
      have key:cf v i (at4 (i/4) v)+cf v i (at4 v (i%4))≤cf v (i+1) i∧cf v i i=1∧1≤cf v (i+1) i:=by
        unfold cf at4
        have hv':v=0∨v=1∨v=2∨v=3:=by omega
        have hi':i=0∨i=1∨i=2∨i=3∨i=4∨i=5∨i=6∨i=7∨i=8∨i=9∨i=10∨i=11∨i=12∨i=13∨i=14∨i=15:=by omega
        rcases hv' with rfl|rfl|rfl|rfl<;>rcases hi' with rfl|rfl|rfl|rfl|rfl|rfl|rfl|rfl|rfl|rfl|rfl|rfl|rfl|rfl|rfl|rfl<;>decide
      obtain⟨k1,k2,k3⟩:=key
      have q1:(cf v i (at4 (i/4) v)+cf v i (at4 v (i%4)))*b≤cf v (i+1) i*b:=Int.mul_le_mul_of_nonneg_right k1 hb
      have q2:1*b≤cf v (i+1) i*b:=Int.mul_le_mul_of_nonneg_right k3 hb
      rw [Int.add_mul]at q1
      rw [k2]at c1
      generalize cf v (i+1) i*b=z at *
      generalize cf v i (at4 (i/4) v)*b=z1 at *
      generalize cf v i (at4 v (i%4))*b=z2 at *
      unfold mn
      split<;>omega
    · rw [if_neg e]
      have:cf v (k+1) i=cf v k i:=by
        unfold cf
        by_cases q:i<k
        · rw [if_pos q,if_pos (by omega)]
        · rw [if_neg q,if_neg (by omega)]
      rw [this]
      exact c1
theorem urF {v:Nat} {M:Nat→Int} {b:Int}(hv:v<4)(hb:0≤b)(h:∀i,i<16→ -b≤M i) {k:Nat}(hk:k≤16) {i:Nat}(hi:i<16): -(6*b)≤phN v M k i:=by
  have q:=uwa hv hb h k hk i hi
  have c:cf v k i≤6∧0≤cf v k i:=by
    unfold cf
    repeat' split
    all_goals omega
  have:=Int.mul_le_mul_of_nonneg_right c.1 hb
  omega
theorem urL {M:Nat→Int} {b:Int}(hb:0≤b)(h:∀i,i<16→ -b≤M i):∀v,v≤4→∀i,i<16→ -(6^v*b)≤fwN M v i:=by
  intro v
  induction v with
  |zero=>intro _ i hi;have:=h i hi;show -(6^0*b)≤M i;simpa using this
  | succ v ih=>
    intro hv i hi
    have hp:(0:Int)≤6^v*b:=Int.mul_nonneg (Int.pow_nonneg (by decide)) hb
    have:=urF (by omega:v<4) hp (ih (by omega)) (Nat.le_refl 16) hi
    rw [Int.pow_succ,Int.mul_comm (6^v) 6,Int.mul_assoc]
    exact this
end Go.Eng.Dif

namespace Go.Eng.Dif
def mx (a b:Int):Int:=if b>a then b else a
theorem urE {a b n:Int}:n≤mn a b↔n≤a∧n≤b:=by unfold mn;split<;>omega
structure Six where
  l0:Int
  h0:Int
  l1:Int
  h1:Int
  l2:Int
  h2:Int
  al:Int
  ah:Int
  bl:Int
  bh:Int
  cl:Int
  ch:Int
structure Fits (s:Six)(n p q:Int):Prop where
  n0:s.l0≤n
  n1:n≤s.h0
  p0:s.l1≤p
  p1:p≤s.h1
  q0:s.l2≤q
  q1:q≤s.h2
  a0:s.al≤p-n
  a1:p-n≤s.ah
  b0:s.bl≤q-n
  b1:q-n≤s.bh
  c0:s.cl≤q-p
  c1:q-p≤s.ch
section
variable (s:Six) (n:Int)
def bL :Int:=mx s.l1 (n+s.al)
def bH :Int:=mn s.h1 (n+s.ah)
def cL :Int:=mx s.l2 (n+s.bl)
def cH :Int:=mn s.h2 (n+s.bh)
def xL :Int:=mx (bL s n) (cL s n-s.ch)
def xH :Int:=mn (bH s n) (cH s n-s.cl)
def yL :Int:=mx (cL s n) (bL s n+s.cl)
def yH :Int:=mn (cH s n) (bH s n+s.ch)
def goB :Bool:=decide (bL s n≤bH s n∧cL s n≤cH s n)&&decide (s.cl≤s.ch∧xL s n≤xH s n∧yL s n≤yH s n)
end
structure Bnd where
  l0:Int
  h0:Int
  l1:Int
  h1:Int
  l2:Int
  h2:Int
def bd0 :Bnd:=⟨9999,-1,9999,-1,9999,-1⟩
structure Sml (s:Six):Prop where
  l0:0≤s.l0
  h0:s.h0≤2000
  l1:0≤s.l1
  h1:s.h1≤2000
  l2:0≤s.l2
  h2:s.h2≤2000
structure Seen (s:Six)(k:Nat)(b:Bnd):Prop where
  none:b.h0<0→b=bd0∧∀j:Nat,j<k→goB s (s.l0+(j:Int))=false
  le:∀n p q,Fits s n p q→n<s.l0+(k:Int)→(b.l0≤n∧n≤b.h0)∧(b.l1≤p∧p≤b.h1)∧(b.l2≤q∧q≤b.h2)
  e0:0≤b.h0→(∃p q,Fits s b.l0 p q)∧∃p q,Fits s b.h0 p q
  e1:0≤b.h0→(∃n q,Fits s n b.l1 q)∧∃n q,Fits s n b.h1 q
  e2:0≤b.h0→(∃n p,Fits s n p b.l2)∧∃n p,Fits s n p b.h2
end Go.Eng.Dif

namespace Go.Eng.Dif
structure Btw where
  f:Nat
  t:Nat
  lo:Int
  hi:Int
def M00 :Nat→Int:=fun i=>if i/4=i%4 then 0 else 2000
def addB (M:Nat→Int)(b:Btw):Nat→Int:=lst (lst M (at4 b.f b.t) b.hi) (at4 b.t b.f) (-b.lo)
def addL (M:Nat→Int):List Btw→Nat→Int
  |[]=>M
  |b::l=>addL (addB M b) l
def Btw.Is (b:Btw)(x:Nat→Int):Prop:=b.lo≤x b.t-x b.f∧x b.t-x b.f≤b.hi
theorem utD {f t f' t':Nat}(ht:t<4)(ht':t'<4)(h:at4 f t=at4 f' t'):f=f'∧t=t':=by unfold at4 at h;omega
theorem uno {M:Nat→Int} {f t:Nat}(hf:f<4)(ht:t<4) {n:Int} {x:Nat→Int}:Sol (lst M (at4 f t) n) x↔Sol M x∧x t-x f≤n:=by
  constructor
  · intro h
    refine⟨fun a b ha hb=>Int.le_trans (h a b ha hb) (ulE _ _ _ _),?_⟩
    have:=h f t hf ht
    unfold lst at this
    rw [if_pos rfl]at this
    exact Int.le_trans this (urm _ _)
  · rintro⟨h,hn⟩ a b ha hb
    unfold lst
    split
    · rename_i e
      obtain⟨rfl,rfl⟩:=utD hb ht e
      exact urE.2 ⟨h _ _ ha hb,hn⟩
    · exact h a b ha hb
theorem ur7 {M:Nat→Int} {b:Btw}(hf:b.f<4)(ht:b.t<4) {x:Nat→Int}:Sol (addB M b) x↔Sol M x∧b.Is x:=by
  unfold addB Btw.Is
  rw [uno ht hf,uno hf ht]
  constructor
  · rintro⟨⟨h1,h2⟩,h3⟩;exact⟨h1,by omega,h2⟩
  · rintro⟨h1,h2,h3⟩;exact⟨⟨h1,h3⟩,by omega⟩
theorem uli {l:List Btw}:∀{M:Nat→Int} {x:Nat→Int},(∀b∈l,b.f<4∧b.t<4)→(Sol (addL M l) x↔Sol M x∧∀b∈l,b.Is x):=by
  induction l with
  |nil=>intro M x _;exact⟨fun h=>⟨h,fun b hb=>by cases hb⟩,fun h=>h.1⟩
  | cons b l ih=>
    intro M x hl
    have hb:=hl b (by simp)
    show Sol (addL (addB M b) l) x↔_
    rw [ih fun c hc=>hl c (List.mem_cons_of_mem _ hc),ur7 hb.1 hb.2]
    constructor
    · rintro⟨⟨h1,h2⟩,h3⟩
      refine⟨h1,fun c hc=> ?_⟩
      rcases List.mem_cons.1 hc with rfl|hc
      · exact h2
      · exact h3 c hc
    · rintro⟨h1,h2⟩
      exact⟨⟨h1,h2 b (by simp)⟩,fun c hc=>h2 c (List.mem_cons_of_mem _ hc)⟩
theorem uf1 {l m:List Btw}:∀{M:Nat→Int},addL M (l++m)=addL (addL M l) m:=by
  induction l with
  |nil=>intro M;rfl
  |cons b l ih=>intro M;exact ih
theorem utB (M:Nat→Int)(b:Btw)(i:Nat):addB M b i≤M i:=Int.le_trans (ulE _ _ _ _) (ulE _ _ _ _)
theorem uoj {l:List Btw}:∀{M:Nat→Int} (i:Nat),addL M l i≤M i:=by
  induction l with
  |nil=>intro M i;exact Int.le_refl _
  |cons b l ih=>intro M i;exact Int.le_trans (ih i) (utB M b i)
theorem urP {M:Nat→Int} {p:Nat} {n c:Int}(hn:c≤n) {i:Nat}(h:c≤M i):c≤lst M p n i:=by
  unfold lst
  split
  · exact urE.2 ⟨h,hn⟩
  · exact h
theorem uth {c:Int} {l:List Btw}:∀{M:Nat→Int} {i:Nat},c≤M i→(∀b∈l,c≤b.hi∧c≤ -b.lo)→c≤addL M l i:=by
  induction l with
  |nil=>intro M i h _;exact h
  | cons b l ih=>
    intro M i h hl
    have hb:=hl b (by simp)
    exact ih (urP hb.2 (urP hb.1 h)) fun c hc=>hl c (List.mem_cons_of_mem _ hc)
theorem uvF {M:Nat→Int}(hd:Dg (clo M))(h0:M 0≤0) {s:Nat}(hs:s<4):(∀x,Sol M x→x s-x 0≤clo M (at4 0 s))∧Sol M (fun t=>clo M (at4 0 t))∧clo M (at4 0 0)=0:=by
  refine⟨fun x hx=>(uej.2 hx) 0 s (by omega) hs,uej.1 (unE (uko hd) hd 0 (by omega)),?_⟩
  have a:=hd 0 (by omega)
  have b:=ula M (at4 0 0)
  have e:at4 0 0=0:=rfl
  rw [e]at a b⊢
  omega
theorem uw0 {M:Nat→Int}(hd:Dg (clo M))(h0:∀n,n<4→M (at4 n n)≤0) {s:Nat}(hs:s<4):(∀x,Sol M x→ -clo M (at4 s 0)≤x s-x 0)∧Sol M (fun t=>clo M (at4 s t))∧clo M (at4 s s)=0:=by
  refine⟨fun x hx=>by have:=(uej.2 hx) s 0 hs (by omega);omega,uej.1 (unE (uko hd) hd s hs),?_⟩
  have a:=hd s hs
  have b:=ula M (at4 s s)
  have c:=h0 s hs
  omega
end Go.Eng.Dif

namespace Go.Eng.Dif
structure Lk where
  a:Nat
  b:Nat
  lo:Int
  hi:Int
structure Fa where
  s:Nat
  lo:Int
  hi:Int
structure Tr (S:Nat)(ls:List Lk)(fs:List Fa)(x:Nat→Int):Prop where
  r:∀s,s<S→0≤x s∧x s≤2000
  l:∀k∈ls,k.lo≤x k.b-x k.a∧x k.b-x k.a≤k.hi
  f:∀k∈fs,k.lo≤x k.s∧x k.s≤k.hi
structure Okk (S:Nat)(ls:List Lk)(fs:List Fa):Prop where
  s1:1≤S
  s3:S≤3
  l:∀k∈ls,k.a<S∧k.b<S∧k.a≠k.b
  f:∀k∈fs,k.s<S
def bS (n:Nat):List Btw:=(List.range n).map fun s=>⟨0,s+1,0,2000⟩
def bL_ (ls:List Lk):List Btw:=ls.map fun k=>⟨k.a+1,k.b+1,k.lo,k.hi⟩
def bF (fs:List Fa):List Btw:=fs.map fun k=>⟨0,k.s+1,k.lo,k.hi⟩
def matD (S:Nat)(ls:List Lk)(fs:List Fa):Nat→Int:=addL M00 (bS S++bL_ ls++bF fs)
theorem us9 {x:Nat→Int}(h:∀s,s<4→0≤x s∧x s≤2000):Sol M00 x:=by
  intro f t hf ht
  unfold M00
  rw [uij ht,uig ht]
  have a:=h f hf
  have b:=h t ht
  split
  · rename_i e;subst e;omega
  · omega
theorem uri {S:Nat} {ls:List Lk} {fs:List Fa}(h:Okk S ls fs):∀b∈bS S++bL_ ls++bF fs,b.f<4∧b.t<4:=by
  intro b hb
  have s3:=h.s3
  rcases List.mem_append.1 hb with hb|hb
  · rcases List.mem_append.1 hb with hb|hb
    · obtain⟨s,hs,rfl⟩:=List.mem_map.1 hb
      have:=List.mem_range.1 hs
      exact⟨by show 0<4;omega,by show s+1<4;omega⟩
    · obtain⟨k,hk,rfl⟩:=List.mem_map.1 hb
      have:=h.l k hk
      exact⟨by show k.a+1<4;omega,by show k.b+1<4;omega⟩
  · obtain⟨k,hk,rfl⟩:=List.mem_map.1 hb
    have:=h.f k hk
    exact⟨by show 0<4;omega,by show k.s+1<4;omega⟩
theorem uou {S:Nat} {ls:List Lk} {fs:List Fa}(h:Okk S ls fs) {y:Nat→Int}(hy:Sol (matD S ls fs) y):Tr S ls fs (fun s=>y (s+1)-y 0):=by
  have q:=((uli (uri h)).1 hy).2
  refine⟨fun s hs=> ?_,fun k hk=> ?_,fun k hk=> ?_⟩
  · exact q ⟨0,s+1,0,2000⟩ (List.mem_append_left _ (List.mem_append_left _ (List.mem_map.2 ⟨s,List.mem_range.2 hs,rfl⟩)))
  · have:=q ⟨k.a+1,k.b+1,k.lo,k.hi⟩ (List.mem_append_left _ (List.mem_append_right _ (List.mem_map.2 ⟨k,hk,rfl⟩)))
    unfold Btw.Is at this
    simp only at this⊢
    omega
  · exact q ⟨0,k.s+1,k.lo,k.hi⟩ (List.mem_append_right _ (List.mem_map.2 ⟨k,hk,rfl⟩))
def nod (S:Nat)(x:Nat→Int)(n:Nat):Int:=if n=0 then 0 else if n≤S then x (n-1)else 0
theorem umZ {S:Nat} {x:Nat→Int} {s:Nat}(h:s<S):nod S x (s+1)=x s:=by
  unfold nod
  rw [if_neg (by omega),if_pos (by omega)];rfl
theorem ulS {S:Nat} {ls:List Lk} {fs:List Fa}(h:Okk S ls fs) {x:Nat→Int}(hx:Tr S ls fs x):Sol (matD S ls fs) (nod S x):=by
  refine(uli (uri h)).2 ⟨us9 fun s hs=> ?_,fun b hb=> ?_⟩
  · unfold nod
    split
    · omega
    · split
      · exact hx.r _ (by omega)
      · omega
  · rcases List.mem_append.1 hb with hb|hb
    · rcases List.mem_append.1 hb with hb|hb
      · obtain⟨s,hs,rfl⟩:=List.mem_map.1 hb
        have hs:=List.mem_range.1 hs
        have:=hx.r s hs
        show 0≤nod S x (s+1)-nod S x 0∧nod S x (s+1)-nod S x 0≤2000
        rw [umZ hs]
        show 0≤x s-0∧x s-0≤2000
        omega
      · obtain⟨k,hk,rfl⟩:=List.mem_map.1 hb
        have o:=h.l k hk
        have:=hx.l k hk
        show k.lo≤nod S x (k.b+1)-nod S x (k.a+1)∧nod S x (k.b+1)-nod S x (k.a+1)≤k.hi
        rw [umZ o.1,umZ o.2.1]
        exact this
    · obtain⟨k,hk,rfl⟩:=List.mem_map.1 hb
      have o:=h.f k hk
      have:=hx.f k hk
      show k.lo≤nod S x (k.s+1)-nod S x 0∧nod S x (k.s+1)-nod S x 0≤k.hi
      rw [umZ o]
      show k.lo≤x k.s-0∧x k.s-0≤k.hi
      omega
theorem ulr (S:Nat)(ls:List Lk)(fs:List Fa)(n:Nat)(hn:n<4):matD S ls fs (at4 n n)≤0:=by
  have:=uoj (M:=M00) (l:=bS S++bL_ ls++bF fs) (at4 n n)
  have e:M00 (at4 n n)=0:=by unfold M00;rw [uij hn,uig hn,if_pos rfl]
  unfold matD
  omega
def hiD (S:Nat)(ls:List Lk)(fs:List Fa)(s:Nat):Int:=clo (matD S ls fs) (at4 0 (s+1))
def loD (S:Nat)(ls:List Lk)(fs:List Fa)(s:Nat):Int:= -clo (matD S ls fs) (at4 (s+1) 0)
def canD (S:Nat)(ls:List Lk)(fs:List Fa):Bool:=okD (clo (matD S ls fs))
theorem uaz {S:Nat} {ls:List Lk} {fs:List Fa}(h:Okk S ls fs):canD S ls fs=true↔∃x,Tr S ls fs x:=by
  unfold canD
  rw [uuI]
  exact⟨fun ⟨y,hy⟩=>⟨_,uou h hy⟩,fun ⟨x,hx⟩=>⟨_,ulS h hx⟩⟩
theorem unq {S:Nat} {ls:List Lk} {fs:List Fa}(h:Okk S ls fs)(hc:canD S ls fs=true) {s:Nat}(hs:s<S):(∀x,Tr S ls fs x→x s≤hiD S ls fs s)∧∃x,Tr S ls fs x∧x s=hiD S ls fs s:=by
  have s3:=h.s3
  have q:=uvF (ugb.1 hc) (ulr S ls fs 0 (by omega)) (s:=s+1) (by omega)
  refine⟨fun x hx=> ?_,_,uou h q.2.1,?_⟩
  · have:=q.1 _ (ulS h hx)
    rw [umZ hs]at this
    show x s≤clo _ _
    have e:nod S x 0=0:=rfl
    omega
  · show clo _ (at4 0 (s+1))-clo _ (at4 0 0)=clo _ (at4 0 (s+1))
    rw [q.2.2];omega
theorem uoG {S:Nat} {ls:List Lk} {fs:List Fa}(h:Okk S ls fs)(hc:canD S ls fs=true) {s:Nat}(hs:s<S):(∀x,Tr S ls fs x→loD S ls fs s≤x s)∧∃x,Tr S ls fs x∧x s=loD S ls fs s:=by
  have s3:=h.s3
  have q:=uw0 (ugb.1 hc) (fun n hn=>ulr S ls fs n hn) (s:=s+1) (by omega)
  refine⟨fun x hx=> ?_,_,uou h q.2.1,?_⟩
  · have:=q.1 _ (ulS h hx)
    rw [umZ hs]at this
    show -clo _ _≤x s
    have e:nod S x 0=0:=rfl
    omega
  · show clo _ (at4 (s+1) (s+1))-clo _ (at4 (s+1) 0) = -clo _ (at4 (s+1) 0)
    rw [q.2.2];omega
def ownR (s:Nat):List Fa→Int×Int
  |[]=>(0,2000)
  |k::l=>if k.s=s then(mx (ownR s l).1 k.lo,mn (ownR s l).2 k.hi)else ownR s l
def difR (a b:Nat):List Lk→Int×Int
  |[]=>(-2000,2000)
  | k::l=>
    let r:=difR a b l
    let r:=if k.a=a∧k.b=b then(mx r.1 k.lo,mn r.2 k.hi)else r
    if k.a=b∧k.b=a then(mx r.1 (-k.hi),mn r.2 (-k.lo))else r
def six (S:Nat)(ls:List Lk)(fs:List Fa):Six:=
  ⟨(ownR 0 fs).1,(ownR 0 fs).2,if 1<S then(ownR 1 fs).1 else 0,if 1<S then(ownR 1 fs).2 else 0,if 2<S then(ownR 2 fs).1 else 0,if 2<S then(ownR 2 fs).2 else 0,
   if 1<S then(difR 0 1 ls).1 else -2000,if 1<S then(difR 0 1 ls).2 else 2000,if 2<S then(difR 0 2 ls).1 else -2000,if 2<S then(difR 0 2 ls).2 else 2000,if 2<S then(difR 1 2 ls).1 else -2000,if 2<S then(difR 1 2 ls).2 else 2000⟩
def tri (n p q:Int)(s:Nat):Int:=if s=0 then n else if s=1 then p else q
def Bnd.lo (b:Bnd)(s:Nat):Int:=if s=0 then b.l0 else if s=1 then b.l1 else b.l2
def Bnd.hi (b:Bnd)(s:Nat):Int:=if s=0 then b.h0 else if s=1 then b.h1 else b.h2
end Go.Eng.Dif

namespace Go.Eng.Dif
open Go.Eng.Few
structure Rep (S:Nat)(ls:List Lk)(fs:List Fa)(s:Six):Prop where
  sml:Sml s
  tr:∀n p q,Fits s n p q→Tr S ls fs (tri n p q)
  fit:∀x,Tr S ls fs x→Fits s (x 0) (if 1<S then x 1 else 0) (if 2<S then x 2 else 0)
def f0 :Fa:=⟨0,0,0⟩
def lk0 :Lk:=⟨0,0,0,0⟩
def kpN (fs:List Fa)(c:Nat→Bool):Nat→List Fa
  |0=>[]
  |i+1=>if c i=true then kpN fs c i++[fs.getD i f0]else kpN fs c i
theorem ujP {fs:List Fa} {c:Nat→Bool} {n:Nat} {k:Fa}:k∈kpN fs c n↔∃i,i<n∧c i=true∧k=fs.getD i f0:=by
  induction n with
  |zero=>simp [kpN]
  | succ n ih=>
    simp only [kpN]
    split
    · rename_i q
      rw [List.mem_append,ih,List.mem_singleton]
      constructor
      · rintro(⟨i,hi,e⟩|e)
        · exact⟨i,by omega,e⟩
        · exact⟨n,by omega,q,e⟩
      · rintro⟨i,hi,hc,e⟩
        by_cases w:i=n
        · subst w;exact .inr e
        · exact .inl ⟨i,by omega,hc,e⟩
    · rename_i q
      rw [ih]
      constructor
      · rintro⟨i,hi,e⟩;exact⟨i,by omega,e⟩
      · rintro⟨i,hi,hc,e⟩
        by_cases w:i=n
        · subst w;exact absurd hc q
        · exact⟨i,by omega,hc,e⟩
theorem uti {fs:List Fa} {i:Nat}(h:i<fs.length):fs.getD i f0∈fs:=by
  rw [List.getD_eq_getElem?_getD,List.getElem?_eq_getElem h];exact List.getElem_mem h
theorem uv2 {ls:List Lk} {i:Nat}(h:i<ls.length):ls.getD i lk0∈ls:=by
  rw [List.getD_eq_getElem?_getD,List.getElem?_eq_getElem h];exact List.getElem_mem h
theorem uvq {ls:List Lk} {k:Lk}(h:k∈ls):∃i,i<ls.length∧ls.getD i lk0=k:=by
  obtain⟨i,hi,e⟩:=List.getElem_of_mem h
  exact⟨i,hi,by rw [List.getD_eq_getElem?_getD,List.getElem?_eq_getElem hi];exact e⟩
theorem uvb {fs:List Fa} {k:Fa}(h:k∈fs):∃i,i<fs.length∧fs.getD i f0=k:=by
  obtain⟨i,hi,e⟩:=List.getElem_of_mem h
  exact⟨i,hi,by rw [List.getD_eq_getElem?_getD,List.getElem?_eq_getElem hi];exact e⟩
theorem uuP {S:Nat} {ls:List Lk} {fs:List Fa}(h:Okk S ls fs)(c:Nat→Bool) {n:Nat}(hn:n≤fs.length):Okk S ls (kpN fs c n):=
  ⟨h.s1,h.s3,h.l,fun k hk=>by obtain⟨i,hi,_,e⟩:=ujP.1 hk;rw [e];exact h.f _ (uti (by omega))⟩
end Go.Eng.Dif

namespace Go.Eng.Dif
open Go.Eng.Few
def outL (o:List Int)(i:Nat):Bool:= !(o.contains (i:Int))
def canO (S:Nat)(ls:List Lk)(fs:List Fa)(c:Nat→Bool):Bool:=canD S ls (kpN fs c fs.length)
theorem uuA {S:Nat} {ls:List Lk} {fs:List Fa} {c:Nat→Bool} {x:Nat→Int}:Tr S ls (kpN fs c fs.length) x↔Tr S ls [] x∧∀i,i<fs.length→c i=true→(fs.getD i f0).lo≤x (fs.getD i f0).s∧x (fs.getD i f0).s≤(fs.getD i f0).hi:=by
  constructor
  · intro h
    exact⟨⟨h.r,h.l,fun k hk=>by cases hk⟩,fun i hi hc=>h.f _ (ujP.2 ⟨i,hi,hc,rfl⟩)⟩
  · rintro⟨h1,h2⟩
    refine⟨h1.r,h1.l,fun k hk=> ?_⟩
    obtain⟨i,hi,hc,rfl⟩:=ujP.1 hk
    exact h2 i hi hc
theorem ucQ {S:Nat} {ls:List Lk} {fs:List Fa}(h:Okk S ls fs) {c:Nat→Bool}:canO S ls fs c=true↔∃x,Tr S ls [] x∧∀i,i<fs.length→c i=true→(fs.getD i f0).lo≤x (fs.getD i f0).s∧x (fs.getD i f0).s≤(fs.getD i f0).hi:=by
  unfold canO
  rw [uaz (uuP h c (Nat.le_refl _))]
  exact⟨fun ⟨x,hx⟩=>⟨x,uuA.1 hx⟩,fun ⟨x,hx⟩=>⟨x,uuA.2 hx⟩⟩
theorem uiJ {S:Nat} {ls:List Lk} {fs:List Fa}(h:Okk S ls fs) {c d:Nat→Bool}(hcd:∀i,i<fs.length→d i=true→c i=true)(hc:canO S ls fs c=true):canO S ls fs d=true:=by
  rw [ucQ h]at hc⊢
  obtain⟨x,h1,h2⟩:=hc
  exact⟨x,h1,fun i hi hd=>h2 i hi (hcd i hi hd)⟩
theorem ujk {S:Nat} {ls:List Lk} {fs:List Fa}(h:Okk S ls fs) {c d:Nat→Bool}(hcd:∀i,i<fs.length→d i=c i):canO S ls fs c=canO S ls fs d:=
  Bool.eq_iff_iff.2 ⟨uiJ h fun i hi q=>by rw [←hcd i hi];exact q,uiJ h fun i hi q=>by rw [hcd i hi];exact q⟩
theorem uem {S:Nat} {ls:List Lk} {fs:List Fa}(h:Okk S ls fs):Okk S ls []:=⟨h.s1,h.s3,h.l,fun k hk=>by cases hk⟩
theorem uiO {S:Nat} {ls:List Lk} {fs:List Fa}(h:Okk S ls fs) {c:Nat→Bool}(hc:∀i,i<fs.length→c i=false):canO S ls fs c=canD S ls []:=by
  apply Bool.eq_iff_iff.2
  rw [ucQ h,uaz (uem h)]
  exact⟨fun ⟨x,h1,_⟩=>⟨x,h1⟩,fun ⟨x,h1⟩=>⟨x,h1,fun i hi q=>by rw [hc i hi]at q;cases q⟩⟩
theorem uhN {S:Nat} {ls:List Lk} {fs:List Fa}(h:Okk S ls fs) {c:Nat→Bool}(hc:∀i,i<fs.length→c i=true):canO S ls fs c=canD S ls fs:=by
  apply Bool.eq_iff_iff.2
  rw [ucQ h,uaz h]
  constructor
  · rintro⟨x,h1,h2⟩
    refine⟨x,h1.r,h1.l,fun k hk=> ?_⟩
    obtain⟨i,hi,e⟩:=uvb hk
    rw [←e]
    exact h2 i hi (hc i hi)
  · rintro⟨x,hx⟩
    exact⟨x,⟨hx.r,hx.l,fun k hk=>by cases hk⟩,fun i hi _=>hx.f _ (uti hi)⟩
def okF (S:Nat)(ls:List Lk)(fs:List Fa)(o:List Int):Bool:=canO S ls fs (outL o)
theorem uhX {S:Nat} {ls:List Lk} {fs:List Fa}(h:Okk S ls fs):okF S ls fs (uaF fs.length)=canD S ls []:=
  uiO h fun i hi=>by unfold outL;rw [List.contains_iff_mem.2 (ulW hi)];rfl
theorem utk {S:Nat} {ls:List Lk} {fs:List Fa}(h:Okk S ls fs):okF S ls fs []=canD S ls fs:=
  uhN h fun i _=>rfl
def outP (pt:Nat→Int)(o:List Int)(i:Nat):Bool:= !(o.contains (pt i))
def okP (S:Nat)(ls:List Lk)(fs:List Fa)(pt:Nat→Int)(o:List Int):Bool:=canO S ls fs (outP pt o)
theorem unr {S:Nat} {ls:List Lk} {fs:List Fa}(h:Okk S ls fs) {pt:Nat→Int} {P:Nat}(hpt:∀i,i<fs.length→0≤pt i∧pt i<(P:Int)):okP S ls fs pt (uaF P)=canD S ls []:=
  uiO h fun i hi=>by
    have hp:=hpt i hi
    have:=ulW (n:=P) (i:=(pt i).toNat) (by omega)
    rw [show(((pt i).toNat:Nat):Int)=pt i by omega]at this
    unfold outP
    rw [List.contains_iff_mem.2 this];rfl
theorem utE {S:Nat} {ls:List Lk} {fs:List Fa}(h:Okk S ls fs)(pt:Nat→Int):okP S ls fs pt []=canD S ls fs:=
  uhN h fun i _=>rfl
def firN (S:Nat)(ls:List Lk)(fs:List Fa):Nat→Nat→Option Nat
  |0,_=>none
  |k+1,i=>if canD S ls (fs.take (i+1))=true then firN S ls fs k (i+1)else some i
theorem uo1 {fs:List Fa} {n i:Nat}(h:i<n):(fs.take n).getD i f0=fs.getD i f0:=by
  simp only [List.getD_eq_getElem?_getD,List.getElem?_take,if_pos h]
theorem uqx {S:Nat} {ls:List Lk} {fs:List Fa}(h:Okk S ls fs):canD S ls fs=true↔∃x,Tr S ls [] x∧∀i,i<fs.length→(fs.getD i f0).lo≤x (fs.getD i f0).s∧x (fs.getD i f0).s≤(fs.getD i f0).hi:=by
  rw [←uhN h (c:=fun _=>true) (fun _ _=>rfl),ucQ h]
  exact⟨fun ⟨x,h1,h2⟩=>⟨x,h1,fun i hi=>h2 i hi rfl⟩,fun ⟨x,h1,h2⟩=>⟨x,h1,fun i hi _=>h2 i hi⟩⟩
theorem uqY {S:Nat} {ls:List Lk} {fs:List Fa}(h:Okk S ls fs)(n:Nat):Okk S ls (fs.take n):=⟨h.s1,h.s3,h.l,fun k hk=>h.f k (List.mem_of_mem_take hk)⟩
theorem upF {S:Nat} {ls:List Lk} {fs:List Fa}(h:Okk S ls fs)(n:Nat):canD S ls (fs.take n)=canO S ls fs (fun i=>decide (i<n)):=by
  apply Bool.eq_iff_iff.2
  rw [uqx (uqY h n),ucQ h]
  constructor
  · rintro⟨x,h1,h2⟩
    refine⟨x,h1,fun i hi hn=> ?_⟩
    have hn:=of_decide_eq_true hn
    have:=h2 i (by rw [List.length_take];omega)
    rwa [uo1 hn]at this
  · rintro⟨x,h1,h2⟩
    refine⟨x,h1,fun i hi=> ?_⟩
    rw [List.length_take]at hi
    rw [uo1 (by omega)]
    exact h2 i (by omega) (decide_eq_true (by omega))
end Go.Eng.Dif

namespace Go.Eng.Dif
open Go.Eng.Few
theorem ufV {S:Nat} {ls ls':List Lk} {fs fs':List Fa}(h:Okk S ls fs)(h':Okk S ls' fs')(m:∀x,Tr S ls fs x→Tr S ls' fs' x)(hc:canD S ls fs=true):canD S ls' fs'=true:=by
  rw [uaz h]at hc
  rw [uaz h']
  obtain⟨x,hx⟩:=hc
  exact⟨x,m x hx⟩
theorem ukq {S:Nat} {ls ls':List Lk} {fs fs':List Fa}(h:Okk S ls fs)(h':Okk S ls' fs')(m:∀x,Tr S ls fs x→Tr S ls' fs' x)(hc:canD S ls fs=true) {s:Nat}(hs:s<S):loD S ls' fs' s≤loD S ls fs s∧hiD S ls fs s≤hiD S ls' fs' s:=by
  have hc':=ufV h h' m hc
  obtain⟨x,tx,ex⟩:=(uoG h hc hs).2
  obtain⟨y,ty,ey⟩:=(unq h hc hs).2
  have a:=(uoG h' hc' hs).1 x (m x tx)
  have b:=(unq h' hc' hs).1 y (m y ty)
  omega
theorem unP {S:Nat} {ls ls':List Lk} {fs fs':List Fa}(h:Okk S ls fs)(h':Okk S ls' fs')(m:∀x,Tr S ls fs x↔Tr S ls' fs' x):canD S ls fs=canD S ls' fs'∧(canD S ls fs=true→∀s,s<S→loD S ls fs s=loD S ls' fs' s∧hiD S ls fs s=hiD S ls' fs' s):=by
  have e:canD S ls fs=canD S ls' fs':=Bool.eq_iff_iff.2 ⟨ufV h h' fun x=>(m x).1,ufV h' h fun x=>(m x).2⟩
  refine⟨e,fun hc s hs=> ?_⟩
  have a:=ukq h h' (fun x=>(m x).1) hc hs
  have b:=ukq h' h (fun x=>(m x).2) (e▸hc) hs
  omega
theorem uus {n:Nat} {ok:List Int→Bool}(h:ok (uaF n)=true) {b:Nat}(hb:ok (ueo b n)=true):(fewL n ok).length≤(ueo b n).length:=((ubJ h).2.2 _ (uhS b n) hb).1
theorem uqF {n:Nat} {ok:List Int→Bool}(h:ok (uaF n)=true):ueo (uiZ (fewL n ok) (fewL n ok).length) n=fewL n ok∧uiZ (fewL n ok) (fewL n ok).length<2^n:=by
  have hs:=ubJ h
  refine⟨utQ (uhS _ n) hs.1 fun x=> ?_,usd fun i hi=>by have:=uiB hs.1 i hi;omega⟩
  rw [uny]
  constructor
  · rintro⟨p,hp,rfl,q⟩;exact(unH hs.1 p hp).1 q
  · intro hx
    obtain⟨i,hi,e⟩:=uhU hx
    have b:=uiB hs.1 i hi
    refine⟨x.toNat,by omega,by omega,?_⟩
    rw [unH hs.1 x.toNat (by omega),show((x.toNat:Nat):Int)=x by omega]
    exact hx
theorem uqk {n:Nat} {ok ok':List Int→Bool}(h:ok (uaF n)=true)(h':ok' (uaF n)=true)(m:∀b,ok (ueo b n)=true→ok' (ueo b n)=true):(fewL n ok').length≤(fewL n ok).length:=by
  have q:=uqF h
  have s:=(ubJ h).2.1
  have:=uus h' (m _ (by rw [q.1];exact s))
  rwa [q.1]at this
end Go.Eng.Dif

namespace Go.Eng.Dif
open Go.Eng.Few
theorem utz {g:Nat→Bool} {x:Int}:∀{n:Nat},x∈selL g n↔∃i,i<n∧g i=true∧x=(i:Int):=by
  intro n
  induction n with
  |zero=>simp [selL]
  | succ n ih=>
    simp only [selL]
    split
    · rename_i q
      rw [List.mem_append,ih]
      constructor
      · rintro(⟨i,hi,hg,e⟩|hx)
        · exact⟨i,by omega,hg,e⟩
        · rw [List.mem_singleton]at hx
          exact⟨n,by omega,q,hx⟩
      · rintro⟨i,hi,hg,e⟩
        by_cases c:i=n
        · right;rw [List.mem_singleton,e,c]
        · left;exact⟨i,by omega,hg,e⟩
    · rename_i q
      rw [ih]
      constructor
      · rintro⟨i,hi,hg,e⟩;exact⟨i,by omega,hg,e⟩
      · rintro⟨i,hi,hg,e⟩
        by_cases c:i=n
        · subst c;exact absurd hg q
        · exact⟨i,by omega,hg,e⟩
theorem uoS {g:Nat→Bool} {n:Nat}:Asc n 0 (selL g n):=by
  have h:∀m,∃b:Nat,∀i,i<m→b.testBit i=g i:=by
    intro m
    induction m with
    |zero=>exact⟨0,fun i hi=>by omega⟩
    | succ m ih=>
      obtain⟨b,hb⟩:=ih
      by_cases c:b.testBit m=g m
      · exact⟨b,fun i hi=>by
          by_cases e:i=m
          · subst e;exact c
          · exact hb i (by omega)⟩
      · refine⟨b ^^^2^m,fun i hi=> ?_⟩
        rw [Nat.testBit_xor,Nat.testBit_two_pow]
        by_cases e:i=m
        · subst e;revert c;cases b.testBit i<;>cases g i<;>simp
        · rw [decide_eq_false (by omega),Bool.xor_false];exact hb i (by omega)
  obtain⟨b,hb⟩:=h n
  rw [←ur3 (b:=b) hb]
  exact uhS b n
theorem unU {n:Nat} {ok:List Int→Bool}(h:ok (uaF n)=true):(fewL n ok).length=0↔ok []=true:=by
  have hs:=ubJ h
  constructor
  · intro q;have:=hs.2.1;rwa [List.length_eq_zero_iff.1 q]at this
  · intro q;have:=(hs.2.2 [] trivial q).1;simpa using this
def bear (pence n i:Nat):Nat:=pence/n+(if i<pence%n then 1 else 0)
end Go.Eng.Dif

namespace Go.Eng.Dif
open Go.Eng.Few
theorem ukr {n:Nat} {ok:List Int→Bool}(h:ok (uaF n)=true) {k:Nat}(hk:k<n)(h0:ok []=false)(hj:∀j:Nat,j<k→ok [(j:Int)]=false)(h1:ok [(k:Int)]=true):fewL n ok=[(k:Int)]:=by
  have s:=ubJ h
  have a:Asc n 0 [(k:Int)]:=⟨k,rfl,Nat.zero_le _,hk,trivial⟩
  have q:=s.2.2 _ a h1
  generalize fewL n ok=F at s q⊢
  match F,s,q with
  |[],s,_=>rw [h0]at s;exact absurd s.2.1 (by decide)
  | [x],s,q=>
    rcases q.2 rfl with e|e
    · exact e
    · obtain⟨j,hx,_,_,_⟩:=s.1
      have:x<(k:Int):=by
        rcases e with e|e
        · exact e
        · exact absurd e.2 (by intro z;exact z)
      have t:=hj j (by omega)
      have u:=s.2.1
      rw [hx,t]at u;cases u
  |x::y::l,_,q=>exact absurd q.1 (by simp)
theorem ukB {n:Nat} {ok:List Int→Bool}(h:ok (uaF n)=true)(h0:ok []=true):fewL n ok=[]:=List.length_eq_zero_iff.1 ((unU h).2 h0)
theorem unu {n:Nat} {ok:List Int→Bool}(h:ok (uaF n)=true) {k:Nat}(hk:k<n)(h0:ok []=false)(hj:∀j:Nat,j<n→j≠k→ok [(j:Int)]=false)(h1:ok [(k:Int)]=true) {F:List Int}:F∈uat n ok↔F=[(k:Int)]:=by
  have e:=ukr h hk h0 (fun j hj'=>hj j (by omega) (by omega)) h1
  rw [ueN h,e]
  constructor
  · rintro⟨a,b,c⟩
    match F,a,b,c with
    | [x],a,b,_=>
      obtain⟨j,hx,_,hj',_⟩:=a
      by_cases q:j=k
      · rw [hx,q]
      · rw [hx,hj j hj' q]at b;cases b
    |[],_,_,c=>cases c
    |_::_::_,_,_,c=>simp at c
  · intro q;rw [q]
    exact⟨⟨k,rfl,Nat.zero_le _,hk,trivial⟩,h1,rfl⟩
theorem utj {n:Nat} {ok:List Int→Bool}(h:ok (uaF n)=true) {k:Nat}(hk:k<n)(h0:ok []=false)(hj:∀j:Nat,j<n→j≠k→ok [(j:Int)]=false)(h1:ok [(k:Int)]=true)(p:Nat):ujS n ok p=decide (p=k)∧ujL n ok p=decide (p=k):=by
  have m:=fun F=>unu h hk h0 hj h1 (F:=F)
  have c:∀F:List Int,F=[(k:Int)]→(F.contains (p:Int)=true↔p=k):=by
    intro F e
    rw [e,List.contains_iff_mem,List.mem_singleton]
    omega
  constructor
  · apply Bool.eq_iff_iff.2
    rw [decide_eq_true_iff]
    unfold ujS
    rw [List.all_eq_true]
    exact⟨fun q=>(c _ rfl).1 (q _ ((m _).2 rfl)),fun q F hF=>(c F ((m F).1 hF)).2 q⟩
  · apply Bool.eq_iff_iff.2
    rw [decide_eq_true_iff]
    unfold ujL
    rw [List.any_eq_true]
    exact⟨fun ⟨F,hF,q⟩=>(c F ((m F).1 hF)).1 q,fun q=>⟨_,(m _).2 rfl,(c _ rfl).2 q⟩⟩
theorem uss {n:Nat} {ok:List Int→Bool}(h:ok (uaF n)=true)(h0:ok []=true)(p:Nat):ujS n ok p=false∧ujL n ok p=false:=by
  have m:∀F,F∈uat n ok↔F=[]:=by
    intro F
    rw [ueN h,ukB h h0]
    constructor
    · rintro⟨_,_,c⟩;exact List.length_eq_zero_iff.1 c
    · intro q;rw [q];exact⟨trivial,h0,rfl⟩
  constructor
  · unfold ujS
    rw [Bool.eq_false_iff]
    intro q
    have:=List.all_eq_true.1 q [] ((m _).2 rfl)
    simp at this
  · unfold ujL
    rw [Bool.eq_false_iff]
    intro q
    obtain⟨F,hF,g⟩:=List.any_eq_true.1 q
    rw [(m F).1 hF]at g
    simp at g
theorem urQ {S:Nat} {ls:List Lk} {fs:List Fa}(h:Okk S ls fs) {s:Nat}(hs:s<S) {n:Int} {x:Nat→Int}(hx:Tr S ls fs x)(hn:x s=n)(hm:∀y,Tr S ls fs y→y s≤n):hiD S ls fs s=n:=by
  have hc:=(uaz h).2 ⟨x,hx⟩
  obtain⟨a,y,hy,e⟩:=unq h hc hs
  have:=a x hx
  have:=hm y hy
  omega
theorem urn {S:Nat} {ls:List Lk} {fs:List Fa}(h:Okk S ls fs) {s:Nat}(hs:s<S) {n:Int} {x:Nat→Int}(hx:Tr S ls fs x)(hn:x s=n)(hm:∀y,Tr S ls fs y→n≤y s):loD S ls fs s=n:=by
  have hc:=(uaz h).2 ⟨x,hx⟩
  obtain⟨a,y,hy,e⟩:=uoG h hc hs
  have:=a x hx
  have:=hm y hy
  omega
end Go.Eng.Dif

namespace Go.Eng.Dif
open Go.Eng.Few
def xL3 :List Lk:=[⟨0,1,-3,0⟩]
def xF3 :List Fa:=[⟨0,115,119⟩,⟨0,98,102⟩,⟨1,116,116⟩]
def xF2 :List Fa:=[⟨0,115,119⟩,⟨1,116,116⟩]
def xP3 (i:Nat):Int:=(i:Int)
def xP2 (i:Nat):Int:=if i=0 then 0 else 2
def xT (a b:Int)(s:Nat):Int:=if s=0 then a else b
theorem uqE {a b:Int}(ha:0≤a∧a≤2000)(hb:0≤b∧b≤2000)(hd: -3≤b-a∧b-a≤0):Tr 2 xL3 [] (xT a b):=by
  refine⟨fun s hs=> ?_,fun k hk=> ?_,fun k hk=>by cases hk⟩
  · unfold xT;split<;>assumption
  · rw [List.mem_singleton.1 hk];exact hd
theorem xok3 :Okk 2 xL3 xF3:=by
  refine⟨by decide,by decide,fun k hk=> ?_,fun k hk=> ?_⟩
  · rw [List.mem_singleton.1 hk];exact⟨by decide,by decide,by decide⟩
  · unfold xF3 at hk
    simp only [List.mem_cons,List.not_mem_nil,or_false]at hk
    rcases hk with e|e|e<;>rw [e]<;>decide
theorem xok2 :Okk 2 xL3 xF2:=by
  refine⟨by decide,by decide,fun k hk=> ?_,fun k hk=> ?_⟩
  · rw [List.mem_singleton.1 hk];exact⟨by decide,by decide,by decide⟩
  · unfold xF2 at hk
    simp only [List.mem_cons,List.not_mem_nil,or_false]at hk
    rcases hk with e|e<;>rw [e]<;>decide
theorem xc3 (c:Nat→Bool):canO 2 xL3 xF3 c = !(c 1&&(c 0||c 2)):=by
  apply Bool.eq_iff_iff.2
  rw [ucQ xok3]
  constructor
  · rintro⟨x,t,hf⟩
    have hl: -3≤x 1-x 0∧x 1-x 0≤0:=t.l _ (List.mem_singleton.2 rfl)
    have f0:c 0=true→115≤x 0∧x 0≤119:=hf 0 (by decide)
    have f1:c 1=true→98≤x 0∧x 0≤102:=hf 1 (by decide)
    have f2:c 2=true→116≤x 1∧x 1≤116:=hf 2 (by decide)
    cases h1:c 1
    · rfl
    · have f1:=f1 h1
      cases h0:c 0
      · cases h2:c 2
        · rfl
        · have f2:=f2 h2;omega
      · have f0:=f0 h0;omega
  · intro q
    cases h1:c 1
    · refine⟨xT 117 116,uqE (by decide) (by decide) (by decide),fun i hi hc=> ?_⟩
      have hi:i<3:=hi
      rcases(show i=0∨i=1∨i=2 by omega)with e|e|e<;>subst e
      · exact⟨by decide,by decide⟩
      · rw [h1]at hc;cases hc
      · exact⟨by decide,by decide⟩
    · rw [h1]at q
      cases h0:c 0
      · cases h2:c 2
        · refine⟨xT 100 100,uqE (by decide) (by decide) (by decide),fun i hi hc=> ?_⟩
          have hi:i<3:=hi
          rcases(show i=0∨i=1∨i=2 by omega)with e|e|e<;>subst e
          · rw [h0]at hc;cases hc
          · exact⟨by decide,by decide⟩
          · rw [h2]at hc;cases hc
        · rw [h0,h2]at q;cases q
      · rw [h0]at q;cases q
theorem uqP :canD 2 xL3 []=true:=(uaz (uem xok3)).2 ⟨_,uqE (a:=117) (b:=116) (by decide) (by decide) (by decide)⟩
theorem xof3 (o:List Int):okF 2 xL3 xF3 o = !(!(o.contains 1)&&(!(o.contains 0)|| !(o.contains 2))):=xc3 _
theorem xop3 (o:List Int):okP 2 xL3 xF3 xP3 o = !(!(o.contains 1)&&(!(o.contains 0)|| !(o.contains 2))):=xc3 _
theorem uvi :fewL 3 (okF 2 xL3 xF3)=[1]:=by
  have hj:∀j:Nat,j<1→okF 2 xL3 xF3 [(j:Int)]=false:=fun j hj=>by
    rw [xof3]
    rcases(show j=0 by omega)with e
    subst e;decide
  exact ukr (n:=3) (k:=1) (by rw [xof3];decide) (by decide) (by rw [xof3];decide) hj (by rw [xof3];decide)
theorem utw :fewL 3 (okP 2 xL3 xF3 xP3)=[1]∧selL (ujS 3 (okP 2 xL3 xF3 xP3)) 3=[1]∧selL (ujL 3 (okP 2 xL3 xF3 xP3)) 3=[1]:=by
  have hj:∀j:Nat,j<3→j≠1→okP 2 xL3 xF3 xP3 [(j:Int)]=false:=fun j hj h1=>by
    rw [xop3]
    rcases(show j=0∨j=2 by omega)with e|e<;>subst e<;>decide
  have a:=utj (n:=3) (k:=1) (ok:=okP 2 xL3 xF3 xP3) (by rw [xop3];decide) (by decide) (by rw [xop3];decide) hj (by rw [xop3];decide)
  refine⟨ukr (n:=3) (k:=1) (by rw [xop3];decide) (by decide) (by rw [xop3];decide) (fun j q=>hj j (by omega) (by omega)) (by rw [xop3];decide),?_,?_⟩
  · simp only [selL,(a _).1];decide
  · simp only [selL,(a _).2];decide
theorem xt2 {a b:Int}(ha:116≤a∧a≤119)(hb:b=116):Tr 2 xL3 xF2 (xT a b):=by
  have t:=uqE (a:=a) (b:=b) (by omega) (by omega) (by omega)
  refine⟨t.r,t.l,fun k hk=> ?_⟩
  unfold xF2 at hk
  simp only [List.mem_cons,List.not_mem_nil,or_false]at hk
  rcases hk with e|e<;>rw [e]
  · show 115≤a∧a≤119;omega
  · show 116≤b∧b≤116;omega
theorem xi2 {x:Nat→Int}(t:Tr 2 xL3 xF2 x):116≤x 0∧x 0≤119∧x 1=116:=by
  have hl: -3≤x 1-x 0∧x 1-x 0≤0:=t.l _ (List.mem_singleton.2 rfl)
  have h0:115≤x 0∧x 0≤119:=t.f ⟨0,115,119⟩ (by unfold xF2;exact List.mem_cons_self ..)
  have h1:116≤x 1∧x 1≤116:=t.f ⟨1,116,116⟩ (by unfold xF2;exact List.mem_cons_of_mem _ (List.mem_cons_self ..))
  omega
theorem xbd2 :canD 2 xL3 xF2=true∧loD 2 xL3 xF2 0=116∧hiD 2 xL3 xF2 0=119∧loD 2 xL3 xF2 1=116∧hiD 2 xL3 xF2 1=116:=
  ⟨(uaz xok2).2 ⟨_,xt2 (a:=117) (by decide) rfl⟩,
   urn xok2 (by decide) (xt2 (a:=116) (by decide) rfl) rfl fun y h=>(xi2 h).1,
   urQ xok2 (by decide) (xt2 (a:=119) (by decide) rfl) rfl fun y h=>(xi2 h).2.1,
   urn xok2 (by decide) (xt2 (a:=116) (by decide) rfl) rfl fun y h=>Int.le_of_eq (xi2 h).2.2.symm,
   urQ xok2 (by decide) (xt2 (a:=119) (by decide) rfl) rfl fun y h=>Int.le_of_eq (xi2 h).2.2⟩
theorem uw9 :fewL 3 (okP 2 xL3 xF2 xP2)=[]∧fewL 2 (okF 2 xL3 xF2)=[]∧selL (ujS 3 (okP 2 xL3 xF2 xP2)) 3=[]∧selL (ujL 3 (okP 2 xL3 xF2 xP2)) 3=[]:=by
  have hp:∀i,i<xF2.length→0≤xP2 i∧xP2 i<((3:Nat):Int):=fun i _=>by unfold xP2;split<;>decide
  have h:okP 2 xL3 xF2 xP2 (uaF 3)=true:=by rw [unr xok2 hp];exact uqP
  have h0:okP 2 xL3 xF2 xP2 []=true:=by rw [utE xok2];exact xbd2.1
  have a:=uss h h0
  have hall:okF 2 xL3 xF2 (uaF 2)=true:=(uhX xok2).trans uqP
  refine⟨ukB h h0,ukB (hall) (by rw [utk xok2];exact xbd2.1),?_,?_⟩
  · simp only [selL,(a _).1];decide
  · simp only [selL,(a _).2];decide
theorem xtk3 (n:Nat):canD 2 xL3 (xF3.take n) = !(decide (1<n)&&(decide (0<n)||decide (2<n))):=by
  rw [upF xok3,xc3]
theorem uvv :firN 2 xL3 xF3 3 0=some 1:=by
  have a:canD 2 xL3 (xF3.take 1)=true:=by rw [xtk3];decide
  have b:canD 2 xL3 (xF3.take 2)=false:=by rw [xtk3];decide
  simp [firN,a,b]
end Go.Eng.Dif

namespace Go.Eng.Dif
open Go.Eng.Few
def uca (pence:Nat)(L:List Int)(n:Nat):Nat→Nat→Int
  |0,_=>0
  |k+1,p=>if(p:Int)=L.getD k 0 then(bear pence n k:Int)else uca pence L n k p
theorem upN (P:Nat):Asc P 0 (uaF P):=by
  have:uaF P=selL (fun _=>true) P:=by
    induction P with
    |zero=>rfl
    |succ P ih=>simp only [selL,uaF,ih,if_true]
  rw [this]
  exact uoS
theorem uhO (P:Nat):(uaF P).length=P:=by
  induction P with
  |zero=>rfl
  |succ P ih=>simp only [uaF,List.length_append,List.length_singleton,ih]
def ujR (P:Nat)(must:List Int):List Int:=if must.length=0 then uaF P else must
theorem uqC {P:Nat} {must:List Int}(hP:0<P)(h:Asc P 0 must):Asc P 0 (ujR P must)∧0<(ujR P must).length:=by
  unfold ujR
  split
  · exact⟨upN P,by rw [uhO];exact hP⟩
  · exact⟨h,by omega⟩
end Go.Eng.Dif

namespace Go.Eng.Dif
open Go.Eng.Few
theorem use {g:Nat→Bool} {n p:Nat}(hp:p<n):(selL g n).contains (p:Int)=g p:=by
  apply Bool.eq_iff_iff.2
  rw [List.contains_iff_mem,utz]
  constructor
  · rintro⟨i,_,hg,e⟩
    have:p=i:=Int.ofNat.inj e
    rw [this];exact hg
  · intro q;exact⟨p,hp,q,rfl⟩
theorem uq2 {S:Nat} {ls:List Lk} {fs:List Fa}(h:Okk S ls fs)(hc:canD S ls fs=true):canD S ls []=true:=by
  rw [uaz h]at hc
  obtain⟨x,t⟩:=hc
  exact(uaz (uem h)).2 ⟨x,t.r,t.l,fun k hk=>by cases hk⟩
end Go.Eng.Dif

namespace Go.Eng.Dif
open Go.Eng.Few
def InF (fs:List Fa)(i:Nat)(x:Nat→Int):Prop:=(fs.getD i f0).lo≤x (fs.getD i f0).s∧x (fs.getD i f0).s≤(fs.getD i f0).hi
theorem uog {S:Nat} {ls:List Lk} {fs:List Fa} {x:Nat→Int}:Tr S ls fs x↔Tr S ls [] x∧∀i,i<fs.length→InF fs i x:=by
  constructor
  · intro t
    exact⟨⟨t.r,t.l,fun k hk=>by cases hk⟩,fun i hi=>t.f _ (uti hi)⟩
  · rintro⟨t,hf⟩
    refine⟨t.r,t.l,fun k hk=> ?_⟩
    obtain⟨i,hi,e⟩:=uvb hk
    have:=hf i hi
    unfold InF at this
    rw [e]at this
    exact this
theorem ugv {S:Nat} {ls ls':List Lk} {fs fs':List Fa}(h:Okk S ls fs)(h':Okk S ls' fs')(hl:fs'.length=fs.length)(m:∀x,Tr S ls [] x→Tr S ls' [] x)(mf:∀i,i<fs.length→∀x,InF fs i x→InF fs' i x) {c:Nat→Bool}(hc:canO S ls fs c=true):canO S ls' fs' c=true:=by
  rw [ucQ h]at hc
  rw [ucQ h']
  obtain⟨x,t,hf⟩:=hc
  exact⟨x,m x t,fun i hi q=>mf i (by omega) x (hf i (by omega) q)⟩
theorem uqc {S:Nat} {ls ls':List Lk} {fs fs':List Fa}(h:Okk S ls fs)(h':Okk S ls' fs')(hl:fs'.length=fs.length)(m:∀x,Tr S ls [] x→Tr S ls' [] x)(mf:∀i,i<fs.length→∀x,InF fs i x→InF fs' i x)(hf:canD S ls []=true):canD S ls' []=true∧(fewL fs'.length (okF S ls' fs')).length≤(fewL fs.length (okF S ls fs)).length:=by
  have hf':canD S ls' []=true:=by
    rw [uaz (uem h)]at hf
    obtain⟨x,t⟩:=hf
    exact(uaz (uem h')).2 ⟨x,m x t⟩
  have ha:okF S ls fs (uaF fs.length)=true:=by rw [uhX h];exact hf
  have hb:okF S ls' fs' (uaF fs.length)=true:=by rw [←hl,uhX h'];exact hf'
  refine⟨hf',?_⟩
  rw [hl]
  exact uqk ha hb fun b q=>ugv h h' hl m mf q
theorem uqO {S:Nat} {ls ls':List Lk} {fs fs':List Fa}(hl:fs'.length=fs.length)(m:∀x,Tr S ls [] x→Tr S ls' [] x)(mf:∀i,i<fs.length→∀x,InF fs i x→InF fs' i x)(x:Nat→Int)(t:Tr S ls fs x):Tr S ls' fs' x:=by
  rw [uog]at t⊢
  exact⟨m x t.1,fun i hi=>mf i (by omega) x (t.2 i (by omega))⟩
theorem uq3 {S:Nat} {ls ls':List Lk} {fs:List Fa}(h:Okk S ls fs)(h':Okk S ls' fs)(m:∀x,Tr S ls [] x↔Tr S ls' [] x):fewL fs.length (okF S ls fs)=fewL fs.length (okF S ls' fs)∧canD S ls []=canD S ls' []:=by
  have c:okF S ls fs=okF S ls' fs:=by
    funext o
    show canO S ls fs (outL o)=canO S ls' fs (outL o)
    apply Bool.eq_iff_iff.2
    exact⟨ugv h h' rfl (fun x=>(m x).1) fun _ _ _ q=>q,ugv h' h rfl (fun x=>(m x).2) fun _ _ _ q=>q⟩
  refine⟨by rw [c],(unP (uem h) (uem h') m).1⟩
theorem uls {α:Type} {l:List α} {d v:α} {k i:Nat}(hk:k<l.length):(l.set k v).getD i d=if i=k then v else l.getD i d:=by
  simp only [List.getD_eq_getElem?_getD,List.getElem?_set]
  by_cases e:i=k
  · rw [if_pos e.symm,if_pos e,if_pos (by omega)];rfl
  · rw [if_neg (Ne.symm e),if_neg e]
theorem upn {S:Nat} {ls:List Lk} {k:Nat}(hk:k<ls.length) {v:Lk} {x:Nat→Int}(hv:(ls.getD k lk0).lo≤x (ls.getD k lk0).b-x (ls.getD k lk0).a∧x (ls.getD k lk0).b-x (ls.getD k lk0).a≤(ls.getD k lk0).hi→v.lo≤x v.b-x v.a∧x v.b-x v.a≤v.hi)(t:Tr S ls [] x):Tr S (ls.set k v) [] x:=by
  refine⟨t.r,fun q hq=> ?_,fun q hq=>by cases hq⟩
  obtain⟨i,hi,e⟩:=uvq hq
  rw [List.length_set]at hi
  rw [uls hk]at e
  split at e
  · rw [←e];exact hv (t.l _ (uv2 hk))
  · rw [←e];exact t.l _ (uv2 hi)
def upY (q:Lk):Lk:=⟨q.b,q.a,-q.hi,-q.lo⟩
theorem usl {S:Nat} {ls:List Lk} {k:Nat}(hk:k<ls.length)(x:Nat→Int):Tr S ls [] x↔Tr S (ls.set k (upY (ls.getD k lk0))) [] x:=by
  constructor
  · intro t
    refine upn hk (fun q=> ?_) t
    show -(ls.getD k lk0).hi≤x (ls.getD k lk0).a-x (ls.getD k lk0).b∧x (ls.getD k lk0).a-x (ls.getD k lk0).b≤ -(ls.getD k lk0).lo
    omega
  · intro t
    have hk':k<(ls.set k (upY (ls.getD k lk0))).length:=by rw [List.length_set];exact hk
    have u:=upn (v:=ls.getD k lk0) hk' (fun q=>by
      rw [uls hk,if_pos rfl]at q
      unfold upY at q
      have q: -(ls.getD k lk0).hi≤x (ls.getD k lk0).a-x (ls.getD k lk0).b∧x (ls.getD k lk0).a-x (ls.getD k lk0).b≤ -(ls.getD k lk0).lo:=q
      omega) t
    have e:(ls.set k (upY (ls.getD k lk0))).set k (ls.getD k lk0)=ls:=by
      rw [List.set_set]
      have:ls.getD k lk0=ls[k]:=by rw [List.getD_eq_getElem?_getD,List.getElem?_eq_getElem hk];rfl
      rw [this,List.set_getElem_self]
    rwa [e]at u
theorem uso {S:Nat} {ls:List Lk} {k:Nat}(hk:k<ls.length) {lo hi:Int}(h1:lo≤(ls.getD k lk0).lo)(h2:(ls.getD k lk0).hi≤hi)(x:Nat→Int)(t:Tr S ls [] x):Tr S (ls.set k ⟨(ls.getD k lk0).a,(ls.getD k lk0).b,lo,hi⟩) [] x:=by
  refine upn hk (fun q=> ?_) t
  show lo≤x (ls.getD k lk0).b-x (ls.getD k lk0).a∧x (ls.getD k lk0).b-x (ls.getD k lk0).a≤hi
  omega
theorem ut5 {fs:List Fa} {k:Nat}(hk:k<fs.length) {lo hi:Int}(h1:lo≤(fs.getD k f0).lo)(h2:(fs.getD k f0).hi≤hi)(i:Nat)(x:Nat→Int)(q:InF fs i x):InF (fs.set k ⟨(fs.getD k f0).s,lo,hi⟩) i x:=by
  unfold InF at q⊢
  rw [uls hk]
  by_cases e:i=k
  · rw [if_pos e]
    rw [e]at q
    show lo≤x (fs.getD k f0).s∧x (fs.getD k f0).s≤hi
    omega
  · rw [if_neg e];exact q
end Go.Eng.Dif

namespace Go.Eng.Dif
open Go.Eng.Few
theorem xkp3 :kpN xF3 (outL [1]) 3=xF2:=by
  have a:outL [1] 0=true:=by decide
  have b:outL [1] 1=false:=by decide
  have c:outL [1] 2=true:=by decide
  simp only [kpN,a,b,c]
  rfl
theorem uum :uca 100 [1] 1 1 0=0∧uca 100 [1] 1 1 1=100∧uca 100 [1] 1 1 2=0:=by decide
theorem uux :uca 100 [0,1,2] 3 3 0=34∧uca 100 [0,1,2] 3 3 1=33∧uca 100 [0,1,2] 3 3 2=33:=by decide
end Go.Eng.Dif

namespace Go.Eng.Dif
theorem uut {M:Nat→Int}(h:∀i,i<16→ -2000≤M i):∀n i,i<16→ -(6^(4*n)*2000)≤fwP M n i:=by
  intro n
  induction n with
  |zero=>intro i hi;simpa [fwP]using h i hi
  | succ n ih=>
    intro i hi
    have a:=urL (M:=fwP M n) (b:=6^(4*n)*2000) (Int.mul_nonneg (Int.pow_nonneg (by decide)) (by decide)) ih 4 (by omega) i hi
    have e:(6:Int)^4*(6^(4*n)*2000)=6^(4*(n+1))*2000:=by
      rw [show 4*(n+1)=4+4*n by omega,Int.pow_add,Int.mul_assoc]
    rw [e]at a
    exact a
theorem uv0 {M:Nat→Int}(h:∀i,i<16→ -2000≤M i)(h2:∀i,i<16→M i≤2000) {n v k i:Nat}(hn:n<4)(hv:v<4)(hk:k≤16)(hi:i<16): -5642219814912000≤phN v (fwN (fwP M n) v) k i∧phN v (fwN (fwP M n) v) k i≤2000:=by
  constructor
  · have a:=uut h n
    have p0:(0:Int)≤6^(4*n)*2000:=Int.mul_nonneg (Int.pow_nonneg (by decide)) (by decide)
    have b:=urL p0 a v (by omega)
    have p1:(0:Int)≤6^v*(6^(4*n)*2000):=Int.mul_nonneg (Int.pow_nonneg (by decide)) p0
    have c:=urF hv p1 b hk hi
    have e:(6:Int)*(6^v*(6^(4*n)*2000))≤5642219814912000:=by
      rcases(show n=0∨n=1∨n=2∨n=3 by omega)with q|q|q|q<;>rcases(show v=0∨v=1∨v=2∨v=3 by omega)with r|r|r|r<;>subst q<;>subst r<;>decide
    omega
  · exact Int.le_trans (uoM _ _ _ _) (Int.le_trans (urV _ _ _) (Int.le_trans (urS _ _ _) (h2 i hi)))
theorem up8 {S:Nat} {ls:List Lk} {fs:List Fa}(hl:∀k∈ls,-2000≤k.lo∧k.lo≤2000∧ -2000≤k.hi∧k.hi≤2000)(hf:∀k∈fs,-2000≤k.lo∧k.lo≤2000∧ -2000≤k.hi∧k.hi≤2000)(i:Nat): -2000≤matD S ls fs i∧matD S ls fs i≤2000:=by
  constructor
  · refine uth ?_ fun b hb=> ?_
    · unfold M00;split<;>decide
    · rw [List.mem_append,List.mem_append]at hb
      rcases hb with(hb|hb)|hb
      · unfold bS at hb
        obtain⟨s,_,e⟩:=List.mem_map.1 hb
        rw [←e];exact⟨show(-2000:Int)≤2000 by decide,show(-2000:Int)≤ -0 by decide⟩
      · unfold bL_ at hb
        obtain⟨q,hq,e⟩:=List.mem_map.1 hb
        have:=hl q hq
        rw [←e]
        show -2000≤q.hi∧ -2000≤ -q.lo
        omega
      · unfold bF at hb
        obtain⟨q,hq,e⟩:=List.mem_map.1 hb
        have:=hf q hq
        rw [←e]
        show -2000≤q.hi∧ -2000≤ -q.lo
        omega
  · refine Int.le_trans (uoj i) ?_
    unfold M00;split<;>decide
theorem uo2 {M:Nat→Int} {x:Nat→Int}(h:Sol M x)(hx:∀n,n<4→0≤x n∧x n≤2000) {i:Nat}(hi:i<16): -2000≤M i:=by
  have a:=h (i/4) (i%4) (by omega) (by omega)
  have e:at4 (i/4) (i%4)=i:=by unfold at4;omega
  rw [e]at a
  have:=hx (i/4) (by omega)
  have:=hx (i%4) (by omega)
  omega
theorem utr {S:Nat} {x:Nat→Int}(h:∀s,s<S→0≤x s∧x s≤2000)(n:Nat):0≤nod S x n∧nod S x n≤2000:=by
  unfold nod
  split
  · decide
  · split
    · exact h _ (by omega)
    · decide
theorem unA {S:Nat} {ls:List Lk} {fs:List Fa}(h:Okk S ls fs)(hc:canD S ls fs=true) {i:Nat}(hi:i<16): -2000≤clo (matD S ls fs) i:=by
  obtain⟨x,t⟩:=(uaz h).1 hc
  exact uo2 (uej.2 (ulS h t)) (fun n _=>utr t.r n) hi
end Go.Eng.Dif

namespace Go.Proofs.Ytkdggbfknlcdaaa
open Go Go.Eng Go.Proofs
abbrev iv (f : Unit → Int) : SV := .int .i64 (.sym f)
abbrev iS (l : List Int) : SV := .sl 1 (.sym fun _ => zi l.length) (fun ix => [.int .i64 (.sym fun _ => l.getD ix.den.toNat 0)])
def ti3 :TI:=⟨.int .i64,1,8,[.one (.int .i64)]⟩
def ti4 :TI:=⟨.bool,1,1,[.one .bool]⟩
def ti5 :TI:=⟨.int .u8,1,1,[.one (.int .u8)]⟩
def ti22 :TI:=⟨.sli 3,1,24,[.one .sli]⟩
def ti23 :TI:=⟨.sli 22,1,24,[.one .sli]⟩
def ti25 :TI:=⟨.str [(0,22),(1,22),(2,23)],3,72,[.one .sli,.one .sli,.one .sli]⟩
def ti26 :TI:=⟨.sli 60,1,24,[.one .sli]⟩
def ti27 :TI:=⟨.sli 50,1,24,[.one .sli]⟩
def ti29 :TI:=⟨.str [(0,25),(3,3),(4,3),(5,26),(6,27)],7,136,[.one .sli,.one .sli,.one .sli,.one (.int .i64),.one (.int .i64),.one .sli,.one .sli]⟩
def ti33 :TI:=⟨.str [(0,3),(1,3)],2,16,[.one (.int .i64),.one (.int .i64)]⟩
def ti34 :TI:=⟨.int .i64,1,8,[.one (.int .i64)]⟩
def ti37 :TI:=⟨.str [(0,22),(1,22),(2,23)],3,72,[.one .sli,.one .sli,.one .sli]⟩
def ti38 :TI:=⟨.sli 87,1,24,[.one .sli]⟩
def ti39 :TI:=⟨.sli 89,1,24,[.one .sli]⟩
def ti41 :TI:=⟨.str [(0,37),(3,3),(4,3),(5,38),(6,39)],7,136,[.one .sli,.one .sli,.one .sli,.one (.int .i64),.one (.int .i64),.one .sli,.one .sli]⟩
def ti47 :TI:=⟨.str [(0,3),(1,3)],2,16,[.one (.int .i64),.one (.int .i64)]⟩
def ti50 :TI:=⟨.str [(0,3),(1,3),(2,47),(4,47)],6,48,[.one (.int .i64),.one (.int .i64),.one (.int .i64),.one (.int .i64),.one (.int .i64),.one (.int .i64)]⟩
def ti52 :TI:=⟨.sli 33,1,24,[.one .sli]⟩
def ti60 :TI:=⟨.str [(0,3),(1,3),(2,47)],4,32,[.one (.int .i64),.one (.int .i64),.one (.int .i64),.one (.int .i64)]⟩
def ti69 :TI:=⟨.int .u64,1,8,[.one (.int .u64)]⟩
def ti73 :TI:=⟨.int .u32,1,4,[.one (.int .u32)]⟩
def ti79 :TI:=⟨.int .u16,1,2,[.one (.int .u16)]⟩
def ti87 :TI:=⟨.str [(0,3),(1,3),(2,33)],4,32,[.one (.int .i64),.one (.int .i64),.one (.int .i64),.one (.int .i64)]⟩
def ti89 :TI:=⟨.str [(0,3),(1,3),(2,33),(4,33)],6,48,[.one (.int .i64),.one (.int .i64),.one (.int .i64),.one (.int .i64),.one (.int .i64),.one (.int .i64)]⟩
def ti91 :TI:=⟨.one,1,8,[.one .ptr]⟩
def ti97 :TI:=⟨.one,1,8,[.one .fn]⟩
def ti98 :TI:=⟨.one,1,8,[.one .fn]⟩
def uwj :TI:=⟨.arr 4 3,4,32,[.rep 4 (.int .i64)]⟩
def uvO :TI:=⟨.arr 4 102,16,128,[.rep 16 (.int .i64)]⟩
def uvl :TI:=⟨.one,1,8,[.one .fn]⟩
def uvV :TI:=⟨.one,1,8,[.one .fn]⟩
def uw4 :TI:=⟨.str [(0,108),(1,109)],2,16,[.one .fn,.one .fn]⟩
def uwc :TI:=⟨.one,1,8,[.one .mp]⟩
def uvW :TI:=⟨.str [(0,41),(7,115)],8,144,[.one .sli,.one .sli,.one .sli,.one (.int .i64),.one (.int .i64),.one .sli,.one .sli,.one .mp]⟩
def uwk :TI:=⟨.one,1,8,[.one .fn]⟩
def uvs :TI:=⟨.one,1,8,[.one .fn]⟩
def uvH :TI:=⟨.str [(0,3),(1,3)],2,16,[.one (.int .i64),.one (.int .i64)]⟩
def uwn :TI:=⟨.one,1,8,[.one .fn]⟩
def uvQ :TI:=⟨.str [(0,3),(1,3),(2,3)],3,24,[.one (.int .i64),.one (.int .i64),.one (.int .i64)]⟩
def uvz :TI:=⟨.sli 153,1,24,[.one .sli]⟩
def tabL :List (Nat×TI):=[(3,ti3),(4,ti4),(5,ti5),(22,ti22),(23,ti23),(25,ti25),(26,ti26),(27,ti27),(29,ti29),(33,ti33),(34,ti34),(37,ti37),(38,ti38),(39,ti39),(41,ti41),(47,ti47),(50,ti50),(52,ti52),(60,ti60),(69,ti69),(73,ti73),(79,ti79),(87,ti87),(89,ti89),(91,ti91),(97,ti97),(98,ti98),(102,uwj),(104,uvO),(108,uvl),(109,uvV),(111,uw4),(115,uwc),(117,uvW),(119,uwk),(121,uvs),(125,uvH),(139,uwn),(153,uvQ),(154,uvz)]
def tab :uao:=fun t=>lk tabL t
def qr (n:Nat):List Nat:=List.range n
def qs (a n:Nat):List Nat:=List.range' a n
def qa (i:Nat)(p:List Nat):SE:=⟨i,false,p,false,0,none⟩
def qb (i:Nat)(p:List Nat):SE:=⟨i,true,p,false,0,none⟩
def sc11 :SC:=[]
def sc12 :SC:=[(10,[qb 0 [],qb 1 [0],⟨2,true,[0,1],true,0,none⟩,qa 3 [0,1,2],qa 4 [0,1,2],qb 5 (qr 5),qb 6 (qr 6),⟨7,true,(qr 7),true,0,none⟩,qb 8 (qr 8),qb 9 (qr 9),qb 10 (qr 10),⟨11,true,(qr 11),true,0,none⟩,qb 12 (qr 12),qb 13 (qr 13),qb 14 (qr 14),⟨15,true,(qr 15),true,0,none⟩,qb 16 (qr 16),qb 17 (qr 17),qb 18 (qr 18),⟨19,true,(qr 19),true,0,none⟩,qa 20 (qr 20),qa 21 (qr 20),qb 22 (qr 22),qb 23 (qr 23),⟨24,true,(qr 24),true,0,none⟩,qb 25 (qr 25),qb 26 (qr 26),qb 27 (qr 27),⟨28,true,(qr 28),true,0,none⟩,qa 29 (qr 29),qa 30 (qr 29),qb 31 (qr 31),qb 32 (qr 32),⟨33,true,(qr 33),true,0,none⟩,qb 34 (qr 34),qb 35 (qr 35),qb 36 (qr 36),⟨37,true,(qr 37),true,0,none⟩,qa 38 (qr 38),qa 39 (qr 38),qb 40 (qr 40),qb 41 (qr 41),⟨42,true,(qr 42),true,0,none⟩,qa 43 (qr 43),qa 44 (qr 43),qb 45 (qr 45),qb 46 (qr 46),⟨47,true,(qr 47),true,0,none⟩,qb 48 (qr 48),qb 49 (qr 49),qb 50 (qr 50),⟨51,true,(qr 51),true,0,none⟩,qb 52 (qr 52),qb 53 (qr 53),qb 54 (qr 54),qb 55 (qr 55),⟨56,true,(qr 56),true,0,none⟩,qa 57 (qr 57),qa 58 (qr 58),qa 59 (qr 59),qa 60 (qr 57),qb 61 (qr 61),qb 62 (qr 62),⟨63,true,(qr 63),true,0,none⟩,qa 64 (qr 64),qa 65 (qr 65),qa 66 (qr 66),qa 67 (qr 64),qb 68 (qr 68),qb 69 (qr 69),⟨70,true,(qr 70),true,0,none⟩,qb 71 (qr 71),qb 72 (qr 72),qb 73 (qr 73),⟨74,true,(qr 74),true,0,none⟩,qa 75 (qr 75),qa 76 (qr 75),qb 77 (qr 77),qb 78 (qr 78),⟨79,true,(qr 79),true,0,none⟩,qb 80 (qr 80),qb 81 (qr 81),qb 82 (qr 82),⟨83,true,(qr 83),true,0,none⟩,qa 84 (qr 84),qa 85 (qr 84),qb 86 (qr 86),qb 87 (qr 87),⟨88,true,(qr 88),true,0,none⟩,qb 89 (qr 89),qb 90 (qr 90),qb 91 (qr 91),⟨92,true,(qr 92),true,0,none⟩,qa 93 (qr 93),qa 94 (qr 93),qb 95 (qr 95),qb 96 (qr 96),qb 97 (qr 97)])]
def sc13 :SC:=[(6,[qa 0 [],qa 2 [],qa 3 [2],qa 4 [],qa 5 [2,3,4],qa 6 (qs 2 4),qa 1 [0],qb 7 (qr 7),qb 8 (qr 8),qb 9 (qr 9)])]
def sc14 :SC:=[(1,[qa 0 [],qa 1 [0],qa 3 [],qa 4 [3],qa 5 [],qa 6 [5],qa 8 [],qa 2 [0,1],qa 7 (qr 7),qb 9 (qr 9)]),(5,[qa 0 [],qa 1 [0],qa 2 [],qa 3 [2],qa 4 [],qa 5 [2,3,4],qa 6 (qs 2 4),qa 7 (qs 2 5),qa 8 [],qa 9 [8],qa 10 [],qa 11 [8,9,10],qa 12 (qs 8 4),qa 13 (qs 8 5),qa 14 [],qa 15 [14],qa 16 [],qa 17 [14,15,16],qa 18 (qs 14 4),qa 19 (qs 14 5),qa 20 (qs 14 6),qa 21 (qs 2 19),qa 22 (qs 2 20),qb 23 (qr 23),qb 24 (qr 24),qb 25 (qr 25)]),(10,[qa 0 [],qa 1 [0],qa 2 [],qa 3 [2],qa 4 [],qa 5 [4],qa 6 [],qa 7 [6],qa 9 [],qa 10 [9],qa 8 [6,7],qa 11 (qs 6 5),qa 12 (qs 2 10),qa 13 (qs 2 11),qb 14 (qr 14),qb 15 (qr 15),qb 16 (qr 16)])]
def sc16 :SC:=[(4,[qa 0 [],qa 1 [0],qa 2 [],qa 3 [2],qa 4 [0,1],qb 5 (qr 5)])]
def sc17 :SC:=[]
def sc18 :SC:=[]
def sc20 :SC:=[]
def sc21 :SC:=[]
def sc22 :SC:=[(1,[qa 1 [],qa 0 [],qb 2 [0,1],qa 3 [0,1,2],qa 4 [0,1,2],qb 5 (qr 5),qb 6 (qr 6)])]
def sc23 :SC:=[(1,[qa 1 [],qa 0 [],qb 2 [0,1],qa 3 [0,1,2],qa 4 [0,1,2],qb 5 (qr 5),qb 6 (qr 6)])]
def sc24 :SC:=[(6,[qa 0 [],qa 1 [],qa 2 [0,1],qa 3 [0,1,2],qa 4 (qr 4),qa 5 [],qa 6 [],qa 7 [5,6],qa 8 [5,6,7],qa 9 (qs 5 4),qb 10 (qr 10),⟨11,true,(qr 11),true,0,none⟩,qa 12 (qr 12),qa 13 (qr 12),qa 14 (qr 14),qa 15 (qr 15),qa 16 (qr 16),qa 17 (qr 12),qa 18 (qr 12),qa 19 (qs 0 12++qs 17 2),qa 20 (qs 0 12++qs 17 3),qa 21 (qs 0 12++qs 17 4),qb 22 (qr 22),qb 23 (qr 23)])]
def sc25 :SC:=[]
def sc26 :SC:=[(6,[qa 0 [],qa 1 [],qa 2 [0,1],qa 3 [0,1,2],qa 4 [],qa 5 [],qa 6 [4,5],qa 7 [4,5,6],qb 8 (qr 8)])]
def sc27 :SC:=[]
def sc33 :SC:=[]
def sc34 :SC:=[]
def sc36 :SC:=[]
def sc37 :SC:=[]
def sc39 :SC:=[(2,[qa 0 [],qa 1 [0],qa 2 [0,1],qa 3 [],qa 4 [3],qa 5 [3,4],qa 6 [3,4,5],qa 7 (qs 3 4),qb 8 (qr 8),qb 9 (qr 9),qb 10 (qr 10)])]
def sc40 :SC:=[]
def sc42 :SC:=[]
def sc43 :SC:=[]
def sc44 :SC:=[]
def sc45 :SC:=[(1,[qa 0 [],qa 1 [0],qa 2 [0,1],qa 3 [0,1,2],qa 4 [],qa 9 [],qa 5 (qr 5),qa 6 (qr 6),qa 7 (qr 7),qa 8 (qr 7),qb 10 (qs 0 8++qs 9 1),qb 11 (qr 11)]),(4,[qa 0 [],qa 1 [0],qa 2 [0,1],qa 3 [0,1,2],qa 4 (qr 4),qa 5 [],qa 6 [5],qa 7 [],qa 8 [7],qa 13 [],qa 9 (qr 9),qa 10 (qr 10),qa 11 (qr 11),qa 12 (qr 11),qb 14 (qs 0 12++qs 13 1),qb 15 (qr 15)]),(5,[qa 0 [],qa 1 [0],qa 2 [0,1],qa 3 [0,1,2],qa 4 [],qa 5 [],qb 6 (qr 6)])]
def sc46 :SC:=[(1,[qa 0 [],qa 1 [0],qa 3 [],qa 4 [3],qa 7 [],qa 2 [0,1],qa 5 (qr 5),qa 6 (qr 6),qb 8 (qr 8)]),(5,[qa 0 [],qa 1 [0],qa 2 [],qa 3 [2],qa 4 [],qa 5 [2,3,4],qa 6 (qs 2 4),qa 7 (qs 2 5),qa 8 (qs 2 6),qb 9 (qr 9),qb 10 (qr 10),qb 11 (qr 11)])]
def sc47 :SC:=[]
def sc48 :SC:=[]
def sc49 :SC:=[]
def sc50 :SC:=[]
def sc51 :SC:=[]
def sc52 :SC:=[]
def sc54 :SC:=[(23,[qa 0 [],qa 1 [0],qa 2 [0,1],qa 3 [],qa 4 [],qa 5 [3,4],qb 6 (qr 6)])]
def sc55 :SC:=[(1,[qa 0 [],qa 1 [],qa 2 [1],qa 3 [0],qa 4 (qr 4),qa 5 (qr 5),qa 6 (qr 6),qa 7 (qr 7),qa 8 [],qa 9 [],qa 10 [9],qa 11 [8],qa 12 [8,11],qa 13 (qs 8 5),qa 14 (qs 8 6),qb 15 (qr 15),qb 16 (qr 16)])]
def sc56 :SC:=[]
def sc57 :SC:=[]
def sc58 :SC:=[]
def sc59 :SC:=[]
def sc61 :SC:=[]
def sc62 :SC:=[]
def sc63 :SC:=[]
def sc64 :SC:=[]
def sc65 :SC:=[]
def sc66 :SC:=[]
def sc67 :SC:=[]
def sc68 :SC:=[(13,[qa 0 [],qa 1 [],qa 2 [],qa 3 [],qa 4 [],qa 5 [],qa 6 [3],qa 7 [3,4,6],qa 8 (qs 3 5),qa 9 (qs 3 6),qa 10 [],qa 11 [],qa 12 [],qa 13 [10],qa 14 [10,11,13],qa 15 (qs 10 5),qa 16 (qs 10 6),qa 17 (qs 3 14),qb 18 (qr 18)]),(17,[qa 0 [],qa 1 [0],qa 2 [0,1],qa 3 [],qb 4 (qr 4)])]
def sc73 :SC:=[(4,[qa 0 [],qa 1 [0],qa 3 [],qa 2 [0,1],qb 4 (qr 4),qb 5 (qr 5),⟨6,true,(qr 6),true,0,none⟩,qa 7 (qr 7),qa 8 (qr 8),qa 10 (qr 7),qa 9 (qr 9),qb 11 (qr 11),qb 12 (qr 12),qb 13 (qr 13)]),(9,[qa 0 [],qa 1 [0],qa 2 [],qa 3 [0,1,2],qa 5 [],qa 6 [5],qa 7 [],qa 8 [5,6,7],qa 4 (qr 4),qb 9 (qr 9),qb 10 (qr 10)])]
def sc74 :SC:=[]
def sc75 :SC:=[(8,[qa 0 [],qa 1 [0],qa 2 [],qa 3 [0,1,2],qa 4 (qr 4),qa 5 (qr 5),qa 6 [],qa 7 [6],qa 8 [6,7],qb 9 (qr 9)])]
def sc76 :SC:=[(1,[qa 0 [],qa 1 [0],qa 2 [],qa 3 [2],qb 4 (qr 4),⟨5,true,(qr 5),true,0,none⟩,qa 6 (qr 6),qa 7 (qr 7),qa 8 (qr 6),qa 9 (qs 0 6++qs 8 1),qa 10 (qs 0 6++qs 8 2),qb 11 (qr 11),qb 12 (qr 12),⟨13,true,(qr 13),true,0,none⟩,qa 14 (qr 14),qa 15 (qr 15),qa 16 (qr 14),qa 17 (qs 0 14++qs 16 1),qb 18 (qr 18),qb 19 (qr 19),qb 20 (qr 20)])]
def sc77 :SC:=[]
def sc78 :SC:=[]
def sc79 :SC:=[]
def sc80 :SC:=[]
def sc81 :SC:=[(1,[qa 0 [],qa 1 [],qa 2 [1],qa 3 [1,2],qa 4 [],qa 5 [],qa 6 [5],qa 7 [5,6],qa 8 (qs 4 4),qa 9 (qs 4 5),qb 10 (qr 10),qb 11 (qr 11)])]
def sc82 :SC:=[]
def sc83 :SC:=[]
def sc84 :SC:=[]
def sc85 :SC:=[]
def sc87 :SC:=[]
def sc88 :SC:=[]
def sc89 :SC:=[]
def sc90 :SC:=[]
def sc91 :SC:=[]
def sc92 :SC:=[]
def sc93 :SC:=[(1,[qa 0 [],qa 1 [],qa 2 [1],qa 3 [],qa 4 [],qa 10 [],qa 5 (qs 1 4),qa 6 (qr 6),qa 7 (qr 7),qa 8 (qr 8),qa 9 (qr 8),qb 11 (qs 0 9++qs 10 1),qb 12 (qr 12)]),(7,[⟨0,false,[],false,4,none⟩,qa 1 [],qa 3 [],qa 4 [3],qa 6 [],qa 7 [6],qa 8 [],qa 9 [8],qa 2 [1],⟨5,true,(qs 1 4),false,3,none⟩,qb 10 (qr 10)])]
def sc94 :SC:=[]
def sc95 :SC:=[]
def sc96 :SC:=[]
def sc97 :SC:=[]
def sc98 :SC:=[(0,[qa 0 [],qa 1 [],qa 2 [],qa 3 [],qa 4 [],qa 5 [],qa 6 [3],qa 7 [3,4,6],qa 8 (qs 3 5),qa 9 (qs 3 6),qa 10 [],qa 11 (qs 3 8),qa 13 [0],qa 14 [0,1,13],qa 12 (qs 3 9),qb 15 (qr 15),qb 16 (qr 16)])]
def sc99 :SC:=[]
def uwg :SC:=[(1,[qa 0 [],qa 1 [0],qa 2 [0,1],qa 3 [],qa 4 [],qa 5 [4],qa 6 [4,5],qa 7 (qs 3 4),qa 8 (qs 3 5),qb 9 (qr 9),qb 10 (qr 10)])]
def uvT :SC:=[]
def uw3 :SC:=[]
def uvI :SC:=[]
def uvC :SC:=[(4,[qa 0 [],qa 1 [],qa 2 [0,1],qa 3 [0,1,2],qa 4 [],qb 5 (qr 5),qb 6 (qr 6),⟨7,true,(qr 7),true,0,none⟩,qb 8 (qr 8),qb 9 (qr 9),⟨10,true,(qr 10),true,0,none⟩,qa 11 (qr 11),qa 12 (qr 11),qa 13 (qr 13),qa 14 (qr 14),qa 15 (qr 11),qa 16 (qr 11),qa 17 (qs 0 11++qs 16 1),qa 18 (qs 0 11++qs 15 3),qa 19 (qs 0 11++qs 15 4),qb 20 (qr 20),qb 21 (qr 21),qb 22 (qr 22)])]
def uud :SC:=[]
def uvp :SC:=[]
def uwm :SC:=[]
def uwb :SC:=[]
def uvg :SC:=[]
def uvR :SC:=[]
def uvG :SC:=[]
def uvx :SC:=[]
def uvN :SC:=[]
def uv5 :SC:=[]
def uvo :SC:=[]
def uvD :SC:=[]
def uw7 :SC:=[(1,[qa 0 [],qa 1 [0],qa 2 [],qa 4 [],qa 5 [4],qa 6 [],qa 3 [0,1,2],qb 7 (qr 7),qb 8 (qr 8),qb 9 (qr 9)]),(2,[qa 0 [],qa 1 [],qa 2 [1],qa 3 [],qa 4 [1,2,3],qa 5 (qs 1 4),qa 6 (qr 6),qa 7 [],qa 8 [],qa 9 [8],qa 10 [],qa 11 [8,9,10],qa 12 (qs 8 4),qa 13 (qs 7 6),qa 14 (qr 7),qb 15 (qr 15)]),(3,[qa 0 [],qa 1 [0],qa 2 [],qa 3 [2],qa 4 (qr 4),qa 5 (qr 5),qa 6 [],qa 7 [6],qa 8 [],qa 9 [6,7,8],qa 10 (qs 6 4),qa 11 (qr 11),qa 12 [],qa 13 [12],qa 14 [],qa 15 [14],qa 16 (qs 12 4),qa 17 (qs 12 5),qa 18 [],qa 19 [18],qa 20 [],qa 21 [18,19,20],qa 22 (qs 18 4),qa 23 (qs 12 11),qa 24 (qr 12),qb 25 (qr 25)]),(8,[qa 0 [],qa 1 [],qa 2 [1],qa 3 [],qa 4 [3],qa 5 (qs 1 4),qa 6 (qs 1 5),qa 7 [],qa 8 [7],qa 9 (qs 1 8),qa 10 (qs 1 9),qa 11 [],qa 12 [11],qa 13 (qs 1 12),qb 14 (qr 14),qb 15 (qr 15)])]
def uvj :SC:=[]
def uun :SC:=[]
def uvt :SC:=[]
theorem tyok :TyOk Try.prog tab:=usb (l:=tabL) (by kernel_rfl) (by kernel_rfl)
theorem mix :Try.prog.follows .mixedOrders=true:=by kernel_rfl
end Go.Proofs.Ytkdggbfknlcdaaa

namespace Go.Proofs.Ytkdggbfknlcdaaa
def ubC (l:List Int)(n:Int):Nat→Nat→Nat
  |0,i=>i
  |f+1,i=>if i+2<l.length∧l.getD (i+1) 0≤n then ubC l n f (i+1)else i
def ubs (l:List Int)(most:Int)(i:Nat):Prop:=0≤l.getD i 0∧l.getD i 0≤most∧(0<i→l.getD (i-1) 0<l.getD i 0)
instance (l:List Int) (most:Int) (i:Nat):Decidable (ubs l most i):=by unfold ubs;infer_instance
def ucL (l:List Int)(most:Int):Bool:=decide (∀i,i<l.length→ubs l most i)
theorem uaI {l:List Int} {most:Int}(h:ucL l most=true):∀i,i<l.length→ubs l most i:=of_decide_eq_true h
theorem uj3 {l:List Int} {most:Int}(h:ucL l most=true):∀{i j:Nat},i<j→j<l.length→l.getD i 0<l.getD j 0:=by
  intro i j hij
  induction j with
  |zero=>omega
  | succ j ih=>
    intro hj
    have h1:=(uaI h (j+1) hj).2.2 (by omega)
    rw [Nat.add_sub_cancel]at h1
    by_cases e:i=j
    · subst e;exact h1
    · have:=ih (by omega) (by omega);omega
structure InCell (l:List Int)(n:Int)(i:Nat):Prop where
  lt:i+2≤l.length
  lo:l.getD i 0≤n
  hi:i+2=l.length∨n<l.getD (i+1) 0
theorem ur8 {l:List Int} {n:Int}:∀(f i:Nat),i+2≤l.length→l.length≤f+i+1→l.getD i 0≤n→InCell l n (ubC l n f i):=by
  intro f
  induction f with
  |zero=>intro i h1 h2 h3;omega
  | succ f ih=>
    intro i h1 h2 h3
    unfold ubC
    split
    · rename_i h
      exact ih (i+1) (by omega) (by omega) h.2
    · rename_i h
      refine⟨h1,h3,?_⟩
      by_cases e:i+2=l.length
      · exact .inl e
      · right
        refine Int.not_le.1 fun q=>h ⟨by omega,q⟩
theorem ucx {l:List Int} {n:Int}(h2:2≤l.length)(h0:l.getD 0 0≤n):InCell l n (ubC l n l.length 0):=ur8 l.length 0 (by omega) (by omega) h0
def upL (a b c d v00 v10 v01 v11 w m:Int):Int:=
  (2*(0+(v00*((b-a-(w-a))*(d-c-(m-c))))+(v10*((w-a)*(d-c-(m-c))))+(v01*((b-a-(w-a))*(m-c)))+(v11*((w-a)*(m-c))))+(b-a)*(d-c)).tdiv (2*(b-a)*(d-c))
def atI (tw tm:List Int)(tv:List (List Int))(w m:Int)(i k:Nat):Int:=
  upL (tw.getD i 0) (tw.getD (i+1) 0) (tm.getD k 0) (tm.getD (k+1) 0) ((tv.getD i []).getD k 0) ((tv.getD (i+1) []).getD k 0) ((tv.getD i []).getD (k+1) 0) ((tv.getD (i+1) []).getD (k+1) 0) w m
def atS (tw tm:List Int)(tv:List (List Int))(w m:Int):Int:=atI tw tm tv w m (ubC tw w tw.length 0) (ubC tm m tm.length 0)
def ubK (tw tm:List Int)(tv:List (List Int)):Int:=
  if 5<tw.length∨5<tm.length∨5<tv.length then 3
  else if tw.length<2∨tm.length<2∨ucL tw 40=false∨ucL tm 60=false∨tv.length≠tw.length then 1
  else if ∀i,i<tv.length→(tv.getD i []).length=tm.length∧∀k,k<tm.length→0≤(tv.getD i []).getD k 0∧(tv.getD i []).getD k 0≤2000 then 0 else 1
structure TOk (tw tm:List Int)(tv:List (List Int)):Prop where
  w5:tw.length≤5
  m5:tm.length≤5
  w2:2≤tw.length
  m2:2≤tm.length
  rw:ucL tw 40=true
  rm:ucL tm 60=true
  len:tv.length=tw.length
  row:∀i,i<tv.length→(tv.getD i []).length=tm.length
  val:∀i,i<tv.length→∀k,k<tm.length→0≤(tv.getD i []).getD k 0∧(tv.getD i []).getD k 0≤2000
theorem uj2 {tw tm:List Int} {tv:List (List Int)}(h:TOk tw tm tv):ubK tw tm tv=0:=by
  unfold ubK
  have a:=h.w5;have b:=h.m5;have c:=h.w2;have d:=h.m2;have e:=h.len
  rw [if_neg (by omega),if_neg (by simp only [h.rw,h.rm];simp;omega),if_pos (fun i hi=>⟨h.row i hi,h.val i hi⟩)]
def fidx (p:Nat→Bool):Nat→Nat→Int
  |0,_=> -1
  |n+1,i=>if p i=true then fidx p n (i+1)else i
theorem ubD {p:Nat→Bool} {n i:Nat}(hn:0<n)(h:p i=false):fidx p n i=i:=by
  cases n with
  |zero=>omega
  |succ n=>simp [fidx,h]
theorem udb {p:Nat→Bool} {n i:Nat}(hn:0<n)(h:p i=true):fidx p n i=fidx p (n-1) (i+1):=by
  cases n with
  |zero=>omega
  |succ n=>simp [fidx,h]
theorem uie {p:Nat→Bool}:∀{n i:Nat},0≤fidx p n i↔∃j,i≤j∧j<i+n∧p j=false:=by
  intro n
  induction n with
  | zero => intro i;simp only [fidx];constructor
            · intro h;omega
            · rintro⟨j,h1,h2,_⟩;omega
  | succ n ih=>
    intro i
    cases h:p i with
    | true=>
      rw [udb (by omega) h,Nat.add_sub_cancel,ih]
      constructor
      · rintro⟨j,h1,h2,h3⟩;exact⟨j,by omega,by omega,h3⟩
      · rintro⟨j,h1,h2,h3⟩
        refine⟨j,?_,by omega,h3⟩
        by_cases e:j=i
        · subst e;rw [h]at h3;cases h3
        · omega
    | false=>
      rw [ubD (by omega) h]
      exact⟨fun _=>⟨i,by omega,by omega,h⟩,fun _=>by omega⟩
theorem ug8 {p:Nat→Bool} {n:Nat}:(!(decide (0≤fidx p n 0)))=decide (∀i,i<n→p i=true):=by
  rw [Bool.eq_iff_iff]
  simp only [Bool.not_eq_true',decide_eq_false_iff_not,decide_eq_true_eq,uie]
  constructor
  · intro h i hi
    cases hp:p i with
    |true=>rfl
    |false=>exact absurd ⟨i,by omega,by omega,hp⟩ h
  · rintro h ⟨j,_,h2,h3⟩
    rw [h j (by omega)]at h3;cases h3
structure Pt (tw tm:List Int)(w m:Int):Prop where
  w0:tw.getD 0 0≤w
  w1:w≤tw.getD (tw.length-1) 0
  m0:tm.getD 0 0≤m
  m1:m≤tm.getD (tm.length-1) 0
theorem InCell.le_hi {l:List Int} {n:Int} {i:Nat}(h:InCell l n i)(h1:n≤l.getD (l.length-1) 0):n≤l.getD (i+1) 0:=by
  rcases h.hi with q|q
  · rw [show i+1=l.length-1 by omega];exact h1
  · omega
theorem uuo (a b c d v00 v10 v01 v11 w m:Int):0+(v00*((b-a-(w-a))*(d-c-(m-c))))+(v10*((w-a)*(d-c-(m-c))))+(v01*((b-a-(w-a))*(m-c)))+(v11*((w-a)*(m-c))) =
    v00*(b-w)*(d-m)+v10*(w-a)*(d-m)+v01*(b-w)*(m-c)+v11*(w-a)*(m-c):=by
  rw [show b-a-(w-a)=b-w by omega,show d-c-(m-c)=d-m by omega,Int.zero_add]
  simp only [Int.mul_assoc]
end Go.Proofs.Ytkdggbfknlcdaaa

namespace Go.Proofs.Ytkdggbfknlcdaaa
open Go Go.Eng Go.Proofs
set_option maxRecDepth 10000
theorem ugD (n lo hi:Int):ua0 Try.prog 109 [(iv fun _=>n),(iv fun _=>lo),(iv fun _=>hi)] [] (fun r _=>r=(.bool (.sym fun _=>decide (lo≤n)&&decide (n≤hi)))):=by
  refine ua0.is fun R hR=>qW (sc:=uwb) tyok mix Try.func109 rfl Try.call109 (by kernel_rfl) (by kernel_rfl) ?_
  generalize Try.prog=P
  cbv
  repeat' (first
    |with_reducible refine And.intro ?_ ?_
    |(with_reducible intro _;try cbv))
  all_goals subst hR
  all_goals refine qF ?_
  all_goals simp only [IX.den,BX.den,uci,ucj,uch,udc,udp,udo,udl,udi,uds]at *
  all_goals simp_all
  all_goals (try omega)
theorem uuu (lo hi n:Int):ua0 Try.prog 116 [(.agg [(iv fun _=>lo),(iv fun _=>hi)]),(iv fun _=>n)] [] (fun r _=>r=(.bool (.sym fun _=>decide (lo≤n)&&decide (n≤hi)))):=by
  have c113:= @ugD
  refine ua0.is fun R hR=>qW (sc:=uvo) tyok mix Try.func116 rfl Try.call116 (by kernel_rfl) (by kernel_rfl) ?_
  generalize Try.prog=P at c113⊢
  cbv
  repeat' (first
    |(refine ud5 (c113 _ _ _) (by(repeat' (first|exact qB|refine qD ?_ ?_|exact qE rfl|exact qF rfl|exact Fit.refl _|exact qA|refine qC ?_ rfl ?_))) ?_;try cbv))
  subst hR
  exact qF rfl
end Go.Proofs.Ytkdggbfknlcdaaa

namespace Go.Proofs.Ytkdggbfknlcdaaa
open Go Go.Eng Go.Proofs
set_option maxRecDepth 10000
theorem ut2 (l:List Int)(n:Int)(h:2≤l.length∧l.length≤1000):ua0 Try.prog 121 [(iS l),(iv fun _=>n)] [] (fun r _=>r = (iv fun _=>zi (ubC l n l.length 0))):=by
  refine ua0.is fun R hR=>qW (sc:=uvt) tyok mix Try.func121 rfl Try.call121 (by kernel_rfl) (by kernel_rfl) ?_
  generalize Try.prog=P
  cbv
  refine⟨none,[],{i:Nat // i<l.length∧ubC l n l.length 0=ubC l n (l.length-i) i},fun i=>⟨[(5,(iv fun _=>zi i.1)),(0,(iS l)),(1,(iv fun _=>n))],[],1⟩,fun i=>l.length-i.1,?_,?_⟩
  · refine⟨⟨0,by omega,rfl⟩,?_⟩
    cbv
    repeat' (first
      |with_reducible refine hold ?_ ?_
      |with_reducible refine And.intro ?_ ?_)
    all_goals first
      |trivial
      |exact qM (qE (by rfl))
      |exact qM (Fit.refl _)
  · rintro⟨i,hi⟩
    have hf:∃f,l.length-i=f+1:=⟨l.length-i-1,by omega⟩
    obtain⟨f,hf⟩:=hf
    have hc:=hi.2
    rw [hf,ubC]at hc
    cbv
    repeat' (first
    |with_reducible refine hold ?_ ?_
    |with_reducible refine And.intro ?_ ?_
    |(with_reducible intro _;try cbv))
    all_goals simp only [uax,uaY,den_lit,ubh,ubf,uci,ucj,uch,udc,udp,udo,udl,udi,uds,decide_eq_true_eq,decide_eq_false_iff_not,Bool.not_true]at *
    all_goals first
      |(refine qN ?_;omega)
      |(simp only [Hold];omega)
      |skip
    · rename_i h1 h2
      have e:(((i:Int)+1).toNat)=i+1:=by omega
      rw [e]at h2
      rw [if_pos ⟨by omega,h2⟩]at hc
      refine⟨⟨i+1,by omega,by rw [show l.length-(i+1)=f by omega];exact hc⟩,by simp only [];omega,?_⟩
      cbv
      repeat' (first
        |with_reducible refine hold ?_ ?_
        |with_reducible refine And.intro ?_ ?_)
      all_goals first
        |trivial
        |exact qM (qE (by rfl))
        |exact qM (Fit.refl _)
    · rename_i h1 h2
      have e:(((i:Int)+1).toNat)=i+1:=by omega
      rw [e]at h2
      rw [if_neg (fun q=>by omega)]at hc
      subst hR
      exact qE (by rw [uaY,uaY,hc])
    · rename_i h1
      rw [if_neg (fun q=>by omega)]at hc
      subst hR
      exact qE (by rw [uaY,uaY,hc])
end Go.Proofs.Ytkdggbfknlcdaaa

namespace Go.Proofs.Ytkdggbfknlcdaaa
open Go Go.Eng Go.Proofs
set_option maxRecDepth 10000
theorem in31 (n lo hi:Int):ua0 Try.prog 17 [(iv fun _=>n),(iv fun _=>lo),(iv fun _=>hi)] [] (fun r _=>r=(.bool (.sym fun _=>decide (lo≤n)&&decide (n≤hi)))):=by
  refine ua0.is fun R hR=>qW (sc:=sc17) tyok mix Try.func17 rfl Try.call17 (by kernel_rfl) (by kernel_rfl) ?_
  generalize Try.prog=P
  cbv
  repeat' (first
    |with_reducible refine And.intro ?_ ?_
    |(with_reducible intro _;try cbv))
  all_goals (try subst hR)
  all_goals refine qF ?_
  all_goals (try simp only [uax,uaY,den_lit,ubh,ubf,uci,ucj,uch,udc,udp,udo,udl,udi,uds,decide_eq_true_eq,decide_eq_false_iff_not,Bool.not_true]at *)
  all_goals simp_all
  all_goals (try omega)
theorem ur4 (n:Int):ua0 Try.prog 107 [(iv fun _=>n)] [] (fun r _=>r=(.bool (.sym fun _=>decide (0≤n)&&decide (n≤2000)))):=by
  have c113:= @ugD
  refine ua0.is fun R hR=>qW (sc:=uvp) tyok mix Try.func107 rfl Try.call107 (by kernel_rfl) (by kernel_rfl) ?_
  generalize Try.prog=P at c113⊢
  cbv
  repeat' (first
    |(refine ud5 (c113 _ _ _) (by(repeat' (first|exact qB|refine qD ?_ ?_|exact qE (by rfl)|exact qF (by rfl)|exact Fit.refl _|exact qA|refine qC ?_ rfl ?_))) ?_;try cbv))
  all_goals (try subst hR)
  all_goals (try simp only [uax,uaY,den_lit,ubh,ubf,uci,ucj,uch,udc,udp,udo,udl,udi,uds,decide_eq_true_eq,decide_eq_false_iff_not,Bool.not_true]at *)
  all_goals first
    |skip
  all_goals (repeat' (first|exact qA|exact qB|refine qC ?_ rfl ?_|refine qD ?_ ?_|exact qE (by rfl)|exact qF (by rfl)|exact Fit.refl _))
theorem ujC (l:List Int)(h:1≤l.length∧l.length≤1000):ua0 Try.prog 25 [(iS l)] [] (fun r _=>r=(iv fun _=>l.getD (l.length-1) 0)):=by
  refine ua0.is fun R hR=>qW (sc:=sc25) tyok mix Try.func25 rfl Try.call25 (by kernel_rfl) (by kernel_rfl) ?_
  generalize Try.prog=P
  cbv
  repeat' (first
    |with_reducible refine hold ?_ ?_
    |(with_reducible intro _;try cbv))
  all_goals (try subst hR)
  all_goals (try simp only [uax,uaY,den_lit,ubh,ubf,uci,ucj,uch,udc,udp,udo,udl,udi,uds,decide_eq_true_eq,decide_eq_false_iff_not,Bool.not_true]at *)
  all_goals first
    |(refine qN ?_;omega)
    |(simp only [Hold];omega)
    |skip
  · refine qE ?_
    rw [uaY,uaY]
    congr 1
    omega
theorem urZ (l:List Int)(h:1≤l.length∧l.length≤1000):ua0 Try.prog 101 [(iS l)] [] (fun r _=>r=(.agg [(iv fun _=>l.getD 0 0),(iv fun _=>l.getD (l.length-1) 0)])):=by
  refine ua0.is fun R hR=>qW (sc:=uwg) tyok mix Try.func101 rfl Try.call101 (by kernel_rfl) (by kernel_rfl) ?_
  generalize Try.prog=P
  cbv
  repeat' (first
    |with_reducible refine hold ?_ ?_
    |(with_reducible intro _;try cbv))
  all_goals (try subst hR)
  all_goals (try simp only [uax,uaY,den_lit,ubh,ubf,uci,ucj,uch,udc,udp,udo,udl,udi,uds,decide_eq_true_eq,decide_eq_false_iff_not,Bool.not_true]at *)
  all_goals first
    |(refine qN ?_;omega)
    |(simp only [Hold];omega)
    |skip
  · refine qC (qE (by rfl)) rfl (qC (qE ?_) rfl qA)
    rw [uaY,uaY]
    congr 1
    omega
theorem upQ (a b c d:Int):ua0 Try.prog 102 [(.agg [(iv fun _=>a),(iv fun _=>b)]),(.agg [(iv fun _=>c),(iv fun _=>d)])] [] (fun r _=>r=(.bool (.sym fun _=>decide (c≤d)&&(decide (a≤c)&&decide (c≤b))&&(decide (a≤d)&&decide (d≤b))))):=by
  have c124:= @uuu
  refine ua0.is fun R hR=>qW (sc:=uvT) tyok mix Try.func102 rfl Try.call102 (by kernel_rfl) (by kernel_rfl) ?_
  generalize Try.prog=P at c124⊢
  cbv
  repeat' (first
    |with_reducible refine And.intro ?_ ?_
    |(with_reducible intro _;try cbv)
    |(refine ud5 (c124 _ _ _) (by(repeat' (first|exact qB|refine qD ?_ ?_|exact qE (by rfl)|exact qF (by rfl)|exact Fit.refl _|exact qA|refine qC ?_ rfl ?_))) ?_;try cbv))
  all_goals (try subst hR)
  all_goals refine qF ?_
  all_goals (try simp only [uax,uaY,den_lit,ubh,ubf,uci,ucj,uch,udc,udp,udo,udl,udi,uds,decide_eq_true_eq,decide_eq_false_iff_not,Bool.not_true]at *)
  all_goals simp_all
  all_goals (try omega)
theorem unh (l:List Int)(h:l.length≤1000):ua0 Try.prog 74 [(iS l)] [] (fun r _=>r=(iS l)):=by
  refine ua0.is fun R hR=>qW (sc:=sc74) tyok mix Try.func74 rfl Try.call74 (by kernel_rfl) (by kernel_rfl) ?_
  generalize Try.prog=P
  cbv
  repeat' (first
    |with_reducible refine hold ?_ ?_
    |(with_reducible intro _;try cbv))
  all_goals (try subst hR)
  all_goals (try simp only [uax,uaY,den_lit,ubh,ubf,uci,ucj,uch,udc,udp,udo,udl,udi,uds,decide_eq_true_eq,decide_eq_false_iff_not,Bool.not_true]at *)
  all_goals first
    |(simp [Hold];omega)
    |skip
  all_goals (repeat' (first|exact qA|exact qB|refine qC ?_ rfl ?_|refine qD ?_ ?_|exact qE (by rfl)|exact qF (by rfl)|exact Fit.refl _))
end Go.Proofs.Ytkdggbfknlcdaaa

namespace Go.Proofs.Ytkdggbfknlcdaaa
open Go Go.Eng Go.Proofs
set_option maxRecDepth 10000
theorem uo4 (l:List Int)(most:Int)(h:l.length≤1000):ua0 Try.prog 105 [(iS l),(iv fun _=>most)] [] (fun r _=>r=(.bool (.sym fun _=>ucL l most))):=by
  have c31:= @in31
  refine ua0.is fun R hR=>qW (sc:=uvC) tyok mix Try.func105 rfl Try.call105 (by kernel_rfl) (by kernel_rfl) ?_
  generalize Try.prog=P at c31⊢
  cbv
  refine⟨none,[],{i:Nat // i≤l.length∧∀j,j<i→ubs l most j},fun x=>⟨[(5,(iv fun _=>zi x.1)),(0,(iS l)),(1,(iv fun _=>most))],[],2⟩,fun x=>l.length-x.1,?_,?_⟩
  · refine⟨⟨0,by omega,fun j hj=>by omega⟩,?_⟩
    cbv
    repeat' (first
      |with_reducible refine hold ?_ ?_
      |with_reducible refine And.intro ?_ ?_)
    all_goals first
      |trivial
      |exact qM (qE (by rfl))
      |exact qM (Fit.refl _)
      |skip
  · rintro⟨i,hi,hr⟩
    cbv
    repeat' (first
      |with_reducible refine hold ?_ ?_
      |with_reducible refine And.intro ?_ ?_
      |(with_reducible intro _;try cbv)
      | (refine ud5 (c31 _ _ _) (by(repeat' (first|exact qB|refine qD ?_ ?_|exact qE (by rfl)|exact qF (by rfl)|exact Fit.refl _|exact qA|refine qC ?_ rfl ?_))) ?_
         try cbv))
    all_goals simp only [uax,uaY,den_lit,ubh,ubf,uci,ucj,uch,udc,udp,udo,udl,udi,uds,decide_eq_true_eq,decide_eq_false_iff_not,Bool.not_true,Bool.not_eq_true',Bool.not_eq_false',Bool.and_eq_true,Bool.and_eq_false_iff]at *
    all_goals (have ei:((i:Int)).toNat=i:=by omega)
    all_goals (have ei1:((i:Int)-1).toNat=i-1:=by omega)
    all_goals simp only [ei,ei1]at *
    all_goals (try simp only [decide_eq_true_eq,decide_eq_false_iff_not]at *)
    all_goals clear ei ei1
    all_goals first
      |(refine qN ?_;omega)
      |(simp only [Hold];omega)
      | (subst hR
         refine qF ?_
         rw [ubf,ubh]
         refine(decide_eq_false ?_).symm
         intro hall
         have:=hall i (by omega)
         simp only [ubs]at this
         omega)
      | (subst hR
         refine qF ?_
         rw [ubf,ubh]
         exact(decide_eq_true (fun j hj=>hr j (by omega))).symm)
      |skip
    all_goals (have hnew:ubs l most i:=by simp only [ubs];omega)
    all_goals refine⟨⟨i+1,by omega,fun j hj=>(Nat.lt_or_ge j i).elim (hr j) (fun q=>by rw [show j=i by omega];exact hnew)⟩,by simp only [];omega,?_⟩
    all_goals cbv
    repeat' (first
      |with_reducible refine hold ?_ ?_
      |with_reducible refine And.intro ?_ ?_)
    all_goals first
      |trivial
      |exact qM (qE (by rfl))
      |exact qM (Fit.refl _)
      |skip
end Go.Proofs.Ytkdggbfknlcdaaa

namespace Go.Proofs.Ytkdggbfknlcdaaa
open Go Go.Eng Go.Proofs
set_option maxRecDepth 10000
theorem urj (a b:Int):ua0 Try.prog 119 [(.sl 1 (.lit 2) (fun ix=>ucc [(iv fun _=>a),(iv fun _=>b)] (0+ix.den.toNat*1) 1))] [] (fun r _=>r=(iv fun _=>min a b)):=by
  refine ua0.is fun R hR=>qW (sc:=uvj) tyok mix Try.func119 rfl Try.call119 (by kernel_rfl) (by kernel_rfl) ?_
  generalize Try.prog=P
  cbv
  repeat' (first
      |with_reducible refine hold ?_ ?_
      |fail)
  all_goals first|(refine⟨some 3,?_⟩;cbv)|skip
  repeat' (first
      |with_reducible refine hold ?_ ?_
      |fail)
  all_goals first
    |trivial
    |(subst hR;(refine qE ?_;simp only [zQ,zA,zB,zC,zD,zE,zF,zG,zH,zI,zJ,zK,zL,zM,zN,zO,zP,zR,zS];omega);done)
    |skip
theorem umj (a b:Int):ua0 Try.prog 104 [(.sl 1 (.lit 2) (fun ix=>ucc [(iv fun _=>a),(iv fun _=>b)] (0+ix.den.toNat*1) 1))] [] (fun r _=>r=(iv fun _=>min a b)):=by
  have c127:= @urj
  refine ua0.is fun R hR=>qW (sc:=uvI) tyok mix Try.func104 rfl Try.call104 (by kernel_rfl) (by kernel_rfl) ?_
  generalize Try.prog=P at c127⊢
  cbv
  repeat' (first
      | (refine qP ?_ (c127 _ _) (by(repeat' (first|exact qB|refine qD ?_ ?_|exact qE (by rfl)|exact qF (by rfl)|exact Fit.refl _|exact qA|refine qC ?_ rfl ?_)))
         try cbv)
      |fail)
  all_goals first
    |(subst hR;(repeat' (first|exact qA|exact qB|refine qC ?_ rfl ?_|refine qD ?_ ?_|exact qE (by rfl)|exact qF (by rfl)|exact Fit.refl _|exact qG _|(refine qE ?_;(try simp only [qV]at *);simp only [zQ,zA,zB,zC,zD,zE,zF,zG,zH,zI,zJ,zK,zL,zM,zN,zO,zP,zR,zS]at *;omega)));done)
    |skip
end Go.Proofs.Ytkdggbfknlcdaaa

namespace Go.Proofs.Ytkdggbfknlcdaaa
open Go Go.Eng Go.Proofs
set_option maxRecDepth 10000
theorem ueP {x y:Int}(A B:Int)(hx:0≤x∧x≤A)(hy:0≤y∧y≤B):0≤x*y∧x*y≤A*B:=
  ⟨Int.mul_nonneg hx.1 hy.1,Int.mul_le_mul hx.2 hy.2 hy.1 (Int.le_trans hx.1 hx.2)⟩
theorem uuz (tw tm:List Int)(tv:List (List Int))(w m a b c d v00 v10 v01 v11:Int)(i k:Nat)(hl:2≤tw.length∧tw.length≤1000∧2≤tm.length∧tm.length≤1000)(hi:ubC tw w tw.length 0=i)(hk:ubC tm m tm.length 0=k)(ha:tw.getD i 0=a)(hb:tw.getD (i+1) 0=b)(hc:tm.getD k 0=c)(hd:tm.getD (k+1) 0=d)(h00:(tv.getD i []).getD k 0=v00)(h10:(tv.getD (i+1) []).getD k 0=v10)(h01:(tv.getD i []).getD (k+1) 0=v01)(h11:(tv.getD (i+1) []).getD (k+1) 0=v11)(hil:i+1<tw.length∧k+1<tm.length∧i+1<tv.length∧k+1<(tv.getD i []).length∧k+1<(tv.getD (i+1) []).length)(hbd:0≤a∧a≤w∧w≤b∧a<b∧b≤40∧0≤c∧c≤m∧m≤d∧c<d∧d≤60)(hv:0≤v00∧v00≤2000∧0≤v10∧v10≤2000∧0≤v01∧v01≤2000∧0≤v11∧v11≤2000):ua0 Try.prog 118 [(.agg [(iS tw),(iS tm),(.sl 1 (.sym fun _=>zi (tv).length) (fun ix=>[(.sl 1 (.sym fun _=>zi ((tv).getD ix.den.toNat []).length) (fun jx=>[(iv fun _=>((tv).getD ix.den.toNat []).getD jx.den.toNat 0)]))]))]),(iv fun _=>w),(iv fun _=>m)] [] (fun r _=>r=(iv fun _=>((2*(0+(v00*((b-a-(w-a))*(d-c-(m-c))))+(v10*((w-a)*(d-c-(m-c))))+(v01*((b-a-(w-a))*(m-c)))+(v11*((w-a)*(m-c))))+(b-a)*(d-c)).tdiv (2*(b-a)*(d-c))))):=by
  have c128:= @ut2
  have p1:=ueP (x:=b-a-(w-a)) (y:=d-c-(m-c)) 40 60 (by omega) (by omega)
  have p2:=ueP (x:=w-a) (y:=d-c-(m-c)) 40 60 (by omega) (by omega)
  have p3:=ueP (x:=b-a-(w-a)) (y:=m-c) 40 60 (by omega) (by omega)
  have p4:=ueP (x:=w-a) (y:=m-c) 40 60 (by omega) (by omega)
  have p5:=ueP (x:=b-a) (y:=d-c) 40 60 (by omega) (by omega)
  have p6:1≤(b-a)*(d-c):=Int.mul_pos (by omega) (by omega)
  have q1:=ueP (x:=v00) 2000 2400 (by omega) p1
  have q2:=ueP (x:=v10) 2000 2400 (by omega) p2
  have q3:=ueP (x:=v01) 2000 2400 (by omega) p3
  have q4:=ueP (x:=v11) 2000 2400 (by omega) p4
  have p7:2*(b-a)*(d-c)=2*((b-a)*(d-c)):=Int.mul_assoc _ _ _
  have ei:((i:Int)+1).toNat=i+1:=by omega
  have ek:((k:Int)+1).toNat=k+1:=by omega
  have ei0:(i:Int).toNat=i:=by omega
  have ek0:(k:Int).toNat=k:=by omega
  refine ua0.is fun R hR=>qW (sc:=uw7) tyok mix Try.func118 rfl Try.call118 (by kernel_rfl) (by kernel_rfl) ?_
  generalize Try.prog=P at c128⊢
  cbv
  repeat' (first
      |with_reducible refine hold ?_ ?_
      | (refine qP ?_ (c128 _ _ (show Hold _ from ?_)) (by(repeat' (first|exact qB|refine qD ?_ ?_|exact qE (by rfl)|exact qF (by rfl)|exact Fit.refl _|exact qA|refine qC ?_ rfl ?_)))
         try cbv)
      |fail)
  all_goals try (refine⟨some 5,?_⟩;cbv)
  repeat' (first
      |with_reducible refine hold ?_ ?_
      | (with_reducible refine qS ?_ ?_ ?_
         try cbv)
      |fail)
  all_goals (try simp only [zQ,zA,zB,zC,zD,zE,zF,zG,zH,zI,zJ,zK,zL,zM,zN,zO,zP,zR,zS,hi,hk,ei,ek,ei0,ek0,ha,hb,hc,hd,h00,h10,h01,h11])
  all_goals first
    |(refine qN ?_;omega)
    |(simp only [Hold];omega)
    |(refine qN ?_;rw [p7,Int.tdiv_eq_ediv_of_nonneg (by omega)];refine⟨?_,?_⟩;exact Int.le_trans (by omega) (Int.ediv_nonneg (by omega) (by omega));exact Int.le_trans (Int.ediv_le_self _ (by omega)) (by omega))
    |(subst hR;exact qE (by rfl))
    |(simp only [Hold];decide)
    |skip
  trace_state
end Go.Proofs.Ytkdggbfknlcdaaa

namespace Go.Proofs.Ytkdggbfknlcdaaa
open Go Go.Eng Go.Proofs
set_option maxRecDepth 10000
theorem uvu (tw tm:List Int)(tv:List (List Int))(w m:Int)(h:TOk tw tm tv∧Pt tw tm w m):ua0 Try.prog 118 [(.agg [(iS tw),(iS tm),(.sl 1 (.sym fun _=>zi (tv).length) (fun ix=>[(.sl 1 (.sym fun _=>zi ((tv).getD ix.den.toNat []).length) (fun jx=>[(iv fun _=>((tv).getD ix.den.toNat []).getD jx.den.toNat 0)]))]))]),(iv fun _=>w),(iv fun _=>m)] [] (fun r _=>r=(iv fun _=>atS tw tm tv w m)):=by
  obtain⟨h,hp⟩:=h
  have hi:=ucx h.w2 hp.w0
  have hk:=ucx h.m2 hp.m0
  have hr:=uaI h.rw
  have hs:=uaI h.rm
  have l1:=hi.lt
  have l2:=hk.lt
  have a1:=hr (ubC tw w tw.length 0) (by omega)
  have a2:=hr (ubC tw w tw.length 0+1) (by omega)
  have a3:=hs (ubC tm m tm.length 0) (by omega)
  have a4:=hs (ubC tm m tm.length 0+1) (by omega)
  simp only [ubs,Nat.add_sub_cancel]at a1 a2 a3 a4
  have e:=h.len
  have r1:=h.row (ubC tw w tw.length 0) (by omega)
  have r2:=h.row (ubC tw w tw.length 0+1) (by omega)
  have v1:=h.val (ubC tw w tw.length 0) (by omega) (ubC tm m tm.length 0) (by omega)
  have v2:=h.val (ubC tw w tw.length 0+1) (by omega) (ubC tm m tm.length 0) (by omega)
  have v3:=h.val (ubC tw w tw.length 0) (by omega) (ubC tm m tm.length 0+1) (by omega)
  have v4:=h.val (ubC tw w tw.length 0+1) (by omega) (ubC tm m tm.length 0+1) (by omega)
  have b1:=hi.le_hi hp.w1
  have b2:=hk.le_hi hp.m1
  have c1:=hi.lo
  have c2:=hk.lo
  have d1:=h.w5;have d2:=h.m5;have d3:=h.w2;have d4:=h.m2
  exact uuz tw tm tv w m _ _ _ _ _ _ _ _ _ _ (by omega) rfl rfl rfl rfl rfl rfl rfl rfl rfl rfl (by omega) (by omega) (by omega)
end Go.Proofs.Ytkdggbfknlcdaaa

namespace Go.Proofs.Ytkdggbfknlcdaaa
def uce (l:List Int)(i:Nat):Int:=if i=0 then -1 else l.getD (i-1) 0
theorem ugM (l:List Int):uce l 0 = -1:=rfl
theorem ueu (l:List Int)(i:Nat):uce l (i+1)=l.getD i 0:=by simp [uce]
def entP (l:List Int)(most:Int)(i:Nat):Bool:=decide (uce l i+1≤l.getD i 0)&&decide (l.getD i 0≤most)
theorem unV {l:List Int} {most:Int} {i:Nat}(h:∀j,j<i→entP l most j=true): -1≤uce l i∧(uce l i≤most∨uce l i = -1):=by
  induction i with
  |zero=>rw [ugM];omega
  | succ i ih=>
    have:=ih fun j hj=>h j (by omega)
    have h2:=h i (by omega)
    simp only [entP,Bool.and_eq_true,decide_eq_true_eq]at h2
    rw [ueu];omega
theorem un4 (l:List Int)(most:Int):decide (∀i,i<l.length→entP l most i=true)=ucL l most:=by
  rw [Bool.eq_iff_iff]
  simp only [ucL,decide_eq_true_eq]
  constructor
  · intro h i hi
    have h1:=h i hi
    simp only [entP,Bool.and_eq_true,decide_eq_true_eq]at h1
    have h2:=unV (i:=i) fun j hj=>h j (by omega)
    refine⟨by omega,by omega,fun h0=> ?_⟩
    obtain⟨k,rfl⟩:∃k,i=k+1:=⟨i-1,by omega⟩
    rw [ueu]at h1
    rw [Nat.add_sub_cancel];omega
  · intro h i hi
    have h1:=h i hi
    simp only [ubs]at h1
    simp only [entP,Bool.and_eq_true,decide_eq_true_eq]
    refine⟨?_,h1.2.1⟩
    by_cases e:i=0
    · subst e;rw [ugM];omega
    · have:=h1.2.2 (by omega)
      simp only [uce,e,if_false];omega
def utb (l:List Int):Bool:=decide (∀i,i<l.length→(decide (0≤l.getD i 0)&&decide (l.getD i 0≤2000))=true)
def ufi (n:Nat)(l:List Int):Bool:=decide (l.length=n)&&utb l
def ugo (tm:List Int)(tv:List (List Int)):Bool:=decide (∀i,i<tv.length→ufi tm.length (tv.getD i [])=true)
theorem ud3 (tm:List Int)(tv:List (List Int)):ugo tm tv=true↔∀i,i<tv.length→(tv.getD i []).length=tm.length∧∀k,k<tm.length→0≤(tv.getD i []).getD k 0∧(tv.getD i []).getD k 0≤2000:=by
  simp only [ugo,ufi,utb,decide_eq_true_eq,Bool.and_eq_true]
  constructor
  · intro h i hi
    obtain⟨h1,h2⟩:=h i hi
    exact⟨h1,fun k hk=>h2 k (by omega)⟩
  · intro h i hi
    obtain⟨h1,h2⟩:=h i hi
    exact⟨h1,fun k hk=>h2 k (by omega)⟩
theorem udE (tw tm:List Int)(tv:List (List Int)):ubK tw tm tv=if 5<tw.length∨5<tm.length∨5<tv.length then 3
    else if tw.length<2∨tm.length<2∨ucL tw 40=false∨ucL tm 60=false∨tv.length≠tw.length∨ugo tm tv=false then 1 else 0:=by
  unfold ubK
  split
  · rfl
  · by_cases h:ugo tm tv=true
    · have h':=(ud3 tm tv).1 h
      simp only [h,Bool.true_eq_false,or_false]
      split
      · rfl
      · first|rfl|rw [if_pos h']
    · have h':=fun q=>h ((ud3 tm tv).2 q)
      have hf:ugo tm tv=false:=by simpa using h
      simp only [hf,or_true,if_true]
      split
      · rfl
      · first|rfl|rw [if_neg h']
end Go.Proofs.Ytkdggbfknlcdaaa

namespace Go.Proofs.Ytkdggbfknlcdaaa
open Go Go.Eng Go.Proofs
set_option maxRecDepth 10000
theorem umu (l:List Int)(hfew:l.length≤1000)(i:Nat)(hi:i<l.length∧∀j,j<i→(decide (0≤l.getD (j) 0)&&decide (l.getD (j) 0≤2000))=true):ua0 Try.prog 120 [(iv fun _=>l.getD (i) 0),.own 0 0] [.cells [.clo 107 [] []] 121] (fun r bs=>r=(.bool (.sym fun _=> !(decide (0≤l.getD (i) 0)&&decide (l.getD (i) 0≤2000))))∧bs=[.cells [.clo 107 [] []] 121]):=by
  have cf:=ur4 (l.getD i 0)
  refine ua0.isB rfl fun R B hR hB=>qW (sc:=uun) tyok mix Try.func120 rfl Try.call120 (by kernel_rfl) (by kernel_rfl) ?_
  generalize Try.prog=P at cf⊢
  cbv
  repeat' (first
      |with_reducible refine And.intro ?_ ?_
      | (refine qP ?_ (cf) (by(repeat' (first|exact qB|refine qD ?_ ?_|exact qE (by rfl)|exact qF (by rfl)|exact Fit.refl _|exact qA|refine qC ?_ rfl ?_)))
         try cbv)
      |fail)
  all_goals first
    |(subst hR;(repeat' (first|exact qA|exact qB|refine qC ?_ rfl ?_|refine qD ?_ ?_|exact qE (by rfl)|exact qF (by rfl)|exact Fit.refl _|exact qG _|(refine qE ?_;(try simp only [qV]at *);simp only [zQ,zA,zB,zC,zD,zE,zF,zG,zH,zI,zJ,zK,zL,zM,zN,zO,zP,zR,zS]at *;omega)));done)
    |(subst hB;(repeat' (first|exact qH|refine qI ?_ ?_|exact qK _|refine qJ ?_|exact qA|exact qE (by rfl)|exact qF (by rfl)|exact Fit.refl _|exact qG _|refine qC ?_ rfl ?_));done)
    |skip
theorem un6 (l:List Int)(hfew:l.length≤1000):ua0 Try.prog 115 [(iS l),.clo 120 [] [.own 0 0]] [.cells [.clo 107 [] []] 121] (fun r bs=>r=(iv fun _=>fidx (fun i=>decide (0≤l.getD (i) 0)&&decide (l.getD (i) 0≤2000)) (l.length) 0)∧bs=[.cells [.clo 107 [] []] 121]):=by
  have cl:=umu l hfew
  refine ua0.isB rfl fun R B hR hB=>qW (sc:=uv5) tyok mix Try.func115 rfl Try.call115 (by kernel_rfl) (by kernel_rfl) ?_
  generalize Try.prog=P at cl⊢
  cbv
  repeat' (first
      |fail)
  all_goals first
    |skip
  refine⟨none,[],{i:Nat // i≤l.length∧fidx (fun i=>decide (0≤l.getD (i) 0)&&decide (l.getD (i) 0≤2000)) (l.length) 0=fidx (fun i=>decide (0≤l.getD (i) 0)&&decide (l.getD (i) 0≤2000)) (l.length-i) i∧∀j,j<i→(decide (0≤l.getD (j) 0)&&decide (l.getD (j) 0≤2000))=true},fun x=>⟨[(0,(iS l)),(1,.clo 120 [] [.own 0 0]),(7,(iv fun _=>zi (l.length))),(8,(iv fun _=>zi x.1))],[(0,.cells [.clo 107 [] []] 121)],20⟩,fun x=>l.length-x.1,?_,?_⟩
  · refine⟨⟨0,by omega,rfl,fun j hj=>by omega⟩,?_⟩
    cbv
    repeat' (first
      |with_reducible refine hold ?_ ?_
      |with_reducible refine And.intro ?_ ?_)
    all_goals first
      |trivial
      |exact qM (qE (by rfl))
      |exact qM (Fit.refl _)
      |exact qL (qK _)
      |skip
  · rintro ⟨i,hi,hr,hq⟩
    cbv
    repeat' (first
        |with_reducible refine hold ?_ ?_
        |with_reducible refine And.intro ?_ ?_
        |(with_reducible intro hcd;(try simp only [zA,zB,zC,zD,zE,zF,zG,zH,zI,zJ,zK,zL,zM,zN,zO,zP]at hcd);try cbv)
        | (refine⟨some [0],?_⟩
           cbv
           refine qQ ?_ (cl i ⟨by(try simp only [qV]at *);simp only [uax]at *;omega,hq⟩) (by cbv;(repeat' (first|exact qB|refine qD ?_ ?_|exact qE (by rfl)|exact qF (by rfl)|exact Fit.refl _|exact qA|refine qC ?_ rfl ?_))) (by cbv;(repeat' (first|exact qH|refine qI ?_ ?_|exact qK _|refine qJ ?_|exact qA|exact qE (by rfl)|exact qF (by rfl)|exact Fit.refl _|exact qG _|refine qC ?_ rfl ?_)))
           try cbv)
        |fail)
    all_goals first
      |((try simp only [qV]at *);(try simp only [zQ,zA,zB,zC,zD,zE,zF,zG,zH,zI,zJ,zK,zL,zM,zN,zO,zP,zR,zS]at *);first|(refine qN ?_;omega)|(simp only [Hold];omega))
      |(subst hR;(refine qE ?_;simp only [zQ,zA,zB,zC,zD,zE,zF,zG,zH,zI,zJ,zK,zL,zM,zN,zO,zP,zR,zS]at *;rw [hr,ubD (by omega) hcd]);done)
      |(subst hR;(refine qE ?_;simp only [zQ,zA,zB,zC,zD,zE,zF,zG,zH,zI,zJ,zK,zL,zM,zN,zO,zP,zR,zS]at *;rw [hr,show l.length-i=0 by omega];rfl);done)
      |(subst hB;(repeat' (first|exact qH|refine qI ?_ ?_|exact qK _|refine qJ ?_|exact qA|exact qE (by rfl)|exact qF (by rfl)|exact Fit.refl _|exact qG _|refine qC ?_ rfl ?_));done)
      |((try simp only [zQ,zA,zB,zC,zD,zE,zF,zG,zH,zI,zJ,zK,zL,zM,zN,zO,zP,zR,zS]at *);refine⟨⟨i+1,by omega,by rw [hr,udb (by omega) hcd];(try congr 1)<;>omega,fun j hj=>(Nat.lt_or_ge j i).elim (hq j) (fun q=>by rw [show j=i by omega];exact hcd)⟩,by simp only [];omega,?_⟩;cbv;(repeat' (first|with_reducible refine hold ?_ ?_|with_reducible refine And.intro ?_ ?_));(all_goals first|trivial|exact qM (qE (by rfl))|exact qM (qF (by rfl))|exact qM (Fit.refl _)|exact qL (qK _)|(refine qM (qE ?_);(try simp only [qV]at *);simp only [zQ,zA,zB,zC,zD,zE,zF,zG,zH,zI,zJ,zK,zL,zM,zN,zO,zP,zR,zS]at *;omega)|(refine qL (qJ ?_);(repeat' (first|exact qA|exact qB|refine qC ?_ rfl ?_|refine qD ?_ ?_|exact qE (by rfl)|exact qF (by rfl)|exact Fit.refl _|exact qG _|(refine qE ?_;(try simp only [qV]at *);simp only [zQ,zA,zB,zC,zD,zE,zF,zG,zH,zI,zJ,zK,zL,zM,zN,zO,zP,zR,zS]at *;omega)));done)|skip))
      |skip
theorem ukJ (l:List Int)(hfew:l.length≤1000):ua0 Try.prog 99 [(iS l),.clo 120 [] [.own 0 0]] [.cells [.clo 107 [] []] 121] (fun r bs=>r=(.bool (.sym fun _=>decide (0≤fidx (fun i=>decide (0≤l.getD (i) 0)&&decide (l.getD (i) 0≤2000)) (l.length) 0)))∧bs=[.cells [.clo 107 [] []] 121]):=by
  have ci:=un6 l hfew
  refine ua0.isB rfl fun R B hR hB=>qW (sc:=sc99) tyok mix Try.func99 rfl Try.call99 (by kernel_rfl) (by kernel_rfl) ?_
  generalize Try.prog=P at ci⊢
  cbv
  repeat' (first
      |with_reducible refine And.intro ?_ ?_
      | (refine⟨some [0],?_⟩
         cbv
         refine qQ ?_ (ci) (by cbv;(repeat' (first|exact qB|refine qD ?_ ?_|exact qE (by rfl)|exact qF (by rfl)|exact Fit.refl _|exact qA|refine qC ?_ rfl ?_))) (by cbv;(repeat' (first|exact qH|refine qI ?_ ?_|exact qK _|refine qJ ?_|exact qA|exact qE (by rfl)|exact qF (by rfl)|exact Fit.refl _|exact qG _|refine qC ?_ rfl ?_)))
         try cbv)
      |fail)
  all_goals first
    |(subst hR;(repeat' (first|exact qA|exact qB|refine qC ?_ rfl ?_|refine qD ?_ ?_|exact qE (by rfl)|exact qF (by rfl)|exact Fit.refl _|exact qG _|(refine qE ?_;(try simp only [qV]at *);simp only [zQ,zA,zB,zC,zD,zE,zF,zG,zH,zI,zJ,zK,zL,zM,zN,zO,zP,zR,zS]at *;omega)));done)
    |(subst hB;(repeat' (first|exact qH|refine qI ?_ ?_|exact qK _|refine qJ ?_|exact qA|exact qE (by rfl)|exact qF (by rfl)|exact Fit.refl _|exact qG _|refine qC ?_ rfl ?_));done)
    |skip
theorem umx (l:List Int)(hfew:l.length≤1000):ua0 Try.prog 106 [(iS l),.clo 107 [] []] [] (fun r _=>r=(.bool (.sym fun _=> !(decide (0≤fidx (fun i=>decide (0≤l.getD (i) 0)&&decide (l.getD (i) 0≤2000)) (l.length) 0))))):=by
  have cc:=ukJ l hfew
  refine ua0.is fun R hR=>qW (sc:=uud) tyok mix Try.func106 rfl Try.call106 (by kernel_rfl) (by kernel_rfl) ?_
  generalize Try.prog=P at cc⊢
  cbv
  repeat' (first
      | (refine⟨some [0],?_⟩
         cbv
         refine qQ ?_ (cc) (by cbv;(repeat' (first|exact qB|refine qD ?_ ?_|exact qE (by rfl)|exact qF (by rfl)|exact Fit.refl _|exact qA|refine qC ?_ rfl ?_))) (by cbv;(repeat' (first|exact qH|refine qI ?_ ?_|exact qK _|refine qJ ?_|exact qA|exact qE (by rfl)|exact qF (by rfl)|exact Fit.refl _|exact qG _|refine qC ?_ rfl ?_)))
         try cbv)
      |fail)
  all_goals first
    |(subst hR;(repeat' (first|exact qA|exact qB|refine qC ?_ rfl ?_|refine qD ?_ ?_|exact qE (by rfl)|exact qF (by rfl)|exact Fit.refl _|exact qG _|(refine qE ?_;(try simp only [qV]at *);simp only [zQ,zA,zB,zC,zD,zE,zF,zG,zH,zI,zJ,zK,zL,zM,zN,zO,zP,zR,zS]at *;omega)));done)
    |skip
theorem upX (l:List Int)(most:Int)(i:Nat)(hm:0≤most∧most≤1000000)(hi:i<l.length∧∀j,j<i→entP l most j=true):ua0 Try.prog 108 [(iv fun _=>l.getD i 0),.own 0 0,.own 1 0] [.cells [(iv fun _=>uce l i)] 3,.cells [(iv fun _=>most)] 3] (fun r bs=>r=(.bool (.sym fun _=>entP l most i))∧bs=[.cells [(iv fun _=>uce l (i+1))] 3,.cells [(iv fun _=>most)] 3]):=by
  have c113:= @ugD
  refine ua0.isB rfl fun R B hR hB=>qW (sc:=uwm) tyok mix Try.func108 rfl Try.call108 (by kernel_rfl) (by kernel_rfl) ?_
  generalize Try.prog=P at c113⊢
  cbv
  have hb:=unV hi.2
  repeat' (first
      |with_reducible refine hold ?_ ?_
      |with_reducible refine And.intro ?_ ?_
      | (refine qP ?_ (c113 _ _ _) (by(repeat' (first|exact qB|refine qD ?_ ?_|exact qE (by rfl)|exact qF (by rfl)|exact Fit.refl _|exact qA|refine qC ?_ rfl ?_)))
         try cbv)
      |fail)
  all_goals first
    |((try simp only [qV]at *);(try simp only [zQ,zA,zB,zC,zD,zE,zF,zG,zH,zI,zJ,zK,zL,zM,zN,zO,zP,zR,zS]at *);first|(refine qN ?_;omega)|(simp only [Hold];omega))
    |(subst hR;(repeat' (first|exact qA|exact qB|refine qC ?_ rfl ?_|refine qD ?_ ?_|exact qE (by rfl)|exact qF (by rfl)|exact Fit.refl _|exact qG _|(refine qE ?_;(try simp only [qV]at *);simp only [zQ,zA,zB,zC,zD,zE,zF,zG,zH,zI,zJ,zK,zL,zM,zN,zO,zP,zR,zS]at *;omega)));done)
    |(subst hB;refine qI (qJ (qC (qE ?_) rfl qA)) (qI (qK _) qH);simp only [zQ,zA,zB,zC,zD,zE,zF,zG,zH,zI,zJ,zK,zL,zM,zN,zO,zP,zR,zS,ueu];done)
    |skip
theorem umH (l:List Int)(most:Int)(hm:0≤most∧most≤1000000)(hfew:l.length≤1000)(i:Nat)(hi:i<l.length∧∀j,j<i→(entP l most (j))=true):ua0 Try.prog 120 [(iv fun _=>l.getD (i) 0),.own 0 0] [.cells [.clo 108 [] [.own 1 0,.own 2 0]] 121,.cells [(iv fun _=>uce l (i))] 3,.cells [(iv fun _=>most)] 3] (fun r bs=>r=(.bool (.sym fun _=> !(entP l most (i))))∧bs=[.cells [.clo 108 [] [.own 1 0,.own 2 0]] 121,.cells [(iv fun _=>uce l (i+1))] 3,.cells [(iv fun _=>most)] 3]):=by
  have cf:=upX l most i hm hi
  refine ua0.isB rfl fun R B hR hB=>qW (sc:=uun) tyok mix Try.func120 rfl Try.call120 (by kernel_rfl) (by kernel_rfl) ?_
  generalize Try.prog=P at cf⊢
  cbv
  repeat' (first
      |with_reducible refine And.intro ?_ ?_
      | (refine⟨some [1,2],?_⟩
         cbv
         refine qQ ?_ (cf) (by cbv;(repeat' (first|exact qB|refine qD ?_ ?_|exact qE (by rfl)|exact qF (by rfl)|exact Fit.refl _|exact qA|refine qC ?_ rfl ?_))) (by cbv;(repeat' (first|exact qH|refine qI ?_ ?_|exact qK _|refine qJ ?_|exact qA|exact qE (by rfl)|exact qF (by rfl)|exact Fit.refl _|exact qG _|refine qC ?_ rfl ?_)))
         try cbv)
      |fail)
  all_goals first
    |(subst hR;(repeat' (first|exact qA|exact qB|refine qC ?_ rfl ?_|refine qD ?_ ?_|exact qE (by rfl)|exact qF (by rfl)|exact Fit.refl _|exact qG _|(refine qE ?_;(try simp only [qV]at *);simp only [zQ,zA,zB,zC,zD,zE,zF,zG,zH,zI,zJ,zK,zL,zM,zN,zO,zP,zR,zS]at *;omega)));done)
    |(subst hB;(repeat' (first|exact qH|refine qI ?_ ?_|exact qK _|refine qJ ?_|exact qA|exact qE (by rfl)|exact qF (by rfl)|exact Fit.refl _|exact qG _|refine qC ?_ rfl ?_));done)
    |skip
theorem un1 (l:List Int)(most:Int)(hm:0≤most∧most≤1000000)(hfew:l.length≤1000):ua0 Try.prog 115 [(iS l),.clo 120 [] [.own 0 0]] [.cells [.clo 108 [] [.own 1 0,.own 2 0]] 121,.cells [(iv fun _=>uce l (0))] 3,.cells [(iv fun _=>most)] 3] (fun r bs=>r=(iv fun _=>fidx (fun i=>entP l most (i)) (l.length) 0)∧bs=[.cells [.clo 108 [] [.own 1 0,.own 2 0]] 121,.cells [.any] 3,.cells [(iv fun _=>most)] 3]):=by
  have cl:=umH l most hm hfew
  refine ua0.isB rfl fun R B hR hB=>qW (sc:=uv5) tyok mix Try.func115 rfl Try.call115 (by kernel_rfl) (by kernel_rfl) ?_
  generalize Try.prog=P at cl⊢
  cbv
  repeat' (first
      |fail)
  all_goals first
    |skip
  refine⟨none,[],{i:Nat // i≤l.length∧fidx (fun i=>entP l most (i)) (l.length) 0=fidx (fun i=>entP l most (i)) (l.length-i) i∧∀j,j<i→(entP l most (j))=true},fun x=>⟨[(0,(iS l)),(1,.clo 120 [] [.own 0 0]),(7,(iv fun _=>zi (l.length))),(8,(iv fun _=>zi x.1))],[(0,.cells [.clo 108 [] [.own 1 0,.own 2 0]] 121),(1,.cells [(iv fun _=>uce l (x.1))] 3),(2,.cells [(iv fun _=>most)] 3)],20⟩,fun x=>l.length-x.1,?_,?_⟩
  · refine⟨⟨0,by omega,rfl,fun j hj=>by omega⟩,?_⟩
    cbv
    repeat' (first
      |with_reducible refine hold ?_ ?_
      |with_reducible refine And.intro ?_ ?_)
    all_goals first
      |trivial
      |exact qM (qE (by rfl))
      |exact qM (Fit.refl _)
      |exact qL (qK _)
      |skip
  · rintro ⟨i,hi,hr,hq⟩
    cbv
    repeat' (first
        |with_reducible refine hold ?_ ?_
        |with_reducible refine And.intro ?_ ?_
        |(with_reducible intro hcd;(try simp only [zA,zB,zC,zD,zE,zF,zG,zH,zI,zJ,zK,zL,zM,zN,zO,zP]at hcd);try cbv)
        | (refine⟨some [0,1,2],?_⟩
           cbv
           refine qQ ?_ (cl i ⟨by(try simp only [qV]at *);simp only [uax]at *;omega,hq⟩) (by cbv;(repeat' (first|exact qB|refine qD ?_ ?_|exact qE (by rfl)|exact qF (by rfl)|exact Fit.refl _|exact qA|refine qC ?_ rfl ?_))) (by cbv;(repeat' (first|exact qH|refine qI ?_ ?_|exact qK _|refine qJ ?_|exact qA|exact qE (by rfl)|exact qF (by rfl)|exact Fit.refl _|exact qG _|refine qC ?_ rfl ?_)))
           try cbv)
        |fail)
    all_goals first
      |((try simp only [qV]at *);(try simp only [zQ,zA,zB,zC,zD,zE,zF,zG,zH,zI,zJ,zK,zL,zM,zN,zO,zP,zR,zS]at *);first|(refine qN ?_;omega)|(simp only [Hold];omega))
      |(subst hR;(refine qE ?_;simp only [zQ,zA,zB,zC,zD,zE,zF,zG,zH,zI,zJ,zK,zL,zM,zN,zO,zP,zR,zS]at *;rw [hr,ubD (by omega) hcd]);done)
      |(subst hR;(refine qE ?_;simp only [zQ,zA,zB,zC,zD,zE,zF,zG,zH,zI,zJ,zK,zL,zM,zN,zO,zP,zR,zS]at *;rw [hr,show l.length-i=0 by omega];rfl);done)
      |(subst hB;(repeat' (first|exact qH|refine qI ?_ ?_|exact qK _|refine qJ ?_|exact qA|exact qE (by rfl)|exact qF (by rfl)|exact Fit.refl _|exact qG _|refine qC ?_ rfl ?_));done)
      |((try simp only [zQ,zA,zB,zC,zD,zE,zF,zG,zH,zI,zJ,zK,zL,zM,zN,zO,zP,zR,zS]at *);refine⟨⟨i+1,by omega,by rw [hr,udb (by omega) hcd];(try congr 1)<;>omega,fun j hj=>(Nat.lt_or_ge j i).elim (hq j) (fun q=>by rw [show j=i by omega];exact hcd)⟩,by simp only [];omega,?_⟩;cbv;(repeat' (first|with_reducible refine hold ?_ ?_|with_reducible refine And.intro ?_ ?_));(all_goals first|trivial|exact qM (qE (by rfl))|exact qM (qF (by rfl))|exact qM (Fit.refl _)|exact qL (qK _)|(refine qM (qE ?_);(try simp only [qV]at *);simp only [zQ,zA,zB,zC,zD,zE,zF,zG,zH,zI,zJ,zK,zL,zM,zN,zO,zP,zR,zS]at *;omega)|(refine qL (qJ ?_);(repeat' (first|exact qA|exact qB|refine qC ?_ rfl ?_|refine qD ?_ ?_|exact qE (by rfl)|exact qF (by rfl)|exact Fit.refl _|exact qG _|(refine qE ?_;(try simp only [qV]at *);simp only [zQ,zA,zB,zC,zD,zE,zF,zG,zH,zI,zJ,zK,zL,zM,zN,zO,zP,zR,zS]at *;omega)));done)|skip))
      |skip
theorem ukL (l:List Int)(most:Int)(hm:0≤most∧most≤1000000)(hfew:l.length≤1000):ua0 Try.prog 99 [(iS l),.clo 120 [] [.own 0 0]] [.cells [.clo 108 [] [.own 1 0,.own 2 0]] 121,.cells [(iv fun _=>uce l (0))] 3,.cells [(iv fun _=>most)] 3] (fun r bs=>r=(.bool (.sym fun _=>decide (0≤fidx (fun i=>entP l most (i)) (l.length) 0)))∧bs=[.cells [.clo 108 [] [.own 1 0,.own 2 0]] 121,.cells [.any] 3,.cells [(iv fun _=>most)] 3]):=by
  have ci:=un1 l most hm hfew
  refine ua0.isB rfl fun R B hR hB=>qW (sc:=sc99) tyok mix Try.func99 rfl Try.call99 (by kernel_rfl) (by kernel_rfl) ?_
  generalize Try.prog=P at ci⊢
  cbv
  repeat' (first
      |with_reducible refine And.intro ?_ ?_
      | (refine⟨some [0,1,2],?_⟩
         cbv
         refine qQ ?_ (ci) (by cbv;(repeat' (first|exact qB|refine qD ?_ ?_|exact qE (by rfl)|exact qF (by rfl)|exact Fit.refl _|exact qA|refine qC ?_ rfl ?_))) (by cbv;(repeat' (first|exact qH|refine qI ?_ ?_|exact qK _|refine qJ ?_|exact qA|exact qE (by rfl)|exact qF (by rfl)|exact Fit.refl _|exact qG _|refine qC ?_ rfl ?_)))
         try cbv)
      |fail)
  all_goals first
    |(subst hR;(repeat' (first|exact qA|exact qB|refine qC ?_ rfl ?_|refine qD ?_ ?_|exact qE (by rfl)|exact qF (by rfl)|exact Fit.refl _|exact qG _|(refine qE ?_;(try simp only [qV]at *);simp only [zQ,zA,zB,zC,zD,zE,zF,zG,zH,zI,zJ,zK,zL,zM,zN,zO,zP,zR,zS]at *;omega)));done)
    |(subst hB;(repeat' (first|exact qH|refine qI ?_ ?_|exact qK _|refine qJ ?_|exact qA|exact qE (by rfl)|exact qF (by rfl)|exact Fit.refl _|exact qG _|refine qC ?_ rfl ?_));done)
    |skip
theorem umg (l:List Int)(most:Int)(hm:0≤most∧most≤1000000)(hfew:l.length≤1000):ua0 Try.prog 106 [(iS l),.clo 108 [] [.own 0 0,.own 1 0]] [.cells [(iv fun _=>uce l (0))] 3,.cells [(iv fun _=>most)] 3] (fun r bs=>r=(.bool (.sym fun _=> !(decide (0≤fidx (fun i=>entP l most (i)) (l.length) 0))))∧bs=[.cells [.any] 3,.cells [(iv fun _=>most)] 3]):=by
  have cc:=ukL l most hm hfew
  refine ua0.isB rfl fun R B hR hB=>qW (sc:=uud) tyok mix Try.func106 rfl Try.call106 (by kernel_rfl) (by kernel_rfl) ?_
  generalize Try.prog=P at cc⊢
  cbv
  repeat' (first
      |with_reducible refine And.intro ?_ ?_
      | (refine⟨some [2,0,1],?_⟩
         cbv
         refine qQ ?_ (cc) (by cbv;(repeat' (first|exact qB|refine qD ?_ ?_|exact qE (by rfl)|exact qF (by rfl)|exact Fit.refl _|exact qA|refine qC ?_ rfl ?_))) (by cbv;(repeat' (first|exact qH|refine qI ?_ ?_|exact qK _|refine qJ ?_|exact qA|exact qE (by rfl)|exact qF (by rfl)|exact Fit.refl _|exact qG _|refine qC ?_ rfl ?_)))
         try cbv)
      |fail)
  all_goals first
    |(subst hR;(repeat' (first|exact qA|exact qB|refine qC ?_ rfl ?_|refine qD ?_ ?_|exact qE (by rfl)|exact qF (by rfl)|exact Fit.refl _|exact qG _|(refine qE ?_;(try simp only [qV]at *);simp only [zQ,zA,zB,zC,zD,zE,zF,zG,zH,zI,zJ,zK,zL,zM,zN,zO,zP,zR,zS]at *;omega)));done)
    |(subst hB;(repeat' (first|exact qH|refine qI ?_ ?_|exact qK _|refine qJ ?_|exact qA|exact qE (by rfl)|exact qF (by rfl)|exact Fit.refl _|exact qG _|refine qC ?_ rfl ?_));done)
    |skip
theorem up9 (l:List Int)(most:Int)(h:l.length≤1000)(hm:0≤most∧most≤1000000):ua0 Try.prog 78 [(iS l),(iv fun _=>most)] [] (fun r _=>r=(.bool (.sym fun _=>decide (2≤l.length)&&ucL l most))):=by
  have ca:=umg l most hm h
  refine ua0.is fun R hR=>qW (sc:=sc78) tyok mix Try.func78 rfl Try.call78 (by kernel_rfl) (by kernel_rfl) ?_
  generalize Try.prog=P at ca⊢
  cbv
  repeat' (first
      |with_reducible refine And.intro ?_ ?_
      |(with_reducible intro hcd;(try simp only [zA,zB,zC,zD,zE,zF,zG,zH,zI,zJ,zK,zL,zM,zN,zO,zP]at hcd);try cbv)
      | (refine⟨some [2,0],?_⟩
         cbv
         refine qQ ?_ (ca) (by cbv;(repeat' (first|exact qB|refine qD ?_ ?_|exact qE (by rfl)|exact qF (by rfl)|exact Fit.refl _|exact qA|refine qC ?_ rfl ?_))) (by cbv;(repeat' (first|exact qH|refine qI ?_ ?_|exact qK _|refine qJ ?_|exact qA|exact qE (by rfl)|exact qF (by rfl)|exact Fit.refl _|exact qG _|refine qC ?_ rfl ?_)))
         try cbv)
      |fail)
  all_goals first
    |(subst hR;(refine qF ?_;(try simp only [qV]at *);simp only [zQ,zA,zB,zC,zD,zE,zF,zG,zH,zI,zJ,zK,zL,zM,zN,zO,zP,zR,zS]at *;rw [ug8,un4];have h2:2≤l.length:=(by omega);simp [h2]);done)
    |(subst hR;(refine qF ?_;(try simp only [qV]at *);simp only [zQ,zA,zB,zC,zD,zE,zF,zG,zH,zI,zJ,zK,zL,zM,zN,zO,zP,zR,zS]at *;have h2:¬2≤l.length:=(by omega);simp [h2]);done)
    |skip
theorem uwf (tw tm l:List Int)(tv:List (List Int))(h:tm.length≤1000):ua0 Try.prog 77 [(.agg [(iS tw),(iS tm),(.sl 1 (.sym fun _=>zi (tv).length) (fun ix=>[(.sl 1 (.sym fun _=>zi ((tv).getD ix.den.toNat []).length) (fun jx=>[(iv fun _=>((tv).getD ix.den.toNat []).getD jx.den.toNat 0)]))]))]),(iS l)] [] (fun r _=>r=(.bool (.sym fun _=>ufi tm.length l))):=by
  have ca:=umx l
  refine ua0.is fun R hR=>qW (sc:=sc77) tyok mix Try.func77 rfl Try.call77 (by kernel_rfl) (by kernel_rfl) ?_
  generalize Try.prog=P at ca⊢
  cbv
  repeat' (first
      |with_reducible refine And.intro ?_ ?_
      |(with_reducible intro hcd;(try simp only [zA,zB,zC,zD,zE,zF,zG,zH,zI,zJ,zK,zL,zM,zN,zO,zP]at hcd);try cbv)
      | (refine qP ?_ (ca (show Hold _ from ?_)) (by(repeat' (first|exact qB|refine qD ?_ ?_|exact qE (by rfl)|exact qF (by rfl)|exact Fit.refl _|exact qA|refine qC ?_ rfl ?_)))
         try cbv)
      |fail)
  all_goals first
    |((try simp only [qV]at *);(try simp only [zQ,zA,zB,zC,zD,zE,zF,zG,zH,zI,zJ,zK,zL,zM,zN,zO,zP,zR,zS]at *);first|(refine qN ?_;omega)|(simp only [Hold];omega))
    |(subst hR;(refine qF ?_;(try simp only [qV]at *);simp only [zQ,zA,zB,zC,zD,zE,zF,zG,zH,zI,zJ,zK,zL,zM,zN,zO,zP,zR,zS]at *;rw [ug8,ufi,utb];have h2:l.length=tm.length:=(by omega);simp only [h2,decide_true,Bool.true_and]);done)
    |(subst hR;(refine qF ?_;(try simp only [qV]at *);simp only [zQ,zA,zB,zC,zD,zE,zF,zG,zH,zI,zJ,zK,zL,zM,zN,zO,zP,zR,zS]at *;rw [ufi];have h2:¬l.length=tm.length:=(by omega);simp [h2]);done)
    |skip
end Go.Proofs.Ytkdggbfknlcdaaa

namespace Go.Proofs.Ytkdggbfknlcdaaa
open Go Go.Eng Go.Proofs
set_option maxRecDepth 10000
theorem ukz (tw tm:List Int)(tv:List (List Int))(hm:tm.length≤1000)(hfew:tv.length≤1000)(i:Nat)(hi:i<tv.length∧∀j,j<i→(ufi tm.length (tv.getD (j) []))=true):ua0 Try.prog 110 [(.sl 1 (.sym fun _=>zi ((tv.getD (i) [])).length) (fun ix=>[(iv fun _=>((tv.getD (i) [])).getD ix.den.toNat 0)])),.own 0 0] [.cells [.clo 77 [(.agg [(iS tw),(iS tm),(.sl 1 (.sym fun _=>zi (tv).length) (fun ix=>[(.sl 1 (.sym fun _=>zi ((tv).getD ix.den.toNat []).length) (fun jx=>[(iv fun _=>((tv).getD ix.den.toNat []).getD jx.den.toNat 0)]))]))])] []] 119] (fun r bs=>r=(.bool (.sym fun _=> !(ufi tm.length (tv.getD (i) []))))∧bs=[.cells [.clo 77 [(.agg [(iS tw),(iS tm),(.sl 1 (.sym fun _=>zi (tv).length) (fun ix=>[(.sl 1 (.sym fun _=>zi ((tv).getD ix.den.toNat []).length) (fun jx=>[(iv fun _=>((tv).getD ix.den.toNat []).getD jx.den.toNat 0)]))]))])] []] 119]):=by
  have cf:=uwf tw tm (tv.getD i []) tv hm
  refine ua0.isB rfl fun R B hR hB=>qW (sc:=uvg) tyok mix Try.func110 rfl Try.call110 (by kernel_rfl) (by kernel_rfl) ?_
  generalize Try.prog=P at cf⊢
  cbv
  repeat' (first
      |with_reducible refine And.intro ?_ ?_
      | (refine qP ?_ (cf) (by(repeat' (first|exact qB|refine qD ?_ ?_|exact qE (by rfl)|exact qF (by rfl)|exact Fit.refl _|exact qA|refine qC ?_ rfl ?_)))
         try cbv)
      |fail)
  all_goals first
    |(subst hR;(repeat' (first|exact qA|exact qB|refine qC ?_ rfl ?_|refine qD ?_ ?_|exact qE (by rfl)|exact qF (by rfl)|exact Fit.refl _|exact qG _|(refine qE ?_;(try simp only [qV]at *);simp only [zQ,zA,zB,zC,zD,zE,zF,zG,zH,zI,zJ,zK,zL,zM,zN,zO,zP,zR,zS]at *;omega)));done)
    |(subst hB;(repeat' (first|exact qH|refine qI ?_ ?_|exact qK _|refine qJ ?_|exact qA|exact qE (by rfl)|exact qF (by rfl)|exact Fit.refl _|exact qG _|refine qC ?_ rfl ?_));done)
    |skip
theorem uk2 (tw tm:List Int)(tv:List (List Int))(hm:tm.length≤1000)(hfew:tv.length≤1000):ua0 Try.prog 97 [(.sl 1 (.sym fun _=>zi (tv).length) (fun ix=>[(.sl 1 (.sym fun _=>zi ((tv).getD ix.den.toNat []).length) (fun jx=>[(iv fun _=>((tv).getD ix.den.toNat []).getD jx.den.toNat 0)]))])),.clo 110 [] [.own 0 0]] [.cells [.clo 77 [(.agg [(iS tw),(iS tm),(.sl 1 (.sym fun _=>zi (tv).length) (fun ix=>[(.sl 1 (.sym fun _=>zi ((tv).getD ix.den.toNat []).length) (fun jx=>[(iv fun _=>((tv).getD ix.den.toNat []).getD jx.den.toNat 0)]))]))])] []] 119] (fun r bs=>r=(iv fun _=>fidx (fun i=>ufi tm.length (tv.getD (i) [])) (tv.length) 0)∧bs=[.cells [.clo 77 [(.agg [(iS tw),(iS tm),(.sl 1 (.sym fun _=>zi (tv).length) (fun ix=>[(.sl 1 (.sym fun _=>zi ((tv).getD ix.den.toNat []).length) (fun jx=>[(iv fun _=>((tv).getD ix.den.toNat []).getD jx.den.toNat 0)]))]))])] []] 119]):=by
  have cl:=ukz tw tm tv hm hfew
  refine ua0.isB rfl fun R B hR hB=>qW (sc:=sc97) tyok mix Try.func97 rfl Try.call97 (by kernel_rfl) (by kernel_rfl) ?_
  generalize Try.prog=P at cl⊢
  cbv
  repeat' (first
      |fail)
  all_goals first
    |skip
  refine⟨none,[],{i:Nat // i≤tv.length∧fidx (fun i=>ufi tm.length (tv.getD (i) [])) (tv.length) 0=fidx (fun i=>ufi tm.length (tv.getD (i) [])) (tv.length-i) i∧∀j,j<i→(ufi tm.length (tv.getD (j) []))=true},fun x=>⟨[(0,(.sl 1 (.sym fun _=>zi (tv).length) (fun ix=>[(.sl 1 (.sym fun _=>zi ((tv).getD ix.den.toNat []).length) (fun jx=>[(iv fun _=>((tv).getD ix.den.toNat []).getD jx.den.toNat 0)]))]))),(1,.clo 110 [] [.own 0 0]),(7,(iv fun _=>zi (tv.length))),(8,(iv fun _=>zi x.1))],[(0,.cells [.clo 77 [(.agg [(iS tw),(iS tm),(.sl 1 (.sym fun _=>zi (tv).length) (fun ix=>[(.sl 1 (.sym fun _=>zi ((tv).getD ix.den.toNat []).length) (fun jx=>[(iv fun _=>((tv).getD ix.den.toNat []).getD jx.den.toNat 0)]))]))])] []] 119)],20⟩,fun x=>tv.length-x.1,?_,?_⟩
  · refine⟨⟨0,by omega,rfl,fun j hj=>by omega⟩,?_⟩
    cbv
    repeat' (first
      |with_reducible refine hold ?_ ?_
      |with_reducible refine And.intro ?_ ?_)
    all_goals first
      |trivial
      |exact qM (qE (by rfl))
      |exact qM (Fit.refl _)
      |exact qL (qK _)
      |skip
  · rintro ⟨i,hi,hr,hq⟩
    cbv
    repeat' (first
        |with_reducible refine hold ?_ ?_
        |with_reducible refine And.intro ?_ ?_
        |(with_reducible intro hcd;(try simp only [zA,zB,zC,zD,zE,zF,zG,zH,zI,zJ,zK,zL,zM,zN,zO,zP]at hcd);try cbv)
        | (refine⟨some [0],?_⟩
           cbv
           refine qQ ?_ (cl i ⟨by(try simp only [qV]at *);simp only [uax]at *;omega,hq⟩) (by cbv;(repeat' (first|exact qB|refine qD ?_ ?_|exact qE (by rfl)|exact qF (by rfl)|exact Fit.refl _|exact qA|refine qC ?_ rfl ?_))) (by cbv;(repeat' (first|exact qH|refine qI ?_ ?_|exact qK _|refine qJ ?_|exact qA|exact qE (by rfl)|exact qF (by rfl)|exact Fit.refl _|exact qG _|refine qC ?_ rfl ?_)))
           try cbv)
        |fail)
    all_goals first
      |((try simp only [qV]at *);(try simp only [zQ,zA,zB,zC,zD,zE,zF,zG,zH,zI,zJ,zK,zL,zM,zN,zO,zP,zR,zS]at *);first|(refine qN ?_;omega)|(simp only [Hold];omega))
      |(subst hR;(refine qE ?_;simp only [zQ,zA,zB,zC,zD,zE,zF,zG,zH,zI,zJ,zK,zL,zM,zN,zO,zP,zR,zS]at *;rw [hr,ubD (by omega) hcd]);done)
      |(subst hR;(refine qE ?_;simp only [zQ,zA,zB,zC,zD,zE,zF,zG,zH,zI,zJ,zK,zL,zM,zN,zO,zP,zR,zS]at *;rw [hr,show tv.length-i=0 by omega];rfl);done)
      |(subst hB;(repeat' (first|exact qH|refine qI ?_ ?_|exact qK _|refine qJ ?_|exact qA|exact qE (by rfl)|exact qF (by rfl)|exact Fit.refl _|exact qG _|refine qC ?_ rfl ?_));done)
      |((try simp only [zQ,zA,zB,zC,zD,zE,zF,zG,zH,zI,zJ,zK,zL,zM,zN,zO,zP,zR,zS]at *);refine⟨⟨i+1,by omega,by rw [hr,udb (by omega) hcd];(try congr 1)<;>omega,fun j hj=>(Nat.lt_or_ge j i).elim (hq j) (fun q=>by rw [show j=i by omega];exact hcd)⟩,by simp only [];omega,?_⟩;cbv;(repeat' (first|with_reducible refine hold ?_ ?_|with_reducible refine And.intro ?_ ?_));(all_goals first|trivial|exact qM (qE (by rfl))|exact qM (qF (by rfl))|exact qM (Fit.refl _)|exact qL (qK _)|(refine qM (qE ?_);(try simp only [qV]at *);simp only [zQ,zA,zB,zC,zD,zE,zF,zG,zH,zI,zJ,zK,zL,zM,zN,zO,zP,zR,zS]at *;omega)|(refine qL (qJ ?_);(repeat' (first|exact qA|exact qB|refine qC ?_ rfl ?_|refine qD ?_ ?_|exact qE (by rfl)|exact qF (by rfl)|exact Fit.refl _|exact qG _|(refine qE ?_;(try simp only [qV]at *);simp only [zQ,zA,zB,zC,zD,zE,zF,zG,zH,zI,zJ,zK,zL,zM,zN,zO,zP,zR,zS]at *;omega)));done)|skip))
      |skip
theorem uiR (tw tm:List Int)(tv:List (List Int))(hm:tm.length≤1000)(hfew:tv.length≤1000):ua0 Try.prog 65 [(.sl 1 (.sym fun _=>zi (tv).length) (fun ix=>[(.sl 1 (.sym fun _=>zi ((tv).getD ix.den.toNat []).length) (fun jx=>[(iv fun _=>((tv).getD ix.den.toNat []).getD jx.den.toNat 0)]))])),.clo 110 [] [.own 0 0]] [.cells [.clo 77 [(.agg [(iS tw),(iS tm),(.sl 1 (.sym fun _=>zi (tv).length) (fun ix=>[(.sl 1 (.sym fun _=>zi ((tv).getD ix.den.toNat []).length) (fun jx=>[(iv fun _=>((tv).getD ix.den.toNat []).getD jx.den.toNat 0)]))]))])] []] 119] (fun r bs=>r=(.bool (.sym fun _=>decide (0≤fidx (fun i=>ufi tm.length (tv.getD (i) [])) (tv.length) 0)))∧bs=[.cells [.clo 77 [(.agg [(iS tw),(iS tm),(.sl 1 (.sym fun _=>zi (tv).length) (fun ix=>[(.sl 1 (.sym fun _=>zi ((tv).getD ix.den.toNat []).length) (fun jx=>[(iv fun _=>((tv).getD ix.den.toNat []).getD jx.den.toNat 0)]))]))])] []] 119]):=by
  have ci:=uk2 tw tm tv hm hfew
  refine ua0.isB rfl fun R B hR hB=>qW (sc:=sc65) tyok mix Try.func65 rfl Try.call65 (by kernel_rfl) (by kernel_rfl) ?_
  generalize Try.prog=P at ci⊢
  cbv
  repeat' (first
      |with_reducible refine And.intro ?_ ?_
      | (refine⟨some [0],?_⟩
         cbv
         refine qQ ?_ (ci) (by cbv;(repeat' (first|exact qB|refine qD ?_ ?_|exact qE (by rfl)|exact qF (by rfl)|exact Fit.refl _|exact qA|refine qC ?_ rfl ?_))) (by cbv;(repeat' (first|exact qH|refine qI ?_ ?_|exact qK _|refine qJ ?_|exact qA|exact qE (by rfl)|exact qF (by rfl)|exact Fit.refl _|exact qG _|refine qC ?_ rfl ?_)))
         try cbv)
      |fail)
  all_goals first
    |(subst hR;(repeat' (first|exact qA|exact qB|refine qC ?_ rfl ?_|refine qD ?_ ?_|exact qE (by rfl)|exact qF (by rfl)|exact Fit.refl _|exact qG _|(refine qE ?_;(try simp only [qV]at *);simp only [zQ,zA,zB,zC,zD,zE,zF,zG,zH,zI,zJ,zK,zL,zM,zN,zO,zP,zR,zS]at *;omega)));done)
    |(subst hB;(repeat' (first|exact qH|refine qI ?_ ?_|exact qK _|refine qJ ?_|exact qA|exact qE (by rfl)|exact qF (by rfl)|exact Fit.refl _|exact qG _|refine qC ?_ rfl ?_));done)
    |skip
theorem umF (tw tm:List Int)(tv:List (List Int))(hm:tm.length≤1000)(hfew:tv.length≤1000):ua0 Try.prog 79 [(.sl 1 (.sym fun _=>zi (tv).length) (fun ix=>[(.sl 1 (.sym fun _=>zi ((tv).getD ix.den.toNat []).length) (fun jx=>[(iv fun _=>((tv).getD ix.den.toNat []).getD jx.den.toNat 0)]))])),.clo 77 [(.agg [(iS tw),(iS tm),(.sl 1 (.sym fun _=>zi (tv).length) (fun ix=>[(.sl 1 (.sym fun _=>zi ((tv).getD ix.den.toNat []).length) (fun jx=>[(iv fun _=>((tv).getD ix.den.toNat []).getD jx.den.toNat 0)]))]))])] []] [] (fun r _=>r=(.bool (.sym fun _=> !(decide (0≤fidx (fun i=>ufi tm.length (tv.getD (i) [])) (tv.length) 0))))):=by
  have cc:=uiR tw tm tv hm hfew
  refine ua0.is fun R hR=>qW (sc:=sc79) tyok mix Try.func79 rfl Try.call79 (by kernel_rfl) (by kernel_rfl) ?_
  generalize Try.prog=P at cc⊢
  cbv
  repeat' (first
      | (refine⟨some [0],?_⟩
         cbv
         refine qQ ?_ (cc) (by cbv;(repeat' (first|exact qB|refine qD ?_ ?_|exact qE (by rfl)|exact qF (by rfl)|exact Fit.refl _|exact qA|refine qC ?_ rfl ?_))) (by cbv;(repeat' (first|exact qH|refine qI ?_ ?_|exact qK _|refine qJ ?_|exact qA|exact qE (by rfl)|exact qF (by rfl)|exact Fit.refl _|exact qG _|refine qC ?_ rfl ?_)))
         try cbv)
      |fail)
  all_goals first
    |(subst hR;(repeat' (first|exact qA|exact qB|refine qC ?_ rfl ?_|refine qD ?_ ?_|exact qE (by rfl)|exact qF (by rfl)|exact Fit.refl _|exact qG _|(refine qE ?_;(try simp only [qV]at *);simp only [zQ,zA,zB,zC,zD,zE,zF,zG,zH,zI,zJ,zK,zL,zM,zN,zO,zP,zR,zS]at *;omega)));done)
    |skip
theorem uv9 (tw tm:List Int)(tv:List (List Int))(h:tm.length≤1000∧tv.length≤1000):ua0 Try.prog 79 [(.sl 1 (.sym fun _=>zi (tv).length) (fun ix=>[(.sl 1 (.sym fun _=>zi ((tv).getD ix.den.toNat []).length) (fun jx=>[(iv fun _=>((tv).getD ix.den.toNat []).getD jx.den.toNat 0)]))])),.clo 77 [(.agg [(iS tw),(iS tm),(.sl 1 (.sym fun _=>zi (tv).length) (fun ix=>[(.sl 1 (.sym fun _=>zi ((tv).getD ix.den.toNat []).length) (fun jx=>[(iv fun _=>((tv).getD ix.den.toNat []).getD jx.den.toNat 0)]))]))])] []] [] (fun r _=>r=(.bool (.sym fun _=>ugo tm tv))):=by
  have:=umF tw tm tv h.1 h.2
  simp only [ug8]at this
  exact this
set_option maxHeartbeats 1000000 in
theorem unt (tw tm:List Int)(tv:List (List Int)):ua0 Try.prog 48 [(.agg [(iS tw),(iS tm),(.sl 1 (.sym fun _=>zi (tv).length) (fun ix=>[(.sl 1 (.sym fun _=>zi ((tv).getD ix.den.toNat []).length) (fun jx=>[(iv fun _=>((tv).getD ix.den.toNat []).getD jx.den.toNat 0)]))]))])] [] (fun r _=>r=(iv fun _=>ubK tw tm tv)):=by
  have c97:= @up9
  have c98:= @uv9
  refine ua0.is fun R hR=>qW (sc:=sc48) tyok mix Try.func48 rfl Try.call48 (by kernel_rfl) (by kernel_rfl) ?_
  generalize Try.prog=P at c97 c98⊢
  cbv
  repeat' (first
      |with_reducible refine And.intro ?_ ?_
      |(with_reducible intro hcd;(try simp only [zA,zB,zC,zD,zE,zF,zG,zH,zI,zJ,zK,zL,zM,zN,zO,zP]at hcd);try cbv)
      | (refine qP ?_ (c97 _ _ (show Hold _ from ?_) (show Hold _ from ?_)) (by(repeat' (first|exact qB|refine qD ?_ ?_|exact qE (by rfl)|exact qF (by rfl)|exact Fit.refl _|exact qA|refine qC ?_ rfl ?_)))
         try cbv)
      | (refine qP ?_ (c98 _ _ _ (show Hold _ from ?_)) (by(repeat' (first|exact qB|refine qD ?_ ?_|exact qE (by rfl)|exact qF (by rfl)|exact Fit.refl _|exact qA|refine qC ?_ rfl ?_)))
         try cbv)
      |fail)
  all_goals first
    |trivial
    |((try simp only [qV]at *);(try simp only [zQ,zA,zB,zC,zD,zE,zF,zG,zH,zI,zJ,zK,zL,zM,zN,zO,zP,zR,zS]at *);first|(refine qN ?_;omega)|(simp only [Hold];omega))
    |(subst hR;(refine qE ?_;(try simp only [qV]at *);simp only [zQ,zA,zB,zC,zD,zE,zF,zG,zH,zI,zJ,zK,zL,zM,zN,zO,zP,zR,zS]at *;rw [udE];(repeat' split)<;>first|rfl|(exfalso;simp_all;done)|(exfalso;simp_all;omega)|(exfalso;omega));done)
    |skip
theorem us8 (tw tm:List Int)(tv:List (List Int)):ua0 Try.prog 75 [(.agg [(iS tw),(iS tm),(.sl 1 (.sym fun _=>zi (tv).length) (fun ix=>[(.sl 1 (.sym fun _=>zi ((tv).getD ix.den.toNat []).length) (fun jx=>[(iv fun _=>((tv).getD ix.den.toNat []).getD jx.den.toNat 0)]))]))])] [] (fun r _=>r=(iv fun _=>ubK tw tm tv)):=by
  have c101:= @uo4
  have c31:= @in31
  refine ua0.is fun R hR=>qW (sc:=sc75) tyok mix Try.func75 rfl Try.call75 (by kernel_rfl) (by kernel_rfl) ?_
  generalize Try.prog=P at c101 c31⊢
  cbv
  repeat' (first
      |with_reducible refine And.intro ?_ ?_
      |(with_reducible intro hcd;(try simp only [zA,zB,zC,zD,zE,zF,zG,zH,zI,zJ,zK,zL,zM,zN,zO,zP]at hcd);try cbv)
      | (refine qP ?_ (c101 _ _ (show Hold _ from ?_)) (by(repeat' (first|exact qB|refine qD ?_ ?_|exact qE (by rfl)|exact qF (by rfl)|exact Fit.refl _|exact qA|refine qC ?_ rfl ?_)))
         try cbv)
      |fail)
  all_goals first
    |((try simp only [qV]at *);(try simp only [zQ,zA,zB,zC,zD,zE,zF,zG,zH,zI,zJ,zK,zL,zM,zN,zO,zP,zR,zS]at *);first|(refine qN ?_;omega)|(simp only [Hold];omega))
    |(subst hR;(refine qE ?_;(try simp only [qV]at *);simp only [zQ,zA,zB,zC,zD,zE,zF,zG,zH,zI,zJ,zK,zL,zM,zN,zO,zP,zR,zS]at *;rw [udE];(repeat' split)<;>first|rfl|(exfalso;simp_all;done)|(exfalso;simp_all;omega)|(exfalso;omega));done)
    |skip
  refine⟨none,[],{i:Nat // i≤tv.length∧∀j,j<i→(tv.getD j []).length=tm.length∧∀k,k<tm.length→0≤(tv.getD j []).getD k 0∧(tv.getD j []).getD k 0≤2000},fun x=>⟨[(1,.own 0 0),(3,(iv fun _=>zi x.1))],[(0,.cells [(iS tw),(iS tm),(.sl 1 (.sym fun _=>zi (tv).length) (fun ix=>[(.sl 1 (.sym fun _=>zi ((tv).getD ix.den.toNat []).length) (fun jx=>[(iv fun _=>((tv).getD ix.den.toNat []).getD jx.den.toNat 0)]))]))] 25)],20⟩,fun x=>tv.length-x.1,?_,?_⟩
  · refine⟨⟨0,by omega,fun j hj=>by omega⟩,?_⟩
    cbv
    repeat' (first
      |with_reducible refine hold ?_ ?_
      |with_reducible refine And.intro ?_ ?_)
    all_goals first
      |trivial
      |exact qM (qE (by rfl))
      |exact qM (Fit.refl _)
      |exact qL (qK _)
      |skip
  · rintro ⟨i,hi,hr⟩
    cbv
    repeat' (first
        |with_reducible refine hold ?_ ?_
        |with_reducible refine And.intro ?_ ?_
        |(with_reducible intro hcd;(try simp only [zA,zB,zC,zD,zE,zF,zG,zH,zI,zJ,zK,zL,zM,zN,zO,zP]at hcd);try cbv)
        |fail)
    all_goals first
      |((try simp only [qV]at *);(try simp only [zQ,zA,zB,zC,zD,zE,zF,zG,zH,zI,zJ,zK,zL,zM,zN,zO,zP,zR,zS]at *);first|(refine qN ?_;omega)|(simp only [Hold];omega))
      |(subst hR;(refine qE ?_;(try simp only [qV]at *);simp only [zQ,zA,zB,zC,zD,zE,zF,zG,zH,zI,zJ,zK,zL,zM,zN,zO,zP,zR,zS]at *;rw [udE,if_neg (by omega),if_pos];right;right;right;right;right;rw [←Bool.not_eq_true,ud3];intro hall;have:=(hall i (by omega)).1;omega);done)
      |(subst hR;(refine qE ?_;(try simp only [qV]at *);simp only [zQ,zA,zB,zC,zD,zE,zF,zG,zH,zI,zJ,zK,zL,zM,zN,zO,zP,zR,zS]at *;rw [udE,if_neg (by omega),if_neg];have hro:ugo tm tv=true:=(ud3 _ _).2 (fun j hj=>hr j (by omega));simp_all;omega);done)
      |skip
    have hlen:(tv.getD i []).length=tm.length:=by((try simp only [qV]at *);simp only [zQ,zA,zB,zC,zD,zE,zF,zG,zH,zI,zJ,zK,zL,zM,zN,zO,zP,zR,zS]at *;omega)
    refine⟨none,[],{k:Nat // k≤tm.length∧∀j,j<k→0≤(tv.getD i []).getD j 0∧(tv.getD i []).getD j 0≤2000},fun x=>⟨[(1,.own 0 0),(3,(iv fun _=>zi i)),(4,(iv fun _=>zi x.1))],[(0,.cells [(iS tw),(iS tm),(.sl 1 (.sym fun _=>zi (tv).length) (fun ix=>[(.sl 1 (.sym fun _=>zi ((tv).getD ix.den.toNat []).length) (fun jx=>[(iv fun _=>((tv).getD ix.den.toNat []).getD jx.den.toNat 0)]))]))] 25)],20⟩,fun x=>tm.length-x.1,?_,?_⟩
    · refine⟨⟨0,by omega,fun j hj=>by omega⟩,?_⟩
      cbv
      repeat' (first
        |with_reducible refine hold ?_ ?_
        |with_reducible refine And.intro ?_ ?_)
      all_goals first
        |trivial
        |exact qM (qE (by rfl))
        |exact qM (Fit.refl _)
        |exact qL (qK _)
        |skip
    · rintro ⟨k,hk,hq⟩
      cbv
      repeat' (first
          |with_reducible refine hold ?_ ?_
          |with_reducible refine And.intro ?_ ?_
          |(with_reducible intro hcd;(try simp only [zA,zB,zC,zD,zE,zF,zG,zH,zI,zJ,zK,zL,zM,zN,zO,zP]at hcd);try cbv)
          | (refine qP ?_ (c31 _ _ _) (by(repeat' (first|exact qB|refine qD ?_ ?_|exact qE (by rfl)|exact qF (by rfl)|exact Fit.refl _|exact qA|refine qC ?_ rfl ?_)))
             try cbv)
          |fail)
      all_goals first
        |((try simp only [qV]at *);(try simp only [zQ,zA,zB,zC,zD,zE,zF,zG,zH,zI,zJ,zK,zL,zM,zN,zO,zP,zR,zS]at *);first|(refine qN ?_;omega)|(simp only [Hold];omega))
        |(subst hR;(refine qE ?_;(try simp only [qV]at *);simp only [zQ,zA,zB,zC,zD,zE,zF,zG,zH,zI,zJ,zK,zL,zM,zN,zO,zP,zR,zS]at *;rw [udE,if_neg (by omega),if_pos];right;right;right;right;right;rw [←Bool.not_eq_true,ud3];intro hall;have:=(hall i (by omega)).2 k (by omega);simp only [Bool.and_eq_false_iff]at hcd;rcases hcd with hcd|hcd<;>(have hz:=of_decide_eq_false hcd;omega));done)
        |((try simp only [zQ,zA,zB,zC,zD,zE,zF,zG,zH,zI,zJ,zK,zL,zM,zN,zO,zP,zR,zS]at *);refine⟨⟨k+1,by omega,fun j hj=>(Nat.lt_or_ge j k).elim (hq j) (fun q=>by rw [show j=k by omega];simp only [Bool.and_eq_true]at hcd;have hz:=of_decide_eq_true hcd.1;have hz2:=of_decide_eq_true hcd.2;omega)⟩,by simp only [];omega,?_⟩;cbv;(repeat' (first|with_reducible refine hold ?_ ?_|with_reducible refine And.intro ?_ ?_));(all_goals first|trivial|exact qM (qE (by rfl))|exact qM (qF (by rfl))|exact qM (Fit.refl _)|exact qL (qK _)|(refine qM (qE ?_);(try simp only [qV]at *);simp only [zQ,zA,zB,zC,zD,zE,zF,zG,zH,zI,zJ,zK,zL,zM,zN,zO,zP,zR,zS]at *;omega)|skip))
        |((try simp only [zQ,zA,zB,zC,zD,zE,zF,zG,zH,zI,zJ,zK,zL,zM,zN,zO,zP,zR,zS]at *);refine⟨⟨i+1,by omega,fun j hj=>(Nat.lt_or_ge j i).elim (hr j) (fun q=>by rw [show j=i by omega];exact⟨hlen,fun k2 hk2=>hq k2 (by omega)⟩)⟩,by simp only [];omega,?_⟩;cbv;(repeat' (first|with_reducible refine hold ?_ ?_|with_reducible refine And.intro ?_ ?_));(all_goals first|trivial|exact qM (qE (by rfl))|exact qM (qF (by rfl))|exact qM (Fit.refl _)|exact qL (qK _)|(refine qM (qE ?_);(try simp only [qV]at *);simp only [zQ,zA,zB,zC,zD,zE,zF,zG,zH,zI,zJ,zK,zL,zM,zN,zO,zP,zR,zS]at *;omega)|skip))
        |skip
end Go.Proofs.Ytkdggbfknlcdaaa

namespace Go.Proofs.Ytkdggbfknlcdaaa
theorem uuC {a b c d v00 v10 v01 v11 w m:Int}(h1:a≤w)(h2:w≤b)(h3:a<b)(h4:c≤m)(h5:m≤d)(h6:c<d)
    (v0:0≤v00∧v00≤2000) (v1:0≤v10∧v10≤2000) (v2:0≤v01∧v01≤2000) (v3:0≤v11∧v11≤2000):0≤upL a b c d v00 v10 v01 v11 w m∧upL a b c d v00 v10 v01 v11 w m≤2000:=by
  unfold upL
  rw [uuo]
  have p1:0≤(b-w)*(d-m):=Int.mul_nonneg (by omega) (by omega)
  have p2:0≤(w-a)*(d-m):=Int.mul_nonneg (by omega) (by omega)
  have p3:0≤(b-w)*(m-c):=Int.mul_nonneg (by omega) (by omega)
  have p4:0≤(w-a)*(m-c):=Int.mul_nonneg (by omega) (by omega)
  have e:(b-w)*(d-m)+(w-a)*(d-m)+(b-w)*(m-c)+(w-a)*(m-c)=(b-a)*(d-c):=by
    rw [←Int.add_mul,Int.add_assoc,←Int.add_mul]
    have e1:b-w+(w-a)=b-a:=by omega
    rw [e1,←Int.mul_add]
    congr 1;omega
  have q:0<(b-a)*(d-c):=Int.mul_pos (by omega) (by omega)
  have key:∀v p:Int,0≤v∧v≤2000→0≤p→0≤v*p∧v*p≤2000*p:=fun v p hv hp=>⟨Int.mul_nonneg hv.1 hp,Int.mul_le_mul_of_nonneg_right hv.2 hp⟩
  have k1:=key v00 _ v0 p1
  have k2:=key v10 _ v1 p2
  have k3:=key v01 _ v2 p3
  have k4:=key v11 _ v3 p4
  rw [Int.mul_assoc v00,Int.mul_assoc v10,Int.mul_assoc v01,Int.mul_assoc v11]
  generalize (b-w)*(d-m)=x1 at *
  generalize (w-a)*(d-m)=x2 at *
  generalize (b-w)*(m-c)=x3 at *
  generalize (w-a)*(m-c)=x4 at *
  rw [Int.mul_assoc 2 (b-a)]
  generalize (b-a)*(d-c)=y at *
  generalize v00*x1=y1 at *
  generalize v10*x2=y2 at *
  generalize v01*x3=y3 at *
  generalize v11*x4=y4 at *
  rw [Int.tdiv_eq_ediv_of_nonneg (by omega)]
  refine⟨Int.ediv_nonneg (by omega) (by omega),?_⟩
  have:2*(y1+y2+y3+y4)+y<(2000+1)*(2*y):=by omega
  have:=Int.ediv_lt_of_lt_mul (by omega) this
  omega
theorem urY {tw tm:List Int} {tv:List (List Int)} {w m:Int}(h:TOk tw tm tv)(hp:Pt tw tm w m):0≤atS tw tm tv w m∧atS tw tm tv w m≤2000:=by
  have hi:=ucx h.w2 hp.w0
  have hk:=ucx h.m2 hp.m0
  have l1:=hi.lt
  have l2:=hk.lt
  have e:=h.len
  have a2:=uj3 h.rw (i:=ubC tw w tw.length 0) (j:=ubC tw w tw.length 0+1) (by omega) (by omega)
  have a4:=uj3 h.rm (i:=ubC tm m tm.length 0) (j:=ubC tm m tm.length 0+1) (by omega) (by omega)
  exact uuC hi.lo (hi.le_hi hp.w1) a2 hk.lo (hk.le_hi hp.m1) a4 (h.val _ (by omega) _ (by omega)) (h.val _ (by omega) _ (by omega)) (h.val _ (by omega) _ (by omega)) (h.val _ (by omega) _ (by omega))
def vAt (tw tm:List Int)(tv:List (List Int))(wl ml:Int)(W n:Nat):Int:=atS tw tm tv (wl+((n%W:Nat):Int)) (ml+((n/W:Nat):Int))
def loN (v:Nat→Int):Nat→Int
  |0=>2000
  |n+1=>min (loN v n) (v n)
def hiN (v:Nat→Int):Nat→Int
  |0=>0
  |n+1=>max (hiN v n) (v n)
def wid (lo hi:Int):Nat:=(hi-lo+1).toNat
def bLo (tw tm:List Int)(tv:List (List Int))(wl wh ml mh:Int):Int:=loN (vAt tw tm tv wl ml (wid wl wh)) (wid ml mh*wid wl wh)
def bHi (tw tm:List Int)(tv:List (List Int))(wl wh ml mh:Int):Int:=hiN (vAt tw tm tv wl ml (wid wl wh)) (wid ml mh*wid wl wh)
theorem urs (v:Nat→Int):∀{n j:Nat},j<n→loN v n≤v j:=by
  intro n
  induction n with
  |zero=>intro j h;omega
  | succ n ih=>
    intro j h
    simp only [loN]
    by_cases e:j=n
    · subst e;omega
    · have:=ih (j:=j) (by omega);omega
theorem uv6 (v:Nat→Int):∀{n:Nat},loN v n=2000∨∃j,j<n∧loN v n=v j:=by
  intro n
  induction n with
  |zero=>exact .inl rfl
  | succ n ih=>
    simp only [loN]
    by_cases h:loN v n≤v n
    · rw [Int.min_eq_left h]
      rcases ih with q|⟨j,h1,h2⟩
      · exact .inl q
      · exact .inr ⟨j,by omega,h2⟩
    · rw [Int.min_eq_right (by omega)]
      exact .inr ⟨n,by omega,rfl⟩
theorem urv (v:Nat→Int):∀{n j:Nat},j<n→v j≤hiN v n:=by
  intro n
  induction n with
  |zero=>intro j h;omega
  | succ n ih=>
    intro j h
    simp only [hiN]
    by_cases e:j=n
    · subst e;omega
    · have:=ih (j:=j) (by omega);omega
theorem uuG (v:Nat→Int):∀{n:Nat},hiN v n=0∨∃j,j<n∧hiN v n=v j:=by
  intro n
  induction n with
  |zero=>exact .inl rfl
  | succ n ih=>
    simp only [hiN]
    by_cases h:v n≤hiN v n
    · rw [Int.max_eq_left h]
      rcases ih with q|⟨j,h1,h2⟩
      · exact .inl q
      · exact .inr ⟨j,by omega,h2⟩
    · rw [Int.max_eq_right (by omega)]
      exact .inr ⟨n,by omega,rfl⟩
structure Box (tw tm:List Int)(wl wh ml mh:Int):Prop where
  w:wl≤wh
  w0:tw.getD 0 0≤wl
  w1:wh≤tw.getD (tw.length-1) 0
  m:ml≤mh
  m0:tm.getD 0 0≤ml
  m1:mh≤tm.getD (tm.length-1) 0
theorem Box.pt {tw tm:List Int} {wl wh ml mh:Int}(h:Box tw tm wl wh ml mh) {w m:Int}(h1:wl≤w)(h2:w≤wh)(h3:ml≤m)(h4:m≤mh):Pt tw tm w m:=by
  have:=h.w0;have:=h.w1;have:=h.m0;have:=h.m1
  exact⟨by omega,by omega,by omega,by omega⟩
structure IsB (f:Int→Int→Int)(wl wh ml mh lo hi:Int):Prop where
  le:∀w m,wl≤w→w≤wh→ml≤m→m≤mh→lo≤f w m∧f w m≤hi
  lo:∃w m,wl≤w∧w≤wh∧ml≤m∧m≤mh∧lo=f w m
  hi:∃w m,wl≤w∧w≤wh∧ml≤m∧m≤mh∧hi=f w m
theorem urq {lo hi n:Int}(h:lo≤n)(h':n≤hi):(n-lo).toNat<wid lo hi:=by unfold wid;omega
theorem us6 {tw tm:List Int} {tv:List (List Int)} {wl wh ml mh:Int}(h:TOk tw tm tv)(hb:Box tw tm wl wh ml mh):IsB (atS tw tm tv) wl wh ml mh (bLo tw tm tv wl wh ml mh) (bHi tw tm tv wl wh ml mh):=by
  have hw:=hb.w
  have hm:=hb.m
  have hW:0<wid wl wh:=by unfold wid;omega
  have hM:0<wid ml mh:=by unfold wid;omega
  have hpt:∀n,n<wid ml mh*wid wl wh→wl≤wl+((n%wid wl wh:Nat):Int)∧wl+((n%wid wl wh:Nat):Int)≤wh∧ml≤ml+((n/wid wl wh:Nat):Int)∧ml+((n/wid wl wh:Nat):Int)≤mh:=fun n hn=>by
    have h1:=Nat.mod_lt n hW
    have h2:n/wid wl wh<wid ml mh:=Nat.div_lt_of_lt_mul (by rw [Nat.mul_comm];exact hn)
    generalize n%wid wl wh=x at *
    generalize n/wid wl wh=y at *
    unfold wid at h1 h2
    omega
  have hv:∀n,n<wid ml mh*wid wl wh→0≤vAt tw tm tv wl ml (wid wl wh) n∧vAt tw tm tv wl ml (wid wl wh) n≤2000:=fun n hn=>by
    have q:=hpt n hn
    exact urY h (hb.pt q.1 q.2.1 q.2.2.1 q.2.2.2)
  have h0:0<wid ml mh*wid wl wh:=Nat.mul_pos hM hW
  refine⟨fun w m a1 a2 a3 a4=> ?_,?_,?_⟩
  · have b1:=urq a1 a2
    have b2:=urq a3 a4
    have hn:(m-ml).toNat*wid wl wh+(w-wl).toNat<wid ml mh*wid wl wh:=by
      have:((m-ml).toNat+1)*wid wl wh≤wid ml mh*wid wl wh:=Nat.mul_le_mul_right _ b2
      rw [Nat.add_mul,Nat.one_mul]at this
      omega
    have e:vAt tw tm tv wl ml (wid wl wh) ((m-ml).toNat*wid wl wh+(w-wl).toNat)=atS tw tm tv w m:=by
      unfold vAt
      rw [Nat.mul_comm,Nat.mul_add_mod,Nat.mod_eq_of_lt b1,Nat.mul_add_div hW,Nat.div_eq_of_lt b1]
      congr 1<;>omega
    rw [←e]
    exact⟨urs _ hn,urv _ hn⟩
  · rcases uv6 (vAt tw tm tv wl ml (wid wl wh)) (n:=wid ml mh*wid wl wh)with q|⟨j,q1,q2⟩
    · have q3:=urs (vAt tw tm tv wl ml (wid wl wh)) h0
      have q4:=hv 0 h0
      have q5:=hpt 0 h0
      exact⟨_,_,q5.1,q5.2.1,q5.2.2.1,q5.2.2.2,show bLo tw tm tv wl wh ml mh=vAt tw tm tv wl ml (wid wl wh) 0 by unfold bLo;omega⟩
    · have q5:=hpt j q1
      exact⟨_,_,q5.1,q5.2.1,q5.2.2.1,q5.2.2.2,q2⟩
  · rcases uuG (vAt tw tm tv wl ml (wid wl wh)) (n:=wid ml mh*wid wl wh)with q|⟨j,q1,q2⟩
    · have q3:=urv (vAt tw tm tv wl ml (wid wl wh)) h0
      have q4:=hv 0 h0
      have q5:=hpt 0 h0
      exact⟨_,_,q5.1,q5.2.1,q5.2.2.1,q5.2.2.2,show bHi tw tm tv wl wh ml mh=vAt tw tm tv wl ml (wid wl wh) 0 by unfold bHi;omega⟩
    · have q5:=hpt j q1
      exact⟨_,_,q5.1,q5.2.1,q5.2.2.1,q5.2.2.2,q2⟩
end Go.Proofs.Ytkdggbfknlcdaaa

namespace Go.Proofs.Ytkdggbfknlcdaaa
open Go Go.Eng Go.Proofs
set_option maxRecDepth 10000
theorem uo0 {n L:Nat}(h:Hold (n=L)):∀_:Unit,n=L:=fun _=>h
theorem udW {f g:Unit→Nat}(h:f ()=g ()):Hold (GEq (.atg f) (.atg g)):=h
theorem uhj {l L:Nat} {a b:SV} {n:Nat}(h:n<L)(hf:Fit a b):Hold (l=l∧n<L∧Le a b):=⟨rfl,h,hf.le⟩
theorem ujG (tw tm:List Int)(tv:List (List Int))(wl wh ml mh:Int)(h:TOk tw tm tv∧Box tw tm wl wh ml mh):ukT Try.prog 117 [.pp 0 [(iv fun _=>ml),(iv fun _=>mh)],.pp 0 [(iv fun _=>wl),(iv fun _=>wh)],.pp 0 [(iS tw),(iS tm),(.sl 1 (.sym fun _=>zi (tv).length) (fun ix=>[(.sl 1 (.sym fun _=>zi ((tv).getD ix.den.toNat []).length) (fun jx=>[(iv fun _=>((tv).getD ix.den.toNat []).getD jx.den.toNat 0)]))]))]] (wid ml mh*wid wl wh) (fun n=>[(iv fun _=>ml+zi (n/wid wl wh)),(iv fun _=>vAt tw tm tv wl ml (wid wl wh) n)]):=by
  have ca:=uvu tw tm tv
  obtain⟨hT,hB⟩:=h
  have b1:=hB.w0;have b2:=hB.w1;have b3:=hB.m0;have b4:=hB.m1;have b5:=hB.w;have b6:=hB.m
  have d1:=hT.w2;have d2:=hT.m2
  have e1:=uaI hT.rw 0 (by omega)
  have e2:=uaI hT.rm 0 (by omega)
  have e3:=uaI hT.rw (tw.length-1) (by omega)
  have e4:=uaI hT.rm (tm.length-1) (by omega)
  simp only [ubs]at e1 e2 e3 e4
  have hpt:∀a b:Nat,zi b≤wh-wl→zi a≤mh-ml→Pt tw tm (wl+zi b) (ml+zi a):=fun a b p q=>by
    simp only [uax]at *
    exact hB.pt (by omega) (by omega) (by omega) (by omega)
  obtain⟨W,hW⟩:∃W,W=wid wl wh:=⟨_,rfl⟩
  obtain⟨M,hM⟩:∃M,M=wid ml mh:=⟨_,rfl⟩
  obtain⟨L,hL⟩:∃L,L=M*W:=⟨_,rfl⟩
  have hWz:zi W=wh-wl+1:=by rw [hW];simp only [wid,uax];omega
  have hMz:zi M=mh-ml+1:=by rw [hM];simp only [wid,uax];omega
  obtain⟨el,hel⟩:∃el:Nat→List SV,el=(fun n:Nat=>[(iv fun _=>ml+zi (n/W)),(iv fun _=>vAt tw tm tv wl ml W n)]):=⟨_,rfl⟩
  have help:∀a b:Nat,b<W→el (a*W+b)=[(iv fun _=>ml+zi a),(iv fun _=>atS tw tm tv (wl+zi b) (ml+zi a))]:=fun a b hb=>by
    rw [hel]
    simp only [vAt]
    rw [Nat.mul_comm,Nat.mul_add_div (by omega),Nat.mul_add_mod,Nat.div_eq_of_lt hb,Nat.mod_eq_of_lt hb,Nat.add_zero]
    rfl
  have hlt:∀a b:Nat,a<M→b<W→a*W+b<L:=fun a b ha hb=>by
    have:=Nat.mul_le_mul_right W (show a+1≤M by omega)
    rw [Nat.add_mul,Nat.one_mul]at this
    omega
  have hpl:∀i,ubb (.tup (el i))=true:=fun i=>by rw [hel];rfl
  rw [←hW,←hM,←hL,←hel]
  clear hel hW hM
  refine ugq (sc:=uvD) tyok mix Try.func117 rfl Try.call117 (by kernel_rfl) (by kernel_rfl) fun l=> ?_
  generalize Try.prog=P at ca⊢
  refine⟨rfl,rfl,hpl,?_⟩
  cbv
  refine⟨none,[],{a:Nat // a≤M},fun x=>.atg fun _=>x.1*W,fun x=>⟨[(0,.val (Value.func (Fn.yield l) ⟨[]⟩ ⟨[]⟩)),(1,.pp 0 [(iv fun _=>ml),(iv fun _=>mh)]),(2,.pp 0 [(iv fun _=>wl),(iv fun _=>wh)]),(3,.pp 0 [(iS tw),(iS tm),(.sl 1 (.sym fun _=>zi (tv).length) (fun ix=>[(.sl 1 (.sym fun _=>zi ((tv).getD ix.den.toNat []).length) (fun jx=>[(iv fun _=>((tv).getD ix.den.toNat []).getD jx.den.toNat 0)]))]))]),(5,(iv fun _=>ml+zi x.1))],[],3⟩,fun x=>M-x.1,?_,?_⟩
  · refine⟨⟨0,by omega⟩,?_⟩
    cbv
    repeat' (first
      |with_reducible refine hold ?_ ?_
      |with_reducible refine And.intro ?_ ?_)
    all_goals first
      |trivial
      |exact qM (Fit.refl _)
      |(refine qM (qE ?_);(try simp only [qV]at *);simp only [zQ,zA,zB,zC,zD,zE,zF,zG,zH,zI,zJ,zK,zL,zM,zN,zO,zP,zR,zS]at *;omega)
      |(refine udW ?_;simp only [];omega)
      |skip
  · rintro ⟨a,ha⟩
    cbv
    repeat' (first
        |with_reducible refine uo0 ?_
        |with_reducible refine And.intro ?_ ?_
        |(with_reducible intro hcd;(try simp only [zA,zB,zC,zD,zE,zF,zG,zH,zI,zJ,zK,zL,zM,zN,zO,zP]at hcd);try cbv)
        |fail)
    all_goals first
      |(show a*W=L;(try simp only [qV]at *);simp only [uax]at *;rw [hL];congr 1;omega)
      |skip
    refine⟨none,[],{b:Nat // b≤W},fun x=>.atg fun _=>a*W+x.1,fun x=>⟨[(0,.val (Value.func (Fn.yield l) ⟨[]⟩ ⟨[]⟩)),(1,.pp 0 [(iv fun _=>ml),(iv fun _=>mh)]),(2,.pp 0 [(iv fun _=>wl),(iv fun _=>wh)]),(3,.pp 0 [(iS tw),(iS tm),(.sl 1 (.sym fun _=>zi (tv).length) (fun ix=>[(.sl 1 (.sym fun _=>zi ((tv).getD ix.den.toNat []).length) (fun jx=>[(iv fun _=>((tv).getD ix.den.toNat []).getD jx.den.toNat 0)]))]))]),(5,(iv fun _=>ml+zi a)),(6,(iv fun _=>wl+zi x.1))],[],3⟩,fun x=>W-x.1,?_,?_⟩
    · refine⟨⟨0,by omega⟩,?_⟩
      cbv
      repeat' (first
        |with_reducible refine hold ?_ ?_
        |with_reducible refine And.intro ?_ ?_)
      all_goals first
        |trivial
        |exact qM (qE (by rfl))
        |exact qM (Fit.refl _)
        |(refine qM (qE ?_);(try simp only [qV]at *);simp only [zQ,zA,zB,zC,zD,zE,zF,zG,zH,zI,zJ,zK,zL,zM,zN,zO,zP,zR,zS]at *;omega)
        |skip
    · rintro ⟨b,hb⟩
      cbv
      repeat' (first
          |with_reducible refine hold ?_ ?_
          |with_reducible refine And.intro ?_ ?_
          |(with_reducible intro hcd;(try simp only [zA,zB,zC,zD,zE,zF,zG,zH,zI,zJ,zK,zL,zM,zN,zO,zP]at hcd);try cbv)
          | (refine qP ?_ (ca _ _ (show Hold _ from ?_)) (by(repeat' (first|exact qB|refine qD ?_ ?_|exact qE (by rfl)|exact qF (by rfl)|exact Fit.refl _|exact qA|refine qC ?_ rfl ?_)))
             try cbv)
          |fail)
      all_goals first
        |trivial
        |((try simp only [qV]at *);(try simp only [zQ,zA,zB,zC,zD,zE,zF,zG,zH,zI,zJ,zK,zL,zM,zN,zO,zP,zR,zS]at *);first|(refine qN ?_;omega)|(simp only [Hold];omega))
        |(simp only [Hold];exact⟨hT,hpt _ _ (by omega) (by omega)⟩)
        |(refine uhj (hlt a b (by simp only [uax]at *;omega) (by simp only [uax]at *;omega)) ?_;rw [help a b (by simp only [uax]at *;omega)];(repeat' (first|exact qA|exact qB|refine qC ?_ rfl ?_|refine qD ?_ ?_|exact qE (by rfl)|exact qF (by rfl)|exact Fit.refl _|exact qG _|(refine qE ?_;(try simp only [qV]at *);simp only [zQ,zA,zB,zC,zD,zE,zF,zG,zH,zI,zJ,zK,zL,zM,zN,zO,zP,zR,zS]at *;omega)));done)
        |((try simp only [zQ,zA,zB,zC,zD,zE,zF,zG,zH,zI,zJ,zK,zL,zM,zN,zO,zP,zR,zS]at *);refine⟨⟨b+1,by omega⟩,by simp only [];omega,?_⟩;cbv;(repeat' (first|with_reducible refine hold ?_ ?_|with_reducible refine And.intro ?_ ?_));(all_goals first|trivial|exact qM (qE (by rfl))|exact qM (qF (by rfl))|exact qM (Fit.refl _)|exact qL (qK _)|(refine qM (qE ?_);(try simp only [qV]at *);simp only [zQ,zA,zB,zC,zD,zE,zF,zG,zH,zI,zJ,zK,zL,zM,zN,zO,zP,zR,zS]at *;omega)|(refine udW ?_;simp only [];omega)|skip))
        |((try simp only [zQ,zA,zB,zC,zD,zE,zF,zG,zH,zI,zJ,zK,zL,zM,zN,zO,zP,zR,zS]at *);have hbW:b=W:=(by omega);refine⟨⟨a+1,by omega⟩,by simp only [];omega,?_⟩;cbv;(repeat' (first|with_reducible refine hold ?_ ?_|with_reducible refine And.intro ?_ ?_));(all_goals first|trivial|exact qM (qE (by rfl))|exact qM (qF (by rfl))|exact qM (Fit.refl _)|exact qL (qK _)|(refine qM (qE ?_);(try simp only [qV]at *);simp only [zQ,zA,zB,zC,zD,zE,zF,zG,zH,zI,zJ,zK,zL,zM,zN,zO,zP,zR,zS]at *;omega)|(refine udW ?_;simp only [Nat.add_mul,Nat.one_mul];omega)|skip))
        |skip
end Go.Proofs.Ytkdggbfknlcdaaa

namespace Go.Proofs.Ytkdggbfknlcdaaa
open Go Go.Eng Go.Proofs
set_option maxRecDepth 10000
theorem ujb (tw tm:List Int)(tv:List (List Int))(wl wh ml mh:Int):ua0 Try.prog 103 [(.agg [(iS tw),(iS tm),(.sl 1 (.sym fun _=>zi (tv).length) (fun ix=>[(.sl 1 (.sym fun _=>zi ((tv).getD ix.den.toNat []).length) (fun jx=>[(iv fun _=>((tv).getD ix.den.toNat []).getD jx.den.toNat 0)]))]))]),(.agg [(iv fun _=>wl),(iv fun _=>wh)]),(.agg [(iv fun _=>ml),(iv fun _=>mh)])] [] (fun r _=>r = .clo 117 [] [.pp 0 [(iv fun _=>ml),(iv fun _=>mh)],.pp 0 [(iv fun _=>wl),(iv fun _=>wh)],.pp 0 [(iS tw),(iS tm),(.sl 1 (.sym fun _=>zi (tv).length) (fun ix=>[(.sl 1 (.sym fun _=>zi ((tv).getD ix.den.toNat []).length) (fun jx=>[(iv fun _=>((tv).getD ix.den.toNat []).getD jx.den.toNat 0)]))]))]]):=by
  refine ua0.is fun R hR=>qW (sc:=uw3) tyok mix Try.func103 rfl Try.call103 (by kernel_rfl) (by kernel_rfl) ?_
  generalize Try.prog=P
  cbv
  repeat' (first
      |fail)
  all_goals first
    |(subst hR;(repeat' (first|exact qA|exact qB|refine qC ?_ rfl ?_|refine qD ?_ ?_|exact qE (by rfl)|exact qF (by rfl)|exact Fit.refl _|exact qG _|(refine qE ?_;(try simp only [qV]at *);simp only [zQ,zA,zB,zC,zD,zE,zF,zG,zH,zI,zJ,zK,zL,zM,zN,zO,zP,zR,zS]at *;omega)));done)
    |skip
theorem unj (tw tm:List Int)(tv:List (List Int))(wl wh ml mh:Int)(h:TOk tw tm tv∧Box tw tm wl wh ml mh):ua0 Try.prog 73 [(.agg [(iS tw),(iS tm),(.sl 1 (.sym fun _=>zi (tv).length) (fun ix=>[(.sl 1 (.sym fun _=>zi ((tv).getD ix.den.toNat []).length) (fun jx=>[(iv fun _=>((tv).getD ix.den.toNat []).getD jx.den.toNat 0)]))]))]),(.agg [(iv fun _=>wl),(iv fun _=>wh)]),(.agg [(iv fun _=>ml),(iv fun _=>mh)])] [] (fun r _=>r=(.tup [(.agg [(iv fun _=>bLo tw tm tv wl wh ml mh),(iv fun _=>bHi tw tm tv wl wh ml mh)]),(iv fun _=>0)])):=by
  have c79:= @unt
  have c117:= @urZ
  have c118:= @upQ
  have c119:= @ujb
  have c120:= @umj
  obtain⟨hT,hB⟩:=h
  have hf:=uj2 hT
  have b1:=hB.w0;have b2:=hB.w1;have b3:=hB.m0;have b4:=hB.m1;have b5:=hB.w;have b6:=hB.m
  have d1:=hT.w2;have d2:=hT.m2;have d3:=hT.w5;have d4:=hT.m5
  obtain⟨W,hW⟩:∃W,W=wid wl wh:=⟨_,rfl⟩
  obtain⟨L,hL⟩:∃L,L=wid ml mh*W:=⟨_,rfl⟩
  obtain⟨v,hv⟩:∃v,v=vAt tw tm tv wl ml W:=⟨_,rfl⟩
  obtain⟨el,hel⟩:∃el:Nat→List SV,el=(fun n:Nat=>[(iv fun _=>ml+zi (n/W)),(iv fun _=>v n)]):=⟨_,rfl⟩
  have cI:ukT Try.prog 117 [.pp 0 [(iv fun _=>ml),(iv fun _=>mh)],.pp 0 [(iv fun _=>wl),(iv fun _=>wh)],.pp 0 [(iS tw),(iS tm),(.sl 1 (.sym fun _=>zi (tv).length) (fun ix=>[(.sl 1 (.sym fun _=>zi ((tv).getD ix.den.toNat []).length) (fun jx=>[(iv fun _=>((tv).getD ix.den.toNat []).getD jx.den.toNat 0)]))]))]] L el:=by rw [hel,hv,hL,hW];exact ujG tw tm tv wl wh ml mh ⟨hT,hB⟩
  have elen:∀i,(el i).length=2∧SV.idsL (el i)=[]:=fun i=>by rw [hel];exact⟨rfl,rfl⟩
  have ei:∀i,el i=[(iv fun _=>ml+zi (i/W)),(iv fun _=>v i)]:=fun i=>by rw [hel]
  have hlo:bLo tw tm tv wl wh ml mh=loN v L:=by rw [hv,hL,hW];rfl
  have hhi:bHi tw tm tv wl wh ml mh=hiN v L:=by rw [hv,hL,hW];rfl
  rw [hlo,hhi]
  clear hel hv hL hlo hhi hW
  refine ua0.is fun R hR=>qW (sc:=sc73) tyok mix Try.func73 rfl Try.call73 (by kernel_rfl) (by kernel_rfl) ?_
  generalize Try.prog=P at c79 c117 c118 c119 c120 cI⊢
  cbv
  repeat' (first
      |with_reducible refine And.intro ?_ ?_
      |(with_reducible intro hcd;(try simp only [zA,zB,zC,zD,zE,zF,zG,zH,zI,zJ,zK,zL,zM,zN,zO,zP,hf]at hcd);try cbv)
      | (refine qP ?_ (c79 _ _ _) (by(repeat' (first|exact qB|refine qD ?_ ?_|exact qE (by rfl)|exact qF (by rfl)|exact Fit.refl _|exact qA|refine qC ?_ rfl ?_)))
         try cbv)
      | (refine qP ?_ (c117 _ (show Hold _ from ?_)) (by(repeat' (first|exact qB|refine qD ?_ ?_|exact qE (by rfl)|exact qF (by rfl)|exact Fit.refl _|exact qA|refine qC ?_ rfl ?_)))
         try cbv)
      | (refine qP ?_ (c118 _ _ _ _) (by(repeat' (first|exact qB|refine qD ?_ ?_|exact qE (by rfl)|exact qF (by rfl)|exact Fit.refl _|exact qA|refine qC ?_ rfl ?_)))
         try cbv)
      | (refine qP ?_ (c119 _ _ _ _ _ _ _) (by(repeat' (first|exact qB|refine qD ?_ ?_|exact qE (by rfl)|exact qF (by rfl)|exact Fit.refl _|exact qA|refine qC ?_ rfl ?_)))
         try cbv)
      |fail)
  all_goals first
    |trivial
    |((try simp only [qV]at *);(try simp only [zQ,zA,zB,zC,zD,zE,zF,zG,zH,zI,zJ,zK,zL,zM,zN,zO,zP,zR,zS]at *);first|(refine qN ?_;omega)|(simp only [Hold];omega))
    |(exfalso;simp_all;omega)
    |skip
  refine⟨[],L,el,fun _=>Unit,fun i _=>([(0,.cells [(iS tw),(iS tm),(.sl 1 (.sym fun _=>zi (tv).length) (fun ix=>[(.sl 1 (.sym fun _=>zi ((tv).getD ix.den.toNat []).length) (fun jx=>[(iv fun _=>((tv).getD ix.den.toNat []).getD jx.den.toNat 0)]))]))] 37),(1,.cells [(iv fun _=>wl),(iv fun _=>wh)] 125),(2,.cells [(iv fun _=>ml),(iv fun _=>mh)] 125),(3,.cells [.int .i64 (.lit 0),.int .i64 (.lit 0)] 125),(25,.cells [(iv fun _=>loN v i),(iv fun _=>hiN v i)] 125)],40),?_⟩
  cbv
  refine⟨fun _=>⟨cI,elen⟩,⟨(),?_⟩,?_,?_⟩
  · cbv
    repeat' (first
      |with_reducible refine hold ?_ ?_
      |with_reducible refine And.intro ?_ ?_)
    all_goals first
      |trivial
      |exact qL (qK _)
      |(refine qL (qJ ?_);refine qC (qE ?_) rfl (qC (qE ?_) rfl qA)<;>first|rfl|((try simp only [qV]at *);simp only [zQ,zA,zB,zC,zD,zE,zF,zG,zH,zI,zJ,zK,zL,zM,zN,zO,zP,zR,zS,loN,hiN,ubl,ubm];omega))
      |skip
  · intro i _ hil
    simp only [ei]
    cbv
    repeat' (first
        | ((first|(refine qR ?_ (c120 _ _) rfl (by cbv;(repeat' (first|exact qB|refine qD ?_ ?_|exact qE (by rfl)|exact qF (by rfl)|exact Fit.refl _|exact qA|refine qC ?_ rfl ?_))))|(refine⟨none,?_⟩;refine qR ?_ (c120 _ _) rfl (by cbv;(repeat' (first|exact qB|refine qD ?_ ?_|exact qE (by rfl)|exact qF (by rfl)|exact Fit.refl _|exact qA|refine qC ?_ rfl ?_)))))
           try cbv)
        |fail)
    all_goals first
      |(refine⟨(),?_⟩;cbv;(repeat' (first|with_reducible refine hold ?_ ?_|with_reducible refine And.intro ?_ ?_));(all_goals first|trivial|exact qM (qE (by rfl))|exact qM (qF (by rfl))|exact qM (Fit.refl _)|exact qL (qK _)|(refine qM (qE ?_);(try simp only [qV]at *);simp only [zQ,zA,zB,zC,zD,zE,zF,zG,zH,zI,zJ,zK,zL,zM,zN,zO,zP,zR,zS]at *;omega)|(refine qL (qJ ?_);refine qC (qE ?_) rfl (qC (qE ?_) rfl qA)<;>first|rfl|((try simp only [qV]at *);simp only [zQ,zA,zB,zC,zD,zE,zF,zG,zH,zI,zJ,zK,zL,zM,zN,zO,zP,zR,zS,loN,hiN,ubl,ubm];omega))|skip))
      |skip
    trace_state
  · intro _
    cbv
    repeat' (first
        |fail)
    all_goals first
      |(subst hR;(repeat' (first|exact qA|exact qB|refine qC ?_ rfl ?_|refine qD ?_ ?_|exact qE (by rfl)|exact qF (by rfl)|exact Fit.refl _|exact qG _|(refine qE ?_;(try simp only [qV]at *);simp only [zQ,zA,zB,zC,zD,zE,zF,zG,zH,zI,zJ,zK,zL,zM,zN,zO,zP,zR,zS]at *;omega)));done)
      |skip
end Go.Proofs.Ytkdggbfknlcdaaa

namespace Go.Proofs.Ytkdggbfknlcdaaa
structure Csk where
  g:Int
  wl:Int
  wh:Int
  ml:Int
  mh:Int
def ck0 :Csk:=⟨0,0,0,0,0⟩
structure SOk (tw tm:List Int)(tv:List (List Int))(rate:Int)(cs:List Csk):Prop where
  t:TOk tw tm tv
  few:cs.length≤6
  rate:0≤rate∧rate≤200
  gal:∀i,i<cs.length→1≤(cs.getD i ck0).g∧(cs.getD i ck0).g≤99
  box:∀i,i<cs.length→Box tw tm (cs.getD i ck0).wl (cs.getD i ck0).wh (cs.getD i ck0).ml (cs.getD i ck0).mh
end Go.Proofs.Ytkdggbfknlcdaaa

namespace Go.Proofs.Ytkdggbfknlcdaaa
def ukX (tv:List (List Int)):Bool:=decide (∀i,i<tv.length→(tv.getD i []).length≤8)
def ukG (tw tm:List Int)(tv:List (List Int)):Bool:=decide (tw.length≤8)&&decide (tm.length≤8)&&decide (tv.length≤8)&&ukX tv
structure ThinT (tw tm:List Int)(tv:List (List Int)):Prop where
  w:tw.length≤8
  m:tm.length≤8
  v:tv.length≤8
  r:∀i,i<tv.length→(tv.getD i []).length≤8
theorem ueJ {tw tm:List Int} {tv:List (List Int)}:ukG tw tm tv=true↔ThinT tw tm tv:=by
  simp only [ukG,ukX,Bool.and_eq_true,decide_eq_true_eq]
  exact⟨fun h=>⟨h.1.1.1,h.1.1.2,h.1.2,h.2⟩,fun h=>⟨⟨⟨h.w,h.m⟩,h.v⟩,h.r⟩⟩
end Go.Proofs.Ytkdggbfknlcdaaa

namespace Go.Proofs.Ytkdggbfknlcdaaa
open Go Go.Eng Go.Proofs
set_option maxRecDepth 10000
theorem uva (tw tm:List Int)(tv:List (List Int)):ua0 Try.prog 42 [(.agg [(iS tw),(iS tm),(.sl 1 (.sym fun _=>zi (tv).length) (fun ix=>[(.sl 1 (.sym fun _=>zi ((tv).getD ix.den.toNat []).length) (fun jx=>[(iv fun _=>((tv).getD ix.den.toNat []).getD jx.den.toNat 0)]))]))])] [] (fun r _=>r=(.bool (.sym fun _=>ukG tw tm tv))):=by
  refine ua0.is fun R hR=>qW (sc:=sc42) tyok mix Try.func42 rfl Try.call42 (by kernel_rfl) (by kernel_rfl) ?_
  generalize Try.prog=P
  cbv
  repeat' (first
      |with_reducible refine And.intro ?_ ?_
      |(with_reducible intro hcd;(try simp only [zA,zB,zC,zD,zE,zF,zG,zH,zI,zJ,zK,zL,zM,zN,zO,zP]at hcd);try cbv)
      |fail)
  all_goals first
    |(subst hR;(refine qF ?_;simp only [ubh,ubf];symm;rw [←Bool.not_eq_true];intro hth0;have hth:=ueJ.1 hth0;have q1:=hth.w;have q2:=hth.m;have q3:=hth.v;(try simp only [qV]at *);(try simp only [zQ,zA,zB,zC,zD,zE,zF,zG,zH,zI,zJ,zK,zL,zM,zN,zO,zP,zR,zS]at *);omega);done)
    |skip
  have hl:tw.length≤8∧tm.length≤8∧tv.length≤8:=by((try simp only [qV]at *);(try simp only [zQ,zA,zB,zC,zD,zE,zF,zG,zH,zI,zJ,zK,zL,zM,zN,zO,zP,zR,zS]at *);omega)
  refine⟨none,[],{i:Nat // i≤tv.length∧∀j,j<i→(tv.getD j []).length≤8},fun x=>⟨[(1,.own 0 0),(3,(iv fun _=>zi x.1))],[(0,.cells [(iS tw),(iS tm),(.sl 1 (.sym fun _=>zi (tv).length) (fun ix=>[(.sl 1 (.sym fun _=>zi ((tv).getD ix.den.toNat []).length) (fun jx=>[(iv fun _=>((tv).getD ix.den.toNat []).getD jx.den.toNat 0)]))]))] 25)],30⟩,fun x=>tv.length-x.1,?_,?_⟩
  · refine⟨⟨0,by omega,fun j hj=>by omega⟩,?_⟩
    cbv
    repeat' (first
      |with_reducible refine hold ?_ ?_
      |with_reducible refine And.intro ?_ ?_)
    all_goals first
      |trivial
      |exact qM (qE (by rfl))
      |exact qM (Fit.refl _)
      |exact qL (qK _)
      |skip
  · rintro⟨i,hi,hr⟩
    cbv
    repeat' (first
        |with_reducible refine hold ?_ ?_
        |with_reducible refine And.intro ?_ ?_
        |(with_reducible intro hcd;(try simp only [zA,zB,zC,zD,zE,zF,zG,zH,zI,zJ,zK,zL,zM,zN,zO,zP]at hcd);try cbv)
        |fail)
    all_goals (try have hlt:i<tv.length:=(by(try simp only [qV]at *);(try simp only [zQ,zA,zB,zC,zD,zE,zF,zG,zH,zI,zJ,zK,zL,zM,zN,zO,zP,zR,zS]at *);omega))
    all_goals first
      |((try simp only [qV]at *);(try simp only [zQ,zA,zB,zC,zD,zE,zF,zG,zH,zI,zJ,zK,zL,zM,zN,zO,zP,zR,zS]at *);first|(refine qN ?_;omega)|(simp only [Hold];omega))
      |(subst hR;(refine qF ?_;simp only [ubh,ubf];symm;rw [←Bool.not_eq_true];intro hth0;have hth:=(ueJ.1 hth0).r i hlt;(try simp only [qV]at *);(try simp only [zQ,zA,zB,zC,zD,zE,zF,zG,zH,zI,zJ,zK,zL,zM,zN,zO,zP,zR,zS]at *);omega);done)
      |(subst hR;(refine qF ?_;simp only [ubh,ubf];symm;exact ueJ.2 ⟨hl.1,hl.2.1,hl.2.2,fun j hj=>hr j (by(try simp only [qV]at *);(try simp only [zQ,zA,zB,zC,zD,zE,zF,zG,zH,zI,zJ,zK,zL,zM,zN,zO,zP,zR,zS]at *);omega)⟩);done)
      |((try simp only [zQ,zA,zB,zC,zD,zE,zF,zG,zH,zI,zJ,zK,zL,zM,zN,zO,zP,zR,zS]at *);refine⟨⟨i+1,by omega,fun j hj=>(Nat.lt_or_ge j i).elim (hr j) (fun q=>by rw [show j=i by omega];(try simp only [qV]at *);(try simp only [zQ,zA,zB,zC,zD,zE,zF,zG,zH,zI,zJ,zK,zL,zM,zN,zO,zP,zR,zS]at *);omega)⟩,by simp only [];omega,?_⟩;cbv;(repeat' (first|with_reducible refine hold ?_ ?_|with_reducible refine And.intro ?_ ?_));(all_goals first|trivial|exact qM (qE (by rfl))|exact qM (qF (by rfl))|exact qM (Fit.refl _)|exact qL (qK _)|(refine qM (qE ?_);(try simp only [qV]at *);simp only [zQ,zA,zB,zC,zD,zE,zF,zG,zH,zI,zJ,zK,zL,zM,zN,zO,zP,zR,zS]at *;omega)|skip))
      |skip
end Go.Proofs.Ytkdggbfknlcdaaa

namespace Go.Proofs.Ytkdggbfknlcdaaa
open Go.Eng.Dif
theorem udk {tw tm:List Int} {tv:List (List Int)}(h:ubK tw tm tv=0):TOk tw tm tv:=by
  unfold ubK at h
  split at h
  · omega
  · rename_i h1
    split at h
    · omega
    · rename_i h2
      split at h
      · rename_i h3
        refine⟨by omega,by omega,by omega,by omega,?_,?_,by omega,fun i hi=>(h3 i hi).1,fun i hi=>(h3 i hi).2⟩
        · cases hr:ucL tw 40 with
          |true=>rfl
          |false=>exact absurd (.inr (.inr (.inl hr))) h2
        · cases hr:ucL tm 60 with
          |true=>rfl
          |false=>exact absurd (.inr (.inr (.inr (.inl hr)))) h2
      · omega
def allB (p:Nat→Bool)(n:Nat):Bool:= !(decide (0≤fidx p n 0))
theorem ual (p:Nat→Bool)(n:Nat):(allB p n=true)=∀i,i<n→p i=true:=by rw [allB,ug8];exact decide_eq_true_eq
theorem uan (p:Nat→Bool)(n:Nat):(allB p n=false)=¬∀i,i<n→p i=true:=by rw [allB,ug8];simp only [decide_eq_false_iff_not]
def inB (lo n hi:Int):Bool:=decide (lo≤n∧n≤hi)
def ofB (lo a b hi:Int):Bool:=decide (lo≤a∧a≤b∧b≤hi)
theorem uaS (lo n hi:Int):(inB lo n hi=true)=(lo≤n∧n≤hi):=decide_eq_true_eq
theorem ub0 (lo n hi:Int):(inB lo n hi=false)=¬(lo≤n∧n≤hi):=by simp only [inB,decide_eq_false_iff_not]
theorem uaZ (lo a b hi:Int):(ofB lo a b hi=true)=(lo≤a∧a≤b∧b≤hi):=decide_eq_true_eq
theorem ub1 (lo a b hi:Int):(ofB lo a b hi=false)=¬(lo≤a∧a≤b∧b≤hi):=by simp only [ofB,decide_eq_false_iff_not]
def inL (out:List Int)(v:Int):Bool:=decide (0≤fidx (fun j=> !(decide (out.getD j 0=v))) out.length 0)
theorem uvJ {out:List Int} {v:Int}:inL out v=true↔∃j,j<out.length∧out.getD j 0=v:=by
  unfold inL
  rw [decide_eq_true_eq,uie]
  constructor
  · rintro⟨j,_,h2,h3⟩;exact⟨j,by omega,of_decide_eq_true (by simpa using h3)⟩
  · rintro⟨j,h1,h2⟩;exact⟨j,by omega,by omega,by rw [h2];simp⟩
theorem uhw (out:List Int)(v:Int):inL out v=out.contains v:=by
  rw [Bool.eq_iff_iff,uvJ,List.contains_iff_mem]
  constructor
  · rintro⟨j,h1,h2⟩
    rw [←h2,List.getD_eq_getElem?_getD,List.getElem?_eq_getElem h1];exact List.getElem_mem h1
  · intro h
    obtain⟨j,h1,h2⟩:=List.getElem_of_mem h
    exact⟨j,h1,by rw [List.getD_eq_getElem?_getD,List.getElem?_eq_getElem h1];exact h2⟩
structure LkT where
  a:Int
  b:Int
  lo:Int
  hi:Int
structure FaT where
  p:Int
  s:Int
  wl:Int
  wh:Int
  ml:Int
  mh:Int
structure Dsp where
  tw:List Int
  tm:List Int
  tv:List (List Int)
  sn:Int
  pn:Int
  ls:List LkT
  fs:List FaT
def l0T :LkT:=⟨0,0,0,0⟩
def f0T :FaT:=⟨0,0,0,0,0,0⟩
def ubP (sn:Int)(x:LkT):Prop:=(0≤x.a∧x.a≤sn-1)∧(0≤x.b∧x.b≤sn-1)∧x.a≠x.b∧ -2000≤x.lo∧x.lo≤x.hi∧x.hi≤2000
instance (sn:Int) (x:LkT):Decidable (ubP sn x):=by unfold ubP;infer_instance
def uf4 (sn:Int)(x:LkT):Bool:=decide (ubP sn x)
theorem uab (sn:Int)(x:LkT):(uf4 sn x=true)=ubP sn x:=decide_eq_true_eq
theorem uad (sn:Int)(x:LkT):(uf4 sn x=false)=¬ubP sn x:=by simp only [uf4,decide_eq_false_iff_not]
def ubo (d:Dsp)(f:FaT):Prop:=(0≤f.p∧f.p≤d.pn-1)∧(0≤f.s∧f.s≤d.sn-1)∧(d.tw.getD 0 0≤f.wl∧f.wl≤f.wh∧f.wh≤d.tw.getD (d.tw.length-1) 0)∧d.tm.getD 0 0≤f.ml∧f.ml≤f.mh∧f.mh≤d.tm.getD (d.tm.length-1) 0
instance (d:Dsp) (f:FaT):Decidable (ubo d f):=by unfold ubo;infer_instance
def ueB (d:Dsp)(f:FaT):Bool:=decide (ubo d f)
theorem uac (d:Dsp)(f:FaT):(ueB d f=true)=ubo d f:=decide_eq_true_eq
theorem uaf (d:Dsp)(f:FaT):(ueB d f=false)=¬ubo d f:=by simp only [ueB,decide_eq_false_iff_not]
structure DOk (d:Dsp):Prop where
  t:TOk d.tw d.tm d.tv
  s1:1≤d.sn
  s3:d.sn≤3
  p1:1≤d.pn
  p4:d.pn≤4
  l4:d.ls.length≤4
  f6:d.fs.length≤6
  l:∀i,i<d.ls.length→ubP d.sn (d.ls.getD i l0T)
  f:∀i,i<d.fs.length→ubo d (d.fs.getD i f0T)
def uea (d:Dsp):Prop:=3<d.sn∨4<d.pn∨4<d.ls.length∨6<d.fs.length
instance (d:Dsp):Decidable (uea d):=by unfold uea;infer_instance
def uiv (d:Dsp):Prop:=1≤d.sn∧1≤d.pn∧allB (fun i=>uf4 d.sn (d.ls.getD i l0T)) d.ls.length=true∧allB (fun i=>ueB d (d.fs.getD i f0T)) d.fs.length=true
instance (d:Dsp):Decidable (uiv d):=by unfold uiv;infer_instance
def ua7 (d:Dsp):Int:=if ubK d.tw d.tm d.tv=0 then(if uea d then 3 else if uiv d then 0 else 1)else ubK d.tw d.tm d.tv
theorem ugl {d:Dsp}(h:¬ubK d.tw d.tm d.tv=0):ua7 d=ubK d.tw d.tm d.tv:=by unfold ua7;rw [if_neg h]
theorem ufj {d:Dsp}(h:ubK d.tw d.tm d.tv=0)(h':uea d):ua7 d=3:=by unfold ua7;rw [if_pos h,if_pos h']
theorem ueT {d:Dsp}(h:ubK d.tw d.tm d.tv=0)(h':¬uea d)(h'':¬uiv d):ua7 d=1:=by unfold ua7;rw [if_pos h,if_neg h',if_neg h'']
theorem ugG {d:Dsp}(h:ubK d.tw d.tm d.tv=0)(h':¬uea d)(h'':uiv d):ua7 d=0:=by unfold ua7;rw [if_pos h,if_neg h',if_pos h'']
theorem ueC {d:Dsp}:uiv d↔1≤d.sn∧1≤d.pn∧(∀i,i<d.ls.length→ubP d.sn (d.ls.getD i l0T))∧∀i,i<d.fs.length→ubo d (d.fs.getD i f0T):=by
  unfold uiv
  rw [ual,ual]
  simp only [uab,uac]
theorem ua2 {d:Dsp}:ua7 d=0↔DOk d:=by
  constructor
  · intro h
    by_cases ht:ubK d.tw d.tm d.tv=0
    · by_cases hm:uea d
      · rw [ufj ht hm]at h;omega
      · by_cases hg:uiv d
        · have g:=ueC.1 hg
          unfold uea at hm
          exact⟨udk ht,g.1,by omega,g.2.1,by omega,by omega,by omega,g.2.2.1,g.2.2.2⟩
        · rw [ueT ht hm hg]at h;omega
    · rw [ugl ht]at h;exact absurd h ht
  · intro h
    have h1:=h.s3
    have h2:=h.p4
    have h3:=h.l4
    have h4:=h.f6
    exact ugG (uj2 h.t) (by unfold uea;omega) (ueC.2 ⟨h.s1,h.p1,h.l,h.f⟩)
def mLo (d:Dsp)(f:FaT):Int:=bLo d.tw d.tm d.tv f.wl f.wh f.ml f.mh
def mHi (d:Dsp)(f:FaT):Int:=bHi d.tw d.tm d.tv f.wl f.wh f.ml f.mh
theorem uev {d:Dsp} {f:FaT}(h:ubo d f):Box d.tw d.tm f.wl f.wh f.ml f.mh:=by
  unfold ubo at h
  exact⟨by omega,by omega,by omega,by omega,by omega,by omega⟩
theorem unz {d:Dsp} {f:FaT}(hT:TOk d.tw d.tm d.tv)(h:ubo d f):0≤mLo d f∧mLo d f≤mHi d f∧mHi d f≤2000:=by
  have hb:=uev h
  have hB:=us6 hT hb
  obtain⟨w,m,a1,a2,a3,a4,a5⟩:=hB.lo
  obtain⟨w',m',b1,b2,b3,b4,b5⟩:=hB.hi
  have q1:=urY hT (hb.pt a1 a2 a3 a4)
  have q2:=urY hT (hb.pt b1 b2 b3 b4)
  have q3:=hB.le w m a1 a2 a3 a4
  unfold mLo mHi
  omega
def lkO (x:LkT):Lk:=⟨x.a.toNat,x.b.toNat,x.lo,x.hi⟩
def faO (d:Dsp)(f:FaT):Fa:=⟨f.s.toNat,mLo d f,mHi d f⟩
def LO (d:Dsp):List Lk:=d.ls.map lkO
def FO (d:Dsp)(fs:List FaT):List Fa:=fs.map (faO d)
def SN (d:Dsp):Nat:=d.sn.toNat
def FOk (d:Dsp)(fs:List FaT):Prop:=∀i,i<fs.length→ubo d (fs.getD i f0T)
theorem FOk.mem {d:Dsp} {fs:List FaT}(h:FOk d fs) {f:FaT}(hf:f∈fs):ubo d f:=by
  obtain⟨i,h1,h2⟩:=List.getElem_of_mem hf
  have:=h i h1
  rw [List.getD_eq_getElem?_getD,List.getElem?_eq_getElem h1]at this
  rw [←h2];exact this
theorem FOk.of {d:Dsp} {fs:List FaT}(h:∀f∈fs,ubo d f):FOk d fs:=fun i hi=>by
  rw [List.getD_eq_getElem?_getD,List.getElem?_eq_getElem hi];exact h _ (List.getElem_mem hi)
theorem uov {d:Dsp}(h:∀i,i<d.ls.length→ubP d.sn (d.ls.getD i l0T)) {x:LkT}(hx:x∈d.ls):ubP d.sn x:=by
  obtain⟨i,h1,h2⟩:=List.getElem_of_mem hx
  have:=h i h1
  rw [List.getD_eq_getElem?_getD,List.getElem?_eq_getElem h1]at this
  rw [←h2];exact this
theorem okk {d:Dsp}(h:DOk d) {fs:List FaT}(hf:FOk d fs):Okk (SN d) (LO d) (FO d fs):=by
  have s1:=h.s1
  have s3:=h.s3
  refine⟨by unfold SN;omega,by unfold SN;omega,fun k hk=> ?_,fun k hk=> ?_⟩
  · obtain⟨x,hx,rfl⟩:=List.mem_map.1 hk
    have:=uov h.l hx
    unfold ubP at this
    unfold lkO SN
    simp only
    omega
  · obtain⟨x,hx,rfl⟩:=List.mem_map.1 hk
    have:=hf.mem hx
    unfold ubo at this
    unfold faO SN
    simp only
    omega
theorem urh {d:Dsp}(h:DOk d) {fs:List FaT}(hf:FOk d fs)(i:Nat): -2000≤matD (SN d) (LO d) (FO d fs) i∧matD (SN d) (LO d) (FO d fs) i≤2000:=by
  refine up8 (fun k hk=> ?_) (fun k hk=> ?_) i
  · obtain⟨x,hx,rfl⟩:=List.mem_map.1 hk
    have:=uov h.l hx
    unfold ubP at this
    unfold lkO
    simp only
    omega
  · obtain⟨x,hx,rfl⟩:=List.mem_map.1 hk
    have:=unz h.t (hf.mem hx)
    unfold faO
    simp only
    omega
def kpT (fs:List FaT)(c:Nat→Bool):Nat→List FaT
  |0=>[]
  |i+1=>if c i=true then kpT fs c i++[fs.getD i f0T]else kpT fs c i
theorem uoY {fs:List FaT} {c:Nat→Bool} {i:Nat}(h:c i=true):kpT fs c (i+1)=kpT fs c i++[fs.getD i f0T]:=by simp only [kpT,h,if_true]
theorem usx {fs:List FaT} {c:Nat→Bool} {i:Nat}(h:c i=false):kpT fs c (i+1)=kpT fs c i:=by simp only [kpT,h,Bool.false_eq_true,if_false]
theorem utt (fs:List FaT)(c:Nat→Bool):∀{m n:Nat},m≤n→∃r,kpT fs c n=kpT fs c m++r:=by
  intro m n
  induction n with
  |zero=>intro h;exact⟨[],by rw [show m=0 by omega];simp [kpT]⟩
  | succ n ih=>
    intro h
    rcases Nat.lt_or_ge n m with q|q
    · exact⟨[],by rw [show m=n+1 by omega];simp⟩
    · obtain⟨r,e⟩:=ih q
      cases hc:c n with
      |true=>exact⟨r++[fs.getD n f0T],by rw [uoY hc,e,List.append_assoc]⟩
      |false=>exact⟨r,by rw [usx hc,e]⟩
theorem uv1 {fs:List FaT} {c:Nat→Bool} {i n:Nat}(hi:i<n)(h:c i=true):(kpT fs c i).length<(kpT fs c n).length∧(kpT fs c n).getD (kpT fs c i).length f0T=fs.getD i f0T:=by
  obtain⟨r,e⟩:=utt fs c (show i+1≤n by omega)
  rw [e,uoY h]
  constructor
  · simp only [List.length_append,List.length_cons,List.length_nil];omega
  · simp [List.getD_eq_getElem?_getD]
theorem usJ {fs:List FaT} {c:Nat→Bool} {f:FaT}:∀{n:Nat},n≤fs.length→f∈kpT fs c n→f∈fs:=by
  intro n
  induction n with
  |zero=>intro _ h;simp [kpT]at h
  | succ n ih=>
    intro hn h
    simp only [kpT]at h
    split at h
    · rcases List.mem_append.1 h with h|h
      · exact ih (by omega) h
      · rw [List.mem_singleton]at h
        rw [h,List.getD_eq_getElem?_getD,List.getElem?_eq_getElem (by omega)];exact List.getElem_mem _
    · exact ih (by omega) h
theorem usN {d:Dsp} {fs:List FaT} {i:Nat}(h:i<fs.length):(FO d fs).getD i f0=faO d (fs.getD i f0T):=by
  unfold FO
  simp only [List.getD_eq_getElem?_getD,List.getElem?_map,List.getElem?_eq_getElem h,Option.map_some,Option.getD_some]
theorem udK (d:Dsp)(fs:List FaT):(FO d fs).length=fs.length:=List.length_map ..
theorem uh0 (d:Dsp):(LO d).length=d.ls.length:=List.length_map ..
theorem usE {d:Dsp} {i:Nat}(h:i<d.ls.length):(LO d).getD i lk0=lkO (d.ls.getD i l0T):=by
  unfold LO
  simp only [List.getD_eq_getElem?_getD,List.getElem?_map,List.getElem?_eq_getElem h,Option.map_some,Option.getD_some]
theorem uuZ {d:Dsp} {fs:List FaT} {c:Nat→Bool}:∀{n:Nat},n≤fs.length→FO d (kpT fs c n)=kpN (FO d fs) c n:=by
  intro n
  induction n with
  |zero=>intro _;rfl
  | succ n ih=>
    intro hn
    have e:=ih (by omega)
    cases hc:c n with
    | true=>
      rw [uoY hc]
      simp only [kpN,hc,if_true]
      rw [←e,usN (by omega)]
      unfold FO
      rw [List.map_append];rfl
    | false=>
      rw [usx hc]
      simp only [kpN,hc,Bool.false_eq_true,if_false]
      exact e
def ubO (fs:List FaT)(o:List Int):List FaT:=kpT fs (outL o) fs.length
def outB (o:List Int)(i:Nat):Bool:= !(inL o (i:Int))
theorem uol (o:List Int):outB o=outL o:=funext fun i=>by unfold outB outL;rw [uhw]
theorem uoF {d:Dsp} {fs:List FaT}(h:FOk d fs)(o:List Int):FOk d (ubO fs o):=FOk.of fun f hf=>h.mem (usJ (Nat.le_refl _) hf)
def matO (d:Dsp)(fs:List FaT)(o:List Int):Nat→Int:=matD (SN d) (LO d) (FO d (ubO fs o))
def canT (d:Dsp)(fs:List FaT)(o:List Int):Bool:=okD (clo (matO d fs o))
theorem uns {d:Dsp} {fs:List FaT} {o:List Int}:canT d fs o=okF (SN d) (LO d) (FO d fs) o:=by
  unfold canT matO ubO okF canO canD
  rw [uuZ (Nat.le_refl _),udK]
end Go.Proofs.Ytkdggbfknlcdaaa
namespace Go.Proofs.Ytkdggbfknlcdaaa
open Go Go.Eng Go.Proofs
abbrev dspS (d:Dsp):SV:=(.agg [(iS d.tw),(iS d.tm),(.sl 1 (.sym fun _=>zi (d.tv).length) (fun ix=>[(.sl 1 (.sym fun _=>zi ((d.tv).getD ix.den.toNat []).length) (fun jx=>[(iv fun _=>((d.tv).getD ix.den.toNat []).getD jx.den.toNat 0)]))])),(iv fun _=>d.sn),(iv fun _=>d.pn),(.sl 4 (.sym fun _=>zi (d.ls).length) (fun ix=>[(iv fun _=>((d.ls).getD ix.den.toNat l0T).a),(iv fun _=>((d.ls).getD ix.den.toNat l0T).b),(iv fun _=>((d.ls).getD ix.den.toNat l0T).lo),(iv fun _=>((d.ls).getD ix.den.toNat l0T).hi)])),(.sl 6 (.sym fun _=>zi (d.fs).length) (fun ix=>[(iv fun _=>((d.fs).getD ix.den.toNat f0T).p),(iv fun _=>((d.fs).getD ix.den.toNat f0T).s),(iv fun _=>((d.fs).getD ix.den.toNat f0T).wl),(iv fun _=>((d.fs).getD ix.den.toNat f0T).wh),(iv fun _=>((d.fs).getD ix.den.toNat f0T).ml),(iv fun _=>((d.fs).getD ix.den.toNat f0T).mh)]))])
end Go.Proofs.Ytkdggbfknlcdaaa

namespace Go.Proofs.Ytkdggbfknlcdaaa
open Go.Eng.Dif
theorem usc (n:Nat):bS (n+1)=bS n++[⟨0,n+1,0,2000⟩]:=by unfold bS;rw [List.range_succ,List.map_append];rfl
def mS (n:Nat):Nat→Int:=addL M00 (bS n)
theorem mS_s (n:Nat):mS (n+1)=addB (mS n) ⟨0,n+1,0,2000⟩:=by unfold mS;rw [usc,uf1];rfl
def mL (d:Dsp)(k:Nat):Nat→Int:=addL (mS (SN d)) (bL_ ((LO d).take k))
theorem uis {α:Type} {l:List α} {k:Nat}(h:k<l.length):l.take (k+1)=l.take k++[l[k]]:=List.take_succ_eq_append_getElem h
theorem mL_s {d:Dsp} {k:Nat}(h:k<d.ls.length)(h0:0≤(d.ls.getD k l0T).a)(h1:0≤(d.ls.getD k l0T).b):mL d (k+1)=addB (mL d k) ⟨((d.ls.getD k l0T).a+1).toNat,((d.ls.getD k l0T).b+1).toNat,(d.ls.getD k l0T).lo,(d.ls.getD k l0T).hi⟩:=by
  have hk:k<(LO d).length:=by rw [uh0];exact h
  unfold mL
  rw [uis hk]
  unfold bL_
  rw [List.map_append,uf1]
  have e:(LO d)[k]=lkO (d.ls.getD k l0T):=by
    have:=usE h
    rw [List.getD_eq_getElem?_getD,List.getElem?_eq_getElem hk]at this
    exact this
  rw [e,show((d.ls.getD k l0T).a+1).toNat=(d.ls.getD k l0T).a.toNat+1 by omega,show((d.ls.getD k l0T).b+1).toNat=(d.ls.getD k l0T).b.toNat+1 by omega]
  rfl
def mF (d:Dsp)(fs:List FaT)(k:Nat):Nat→Int:=addL (mL d d.ls.length) (bF ((FO d fs).take k))
theorem mF_s {d:Dsp} {fs:List FaT} {k:Nat}(h:k<fs.length)(h0:0≤(fs.getD k f0T).s):mF d fs (k+1)=addB (mF d fs k) ⟨0,((fs.getD k f0T).s+1).toNat,mLo d (fs.getD k f0T),mHi d (fs.getD k f0T)⟩:=by
  have hk:k<(FO d fs).length:=by rw [udK];exact h
  unfold mF
  rw [uis hk]
  unfold bF
  rw [List.map_append,uf1]
  have e:(FO d fs)[k]=faO d (fs.getD k f0T):=by
    have:=usN (d:=d) h
    rw [List.getD_eq_getElem?_getD,List.getElem?_eq_getElem hk]at this
    exact this
  rw [e,show((fs.getD k f0T).s+1).toNat=(fs.getD k f0T).s.toNat+1 by omega]
  rfl
theorem urz (d:Dsp)(fs:List FaT):mF d fs fs.length=matD (SN d) (LO d) (FO d fs):=by
  unfold mF mL mS matD
  rw [uf1,uf1,List.take_of_length_le (by rw [uh0];exact Nat.le_refl _),List.take_of_length_le (by rw [udK];exact Nat.le_refl _)]
def iN (k i:Nat):Int:=if i<k then M00 i else 0
theorem iN_0 (i:Nat):iN 0 i=0:=by unfold iN;rw [if_neg (by omega)]
theorem urx {k i:Nat}(h:i≠k):iN k i=iN (k+1) i:=by
  unfold iN
  by_cases q:i<k
  · rw [if_pos q,if_pos (by omega)]
  · rw [if_neg q,if_neg (by omega)]
theorem uuJ {k i:Nat}(h:i=k)(hd:k/4≠k%4):2000=iN (k+1) i:=by
  subst h
  unfold iN M00
  rw [if_pos (by omega),if_neg hd]
theorem uuM {k i:Nat}(hd:k/4=k%4):iN k i=iN (k+1) i:=by
  by_cases q:i=k
  · subst q
    unfold iN M00
    rw [if_neg (by omega),if_pos (by omega),if_pos hd]
  · exact urx q
theorem utO {i:Nat}(h:i<16):iN 16 i=M00 i:=by unfold iN;rw [if_pos h]
theorem uuj (a b:Int):min a b=mn a b:=by unfold mn;split<;>omega
theorem usQ {M:Nat→Int} {p i a:Nat} {n:Int}(ha:a=p)(h:i=p):min (M a) n=lst M p n i:=by
  unfold lst
  rw [if_pos h,uuj,ha,h]
theorem utv {M:Nat→Int} {p i:Nat} {n:Int}(h:i≠p):M i=lst M p n i:=by
  unfold lst
  rw [if_neg h]
end Go.Proofs.Ytkdggbfknlcdaaa

namespace Go.Proofs.Ytkdggbfknlcdaaa
open Go Go.Eng Go.Proofs
set_option maxRecDepth 10000
theorem ude (n lo hi:Int):ua0 Try.prog 43 [(iv fun _=>n),(iv fun _=>lo),(iv fun _=>hi)] [] (fun r _=>r=(.bool (.sym fun _=>inB lo n hi))):=by
  refine ua0.is fun R hR=>qW (sc:=sc43) tyok mix Try.func43 rfl Try.call43 (by kernel_rfl) (by kernel_rfl) ?_
  generalize Try.prog=P
  cbv
  repeat' (first
      |with_reducible refine And.intro ?_ ?_
      |(with_reducible intro hcd;(try simp only [zA,zB,zC,zD,zE,zF,zG,zH,zI,zJ,zK,zL,zM,zN,zO,zP]at hcd);try cbv)
      |fail)
  all_goals first
    |(subst hR;(refine qF ?_;(try simp only [qV]at *);(try simp only [zQ,zA,zB,zC,zD,zE,zF,zG,zH,zI,zJ,zK,zL,zM,zN,zO,zP,zR,zS]at *);apply Bool.eq_iff_iff.2;simp only [ual,uan,uaS,ub0,uaZ,ub1,uab,uad,uac,uaf,Bool.and_eq_true,Bool.or_eq_true,Bool.not_eq_true',decide_eq_true_eq,decide_eq_false_iff_not,Bool.false_eq_true,reduceCtorEq,Bool.true_and,Bool.and_true,Bool.false_and,Bool.and_false,iff_true,true_iff,Bool.not_true,Bool.not_false]at *;constructor<;>intro q<;>first|omega|(exact q.elim)|(exact absurd q (by omega)));done)
    |skip
theorem of80 (a b lo hi:Int):ua0 Try.prog 80 [(.agg [(iv fun _=>a),(iv fun _=>b)]),(iv fun _=>lo),(iv fun _=>hi)] [] (fun r _=>r=(.bool (.sym fun _=>ofB lo a b hi))):=by
  refine ua0.is fun R hR=>qW (sc:=sc80) tyok mix Try.func80 rfl Try.call80 (by kernel_rfl) (by kernel_rfl) ?_
  generalize Try.prog=P
  cbv
  repeat' (first
      |with_reducible refine And.intro ?_ ?_
      |(with_reducible intro hcd;(try simp only [zA,zB,zC,zD,zE,zF,zG,zH,zI,zJ,zK,zL,zM,zN,zO,zP]at hcd);try cbv)
      |fail)
  all_goals first
    |(subst hR;(refine qF ?_;(try simp only [qV]at *);(try simp only [zQ,zA,zB,zC,zD,zE,zF,zG,zH,zI,zJ,zK,zL,zM,zN,zO,zP,zR,zS]at *);apply Bool.eq_iff_iff.2;simp only [ual,uan,uaS,ub0,uaZ,ub1,uab,uad,uac,uaf,Bool.and_eq_true,Bool.or_eq_true,Bool.not_eq_true',decide_eq_true_eq,decide_eq_false_iff_not,Bool.false_eq_true,reduceCtorEq,Bool.true_and,Bool.and_true,Bool.false_and,Bool.and_false,iff_true,true_iff,Bool.not_true,Bool.not_false]at *;constructor<;>intro q<;>first|omega|(exact q.elim)|(exact absurd q (by omega)));done)
    |skip
theorem on81 (a b:Int)(l:List Int)(h:1≤l.length∧l.length≤1000):ua0 Try.prog 81 [(.agg [(iv fun _=>a),(iv fun _=>b)]),(iS l)] [] (fun r _=>r=(.bool (.sym fun _=>ofB (l.getD 0 0) a b (l.getD (l.length-1) 0)))):=by
  have c80:= @of80
  refine ua0.is fun R hR=>qW (sc:=sc81) tyok mix Try.func81 rfl Try.call81 (by kernel_rfl) (by kernel_rfl) ?_
  generalize Try.prog=P at c80⊢
  cbv
  repeat' (first
      |with_reducible refine hold ?_ ?_
      | (refine qP ?_ (c80 _ _ _ _) (by(repeat' (first|exact qB|refine qD ?_ ?_|exact qE (by rfl)|exact qF (by rfl)|exact Fit.refl _|exact qA|refine qC ?_ rfl ?_)))
         try cbv)
      |fail)
  all_goals first
    |((try simp only [qV]at *);(try simp only [zQ,zA,zB,zC,zD,zE,zF,zG,zH,zI,zJ,zK,zL,zM,zN,zO,zP,zR,zS,ual,uan,uaS,ub0,uaZ,ub1,uab,uad,uac,uaf]at *);first|(refine qN ?_;omega)|(simp only [Hold];omega))
    |(subst hR;(refine qF ?_;simp only [zQ,zA,zB,zC,zD,zE,zF,zG,zH,zI,zJ,zK,zL,zM,zN,zO,zP,zR,zS];congr 2;omega);done)
    |skip
theorem ui7 (d:Dsp)(n:Int)(h:1≤d.sn∧d.sn≤1000):ua0 Try.prog 66 [(dspS d),(iv fun _=>n)] [] (fun r _=>r=(.bool (.sym fun _=>inB 0 n (d.sn-1)))):=by
  have c43:= @ude
  refine ua0.is fun R hR=>qW (sc:=sc66) tyok mix Try.func66 rfl Try.call66 (by kernel_rfl) (by kernel_rfl) ?_
  generalize Try.prog=P at c43⊢
  cbv
  repeat' (first
      |with_reducible refine hold ?_ ?_
      | (refine qP ?_ (c43 _ _ _) (by(repeat' (first|exact qB|refine qD ?_ ?_|exact qE (by rfl)|exact qF (by rfl)|exact Fit.refl _|exact qA|refine qC ?_ rfl ?_)))
         try cbv)
      |fail)
  all_goals first
    |((try simp only [qV]at *);(try simp only [zQ,zA,zB,zC,zD,zE,zF,zG,zH,zI,zJ,zK,zL,zM,zN,zO,zP,zR,zS,ual,uan,uaS,ub0,uaZ,ub1,uab,uad,uac,uaf]at *);first|(refine qN ?_;omega)|(simp only [Hold];omega))
    |(subst hR;(repeat' (first|exact qA|exact qB|refine qC ?_ rfl ?_|refine qD ?_ ?_|exact qE (by rfl)|exact qF (by rfl)|exact Fit.refl _|exact qG _|(refine qE ?_;(try simp only [qV]at *);simp only [zQ,zA,zB,zC,zD,zE,zF,zG,zH,zI,zJ,zK,zL,zM,zN,zO,zP,zR,zS]at *;omega)));done)
    |skip
theorem uvd (d:Dsp)(x:LkT)(h:1≤d.sn∧d.sn≤1000):ua0 Try.prog 49 [(dspS d),(.agg [(iv fun _=>x.a),(iv fun _=>x.b),(iv fun _=>x.lo),(iv fun _=>x.hi)])] [] (fun r _=>r=(.bool (.sym fun _=>uf4 d.sn x))):=by
  have c66:=fun (n:Int)=>ui7 d n h
  have c80:= @of80
  refine ua0.is fun R hR=>qW (sc:=sc49) tyok mix Try.func49 rfl Try.call49 (by kernel_rfl) (by kernel_rfl) ?_
  generalize Try.prog=P at c66 c80⊢
  cbv
  repeat' (first
      |with_reducible refine And.intro ?_ ?_
      |(with_reducible intro hcd;(try simp only [zA,zB,zC,zD,zE,zF,zG,zH,zI,zJ,zK,zL,zM,zN,zO,zP]at hcd);try cbv)
      | (refine qP ?_ (c66 _) (by(repeat' (first|exact qB|refine qD ?_ ?_|exact qE (by rfl)|exact qF (by rfl)|exact Fit.refl _|exact qA|refine qC ?_ rfl ?_)))
         try cbv)
      | (refine qP ?_ (c80 _ _ _ _) (by(repeat' (first|exact qB|refine qD ?_ ?_|exact qE (by rfl)|exact qF (by rfl)|exact Fit.refl _|exact qA|refine qC ?_ rfl ?_)))
         try cbv)
      |fail)
  all_goals first
    |(subst hR;(refine qF ?_;(try simp only [qV]at *);(try simp only [zQ,zA,zB,zC,zD,zE,zF,zG,zH,zI,zJ,zK,zL,zM,zN,zO,zP,zR,zS]at *);apply Bool.eq_iff_iff.2;simp only [uf4,ual,uan,uaS,ub0,uaZ,ub1,uab,uad,uac,uaf,Bool.and_eq_true,Bool.or_eq_true,Bool.not_eq_true',decide_eq_true_eq,decide_eq_false_iff_not,Bool.false_eq_true,reduceCtorEq,Bool.true_and,Bool.and_true,Bool.false_and,Bool.and_false,iff_true,true_iff,Bool.not_true,Bool.not_false]at *;simp only [ubP]at *;constructor<;>intro q<;>first|omega|(exact q.elim)|(exact absurd q (by omega)));done)
    |skip
theorem uu1 (d:Dsp)(f:FaT)(h:1≤d.sn∧d.sn≤1000∧1≤d.pn∧d.pn≤1000)(hw:1≤d.tw.length∧d.tw.length≤1000)(hm:1≤d.tm.length∧d.tm.length≤1000):ua0 Try.prog 50 [(dspS d),(.agg [(iv fun _=>f.p),(iv fun _=>f.s),(iv fun _=>f.wl),(iv fun _=>f.wh),(iv fun _=>f.ml),(iv fun _=>f.mh)])] [] (fun r _=>r=(.bool (.sym fun _=>ueB d f))):=by
  have c66:=fun (n:Int)=>ui7 d n ⟨h.1,h.2.1⟩
  have c43:= @ude
  have c81w:=fun (a b:Int)=>on81 a b d.tw hw
  have c81m:=fun (a b:Int)=>on81 a b d.tm hm
  refine ua0.is fun R hR=>qW (sc:=sc50) tyok mix Try.func50 rfl Try.call50 (by kernel_rfl) (by kernel_rfl) ?_
  generalize Try.prog=P at c66 c43 c81w c81m⊢
  cbv
  repeat' (first
      |with_reducible refine hold ?_ ?_
      |with_reducible refine And.intro ?_ ?_
      |(with_reducible intro hcd;(try simp only [zA,zB,zC,zD,zE,zF,zG,zH,zI,zJ,zK,zL,zM,zN,zO,zP]at hcd);try cbv)
      | (refine qP ?_ (c66 _) (by(repeat' (first|exact qB|refine qD ?_ ?_|exact qE (by rfl)|exact qF (by rfl)|exact Fit.refl _|exact qA|refine qC ?_ rfl ?_)))
         try cbv)
      | (refine qP ?_ (c43 _ _ _) (by(repeat' (first|exact qB|refine qD ?_ ?_|exact qE (by rfl)|exact qF (by rfl)|exact Fit.refl _|exact qA|refine qC ?_ rfl ?_)))
         try cbv)
      | (refine qP ?_ (c81w f.wl f.wh) ?hfit
         case hfit=>((repeat' (first|exact qB|refine qD ?_ ?_|exact qE (by rfl)|exact qF (by rfl)|exact Fit.refl _|exact qA|refine qC ?_ rfl ?_));done)
         try cbv)
      | (refine qP ?_ (c81m f.ml f.mh) ?hfit
         case hfit=>((repeat' (first|exact qB|refine qD ?_ ?_|exact qE (by rfl)|exact qF (by rfl)|exact Fit.refl _|exact qA|refine qC ?_ rfl ?_));done)
         try cbv)
      |fail)
  all_goals first
    |((try simp only [qV]at *);(try simp only [zQ,zA,zB,zC,zD,zE,zF,zG,zH,zI,zJ,zK,zL,zM,zN,zO,zP,zR,zS,ual,uan,uaS,ub0,uaZ,ub1,uab,uad,uac,uaf]at *);first|(refine qN ?_;omega)|(simp only [Hold];omega))
    |(subst hR;(refine qF ?_;(try simp only [qV]at *);(try simp only [zQ,zA,zB,zC,zD,zE,zF,zG,zH,zI,zJ,zK,zL,zM,zN,zO,zP,zR,zS]at *);apply Bool.eq_iff_iff.2;simp only [ueB,ual,uan,uaS,ub0,uaZ,ub1,uab,uad,uac,uaf,Bool.and_eq_true,Bool.or_eq_true,Bool.not_eq_true',decide_eq_true_eq,decide_eq_false_iff_not,Bool.false_eq_true,reduceCtorEq,Bool.true_and,Bool.and_true,Bool.false_and,Bool.and_false,iff_true,true_iff,Bool.not_true,Bool.not_false]at *;simp only [ubo]at *;constructor<;>intro q<;>first|omega|(exact q.elim)|(exact absurd q (by omega)));done)
    |skip
end Go.Proofs.Ytkdggbfknlcdaaa

namespace Go.Proofs.Ytkdggbfknlcdaaa
open Go Go.Eng Go.Proofs
set_option maxRecDepth 10000
theorem umR (d:Dsp)(h1:1≤d.sn∧d.sn≤1000)(hfew:d.ls.length≤1000)(i:Nat)(hi:i<d.ls.length∧∀j,j<i→(uf4 d.sn (d.ls.getD (j) l0T))=true):ua0 Try.prog 83 [(.agg [(iv fun _=>(d.ls.getD (i) l0T).a),(iv fun _=>(d.ls.getD (i) l0T).b),(iv fun _=>(d.ls.getD (i) l0T).lo),(iv fun _=>(d.ls.getD (i) l0T).hi)]),.own 0 0] [.cells [.clo 49 [(dspS d)] []] 97] (fun r bs=>r=(.bool (.sym fun _=> !(uf4 d.sn (d.ls.getD (i) l0T))))∧bs=[.cells [.clo 49 [(dspS d)] []] 97]):=by
  have cf:=uvd d (d.ls.getD i l0T) h1
  refine ua0.isB rfl fun R B hR hB=>qW (sc:=sc83) tyok mix Try.func83 rfl Try.call83 (by kernel_rfl) (by kernel_rfl) ?_
  generalize Try.prog=P at cf⊢
  cbv
  repeat' (first
      |with_reducible refine And.intro ?_ ?_
      | (refine qP ?_ (cf) ?hfit
         case hfit=>((repeat' (first|exact qB|refine qD ?_ ?_|exact qE (by rfl)|exact qF (by rfl)|exact Fit.refl _|exact qA|refine qC ?_ rfl ?_));done)
         try cbv)
      |fail)
  all_goals first
    |(subst hR;(repeat' (first|exact qA|exact qB|refine qC ?_ rfl ?_|refine qD ?_ ?_|exact qE (by rfl)|exact qF (by rfl)|exact Fit.refl _|exact qG _|(refine qE ?_;(try simp only [qV]at *);simp only [zQ,zA,zB,zC,zD,zE,zF,zG,zH,zI,zJ,zK,zL,zM,zN,zO,zP,zR,zS]at *;omega)));done)
    |(subst hB;(repeat' (first|exact qH|refine qI ?_ ?_|exact qK _|refine qJ ?_|exact qA|exact qE (by rfl)|exact qF (by rfl)|exact Fit.refl _|exact qG _|refine qC ?_ rfl ?_));done)
    |skip
theorem ujQ (d:Dsp)(h1:1≤d.sn∧d.sn≤1000)(hfew:d.ls.length≤1000):ua0 Try.prog 111 [(.sl 4 (.sym fun _=>zi (d.ls).length) (fun ix=>[(iv fun _=>((d.ls).getD ix.den.toNat l0T).a),(iv fun _=>((d.ls).getD ix.den.toNat l0T).b),(iv fun _=>((d.ls).getD ix.den.toNat l0T).lo),(iv fun _=>((d.ls).getD ix.den.toNat l0T).hi)])),.clo 83 [] [.own 0 0]] [.cells [.clo 49 [(dspS d)] []] 97] (fun r bs=>r=(iv fun _=>fidx (fun i=>uf4 d.sn (d.ls.getD (i) l0T)) (d.ls.length) 0)∧bs=[.cells [.clo 49 [(dspS d)] []] 97]):=by
  have cl:=umR d h1 hfew
  refine ua0.isB rfl fun R B hR hB=>qW (sc:=uvR) tyok mix Try.func111 rfl Try.call111 (by kernel_rfl) (by kernel_rfl) ?_
  generalize Try.prog=P at cl⊢
  cbv
  repeat' (first
      |fail)
  all_goals first
    |skip
  refine⟨none,[],{i:Nat // i≤d.ls.length∧fidx (fun i=>uf4 d.sn (d.ls.getD (i) l0T)) (d.ls.length) 0=fidx (fun i=>uf4 d.sn (d.ls.getD (i) l0T)) (d.ls.length-i) i∧∀j,j<i→(uf4 d.sn (d.ls.getD (j) l0T))=true},fun x=>⟨[(0,(.sl 4 (.sym fun _=>zi (d.ls).length) (fun ix=>[(iv fun _=>((d.ls).getD ix.den.toNat l0T).a),(iv fun _=>((d.ls).getD ix.den.toNat l0T).b),(iv fun _=>((d.ls).getD ix.den.toNat l0T).lo),(iv fun _=>((d.ls).getD ix.den.toNat l0T).hi)]))),(1,.clo 83 [] [.own 0 0]),(7,(iv fun _=>zi (d.ls.length))),(8,(iv fun _=>zi x.1))],[(0,.cells [.clo 49 [(dspS d)] []] 97)],20⟩,fun x=>d.ls.length-x.1,?_,?_⟩
  · refine⟨⟨0,by omega,rfl,fun j hj=>by omega⟩,?_⟩
    cbv
    repeat' (first
      |with_reducible refine hold ?_ ?_
      |with_reducible refine And.intro ?_ ?_)
    all_goals first
      |trivial
      |exact qM (qE (by rfl))
      |exact qM (Fit.refl _)
      |exact qL (qK _)
      |skip
  · rintro ⟨i,hi,hr,hq⟩
    cbv
    repeat' (first
        |with_reducible refine hold ?_ ?_
        |with_reducible refine And.intro ?_ ?_
        |(with_reducible intro hcd;(try simp only [zA,zB,zC,zD,zE,zF,zG,zH,zI,zJ,zK,zL,zM,zN,zO,zP]at hcd);try cbv)
        | (refine⟨some [0],?_⟩
           cbv
           refine qQ ?_ (cl i ⟨by(try simp only [qV]at *);simp only [uax]at *;omega,hq⟩) (by cbv;(repeat' (first|exact qB|refine qD ?_ ?_|exact qE (by rfl)|exact qF (by rfl)|exact Fit.refl _|exact qA|refine qC ?_ rfl ?_))) (by cbv;(repeat' (first|exact qH|refine qI ?_ ?_|exact qK _|refine qJ ?_|exact qA|exact qE (by rfl)|exact qF (by rfl)|exact Fit.refl _|exact qG _|refine qC ?_ rfl ?_)))
           try cbv)
        |fail)
    all_goals first
      |((try simp only [qV]at *);(try simp only [zQ,zA,zB,zC,zD,zE,zF,zG,zH,zI,zJ,zK,zL,zM,zN,zO,zP,zR,zS]at *);first|(refine qN ?_;omega)|(simp only [Hold];omega))
      |(subst hR;(refine qE ?_;simp only [zQ,zA,zB,zC,zD,zE,zF,zG,zH,zI,zJ,zK,zL,zM,zN,zO,zP,zR,zS]at *;rw [hr,ubD (by omega) hcd]);done)
      |(subst hR;(refine qE ?_;simp only [zQ,zA,zB,zC,zD,zE,zF,zG,zH,zI,zJ,zK,zL,zM,zN,zO,zP,zR,zS]at *;rw [hr,show d.ls.length-i=0 by omega];rfl);done)
      |(subst hB;(repeat' (first|exact qH|refine qI ?_ ?_|exact qK _|refine qJ ?_|exact qA|exact qE (by rfl)|exact qF (by rfl)|exact Fit.refl _|exact qG _|refine qC ?_ rfl ?_));done)
      |((try simp only [zQ,zA,zB,zC,zD,zE,zF,zG,zH,zI,zJ,zK,zL,zM,zN,zO,zP,zR,zS]at *);refine⟨⟨i+1,by omega,by rw [hr,udb (by omega) hcd];(try congr 1)<;>omega,fun j hj=>(Nat.lt_or_ge j i).elim (hq j) (fun q=>by rw [show j=i by omega];exact hcd)⟩,by simp only [];omega,?_⟩;cbv;(repeat' (first|with_reducible refine hold ?_ ?_|with_reducible refine And.intro ?_ ?_));(all_goals first|trivial|exact qM (qE (by rfl))|exact qM (qF (by rfl))|exact qM (Fit.refl _)|exact qL (qK _)|(refine qM (qE ?_);(try simp only [qV]at *);simp only [zQ,zA,zB,zC,zD,zE,zF,zG,zH,zI,zJ,zK,zL,zM,zN,zO,zP,zR,zS]at *;omega)|(refine qL (qJ ?_);(repeat' (first|exact qA|exact qB|refine qC ?_ rfl ?_|refine qD ?_ ?_|exact qE (by rfl)|exact qF (by rfl)|exact Fit.refl _|exact qG _|(refine qE ?_;(try simp only [qV]at *);simp only [zQ,zA,zB,zC,zD,zE,zF,zG,zH,zI,zJ,zK,zL,zM,zN,zO,zP,zR,zS]at *;omega)));done)|skip))
      |skip
theorem ukE (d:Dsp)(h1:1≤d.sn∧d.sn≤1000)(hfew:d.ls.length≤1000):ua0 Try.prog 82 [(.sl 4 (.sym fun _=>zi (d.ls).length) (fun ix=>[(iv fun _=>((d.ls).getD ix.den.toNat l0T).a),(iv fun _=>((d.ls).getD ix.den.toNat l0T).b),(iv fun _=>((d.ls).getD ix.den.toNat l0T).lo),(iv fun _=>((d.ls).getD ix.den.toNat l0T).hi)])),.clo 83 [] [.own 0 0]] [.cells [.clo 49 [(dspS d)] []] 97] (fun r bs=>r=(.bool (.sym fun _=>decide (0≤fidx (fun i=>uf4 d.sn (d.ls.getD (i) l0T)) (d.ls.length) 0)))∧bs=[.cells [.clo 49 [(dspS d)] []] 97]):=by
  have ci:=ujQ d h1 hfew
  refine ua0.isB rfl fun R B hR hB=>qW (sc:=sc82) tyok mix Try.func82 rfl Try.call82 (by kernel_rfl) (by kernel_rfl) ?_
  generalize Try.prog=P at ci⊢
  cbv
  repeat' (first
      |with_reducible refine And.intro ?_ ?_
      | (refine⟨some [0],?_⟩
         cbv
         refine qQ ?_ (ci) (by cbv;(repeat' (first|exact qB|refine qD ?_ ?_|exact qE (by rfl)|exact qF (by rfl)|exact Fit.refl _|exact qA|refine qC ?_ rfl ?_))) (by cbv;(repeat' (first|exact qH|refine qI ?_ ?_|exact qK _|refine qJ ?_|exact qA|exact qE (by rfl)|exact qF (by rfl)|exact Fit.refl _|exact qG _|refine qC ?_ rfl ?_)))
         try cbv)
      |fail)
  all_goals first
    |(subst hR;(repeat' (first|exact qA|exact qB|refine qC ?_ rfl ?_|refine qD ?_ ?_|exact qE (by rfl)|exact qF (by rfl)|exact Fit.refl _|exact qG _|(refine qE ?_;(try simp only [qV]at *);simp only [zQ,zA,zB,zC,zD,zE,zF,zG,zH,zI,zJ,zK,zL,zM,zN,zO,zP,zR,zS]at *;omega)));done)
    |(subst hB;(repeat' (first|exact qH|refine qI ?_ ?_|exact qK _|refine qJ ?_|exact qA|exact qE (by rfl)|exact qF (by rfl)|exact Fit.refl _|exact qG _|refine qC ?_ rfl ?_));done)
    |skip
theorem um2 (d:Dsp)(h1:1≤d.sn∧d.sn≤1000)(hfew:d.ls.length≤1000):ua0 Try.prog 51 [(.sl 4 (.sym fun _=>zi (d.ls).length) (fun ix=>[(iv fun _=>((d.ls).getD ix.den.toNat l0T).a),(iv fun _=>((d.ls).getD ix.den.toNat l0T).b),(iv fun _=>((d.ls).getD ix.den.toNat l0T).lo),(iv fun _=>((d.ls).getD ix.den.toNat l0T).hi)])),.clo 49 [(dspS d)] []] [] (fun r _=>r=(.bool (.sym fun _=>allB (fun i=>uf4 d.sn (d.ls.getD (i) l0T)) (d.ls.length)))):=by
  have cc:=ukE d h1 hfew
  refine ua0.is fun R hR=>qW (sc:=sc51) tyok mix Try.func51 rfl Try.call51 (by kernel_rfl) (by kernel_rfl) ?_
  generalize Try.prog=P at cc⊢
  cbv
  repeat' (first
      | (refine⟨some [0],?_⟩
         cbv
         refine qQ ?_ (cc) (by cbv;(repeat' (first|exact qB|refine qD ?_ ?_|exact qE (by rfl)|exact qF (by rfl)|exact Fit.refl _|exact qA|refine qC ?_ rfl ?_))) (by cbv;(repeat' (first|exact qH|refine qI ?_ ?_|exact qK _|refine qJ ?_|exact qA|exact qE (by rfl)|exact qF (by rfl)|exact Fit.refl _|exact qG _|refine qC ?_ rfl ?_)))
         try cbv)
      |fail)
  all_goals first
    |(subst hR;(repeat' (first|exact qA|exact qB|refine qC ?_ rfl ?_|refine qD ?_ ?_|exact qE (by rfl)|exact qF (by rfl)|exact Fit.refl _|exact qG _|(refine qE ?_;(try simp only [qV]at *);simp only [zQ,zA,zB,zC,zD,zE,zF,zG,zH,zI,zJ,zK,zL,zM,zN,zO,zP,zR,zS]at *;omega)));done)
    |skip
theorem umq (d:Dsp)(h1:1≤d.sn∧d.sn≤1000∧1≤d.pn∧d.pn≤1000)(hw:1≤d.tw.length∧d.tw.length≤1000)(hm:1≤d.tm.length∧d.tm.length≤1000)(hfew:d.fs.length≤1000)(i:Nat)(hi:i<d.fs.length∧∀j,j<i→(ueB d (d.fs.getD (j) f0T))=true):ua0 Try.prog 85 [(.agg [(iv fun _=>(d.fs.getD (i) f0T).p),(iv fun _=>(d.fs.getD (i) f0T).s),(iv fun _=>(d.fs.getD (i) f0T).wl),(iv fun _=>(d.fs.getD (i) f0T).wh),(iv fun _=>(d.fs.getD (i) f0T).ml),(iv fun _=>(d.fs.getD (i) f0T).mh)]),.own 0 0] [.cells [.clo 50 [(dspS d)] []] 98] (fun r bs=>r=(.bool (.sym fun _=> !(ueB d (d.fs.getD (i) f0T))))∧bs=[.cells [.clo 50 [(dspS d)] []] 98]):=by
  have cf:=uu1 d (d.fs.getD i f0T) h1 hw hm
  refine ua0.isB rfl fun R B hR hB=>qW (sc:=sc85) tyok mix Try.func85 rfl Try.call85 (by kernel_rfl) (by kernel_rfl) ?_
  generalize Try.prog=P at cf⊢
  cbv
  repeat' (first
      |with_reducible refine And.intro ?_ ?_
      | (refine qP ?_ (cf) ?hfit
         case hfit=>((repeat' (first|exact qB|refine qD ?_ ?_|exact qE (by rfl)|exact qF (by rfl)|exact Fit.refl _|exact qA|refine qC ?_ rfl ?_));done)
         try cbv)
      |fail)
  all_goals first
    |(subst hR;(repeat' (first|exact qA|exact qB|refine qC ?_ rfl ?_|refine qD ?_ ?_|exact qE (by rfl)|exact qF (by rfl)|exact Fit.refl _|exact qG _|(refine qE ?_;(try simp only [qV]at *);simp only [zQ,zA,zB,zC,zD,zE,zF,zG,zH,zI,zJ,zK,zL,zM,zN,zO,zP,zR,zS]at *;omega)));done)
    |(subst hB;(repeat' (first|exact qH|refine qI ?_ ?_|exact qK _|refine qJ ?_|exact qA|exact qE (by rfl)|exact qF (by rfl)|exact Fit.refl _|exact qG _|refine qC ?_ rfl ?_));done)
    |skip
theorem ukj (d:Dsp)(h1:1≤d.sn∧d.sn≤1000∧1≤d.pn∧d.pn≤1000)(hw:1≤d.tw.length∧d.tw.length≤1000)(hm:1≤d.tm.length∧d.tm.length≤1000)(hfew:d.fs.length≤1000):ua0 Try.prog 112 [(.sl 6 (.sym fun _=>zi (d.fs).length) (fun ix=>[(iv fun _=>((d.fs).getD ix.den.toNat f0T).p),(iv fun _=>((d.fs).getD ix.den.toNat f0T).s),(iv fun _=>((d.fs).getD ix.den.toNat f0T).wl),(iv fun _=>((d.fs).getD ix.den.toNat f0T).wh),(iv fun _=>((d.fs).getD ix.den.toNat f0T).ml),(iv fun _=>((d.fs).getD ix.den.toNat f0T).mh)])),.clo 85 [] [.own 0 0]] [.cells [.clo 50 [(dspS d)] []] 98] (fun r bs=>r=(iv fun _=>fidx (fun i=>ueB d (d.fs.getD (i) f0T)) (d.fs.length) 0)∧bs=[.cells [.clo 50 [(dspS d)] []] 98]):=by
  have cl:=umq d h1 hw hm hfew
  refine ua0.isB rfl fun R B hR hB=>qW (sc:=uvG) tyok mix Try.func112 rfl Try.call112 (by kernel_rfl) (by kernel_rfl) ?_
  generalize Try.prog=P at cl⊢
  cbv
  repeat' (first
      |fail)
  all_goals first
    |skip
  refine⟨none,[],{i:Nat // i≤d.fs.length∧fidx (fun i=>ueB d (d.fs.getD (i) f0T)) (d.fs.length) 0=fidx (fun i=>ueB d (d.fs.getD (i) f0T)) (d.fs.length-i) i∧∀j,j<i→(ueB d (d.fs.getD (j) f0T))=true},fun x=>⟨[(0,(.sl 6 (.sym fun _=>zi (d.fs).length) (fun ix=>[(iv fun _=>((d.fs).getD ix.den.toNat f0T).p),(iv fun _=>((d.fs).getD ix.den.toNat f0T).s),(iv fun _=>((d.fs).getD ix.den.toNat f0T).wl),(iv fun _=>((d.fs).getD ix.den.toNat f0T).wh),(iv fun _=>((d.fs).getD ix.den.toNat f0T).ml),(iv fun _=>((d.fs).getD ix.den.toNat f0T).mh)]))),(1,.clo 85 [] [.own 0 0]),(7,(iv fun _=>zi (d.fs.length))),(8,(iv fun _=>zi x.1))],[(0,.cells [.clo 50 [(dspS d)] []] 98)],20⟩,fun x=>d.fs.length-x.1,?_,?_⟩
  · refine⟨⟨0,by omega,rfl,fun j hj=>by omega⟩,?_⟩
    cbv
    repeat' (first
      |with_reducible refine hold ?_ ?_
      |with_reducible refine And.intro ?_ ?_)
    all_goals first
      |trivial
      |exact qM (qE (by rfl))
      |exact qM (Fit.refl _)
      |exact qL (qK _)
      |skip
  · rintro ⟨i,hi,hr,hq⟩
    cbv
    repeat' (first
        |with_reducible refine hold ?_ ?_
        |with_reducible refine And.intro ?_ ?_
        |(with_reducible intro hcd;(try simp only [zA,zB,zC,zD,zE,zF,zG,zH,zI,zJ,zK,zL,zM,zN,zO,zP]at hcd);try cbv)
        | (refine⟨some [0],?_⟩
           cbv
           refine qQ ?_ (cl i ⟨by(try simp only [qV]at *);simp only [uax]at *;omega,hq⟩) (by cbv;(repeat' (first|exact qB|refine qD ?_ ?_|exact qE (by rfl)|exact qF (by rfl)|exact Fit.refl _|exact qA|refine qC ?_ rfl ?_))) (by cbv;(repeat' (first|exact qH|refine qI ?_ ?_|exact qK _|refine qJ ?_|exact qA|exact qE (by rfl)|exact qF (by rfl)|exact Fit.refl _|exact qG _|refine qC ?_ rfl ?_)))
           try cbv)
        |fail)
    all_goals first
      |((try simp only [qV]at *);(try simp only [zQ,zA,zB,zC,zD,zE,zF,zG,zH,zI,zJ,zK,zL,zM,zN,zO,zP,zR,zS]at *);first|(refine qN ?_;omega)|(simp only [Hold];omega))
      |(subst hR;(refine qE ?_;simp only [zQ,zA,zB,zC,zD,zE,zF,zG,zH,zI,zJ,zK,zL,zM,zN,zO,zP,zR,zS]at *;rw [hr,ubD (by omega) hcd]);done)
      |(subst hR;(refine qE ?_;simp only [zQ,zA,zB,zC,zD,zE,zF,zG,zH,zI,zJ,zK,zL,zM,zN,zO,zP,zR,zS]at *;rw [hr,show d.fs.length-i=0 by omega];rfl);done)
      |(subst hB;(repeat' (first|exact qH|refine qI ?_ ?_|exact qK _|refine qJ ?_|exact qA|exact qE (by rfl)|exact qF (by rfl)|exact Fit.refl _|exact qG _|refine qC ?_ rfl ?_));done)
      |((try simp only [zQ,zA,zB,zC,zD,zE,zF,zG,zH,zI,zJ,zK,zL,zM,zN,zO,zP,zR,zS]at *);refine⟨⟨i+1,by omega,by rw [hr,udb (by omega) hcd];(try congr 1)<;>omega,fun j hj=>(Nat.lt_or_ge j i).elim (hq j) (fun q=>by rw [show j=i by omega];exact hcd)⟩,by simp only [];omega,?_⟩;cbv;(repeat' (first|with_reducible refine hold ?_ ?_|with_reducible refine And.intro ?_ ?_));(all_goals first|trivial|exact qM (qE (by rfl))|exact qM (qF (by rfl))|exact qM (Fit.refl _)|exact qL (qK _)|(refine qM (qE ?_);(try simp only [qV]at *);simp only [zQ,zA,zB,zC,zD,zE,zF,zG,zH,zI,zJ,zK,zL,zM,zN,zO,zP,zR,zS]at *;omega)|(refine qL (qJ ?_);(repeat' (first|exact qA|exact qB|refine qC ?_ rfl ?_|refine qD ?_ ?_|exact qE (by rfl)|exact qF (by rfl)|exact Fit.refl _|exact qG _|(refine qE ?_;(try simp only [qV]at *);simp only [zQ,zA,zB,zC,zD,zE,zF,zG,zH,zI,zJ,zK,zL,zM,zN,zO,zP,zR,zS]at *;omega)));done)|skip))
      |skip
theorem uk6 (d:Dsp)(h1:1≤d.sn∧d.sn≤1000∧1≤d.pn∧d.pn≤1000)(hw:1≤d.tw.length∧d.tw.length≤1000)(hm:1≤d.tm.length∧d.tm.length≤1000)(hfew:d.fs.length≤1000):ua0 Try.prog 84 [(.sl 6 (.sym fun _=>zi (d.fs).length) (fun ix=>[(iv fun _=>((d.fs).getD ix.den.toNat f0T).p),(iv fun _=>((d.fs).getD ix.den.toNat f0T).s),(iv fun _=>((d.fs).getD ix.den.toNat f0T).wl),(iv fun _=>((d.fs).getD ix.den.toNat f0T).wh),(iv fun _=>((d.fs).getD ix.den.toNat f0T).ml),(iv fun _=>((d.fs).getD ix.den.toNat f0T).mh)])),.clo 85 [] [.own 0 0]] [.cells [.clo 50 [(dspS d)] []] 98] (fun r bs=>r=(.bool (.sym fun _=>decide (0≤fidx (fun i=>ueB d (d.fs.getD (i) f0T)) (d.fs.length) 0)))∧bs=[.cells [.clo 50 [(dspS d)] []] 98]):=by
  have ci:=ukj d h1 hw hm hfew
  refine ua0.isB rfl fun R B hR hB=>qW (sc:=sc84) tyok mix Try.func84 rfl Try.call84 (by kernel_rfl) (by kernel_rfl) ?_
  generalize Try.prog=P at ci⊢
  cbv
  repeat' (first
      |with_reducible refine And.intro ?_ ?_
      | (refine⟨some [0],?_⟩
         cbv
         refine qQ ?_ (ci) (by cbv;(repeat' (first|exact qB|refine qD ?_ ?_|exact qE (by rfl)|exact qF (by rfl)|exact Fit.refl _|exact qA|refine qC ?_ rfl ?_))) (by cbv;(repeat' (first|exact qH|refine qI ?_ ?_|exact qK _|refine qJ ?_|exact qA|exact qE (by rfl)|exact qF (by rfl)|exact Fit.refl _|exact qG _|refine qC ?_ rfl ?_)))
         try cbv)
      |fail)
  all_goals first
    |(subst hR;(repeat' (first|exact qA|exact qB|refine qC ?_ rfl ?_|refine qD ?_ ?_|exact qE (by rfl)|exact qF (by rfl)|exact Fit.refl _|exact qG _|(refine qE ?_;(try simp only [qV]at *);simp only [zQ,zA,zB,zC,zD,zE,zF,zG,zH,zI,zJ,zK,zL,zM,zN,zO,zP,zR,zS]at *;omega)));done)
    |(subst hB;(repeat' (first|exact qH|refine qI ?_ ?_|exact qK _|refine qJ ?_|exact qA|exact qE (by rfl)|exact qF (by rfl)|exact Fit.refl _|exact qG _|refine qC ?_ rfl ?_));done)
    |skip
theorem umT (d:Dsp)(h1:1≤d.sn∧d.sn≤1000∧1≤d.pn∧d.pn≤1000)(hw:1≤d.tw.length∧d.tw.length≤1000)(hm:1≤d.tm.length∧d.tm.length≤1000)(hfew:d.fs.length≤1000):ua0 Try.prog 52 [(.sl 6 (.sym fun _=>zi (d.fs).length) (fun ix=>[(iv fun _=>((d.fs).getD ix.den.toNat f0T).p),(iv fun _=>((d.fs).getD ix.den.toNat f0T).s),(iv fun _=>((d.fs).getD ix.den.toNat f0T).wl),(iv fun _=>((d.fs).getD ix.den.toNat f0T).wh),(iv fun _=>((d.fs).getD ix.den.toNat f0T).ml),(iv fun _=>((d.fs).getD ix.den.toNat f0T).mh)])),.clo 50 [(dspS d)] []] [] (fun r _=>r=(.bool (.sym fun _=>allB (fun i=>ueB d (d.fs.getD (i) f0T)) (d.fs.length)))):=by
  have cc:=uk6 d h1 hw hm hfew
  refine ua0.is fun R hR=>qW (sc:=sc52) tyok mix Try.func52 rfl Try.call52 (by kernel_rfl) (by kernel_rfl) ?_
  generalize Try.prog=P at cc⊢
  cbv
  repeat' (first
      | (refine⟨some [0],?_⟩
         cbv
         refine qQ ?_ (cc) (by cbv;(repeat' (first|exact qB|refine qD ?_ ?_|exact qE (by rfl)|exact qF (by rfl)|exact Fit.refl _|exact qA|refine qC ?_ rfl ?_))) (by cbv;(repeat' (first|exact qH|refine qI ?_ ?_|exact qK _|refine qJ ?_|exact qA|exact qE (by rfl)|exact qF (by rfl)|exact Fit.refl _|exact qG _|refine qC ?_ rfl ?_)))
         try cbv)
      |fail)
  all_goals first
    |(subst hR;(repeat' (first|exact qA|exact qB|refine qC ?_ rfl ?_|refine qD ?_ ?_|exact qE (by rfl)|exact qF (by rfl)|exact Fit.refl _|exact qG _|(refine qE ?_;(try simp only [qV]at *);simp only [zQ,zA,zB,zC,zD,zE,zF,zG,zH,zI,zJ,zK,zL,zM,zN,zO,zP,zR,zS]at *;omega)));done)
    |skip
theorem ucV (d:Dsp):ua0 Try.prog 16 [(dspS d)] [] (fun r _=>r=(iv fun _=>ua7 d)):=by
  have c48:=unt d.tw d.tm d.tv
  have cl:=fun h:(1≤d.sn∧d.sn≤1000)∧d.ls.length≤1000=>um2 d h.1 h.2
  have cf:=fun h:((1≤d.sn∧d.sn≤1000∧1≤d.pn∧d.pn≤1000)∧ubK d.tw d.tm d.tv=0)∧d.fs.length≤1000=>umT d h.1.1 (by have:=udk h.1.2;have a:=this.w2;have b:=this.w5;omega) (by have:=udk h.1.2;have a:=this.m2;have b:=this.m5;omega) h.2
  refine ua0.is fun R hR=>qW (sc:=sc16) tyok mix Try.func16 rfl Try.call16 (by kernel_rfl) (by kernel_rfl) ?_
  generalize Try.prog=P at c48 cl cf⊢
  cbv
  repeat' (first
      |with_reducible refine And.intro ?_ ?_
      |(with_reducible intro hcd;(try simp only [zA,zB,zC,zD,zE,zF,zG,zH,zI,zJ,zK,zL,zM,zN,zO,zP]at hcd);try cbv)
      | (refine qP ?_ (c48) ?hfit
         case hfit=>((repeat' (first|exact qB|refine qD ?_ ?_|exact qE (by rfl)|exact qF (by rfl)|exact Fit.refl _|exact qA|refine qC ?_ rfl ?_));done)
         try cbv)
      | (refine qP ?_ (cl (show Hold _ from ?_)) ?hfit
         case hfit=>((repeat' (first|exact qB|refine qD ?_ ?_|exact qE (by rfl)|exact qF (by rfl)|exact Fit.refl _|exact qA|refine qC ?_ rfl ?_));done)
         try cbv)
      | (refine qP ?_ (cf (show Hold _ from ?_)) ?hfit
         case hfit=>((repeat' (first|exact qB|refine qD ?_ ?_|exact qE (by rfl)|exact qF (by rfl)|exact Fit.refl _|exact qA|refine qC ?_ rfl ?_));done)
         try cbv)
      |fail)
  all_goals first
    |((try simp only [qV]at *);(try simp only [zQ,zA,zB,zC,zD,zE,zF,zG,zH,zI,zJ,zK,zL,zM,zN,zO,zP,zR,zS,ual,uan,uaS,ub0,uaZ,ub1,uab,uad,uac,uaf]at *);first|(refine qN ?_;omega)|(simp only [Hold];omega))
    |(subst hR;(refine qE ?_;(try simp only [qV]at *);(try simp only [zQ,zA,zB,zC,zD,zE,zF,zG,zH,zI,zJ,zK,zL,zM,zN,zO,zP,zR,zS]at *);exact(ugl (by first|assumption|omega)).symm);done)
    |(subst hR;(refine qE ?_;(try simp only [qV]at *);(try simp only [zQ,zA,zB,zC,zD,zE,zF,zG,zH,zI,zJ,zK,zL,zM,zN,zO,zP,zR,zS]at *);exact(ufj (by first|assumption|omega) (by unfold uea;omega)).symm);done)
    |(subst hR;(refine qE ?_;(try simp only [qV]at *);(try simp only [zQ,zA,zB,zC,zD,zE,zF,zG,zH,zI,zJ,zK,zL,zM,zN,zO,zP,zR,zS]at *);exact(ueT (by first|assumption|omega) (by unfold uea;omega) (fun g=>by have a1:=g.1;have a2:=g.2.1;have a3:=g.2.2.1;have a4:=g.2.2.2;first|omega|(simp_all;done))).symm);done)
    |(subst hR;(refine qE ?_;(try simp only [qV]at *);(try simp only [zQ,zA,zB,zC,zD,zE,zF,zG,zH,zI,zJ,zK,zL,zM,zN,zO,zP,zR,zS]at *);exact(ugG (by first|assumption|omega) (by unfold uea;omega) ⟨by omega,by omega,by(first|assumption|(simp_all;done)),by(first|assumption|(simp_all;done))⟩).symm);done)
    |skip
end Go.Proofs.Ytkdggbfknlcdaaa

namespace Go.Proofs.Ytkdggbfknlcdaaa
open Go Go.Eng Go.Proofs
set_option maxRecDepth 10000
theorem ue6 :un0 Try.prog 115 89 33:=by
  show Try.prog.underlying 115=some (.map 89 33)
  kernel_rfl
theorem usH :ujT Try.prog 89 false 6:=(ust (by kernel_rfl)).1
def kLo (d:Dsp)(ks:List Int):Int:=bLo d.tw d.tm d.tv (ks.getD 2 0) (ks.getD 3 0) (ks.getD 4 0) (ks.getD 5 0)
def kHi (d:Dsp)(ks:List Int):Int:=bHi d.tw d.tm d.tv (ks.getD 2 0) (ks.getD 3 0) (ks.getD 4 0) (ks.getD 5 0)
theorem uec (d:Dsp):ua0 Try.prog 44 [(dspS d)] [] (fun r _=>r=(.pp 0 [(iS d.tw),(iS d.tm),(.sl 1 (.sym fun _=>zi (d.tv).length) (fun ix=>[(.sl 1 (.sym fun _=>zi ((d.tv).getD ix.den.toNat []).length) (fun jx=>[(iv fun _=>((d.tv).getD ix.den.toNat []).getD jx.den.toNat 0)]))])),(iv fun _=>d.sn),(iv fun _=>d.pn),(.sl 4 (.sym fun _=>zi (d.ls).length) (fun ix=>[(iv fun _=>((d.ls).getD ix.den.toNat l0T).a),(iv fun _=>((d.ls).getD ix.den.toNat l0T).b),(iv fun _=>((d.ls).getD ix.den.toNat l0T).lo),(iv fun _=>((d.ls).getD ix.den.toNat l0T).hi)])),(.sl 6 (.sym fun _=>zi (d.fs).length) (fun ix=>[(iv fun _=>((d.fs).getD ix.den.toNat f0T).p),(iv fun _=>((d.fs).getD ix.den.toNat f0T).s),(iv fun _=>((d.fs).getD ix.den.toNat f0T).wl),(iv fun _=>((d.fs).getD ix.den.toNat f0T).wh),(iv fun _=>((d.fs).getD ix.den.toNat f0T).ml),(iv fun _=>((d.fs).getD ix.den.toNat f0T).mh)])),(.memo 89 33 false 6 (fun ks=>.agg [(iv fun _=>kLo d ks),(iv fun _=>kHi d ks)]))])):=by
  have hmt:=ue6
  refine ua0.is fun R hR=>qW (sc:=sc44) tyok mix Try.func44 rfl Try.call44 (by kernel_rfl) (by kernel_rfl) ?_
  generalize Try.prog=P at hmt⊢
  cbv
  repeat' (first
      | (refine⟨89,33,false,6,?_⟩
         cbv
         refine hold ⟨hmt,fun h=>by cases h⟩ ?_
         refine Or.inr ⟨(fun ks=>.agg [(iv fun _=>kLo d ks),(iv fun _=>kHi d ks)]),?_⟩
         cbv)
      |fail)
  all_goals first
    |(subst hR;(repeat' (first|exact qA|exact qB|refine qC ?_ rfl ?_|refine qD ?_ ?_|exact qE (by rfl)|exact qF (by rfl)|exact Fit.refl _|exact qG _|(refine qE ?_;(try simp only [qV]at *);simp only [zQ,zA,zB,zC,zD,zE,zF,zG,zH,zI,zJ,zK,zL,zM,zN,zO,zP,zR,zS]at *;omega)));done)
    |skip
theorem urr (d:Dsp)(f:FaT)(hT:TOk d.tw d.tm d.tv)(hf:ubo d f):ua0 Try.prog 45 [(.pp 0 [(iS d.tw),(iS d.tm),(.sl 1 (.sym fun _=>zi (d.tv).length) (fun ix=>[(.sl 1 (.sym fun _=>zi ((d.tv).getD ix.den.toNat []).length) (fun jx=>[(iv fun _=>((d.tv).getD ix.den.toNat []).getD jx.den.toNat 0)]))])),(iv fun _=>d.sn),(iv fun _=>d.pn),(.sl 4 (.sym fun _=>zi (d.ls).length) (fun ix=>[(iv fun _=>((d.ls).getD ix.den.toNat l0T).a),(iv fun _=>((d.ls).getD ix.den.toNat l0T).b),(iv fun _=>((d.ls).getD ix.den.toNat l0T).lo),(iv fun _=>((d.ls).getD ix.den.toNat l0T).hi)])),(.sl 6 (.sym fun _=>zi (d.fs).length) (fun ix=>[(iv fun _=>((d.fs).getD ix.den.toNat f0T).p),(iv fun _=>((d.fs).getD ix.den.toNat f0T).s),(iv fun _=>((d.fs).getD ix.den.toNat f0T).wl),(iv fun _=>((d.fs).getD ix.den.toNat f0T).wh),(iv fun _=>((d.fs).getD ix.den.toNat f0T).ml),(iv fun _=>((d.fs).getD ix.den.toNat f0T).mh)])),(.memo 89 33 false 6 (fun ks=>.agg [(iv fun _=>kLo d ks),(iv fun _=>kHi d ks)]))]),(.agg [(iv fun _=>f.p),(iv fun _=>f.s),(iv fun _=>f.wl),(iv fun _=>f.wh),(iv fun _=>f.ml),(iv fun _=>f.mh)])] [] (fun r _=>r=(.agg [(iv fun _=>mLo d f),(iv fun _=>mHi d f)])):=by
  have hmt:=ue6
  have hko:=usH
  have c73:=unj d.tw d.tm d.tv f.wl f.wh f.ml f.mh ⟨hT,uev hf⟩
  refine ua0.is fun R hR=>qW (sc:=sc45) tyok mix Try.func45 rfl Try.call45 (by kernel_rfl) (by kernel_rfl) ?_
  generalize Try.prog=P at hmt hko c73⊢
  cbv
  repeat' (first
      |with_reducible refine hold ?_ ?_
      |with_reducible refine And.intro ?_ ?_
      | (refine qP ?_ (c73) ?hfit
         case hfit=>((repeat' (first|exact qB|refine qD ?_ ?_|exact qE (by rfl)|exact qF (by rfl)|exact Fit.refl _|exact qA|refine qC ?_ rfl ?_));done)
         try cbv)
      |fail)
  all_goals first
    |trivial
    |(subst hR;(repeat' (first|exact qA|exact qB|refine qC ?_ rfl ?_|refine qD ?_ ?_|exact qE (by rfl)|exact qF (by rfl)|exact Fit.refl _|exact qG _|(refine qE ?_;(try simp only [qV]at *);simp only [zQ,zA,zB,zC,zD,zE,zF,zG,zH,zI,zJ,zK,zL,zM,zN,zO,zP,zR,zS]at *;omega)));done)
    |(unfold Hold;exact⟨rfl,rfl,hmt,hko,⟨rfl,rfl,trivial⟩,Fit.le (qC (qE rfl) rfl (qC (qE rfl) rfl qA))⟩)
    |skip
end Go.Proofs.Ytkdggbfknlcdaaa
namespace Go.Proofs.Ytkdggbfknlcdaaa
open Go Go.Eng Go.Proofs
abbrev wpS (d:Dsp):SV:=(.pp 0 [(iS d.tw),(iS d.tm),(.sl 1 (.sym fun _=>zi (d.tv).length) (fun ix=>[(.sl 1 (.sym fun _=>zi ((d.tv).getD ix.den.toNat []).length) (fun jx=>[(iv fun _=>((d.tv).getD ix.den.toNat []).getD jx.den.toNat 0)]))])),(iv fun _=>d.sn),(iv fun _=>d.pn),(.sl 4 (.sym fun _=>zi (d.ls).length) (fun ix=>[(iv fun _=>((d.ls).getD ix.den.toNat l0T).a),(iv fun _=>((d.ls).getD ix.den.toNat l0T).b),(iv fun _=>((d.ls).getD ix.den.toNat l0T).lo),(iv fun _=>((d.ls).getD ix.den.toNat l0T).hi)])),(.sl 6 (.sym fun _=>zi (d.fs).length) (fun ix=>[(iv fun _=>((d.fs).getD ix.den.toNat f0T).p),(iv fun _=>((d.fs).getD ix.den.toNat f0T).s),(iv fun _=>((d.fs).getD ix.den.toNat f0T).wl),(iv fun _=>((d.fs).getD ix.den.toNat f0T).wh),(iv fun _=>((d.fs).getD ix.den.toNat f0T).ml),(iv fun _=>((d.fs).getD ix.den.toNat f0T).mh)])),(.memo 89 33 false 6 (fun ks=>.agg [(iv fun _=>kLo d ks),(iv fun _=>kHi d ks)]))])
end Go.Proofs.Ytkdggbfknlcdaaa

namespace Go.Proofs.Ytkdggbfknlcdaaa
open Go Go.Eng Go.Proofs Go.Eng.Dif Go.Eng.Few
set_option maxRecDepth 10000
theorem usq (o:List Int)(v:Int)(hfew:o.length≤1000):ua0 Try.prog 95 [(iS o),(iv fun _=>v)] [] (fun r _=>r=(iv fun _=>fidx (fun j=> !(decide (o.getD j 0=v))) o.length 0)):=by
  refine ua0.is fun R hR=>qW (sc:=sc95) tyok mix Try.func95 rfl Try.call95 (by kernel_rfl) (by kernel_rfl) ?_
  generalize Try.prog=P
  cbv
  repeat' (first
      |fail)
  all_goals first
    |skip
  refine⟨none,[],{i:Nat // i≤o.length∧fidx (fun j=> !(decide (o.getD j 0=v))) o.length 0=fidx (fun j=> !(decide (o.getD j 0=v))) (o.length-i) i},fun x=>⟨[(0,(iS o)),(1,(iv fun _=>v)),(7,(iv fun _=>zi o.length)),(8,(iv fun _=>zi x.1))],[],20⟩,fun x=>o.length-x.1,?_,?_⟩
  · refine⟨⟨0,by omega,rfl⟩,?_⟩
    cbv
    repeat' (first
      |with_reducible refine hold ?_ ?_
      |with_reducible refine And.intro ?_ ?_)
    all_goals first
      |trivial
      |exact qM (qE (by rfl))
      |exact qM (Fit.refl _)
      |skip
  · rintro⟨i,hi,hr⟩
    cbv
    repeat' (first
        |with_reducible refine hold ?_ ?_
        |with_reducible refine And.intro ?_ ?_
        |(with_reducible intro hcd;(try simp only [zA,zB,zC,zD,zE,zF,zG,zH,zI,zJ,zK,zL,zM,zN,zO,zP]at hcd);try cbv)
        |fail)
    all_goals first
      |((try simp only [qV]at *);(try simp only [zQ,zA,zB,zC,zD,zE,zF,zG,zH,zI,zJ,zK,zL,zM,zN,zO,zP,zR,zS]at *);first|(refine qN ?_;omega)|(simp only [Hold];omega))
      |(subst hR;(refine qE ?_;(try simp only [qV]at *);(try simp only [zQ,zA,zB,zC,zD,zE,zF,zG,zH,zI,zJ,zK,zL,zM,zN,zO,zP,zR,zS]at *);rw [hr,ubD (by omega) (by simp only [Bool.not_eq_false',decide_eq_true_eq];omega)]);done)
      |(subst hR;(refine qE ?_;(try simp only [qV]at *);(try simp only [zQ,zA,zB,zC,zD,zE,zF,zG,zH,zI,zJ,zK,zL,zM,zN,zO,zP,zR,zS]at *);rw [hr,show o.length-i=0 by omega];rfl);done)
      |((try simp only [zQ,zA,zB,zC,zD,zE,zF,zG,zH,zI,zJ,zK,zL,zM,zN,zO,zP,zR,zS]at *);refine⟨⟨i+1,by omega,by rw [hr,udb (by omega) (by simp only [Bool.not_eq_true',decide_eq_false_iff_not];omega)];(try congr 1)<;>omega⟩,by simp only [];omega,?_⟩;cbv;(repeat' (first|with_reducible refine hold ?_ ?_|with_reducible refine And.intro ?_ ?_));(all_goals first|trivial|exact qM (qE (by rfl))|exact qM (qF (by rfl))|exact qM (Fit.refl _)|exact qL (qK _)|(refine qM (qE ?_);(try simp only [qV]at *);simp only [zQ,zA,zB,zC,zD,zE,zF,zG,zH,zI,zJ,zK,zL,zM,zN,zO,zP,zR,zS]at *;omega)|skip))
      |skip
theorem ufd (o:List Int)(v:Int)(hfew:o.length≤1000):ua0 Try.prog 63 [(iS o),(iv fun _=>v)] [] (fun r _=>r=(.bool (.sym fun _=>inL o v))):=by
  have c95:=usq o v hfew
  refine ua0.is fun R hR=>qW (sc:=sc63) tyok mix Try.func63 rfl Try.call63 (by kernel_rfl) (by kernel_rfl) ?_
  generalize Try.prog=P at c95⊢
  cbv
  repeat' (first
      | (refine qP ?_ (c95) ?hfit
         case hfit=>((repeat' (first|exact qB|refine qD ?_ ?_|exact qE (by rfl)|exact qF (by rfl)|exact Fit.refl _|exact qA|refine qC ?_ rfl ?_));done)
         try cbv)
      |fail)
  all_goals first
    |(subst hR;(repeat' (first|exact qA|exact qB|refine qC ?_ rfl ?_|refine qD ?_ ?_|exact qE (by rfl)|exact qF (by rfl)|exact Fit.refl _|exact qG _|(refine qE ?_;(try simp only [qV]at *);simp only [zQ,zA,zB,zC,zD,zE,zF,zG,zH,zI,zJ,zK,zL,zM,zN,zO,zP,zR,zS]at *;omega)));done)
    |skip
theorem ume (a b:Int):ua0 Try.prog 114 [(.sl 1 (.lit 2) (fun ix=>ucc [(iv fun _=>a),(iv fun _=>b)] (0+ix.den.toNat*1) 1))] [] (fun r _=>r=(iv fun _=>min a b)):=by
  have c119:= @urj
  refine ua0.is fun R hR=>qW (sc:=uvN) tyok mix Try.func114 rfl Try.call114 (by kernel_rfl) (by kernel_rfl) ?_
  generalize Try.prog=P at c119⊢
  cbv
  repeat' (first
      | (refine qP ?_ (c119 _ _) (by(repeat' (first|exact qB|refine qD ?_ ?_|exact qE (by rfl)|exact qF (by rfl)|exact Fit.refl _|exact qA|refine qC ?_ rfl ?_)))
         try cbv)
      |fail)
  all_goals first
    |(subst hR;(repeat' (first|exact qA|exact qB|refine qC ?_ rfl ?_|refine qD ?_ ?_|exact qE (by rfl)|exact qF (by rfl)|exact Fit.refl _|exact qG _|(refine qE ?_;(try simp only [qV]at *);simp only [zQ,zA,zB,zC,zD,zE,zF,zG,zH,zI,zJ,zK,zL,zM,zN,zO,zP,zR,zS]at *;omega)));done)
    |skip
theorem ung (M:Nat→Int)(f t n:Int)(hf:0≤f∧f<4)(ht:0≤t∧t<4):ua0 Try.prog 98 [.own 0 0,(iv fun _=>f),(iv fun _=>t),(iv fun _=>n)] [.cells [(.arr 16 (fun ix=>(iv fun _=>M ix.den.toNat)))] 104] (fun r bs=>r = .tup []∧bs=[.cells [(.arr 16 (fun ix=>(iv fun _=>(lst M (at4 f.toNat t.toNat) n) ix.den.toNat)))] 104]):=by
  have c114:= @ume
  refine ua0.isB rfl fun R B hR hB=>qW (sc:=sc98) tyok mix Try.func98 rfl Try.call98 (by kernel_rfl) (by kernel_rfl) ?_
  generalize Try.prog=P at c114⊢
  cbv
  repeat' (first
      |with_reducible refine hold ?_ ?_
      |with_reducible refine And.intro ?_ ?_
      | (refine⟨fun ix=>(iv fun _=>lst M (at4 f.toNat t.toNat) n ix.den.toNat),?_⟩
         cbv
         refine hold (ug2 (by intro jx h0 h1 h2;refine qE ?_;(try simp only [qV]at *);(try simp only [zQ,zA,zB,zC,zD,zE,zF,zG,zH,zI,zJ,zK,zL,zM,zN,zO,zP,zR,zS]at *);exact usQ (M:=M) (by unfold at4;omega) (by unfold at4;omega)) (by intro jx h0 h1 h2;refine qE ?_;(try simp only [qV]at *);(try simp only [zQ,zA,zB,zC,zD,zE,zF,zG,zH,zI,zJ,zK,zL,zM,zN,zO,zP,zR,zS]at *);exact utv (by unfold at4;omega))) ?_
         try cbv)
      | ((first|(refine qR ?_ (c114 _ _) rfl (by cbv;(repeat' (first|exact qB|refine qD ?_ ?_|exact qE (by rfl)|exact qF (by rfl)|exact Fit.refl _|exact qA|refine qC ?_ rfl ?_))))|(refine⟨none,?_⟩;refine qR ?_ (c114 _ _) rfl (by cbv;(repeat' (first|exact qB|refine qD ?_ ?_|exact qE (by rfl)|exact qF (by rfl)|exact Fit.refl _|exact qA|refine qC ?_ rfl ?_)))))
         try cbv)
      |fail)
  all_goals first
    |trivial
    |(subst hR;exact Fit.refl _;done)
    |(subst hB;(repeat' (first|exact qH|refine qI ?_ ?_|exact qK _|refine qJ ?_|exact qA|exact qE (by rfl)|exact qF (by rfl)|exact Fit.refl _|exact qG _|refine qC ?_ rfl ?_));done)
    |skip
theorem uq8 {M:Nat→Int}(hM:∀i,i<16→ -1000000≤M i∧M i≤1000000) {i:Nat}(hi:i<16):Hold (inR .i64 (subI (IX.lit 0).den (IX.sym fun _=>M i).den)):=by
  have:=hM i hi
  refine qN ?_
  simp only [zQ,zA,zB,zC,zD,zE,zF,zG,zH,zI,zJ,zK,zL,zM,zN,zO,zP,zR,zS]
  omega
theorem uuW {M:Nat→Int} {a b:Nat}(h:a=b):0-M a = -M b:=by subst h;exact Int.zero_sub _
theorem uvr {M:Nat→Int} {a b:Nat}(h:a=b):M a=M b:=by subst h;rfl
theorem us2 (M:Nat→Int)(f t:Nat)(lo hi:Int)(i:Nat):lst (lst M (at4 f t) hi) (at4 t f) (0-lo) i=addB M ⟨f,t,lo,hi⟩ i:=by
  rw [Int.zero_sub];rfl
theorem uoy (M:Nat→Int)(f t lo hi:Int)(hf:0≤f∧f<4)(ht:0≤t∧t<4)(hb: -1000000≤lo∧lo≤1000000):ua0 Try.prog 67 [.own 0 0,(iv fun _=>f),(iv fun _=>t),(.agg [(iv fun _=>lo),(iv fun _=>hi)])] [.cells [(.arr 16 (fun ix=>(iv fun _=>M ix.den.toNat)))] 104] (fun r bs=>r = .tup []∧bs=[.cells [(.arr 16 (fun ix=>(iv fun _=>(addB M ⟨f.toNat,t.toNat,lo,hi⟩) ix.den.toNat)))] 104]):=by
  have c98:= @ung
  refine ua0.isB rfl fun R B hR hB=>qW (sc:=sc67) tyok mix Try.func67 rfl Try.call67 (by kernel_rfl) (by kernel_rfl) ?_
  generalize Try.prog=P at c98⊢
  cbv
  repeat' (first
      |with_reducible refine hold ?_ ?_
      |with_reducible refine And.intro ?_ ?_
      | (refine⟨some [0],?_⟩
         cbv
         refine qQ ?_ (c98 M f t hi hf ht) ?hfit ?hbo
         case hfit=>(cbv;(repeat' (first|exact qB|refine qD ?_ ?_|exact qE (by rfl)|exact qF (by rfl)|exact Fit.refl _|exact qA|refine qC ?_ rfl ?_));done)
         case hbo=>(cbv;(repeat' (first|exact qH|refine qI ?_ ?_|exact qK _|refine qJ ?_|exact qA|exact qE (by rfl)|exact qF (by rfl)|exact Fit.refl _|exact qG _|refine qC ?_ rfl ?_));done)
         try cbv)
      | (refine⟨some [0],?_⟩
         cbv
         refine qQ ?_ (c98 (lst M (at4 f.toNat t.toNat) (hi)) t f (0-lo) ht hf) ?hfit ?hbo
         case hfit=>(cbv;(repeat' (first|exact qB|refine qD ?_ ?_|exact qE (by rfl)|exact qF (by rfl)|exact Fit.refl _|exact qA|refine qC ?_ rfl ?_));done)
         case hbo=>(cbv;(repeat' (first|exact qH|refine qI ?_ ?_|exact qK _|refine qJ ?_|exact qA|exact qE (by rfl)|exact qF (by rfl)|exact Fit.refl _|exact qG _|refine qC ?_ rfl ?_));done)
         try cbv)
      |fail)
  all_goals first
    |((try simp only [qV]at *);(try simp only [zQ,zA,zB,zC,zD,zE,zF,zG,zH,zI,zJ,zK,zL,zM,zN,zO,zP,zR,zS]at *);first|(refine qN ?_;omega)|(simp only [Hold];omega))
    |(subst hR;exact Fit.refl _;done)
    |(subst hB;exact qI (qJ (uaT (fun ix h0 h1=>qE (us2 _ _ _ _ _ _)) qA)) qH)
    |skip
theorem ul1 (M:Nat→Int)(s:Int)(hs:0≤s∧s<3)(hM:∀i,i<16→ -1000000≤M i∧M i≤1000000):ua0 Try.prog 55 [.own 0 0,(iv fun _=>s)] [.cells [(.arr 16 (fun ix=>(iv fun _=>M ix.den.toNat)))] 104] (fun r bs=>r=(.agg [(iv fun _=> -M (at4 (s.toNat+1) 0)),(iv fun _=>M (at4 0 (s.toNat+1)))])∧bs=[.cells [(.arr 16 (fun ix=>(iv fun _=>M ix.den.toNat)))] 104]):=by
  refine ua0.isB rfl fun R B hR hB=>qW (sc:=sc55) tyok mix Try.func55 rfl Try.call55 (by kernel_rfl) (by kernel_rfl) ?_
  generalize Try.prog=P
  cbv
  repeat' (first
      |with_reducible refine hold ?_ ?_
      |with_reducible refine And.intro ?_ ?_
      |fail)
  all_goals first
    |trivial
    |((try simp only [qV]at *);(try simp only [zQ,zA,zB,zC,zD,zE,zF,zG,zH,zI,zJ,zK,zL,zM,zN,zO,zP,zR,zS]at *);first|(refine qN ?_;omega)|(simp only [Hold];omega))
    |(subst hR;(refine qC (qE ?_) rfl (qC (qE ?_) rfl qA)<;>((try simp only [qV]at *);(try simp only [zQ,zA,zB,zC,zD,zE,zF,zG,zH,zI,zJ,zK,zL,zM,zN,zO,zP,zR,zS]at *);first|exact uuW (by unfold at4;omega)|exact uvr (by unfold at4;omega)));done)
    |(subst hB;(repeat' (first|exact qH|refine qI ?_ ?_|exact qK _|refine qJ ?_|exact qA|exact qE (by rfl)|exact qF (by rfl)|exact Fit.refl _|exact qG _|refine qC ?_ rfl ?_));done)
    |(refine uq8 hM ?_;(try simp only [qV]at *);(try simp only [zQ,zA,zB,zC,zD,zE,zF,zG,zH,zI,zJ,zK,zL,zM,zN,zO,zP,zR,zS]at *);omega)
    |skip
end Go.Proofs.Ytkdggbfknlcdaaa

namespace Go.Proofs.Ytkdggbfknlcdaaa
open Go Go.Eng Go.Proofs Go.Eng.Dif Go.Eng.Few
set_option maxRecDepth 10000
theorem ut6 :EqOk Try.prog 104 16:=upO (e:=102) (g:=3) (n:=4) (m:=4) (by kernel_rfl)
theorem uvA {v:Nat} {Y:Nat→Int} {f t a b i:Nat}(ht:t<4)(ha:a=at4 f v)(hb:b=at4 v t):lst (phN v Y (f*4+t)) (at4 f t) (phN v Y (f*4+t) a+phN v Y (f*4+t) b) i=phN v Y (f*4+(t+1)) i:=by
  subst ha
  subst hb
  have e:phN v Y (f*4+(t+1))=stp v (phN v Y (f*4+t)) (f*4+t):=rfl
  rw [e]
  unfold stp
  rw [show(f*4+t)/4=f by omega,show(f*4+t)%4=t by omega]
  rfl
theorem uuk {v:Nat} {Y:Nat→Int} {f t i:Nat}(h:t=4):phN v Y (f*4+t) i=phN v Y ((f+1)*4) i:=by
  subst h
  rw [show f*4+4=(f+1)*4 by omega]
theorem uu0 {v:Nat} {X:Nat→Int} {f i:Nat}(h:f=4):phN v (fwN X v) (f*4) i=fwN X (v+1) i:=by subst h;rfl
theorem uur {M:Nat→Int} {n v i:Nat}(h:v=4):fwN (fwP M n) v i=fwP M (n+1) i:=by subst h;rfl
theorem usn {M:Nat→Int} {n i:Nat}(h:n=4):fwP M n i=clo M i:=by subst h;rfl
theorem usp {M:Nat→Int} {n v:Nat}(hn:n<4)(hv:v=4)(h:Same (fwN (fwP M n) v) (fwP M n)) {i:Nat}(hi:i<16):fwN (fwP M n) v i=clo M i:=by
  subst hv
  have h':Same (fwP M (n+1)) (fwP M n):=h
  have:=uqA h' (3-n) i hi
  rw [show n+1+(3-n)=4 by omega]at this
  exact this.symm
theorem ura {P:Nat→Int}(hP:∀i,i<16→ -5642219814912000≤P i∧P i≤2000) {a b:Nat}(ha:a<16)(hb:b<16):Hold (inR .i64 (addI (IX.sym fun _=>P a).den (IX.sym fun _=>P b).den)):=by
  have h1:=hP a ha
  have h2:=hP b hb
  refine qN ?_
  simp only [zQ,zA,zB,zC,zD,zE,zF,zG,zH,zI,zJ,zK,zL,zM,zN,zO,zP,zR,zS]
  omega
theorem utl {A B:Nat→Int}(h:decide (dens [IX.sym fun _=>A 0,IX.sym fun _=>A 1,IX.sym fun _=>A 2,IX.sym fun _=>A 3,IX.sym fun _=>A 4,IX.sym fun _=>A 5,IX.sym fun _=>A 6,IX.sym fun _=>A 7,IX.sym fun _=>A 8,IX.sym fun _=>A 9,IX.sym fun _=>A 10,IX.sym fun _=>A 11,IX.sym fun _=>A 12,IX.sym fun _=>A 13,IX.sym fun _=>A 14,IX.sym fun _=>A 15]=dens [IX.sym fun _=>B 0,IX.sym fun _=>B 1,IX.sym fun _=>B 2,IX.sym fun _=>B 3,IX.sym fun _=>B 4,IX.sym fun _=>B 5,IX.sym fun _=>B 6,IX.sym fun _=>B 7,IX.sym fun _=>B 8,IX.sym fun _=>B 9,IX.sym fun _=>B 10,IX.sym fun _=>B 11,IX.sym fun _=>B 12,IX.sym fun _=>B 13,IX.sym fun _=>B 14,IX.sym fun _=>B 15])=true):Same A B:=by
  have e:=of_decide_eq_true h
  simp only [dens,List.map_cons,List.map_nil,uaY,List.cons.injEq,and_true]at e
  intro i hi
  rcases(show i=0∨i=1∨i=2∨i=3∨i=4∨i=5∨i=6∨i=7∨i=8∨i=9∨i=10∨i=11∨i=12∨i=13∨i=14∨i=15 by omega)with q|q|q|q|q|q|q|q|q|q|q|q|q|q|q|q<;>subst q
  · exact e.1
  · exact e.2.1
  · exact e.2.2.1
  · exact e.2.2.2.1
  · exact e.2.2.2.2.1
  · exact e.2.2.2.2.2.1
  · exact e.2.2.2.2.2.2.1
  · exact e.2.2.2.2.2.2.2.1
  · exact e.2.2.2.2.2.2.2.2.1
  · exact e.2.2.2.2.2.2.2.2.2.1
  · exact e.2.2.2.2.2.2.2.2.2.2.1
  · exact e.2.2.2.2.2.2.2.2.2.2.2.1
  · exact e.2.2.2.2.2.2.2.2.2.2.2.2.1
  · exact e.2.2.2.2.2.2.2.2.2.2.2.2.2.1
  · exact e.2.2.2.2.2.2.2.2.2.2.2.2.2.2.1
  · exact e.2.2.2.2.2.2.2.2.2.2.2.2.2.2.2
theorem urN {M:Nat→Int} {a b:Nat}(q:¬M a<0)(h:a=b):0≤M b:=by subst h;omega
theorem urW {M:Nat→Int} {n a:Nat}(h:M a<0)(ha:a=at4 n n)(hn:n<4):false=okD M:=by
  subst ha
  symm
  rw [Bool.eq_false_iff]
  intro q
  have:=ugb.1 q n hn
  omega
theorem unK {M:Nat→Int} {n:Nat}(hn:n=4)(h:∀j,j<n→0≤M (at4 j j)):true=okD M:=by
  subst hn
  exact(ugb.2 h).symm
set_option maxHeartbeats 2000000 in
theorem usr (M:Nat→Int)(h1:∀i,i<16→ -2000≤M i)(h2:∀i,i<16→M i≤2000):ua0 Try.prog 68 [.own 0 0] [.cells [(.arr 16 (fun ix=>(iv fun _=>M ix.den.toNat)))] 104] (fun r bs=>r=(.bool (.sym fun _=>okD (clo M)))∧bs=[.cells [(.arr 16 (fun ix=>(iv fun _=>(clo M) ix.den.toNat)))] 104]):=by
  have he:=ut6
  have c98:= @ung
  refine ua0.isB rfl fun R B hR hB=>qW (sc:=sc68) tyok mix Try.func68 rfl Try.call68 (by kernel_rfl) (by kernel_rfl) ?_
  generalize Try.prog=P at he c98⊢
  cbv
  repeat' (first
      |fail)
  all_goals first
    |skip
  refine⟨none,[],{n:Nat // n≤4},fun x=>⟨[(0,.own 0 0),(8,(iv fun _=>zi x.1))],[(0,.cells [(.arr 16 (fun ix=>(iv fun _=>(fwP M x.1) ix.den.toNat)))] 104)],60⟩,fun x=>4-x.1,?_,?_⟩
  · refine⟨⟨0,by omega⟩,?_⟩
    cbv
    repeat' (first
      |with_reducible refine hold ?_ ?_
      |with_reducible refine And.intro ?_ ?_)
    all_goals first
      |trivial
      |exact qM (qE (by rfl))
      |exact qM (Fit.refl _)
      |exact qL (qK _)
      |skip
  · rintro ⟨n, hn⟩
    cbv
    repeat' (first
        |with_reducible refine And.intro ?_ ?_
        |(with_reducible intro hcd;(try simp only [zA,zB,zC,zD,zE,zF,zG,zH,zI,zJ,zK,zL,zM,zN,zO,zP]at hcd);try cbv)
        |fail)
    all_goals first
      |skip
    refine⟨none,[],{v:Nat // v≤4},fun x=>⟨[(0,.own 0 0),(8,(iv fun _=>zi n)),(3,.own 64 0),(13,(iv fun _=>zi x.1))],[(0,.cells [(.arr 16 (fun ix=>(iv fun _=>(fwN (fwP M n) x.1) ix.den.toNat)))] 104),(64,.cells [(.arr 16 (fun ix=>(iv fun _=>(fwP M n) ix.den.toNat)))] 104)],200⟩,fun x=>4-x.1,?_,?_⟩
    · refine⟨⟨0,by omega⟩,?_⟩
      cbv
      repeat' (first
        |with_reducible refine hold ?_ ?_
        |with_reducible refine And.intro ?_ ?_)
      all_goals first
        |trivial
        |exact qM (qE (by rfl))
        |exact qM (Fit.refl _)
        |exact qL (qK _)
        |skip
    · rintro ⟨v, hv⟩
      cbv
      repeat' (first
          |with_reducible refine hold ?_ ?_
          |with_reducible refine And.intro ?_ ?_
          |(with_reducible intro hcd;(try simp only [zA,zB,zC,zD,zE,zF,zG,zH,zI,zJ,zK,zL,zM,zN,zO,zP]at hcd);try cbv)
          |fail)
      all_goals first
        |trivial
        |((try simp only [qV]at *);(try simp only [zQ,zA,zB,zC,zD,zE,zF,zG,zH,zI,zJ,zK,zL,zM,zN,zO,zP,zR,zS]at *);first|(refine qN ?_;omega)|(simp only [Hold];omega))
        |((try simp only [zQ,zA,zB,zC,zD,zE,zF,zG,zH,zI,zJ,zK,zL,zM,zN,zO,zP,zR,zS]at *);refine⟨⟨n+1,by omega⟩,by simp only [];omega,?_⟩;cbv;(repeat' (first|with_reducible refine hold ?_ ?_|with_reducible refine And.intro ?_ ?_));(all_goals first|trivial|exact qM (qE (by rfl))|exact qM (qF (by rfl))|exact qM (Fit.refl _)|exact qL (qK _)|(refine qM (qE ?_);(try simp only [qV]at *);simp only [zQ,zA,zB,zC,zD,zE,zF,zG,zH,zI,zJ,zK,zL,zM,zN,zO,zP,zR,zS]at *;omega)|(refine qL (qJ (uaT (fun ix h0 h1=>qE (uur (by((try simp only [qV]at *);(try simp only [zQ,zA,zB,zC,zD,zE,zF,zG,zH,zI,zJ,zK,zL,zM,zN,zO,zP,zR,zS]at *);omega)))) qA)))|skip))
        |skip
      refine⟨none,[],{f:Nat // f≤4},fun x=>⟨[(0,.own 0 0),(8,(iv fun _=>zi n)),(3,.own 64 0),(13,(iv fun _=>zi v)),(4,(iv fun _=>zi v)),(16,(iv fun _=>zi x.1))],[(0,.cells [(.arr 16 (fun ix=>(iv fun _=>(phN v (fwN (fwP M n) v) (x.1*4)) ix.den.toNat)))] 104),(64,.cells [(.arr 16 (fun ix=>(iv fun _=>(fwP M n) ix.den.toNat)))] 104)],300⟩,fun x=>4-x.1,?_,?_⟩
      · refine⟨⟨0,by omega⟩,?_⟩
        cbv
        repeat' (first
          |with_reducible refine hold ?_ ?_
          |with_reducible refine And.intro ?_ ?_)
        all_goals first
          |trivial
          |exact qM (qE (by rfl))
          |exact qM (Fit.refl _)
          |exact qL (qK _)
          |skip
      · rintro ⟨f,hf⟩
        cbv
        repeat' (first
            |with_reducible refine hold ?_ ?_
            |with_reducible refine And.intro ?_ ?_
            |(with_reducible intro hcd;(try simp only [zA,zB,zC,zD,zE,zF,zG,zH,zI,zJ,zK,zL,zM,zN,zO,zP]at hcd);try cbv)
            |fail)
        all_goals first
          |((try simp only [qV]at *);(try simp only [zQ,zA,zB,zC,zD,zE,zF,zG,zH,zI,zJ,zK,zL,zM,zN,zO,zP,zR,zS]at *);first|(refine qN ?_;omega)|(simp only [Hold];omega))
          |((try simp only [zQ,zA,zB,zC,zD,zE,zF,zG,zH,zI,zJ,zK,zL,zM,zN,zO,zP,zR,zS]at *);refine⟨⟨v+1,by omega⟩,by simp only [];omega,?_⟩;cbv;(repeat' (first|with_reducible refine hold ?_ ?_|with_reducible refine And.intro ?_ ?_));(all_goals first|trivial|exact qM (qE (by rfl))|exact qM (qF (by rfl))|exact qM (Fit.refl _)|exact qL (qK _)|(refine qM (qE ?_);(try simp only [qV]at *);simp only [zQ,zA,zB,zC,zD,zE,zF,zG,zH,zI,zJ,zK,zL,zM,zN,zO,zP,zR,zS]at *;omega)|(refine qL (qJ (uaT (fun ix h0 h1=>qE (uu0 (by((try simp only [qV]at *);(try simp only [zQ,zA,zB,zC,zD,zE,zF,zG,zH,zI,zJ,zK,zL,zM,zN,zO,zP,zR,zS]at *);omega)))) qA)))|(refine qL (qJ (uaT (fun ix h0 h1=>qE rfl) qA)))|skip))
          |skip
        refine⟨none,[],{t:Nat // t≤4},fun x=>⟨[(0,.own 0 0),(8,(iv fun _=>zi n)),(3,.own 64 0),(13,(iv fun _=>zi v)),(4,(iv fun _=>zi v)),(16,(iv fun _=>zi f)),(5,(iv fun _=>zi f)),(19,(iv fun _=>zi x.1))],[(0,.cells [(.arr 16 (fun ix=>(iv fun _=>(phN v (fwN (fwP M n) v) (f*4+x.1)) ix.den.toNat)))] 104),(64,.cells [(.arr 16 (fun ix=>(iv fun _=>(fwP M n) ix.den.toNat)))] 104)],400⟩,fun x=>4-x.1,?_,?_⟩
        · refine⟨⟨0,by omega⟩,?_⟩
          cbv
          repeat' (first
            |with_reducible refine hold ?_ ?_
            |with_reducible refine And.intro ?_ ?_)
          all_goals first
            |trivial
            |exact qM (qE (by rfl))
            |exact qM (Fit.refl _)
            |exact qL (qK _)
            |skip
        · rintro ⟨t,ht⟩
          cbv
          repeat' (first
              |with_reducible refine hold ?_ ?_
              |with_reducible refine And.intro ?_ ?_
              |(with_reducible intro hcd;(try simp only [zA,zB,zC,zD,zE,zF,zG,zH,zI,zJ,zK,zL,zM,zN,zO,zP]at hcd);try cbv)
              | (refine⟨some [0],?_⟩
                 cbv
                 refine qQ ?_ (c98 (phN v (fwN (fwP M n) v) (f*4+t)) (zi f) (zi t) (phN v (fwN (fwP M n) v) (f*4+t) ((zi f*4+zi v)*1+0).toNat+phN v (fwN (fwP M n) v) (f*4+t) ((zi v*4+zi t)*1+0).toNat) ⟨(by((try simp only [qV]at *);(try simp only [zQ,zA,zB,zC,zD,zE,zF,zG,zH,zI,zJ,zK,zL,zM,zN,zO,zP,zR,zS]at *);omega)),(by((try simp only [qV]at *);(try simp only [zQ,zA,zB,zC,zD,zE,zF,zG,zH,zI,zJ,zK,zL,zM,zN,zO,zP,zR,zS]at *);omega))⟩ ⟨(by((try simp only [qV]at *);(try simp only [zQ,zA,zB,zC,zD,zE,zF,zG,zH,zI,zJ,zK,zL,zM,zN,zO,zP,zR,zS]at *);omega)),(by((try simp only [qV]at *);(try simp only [zQ,zA,zB,zC,zD,zE,zF,zG,zH,zI,zJ,zK,zL,zM,zN,zO,zP,zR,zS]at *);omega))⟩) ?hfit ?hbo
                 case hfit=>(cbv;(repeat' (first|exact qB|refine qD ?_ ?_|exact qE (by rfl)|exact qF (by rfl)|exact Fit.refl _|exact qA|refine qC ?_ rfl ?_));done)
                 case hbo=>(cbv;(repeat' (first|exact qH|refine qI ?_ ?_|exact qK _|refine qJ ?_|exact qA|exact qE (by rfl)|exact qF (by rfl)|exact Fit.refl _|exact qG _|refine qC ?_ rfl ?_));done)
                 try cbv)
              |fail)
          all_goals first
            |((try simp only [qV]at *);(try simp only [zQ,zA,zB,zC,zD,zE,zF,zG,zH,zI,zJ,zK,zL,zM,zN,zO,zP,zR,zS]at *);first|(refine qN ?_;omega)|(simp only [Hold];omega))
            |(refine ura (P:=phN v (fwN (fwP M n) v) (f*4+t)) (fun i hi=>uv0 h1 h2 (by((try simp only [qV]at *);(try simp only [zQ,zA,zB,zC,zD,zE,zF,zG,zH,zI,zJ,zK,zL,zM,zN,zO,zP,zR,zS]at *);omega)) (by((try simp only [qV]at *);(try simp only [zQ,zA,zB,zC,zD,zE,zF,zG,zH,zI,zJ,zK,zL,zM,zN,zO,zP,zR,zS]at *);omega)) (by((try simp only [qV]at *);(try simp only [zQ,zA,zB,zC,zD,zE,zF,zG,zH,zI,zJ,zK,zL,zM,zN,zO,zP,zR,zS]at *);omega)) hi) ?_ ?_<;>((try simp only [qV]at *);(try simp only [zQ,zA,zB,zC,zD,zE,zF,zG,zH,zI,zJ,zK,zL,zM,zN,zO,zP,zR,zS]at *);omega))
            |((try simp only [zQ,zA,zB,zC,zD,zE,zF,zG,zH,zI,zJ,zK,zL,zM,zN,zO,zP,zR,zS]at *);refine⟨⟨t+1,by omega⟩,by simp only [];omega,?_⟩;cbv;(repeat' (first|with_reducible refine hold ?_ ?_|with_reducible refine And.intro ?_ ?_));(all_goals first|trivial|exact qM (qE (by rfl))|exact qM (qF (by rfl))|exact qM (Fit.refl _)|exact qL (qK _)|(refine qM (qE ?_);(try simp only [qV]at *);simp only [zQ,zA,zB,zC,zD,zE,zF,zG,zH,zI,zJ,zK,zL,zM,zN,zO,zP,zR,zS]at *;omega)|(refine qL (qJ (uaT (fun ix h0 h1=>qE (uvA (by((try simp only [qV]at *);(try simp only [zQ,zA,zB,zC,zD,zE,zF,zG,zH,zI,zJ,zK,zL,zM,zN,zO,zP,zR,zS]at *);omega)) (by unfold at4;(try simp only [qV]at *);(try simp only [zQ,zA,zB,zC,zD,zE,zF,zG,zH,zI,zJ,zK,zL,zM,zN,zO,zP,zR,zS]at *);omega) (by unfold at4;(try simp only [qV]at *);(try simp only [zQ,zA,zB,zC,zD,zE,zF,zG,zH,zI,zJ,zK,zL,zM,zN,zO,zP,zR,zS]at *);omega))) qA)))|(refine qL (qJ (uaT (fun ix h0 h1=>qE rfl) qA)))|skip))
            |((try simp only [zQ,zA,zB,zC,zD,zE,zF,zG,zH,zI,zJ,zK,zL,zM,zN,zO,zP,zR,zS]at *);refine⟨⟨f+1,by omega⟩,by simp only [];omega,?_⟩;cbv;(repeat' (first|with_reducible refine hold ?_ ?_|with_reducible refine And.intro ?_ ?_));(all_goals first|trivial|exact qM (qE (by rfl))|exact qM (qF (by rfl))|exact qM (Fit.refl _)|exact qL (qK _)|(refine qM (qE ?_);(try simp only [qV]at *);simp only [zQ,zA,zB,zC,zD,zE,zF,zG,zH,zI,zJ,zK,zL,zM,zN,zO,zP,zR,zS]at *;omega)|(refine qL (qJ (uaT (fun ix h0 h1=>qE (uuk (by((try simp only [qV]at *);(try simp only [zQ,zA,zB,zC,zD,zE,zF,zG,zH,zI,zJ,zK,zL,zM,zN,zO,zP,zR,zS]at *);omega)))) qA)))|skip))
            |skip
      refine⟨none,[],{m:Nat // m≤4∧∀j,j<m→0≤clo M (at4 j j)},fun x=>⟨[(0,.own 0 0),(50,(iv fun _=>zi x.1))],[(0,.cells [(.arr 16 (fun ix=>(iv fun _=>(clo M) ix.den.toNat)))] 104)],500⟩,fun x=>4-x.1,?_,?_⟩
      · refine⟨⟨0,by omega,fun j hj=>by omega⟩,?_⟩
        cbv
        repeat' (first
          |with_reducible refine hold ?_ ?_
          |with_reducible refine And.intro ?_ ?_)
        all_goals first
          |trivial
          |exact qM (qE (by rfl))
          |exact qM (Fit.refl _)
          |(refine qL (qJ (uaT (fun ix h0 h1=>qE (usp (by((try simp only [qV]at *);(try simp only [zQ,zA,zB,zC,zD,zE,zF,zG,zH,zI,zJ,zK,zL,zM,zN,zO,zP,zR,zS]at *);omega)) (by((try simp only [qV]at *);(try simp only [zQ,zA,zB,zC,zD,zE,zF,zG,zH,zI,zJ,zK,zL,zM,zN,zO,zP,zR,zS]at *);omega)) (utl hcd) (by omega))) qA)))
          |skip
      · rintro⟨m,hm,hq⟩
        cbv
        repeat' (first
            |with_reducible refine hold ?_ ?_
            |with_reducible refine And.intro ?_ ?_
            |(with_reducible intro hcd;(try simp only [zA,zB,zC,zD,zE,zF,zG,zH,zI,zJ,zK,zL,zM,zN,zO,zP]at hcd);try cbv)
            |fail)
        all_goals first
          |((try simp only [qV]at *);(try simp only [zQ,zA,zB,zC,zD,zE,zF,zG,zH,zI,zJ,zK,zL,zM,zN,zO,zP,zR,zS]at *);first|(refine qN ?_;omega)|(simp only [Hold];omega))
          |(subst hR;(refine qF ?_;(try simp only [qV]at *);(try simp only [zQ,zA,zB,zC,zD,zE,zF,zG,zH,zI,zJ,zK,zL,zM,zN,zO,zP,zR,zS]at *);exact urW (n:=m) (by assumption) (by unfold at4;omega) (by omega));done)
          |(subst hR;(refine qF ?_;(try simp only [qV]at *);(try simp only [zQ,zA,zB,zC,zD,zE,zF,zG,zH,zI,zJ,zK,zL,zM,zN,zO,zP,zR,zS]at *);exact unK (n:=m) (by omega) hq);done)
          |(subst hB;(repeat' (first|exact qH|refine qI ?_ ?_|exact qK _|refine qJ ?_|exact qA|exact qE (by rfl)|exact qF (by rfl)|exact Fit.refl _|exact qG _|refine qC ?_ rfl ?_));done)
          |((try simp only [zQ,zA,zB,zC,zD,zE,zF,zG,zH,zI,zJ,zK,zL,zM,zN,zO,zP,zR,zS]at *);(have g:0≤clo M (at4 m m):=urN (by assumption) (by((try simp only [qV]at *);(try simp only [zQ,zA,zB,zC,zD,zE,zF,zG,zH,zI,zJ,zK,zL,zM,zN,zO,zP,zR,zS]at *);unfold at4;omega)));refine⟨⟨m+1,by omega,fun j hj=>(Nat.lt_or_ge j m).elim (hq j) fun q=>by rw [show j=m by omega];exact g⟩,by simp only [];omega,?_⟩;cbv;(repeat' (first|with_reducible refine hold ?_ ?_|with_reducible refine And.intro ?_ ?_));(all_goals first|trivial|exact qM (qE (by rfl))|exact qM (qF (by rfl))|exact qM (Fit.refl _)|exact qL (qK _)|(refine qM (qE ?_);(try simp only [qV]at *);simp only [zQ,zA,zB,zC,zD,zE,zF,zG,zH,zI,zJ,zK,zL,zM,zN,zO,zP,zR,zS]at *;omega)|(refine qL (qJ (uaT (fun ix h0 h1=>qE rfl) qA)))|skip))
          |skip
    refine⟨none,[],{m:Nat // m≤4∧∀j,j<m→0≤clo M (at4 j j)},fun x=>⟨[(0,.own 0 0),(50,(iv fun _=>zi x.1))],[(0,.cells [(.arr 16 (fun ix=>(iv fun _=>(clo M) ix.den.toNat)))] 104)],500⟩,fun x=>4-x.1,?_,?_⟩
    · refine⟨⟨0,by omega,fun j hj=>by omega⟩,?_⟩
      cbv
      repeat' (first
        |with_reducible refine hold ?_ ?_
        |with_reducible refine And.intro ?_ ?_)
      all_goals first
        |trivial
        |exact qM (qE (by rfl))
        |exact qM (Fit.refl _)
        |(refine qL (qJ (uaT (fun ix h0 h1=>qE (usn (by((try simp only [qV]at *);(try simp only [zQ,zA,zB,zC,zD,zE,zF,zG,zH,zI,zJ,zK,zL,zM,zN,zO,zP,zR,zS]at *);omega)))) qA)))
        |skip
    · rintro⟨m,hm,hq⟩
      cbv
      repeat' (first
          |with_reducible refine hold ?_ ?_
          |with_reducible refine And.intro ?_ ?_
          |(with_reducible intro hcd;(try simp only [zA,zB,zC,zD,zE,zF,zG,zH,zI,zJ,zK,zL,zM,zN,zO,zP]at hcd);try cbv)
          |fail)
      all_goals first
        |((try simp only [qV]at *);(try simp only [zQ,zA,zB,zC,zD,zE,zF,zG,zH,zI,zJ,zK,zL,zM,zN,zO,zP,zR,zS]at *);first|(refine qN ?_;omega)|(simp only [Hold];omega))
        |(subst hR;(refine qF ?_;(try simp only [qV]at *);(try simp only [zQ,zA,zB,zC,zD,zE,zF,zG,zH,zI,zJ,zK,zL,zM,zN,zO,zP,zR,zS]at *);exact urW (n:=m) (by assumption) (by unfold at4;omega) (by omega));done)
        |(subst hR;(refine qF ?_;(try simp only [qV]at *);(try simp only [zQ,zA,zB,zC,zD,zE,zF,zG,zH,zI,zJ,zK,zL,zM,zN,zO,zP,zR,zS]at *);exact unK (n:=m) (by omega) hq);done)
        |(subst hB;(repeat' (first|exact qH|refine qI ?_ ?_|exact qK _|refine qJ ?_|exact qA|exact qE (by rfl)|exact qF (by rfl)|exact Fit.refl _|exact qG _|refine qC ?_ rfl ?_));done)
        |((try simp only [zQ,zA,zB,zC,zD,zE,zF,zG,zH,zI,zJ,zK,zL,zM,zN,zO,zP,zR,zS]at *);(have g:0≤clo M (at4 m m):=urN (by assumption) (by((try simp only [qV]at *);(try simp only [zQ,zA,zB,zC,zD,zE,zF,zG,zH,zI,zJ,zK,zL,zM,zN,zO,zP,zR,zS]at *);unfold at4;omega)));refine⟨⟨m+1,by omega,fun j hj=>(Nat.lt_or_ge j m).elim (hq j) fun q=>by rw [show j=m by omega];exact g⟩,by simp only [];omega,?_⟩;cbv;(repeat' (first|with_reducible refine hold ?_ ?_|with_reducible refine And.intro ?_ ?_));(all_goals first|trivial|exact qM (qE (by rfl))|exact qM (qF (by rfl))|exact qM (Fit.refl _)|exact qL (qK _)|(refine qM (qE ?_);(try simp only [qV]at *);simp only [zQ,zA,zB,zC,zD,zE,zF,zG,zH,zI,zJ,zK,zL,zM,zN,zO,zP,zR,zS]at *;omega)|(refine qL (qJ (uaT (fun ix h0 h1=>qE rfl) qA)))|skip))
        |skip
end Go.Proofs.Ytkdggbfknlcdaaa

namespace Go.Proofs.Ytkdggbfknlcdaaa
open Go Go.Eng Go.Proofs Go.Eng.Dif Go.Eng.Few
set_option maxRecDepth 10000
theorem uub (d:Dsp)(o:List Int):ua0 Try.prog 87 [(wpS d),(iS o)] [] (fun r _=>r = .clo 113 [] [(.pp 0 [(wpS d)]),.pp 0 [(iS o)]]):=by
  refine ua0.is fun R hR=>qW (sc:=sc87) tyok mix Try.func87 rfl Try.call87 (by kernel_rfl) (by kernel_rfl) ?_
  generalize Try.prog=P
  cbv
  repeat' (first
      |fail)
  all_goals first
    |(subst hR;(repeat' (first|exact qA|exact qB|refine qC ?_ rfl ?_|refine qD ?_ ?_|exact qE (by rfl)|exact qF (by rfl)|exact Fit.refl _|exact qG _|(refine qE ?_;(try simp only [qV]at *);simp only [zQ,zA,zB,zC,zD,zE,zF,zG,zH,zI,zJ,zK,zL,zM,zN,zO,zP,zR,zS]at *;omega)));done)
    |skip
theorem usK (d:Dsp)(o:List Int)(hf:d.fs.length≤1000)(ho:o.length≤1000):ukT Try.prog 113 [(.pp 0 [(wpS d)]),.pp 0 [(iS o)]] (ubO d.fs o).length (fun n:Nat=>[(.agg [(iv fun _=>((ubO d.fs o).getD n f0T).p),(iv fun _=>((ubO d.fs o).getD n f0T).s),(iv fun _=>((ubO d.fs o).getD n f0T).wl),(iv fun _=>((ubO d.fs o).getD n f0T).wh),(iv fun _=>((ubO d.fs o).getD n f0T).ml),(iv fun _=>((ubO d.fs o).getD n f0T).mh)])]):=by
  obtain⟨el,hel⟩:∃el:Nat→List SV,el=(fun n:Nat=>[(.agg [(iv fun _=>((ubO d.fs o).getD n f0T).p),(iv fun _=>((ubO d.fs o).getD n f0T).s),(iv fun _=>((ubO d.fs o).getD n f0T).wl),(iv fun _=>((ubO d.fs o).getD n f0T).wh),(iv fun _=>((ubO d.fs o).getD n f0T).ml),(iv fun _=>((ubO d.fs o).getD n f0T).mh)])]):=⟨_,rfl⟩
  have hpl:∀i,ubb (.tup (el i))=true:=fun i=>by rw [hel];rfl
  have help:∀n,el n=[(.agg [(iv fun _=>((ubO d.fs o).getD n f0T).p),(iv fun _=>((ubO d.fs o).getD n f0T).s),(iv fun _=>((ubO d.fs o).getD n f0T).wl),(iv fun _=>((ubO d.fs o).getD n f0T).wh),(iv fun _=>((ubO d.fs o).getD n f0T).ml),(iv fun _=>((ubO d.fs o).getD n f0T).mh)])]:=fun n=>by rw [hel]
  rw [←hel]
  clear hel
  have c63:=fun i:Nat=>(show ua0 Try.prog 63 [(iS o),(iv fun _=>zi i)] [] (fun r _=>r=(.bool (.sym fun _=>inL o (zi i))))from ufd o (i:Int) ho)
  obtain⟨c,hc⟩:∃c,c=outL o:=⟨_,rfl⟩
  have hcy:∀i:Nat,inL o (zi i)=false→c i=true:=fun i h=>by rw [hc,←uol];unfold outB;rw [show inL o (i:Int)=false from h];rfl
  have hcn:∀i:Nat,inL o (zi i)=true→c i=false:=fun i h=>by rw [hc,←uol];unfold outB;rw [show inL o (i:Int)=true from h];rfl
  obtain⟨L,hL⟩:∃L,L=(ubO d.fs o).length:=⟨_,rfl⟩
  rw [←hL]
  obtain⟨w,hw⟩:∃w:Nat→Nat,w=fun i=>(kpT d.fs c i).length:=⟨_,rfl⟩
  have w0:w 0=0:=by rw [hw];rfl
  have wL:w d.fs.length=L:=by rw [hw,hL,hc];rfl
  have wn:∀i:Nat,c i=false→w (i+1)=w i:=fun i h=>by rw [hw];simp only [usx h]
  have wy:∀i:Nat,i<d.fs.length→c i=true→w i<L∧el (w i)=[(.agg [(iv fun _=>(d.fs.getD i f0T).p),(iv fun _=>(d.fs.getD i f0T).s),(iv fun _=>(d.fs.getD i f0T).wl),(iv fun _=>(d.fs.getD i f0T).wh),(iv fun _=>(d.fs.getD i f0T).ml),(iv fun _=>(d.fs.getD i f0T).mh)])]∧w (i+1)=w i+1:=fun i hi h=>by
    have q:=uv1 (fs:=d.fs) hi h
    rw [hw]
    refine⟨by rw [hL];unfold ubO;rw [←hc];exact q.1,?_,by simp only [uoY h,List.length_append,List.length_cons,List.length_nil]⟩
    rw [help]
    unfold ubO
    rw [←hc]
    simp only [q.2]
  clear hw hc hL help
  refine ugq (sc:=uvx) tyok mix Try.func113 rfl Try.call113 (by kernel_rfl) (by kernel_rfl) fun y=> ?_
  generalize Try.prog=P at c63⊢
  refine⟨rfl,rfl,hpl,?_⟩
  cbv
  repeat' (first
      |fail)
  all_goals first
    |skip
  refine⟨none,[],{i:Nat // i≤d.fs.length},fun x=>.atg fun _=>w x.1,fun x=>⟨[(0,.val (Value.func (Fn.yield y) ⟨[]⟩ ⟨[]⟩)),(1,(.pp 0 [(wpS d)])),(2,.pp 0 [(iS o)]),(10,(.sl 6 (.sym fun _=>zi (d.fs).length) (fun ix=>[(iv fun _=>((d.fs).getD ix.den.toNat f0T).p),(iv fun _=>((d.fs).getD ix.den.toNat f0T).s),(iv fun _=>((d.fs).getD ix.den.toNat f0T).wl),(iv fun _=>((d.fs).getD ix.den.toNat f0T).wh),(iv fun _=>((d.fs).getD ix.den.toNat f0T).ml),(iv fun _=>((d.fs).getD ix.den.toNat f0T).mh)]))),(11,(iv fun _=>zi d.fs.length)),(12,(iv fun _=>zi x.1))],[],90⟩,fun x=>d.fs.length-x.1,?_,?_⟩
  · refine⟨⟨0,by omega⟩,?_⟩
    cbv
    repeat' (first
      |with_reducible refine hold ?_ ?_
      |with_reducible refine And.intro ?_ ?_)
    all_goals first
      |trivial
      |exact qM (qE (by rfl))
      |exact qM (Fit.refl _)
      |(refine udW ?_;exact w0.symm)
      |skip
  · rintro ⟨i,hi⟩
    cbv
    repeat' (first
        |with_reducible refine hold ?_ ?_
        |with_reducible refine And.intro ?_ ?_
        |(with_reducible intro hcd;(try simp only [zA,zB,zC,zD,zE,zF,zG,zH,zI,zJ,zK,zL,zM,zN,zO,zP]at hcd);try cbv)
        | (refine qP ?_ (c63 i) ?hfit
           case hfit=>((repeat' (first|exact qB|refine qD ?_ ?_|exact qE (by rfl)|exact qF (by rfl)|exact Fit.refl _|exact qA|refine qC ?_ rfl ?_));done)
           try cbv)
        |fail)
    all_goals first
      |trivial
      |((try simp only [qV]at *);(try simp only [zQ,zA,zB,zC,zD,zE,zF,zG,zH,zI,zJ,zK,zL,zM,zN,zO,zP,zR,zS]at *);first|(refine qN ?_;omega)|(simp only [Hold];omega))
      |((have h9:=wy i (by((try simp only [qV]at *);(try simp only [zQ,zA,zB,zC,zD,zE,zF,zG,zH,zI,zJ,zK,zL,zM,zN,zO,zP,zR,zS]at *);omega)) (hcy i (by assumption)));refine uhj h9.1 ?_;rw [h9.2.1];exact Fit.refl _)
      |((try simp only [zQ,zA,zB,zC,zD,zE,zF,zG,zH,zI,zJ,zK,zL,zM,zN,zO,zP,zR,zS]at *);refine⟨⟨i+1,by omega⟩,by simp only [];omega,?_⟩;cbv;(repeat' (first|with_reducible refine hold ?_ ?_|with_reducible refine And.intro ?_ ?_));(all_goals first|trivial|exact qM (qE (by rfl))|exact qM (qF (by rfl))|exact qM (Fit.refl _)|exact qL (qK _)|(refine qM (qE ?_);(try simp only [qV]at *);simp only [zQ,zA,zB,zC,zD,zE,zF,zG,zH,zI,zJ,zK,zL,zM,zN,zO,zP,zR,zS]at *;omega)|(refine udW ?_;exact(wn i (hcn i (by assumption))).symm)|(refine udW ?_;exact(wy i (by((try simp only [qV]at *);(try simp only [zQ,zA,zB,zC,zD,zE,zF,zG,zH,zI,zJ,zK,zL,zM,zN,zO,zP,zR,zS]at *);omega)) (hcy i (by assumption))).2.2.symm)|skip))
      |(show w i=L;rw [←wL];congr 1;((try simp only [qV]at *);(try simp only [zQ,zA,zB,zC,zD,zE,zF,zG,zH,zI,zJ,zK,zL,zM,zN,zO,zP,zR,zS]at *);omega))
      |skip
end Go.Proofs.Ytkdggbfknlcdaaa
