/- Contracts of the functions that the laws come to. No condition. -/
import Derived.Test.YtkdggbfknlcdaaaE3
import Derived.Test.YtkdggbfknlcdaaaProg
set_option linter.unusedVariables false
set_option linter.unusedSimpArgs false
set_option linter.deprecated false

namespace Go.Eng.Few
open Go Go.Eng
def firstOf (f:Nat→Option (List Int)):Nat→Nat→Option (List Int)
  |0,_=>none
  | k+1,i=>match f i with
    |some r=>some r
    |none=>firstOf f k (i+1)
theorem firstOf_hit {f:Nat→Option (List Int)} {k i:Nat} {r:List Int}(hk:0<k)(h:f i=some r):firstOf f k i=some r:=by
  cases k with
  |zero=>omega
  |succ k=>simp only [firstOf,h]
theorem firstOf_go {f:Nat→Option (List Int)} {k i:Nat}(hk:0<k)(h:f i=none):firstOf f k i=firstOf f (k-1) (i+1):=by
  cases k with
  |zero=>omega
  |succ k=>simp only [firstOf,h,Nat.add_sub_cancel]
def chooseL (n:Nat)(ok:List Int→Bool):Nat→List Int→Nat→Option (List Int)
  |0,l,_=>if ok l=true then some l else none
  |m+1,l,i=>firstOf (fun j=>chooseL n ok m (l++[(j:Int)]) (j+1)) (n-m-i) i
def iotaL :Nat→List Int
  |0=>[]
  |n+1=>iotaL n++[(n:Int)]
theorem choose_full {n:Nat} {ok:List Int→Bool}(h:ok (iotaL n)=true):∀m,m≤n→chooseL n ok m (iotaL (n-m)) (n-m)=some (iotaL n):=by
  intro m
  induction m with
  |zero=>intro _;simp only [chooseL,Nat.sub_zero,h,if_true]
  | succ m ih=>
    intro hm
    have:=ih (by omega)
    simp only [chooseL]
    rw [show n-m-(n-(m+1))=1 by omega]
    refine firstOf_hit (by omega) ?_
    rw [show n-(m+1)+1=n-m by omega]
    rw [show n-m=n-(m+1)+1 by omega]at this⊢
    exact this
theorem firstOf_some {f:Nat→Option (List Int)} {j:Nat} {r:List Int}(h:f j=some r):∀k i,i≤j→j<i+k→∃r',firstOf f k i=some r':=by
  intro k
  induction k with
  |zero=>intro i h1 h2;omega
  | succ k ih=>
    intro i h1 h2
    cases hf:f i with
    |some r'=>exact⟨r',firstOf_hit (by omega) hf⟩
    | none=>
      rw [firstOf_go (by omega) hf,Nat.add_sub_cancel]
      by_cases e:i=j
      · rw [e,h]at hf;cases hf
      · exact ih (i+1) (by omega) (by omega)
theorem iota_mem {n i:Nat}(h:i<n):(i:Int)∈iotaL n:=by
  induction n with
  |zero=>omega
  | succ n ih=>
    simp only [iotaL,List.mem_append,List.mem_singleton]
    by_cases e:i=n
    · exact Or.inr (by rw [e])
    · exact Or.inl (ih (by omega))
theorem zi_app {L l:List Int} {x:Int}(h:L=l++[x]):zi l.length+1=zi L.length:=by
  subst h
  simp only [zi_den,List.length_append,List.length_cons,List.length_nil]
  omega
theorem firstOf_none {f:Nat→Option (List Int)}:∀{k i:Nat},firstOf f k i=none→∀j,i≤j→j<i+k→f j=none:=by
  intro k
  induction k with
  |zero=>intro i _ j h1 h2;omega
  | succ k ih=>
    intro i h j h1 h2
    simp only [firstOf]at h
    split at h
    · cases h
    · rename_i hf
      by_cases e:j=i
      · rw [e];exact hf
      · exact ih h j (by omega) (by omega)
theorem firstOf_at {f:Nat→Option (List Int)} {r:List Int}:∀{k i:Nat},firstOf f k i=some r→∃j,i≤j∧j<i+k∧f j=some r∧∀j',i≤j'→j'<j→f j'=none:=by
  intro k
  induction k with
  |zero=>intro i h;cases h
  | succ k ih=>
    intro i h
    simp only [firstOf]at h
    split at h
    · rename_i r' hf
      cases h
      exact⟨i,Nat.le_refl _,by omega,hf,fun j' h1 h2=>by omega⟩
    · rename_i hf
      obtain⟨j,h1,h2,h3,h4⟩:=ih h
      refine⟨j,by omega,by omega,h3,fun j' a b=> ?_⟩
      by_cases e:j'=i
      · rw [e];exact hf
      · exact h4 j' (by omega) b
def Asc (n:Nat):Nat→List Int→Prop
  |_,[]=>True
  |i,x::t=>∃j:Nat,x=(j:Int)∧i≤j∧j<n∧Asc n (j+1) t
def LexLt :List Int→List Int→Prop
  |x::s,y::t=>x<y∨(x=y∧LexLt s t)
  |_,_=>False
theorem asc_room {n:Nat}:∀{s:List Int} {i:Nat},Asc n i s→s=[]∨i+s.length≤n:=by
  intro s
  induction s with
  |nil=>intro i _;exact .inl rfl
  | cons x t ih=>
    rintro i ⟨j,_,h1,h2,h3⟩
    right
    rcases ih h3 with e|e
    · subst e;simp only [List.length_cons,List.length_nil];omega
    · simp only [List.length_cons];omega
theorem choose_none {n:Nat} {ok:List Int→Bool}:∀{m:Nat} {l:List Int} {i:Nat},chooseL n ok m l i=none→∀s,Asc n i s→s.length=m→ok (l++s)=false:=by
  intro m
  induction m with
  | zero=>
    intro l i h s hs hl
    rw [List.length_eq_zero_iff.1 hl,List.append_nil]
    simp only [chooseL]at h
    split at h
    · cases h
    · rename_i q;simpa using q
  | succ m ih=>
    intro l i h s hs hl
    cases s with
    |nil=>cases hl
    | cons x t=>
      obtain⟨j,rfl,h1,h2,h3⟩:=hs
      simp only [List.length_cons]at hl
      simp only [chooseL]at h
      have hj:j<i+(n-m-i):=by
        rcases asc_room h3 with e|e
        · rw [e]at hl;simp at hl;omega
        · omega
      have:=ih (firstOf_none h j h1 hj) t h3 (by omega)
      simpa using this
theorem choose_some {n:Nat} {ok:List Int→Bool} {F:List Int}:∀{m:Nat} {l:List Int} {i:Nat},chooseL n ok m l i=some F→∃s,Asc n i s∧s.length=m∧F=l++s∧ok F=true∧∀s',Asc n i s'→s'.length=m→ok (l++s')=true→s=s'∨LexLt s s':=by
  intro m
  induction m with
  | zero=>
    intro l i h
    simp only [chooseL]at h
    split at h
    · rename_i q
      cases h
      refine⟨[],trivial,rfl,(List.append_nil _).symm,q,fun s' _ hl _=>.inl (List.length_eq_zero_iff.1 hl).symm⟩
    · cases h
  | succ m ih=>
    intro l i h
    simp only [chooseL]at h
    obtain⟨j,h1,h2,h3,h4⟩:=firstOf_at h
    obtain⟨s,a1,a2,a3,a4,a5⟩:=ih h3
    refine⟨(j:Int)::s,⟨j,rfl,h1,by omega,a1⟩,by simp [a2],by rw [a3];simp,a4,fun s' hs hl hok=> ?_⟩
    cases s' with
    |nil=>cases hl
    | cons x t=>
      obtain⟨j',rfl,b1,b2,b3⟩:=hs
      simp only [List.length_cons]at hl
      rcases Nat.lt_trichotomy j j' with e|e|e
      · exact .inr (.inl (by omega))
      · subst e
        rcases a5 t b3 (by omega) (by simpa using hok)with q|q
        · exact .inl (by rw [q])
        · exact .inr (.inr ⟨rfl,q⟩)
      · have:=choose_none (h4 j' b1 e) t b3 (by omega)
        rw [show l++[(j':Int)]++t=l++(j':Int)::t by simp,hok]at this
        cases this
theorem asc_mono {n m:Nat}(hnm:n≤m):∀{s:List Int} {i:Nat},Asc n i s→Asc m i s:=by
  intro s
  induction s with
  |nil=>intro i _;trivial
  |cons x t ih=>rintro i ⟨j,a,b,d,e⟩;exact⟨j,a,b,by omega,ih e⟩
theorem asc_snoc {n:Nat}:∀{s:List Int} {i:Nat},i≤n→Asc n i s→Asc (n+1) i (s++[(n:Int)]):=by
  intro s
  induction s with
  |nil=>intro i hi _;exact⟨n,rfl,hi,by omega,trivial⟩
  |cons x t ih=>rintro i hi ⟨j,a,b,d,e⟩;exact⟨j,a,b,by omega,ih (by omega) e⟩
def bitsN (b:Nat):Nat→List Int
  |0=>[]
  |p+1=>if b.testBit p=true then bitsN b p++[(p:Int)]else bitsN b p
def lessL (a b:List Int):Bool:=if a.length=b.length then lexB a b else decide (a.length<b.length)
where lexB:List Int→List Int→Bool
  |x::s,y::t=>if x=y then lexB s t else decide (x<y)
  |_,_=>false
theorem lex_refl (a:List Int):lessL.lexB a a=false:=by
  induction a with
  |nil=>simp only [lessL.lexB]
  |cons x s ih=>simp only [lessL.lexB,if_true];exact ih
theorem asc_at {n:Nat} {L:List Int}:∀{s:Nat},Asc n s L→∀i,i<L.length→(s:Int)≤L.getD i 0∧L.getD i 0<n:=by
  induction L with
  |nil=>intro s _ i hi;simp at hi
  | cons x t ih=>
    rintro s ⟨j,rfl,h1,h2,h3⟩ i hi
    cases i with
    |zero=>simp only [List.getD_cons_zero];omega
    | succ i=>
      simp only [List.getD_cons_succ]
      have:=ih h3 i (by simpa using hi)
      omega
theorem bits_asc (b n:Nat):Asc n 0 (bitsN b n):=by
  induction n with
  |zero=>trivial
  | succ n ih=>
    simp only [bitsN]
    split
    · exact asc_snoc (by omega) ih
    · exact asc_mono (by omega) ih
theorem lex_trans :∀{a b d:List Int},a.length=b.length→b.length=d.length→lessL.lexB a b=true→lessL.lexB b d=true→lessL.lexB a d=true:=by
  intro a
  induction a with
  |nil=>intro b d _ _ h;cases b<;>simp [lessL.lexB]at h
  | cons x s ih=>
    intro b d h1 h2 p q
    cases b with
    |nil=>cases h1
    | cons y t=>
      cases d with
      |nil=>cases h2
      | cons z u=>
        simp only [List.length_cons,Nat.add_right_cancel_iff]at h1 h2
        simp only [lessL.lexB]at p q⊢
        by_cases e1:x=y
        · rw [if_pos e1]at p
          by_cases e2:y=z
          · rw [if_pos e2]at q
            rw [if_pos (e1.trans e2)]
            exact ih h1 h2 p q
          · rw [if_neg e2]at q
            rw [if_neg (by rw [e1];exact e2),e1]
            exact q
        · rw [if_neg e1,decide_eq_true_eq]at p
          by_cases e2:y=z
          · rw [if_neg (by omega),decide_eq_true_eq]
            omega
          · rw [if_neg e2,decide_eq_true_eq]at q
            rw [if_neg (by omega),decide_eq_true_eq]
            omega
theorem lex_of {a b:List Int}(h:LexLt a b):lessL.lexB a b=true:=by
  induction a generalizing b with
  |nil=>cases h
  | cons x s ih=>
    cases b with
    |nil=>cases h
    | cons y t=>
      simp only [lessL.lexB]
      rcases h with h|⟨h,h2⟩
      · rw [if_neg (by omega),decide_eq_true_eq];exact h
      · rw [if_pos h];exact ih h2
def fewO (n:Nat)(ok:List Int→Bool):Option (List Int):=firstOf (fun m=>chooseL n ok m [] 0) (n+1) 0
def fewL (n:Nat)(ok:List Int→Bool):List Int:=(fewO n ok).getD []
theorem few_some {n:Nat} {ok:List Int→Bool}(h:ok (iotaL n)=true):fewO n ok=some (fewL n ok):=by
  have:=choose_full h n (Nat.le_refl _)
  rw [Nat.sub_self]at this
  obtain⟨F,hF⟩:=firstOf_some (f:=fun m=>chooseL n ok m [] 0) (j:=n) this (n+1) 0 (by omega) (by omega)
  unfold fewL
  rw [show fewO n ok=some F from hF];rfl
theorem few_spec {n:Nat} {ok:List Int→Bool}(h:ok (iotaL n)=true):Asc n 0 (fewL n ok)∧ok (fewL n ok)=true ∧
    ∀s,Asc n 0 s→ok s=true→(fewL n ok).length≤s.length∧(s.length=(fewL n ok).length→fewL n ok=s∨LexLt (fewL n ok) s):=by
  have hO:=few_some h
  unfold fewO at hO
  obtain⟨m,_,h2,h3,h4⟩:=firstOf_at hO
  obtain⟨s,a1,a2,a3,a4,a5⟩:=choose_some h3
  have e:fewL n ok=s:=by rw [a3];simp
  refine⟨e▸a1,a4,fun s' hs hok=> ?_⟩
  rw [e]
  have hmin:s.length≤s'.length:=by
    refine Nat.le_of_not_lt fun hlt=> ?_
    have:=choose_none (h4 s'.length (by omega) (by omega)) s' hs rfl
    rw [List.nil_append,hok]at this
    cases this
  exact⟨hmin,fun he=>a5 s' hs (by omega) (by simpa using hok)⟩
theorem few_nil {n:Nat} {ok:List Int→Bool}(h:ok (iotaL n)=true):ok []=true↔(fewL n ok).length=0:=by
  have hs:=few_spec h
  constructor
  · intro q;have:=(hs.2.2 [] trivial q).1;simpa using this
  · intro q;have:=hs.2.1;rwa [List.length_eq_zero_iff.1 q]at this
theorem few_len {n:Nat} {ok:List Int→Bool}(h:ok (iotaL n)=true):(fewL n ok).length≤n:=by
  rcases asc_room (few_spec h).1 with e|e
  · rw [e];simp
  · omega
end Go.Eng.Few

namespace Go.Eng.Few
def allC (n:Nat)(ok:List Int→Bool):Nat→List Int→Nat→List (List Int)
  |0,l,_=>if ok l=true then [l]else []
  |m+1,l,i=>(List.range (n-m-i)).flatMap fun j=>allC n ok m (l++[((i+j:Nat):Int)]) (i+j+1)
theorem mem_allC {n:Nat} {ok:List Int→Bool}:∀{m:Nat} {l:List Int} {i:Nat} {F:List Int},F∈allC n ok m l i↔∃s,Asc n i s∧s.length=m∧F=l++s∧ok F=true:=by
  intro m
  induction m with
  | zero=>
    intro l i F
    simp only [allC]
    constructor
    · intro h
      split at h
      · rename_i q
        rw [List.mem_singleton]at h
        subst h
        exact⟨[],trivial,rfl,(List.append_nil _).symm,q⟩
      · cases h
    · rintro⟨s,_,hl,rfl,q⟩
      rw [List.length_eq_zero_iff.1 hl,List.append_nil]at q⊢
      rw [if_pos q];exact List.mem_singleton.2 rfl
  | succ m ih=>
    intro l i F
    simp only [allC,List.mem_flatMap,List.mem_range]
    constructor
    · rintro⟨j,hj,hF⟩
      obtain⟨s,a1,a2,a3,a4⟩:=ih.1 hF
      exact⟨((i+j:Nat):Int)::s,⟨i+j,rfl,by omega,by omega,a1⟩,by simp [a2],by rw [a3];simp,a4⟩
    · rintro⟨s,hs,hl,e,q⟩
      cases s with
      |nil=>cases hl
      | cons x t=>
        obtain⟨j,rfl,h1,h2,h3⟩:=hs
        simp only [List.length_cons]at hl
        have hr:j-i<n-m-i:=by
          rcases asc_room h3 with e|e
          · rw [e]at hl;simp at hl;omega
          · omega
        refine⟨j-i,hr,ih.2 ⟨t,?_,by omega,?_,q⟩⟩
        · rw [show i+(j-i)+1=j+1 by omega];exact h3
        · rw [e,show i+(j-i)=j by omega];simp
def lenO (n:Nat)(ok:List Int→Bool):Nat→Nat→List (List Int)
  |0,_=>[]
  |k+1,m=>if(allC n ok m [] 0).isEmpty=true then lenO n ok k (m+1)else allC n ok m [] 0
def shortL (n:Nat)(ok:List Int→Bool):List (List Int):=lenO n ok (n+1) 0
theorem lenO_spec {n:Nat} {ok:List Int→Bool}:∀{k m:Nat},(∃j,m≤j∧j<m+k∧allC n ok j [] 0≠[])→∃j,m≤j∧j<m+k∧lenO n ok k m=allC n ok j [] 0∧allC n ok j [] 0≠[]∧∀i,m≤i→i<j→allC n ok i [] 0=[]:=by
  intro k
  induction k with
  |zero=>rintro m ⟨j,h1,h2,_⟩;omega
  | succ k ih=>
    rintro m ⟨j,h1,h2,h3⟩
    simp only [lenO]
    cases he:(allC n ok m [] 0).isEmpty with
    | true=>
      have e0:=List.isEmpty_iff.1 he
      rw [if_pos rfl]
      have hm:m≠j:=fun q=>by subst q;exact h3 e0
      obtain⟨j',a1,a2,a3,a4,a5⟩:=ih (m:=m+1) ⟨j,by omega,by omega,h3⟩
      refine⟨j',by omega,by omega,a3,a4,fun i b1 b2=> ?_⟩
      by_cases q:i=m
      · subst q;exact e0
      · exact a5 i (by omega) b2
    | false=>
      rw [if_neg (by simp)]
      exact⟨m,Nat.le_refl _,by omega,rfl,(fun q=>by rw [q]at he;cases he),fun i b1 b2=>by omega⟩
theorem allC_head {n:Nat} {ok:List Int→Bool}:∀{m:Nat} {l:List Int} {i:Nat},(allC n ok m l i).head?=chooseL n ok m l i:=by
  intro m
  induction m with
  | zero=>
    intro l i
    simp only [allC,chooseL]
    split<;>rfl
  | succ m ih=>
    intro l i
    simp only [allC,chooseL]
    have key:∀k a,((List.range k).flatMap fun j=>allC n ok m (l++[((i+a+j:Nat):Int)]) (i+a+j+1)).head?=firstOf (fun j=>chooseL n ok m (l++[(j:Int)]) (j+1)) k (i+a):=by
      intro k
      induction k with
      |zero=>intro a;rfl
      | succ k ihk=>
        intro a
        rw [List.range_succ_eq_map,List.flatMap_cons,List.head?_append,ih]
        simp only [firstOf,Nat.add_zero]
        cases chooseL n ok m (l++[((i+a:Nat):Int)]) (i+a+1)with
        |some r=>rfl
        | none=>
          simp only [Option.none_or,List.flatMap_map]
          have:=ihk (a+1)
          rw [show i+(a+1)=i+a+1 by omega]at this
          rw [←this]
          congr 1
          congr 1
          funext j
          rw [show i+a+1+j=i+a+(j+1) by omega]
    have:=key (n-m-i) 0
    simpa using this
theorem short_ne {n:Nat} {ok:List Int→Bool}(h:ok (iotaL n)=true):∃j,j≤n∧shortL n ok=allC n ok j [] 0∧allC n ok j [] 0≠[]∧∀i,i<j→allC n ok i [] 0=[]:=by
  have hs:=few_spec h
  obtain⟨j,a1,a2,a3,a4,a5⟩:=lenO_spec (n:=n) (ok:=ok) (k:=n+1) (m:=0) ⟨(fewL n ok).length,Nat.zero_le _,by have:=few_len h;omega,fun q=>by
    have:=(mem_allC (m:=(fewL n ok).length) (l:=[]) (i:=0) (F:=fewL n ok)).2 ⟨_,hs.1,rfl,rfl,hs.2.1⟩
    rw [q]at this;cases this⟩
  exact⟨j,by omega,a3,a4,fun i hi=>a5 i (Nat.zero_le _) hi⟩
theorem short_len {n:Nat} {ok:List Int→Bool}(h:ok (iotaL n)=true) {F:List Int}:F∈shortL n ok↔Asc n 0 F∧ok F=true∧F.length=(fewL n ok).length:=by
  obtain⟨j,hj,e,hne,hno⟩:=short_ne h
  have hs:=few_spec h
  have hjl:(fewL n ok).length=j:=by
    have h1:¬(fewL n ok).length<j:=fun q=>by
      have:=(mem_allC (m:=(fewL n ok).length) (l:=[]) (i:=0) (F:=fewL n ok)).2 ⟨_,hs.1,rfl,rfl,hs.2.1⟩
      rw [hno _ q]at this;cases this
    obtain⟨F,hF⟩:=List.exists_mem_of_ne_nil _ hne
    obtain⟨s,b1,b2,b3,b4⟩:=mem_allC.1 hF
    rw [List.nil_append]at b3
    subst b3
    have:=(hs.2.2 _ b1 b4).1
    omega
  rw [e,mem_allC]
  constructor
  · rintro⟨s,b1,b2,b3,b4⟩
    rw [List.nil_append]at b3
    subst b3
    exact⟨b1,b4,by omega⟩
  · rintro⟨b1,b2,b3⟩
    exact⟨F,b1,by omega,rfl,b2⟩
theorem short_head {n:Nat} {ok:List Int→Bool}(h:ok (iotaL n)=true):(shortL n ok).head?=some (fewL n ok):=by
  obtain⟨j,hj,e,hne,hno⟩:=short_ne h
  have hs:=few_spec h
  have hm:=(short_len h (F:=fewL n ok)).2 ⟨hs.1,hs.2.1,rfl⟩
  rw [e,allC_head]
  rw [e]at hm
  obtain⟨s,b1,b2,b3,b4⟩:=mem_allC.1 hm
  cases hc:chooseL n ok j [] 0 with
  | none=>
    have:=choose_none hc s b1 b2
    rw [←b3,b4]at this;cases this
  | some G=>
    obtain⟨t,c1,c2,c3,c4,c5⟩:=choose_some hc
    rw [List.nil_append]at c3 b3
    subst c3
    have hl:(fewL n ok).length=j:=by rw [b3];exact b2
    rcases(hs.2.2 _ c1 c4).2 (by omega)with q|q
    · rw [q]
    · rcases c5 (fewL n ok) hs.1 (by omega) (by simpa using hs.2.1)with r|r
      · rw [r]
      · exfalso
        have a:=lex_of q
        have b:=lex_of r
        have:=lex_trans (by omega) (by omega) a b
        have c:=lex_refl (fewL n ok)
        rw [c]at this;cases this
end Go.Eng.Few

namespace Go.Eng.Few
def mnI (a b:Int):Int:=if b<a then b else a
def shN (P:Nat)(h:Nat→Bool):Nat→Int
  |0=>(P:Int)
  |b+1=>if h b=true then mnI (shN P h b) ((bitsN b 16).length:Int)else shN P h b
structure Agree (P:Nat)(ok:List Int→Bool)(h:Nat→Bool):Prop where
  p:P≤16
  all:ok (iotaL P)=true
  h:∀b,b<2^P→h b=ok (bitsN b 16)
def inAll (P:Nat)(ok:List Int→Bool)(p:Nat):Bool:=(shortL P ok).all fun F=>F.contains (p:Int)
def inAny (P:Nat)(ok:List Int→Bool)(p:Nat):Bool:=(shortL P ok).any fun F=>F.contains (p:Int)
def selL (f:Nat→Bool):Nat→List Int
  |0=>[]
  |p+1=>if f p=true then selL f p++[(p:Int)]else selL f p
theorem bits_sel {b:Nat} {f:Nat→Bool}:∀{n:Nat},(∀p,p<n→b.testBit p=f p)→bitsN b n=selL f n:=by
  intro n
  induction n with
  |zero=>intro _;rfl
  | succ n ih=>
    intro h
    simp only [bitsN,selL,h n (by omega),ih fun p hp=>h p (by omega)]
end Go.Eng.Few

namespace Go.Eng.Dif
def mn (a b:Int):Int:=if b<a then b else a
theorem mn_le1 (a b:Int):mn a b≤a:=by unfold mn;split<;>omega
theorem mn_le2 (a b:Int):mn a b≤b:=by unfold mn;split<;>omega
theorem mn_or (a b:Int):mn a b=a∨mn a b=b:=by unfold mn;split<;>simp
theorem mn_eq {a b:Int}(h:a≤b):mn a b=a:=by unfold mn;rw [if_neg (by omega)]
def lst (M:Nat→Int)(p:Nat)(n:Int):Nat→Int:=fun i=>if i=p then mn (M i) n else M i
def at4 (f t:Nat):Nat:=f*4+t
def stp (v:Nat)(M:Nat→Int)(k:Nat):Nat→Int:=lst M k (M (at4 (k/4) v)+M (at4 v (k%4)))
def phN (v:Nat)(M:Nat→Int):Nat→Nat→Int
  |0=>M
  |k+1=>stp v (phN v M k) k
def fwN (M:Nat→Int):Nat→Nat→Int
  |0=>M
  |v+1=>phN v (fwN M v) 16
def fw (M:Nat→Int):Nat→Int:=fwN M 4
def fwP (M:Nat→Int):Nat→Nat→Int
  |0=>M
  |n+1=>fw (fwP M n)
def clo (M:Nat→Int):Nat→Int:=fwP M 4
def okD (M:Nat→Int):Bool:=decide (0≤M 0∧0≤M 5∧0≤M 10∧0≤M 15)
def Sol (M:Nat→Int)(x:Nat→Int):Prop:=∀f t,f<4→t<4→x t-x f≤M (at4 f t)
theorem lst_le (M:Nat→Int)(p:Nat)(n:Int)(i:Nat):lst M p n i≤M i:=by
  unfold lst
  split
  · exact mn_le1 _ _
  · exact Int.le_refl _
theorem stp_le (v:Nat)(M:Nat→Int)(k i:Nat):stp v M k i≤M i:=lst_le _ _ _ _
theorem phN_le (v:Nat)(M:Nat→Int):∀k i,phN v M k i≤M i:=by
  intro k
  induction k with
  |zero=>exact fun i=>Int.le_refl _
  |succ k ih=>exact fun i=>Int.le_trans (stp_le _ _ _ _) (ih i)
theorem fwN_le (M:Nat→Int):∀v i,fwN M v i≤M i:=by
  intro v
  induction v with
  |zero=>exact fun i=>Int.le_refl _
  |succ v ih=>exact fun i=>Int.le_trans (phN_le _ _ _ _) (ih i)
theorem fw_le (M:Nat→Int)(i:Nat):fw M i≤M i:=fwN_le M 4 i
theorem fwP_le (M:Nat→Int):∀n i,fwP M n i≤M i:=by
  intro n
  induction n with
  |zero=>exact fun i=>Int.le_refl _
  |succ n ih=>exact fun i=>Int.le_trans (fw_le _ _) (ih i)
theorem clo_le (M:Nat→Int)(i:Nat):clo M i≤M i:=fwP_le M 4 i
theorem at4_div {f t:Nat}(h:t<4):at4 f t/4=f:=by unfold at4;omega
theorem at4_mod {f t:Nat}(h:t<4):at4 f t%4=t:=by unfold at4;omega
theorem stp_sol {v:Nat} {M:Nat→Int} {k:Nat} {x:Nat→Int}(hv:v<4)(hk:k<16)(h:Sol M x):Sol (stp v M k) x:=by
  intro f t hf ht
  unfold stp lst
  split
  · rename_i e
    have a:=h f t hf ht
    have b:=h (k/4) v (by omega) hv
    have c:=h v (k%4) hv (by omega)
    have e1:k/4=f:=by rw [←e];exact at4_div ht
    have e2:k%4=t:=by rw [←e];exact at4_mod ht
    rw [e1]at b
    rw [e2]at c
    rw [e1,e2]
    unfold mn
    split<;>omega
  · exact h f t hf ht
theorem phN_sol {v:Nat} {M:Nat→Int} {x:Nat→Int}(hv:v<4)(h:Sol M x):∀k,k≤16→Sol (phN v M k) x:=by
  intro k
  induction k with
  |zero=>exact fun _=>h
  |succ k ih=>exact fun hk=>stp_sol hv (by omega) (ih (by omega))
theorem fwN_sol {M:Nat→Int} {x:Nat→Int}(h:Sol M x):∀v,v≤4→Sol (fwN M v) x:=by
  intro v
  induction v with
  |zero=>exact fun _=>h
  |succ v ih=>exact fun hv=>phN_sol (by omega) (ih (by omega)) 16 (Nat.le_refl _)
theorem fw_sol {M:Nat→Int} {x:Nat→Int}(h:Sol M x):Sol (fw M) x:=fwN_sol h 4 (Nat.le_refl _)
theorem fwP_sol {M:Nat→Int} {x:Nat→Int}(h:Sol M x):∀n,Sol (fwP M n) x:=by
  intro n
  induction n with
  |zero=>exact h
  |succ n ih=>exact fw_sol ih
theorem clo_sol {M:Nat→Int} {x:Nat→Int}:Sol (clo M) x↔Sol M x:=
  ⟨fun h f t hf ht=>Int.le_trans (h f t hf ht) (clo_le M _),fun h=>fwP_sol h 4⟩
theorem phN_is {v:Nat} {M:Nat→Int}(hv:v<4)(hd:0≤M (at4 v v)):∀k,k≤16→∀f t,f<4→t<4→phN v M k (at4 f t)=if at4 f t<k then mn (M (at4 f t)) (M (at4 f v)+M (at4 v t))else M (at4 f t):=by
  intro k
  induction k with
  |zero=>intro _ f t _ _;rfl
  | succ k ih=>
    intro hk f t hf ht
    have ih:=ih (by omega)
    show stp v (phN v M k) k (at4 f t)=_
    unfold stp lst
    by_cases e:at4 f t=k
    · rw [if_pos e,if_pos (by omega)]
      have e1:k/4=f:=by rw [←e];exact at4_div ht
      have e2:k%4=t:=by rw [←e];exact at4_mod ht
      rw [e1,e2,ih f t hf ht,ih f v hf hv,ih v t hv ht,if_neg (by omega)]
      have a:(if at4 f v<k then mn (M (at4 f v)) (M (at4 f v)+M (at4 v v))else M (at4 f v))=M (at4 f v):=by
        split
        · exact mn_eq (by omega)
        · rfl
      have b:(if at4 v t<k then mn (M (at4 v t)) (M (at4 v v)+M (at4 v t))else M (at4 v t))=M (at4 v t):=by
        split
        · exact mn_eq (by omega)
        · rfl
      rw [a,b]
    · rw [if_neg e,ih f t hf ht]
      by_cases q:at4 f t<k
      · rw [if_pos q,if_pos (by omega)]
      · rw [if_neg q,if_neg (by omega)]
def Clo (M:Nat→Int):Prop:=∀f v t,f<4→v<4→t<4→M (at4 f t)≤M (at4 f v)+M (at4 v t)
def Dg (M:Nat→Int):Prop:=∀n,n<4→0≤M (at4 n n)
theorem okD_iff {M:Nat→Int}:okD M=true↔Dg M:=by
  unfold okD
  rw [decide_eq_true_eq]
  constructor
  · rintro⟨a,b,c,d⟩ n hn
    have:n=0∨n=1∨n=2∨n=3:=by omega
    rcases this with rfl|rfl|rfl|rfl
    · exact a
    · exact b
    · exact c
    · exact d
  · intro h
    exact⟨h 0 (by omega),h 1 (by omega),h 2 (by omega),h 3 (by omega)⟩
theorem fwN_step {M:Nat→Int} {v:Nat}(hv:v<4)(hd:Dg (fwN M v)) {f t:Nat}(hf:f<4)(ht:t<4):fwN M (v+1) (at4 f t)=mn (fwN M v (at4 f t)) (fwN M v (at4 f v)+fwN M v (at4 v t)):=by
  show phN v (fwN M v) 16 (at4 f t)=_
  rw [phN_is hv (hd v hv) 16 (Nat.le_refl _) f t hf ht,if_pos (by unfold at4;omega)]
theorem fwN_clo {M:Nat→Int}(hd:Dg (fw M)):∀w,w≤4→∀v,v<w→∀f t,f<4→t<4→fwN M w (at4 f t)≤fwN M w (at4 f v)+fwN M w (at4 v t):=by
  have hdw:∀w,w≤4→Dg (fwN M w):=by
    intro w hw n hn
    have key:∀d w,w+d=4→fwN M 4 (at4 n n)≤fwN M w (at4 n n):=by
      intro d
      induction d with
      |zero=>intro w e;rw [show w=4 by omega];exact Int.le_refl _
      |succ d ih=>intro w e;exact Int.le_trans (ih (w+1) (by omega)) (phN_le _ _ _ _)
    exact Int.le_trans (hd n hn) (key (4-w) w (by omega))
  intro w
  induction w with
  |zero=>intro _ v hv;omega
  | succ w ih=>
    intro hw v hv f t hf ht
    have ih:=ih (by omega)
    have hD:=hdw w (by omega)
    have hw4:w<4:=by omega
    rw [fwN_step hw4 hD hf ht,fwN_step hw4 hD hf (by omega:v<4),fwN_step hw4 hD (by omega:v<4) ht]
    have dw:=hD w hw4
    have m1:=mn_le1 (fwN M w (at4 f t)) (fwN M w (at4 f w)+fwN M w (at4 w t))
    have m2:=mn_le2 (fwN M w (at4 f t)) (fwN M w (at4 f w)+fwN M w (at4 w t))
    by_cases e:v=w
    · subst e
      rcases mn_or (fwN M v (at4 f v)) (fwN M v (at4 f v)+fwN M v (at4 v v))with q|q<;>rcases mn_or (fwN M v (at4 v t)) (fwN M v (at4 v v)+fwN M v (at4 v t))with r|r<;>rw [q,r]<;>omega
    · have c1:=ih v (by omega) f t hf ht
      have c2:=ih v (by omega) f w hf hw4
      have c3:=ih v (by omega) w t hw4 ht
      have c4:=ih v (by omega) w w hw4 hw4
      rcases mn_or (fwN M w (at4 f v)) (fwN M w (at4 f w)+fwN M w (at4 w v))with q|q<;>rcases mn_or (fwN M w (at4 v t)) (fwN M w (at4 v w)+fwN M w (at4 w t))with r|r<;>rw [q,r]<;>omega
theorem fw_clo {M:Nat→Int}(hd:Dg (fw M)):Clo (fw M):=fun f v t hf hv ht=>fwN_clo hd 4 (Nat.le_refl _) v hv f t hf ht
theorem stp_same {v:Nat} {M:Nat→Int}(hv:v<4)(hc:Clo M) {k:Nat}(hk:k<16) {i:Nat}(hi:i<16):stp v M k i=M i:=by
  unfold stp lst
  split
  · rename_i e
    subst e
    refine mn_eq ?_
    have:=hc (i/4) v (i%4) (by omega) hv (by omega)
    rwa [show at4 (i/4) (i%4)=i by unfold at4;omega]at this
  · rfl
def Same (A B:Nat→Int):Prop:=∀i,i<16→A i=B i
theorem at4_lt {f t:Nat}(hf:f<4)(ht:t<4):at4 f t<16:=by unfold at4;omega
theorem clo_same {A B:Nat→Int}(h:Same A B)(hc:Clo B):Clo A:=fun f v t hf hv ht=>by
  rw [h _ (at4_lt hf ht),h _ (at4_lt hf hv),h _ (at4_lt hv ht)];exact hc f v t hf hv ht
theorem phN_same {v:Nat} {M:Nat→Int}(hv:v<4)(hc:Clo M):∀k,k≤16→Same (phN v M k) M:=by
  intro k
  induction k with
  |zero=>intro _ i _;rfl
  | succ k ih=>
    intro hk i hi
    have ih:=ih (by omega)
    show stp v (phN v M k) k i=_
    rw [stp_same hv (clo_same ih hc) (by omega) hi]
    exact ih i hi
theorem fwN_same {M:Nat→Int}(hc:Clo M):∀v,v≤4→Same (fwN M v) M:=by
  intro v
  induction v with
  |zero=>intro _ i _;rfl
  | succ v ih=>
    intro hv i hi
    have ih:=ih (by omega)
    show phN v (fwN M v) 16 i=_
    rw [phN_same (by omega) (clo_same ih hc) 16 (Nat.le_refl _) i hi]
    exact ih i hi
theorem fw_same {M:Nat→Int}(hc:Clo M):Same (fw M) M:=fwN_same hc 4 (Nat.le_refl _)
theorem dg_mono {A B:Nat→Int}(h:∀i,A i≤B i)(hd:Dg A):Dg B:=fun n hn=>Int.le_trans (hd n hn) (h _)
theorem clo_clo {M:Nat→Int}(hd:Dg (clo M)):Clo (clo M):=by
  have h1:Dg (fw M):=dg_mono (fun i=>Int.le_trans (fw_le _ _) (Int.le_trans (fw_le _ _) (fw_le (fw M) i))) hd
  have c1:=fw_clo h1
  have s2:=fw_same c1
  have c2:=clo_same s2 c1
  have s3:=fw_same c2
  have c3:=clo_same s3 c2
  exact clo_same (fw_same c3) c3
theorem sol_of {M:Nat→Int}(hc:Clo M)(hd:Dg M)(s:Nat)(hs:s<4):Sol M (fun t=>M (at4 s t)):=fun f t hf ht=>by
  have:=hc s f t hs hf ht
  show M (at4 s t)-M (at4 s f)≤_
  omega
theorem no_sol {M:Nat→Int} {x:Nat→Int}(h:Sol M x):Dg M:=fun n hn=>by
  have:=h n n hn hn
  omega
theorem clo_ok {M:Nat→Int}:okD (clo M)=true↔∃x,Sol M x:=by
  rw [okD_iff]
  constructor
  · intro h
    exact⟨_,clo_sol.1 (sol_of (clo_clo h) h 0 (by omega))⟩
  · rintro⟨x,hx⟩
    exact no_sol (clo_sol.2 hx)
theorem fw_cong {A B:Nat→Int}(h:Same A B):Same (fw A) (fw B):=by
  have hs:∀v k X Y,v<4→k<16→Same X Y→Same (stp v X k) (stp v Y k):=fun v k X Y hv hk hXY i hi=>by
    unfold stp lst
    rw [hXY _ (at4_lt (by omega:k/4<4) hv),hXY _ (at4_lt hv (by omega:k%4<4)),hXY i hi]
  have hp:∀v X Y,v<4→Same X Y→∀k,k≤16→Same (phN v X k) (phN v Y k):=fun v X Y hv hXY k=>by
    induction k with
    |zero=>exact fun _=>hXY
    |succ k ih=>exact fun hk=>hs v k _ _ hv (by omega) (ih (by omega))
  have hf:∀v,v≤4→Same (fwN A v) (fwN B v):=fun v=>by
    induction v with
    |zero=>exact fun _=>h
    |succ v ih=>exact fun hv=>hp v _ _ (by omega) (ih (by omega)) 16 (Nat.le_refl _)
  exact hf 4 (Nat.le_refl _)
theorem fwP_stop {M:Nat→Int} {n:Nat}(h:Same (fwP M (n+1)) (fwP M n)):∀k,Same (fwP M (n+1+k)) (fwP M (n+1)):=by
  intro k
  induction k with
  |zero=>intro i _;rfl
  | succ k ih=>
    intro i hi
    show fw (fwP M (n+1+k)) i=_
    rw [fw_cong ih i hi]
    exact fw_cong h i hi
def cf (v k i:Nat):Int:=if i<k then(if i=at4 v v then 2 else if i/4=v∨i%4=v then 3 else 6)else 1
theorem ph_bd {v:Nat} {M:Nat→Int} {b:Int}(hv:v<4)(hb:0≤b)(h:∀i,i<16→ -b≤M i):∀k,k≤16→∀i,i<16→ -(cf v k i*b)≤phN v M k i:=by
  intro k
  induction k with
  |zero=>intro _ i hi;have:=h i hi;unfold cf;simp only [Nat.not_lt_zero,if_false,phN];omega
  | succ k ih=>
    intro hk i hi
    have ih:=ih (by omega)
    show _≤stp v (phN v M k) k i
    unfold stp lst
    have c1:=ih i hi
    by_cases e:i=k
    · subst e
      rw [if_pos rfl]
      have c2:=ih (at4 (i/4) v) (at4_lt (by omega) hv)
      have c3:=ih (at4 v (i%4)) (at4_lt hv (by omega))
      have key:cf v i (at4 (i/4) v)+cf v i (at4 v (i%4))≤cf v (i+1) i∧cf v i i=1∧1≤cf v (i+1) i:=by
        unfold cf at4
        have hv':v=0∨v=1∨v=2∨v=3:=by omega
        have hi':i=0∨i=1∨i=2∨i=3∨i=4∨i=5∨i=6∨i=7∨i=8∨i=9∨i=10∨i=11∨i=12∨i=13∨i=14∨i=15:=by omega
        rcases hv' with rfl|rfl|rfl|rfl<;>rcases hi' with rfl|rfl|rfl|rfl|rfl|rfl|rfl|rfl|rfl|rfl|rfl|rfl|rfl|rfl|rfl|rfl<;>decide
      obtain⟨k1,k2,k3⟩:=key
      have q1:(cf v i (at4 (i/4) v)+cf v i (at4 v (i%4)))*b≤cf v (i+1) i*b:=Int.mul_le_mul_of_nonneg_right k1 hb
      have q2:1*b≤cf v (i+1) i*b:=Int.mul_le_mul_of_nonneg_right k3 hb
      rw [Int.add_mul]at q1
      rw [k2]at c1
      generalize cf v (i+1) i*b=z at *
      generalize cf v i (at4 (i/4) v)*b=z1 at *
      generalize cf v i (at4 v (i%4))*b=z2 at *
      unfold mn
      split<;>omega
    · rw [if_neg e]
      have:cf v (k+1) i=cf v k i:=by
        unfold cf
        by_cases q:i<k
        · rw [if_pos q,if_pos (by omega)]
        · rw [if_neg q,if_neg (by omega)]
      rw [this]
      exact c1
theorem ph_bd6 {v:Nat} {M:Nat→Int} {b:Int}(hv:v<4)(hb:0≤b)(h:∀i,i<16→ -b≤M i) {k:Nat}(hk:k≤16) {i:Nat}(hi:i<16): -(6*b)≤phN v M k i:=by
  have q:=ph_bd hv hb h k hk i hi
  have c:cf v k i≤6∧0≤cf v k i:=by
    unfold cf
    repeat' split
    all_goals omega
  have:=Int.mul_le_mul_of_nonneg_right c.1 hb
  omega
theorem fwN_bd {M:Nat→Int} {b:Int}(hb:0≤b)(h:∀i,i<16→ -b≤M i):∀v,v≤4→∀i,i<16→ -(6^v*b)≤fwN M v i:=by
  intro v
  induction v with
  |zero=>intro _ i hi;have:=h i hi;show -(6^0*b)≤M i;simpa using this
  | succ v ih=>
    intro hv i hi
    have hp:(0:Int)≤6^v*b:=Int.mul_nonneg (Int.pow_nonneg (by decide)) hb
    have:=ph_bd6 (by omega:v<4) hp (ih (by omega)) (Nat.le_refl 16) hi
    rw [Int.pow_succ,Int.mul_comm (6^v) 6,Int.mul_assoc]
    exact this
end Go.Eng.Dif

namespace Go.Eng.Dif
def mx (a b:Int):Int:=if b>a then b else a
theorem mn_iff {a b n:Int}:n≤mn a b↔n≤a∧n≤b:=by unfold mn;split<;>omega
structure Six where
  l0:Int
  h0:Int
  l1:Int
  h1:Int
  l2:Int
  h2:Int
  al:Int
  ah:Int
  bl:Int
  bh:Int
  cl:Int
  ch:Int
structure Fits (s:Six)(n p q:Int):Prop where
  n0:s.l0≤n
  n1:n≤s.h0
  p0:s.l1≤p
  p1:p≤s.h1
  q0:s.l2≤q
  q1:q≤s.h2
  a0:s.al≤p-n
  a1:p-n≤s.ah
  b0:s.bl≤q-n
  b1:q-n≤s.bh
  c0:s.cl≤q-p
  c1:q-p≤s.ch
section
variable (s:Six) (n:Int)
def bL :Int:=mx s.l1 (n+s.al)
def bH :Int:=mn s.h1 (n+s.ah)
def cL :Int:=mx s.l2 (n+s.bl)
def cH :Int:=mn s.h2 (n+s.bh)
def xL :Int:=mx (bL s n) (cL s n-s.ch)
def xH :Int:=mn (bH s n) (cH s n-s.cl)
def yL :Int:=mx (cL s n) (bL s n+s.cl)
def yH :Int:=mn (cH s n) (bH s n+s.ch)
def goB :Bool:=decide (bL s n≤bH s n∧cL s n≤cH s n)&&decide (s.cl≤s.ch∧xL s n≤xH s n∧yL s n≤yH s n)
end
structure Bnd where
  l0:Int
  h0:Int
  l1:Int
  h1:Int
  l2:Int
  h2:Int
def bd0 :Bnd:=⟨9999,-1,9999,-1,9999,-1⟩
structure Sml (s:Six):Prop where
  l0:0≤s.l0
  h0:s.h0≤2000
  l1:0≤s.l1
  h1:s.h1≤2000
  l2:0≤s.l2
  h2:s.h2≤2000
structure Seen (s:Six)(k:Nat)(b:Bnd):Prop where
  none:b.h0<0→b=bd0∧∀j:Nat,j<k→goB s (s.l0+(j:Int))=false
  le:∀n p q,Fits s n p q→n<s.l0+(k:Int)→(b.l0≤n∧n≤b.h0)∧(b.l1≤p∧p≤b.h1)∧(b.l2≤q∧q≤b.h2)
  e0:0≤b.h0→(∃p q,Fits s b.l0 p q)∧∃p q,Fits s b.h0 p q
  e1:0≤b.h0→(∃n q,Fits s n b.l1 q)∧∃n q,Fits s n b.h1 q
  e2:0≤b.h0→(∃n p,Fits s n p b.l2)∧∃n p,Fits s n p b.h2
end Go.Eng.Dif

namespace Go.Eng.Dif
structure Btw where
  f:Nat
  t:Nat
  lo:Int
  hi:Int
def M00 :Nat→Int:=fun i=>if i/4=i%4 then 0 else 2000
def addB (M:Nat→Int)(b:Btw):Nat→Int:=lst (lst M (at4 b.f b.t) b.hi) (at4 b.t b.f) (-b.lo)
def addL (M:Nat→Int):List Btw→Nat→Int
  |[]=>M
  |b::l=>addL (addB M b) l
def Btw.Is (b:Btw)(x:Nat→Int):Prop:=b.lo≤x b.t-x b.f∧x b.t-x b.f≤b.hi
theorem at4_inj {f t f' t':Nat}(ht:t<4)(ht':t'<4)(h:at4 f t=at4 f' t'):f=f'∧t=t':=by unfold at4 at h;omega
theorem sol_lst {M:Nat→Int} {f t:Nat}(hf:f<4)(ht:t<4) {n:Int} {x:Nat→Int}:Sol (lst M (at4 f t) n) x↔Sol M x∧x t-x f≤n:=by
  constructor
  · intro h
    refine⟨fun a b ha hb=>Int.le_trans (h a b ha hb) (lst_le _ _ _ _),?_⟩
    have:=h f t hf ht
    unfold lst at this
    rw [if_pos rfl]at this
    exact Int.le_trans this (mn_le2 _ _)
  · rintro⟨h,hn⟩ a b ha hb
    unfold lst
    split
    · rename_i e
      obtain⟨rfl,rfl⟩:=at4_inj hb ht e
      exact mn_iff.2 ⟨h _ _ ha hb,hn⟩
    · exact h a b ha hb
theorem sol_addB {M:Nat→Int} {b:Btw}(hf:b.f<4)(ht:b.t<4) {x:Nat→Int}:Sol (addB M b) x↔Sol M x∧b.Is x:=by
  unfold addB Btw.Is
  rw [sol_lst ht hf,sol_lst hf ht]
  constructor
  · rintro⟨⟨h1,h2⟩,h3⟩;exact⟨h1,by omega,h2⟩
  · rintro⟨h1,h2,h3⟩;exact⟨⟨h1,h3⟩,by omega⟩
theorem sol_addL {l:List Btw}:∀{M:Nat→Int} {x:Nat→Int},(∀b∈l,b.f<4∧b.t<4)→(Sol (addL M l) x↔Sol M x∧∀b∈l,b.Is x):=by
  induction l with
  |nil=>intro M x _;exact⟨fun h=>⟨h,fun b hb=>by cases hb⟩,fun h=>h.1⟩
  | cons b l ih=>
    intro M x hl
    have hb:=hl b (by simp)
    show Sol (addL (addB M b) l) x↔_
    rw [ih fun c hc=>hl c (List.mem_cons_of_mem _ hc),sol_addB hb.1 hb.2]
    constructor
    · rintro⟨⟨h1,h2⟩,h3⟩
      refine⟨h1,fun c hc=> ?_⟩
      rcases List.mem_cons.1 hc with rfl|hc
      · exact h2
      · exact h3 c hc
    · rintro⟨h1,h2⟩
      exact⟨⟨h1,h2 b (by simp)⟩,fun c hc=>h2 c (List.mem_cons_of_mem _ hc)⟩
theorem addL_app {l m:List Btw}:∀{M:Nat→Int},addL M (l++m)=addL (addL M l) m:=by
  induction l with
  |nil=>intro M;rfl
  |cons b l ih=>intro M;exact ih
theorem addB_le (M:Nat→Int)(b:Btw)(i:Nat):addB M b i≤M i:=Int.le_trans (lst_le _ _ _ _) (lst_le _ _ _ _)
theorem addL_le {l:List Btw}:∀{M:Nat→Int} (i:Nat),addL M l i≤M i:=by
  induction l with
  |nil=>intro M i;exact Int.le_refl _
  |cons b l ih=>intro M i;exact Int.le_trans (ih i) (addB_le M b i)
theorem lst_ge {M:Nat→Int} {p:Nat} {n c:Int}(hn:c≤n) {i:Nat}(h:c≤M i):c≤lst M p n i:=by
  unfold lst
  split
  · exact mn_iff.2 ⟨h,hn⟩
  · exact h
theorem addL_ge {c:Int} {l:List Btw}:∀{M:Nat→Int} {i:Nat},c≤M i→(∀b∈l,c≤b.hi∧c≤ -b.lo)→c≤addL M l i:=by
  induction l with
  |nil=>intro M i h _;exact h
  | cons b l ih=>
    intro M i h hl
    have hb:=hl b (by simp)
    exact ih (lst_ge hb.2 (lst_ge hb.1 h)) fun c hc=>hl c (List.mem_cons_of_mem _ hc)
theorem hi_is {M:Nat→Int}(hd:Dg (clo M))(h0:M 0≤0) {s:Nat}(hs:s<4):(∀x,Sol M x→x s-x 0≤clo M (at4 0 s))∧Sol M (fun t=>clo M (at4 0 t))∧clo M (at4 0 0)=0:=by
  refine⟨fun x hx=>(clo_sol.2 hx) 0 s (by omega) hs,clo_sol.1 (sol_of (clo_clo hd) hd 0 (by omega)),?_⟩
  have a:=hd 0 (by omega)
  have b:=clo_le M (at4 0 0)
  have e:at4 0 0=0:=rfl
  rw [e]at a b⊢
  omega
theorem lo_is {M:Nat→Int}(hd:Dg (clo M))(h0:∀n,n<4→M (at4 n n)≤0) {s:Nat}(hs:s<4):(∀x,Sol M x→ -clo M (at4 s 0)≤x s-x 0)∧Sol M (fun t=>clo M (at4 s t))∧clo M (at4 s s)=0:=by
  refine⟨fun x hx=>by have:=(clo_sol.2 hx) s 0 hs (by omega);omega,clo_sol.1 (sol_of (clo_clo hd) hd s hs),?_⟩
  have a:=hd s hs
  have b:=clo_le M (at4 s s)
  have c:=h0 s hs
  omega
end Go.Eng.Dif

namespace Go.Eng.Dif
structure Lk where
  a:Nat
  b:Nat
  lo:Int
  hi:Int
structure Fa where
  s:Nat
  lo:Int
  hi:Int
structure Tr (S:Nat)(ls:List Lk)(fs:List Fa)(x:Nat→Int):Prop where
  r:∀s,s<S→0≤x s∧x s≤2000
  l:∀k∈ls,k.lo≤x k.b-x k.a∧x k.b-x k.a≤k.hi
  f:∀k∈fs,k.lo≤x k.s∧x k.s≤k.hi
structure Okk (S:Nat)(ls:List Lk)(fs:List Fa):Prop where
  s1:1≤S
  s3:S≤3
  l:∀k∈ls,k.a<S∧k.b<S∧k.a≠k.b
  f:∀k∈fs,k.s<S
def bS (n:Nat):List Btw:=(List.range n).map fun s=>⟨0,s+1,0,2000⟩
def bL_ (ls:List Lk):List Btw:=ls.map fun k=>⟨k.a+1,k.b+1,k.lo,k.hi⟩
def bF (fs:List Fa):List Btw:=fs.map fun k=>⟨0,k.s+1,k.lo,k.hi⟩
def matD (S:Nat)(ls:List Lk)(fs:List Fa):Nat→Int:=addL M00 (bS S++bL_ ls++bF fs)
theorem M00_sol {x:Nat→Int}(h:∀s,s<4→0≤x s∧x s≤2000):Sol M00 x:=by
  intro f t hf ht
  unfold M00
  rw [at4_div ht,at4_mod ht]
  have a:=h f hf
  have b:=h t ht
  split
  · rename_i e;subst e;omega
  · omega
theorem mat_lt {S:Nat} {ls:List Lk} {fs:List Fa}(h:Okk S ls fs):∀b∈bS S++bL_ ls++bF fs,b.f<4∧b.t<4:=by
  intro b hb
  have s3:=h.s3
  rcases List.mem_append.1 hb with hb|hb
  · rcases List.mem_append.1 hb with hb|hb
    · obtain⟨s,hs,rfl⟩:=List.mem_map.1 hb
      have:=List.mem_range.1 hs
      exact⟨by show 0<4;omega,by show s+1<4;omega⟩
    · obtain⟨k,hk,rfl⟩:=List.mem_map.1 hb
      have:=h.l k hk
      exact⟨by show k.a+1<4;omega,by show k.b+1<4;omega⟩
  · obtain⟨k,hk,rfl⟩:=List.mem_map.1 hb
    have:=h.f k hk
    exact⟨by show 0<4;omega,by show k.s+1<4;omega⟩
theorem mat_tr {S:Nat} {ls:List Lk} {fs:List Fa}(h:Okk S ls fs) {y:Nat→Int}(hy:Sol (matD S ls fs) y):Tr S ls fs (fun s=>y (s+1)-y 0):=by
  have q:=((sol_addL (mat_lt h)).1 hy).2
  refine⟨fun s hs=> ?_,fun k hk=> ?_,fun k hk=> ?_⟩
  · exact q ⟨0,s+1,0,2000⟩ (List.mem_append_left _ (List.mem_append_left _ (List.mem_map.2 ⟨s,List.mem_range.2 hs,rfl⟩)))
  · have:=q ⟨k.a+1,k.b+1,k.lo,k.hi⟩ (List.mem_append_left _ (List.mem_append_right _ (List.mem_map.2 ⟨k,hk,rfl⟩)))
    unfold Btw.Is at this
    simp only at this⊢
    omega
  · exact q ⟨0,k.s+1,k.lo,k.hi⟩ (List.mem_append_right _ (List.mem_map.2 ⟨k,hk,rfl⟩))
def nod (S:Nat)(x:Nat→Int)(n:Nat):Int:=if n=0 then 0 else if n≤S then x (n-1)else 0
theorem nod_s {S:Nat} {x:Nat→Int} {s:Nat}(h:s<S):nod S x (s+1)=x s:=by
  unfold nod
  rw [if_neg (by omega),if_pos (by omega)];rfl
theorem tr_mat {S:Nat} {ls:List Lk} {fs:List Fa}(h:Okk S ls fs) {x:Nat→Int}(hx:Tr S ls fs x):Sol (matD S ls fs) (nod S x):=by
  refine(sol_addL (mat_lt h)).2 ⟨M00_sol fun s hs=> ?_,fun b hb=> ?_⟩
  · unfold nod
    split
    · omega
    · split
      · exact hx.r _ (by omega)
      · omega
  · rcases List.mem_append.1 hb with hb|hb
    · rcases List.mem_append.1 hb with hb|hb
      · obtain⟨s,hs,rfl⟩:=List.mem_map.1 hb
        have hs:=List.mem_range.1 hs
        have:=hx.r s hs
        show 0≤nod S x (s+1)-nod S x 0∧nod S x (s+1)-nod S x 0≤2000
        rw [nod_s hs]
        show 0≤x s-0∧x s-0≤2000
        omega
      · obtain⟨k,hk,rfl⟩:=List.mem_map.1 hb
        have o:=h.l k hk
        have:=hx.l k hk
        show k.lo≤nod S x (k.b+1)-nod S x (k.a+1)∧nod S x (k.b+1)-nod S x (k.a+1)≤k.hi
        rw [nod_s o.1,nod_s o.2.1]
        exact this
    · obtain⟨k,hk,rfl⟩:=List.mem_map.1 hb
      have o:=h.f k hk
      have:=hx.f k hk
      show k.lo≤nod S x (k.s+1)-nod S x 0∧nod S x (k.s+1)-nod S x 0≤k.hi
      rw [nod_s o]
      show k.lo≤x k.s-0∧x k.s-0≤k.hi
      omega
theorem mat_diag (S:Nat)(ls:List Lk)(fs:List Fa)(n:Nat)(hn:n<4):matD S ls fs (at4 n n)≤0:=by
  have:=addL_le (M:=M00) (l:=bS S++bL_ ls++bF fs) (at4 n n)
  have e:M00 (at4 n n)=0:=by unfold M00;rw [at4_div hn,at4_mod hn,if_pos rfl]
  unfold matD
  omega
def hiD (S:Nat)(ls:List Lk)(fs:List Fa)(s:Nat):Int:=clo (matD S ls fs) (at4 0 (s+1))
def loD (S:Nat)(ls:List Lk)(fs:List Fa)(s:Nat):Int:= -clo (matD S ls fs) (at4 (s+1) 0)
def canD (S:Nat)(ls:List Lk)(fs:List Fa):Bool:=okD (clo (matD S ls fs))
theorem can_iff_tr {S:Nat} {ls:List Lk} {fs:List Fa}(h:Okk S ls fs):canD S ls fs=true↔∃x,Tr S ls fs x:=by
  unfold canD
  rw [clo_ok]
  exact⟨fun ⟨y,hy⟩=>⟨_,mat_tr h hy⟩,fun ⟨x,hx⟩=>⟨_,tr_mat h hx⟩⟩
theorem hiD_is {S:Nat} {ls:List Lk} {fs:List Fa}(h:Okk S ls fs)(hc:canD S ls fs=true) {s:Nat}(hs:s<S):(∀x,Tr S ls fs x→x s≤hiD S ls fs s)∧∃x,Tr S ls fs x∧x s=hiD S ls fs s:=by
  have s3:=h.s3
  have q:=hi_is (okD_iff.1 hc) (mat_diag S ls fs 0 (by omega)) (s:=s+1) (by omega)
  refine⟨fun x hx=> ?_,_,mat_tr h q.2.1,?_⟩
  · have:=q.1 _ (tr_mat h hx)
    rw [nod_s hs]at this
    show x s≤clo _ _
    have e:nod S x 0=0:=rfl
    omega
  · show clo _ (at4 0 (s+1))-clo _ (at4 0 0)=clo _ (at4 0 (s+1))
    rw [q.2.2];omega
theorem loD_is {S:Nat} {ls:List Lk} {fs:List Fa}(h:Okk S ls fs)(hc:canD S ls fs=true) {s:Nat}(hs:s<S):(∀x,Tr S ls fs x→loD S ls fs s≤x s)∧∃x,Tr S ls fs x∧x s=loD S ls fs s:=by
  have s3:=h.s3
  have q:=lo_is (okD_iff.1 hc) (fun n hn=>mat_diag S ls fs n hn) (s:=s+1) (by omega)
  refine⟨fun x hx=> ?_,_,mat_tr h q.2.1,?_⟩
  · have:=q.1 _ (tr_mat h hx)
    rw [nod_s hs]at this
    show -clo _ _≤x s
    have e:nod S x 0=0:=rfl
    omega
  · show clo _ (at4 (s+1) (s+1))-clo _ (at4 (s+1) 0) = -clo _ (at4 (s+1) 0)
    rw [q.2.2];omega
def ownR (s:Nat):List Fa→Int×Int
  |[]=>(0,2000)
  |k::l=>if k.s=s then(mx (ownR s l).1 k.lo,mn (ownR s l).2 k.hi)else ownR s l
def difR (a b:Nat):List Lk→Int×Int
  |[]=>(-2000,2000)
  | k::l=>
    let r:=difR a b l
    let r:=if k.a=a∧k.b=b then(mx r.1 k.lo,mn r.2 k.hi)else r
    if k.a=b∧k.b=a then(mx r.1 (-k.hi),mn r.2 (-k.lo))else r
def six (S:Nat)(ls:List Lk)(fs:List Fa):Six:=
  ⟨(ownR 0 fs).1,(ownR 0 fs).2,if 1<S then(ownR 1 fs).1 else 0,if 1<S then(ownR 1 fs).2 else 0,if 2<S then(ownR 2 fs).1 else 0,if 2<S then(ownR 2 fs).2 else 0,
   if 1<S then(difR 0 1 ls).1 else -2000,if 1<S then(difR 0 1 ls).2 else 2000,if 2<S then(difR 0 2 ls).1 else -2000,if 2<S then(difR 0 2 ls).2 else 2000,if 2<S then(difR 1 2 ls).1 else -2000,if 2<S then(difR 1 2 ls).2 else 2000⟩
def tri (n p q:Int)(s:Nat):Int:=if s=0 then n else if s=1 then p else q
def Bnd.lo (b:Bnd)(s:Nat):Int:=if s=0 then b.l0 else if s=1 then b.l1 else b.l2
def Bnd.hi (b:Bnd)(s:Nat):Int:=if s=0 then b.h0 else if s=1 then b.h1 else b.h2
end Go.Eng.Dif

namespace Go.Eng.Dif
open Go.Eng.Few
structure Rep (S:Nat)(ls:List Lk)(fs:List Fa)(s:Six):Prop where
  sml:Sml s
  tr:∀n p q,Fits s n p q→Tr S ls fs (tri n p q)
  fit:∀x,Tr S ls fs x→Fits s (x 0) (if 1<S then x 1 else 0) (if 2<S then x 2 else 0)
def f0 :Fa:=⟨0,0,0⟩
def lk0 :Lk:=⟨0,0,0,0⟩
def kpN (fs:List Fa)(c:Nat→Bool):Nat→List Fa
  |0=>[]
  |i+1=>if c i=true then kpN fs c i++[fs.getD i f0]else kpN fs c i
theorem mem_kpN {fs:List Fa} {c:Nat→Bool} {n:Nat} {k:Fa}:k∈kpN fs c n↔∃i,i<n∧c i=true∧k=fs.getD i f0:=by
  induction n with
  |zero=>simp [kpN]
  | succ n ih=>
    simp only [kpN]
    split
    · rename_i q
      rw [List.mem_append,ih,List.mem_singleton]
      constructor
      · rintro(⟨i,hi,e⟩|e)
        · exact⟨i,by omega,e⟩
        · exact⟨n,by omega,q,e⟩
      · rintro⟨i,hi,hc,e⟩
        by_cases w:i=n
        · subst w;exact .inr e
        · exact .inl ⟨i,by omega,hc,e⟩
    · rename_i q
      rw [ih]
      constructor
      · rintro⟨i,hi,e⟩;exact⟨i,by omega,e⟩
      · rintro⟨i,hi,hc,e⟩
        by_cases w:i=n
        · subst w;exact absurd hc q
        · exact⟨i,by omega,hc,e⟩
theorem fs_in {fs:List Fa} {i:Nat}(h:i<fs.length):fs.getD i f0∈fs:=by
  rw [List.getD_eq_getElem?_getD,List.getElem?_eq_getElem h];exact List.getElem_mem h
theorem in_fs {fs:List Fa} {k:Fa}(h:k∈fs):∃i,i<fs.length∧fs.getD i f0=k:=by
  obtain⟨i,hi,e⟩:=List.getElem_of_mem h
  exact⟨i,hi,by rw [List.getD_eq_getElem?_getD,List.getElem?_eq_getElem hi];exact e⟩
theorem okk_kp {S:Nat} {ls:List Lk} {fs:List Fa}(h:Okk S ls fs)(c:Nat→Bool) {n:Nat}(hn:n≤fs.length):Okk S ls (kpN fs c n):=
  ⟨h.s1,h.s3,h.l,fun k hk=>by obtain⟨i,hi,_,e⟩:=mem_kpN.1 hk;rw [e];exact h.f _ (fs_in (by omega))⟩
end Go.Eng.Dif

namespace Go.Eng.Dif
open Go.Eng.Few
def outL (o:List Int)(i:Nat):Bool:= !(o.contains (i:Int))
def canO (S:Nat)(ls:List Lk)(fs:List Fa)(c:Nat→Bool):Bool:=canD S ls (kpN fs c fs.length)
theorem tr_kp {S:Nat} {ls:List Lk} {fs:List Fa} {c:Nat→Bool} {x:Nat→Int}:Tr S ls (kpN fs c fs.length) x↔Tr S ls [] x∧∀i,i<fs.length→c i=true→(fs.getD i f0).lo≤x (fs.getD i f0).s∧x (fs.getD i f0).s≤(fs.getD i f0).hi:=by
  constructor
  · intro h
    exact⟨⟨h.r,h.l,fun k hk=>by cases hk⟩,fun i hi hc=>h.f _ (mem_kpN.2 ⟨i,hi,hc,rfl⟩)⟩
  · rintro⟨h1,h2⟩
    refine⟨h1.r,h1.l,fun k hk=> ?_⟩
    obtain⟨i,hi,hc,rfl⟩:=mem_kpN.1 hk
    exact h2 i hi hc
theorem canO_iff {S:Nat} {ls:List Lk} {fs:List Fa}(h:Okk S ls fs) {c:Nat→Bool}:canO S ls fs c=true↔∃x,Tr S ls [] x∧∀i,i<fs.length→c i=true→(fs.getD i f0).lo≤x (fs.getD i f0).s∧x (fs.getD i f0).s≤(fs.getD i f0).hi:=by
  unfold canO
  rw [can_iff_tr (okk_kp h c (Nat.le_refl _))]
  exact⟨fun ⟨x,hx⟩=>⟨x,tr_kp.1 hx⟩,fun ⟨x,hx⟩=>⟨x,tr_kp.2 hx⟩⟩
theorem canO_mono {S:Nat} {ls:List Lk} {fs:List Fa}(h:Okk S ls fs) {c d:Nat→Bool}(hcd:∀i,i<fs.length→d i=true→c i=true)(hc:canO S ls fs c=true):canO S ls fs d=true:=by
  rw [canO_iff h]at hc⊢
  obtain⟨x,h1,h2⟩:=hc
  exact⟨x,h1,fun i hi hd=>h2 i hi (hcd i hi hd)⟩
theorem canO_cong {S:Nat} {ls:List Lk} {fs:List Fa}(h:Okk S ls fs) {c d:Nat→Bool}(hcd:∀i,i<fs.length→d i=c i):canO S ls fs c=canO S ls fs d:=
  Bool.eq_iff_iff.2 ⟨canO_mono h fun i hi q=>by rw [←hcd i hi];exact q,canO_mono h fun i hi q=>by rw [hcd i hi];exact q⟩
theorem okk_nil {S:Nat} {ls:List Lk} {fs:List Fa}(h:Okk S ls fs):Okk S ls []:=⟨h.s1,h.s3,h.l,fun k hk=>by cases hk⟩
theorem canO_none {S:Nat} {ls:List Lk} {fs:List Fa}(h:Okk S ls fs) {c:Nat→Bool}(hc:∀i,i<fs.length→c i=false):canO S ls fs c=canD S ls []:=by
  apply Bool.eq_iff_iff.2
  rw [canO_iff h,can_iff_tr (okk_nil h)]
  exact⟨fun ⟨x,h1,_⟩=>⟨x,h1⟩,fun ⟨x,h1⟩=>⟨x,h1,fun i hi q=>by rw [hc i hi]at q;cases q⟩⟩
theorem canO_all {S:Nat} {ls:List Lk} {fs:List Fa}(h:Okk S ls fs) {c:Nat→Bool}(hc:∀i,i<fs.length→c i=true):canO S ls fs c=canD S ls fs:=by
  apply Bool.eq_iff_iff.2
  rw [canO_iff h,can_iff_tr h]
  constructor
  · rintro⟨x,h1,h2⟩
    refine⟨x,h1.r,h1.l,fun k hk=> ?_⟩
    obtain⟨i,hi,e⟩:=in_fs hk
    rw [←e]
    exact h2 i hi (hc i hi)
  · rintro⟨x,hx⟩
    exact⟨x,⟨hx.r,hx.l,fun k hk=>by cases hk⟩,fun i hi _=>hx.f _ (fs_in hi)⟩
def okF (S:Nat)(ls:List Lk)(fs:List Fa)(o:List Int):Bool:=canO S ls fs (outL o)
theorem okF_all {S:Nat} {ls:List Lk} {fs:List Fa}(h:Okk S ls fs):okF S ls fs (iotaL fs.length)=canD S ls []:=
  canO_none h fun i hi=>by unfold outL;rw [List.contains_iff_mem.2 (iota_mem hi)];rfl
theorem okF_nil {S:Nat} {ls:List Lk} {fs:List Fa}(h:Okk S ls fs):okF S ls fs []=canD S ls fs:=
  canO_all h fun i _=>rfl
def outP (pt:Nat→Int)(o:List Int)(i:Nat):Bool:= !(o.contains (pt i))
def okP (S:Nat)(ls:List Lk)(fs:List Fa)(pt:Nat→Int)(o:List Int):Bool:=canO S ls fs (outP pt o)
theorem okP_all {S:Nat} {ls:List Lk} {fs:List Fa}(h:Okk S ls fs) {pt:Nat→Int} {P:Nat}(hpt:∀i,i<fs.length→0≤pt i∧pt i<(P:Int)):okP S ls fs pt (iotaL P)=canD S ls []:=
  canO_none h fun i hi=>by
    have hp:=hpt i hi
    have:=iota_mem (n:=P) (i:=(pt i).toNat) (by omega)
    rw [show(((pt i).toNat:Nat):Int)=pt i by omega]at this
    unfold outP
    rw [List.contains_iff_mem.2 this];rfl
theorem okP_nil {S:Nat} {ls:List Lk} {fs:List Fa}(h:Okk S ls fs)(pt:Nat→Int):okP S ls fs pt []=canD S ls fs:=
  canO_all h fun i _=>rfl
def firN (S:Nat)(ls:List Lk)(fs:List Fa):Nat→Nat→Option Nat
  |0,_=>none
  |k+1,i=>if canD S ls (fs.take (i+1))=true then firN S ls fs k (i+1)else some i
theorem firN_some {S:Nat} {ls:List Lk} {fs:List Fa}:∀{k i r:Nat},firN S ls fs k i=some r→i≤r∧r<i+k∧canD S ls (fs.take (r+1))=false∧∀j,i≤j→j<r→canD S ls (fs.take (j+1))=true:=by
  intro k
  induction k with
  |zero=>intro i r h;cases h
  | succ k ih=>
    intro i r h
    simp only [firN]at h
    split at h
    · rename_i q
      obtain⟨h1,h2,h3,h4⟩:=ih h
      refine⟨by omega,by omega,h3,fun j a b=> ?_⟩
      by_cases e:j=i
      · subst e;exact q
      · exact h4 j (by omega) b
    · rename_i q
      cases h
      exact⟨Nat.le_refl _,by omega,by simpa using q,fun j a b=>by omega⟩
theorem take_at {fs:List Fa} {n i:Nat}(h:i<n):(fs.take n).getD i f0=fs.getD i f0:=by
  simp only [List.getD_eq_getElem?_getD,List.getElem?_take,if_pos h]
theorem canD_iff {S:Nat} {ls:List Lk} {fs:List Fa}(h:Okk S ls fs):canD S ls fs=true↔∃x,Tr S ls [] x∧∀i,i<fs.length→(fs.getD i f0).lo≤x (fs.getD i f0).s∧x (fs.getD i f0).s≤(fs.getD i f0).hi:=by
  rw [←canO_all h (c:=fun _=>true) (fun _ _=>rfl),canO_iff h]
  exact⟨fun ⟨x,h1,h2⟩=>⟨x,h1,fun i hi=>h2 i hi rfl⟩,fun ⟨x,h1,h2⟩=>⟨x,h1,fun i hi _=>h2 i hi⟩⟩
theorem okk_take {S:Nat} {ls:List Lk} {fs:List Fa}(h:Okk S ls fs)(n:Nat):Okk S ls (fs.take n):=⟨h.s1,h.s3,h.l,fun k hk=>h.f k (List.mem_of_mem_take hk)⟩
theorem take_can {S:Nat} {ls:List Lk} {fs:List Fa}(h:Okk S ls fs)(n:Nat):canD S ls (fs.take n)=canO S ls fs (fun i=>decide (i<n)):=by
  apply Bool.eq_iff_iff.2
  rw [canD_iff (okk_take h n),canO_iff h]
  constructor
  · rintro⟨x,h1,h2⟩
    refine⟨x,h1,fun i hi hn=> ?_⟩
    have hn:=of_decide_eq_true hn
    have:=h2 i (by rw [List.length_take];omega)
    rwa [take_at hn]at this
  · rintro⟨x,h1,h2⟩
    refine⟨x,h1,fun i hi=> ?_⟩
    rw [List.length_take]at hi
    rw [take_at (by omega)]
    exact h2 i (by omega) (decide_eq_true (by omega))
end Go.Eng.Dif

namespace Go.Eng.Dif
open Go.Eng.Few
theorem sel_mem {g:Nat→Bool} {x:Int}:∀{n:Nat},x∈selL g n↔∃i,i<n∧g i=true∧x=(i:Int):=by
  intro n
  induction n with
  |zero=>simp [selL]
  | succ n ih=>
    simp only [selL]
    split
    · rename_i q
      rw [List.mem_append,ih]
      constructor
      · rintro(⟨i,hi,hg,e⟩|hx)
        · exact⟨i,by omega,hg,e⟩
        · rw [List.mem_singleton]at hx
          exact⟨n,by omega,q,hx⟩
      · rintro⟨i,hi,hg,e⟩
        by_cases c:i=n
        · right;rw [List.mem_singleton,e,c]
        · left;exact⟨i,by omega,hg,e⟩
    · rename_i q
      rw [ih]
      constructor
      · rintro⟨i,hi,hg,e⟩;exact⟨i,by omega,hg,e⟩
      · rintro⟨i,hi,hg,e⟩
        by_cases c:i=n
        · subst c;exact absurd hg q
        · exact⟨i,by omega,hg,e⟩
theorem sel_asc {g:Nat→Bool} {n:Nat}:Asc n 0 (selL g n):=by
  have h:∀m,∃b:Nat,∀i,i<m→b.testBit i=g i:=by
    intro m
    induction m with
    |zero=>exact⟨0,fun i hi=>by omega⟩
    | succ m ih=>
      obtain⟨b,hb⟩:=ih
      by_cases c:b.testBit m=g m
      · exact⟨b,fun i hi=>by
          by_cases e:i=m
          · subst e;exact c
          · exact hb i (by omega)⟩
      · refine⟨b ^^^2^m,fun i hi=> ?_⟩
        rw [Nat.testBit_xor,Nat.testBit_two_pow]
        by_cases e:i=m
        · subst e;revert c;cases b.testBit i<;>cases g i<;>simp
        · rw [decide_eq_false (by omega),Bool.xor_false];exact hb i (by omega)
  obtain⟨b,hb⟩:=h n
  rw [←bits_sel (b:=b) hb]
  exact bits_asc b n
theorem few_nil {n:Nat} {ok:List Int→Bool}(h:ok (iotaL n)=true):(fewL n ok).length=0↔ok []=true:=by
  have hs:=few_spec h
  constructor
  · intro q;have:=hs.2.1;rwa [List.length_eq_zero_iff.1 q]at this
  · intro q;have:=(hs.2.2 [] trivial q).1;simpa using this
def bear (pence n i:Nat):Nat:=pence/n+(if i<pence%n then 1 else 0)
end Go.Eng.Dif

namespace Go.Eng.Dif
open Go.Eng.Few
def showD (S:Nat)(ls:List Lk)(fs:List Fa)(s:Nat)(n:Int)(t:Nat):Int:=clo (addB (clo (matD S ls fs)) ⟨0,s+1,n,n⟩) (at4 0 (t+1))
def endD (S:Nat)(ls:List Lk)(fs:List Fa)(s:Nat)(high:Bool):Int:=if high=true then hiD S ls fs s else loD S ls fs s
theorem show_of {S:Nat} {ls:List Lk} {fs:List Fa}(h:Okk S ls fs) {s:Nat}(hs:s<S) {n:Int}(hx:∃x,Tr S ls fs x∧x s=n):Tr S ls fs (showD S ls fs s n)∧showD S ls fs s n s=n:=by
  obtain⟨x,hx,hn⟩:=hx
  have h3:=h.s3
  have sm:∀y,Sol (addB (clo (matD S ls fs)) ⟨0,s+1,n,n⟩) y↔Sol (matD S ls fs) y∧(⟨0,s+1,n,n⟩:Btw).Is y:=fun y=>by
    rw [sol_addB (by show(0:Nat)<4;omega) (by show s+1<4;omega),clo_sol]
  have hd:Dg (clo (addB (clo (matD S ls fs)) ⟨0,s+1,n,n⟩)):=by
    rw [←okD_iff,clo_ok]
    refine⟨nod S x,(sm _).2 ⟨tr_mat h hx,?_⟩⟩
    have e1:=nod_s (x:=x) hs
    have e0:nod S x 0=0:=rfl
    unfold Btw.Is
    show n≤nod S x (s+1)-nod S x 0∧nod S x (s+1)-nod S x 0≤n
    omega
  have h0:addB (clo (matD S ls fs)) ⟨0,s+1,n,n⟩ 0≤0:=
    Int.le_trans (addB_le _ _ _) (Int.le_trans (clo_le _ _) (mat_diag S ls fs 0 (by omega)))
  have q:=hi_is hd h0 (s:=s+1) (by omega)
  have r:=(sm _).1 q.2.1
  have t:=mat_tr h r.1
  have e:(fun s'=>clo (addB (clo (matD S ls fs)) ⟨0,s+1,n,n⟩) (at4 0 (s'+1))-clo (addB (clo (matD S ls fs)) ⟨0,s+1,n,n⟩) (at4 0 0))=showD S ls fs s n:=by
    funext s'
    rw [q.2.2]
    show _-0=clo _ _
    omega
  rw [e]at t
  refine⟨t,?_⟩
  have b:=r.2
  unfold Btw.Is at b
  have b:n≤showD S ls fs s n s-clo (addB (clo (matD S ls fs)) ⟨0,s+1,n,n⟩) (at4 0 0)∧showD S ls fs s n s-clo (addB (clo (matD S ls fs)) ⟨0,s+1,n,n⟩) (at4 0 0)≤n:=b
  rw [q.2.2]at b
  omega
theorem show_is {S:Nat} {ls:List Lk} {fs:List Fa}(h:Okk S ls fs)(hc:canD S ls fs=true) {s:Nat}(hs:s<S)(high:Bool):Tr S ls fs (showD S ls fs s (endD S ls fs s high))∧showD S ls fs s (endD S ls fs s high) s=endD S ls fs s high:=by
  refine show_of h hs ?_
  unfold endD
  cases high
  · exact(loD_is h hc hs).2
  · exact(hiD_is h hc hs).2
theorem end_bd {S:Nat} {ls:List Lk} {fs:List Fa}(h:Okk S ls fs)(hc:canD S ls fs=true) {s:Nat}(hs:s<S):0≤loD S ls fs s∧loD S ls fs s≤hiD S ls fs s∧hiD S ls fs s≤2000:=by
  obtain⟨a1,x,hx,ex⟩:=hiD_is h hc hs
  obtain⟨b1,y,hy,ey⟩:=loD_is h hc hs
  have r:=hx.r s hs
  have r':=hy.r s hs
  have:=b1 x hx
  omega
end Go.Eng.Dif

namespace Go.Eng.Dif
open Go.Eng.Few
theorem few_is1 {n:Nat} {ok:List Int→Bool}(h:ok (iotaL n)=true) {k:Nat}(hk:k<n)(h0:ok []=false)(hj:∀j:Nat,j<k→ok [(j:Int)]=false)(h1:ok [(k:Int)]=true):fewL n ok=[(k:Int)]:=by
  have s:=few_spec h
  have a:Asc n 0 [(k:Int)]:=⟨k,rfl,Nat.zero_le _,hk,trivial⟩
  have q:=s.2.2 _ a h1
  generalize fewL n ok=F at s q⊢
  match F,s,q with
  |[],s,_=>rw [h0]at s;exact absurd s.2.1 (by decide)
  | [x],s,q=>
    rcases q.2 rfl with e|e
    · exact e
    · obtain⟨j,hx,_,_,_⟩:=s.1
      have:x<(k:Int):=by
        rcases e with e|e
        · exact e
        · exact absurd e.2 (by intro z;exact z)
      have t:=hj j (by omega)
      have u:=s.2.1
      rw [hx,t]at u;cases u
  |x::y::l,_,q=>exact absurd q.1 (by simp)
theorem few_is0 {n:Nat} {ok:List Int→Bool}(h:ok (iotaL n)=true)(h0:ok []=true):fewL n ok=[]:=List.length_eq_zero_iff.1 ((few_nil h).2 h0)
theorem short_is1 {n:Nat} {ok:List Int→Bool}(h:ok (iotaL n)=true) {k:Nat}(hk:k<n)(h0:ok []=false)(hj:∀j:Nat,j<n→j≠k→ok [(j:Int)]=false)(h1:ok [(k:Int)]=true) {F:List Int}:F∈shortL n ok↔F=[(k:Int)]:=by
  have e:=few_is1 h hk h0 (fun j hj'=>hj j (by omega) (by omega)) h1
  rw [short_len h,e]
  constructor
  · rintro⟨a,b,c⟩
    match F,a,b,c with
    | [x],a,b,_=>
      obtain⟨j,hx,_,hj',_⟩:=a
      by_cases q:j=k
      · rw [hx,q]
      · rw [hx,hj j hj' q]at b;cases b
    |[],_,_,c=>cases c
    |_::_::_,_,_,c=>simp at c
  · intro q;rw [q]
    exact⟨⟨k,rfl,Nat.zero_le _,hk,trivial⟩,h1,rfl⟩
theorem inAll_1 {n:Nat} {ok:List Int→Bool}(h:ok (iotaL n)=true) {k:Nat}(hk:k<n)(h0:ok []=false)(hj:∀j:Nat,j<n→j≠k→ok [(j:Int)]=false)(h1:ok [(k:Int)]=true)(p:Nat):inAll n ok p=decide (p=k)∧inAny n ok p=decide (p=k):=by
  have m:=fun F=>short_is1 h hk h0 hj h1 (F:=F)
  have c:∀F:List Int,F=[(k:Int)]→(F.contains (p:Int)=true↔p=k):=by
    intro F e
    rw [e,List.contains_iff_mem,List.mem_singleton]
    omega
  constructor
  · apply Bool.eq_iff_iff.2
    rw [decide_eq_true_iff]
    unfold inAll
    rw [List.all_eq_true]
    exact⟨fun q=>(c _ rfl).1 (q _ ((m _).2 rfl)),fun q F hF=>(c F ((m F).1 hF)).2 q⟩
  · apply Bool.eq_iff_iff.2
    rw [decide_eq_true_iff]
    unfold inAny
    rw [List.any_eq_true]
    exact⟨fun ⟨F,hF,q⟩=>(c F ((m F).1 hF)).1 q,fun q=>⟨_,(m _).2 rfl,(c _ rfl).2 q⟩⟩
theorem inAll_0 {n:Nat} {ok:List Int→Bool}(h:ok (iotaL n)=true)(h0:ok []=true)(p:Nat):inAll n ok p=false∧inAny n ok p=false:=by
  have m:∀F,F∈shortL n ok↔F=[]:=by
    intro F
    rw [short_len h,few_is0 h h0]
    constructor
    · rintro⟨_,_,c⟩;exact List.length_eq_zero_iff.1 c
    · intro q;rw [q];exact⟨trivial,h0,rfl⟩
  constructor
  · unfold inAll
    rw [Bool.eq_false_iff]
    intro q
    have:=List.all_eq_true.1 q [] ((m _).2 rfl)
    simp at this
  · unfold inAny
    rw [Bool.eq_false_iff]
    intro q
    obtain⟨F,hF,g⟩:=List.any_eq_true.1 q
    rw [(m F).1 hF]at g
    simp at g
theorem hiD_eq {S:Nat} {ls:List Lk} {fs:List Fa}(h:Okk S ls fs) {s:Nat}(hs:s<S) {n:Int} {x:Nat→Int}(hx:Tr S ls fs x)(hn:x s=n)(hm:∀y,Tr S ls fs y→y s≤n):hiD S ls fs s=n:=by
  have hc:=(can_iff_tr h).2 ⟨x,hx⟩
  obtain⟨a,y,hy,e⟩:=hiD_is h hc hs
  have:=a x hx
  have:=hm y hy
  omega
theorem loD_eq {S:Nat} {ls:List Lk} {fs:List Fa}(h:Okk S ls fs) {s:Nat}(hs:s<S) {n:Int} {x:Nat→Int}(hx:Tr S ls fs x)(hn:x s=n)(hm:∀y,Tr S ls fs y→n≤y s):loD S ls fs s=n:=by
  have hc:=(can_iff_tr h).2 ⟨x,hx⟩
  obtain⟨a,y,hy,e⟩:=loD_is h hc hs
  have:=a x hx
  have:=hm y hy
  omega
end Go.Eng.Dif

namespace Go.Eng.Dif
open Go.Eng.Few
def xL3 :List Lk:=[⟨0,1,-3,0⟩]
def xF3 :List Fa:=[⟨0,115,119⟩,⟨0,98,102⟩,⟨1,116,116⟩]
def xF2 :List Fa:=[⟨0,115,119⟩,⟨1,116,116⟩]
def xP3 (i:Nat):Int:=(i:Int)
def xP2 (i:Nat):Int:=if i=0 then 0 else 2
def xT (a b:Int)(s:Nat):Int:=if s=0 then a else b
theorem xT_tr {a b:Int}(ha:0≤a∧a≤2000)(hb:0≤b∧b≤2000)(hd: -3≤b-a∧b-a≤0):Tr 2 xL3 [] (xT a b):=by
  refine⟨fun s hs=> ?_,fun k hk=> ?_,fun k hk=>by cases hk⟩
  · unfold xT;split<;>assumption
  · rw [List.mem_singleton.1 hk];exact hd
theorem xok3 :Okk 2 xL3 xF3:=by
  refine⟨by decide,by decide,fun k hk=> ?_,fun k hk=> ?_⟩
  · rw [List.mem_singleton.1 hk];exact⟨by decide,by decide,by decide⟩
  · unfold xF3 at hk
    simp only [List.mem_cons,List.not_mem_nil,or_false]at hk
    rcases hk with e|e|e<;>rw [e]<;>decide
theorem xok2 :Okk 2 xL3 xF2:=by
  refine⟨by decide,by decide,fun k hk=> ?_,fun k hk=> ?_⟩
  · rw [List.mem_singleton.1 hk];exact⟨by decide,by decide,by decide⟩
  · unfold xF2 at hk
    simp only [List.mem_cons,List.not_mem_nil,or_false]at hk
    rcases hk with e|e<;>rw [e]<;>decide
theorem xc3 (c:Nat→Bool):canO 2 xL3 xF3 c = !(c 1&&(c 0||c 2)):=by
  apply Bool.eq_iff_iff.2
  rw [canO_iff xok3]
  constructor
  · rintro⟨x,t,hf⟩
    have hl: -3≤x 1-x 0∧x 1-x 0≤0:=t.l _ (List.mem_singleton.2 rfl)
    have f0:c 0=true→115≤x 0∧x 0≤119:=hf 0 (by decide)
    have f1:c 1=true→98≤x 0∧x 0≤102:=hf 1 (by decide)
    have f2:c 2=true→116≤x 1∧x 1≤116:=hf 2 (by decide)
    cases h1:c 1
    · rfl
    · have f1:=f1 h1
      cases h0:c 0
      · cases h2:c 2
        · rfl
        · have f2:=f2 h2;omega
      · have f0:=f0 h0;omega
  · intro q
    cases h1:c 1
    · refine⟨xT 117 116,xT_tr (by decide) (by decide) (by decide),fun i hi hc=> ?_⟩
      have hi:i<3:=hi
      rcases(show i=0∨i=1∨i=2 by omega)with e|e|e<;>subst e
      · exact⟨by decide,by decide⟩
      · rw [h1]at hc;cases hc
      · exact⟨by decide,by decide⟩
    · rw [h1]at q
      cases h0:c 0
      · cases h2:c 2
        · refine⟨xT 100 100,xT_tr (by decide) (by decide) (by decide),fun i hi hc=> ?_⟩
          have hi:i<3:=hi
          rcases(show i=0∨i=1∨i=2 by omega)with e|e|e<;>subst e
          · rw [h0]at hc;cases hc
          · exact⟨by decide,by decide⟩
          · rw [h2]at hc;cases hc
        · rw [h0,h2]at q;cases q
      · rw [h0]at q;cases q
theorem xall3 :canD 2 xL3 []=true:=(can_iff_tr (okk_nil xok3)).2 ⟨_,xT_tr (a:=117) (b:=116) (by decide) (by decide) (by decide)⟩
theorem xof3 (o:List Int):okF 2 xL3 xF3 o = !(!(o.contains 1)&&(!(o.contains 0)|| !(o.contains 2))):=xc3 _
theorem xop3 (o:List Int):okP 2 xL3 xF3 xP3 o = !(!(o.contains 1)&&(!(o.contains 0)|| !(o.contains 2))):=xc3 _
theorem xfew3 :fewL 3 (okF 2 xL3 xF3)=[1]:=by
  have hj:∀j:Nat,j<1→okF 2 xL3 xF3 [(j:Int)]=false:=fun j hj=>by
    rw [xof3]
    rcases(show j=0 by omega)with e
    subst e;decide
  exact few_is1 (n:=3) (k:=1) (by rw [xof3];decide) (by decide) (by rw [xof3];decide) hj (by rw [xof3];decide)
theorem xpar3 :fewL 3 (okP 2 xL3 xF3 xP3)=[1]∧selL (inAll 3 (okP 2 xL3 xF3 xP3)) 3=[1]∧selL (inAny 3 (okP 2 xL3 xF3 xP3)) 3=[1]:=by
  have hj:∀j:Nat,j<3→j≠1→okP 2 xL3 xF3 xP3 [(j:Int)]=false:=fun j hj h1=>by
    rw [xop3]
    rcases(show j=0∨j=2 by omega)with e|e<;>subst e<;>decide
  have a:=inAll_1 (n:=3) (k:=1) (ok:=okP 2 xL3 xF3 xP3) (by rw [xop3];decide) (by decide) (by rw [xop3];decide) hj (by rw [xop3];decide)
  refine⟨few_is1 (n:=3) (k:=1) (by rw [xop3];decide) (by decide) (by rw [xop3];decide) (fun j q=>hj j (by omega) (by omega)) (by rw [xop3];decide),?_,?_⟩
  · simp only [selL,(a _).1];decide
  · simp only [selL,(a _).2];decide
theorem xt2 {a b:Int}(ha:116≤a∧a≤119)(hb:b=116):Tr 2 xL3 xF2 (xT a b):=by
  have t:=xT_tr (a:=a) (b:=b) (by omega) (by omega) (by omega)
  refine⟨t.r,t.l,fun k hk=> ?_⟩
  unfold xF2 at hk
  simp only [List.mem_cons,List.not_mem_nil,or_false]at hk
  rcases hk with e|e<;>rw [e]
  · show 115≤a∧a≤119;omega
  · show 116≤b∧b≤116;omega
theorem xi2 {x:Nat→Int}(t:Tr 2 xL3 xF2 x):116≤x 0∧x 0≤119∧x 1=116:=by
  have hl: -3≤x 1-x 0∧x 1-x 0≤0:=t.l _ (List.mem_singleton.2 rfl)
  have h0:115≤x 0∧x 0≤119:=t.f ⟨0,115,119⟩ (by unfold xF2;exact List.mem_cons_self ..)
  have h1:116≤x 1∧x 1≤116:=t.f ⟨1,116,116⟩ (by unfold xF2;exact List.mem_cons_of_mem _ (List.mem_cons_self ..))
  omega
theorem xbd2 :canD 2 xL3 xF2=true∧loD 2 xL3 xF2 0=116∧hiD 2 xL3 xF2 0=119∧loD 2 xL3 xF2 1=116∧hiD 2 xL3 xF2 1=116:=
  ⟨(can_iff_tr xok2).2 ⟨_,xt2 (a:=117) (by decide) rfl⟩,
   loD_eq xok2 (by decide) (xt2 (a:=116) (by decide) rfl) rfl fun y h=>(xi2 h).1,
   hiD_eq xok2 (by decide) (xt2 (a:=119) (by decide) rfl) rfl fun y h=>(xi2 h).2.1,
   loD_eq xok2 (by decide) (xt2 (a:=116) (by decide) rfl) rfl fun y h=>Int.le_of_eq (xi2 h).2.2.symm,
   hiD_eq xok2 (by decide) (xt2 (a:=119) (by decide) rfl) rfl fun y h=>Int.le_of_eq (xi2 h).2.2⟩
theorem xpar2 :fewL 3 (okP 2 xL3 xF2 xP2)=[]∧fewL 2 (okF 2 xL3 xF2)=[]∧selL (inAll 3 (okP 2 xL3 xF2 xP2)) 3=[]∧selL (inAny 3 (okP 2 xL3 xF2 xP2)) 3=[]:=by
  have hp:∀i,i<xF2.length→0≤xP2 i∧xP2 i<((3:Nat):Int):=fun i _=>by unfold xP2;split<;>decide
  have h:okP 2 xL3 xF2 xP2 (iotaL 3)=true:=by rw [okP_all xok2 hp];exact xall3
  have h0:okP 2 xL3 xF2 xP2 []=true:=by rw [okP_nil xok2];exact xbd2.1
  have a:=inAll_0 h h0
  have hall:okF 2 xL3 xF2 (iotaL 2)=true:=(okF_all xok2).trans xall3
  refine⟨few_is0 h h0,few_is0 (hall) (by rw [okF_nil xok2];exact xbd2.1),?_,?_⟩
  · simp only [selL,(a _).1];decide
  · simp only [selL,(a _).2];decide
theorem xtk3 (n:Nat):canD 2 xL3 (xF3.take n) = !(decide (1<n)&&(decide (0<n)||decide (2<n))):=by
  rw [take_can xok3,xc3]
theorem xfir3 :firN 2 xL3 xF3 3 0=some 1:=by
  have a:canD 2 xL3 (xF3.take 1)=true:=by rw [xtk3];decide
  have b:canD 2 xL3 (xF3.take 2)=false:=by rw [xtk3];decide
  simp [firN,a,b]
end Go.Eng.Dif

namespace Go.Eng.Dif
open Go.Eng.Few
def costN (pence:Nat)(L:List Int)(n:Nat):Nat→Nat→Int
  |0,_=>0
  |k+1,p=>if(p:Int)=L.getD k 0 then(bear pence n k:Int)else costN pence L n k p
theorem iota_asc (P:Nat):Asc P 0 (iotaL P):=by
  have:iotaL P=selL (fun _=>true) P:=by
    induction P with
    |zero=>rfl
    |succ P ih=>simp only [selL,iotaL,ih,if_true]
  rw [this]
  exact sel_asc
theorem iota_len (P:Nat):(iotaL P).length=P:=by
  induction P with
  |zero=>rfl
  |succ P ih=>simp only [iotaL,List.length_append,List.length_singleton,ih]
def bearL (P:Nat)(must:List Int):List Int:=if must.length=0 then iotaL P else must
theorem bearL_ok {P:Nat} {must:List Int}(hP:0<P)(h:Asc P 0 must):Asc P 0 (bearL P must)∧0<(bearL P must).length:=by
  unfold bearL
  split
  · exact⟨iota_asc P,by rw [iota_len];exact hP⟩
  · exact⟨h,by omega⟩
end Go.Eng.Dif

namespace Go.Eng.Dif
open Go.Eng.Few
theorem sel_has {g:Nat→Bool} {n p:Nat}(hp:p<n):(selL g n).contains (p:Int)=g p:=by
  apply Bool.eq_iff_iff.2
  rw [List.contains_iff_mem,sel_mem]
  constructor
  · rintro⟨i,_,hg,e⟩
    have:p=i:=Int.ofNat.inj e
    rw [this];exact hg
  · intro q;exact⟨p,hp,q,rfl⟩
theorem fir_can {S:Nat} {ls:List Lk} {fs:List Fa}(h:Okk S ls fs)(hc:canD S ls fs=true):firN S ls fs fs.length 0=none:=by
  cases e:firN S ls fs fs.length 0 with
  |none=>rfl
  | some r=>
    obtain⟨_,h2,h3,h4⟩:=firN_some e
    rw [take_can h,canO_mono h (c:=fun _=>true) (fun _ _ _=>rfl) (by rw [canO_all h (fun _ _=>rfl)];exact hc)]at h3
    cases h3
end Go.Eng.Dif

namespace Go.Eng.Dif
open Go.Eng.Few
def xLt :List Lk:=[⟨0,1,-3,0⟩,⟨1,0,4,9⟩]
theorem xokt :Okk 2 xLt []:=by
  refine⟨by decide,by decide,fun k hk=> ?_,fun k hk=>by cases hk⟩
  unfold xLt at hk
  simp only [List.mem_cons,List.not_mem_nil,or_false]at hk
  rcases hk with e|e<;>rw [e]<;>exact⟨by decide,by decide,by decide⟩
theorem xtorn :canD 2 xLt []=false:=by
  rw [Bool.eq_false_iff]
  intro q
  obtain⟨x,t⟩:=(can_iff_tr xokt).1 q
  have a: -3≤x 1-x 0∧x 1-x 0≤0:=t.l ⟨0,1,-3,0⟩ (by unfold xLt;exact List.mem_cons_self ..)
  have b:4≤x 0-x 1∧x 0-x 1≤9:=t.l ⟨1,0,4,9⟩ (by unfold xLt;exact List.mem_cons_of_mem _ (List.mem_cons_self ..))
  omega
theorem xno3 :canD 2 xL3 xF3=false:=by
  rw [←canO_all xok3 (c:=fun _=>true) (fun _ _=>rfl),xc3];rfl
theorem xfir2 :firN 2 xL3 xF2 2 0=none:=fir_can xok2 xbd2.1
theorem xend2 :endD 2 xL3 xF2 0 true=119:=by
  unfold endD
  rw [if_pos rfl]
  exact xbd2.2.2.1
theorem xshow2 :showD 2 xL3 xF2 0 119 0=119∧showD 2 xL3 xF2 0 119 1=116:=by
  have q:=show_is xok2 xbd2.1 (s:=0) (by decide) true
  rw [xend2]at q
  exact⟨q.2,(xi2 q.1).2.2⟩
theorem xkp3 :kpN xF3 (outL [1]) 3=xF2:=by
  have a:outL [1] 0=true:=by decide
  have b:outL [1] 1=false:=by decide
  have c:outL [1] 2=true:=by decide
  simp only [kpN,a,b,c]
  rfl
theorem xcost3 :costN 100 [1] 1 1 0=0∧costN 100 [1] 1 1 1=100∧costN 100 [1] 1 1 2=0:=by decide
theorem xcost2 :costN 100 [0,1,2] 3 3 0=34∧costN 100 [0,1,2] 3 3 1=33∧costN 100 [0,1,2] 3 3 2=33:=by decide
end Go.Eng.Dif

namespace Go.Eng.Dif
theorem fwP_bd {M:Nat→Int}(h:∀i,i<16→ -2000≤M i):∀n i,i<16→ -(6^(4*n)*2000)≤fwP M n i:=by
  intro n
  induction n with
  |zero=>intro i hi;simpa [fwP]using h i hi
  | succ n ih=>
    intro i hi
    have a:=fwN_bd (M:=fwP M n) (b:=6^(4*n)*2000) (Int.mul_nonneg (Int.pow_nonneg (by decide)) (by decide)) ih 4 (by omega) i hi
    have e:(6:Int)^4*(6^(4*n)*2000)=6^(4*(n+1))*2000:=by
      rw [show 4*(n+1)=4+4*n by omega,Int.pow_add,Int.mul_assoc]
    rw [e]at a
    exact a
theorem mid_bd {M:Nat→Int}(h:∀i,i<16→ -2000≤M i)(h2:∀i,i<16→M i≤2000) {n v k i:Nat}(hn:n<4)(hv:v<4)(hk:k≤16)(hi:i<16): -5642219814912000≤phN v (fwN (fwP M n) v) k i∧phN v (fwN (fwP M n) v) k i≤2000:=by
  constructor
  · have a:=fwP_bd h n
    have p0:(0:Int)≤6^(4*n)*2000:=Int.mul_nonneg (Int.pow_nonneg (by decide)) (by decide)
    have b:=fwN_bd p0 a v (by omega)
    have p1:(0:Int)≤6^v*(6^(4*n)*2000):=Int.mul_nonneg (Int.pow_nonneg (by decide)) p0
    have c:=ph_bd6 hv p1 b hk hi
    have e:(6:Int)*(6^v*(6^(4*n)*2000))≤5642219814912000:=by
      rcases(show n=0∨n=1∨n=2∨n=3 by omega)with q|q|q|q<;>rcases(show v=0∨v=1∨v=2∨v=3 by omega)with r|r|r|r<;>subst q<;>subst r<;>decide
    omega
  · exact Int.le_trans (phN_le _ _ _ _) (Int.le_trans (fwN_le _ _ _) (Int.le_trans (fwP_le _ _ _) (h2 i hi)))
theorem mat_small {S:Nat} {ls:List Lk} {fs:List Fa}(hl:∀k∈ls,-2000≤k.lo∧k.lo≤2000∧ -2000≤k.hi∧k.hi≤2000)(hf:∀k∈fs,-2000≤k.lo∧k.lo≤2000∧ -2000≤k.hi∧k.hi≤2000)(i:Nat): -2000≤matD S ls fs i∧matD S ls fs i≤2000:=by
  constructor
  · refine addL_ge ?_ fun b hb=> ?_
    · unfold M00;split<;>decide
    · rw [List.mem_append,List.mem_append]at hb
      rcases hb with(hb|hb)|hb
      · unfold bS at hb
        obtain⟨s,_,e⟩:=List.mem_map.1 hb
        rw [←e];exact⟨show(-2000:Int)≤2000 by decide,show(-2000:Int)≤ -0 by decide⟩
      · unfold bL_ at hb
        obtain⟨q,hq,e⟩:=List.mem_map.1 hb
        have:=hl q hq
        rw [←e]
        show -2000≤q.hi∧ -2000≤ -q.lo
        omega
      · unfold bF at hb
        obtain⟨q,hq,e⟩:=List.mem_map.1 hb
        have:=hf q hq
        rw [←e]
        show -2000≤q.hi∧ -2000≤ -q.lo
        omega
  · refine Int.le_trans (addL_le i) ?_
    unfold M00;split<;>decide
theorem sol_small {M:Nat→Int} {x:Nat→Int}(h:Sol M x)(hx:∀n,n<4→0≤x n∧x n≤2000) {i:Nat}(hi:i<16): -2000≤M i:=by
  have a:=h (i/4) (i%4) (by omega) (by omega)
  have e:at4 (i/4) (i%4)=i:=by unfold at4;omega
  rw [e]at a
  have:=hx (i/4) (by omega)
  have:=hx (i%4) (by omega)
  omega
theorem nod_rng {S:Nat} {x:Nat→Int}(h:∀s,s<S→0≤x s∧x s≤2000)(n:Nat):0≤nod S x n∧nod S x n≤2000:=by
  unfold nod
  split
  · decide
  · split
    · exact h _ (by omega)
    · decide
theorem clo_small {S:Nat} {ls:List Lk} {fs:List Fa}(h:Okk S ls fs)(hc:canD S ls fs=true) {i:Nat}(hi:i<16): -2000≤clo (matD S ls fs) i:=by
  obtain⟨x,t⟩:=(can_iff_tr h).1 hc
  exact sol_small (clo_sol.2 (tr_mat h t)) (fun n _=>nod_rng t.r n) hi
end Go.Eng.Dif

namespace Go.Proofs.Ytkdggbfknlcdaaa
open Go Go.Eng Go.Proofs
def ti3 :TI:=⟨.int .i64,1,8,[.one (.int .i64)]⟩
def ti4 :TI:=⟨.bool,1,1,[.one .bool]⟩
def ti5 :TI:=⟨.int .u8,1,1,[.one (.int .u8)]⟩
def ti22 :TI:=⟨.sli 3,1,24,[.one .sli]⟩
def ti23 :TI:=⟨.sli 22,1,24,[.one .sli]⟩
def ti25 :TI:=⟨.str [(0,22),(1,22),(2,23)],3,72,[.one .sli,.one .sli,.one .sli]⟩
def ti26 :TI:=⟨.sli 60,1,24,[.one .sli]⟩
def ti27 :TI:=⟨.sli 50,1,24,[.one .sli]⟩
def ti29 :TI:=⟨.str [(0,25),(3,3),(4,3),(5,26),(6,27)],7,136,[.one .sli,.one .sli,.one .sli,.one (.int .i64),.one (.int .i64),.one .sli,.one .sli]⟩
def ti33 :TI:=⟨.str [(0,3),(1,3)],2,16,[.one (.int .i64),.one (.int .i64)]⟩
def ti34 :TI:=⟨.int .i64,1,8,[.one (.int .i64)]⟩
def ti37 :TI:=⟨.str [(0,22),(1,22),(2,23)],3,72,[.one .sli,.one .sli,.one .sli]⟩
def ti38 :TI:=⟨.sli 87,1,24,[.one .sli]⟩
def ti39 :TI:=⟨.sli 89,1,24,[.one .sli]⟩
def ti41 :TI:=⟨.str [(0,37),(3,3),(4,3),(5,38),(6,39)],7,136,[.one .sli,.one .sli,.one .sli,.one (.int .i64),.one (.int .i64),.one .sli,.one .sli]⟩
def ti47 :TI:=⟨.str [(0,3),(1,3)],2,16,[.one (.int .i64),.one (.int .i64)]⟩
def ti50 :TI:=⟨.str [(0,3),(1,3),(2,47),(4,47)],6,48,[.one (.int .i64),.one (.int .i64),.one (.int .i64),.one (.int .i64),.one (.int .i64),.one (.int .i64)]⟩
def ti52 :TI:=⟨.sli 33,1,24,[.one .sli]⟩
def ti60 :TI:=⟨.str [(0,3),(1,3),(2,47)],4,32,[.one (.int .i64),.one (.int .i64),.one (.int .i64),.one (.int .i64)]⟩
def ti69 :TI:=⟨.int .u64,1,8,[.one (.int .u64)]⟩
def ti73 :TI:=⟨.int .u32,1,4,[.one (.int .u32)]⟩
def ti79 :TI:=⟨.int .u16,1,2,[.one (.int .u16)]⟩
def ti87 :TI:=⟨.str [(0,3),(1,3),(2,33)],4,32,[.one (.int .i64),.one (.int .i64),.one (.int .i64),.one (.int .i64)]⟩
def ti89 :TI:=⟨.str [(0,3),(1,3),(2,33),(4,33)],6,48,[.one (.int .i64),.one (.int .i64),.one (.int .i64),.one (.int .i64),.one (.int .i64),.one (.int .i64)]⟩
def ti91 :TI:=⟨.one,1,8,[.one .ptr]⟩
def ti97 :TI:=⟨.one,1,8,[.one .fn]⟩
def ti98 :TI:=⟨.one,1,8,[.one .fn]⟩
def ti102 :TI:=⟨.arr 4 3,4,32,[.rep 4 (.int .i64)]⟩
def ti104 :TI:=⟨.arr 4 102,16,128,[.rep 16 (.int .i64)]⟩
def ti108 :TI:=⟨.one,1,8,[.one .fn]⟩
def ti109 :TI:=⟨.one,1,8,[.one .fn]⟩
def ti111 :TI:=⟨.str [(0,108),(1,109)],2,16,[.one .fn,.one .fn]⟩
def ti115 :TI:=⟨.one,1,8,[.one .mp]⟩
def ti117 :TI:=⟨.str [(0,41),(7,115)],8,144,[.one .sli,.one .sli,.one .sli,.one (.int .i64),.one (.int .i64),.one .sli,.one .sli,.one .mp]⟩
def ti119 :TI:=⟨.one,1,8,[.one .fn]⟩
def ti121 :TI:=⟨.one,1,8,[.one .fn]⟩
def ti125 :TI:=⟨.str [(0,3),(1,3)],2,16,[.one (.int .i64),.one (.int .i64)]⟩
def ti139 :TI:=⟨.one,1,8,[.one .fn]⟩
def ti153 :TI:=⟨.str [(0,3),(1,3),(2,3)],3,24,[.one (.int .i64),.one (.int .i64),.one (.int .i64)]⟩
def ti154 :TI:=⟨.sli 153,1,24,[.one .sli]⟩
def tabL :List (Nat×TI):=[(3,ti3),(4,ti4),(5,ti5),(22,ti22),(23,ti23),(25,ti25),(26,ti26),(27,ti27),(29,ti29),(33,ti33),(34,ti34),(37,ti37),(38,ti38),(39,ti39),(41,ti41),(47,ti47),(50,ti50),(52,ti52),(60,ti60),(69,ti69),(73,ti73),(79,ti79),(87,ti87),(89,ti89),(91,ti91),(97,ti97),(98,ti98),(102,ti102),(104,ti104),(108,ti108),(109,ti109),(111,ti111),(115,ti115),(117,ti117),(119,ti119),(121,ti121),(125,ti125),(139,ti139),(153,ti153),(154,ti154)]
def tab :TyTab:=fun t=>lk tabL t
def qr (n:Nat):List Nat:=List.range n
def qs (a n:Nat):List Nat:=List.range' a n
def qa (i:Nat)(p:List Nat):SE:=⟨i,false,p,false,0,none⟩
def qb (i:Nat)(p:List Nat):SE:=⟨i,true,p,false,0,none⟩
def sc12 :SC:=[(10,[qb 0 [],qb 1 [0],⟨2,true,[0,1],true,0,none⟩,qa 3 [0,1,2],qa 4 [0,1,2],qb 5 (qr 5),qb 6 (qr 6),⟨7,true,(qr 7),true,0,none⟩,qb 8 (qr 8),qb 9 (qr 9),qb 10 (qr 10),⟨11,true,(qr 11),true,0,none⟩,qb 12 (qr 12),qb 13 (qr 13),qb 14 (qr 14),⟨15,true,(qr 15),true,0,none⟩,qb 16 (qr 16),qb 17 (qr 17),qb 18 (qr 18),⟨19,true,(qr 19),true,0,none⟩,qa 20 (qr 20),qa 21 (qr 20),qb 22 (qr 22),qb 23 (qr 23),⟨24,true,(qr 24),true,0,none⟩,qb 25 (qr 25),qb 26 (qr 26),qb 27 (qr 27),⟨28,true,(qr 28),true,0,none⟩,qa 29 (qr 29),qa 30 (qr 29),qb 31 (qr 31),qb 32 (qr 32),⟨33,true,(qr 33),true,0,none⟩,qb 34 (qr 34),qb 35 (qr 35),qb 36 (qr 36),⟨37,true,(qr 37),true,0,none⟩,qa 38 (qr 38),qa 39 (qr 38),qb 40 (qr 40),qb 41 (qr 41),⟨42,true,(qr 42),true,0,none⟩,qa 43 (qr 43),qa 44 (qr 43),qb 45 (qr 45),qb 46 (qr 46),⟨47,true,(qr 47),true,0,none⟩,qb 48 (qr 48),qb 49 (qr 49),qb 50 (qr 50),⟨51,true,(qr 51),true,0,none⟩,qb 52 (qr 52),qb 53 (qr 53),qb 54 (qr 54),qb 55 (qr 55),⟨56,true,(qr 56),true,0,none⟩,qa 57 (qr 57),qa 58 (qr 58),qa 59 (qr 59),qa 60 (qr 57),qb 61 (qr 61),qb 62 (qr 62),⟨63,true,(qr 63),true,0,none⟩,qa 64 (qr 64),qa 65 (qr 65),qa 66 (qr 66),qa 67 (qr 64),qb 68 (qr 68),qb 69 (qr 69),⟨70,true,(qr 70),true,0,none⟩,qb 71 (qr 71),qb 72 (qr 72),qb 73 (qr 73),⟨74,true,(qr 74),true,0,none⟩,qa 75 (qr 75),qa 76 (qr 75),qb 77 (qr 77),qb 78 (qr 78),⟨79,true,(qr 79),true,0,none⟩,qb 80 (qr 80),qb 81 (qr 81),qb 82 (qr 82),⟨83,true,(qr 83),true,0,none⟩,qa 84 (qr 84),qa 85 (qr 84),qb 86 (qr 86),qb 87 (qr 87),⟨88,true,(qr 88),true,0,none⟩,qb 89 (qr 89),qb 90 (qr 90),qb 91 (qr 91),⟨92,true,(qr 92),true,0,none⟩,qa 93 (qr 93),qa 94 (qr 93),qb 95 (qr 95),qb 96 (qr 96),qb 97 (qr 97)])]
def sc13 :SC:=[(6,[qa 0 [],qa 2 [],qa 3 [2],qa 4 [],qa 5 [2,3,4],qa 6 (qs 2 4),qa 1 [0],qb 7 (qr 7),qb 8 (qr 8),qb 9 (qr 9)])]
def sc16 :SC:=[(4,[qa 0 [],qa 1 [0],qa 2 [],qa 3 [2],qa 4 [0,1],qb 5 (qr 5)])]
def sc21 :SC:=[]
def sc22 :SC:=[(1,[qa 1 [],qa 0 [],qb 2 [0,1],qa 3 [0,1,2],qa 4 [0,1,2],qb 5 (qr 5),qb 6 (qr 6)])]
def sc23 :SC:=[(1,[qa 1 [],qa 0 [],qb 2 [0,1],qa 3 [0,1,2],qa 4 [0,1,2],qb 5 (qr 5),qb 6 (qr 6)])]
def sc26 :SC:=[(6,[qa 0 [],qa 1 [],qa 2 [0,1],qa 3 [0,1,2],qa 4 [],qa 5 [],qa 6 [4,5],qa 7 [4,5,6],qb 8 (qr 8)])]
def sc27 :SC:=[]
def sc33 :SC:=[]
def sc34 :SC:=[]
def sc36 :SC:=[]
def sc37 :SC:=[]
def sc38 :SC:=[]
def sc39 :SC:=[(2,[qa 0 [],qa 1 [0],qa 2 [0,1],qa 3 [],qa 4 [3],qa 5 [3,4],qa 6 [3,4,5],qa 7 (qs 3 4),qb 8 (qr 8),qb 9 (qr 9),qb 10 (qr 10)])]
def sc40 :SC:=[]
def sc41 :SC:=[]
def sc43 :SC:=[]
def sc44 :SC:=[]
def sc45 :SC:=[(1,[qa 0 [],qa 1 [0],qa 2 [0,1],qa 3 [0,1,2],qa 4 [],qa 9 [],qa 5 (qr 5),qa 6 (qr 6),qa 7 (qr 7),qa 8 (qr 7),qb 10 (qs 0 8++qs 9 1),qb 11 (qr 11)]),(4,[qa 0 [],qa 1 [0],qa 2 [0,1],qa 3 [0,1,2],qa 4 (qr 4),qa 5 [],qa 6 [5],qa 7 [],qa 8 [7],qa 13 [],qa 9 (qr 9),qa 10 (qr 10),qa 11 (qr 11),qa 12 (qr 11),qb 14 (qs 0 12++qs 13 1),qb 15 (qr 15)]),(5,[qa 0 [],qa 1 [0],qa 2 [0,1],qa 3 [0,1,2],qa 4 [],qa 5 [],qb 6 (qr 6)])]
def sc48 :SC:=[]
def sc49 :SC:=[]
def sc50 :SC:=[]
def sc51 :SC:=[]
def sc52 :SC:=[]
def sc54 :SC:=[(23,[qa 0 [],qa 1 [0],qa 2 [0,1],qa 3 [],qa 4 [],qa 5 [3,4],qb 6 (qr 6)])]
def sc55 :SC:=[(1,[qa 0 [],qa 1 [],qa 2 [1],qa 3 [0],qa 4 (qr 4),qa 5 (qr 5),qa 6 (qr 6),qa 7 (qr 7),qa 8 [],qa 9 [],qa 10 [9],qa 11 [8],qa 12 [8,11],qa 13 (qs 8 5),qa 14 (qs 8 6),qb 15 (qr 15),qb 16 (qr 16)])]
def sc56 :SC:=[]
def sc57 :SC:=[]
def sc58 :SC:=[]
def sc59 :SC:=[]
def sc61 :SC:=[]
def sc62 :SC:=[]
def sc63 :SC:=[]
def sc64 :SC:=[]
def sc65 :SC:=[]
def sc66 :SC:=[]
def sc67 :SC:=[]
def sc68 :SC:=[(13,[qa 0 [],qa 1 [],qa 2 [],qa 3 [],qa 4 [],qa 5 [],qa 6 [3],qa 7 [3,4,6],qa 8 (qs 3 5),qa 9 (qs 3 6),qa 10 [],qa 11 [],qa 12 [],qa 13 [10],qa 14 [10,11,13],qa 15 (qs 10 5),qa 16 (qs 10 6),qa 17 (qs 3 14),qb 18 (qr 18)]),(17,[qa 0 [],qa 1 [0],qa 2 [0,1],qa 3 [],qb 4 (qr 4)])]
def sc69 :SC:=[]
def sc70 :SC:=[]
def sc71 :SC:=[(1,[qa 0 [],qa 1 [0],qa 2 [],qa 3 [],qa 4 [3],qa 5 [2,3,4],qa 6 (qs 2 4),qa 7 [],qa 8 [],qa 9 [8],qa 10 [7,8,9],qa 11 (qs 7 4),qa 12 (qs 2 10),qb 13 (qr 13),qb 14 (qr 14)])]
def sc72 :SC:=[(1,[qa 0 [],qa 1 [],qa 3 [],qa 4 [],qa 5 [4],qa 6 [3,4,5],qa 7 (qs 3 4),qa 2 [0,1],qb 8 (qr 8),qb 9 (qr 9)])]
def sc73 :SC:=[(4,[qa 0 [],qa 1 [0],qa 3 [],qa 2 [0,1],qb 4 (qr 4),qb 5 (qr 5),⟨6,true,(qr 6),true,0,none⟩,qa 7 (qr 7),qa 8 (qr 8),qa 10 (qr 7),qa 9 (qr 9),qb 11 (qr 11),qb 12 (qr 12),qb 13 (qr 13)]),(9,[qa 0 [],qa 1 [0],qa 2 [],qa 3 [0,1,2],qa 5 [],qa 6 [5],qa 7 [],qa 8 [5,6,7],qa 4 (qr 4),qb 9 (qr 9),qb 10 (qr 10)])]
def sc77 :SC:=[]
def sc78 :SC:=[]
def sc79 :SC:=[]
def sc80 :SC:=[]
def sc81 :SC:=[(1,[qa 0 [],qa 1 [],qa 2 [1],qa 3 [1,2],qa 4 [],qa 5 [],qa 6 [5],qa 7 [5,6],qa 8 (qs 4 4),qa 9 (qs 4 5),qb 10 (qr 10),qb 11 (qr 11)])]
def sc82 :SC:=[]
def sc83 :SC:=[]
def sc84 :SC:=[]
def sc85 :SC:=[]
def sc87 :SC:=[]
def sc88 :SC:=[]
def sc89 :SC:=[]
def sc90 :SC:=[]
def sc91 :SC:=[]
def sc92 :SC:=[]
def sc93 :SC:=[(1,[qa 0 [],qa 1 [],qa 2 [1],qa 3 [],qa 4 [],qa 10 [],qa 5 (qs 1 4),qa 6 (qr 6),qa 7 (qr 7),qa 8 (qr 8),qa 9 (qr 8),qb 11 (qs 0 9++qs 10 1),qb 12 (qr 12)]),(7,[⟨0,false,[],false,4,none⟩,qa 1 [],qa 3 [],qa 4 [3],qa 6 [],qa 7 [6],qa 8 [],qa 9 [8],qa 2 [1],⟨5,true,(qs 1 4),false,3,none⟩,qb 10 (qr 10)])]
def sc94 :SC:=[]
def sc95 :SC:=[]
def sc96 :SC:=[]
def sc97 :SC:=[]
def sc98 :SC:=[(0,[qa 0 [],qa 1 [],qa 2 [],qa 3 [],qa 4 [],qa 5 [],qa 6 [3],qa 7 [3,4,6],qa 8 (qs 3 5),qa 9 (qs 3 6),qa 10 [],qa 11 (qs 3 8),qa 13 [0],qa 14 [0,1,13],qa 12 (qs 3 9),qb 15 (qr 15),qb 16 (qr 16)])]
def sc99 :SC:=[]
def sc100 :SC:=[]
def sc101 :SC:=[(1,[qa 0 [],qa 1 [0],qa 2 [0,1],qa 3 [],qa 4 [],qa 5 [4],qa 6 [4,5],qa 7 (qs 3 4),qa 8 (qs 3 5),qb 9 (qr 9),qb 10 (qr 10)])]
def sc102 :SC:=[]
def sc103 :SC:=[]
def sc104 :SC:=[]
def sc106 :SC:=[]
def sc107 :SC:=[]
def sc108 :SC:=[]
def sc109 :SC:=[]
def sc110 :SC:=[]
def sc111 :SC:=[]
def sc112 :SC:=[]
def sc113 :SC:=[]
def sc114 :SC:=[]
def sc115 :SC:=[]
def sc116 :SC:=[]
def sc117 :SC:=[]
def sc118 :SC:=[(1,[qa 0 [],qa 1 [0],qa 2 [],qa 4 [],qa 5 [4],qa 6 [],qa 3 [0,1,2],qb 7 (qr 7),qb 8 (qr 8),qb 9 (qr 9)]),(2,[qa 0 [],qa 1 [],qa 2 [1],qa 3 [],qa 4 [1,2,3],qa 5 (qs 1 4),qa 6 (qr 6),qa 7 [],qa 8 [],qa 9 [8],qa 10 [],qa 11 [8,9,10],qa 12 (qs 8 4),qa 13 (qs 7 6),qa 14 (qr 7),qb 15 (qr 15)]),(3,[qa 0 [],qa 1 [0],qa 2 [],qa 3 [2],qa 4 (qr 4),qa 5 (qr 5),qa 6 [],qa 7 [6],qa 8 [],qa 9 [6,7,8],qa 10 (qs 6 4),qa 11 (qr 11),qa 12 [],qa 13 [12],qa 14 [],qa 15 [14],qa 16 (qs 12 4),qa 17 (qs 12 5),qa 18 [],qa 19 [18],qa 20 [],qa 21 [18,19,20],qa 22 (qs 18 4),qa 23 (qs 12 11),qa 24 (qr 12),qb 25 (qr 25)]),(8,[qa 0 [],qa 1 [],qa 2 [1],qa 3 [],qa 4 [3],qa 5 (qs 1 4),qa 6 (qs 1 5),qa 7 [],qa 8 [7],qa 9 (qs 1 8),qa 10 (qs 1 9),qa 11 [],qa 12 [11],qa 13 (qs 1 12),qb 14 (qr 14),qb 15 (qr 15)])]
def sc119 :SC:=[]
def sc120 :SC:=[]
def sc121 :SC:=[]
theorem tyok :TyOk Try.prog tab:=tyOk_of (l:=tabL) (by kernel_rfl) (by kernel_rfl)
theorem mix :Try.prog.follows .mixedOrders=true:=by kernel_rfl
end Go.Proofs.Ytkdggbfknlcdaaa

namespace Go.Proofs.Ytkdggbfknlcdaaa
def cellN (l:List Int)(n:Int):Nat→Nat→Nat
  |0,i=>i
  |f+1,i=>if i+2<l.length∧l.getD (i+1) 0≤n then cellN l n f (i+1)else i
def risingAt (l:List Int)(most:Int)(i:Nat):Prop:=0≤l.getD i 0∧l.getD i 0≤most∧(0<i→l.getD (i-1) 0<l.getD i 0)
instance (l:List Int) (most:Int) (i:Nat):Decidable (risingAt l most i):=by unfold risingAt;infer_instance
def rising (l:List Int)(most:Int):Bool:=decide (∀i,i<l.length→risingAt l most i)
theorem rising_spec {l:List Int} {most:Int}(h:rising l most=true):∀i,i<l.length→risingAt l most i:=of_decide_eq_true h
theorem rising_lt {l:List Int} {most:Int}(h:rising l most=true):∀{i j:Nat},i<j→j<l.length→l.getD i 0<l.getD j 0:=by
  intro i j hij
  induction j with
  |zero=>omega
  | succ j ih=>
    intro hj
    have h1:=(rising_spec h (j+1) hj).2.2 (by omega)
    rw [Nat.add_sub_cancel]at h1
    by_cases e:i=j
    · subst e;exact h1
    · have:=ih (by omega) (by omega);omega
structure InCell (l:List Int)(n:Int)(i:Nat):Prop where
  lt:i+2≤l.length
  lo:l.getD i 0≤n
  hi:i+2=l.length∨n<l.getD (i+1) 0
theorem cellN_in {l:List Int} {n:Int}:∀(f i:Nat),i+2≤l.length→l.length≤f+i+1→l.getD i 0≤n→InCell l n (cellN l n f i):=by
  intro f
  induction f with
  |zero=>intro i h1 h2 h3;omega
  | succ f ih=>
    intro i h1 h2 h3
    unfold cellN
    split
    · rename_i h
      exact ih (i+1) (by omega) (by omega) h.2
    · rename_i h
      refine⟨h1,h3,?_⟩
      by_cases e:i+2=l.length
      · exact .inl e
      · right
        refine Int.not_le.1 fun q=>h ⟨by omega,q⟩
theorem cell_in {l:List Int} {n:Int}(h2:2≤l.length)(h0:l.getD 0 0≤n):InCell l n (cellN l n l.length 0):=cellN_in l.length 0 (by omega) (by omega) h0
def mixAt (a b c d v00 v10 v01 v11 w m:Int):Int:=
  (2*(0+(v00*((b-a-(w-a))*(d-c-(m-c))))+(v10*((w-a)*(d-c-(m-c))))+(v01*((b-a-(w-a))*(m-c)))+(v11*((w-a)*(m-c))))+(b-a)*(d-c)).tdiv (2*(b-a)*(d-c))
def atI (tw tm:List Int)(tv:List (List Int))(w m:Int)(i k:Nat):Int:=
  mixAt (tw.getD i 0) (tw.getD (i+1) 0) (tm.getD k 0) (tm.getD (k+1) 0) ((tv.getD i []).getD k 0) ((tv.getD (i+1) []).getD k 0) ((tv.getD i []).getD (k+1) 0) ((tv.getD (i+1) []).getD (k+1) 0) w m
def atS (tw tm:List Int)(tv:List (List Int))(w m:Int):Int:=atI tw tm tv w m (cellN tw w tw.length 0) (cellN tm m tm.length 0)
def faultT (tw tm:List Int)(tv:List (List Int)):Int:=
  if 5<tw.length∨5<tm.length∨5<tv.length then 3
  else if tw.length<2∨tm.length<2∨rising tw 40=false∨rising tm 60=false∨tv.length≠tw.length then 1
  else if ∀i,i<tv.length→(tv.getD i []).length=tm.length∧∀k,k<tm.length→0≤(tv.getD i []).getD k 0∧(tv.getD i []).getD k 0≤2000 then 0 else 1
structure TOk (tw tm:List Int)(tv:List (List Int)):Prop where
  w5:tw.length≤5
  m5:tm.length≤5
  w2:2≤tw.length
  m2:2≤tm.length
  rw:rising tw 40=true
  rm:rising tm 60=true
  len:tv.length=tw.length
  row:∀i,i<tv.length→(tv.getD i []).length=tm.length
  val:∀i,i<tv.length→∀k,k<tm.length→0≤(tv.getD i []).getD k 0∧(tv.getD i []).getD k 0≤2000
theorem faultT_ok {tw tm:List Int} {tv:List (List Int)}(h:TOk tw tm tv):faultT tw tm tv=0:=by
  unfold faultT
  have a:=h.w5;have b:=h.m5;have c:=h.w2;have d:=h.m2;have e:=h.len
  rw [if_neg (by omega),if_neg (by simp only [h.rw,h.rm];simp;omega),if_pos (fun i hi=>⟨h.row i hi,h.val i hi⟩)]
def fidx (p:Nat→Bool):Nat→Nat→Int
  |0,_=> -1
  |n+1,i=>if p i=true then fidx p n (i+1)else i
theorem fidx_stop {p:Nat→Bool} {n i:Nat}(hn:0<n)(h:p i=false):fidx p n i=i:=by
  cases n with
  |zero=>omega
  |succ n=>simp [fidx,h]
theorem fidx_go {p:Nat→Bool} {n i:Nat}(hn:0<n)(h:p i=true):fidx p n i=fidx p (n-1) (i+1):=by
  cases n with
  |zero=>omega
  |succ n=>simp [fidx,h]
theorem fidx_iff {p:Nat→Bool}:∀{n i:Nat},0≤fidx p n i↔∃j,i≤j∧j<i+n∧p j=false:=by
  intro n
  induction n with
  | zero => intro i;simp only [fidx];constructor
            · intro h;omega
            · rintro⟨j,h1,h2,_⟩;omega
  | succ n ih=>
    intro i
    cases h:p i with
    | true=>
      rw [fidx_go (by omega) h,Nat.add_sub_cancel,ih]
      constructor
      · rintro⟨j,h1,h2,h3⟩;exact⟨j,by omega,by omega,h3⟩
      · rintro⟨j,h1,h2,h3⟩
        refine⟨j,?_,by omega,h3⟩
        by_cases e:j=i
        · subst e;rw [h]at h3;cases h3
        · omega
    | false=>
      rw [fidx_stop (by omega) h]
      exact⟨fun _=>⟨i,by omega,by omega,h⟩,fun _=>by omega⟩
theorem all_iff {p:Nat→Bool} {n:Nat}:(!(decide (0≤fidx p n 0)))=decide (∀i,i<n→p i=true):=by
  rw [Bool.eq_iff_iff]
  simp only [Bool.not_eq_true',decide_eq_false_iff_not,decide_eq_true_eq,fidx_iff]
  constructor
  · intro h i hi
    cases hp:p i with
    |true=>rfl
    |false=>exact absurd ⟨i,by omega,by omega,hp⟩ h
  · rintro h ⟨j,_,h2,h3⟩
    rw [h j (by omega)]at h3;cases h3
structure Pt (tw tm:List Int)(w m:Int):Prop where
  w0:tw.getD 0 0≤w
  w1:w≤tw.getD (tw.length-1) 0
  m0:tm.getD 0 0≤m
  m1:m≤tm.getD (tm.length-1) 0
theorem InCell.le_hi {l:List Int} {n:Int} {i:Nat}(h:InCell l n i)(h1:n≤l.getD (l.length-1) 0):n≤l.getD (i+1) 0:=by
  rcases h.hi with q|q
  · rw [show i+1=l.length-1 by omega];exact h1
  · omega
theorem mix_eq (a b c d v00 v10 v01 v11 w m:Int):0+(v00*((b-a-(w-a))*(d-c-(m-c))))+(v10*((w-a)*(d-c-(m-c))))+(v01*((b-a-(w-a))*(m-c)))+(v11*((w-a)*(m-c))) =
    v00*(b-w)*(d-m)+v10*(w-a)*(d-m)+v01*(b-w)*(m-c)+v11*(w-a)*(m-c):=by
  rw [show b-a-(w-a)=b-w by omega,show d-c-(m-c)=d-m by omega,Int.zero_add]
  simp only [Int.mul_assoc]
end Go.Proofs.Ytkdggbfknlcdaaa

namespace Go.Proofs.Ytkdggbfknlcdaaa
open Go Go.Eng Go.Proofs
set_option maxRecDepth 10000
theorem within113 (n lo hi:Int):FSpec Try.prog 109 [(.int .i64 (.sym fun _=>n)),(.int .i64 (.sym fun _=>lo)),(.int .i64 (.sym fun _=>hi))] [] (fun r _=>r=(.bool (.sym fun _=>decide (lo≤n)&&decide (n≤hi)))):=by
  refine FSpec.is fun R hR=>qW (sc:=sc109) tyok mix Try.func109 rfl Try.call109 (by kernel_rfl) (by kernel_rfl) ?_
  generalize Try.prog=P
  cbv
  repeat' (first
    |with_reducible refine And.intro ?_ ?_
    |(with_reducible intro _;try cbv))
  all_goals subst hR
  all_goals refine qF ?_
  all_goals simp only [IX.den,BX.den,addI_den,subI_den,mulI_den,eqB_den,neB_den,ltB_den,leB_den,gtB_den,geB_den]at *
  all_goals simp_all
  all_goals (try omega)
theorem has124 (lo hi n:Int):FSpec Try.prog 116 [(.agg [(.int .i64 (.sym fun _=>lo)),(.int .i64 (.sym fun _=>hi))]),(.int .i64 (.sym fun _=>n))] [] (fun r _=>r=(.bool (.sym fun _=>decide (lo≤n)&&decide (n≤hi)))):=by
  have c113:= @within113
  refine FSpec.is fun R hR=>qW (sc:=sc116) tyok mix Try.func116 rfl Try.call116 (by kernel_rfl) (by kernel_rfl) ?_
  generalize Try.prog=P at c113⊢
  cbv
  repeat' (first
    |(refine call_intro (c113 _ _ _) (by(repeat' (first|exact qB|refine qD ?_ ?_|exact qE rfl|exact qF rfl|exact Fit.refl _|exact qA|refine qC ?_ rfl ?_))) ?_;try cbv))
  subst hR
  exact qF rfl
end Go.Proofs.Ytkdggbfknlcdaaa

namespace Go.Proofs.Ytkdggbfknlcdaaa
open Go Go.Eng Go.Proofs
set_option maxRecDepth 10000
theorem cell128 (l:List Int)(n:Int)(h:2≤l.length∧l.length≤1000):FSpec Try.prog 121 [(.sl 1 (.sym fun _=>zi l.length) (fun ix=>[.int .i64 (.sym fun _=>l.getD ix.den.toNat 0)])),.int .i64 (.sym fun _=>n)] [] (fun r _=>r = .int .i64 (.sym fun _=>zi (cellN l n l.length 0))):=by
  refine FSpec.is fun R hR=>qW (sc:=sc121) tyok mix Try.func121 rfl Try.call121 (by kernel_rfl) (by kernel_rfl) ?_
  generalize Try.prog=P
  cbv
  refine⟨none,[],{i:Nat // i<l.length∧cellN l n l.length 0=cellN l n (l.length-i) i},fun i=>⟨[(5,.int .i64 (.sym fun _=>zi i.1)),(0,(.sl 1 (.sym fun _=>zi l.length) (fun ix=>[.int .i64 (.sym fun _=>l.getD ix.den.toNat 0)]))),(1,.int .i64 (.sym fun _=>n))],[],1⟩,fun i=>l.length-i.1,?_,?_⟩
  · refine⟨⟨0,by omega,rfl⟩,?_⟩
    cbv
    repeat' (first
      |with_reducible refine hold ?_ ?_
      |with_reducible refine And.intro ?_ ?_)
    all_goals first
      |trivial
      |exact qM (qE (by rfl))
      |exact qM (Fit.refl _)
  · rintro⟨i,hi⟩
    have hf:∃f,l.length-i=f+1:=⟨l.length-i-1,by omega⟩
    obtain⟨f,hf⟩:=hf
    have hc:=hi.2
    rw [hf,cellN]at hc
    cbv
    repeat' (first
    |with_reducible refine hold ?_ ?_
    |with_reducible refine And.intro ?_ ?_
    |(with_reducible intro _;try cbv))
    all_goals simp only [zi_den,den_sym,den_lit,bden_sym,bden_lit,addI_den,subI_den,mulI_den,eqB_den,neB_den,ltB_den,leB_den,gtB_den,geB_den,decide_eq_true_eq,decide_eq_false_iff_not,Bool.not_true]at *
    all_goals first
      |(refine qN ?_;omega)
      |(simp only [Hold];omega)
      |skip
    · rename_i h1 h2
      have e:(((i:Int)+1).toNat)=i+1:=by omega
      rw [e]at h2
      rw [if_pos ⟨by omega,h2⟩]at hc
      refine⟨⟨i+1,by omega,by rw [show l.length-(i+1)=f by omega];exact hc⟩,by simp only [];omega,?_⟩
      cbv
      repeat' (first
        |with_reducible refine hold ?_ ?_
        |with_reducible refine And.intro ?_ ?_)
      all_goals first
        |trivial
        |exact qM (qE (by rfl))
        |exact qM (Fit.refl _)
    · rename_i h1 h2
      have e:(((i:Int)+1).toNat)=i+1:=by omega
      rw [e]at h2
      rw [if_neg (fun q=>by omega)]at hc
      subst hR
      exact qE (by rw [den_sym,den_sym,hc])
    · rename_i h1
      rw [if_neg (fun q=>by omega)]at hc
      subst hR
      exact qE (by rw [den_sym,den_sym,hc])
end Go.Proofs.Ytkdggbfknlcdaaa

namespace Go.Proofs.Ytkdggbfknlcdaaa
open Go Go.Eng Go.Proofs
set_option maxRecDepth 10000
theorem value111 (n:Int):FSpec Try.prog 107 [(.int .i64 (.sym fun _=>n))] [] (fun r _=>r=(.bool (.sym fun _=>decide (0≤n)&&decide (n≤2000)))):=by
  have c113:= @within113
  refine FSpec.is fun R hR=>qW (sc:=sc107) tyok mix Try.func107 rfl Try.call107 (by kernel_rfl) (by kernel_rfl) ?_
  generalize Try.prog=P at c113⊢
  cbv
  repeat' (first
    |(refine call_intro (c113 _ _ _) (by(repeat' (first|exact qB|refine qD ?_ ?_|exact qE (by rfl)|exact qF (by rfl)|exact Fit.refl _|exact qA|refine qC ?_ rfl ?_))) ?_;try cbv))
  all_goals (try subst hR)
  all_goals (try simp only [zi_den,den_sym,den_lit,bden_sym,bden_lit,addI_den,subI_den,mulI_den,eqB_den,neB_den,ltB_den,leB_den,gtB_den,geB_den,decide_eq_true_eq,decide_eq_false_iff_not,Bool.not_true]at *)
  all_goals first
    |skip
  all_goals (repeat' (first|exact qA|exact qB|refine qC ?_ rfl ?_|refine qD ?_ ?_|exact qE (by rfl)|exact qF (by rfl)|exact Fit.refl _))
theorem span117 (l:List Int)(h:1≤l.length∧l.length≤1000):FSpec Try.prog 101 [(.sl 1 (.sym fun _=>zi (l).length) (fun ix=>[.int .i64 (.sym fun _=>(l).getD ix.den.toNat 0)]))] [] (fun r _=>r=(.agg [(.int .i64 (.sym fun _=>l.getD 0 0)),(.int .i64 (.sym fun _=>l.getD (l.length-1) 0))])):=by
  refine FSpec.is fun R hR=>qW (sc:=sc101) tyok mix Try.func101 rfl Try.call101 (by kernel_rfl) (by kernel_rfl) ?_
  generalize Try.prog=P
  cbv
  repeat' (first
    |with_reducible refine hold ?_ ?_
    |(with_reducible intro _;try cbv))
  all_goals (try subst hR)
  all_goals (try simp only [zi_den,den_sym,den_lit,bden_sym,bden_lit,addI_den,subI_den,mulI_den,eqB_den,neB_den,ltB_den,leB_den,gtB_den,geB_den,decide_eq_true_eq,decide_eq_false_iff_not,Bool.not_true]at *)
  all_goals first
    |(refine qN ?_;omega)
    |(simp only [Hold];omega)
    |skip
  · refine qC (qE (by rfl)) rfl (qC (qE ?_) rfl qA)
    rw [den_sym,den_sym]
    congr 1
    omega
theorem holds118 (a b c d:Int):FSpec Try.prog 102 [(.agg [(.int .i64 (.sym fun _=>a)),(.int .i64 (.sym fun _=>b))]),(.agg [(.int .i64 (.sym fun _=>c)),(.int .i64 (.sym fun _=>d))])] [] (fun r _=>r=(.bool (.sym fun _=>decide (c≤d)&&(decide (a≤c)&&decide (c≤b))&&(decide (a≤d)&&decide (d≤b))))):=by
  have c124:= @has124
  refine FSpec.is fun R hR=>qW (sc:=sc102) tyok mix Try.func102 rfl Try.call102 (by kernel_rfl) (by kernel_rfl) ?_
  generalize Try.prog=P at c124⊢
  cbv
  repeat' (first
    |with_reducible refine And.intro ?_ ?_
    |(with_reducible intro _;try cbv)
    |(refine call_intro (c124 _ _ _) (by(repeat' (first|exact qB|refine qD ?_ ?_|exact qE (by rfl)|exact qF (by rfl)|exact Fit.refl _|exact qA|refine qC ?_ rfl ?_))) ?_;try cbv))
  all_goals (try subst hR)
  all_goals refine qF ?_
  all_goals (try simp only [zi_den,den_sym,den_lit,bden_sym,bden_lit,addI_den,subI_den,mulI_den,eqB_den,neB_den,ltB_den,leB_den,gtB_den,geB_den,decide_eq_true_eq,decide_eq_false_iff_not,Bool.not_true]at *)
  all_goals simp_all
  all_goals (try omega)
end Go.Proofs.Ytkdggbfknlcdaaa

namespace Go.Proofs.Ytkdggbfknlcdaaa
open Go Go.Eng Go.Proofs
set_option maxRecDepth 10000
theorem min127 (a b:Int):FSpec Try.prog 119 [(.sl 1 (.lit 2) (fun ix=>cellsAt [(.int .i64 (.sym fun _=>a)),(.int .i64 (.sym fun _=>b))] (0+ix.den.toNat*1) 1))] [] (fun r _=>r=(.int .i64 (.sym fun _=>min a b))):=by
  refine FSpec.is fun R hR=>qW (sc:=sc119) tyok mix Try.func119 rfl Try.call119 (by kernel_rfl) (by kernel_rfl) ?_
  generalize Try.prog=P
  cbv
  repeat' (first
      |with_reducible refine hold ?_ ?_
      |fail)
  all_goals first|(refine⟨some 3,?_⟩;cbv)|skip
  repeat' (first
      |with_reducible refine hold ?_ ?_
      |fail)
  all_goals first
    |trivial
    |(subst hR;(refine qE ?_;simp only [zQ,zA,zB,zC,zD,zE,zF,zG,zH,zI,zJ,zK,zL,zM,zN,zO,zP,zR,zS];omega);done)
    |skip
theorem minimum120 (a b:Int):FSpec Try.prog 104 [(.sl 1 (.lit 2) (fun ix=>cellsAt [(.int .i64 (.sym fun _=>a)),(.int .i64 (.sym fun _=>b))] (0+ix.den.toNat*1) 1))] [] (fun r _=>r=(.int .i64 (.sym fun _=>min a b))):=by
  have c127:= @min127
  refine FSpec.is fun R hR=>qW (sc:=sc104) tyok mix Try.func104 rfl Try.call104 (by kernel_rfl) (by kernel_rfl) ?_
  generalize Try.prog=P at c127⊢
  cbv
  repeat' (first
      | (refine qP ?_ (c127 _ _) (by(repeat' (first|exact qB|refine qD ?_ ?_|exact qE (by rfl)|exact qF (by rfl)|exact Fit.refl _|exact qA|refine qC ?_ rfl ?_)))
         try cbv)
      |fail)
  all_goals first
    |(subst hR;(repeat' (first|exact qA|exact qB|refine qC ?_ rfl ?_|refine qD ?_ ?_|exact qE (by rfl)|exact qF (by rfl)|exact Fit.refl _|exact qG _|(refine qE ?_;(try simp only [qV]at *);simp only [zQ,zA,zB,zC,zD,zE,zF,zG,zH,zI,zJ,zK,zL,zM,zN,zO,zP,zR,zS]at *;omega)));done)
    |skip
end Go.Proofs.Ytkdggbfknlcdaaa

namespace Go.Proofs.Ytkdggbfknlcdaaa
open Go Go.Eng Go.Proofs
set_option maxRecDepth 10000
theorem mul_bd {x y:Int}(A B:Int)(hx:0≤x∧x≤A)(hy:0≤y∧y≤B):0≤x*y∧x*y≤A*B:=
  ⟨Int.mul_nonneg hx.1 hy.1,Int.mul_le_mul hx.2 hy.2 hy.1 (Int.le_trans hx.1 hx.2)⟩
theorem at126x (tw tm:List Int)(tv:List (List Int))(w m a b c d v00 v10 v01 v11:Int)(i k:Nat)(hl:2≤tw.length∧tw.length≤1000∧2≤tm.length∧tm.length≤1000)(hi:cellN tw w tw.length 0=i)(hk:cellN tm m tm.length 0=k)(ha:tw.getD i 0=a)(hb:tw.getD (i+1) 0=b)(hc:tm.getD k 0=c)(hd:tm.getD (k+1) 0=d)(h00:(tv.getD i []).getD k 0=v00)(h10:(tv.getD (i+1) []).getD k 0=v10)(h01:(tv.getD i []).getD (k+1) 0=v01)(h11:(tv.getD (i+1) []).getD (k+1) 0=v11)(hil:i+1<tw.length∧k+1<tm.length∧i+1<tv.length∧k+1<(tv.getD i []).length∧k+1<(tv.getD (i+1) []).length)(hbd:0≤a∧a≤w∧w≤b∧a<b∧b≤40∧0≤c∧c≤m∧m≤d∧c<d∧d≤60)(hv:0≤v00∧v00≤2000∧0≤v10∧v10≤2000∧0≤v01∧v01≤2000∧0≤v11∧v11≤2000):FSpec Try.prog 118 [(.agg [(.sl 1 (.sym fun _=>zi (tw).length) (fun ix=>[.int .i64 (.sym fun _=>(tw).getD ix.den.toNat 0)])),(.sl 1 (.sym fun _=>zi (tm).length) (fun ix=>[.int .i64 (.sym fun _=>(tm).getD ix.den.toNat 0)])),(.sl 1 (.sym fun _=>zi (tv).length) (fun ix=>[(.sl 1 (.sym fun _=>zi ((tv).getD ix.den.toNat []).length) (fun jx=>[.int .i64 (.sym fun _=>((tv).getD ix.den.toNat []).getD jx.den.toNat 0)]))]))]),(.int .i64 (.sym fun _=>w)),(.int .i64 (.sym fun _=>m))] [] (fun r _=>r=(.int .i64 (.sym fun _=>((2*(0+(v00*((b-a-(w-a))*(d-c-(m-c))))+(v10*((w-a)*(d-c-(m-c))))+(v01*((b-a-(w-a))*(m-c)))+(v11*((w-a)*(m-c))))+(b-a)*(d-c)).tdiv (2*(b-a)*(d-c)))))):=by
  have c128:= @cell128
  have p1:=mul_bd (x:=b-a-(w-a)) (y:=d-c-(m-c)) 40 60 (by omega) (by omega)
  have p2:=mul_bd (x:=w-a) (y:=d-c-(m-c)) 40 60 (by omega) (by omega)
  have p3:=mul_bd (x:=b-a-(w-a)) (y:=m-c) 40 60 (by omega) (by omega)
  have p4:=mul_bd (x:=w-a) (y:=m-c) 40 60 (by omega) (by omega)
  have p5:=mul_bd (x:=b-a) (y:=d-c) 40 60 (by omega) (by omega)
  have p6:1≤(b-a)*(d-c):=Int.mul_pos (by omega) (by omega)
  have q1:=mul_bd (x:=v00) 2000 2400 (by omega) p1
  have q2:=mul_bd (x:=v10) 2000 2400 (by omega) p2
  have q3:=mul_bd (x:=v01) 2000 2400 (by omega) p3
  have q4:=mul_bd (x:=v11) 2000 2400 (by omega) p4
  have p7:2*(b-a)*(d-c)=2*((b-a)*(d-c)):=Int.mul_assoc _ _ _
  have ei:((i:Int)+1).toNat=i+1:=by omega
  have ek:((k:Int)+1).toNat=k+1:=by omega
  have ei0:(i:Int).toNat=i:=by omega
  have ek0:(k:Int).toNat=k:=by omega
  refine FSpec.is fun R hR=>qW (sc:=sc118) tyok mix Try.func118 rfl Try.call118 (by kernel_rfl) (by kernel_rfl) ?_
  generalize Try.prog=P at c128⊢
  cbv
  repeat' (first
      |with_reducible refine hold ?_ ?_
      | (refine qP ?_ (c128 _ _ (show Hold _ from ?_)) (by(repeat' (first|exact qB|refine qD ?_ ?_|exact qE (by rfl)|exact qF (by rfl)|exact Fit.refl _|exact qA|refine qC ?_ rfl ?_)))
         try cbv)
      |fail)
  all_goals try (refine⟨some 5,?_⟩;cbv)
  repeat' (first
      |with_reducible refine hold ?_ ?_
      | (with_reducible refine qS ?_ ?_ ?_
         try cbv)
      |fail)
  all_goals (try simp only [zQ,zA,zB,zC,zD,zE,zF,zG,zH,zI,zJ,zK,zL,zM,zN,zO,zP,zR,zS,hi,hk,ei,ek,ei0,ek0,ha,hb,hc,hd,h00,h10,h01,h11])
  all_goals first
    |(refine qN ?_;omega)
    |(simp only [Hold];omega)
    |(refine qN ?_;rw [p7,Int.tdiv_eq_ediv_of_nonneg (by omega)];refine⟨?_,?_⟩;exact Int.le_trans (by omega) (Int.ediv_nonneg (by omega) (by omega));exact Int.le_trans (Int.ediv_le_self _ (by omega)) (by omega))
    |(subst hR;exact qE (by rfl))
    |(simp only [Hold];decide)
    |skip
  trace_state
end Go.Proofs.Ytkdggbfknlcdaaa

namespace Go.Proofs.Ytkdggbfknlcdaaa
open Go Go.Eng Go.Proofs
set_option maxRecDepth 10000
theorem at126 (tw tm:List Int)(tv:List (List Int))(w m:Int)(h:TOk tw tm tv∧Pt tw tm w m):FSpec Try.prog 118 [(.agg [(.sl 1 (.sym fun _=>zi (tw).length) (fun ix=>[.int .i64 (.sym fun _=>(tw).getD ix.den.toNat 0)])),(.sl 1 (.sym fun _=>zi (tm).length) (fun ix=>[.int .i64 (.sym fun _=>(tm).getD ix.den.toNat 0)])),(.sl 1 (.sym fun _=>zi (tv).length) (fun ix=>[(.sl 1 (.sym fun _=>zi ((tv).getD ix.den.toNat []).length) (fun jx=>[.int .i64 (.sym fun _=>((tv).getD ix.den.toNat []).getD jx.den.toNat 0)]))]))]),(.int .i64 (.sym fun _=>w)),(.int .i64 (.sym fun _=>m))] [] (fun r _=>r=(.int .i64 (.sym fun _=>atS tw tm tv w m))):=by
  obtain⟨h,hp⟩:=h
  have hi:=cell_in h.w2 hp.w0
  have hk:=cell_in h.m2 hp.m0
  have hr:=rising_spec h.rw
  have hs:=rising_spec h.rm
  have l1:=hi.lt
  have l2:=hk.lt
  have a1:=hr (cellN tw w tw.length 0) (by omega)
  have a2:=hr (cellN tw w tw.length 0+1) (by omega)
  have a3:=hs (cellN tm m tm.length 0) (by omega)
  have a4:=hs (cellN tm m tm.length 0+1) (by omega)
  simp only [risingAt,Nat.add_sub_cancel]at a1 a2 a3 a4
  have e:=h.len
  have r1:=h.row (cellN tw w tw.length 0) (by omega)
  have r2:=h.row (cellN tw w tw.length 0+1) (by omega)
  have v1:=h.val (cellN tw w tw.length 0) (by omega) (cellN tm m tm.length 0) (by omega)
  have v2:=h.val (cellN tw w tw.length 0+1) (by omega) (cellN tm m tm.length 0) (by omega)
  have v3:=h.val (cellN tw w tw.length 0) (by omega) (cellN tm m tm.length 0+1) (by omega)
  have v4:=h.val (cellN tw w tw.length 0+1) (by omega) (cellN tm m tm.length 0+1) (by omega)
  have b1:=hi.le_hi hp.w1
  have b2:=hk.le_hi hp.m1
  have c1:=hi.lo
  have c2:=hk.lo
  have d1:=h.w5;have d2:=h.m5;have d3:=h.w2;have d4:=h.m2
  exact at126x tw tm tv w m _ _ _ _ _ _ _ _ _ _ (by omega) rfl rfl rfl rfl rfl rfl rfl rfl rfl rfl (by omega) (by omega) (by omega)
end Go.Proofs.Ytkdggbfknlcdaaa

namespace Go.Proofs.Ytkdggbfknlcdaaa
def lastAt (l:List Int)(i:Nat):Int:=if i=0 then -1 else l.getD (i-1) 0
theorem lastAt_zero (l:List Int):lastAt l 0 = -1:=rfl
theorem lastAt_succ (l:List Int)(i:Nat):lastAt l (i+1)=l.getD i 0:=by simp [lastAt]
def entP (l:List Int)(most:Int)(i:Nat):Bool:=decide (lastAt l i+1≤l.getD i 0)&&decide (l.getD i 0≤most)
theorem entP_bd {l:List Int} {most:Int} {i:Nat}(h:∀j,j<i→entP l most j=true): -1≤lastAt l i∧(lastAt l i≤most∨lastAt l i = -1):=by
  induction i with
  |zero=>rw [lastAt_zero];omega
  | succ i ih=>
    have:=ih fun j hj=>h j (by omega)
    have h2:=h i (by omega)
    simp only [entP,Bool.and_eq_true,decide_eq_true_eq]at h2
    rw [lastAt_succ];omega
theorem ent_rising (l:List Int)(most:Int):decide (∀i,i<l.length→entP l most i=true)=rising l most:=by
  rw [Bool.eq_iff_iff]
  simp only [rising,decide_eq_true_eq]
  constructor
  · intro h i hi
    have h1:=h i hi
    simp only [entP,Bool.and_eq_true,decide_eq_true_eq]at h1
    have h2:=entP_bd (i:=i) fun j hj=>h j (by omega)
    refine⟨by omega,by omega,fun h0=> ?_⟩
    obtain⟨k,rfl⟩:∃k,i=k+1:=⟨i-1,by omega⟩
    rw [lastAt_succ]at h1
    rw [Nat.add_sub_cancel];omega
  · intro h i hi
    have h1:=h i hi
    simp only [risingAt]at h1
    simp only [entP,Bool.and_eq_true,decide_eq_true_eq]
    refine⟨?_,h1.2.1⟩
    by_cases e:i=0
    · subst e;rw [lastAt_zero];omega
    · have:=h1.2.2 (by omega)
      simp only [lastAt,e,if_false];omega
def valOk (l:List Int):Bool:=decide (∀i,i<l.length→(decide (0≤l.getD i 0)&&decide (l.getD i 0≤2000))=true)
def rowOk (n:Nat)(l:List Int):Bool:=decide (l.length=n)&&valOk l
def rowsOk (tm:List Int)(tv:List (List Int)):Bool:=decide (∀i,i<tv.length→rowOk tm.length (tv.getD i [])=true)
theorem rowsOk_iff (tm:List Int)(tv:List (List Int)):rowsOk tm tv=true↔∀i,i<tv.length→(tv.getD i []).length=tm.length∧∀k,k<tm.length→0≤(tv.getD i []).getD k 0∧(tv.getD i []).getD k 0≤2000:=by
  simp only [rowsOk,rowOk,valOk,decide_eq_true_eq,Bool.and_eq_true]
  constructor
  · intro h i hi
    obtain⟨h1,h2⟩:=h i hi
    exact⟨h1,fun k hk=>h2 k (by omega)⟩
  · intro h i hi
    obtain⟨h1,h2⟩:=h i hi
    exact⟨h1,fun k hk=>h2 k (by omega)⟩
theorem faultT_eq (tw tm:List Int)(tv:List (List Int)):faultT tw tm tv=if 5<tw.length∨5<tm.length∨5<tv.length then 3
    else if tw.length<2∨tm.length<2∨rising tw 40=false∨rising tm 60=false∨tv.length≠tw.length∨rowsOk tm tv=false then 1 else 0:=by
  unfold faultT
  split
  · rfl
  · by_cases h:rowsOk tm tv=true
    · have h':=(rowsOk_iff tm tv).1 h
      simp only [h,Bool.true_eq_false,or_false]
      split
      · rfl
      · first|rfl|rw [if_pos h']
    · have h':=fun q=>h ((rowsOk_iff tm tv).2 q)
      have hf:rowsOk tm tv=false:=by simpa using h
      simp only [hf,or_true,if_true]
      split
      · rfl
      · first|rfl|rw [if_neg h']
end Go.Proofs.Ytkdggbfknlcdaaa

namespace Go.Proofs.Ytkdggbfknlcdaaa
open Go Go.Eng Go.Proofs
set_option maxRecDepth 10000
theorem lam122_val (l:List Int)(hfew:l.length≤1000)(i:Nat)(hi:i<l.length∧∀j,j<i→(decide (0≤l.getD (j) 0)&&decide (l.getD (j) 0≤2000))=true):FSpec Try.prog 120 [(.int .i64 (.sym fun _=>l.getD (i) 0)),.own 0 0] [.cells [.clo 107 [] []] 121] (fun r bs=>r=(.bool (.sym fun _=> !(decide (0≤l.getD (i) 0)&&decide (l.getD (i) 0≤2000))))∧bs=[.cells [.clo 107 [] []] 121]):=by
  have cf:=value111 (l.getD i 0)
  refine FSpec.isB rfl fun R B hR hB=>qW (sc:=sc120) tyok mix Try.func120 rfl Try.call120 (by kernel_rfl) (by kernel_rfl) ?_
  generalize Try.prog=P at cf⊢
  cbv
  repeat' (first
      |with_reducible refine And.intro ?_ ?_
      | (refine qP ?_ (cf) (by(repeat' (first|exact qB|refine qD ?_ ?_|exact qE (by rfl)|exact qF (by rfl)|exact Fit.refl _|exact qA|refine qC ?_ rfl ?_)))
         try cbv)
      |fail)
  all_goals first
    |(subst hR;(repeat' (first|exact qA|exact qB|refine qC ?_ rfl ?_|refine qD ?_ ?_|exact qE (by rfl)|exact qF (by rfl)|exact Fit.refl _|exact qG _|(refine qE ?_;(try simp only [qV]at *);simp only [zQ,zA,zB,zC,zD,zE,zF,zG,zH,zI,zJ,zK,zL,zM,zN,zO,zP,zR,zS]at *;omega)));done)
    |(subst hB;(repeat' (first|exact qH|refine qI ?_ ?_|exact qK _|refine qJ ?_|exact qA|exact qE (by rfl)|exact qF (by rfl)|exact Fit.refl _|exact qG _|refine qC ?_ rfl ?_));done)
    |skip
theorem idx121_val (l:List Int)(hfew:l.length≤1000):FSpec Try.prog 115 [(.sl 1 (.sym fun _=>zi (l).length) (fun ix=>[.int .i64 (.sym fun _=>(l).getD ix.den.toNat 0)])),.clo 120 [] [.own 0 0]] [.cells [.clo 107 [] []] 121] (fun r bs=>r=(.int .i64 (.sym fun _=>fidx (fun i=>decide (0≤l.getD (i) 0)&&decide (l.getD (i) 0≤2000)) (l.length) 0))∧bs=[.cells [.clo 107 [] []] 121]):=by
  have cl:=lam122_val l hfew
  refine FSpec.isB rfl fun R B hR hB=>qW (sc:=sc115) tyok mix Try.func115 rfl Try.call115 (by kernel_rfl) (by kernel_rfl) ?_
  generalize Try.prog=P at cl⊢
  cbv
  repeat' (first
      |fail)
  all_goals first
    |skip
  refine⟨none,[],{i:Nat // i≤l.length∧fidx (fun i=>decide (0≤l.getD (i) 0)&&decide (l.getD (i) 0≤2000)) (l.length) 0=fidx (fun i=>decide (0≤l.getD (i) 0)&&decide (l.getD (i) 0≤2000)) (l.length-i) i∧∀j,j<i→(decide (0≤l.getD (j) 0)&&decide (l.getD (j) 0≤2000))=true},fun x=>⟨[(0,(.sl 1 (.sym fun _=>zi (l).length) (fun ix=>[.int .i64 (.sym fun _=>(l).getD ix.den.toNat 0)]))),(1,.clo 120 [] [.own 0 0]),(7,(.int .i64 (.sym fun _=>zi (l.length)))),(8,(.int .i64 (.sym fun _=>zi x.1)))],[(0,.cells [.clo 107 [] []] 121)],20⟩,fun x=>l.length-x.1,?_,?_⟩
  · refine⟨⟨0,by omega,rfl,fun j hj=>by omega⟩,?_⟩
    cbv
    repeat' (first
      |with_reducible refine hold ?_ ?_
      |with_reducible refine And.intro ?_ ?_)
    all_goals first
      |trivial
      |exact qM (qE (by rfl))
      |exact qM (Fit.refl _)
      |exact qL (qK _)
      |skip
  · rintro ⟨i,hi,hr,hq⟩
    cbv
    repeat' (first
        |with_reducible refine hold ?_ ?_
        |with_reducible refine And.intro ?_ ?_
        |(with_reducible intro hcd;(try simp only [zA,zB,zC,zD,zE,zF,zG,zH,zI,zJ,zK,zL,zM,zN,zO,zP]at hcd);try cbv)
        | (refine⟨some [0],?_⟩
           cbv
           refine qQ ?_ (cl i ⟨by(try simp only [qV]at *);simp only [zi_den]at *;omega,hq⟩) (by cbv;(repeat' (first|exact qB|refine qD ?_ ?_|exact qE (by rfl)|exact qF (by rfl)|exact Fit.refl _|exact qA|refine qC ?_ rfl ?_))) (by cbv;(repeat' (first|exact qH|refine qI ?_ ?_|exact qK _|refine qJ ?_|exact qA|exact qE (by rfl)|exact qF (by rfl)|exact Fit.refl _|exact qG _|refine qC ?_ rfl ?_)))
           try cbv)
        |fail)
    all_goals first
      |((try simp only [qV]at *);(try simp only [zQ,zA,zB,zC,zD,zE,zF,zG,zH,zI,zJ,zK,zL,zM,zN,zO,zP,zR,zS]at *);first|(refine qN ?_;omega)|(simp only [Hold];omega))
      |(subst hR;(refine qE ?_;simp only [zQ,zA,zB,zC,zD,zE,zF,zG,zH,zI,zJ,zK,zL,zM,zN,zO,zP,zR,zS]at *;rw [hr,fidx_stop (by omega) hcd]);done)
      |(subst hR;(refine qE ?_;simp only [zQ,zA,zB,zC,zD,zE,zF,zG,zH,zI,zJ,zK,zL,zM,zN,zO,zP,zR,zS]at *;rw [hr,show l.length-i=0 by omega];rfl);done)
      |(subst hB;(repeat' (first|exact qH|refine qI ?_ ?_|exact qK _|refine qJ ?_|exact qA|exact qE (by rfl)|exact qF (by rfl)|exact Fit.refl _|exact qG _|refine qC ?_ rfl ?_));done)
      |((try simp only [zQ,zA,zB,zC,zD,zE,zF,zG,zH,zI,zJ,zK,zL,zM,zN,zO,zP,zR,zS]at *);refine⟨⟨i+1,by omega,by rw [hr,fidx_go (by omega) hcd];(try congr 1)<;>omega,fun j hj=>(Nat.lt_or_ge j i).elim (hq j) (fun q=>by rw [show j=i by omega];exact hcd)⟩,by simp only [];omega,?_⟩;cbv;(repeat' (first|with_reducible refine hold ?_ ?_|with_reducible refine And.intro ?_ ?_));(all_goals first|trivial|exact qM (qE (by rfl))|exact qM (qF (by rfl))|exact qM (Fit.refl _)|exact qL (qK _)|(refine qM (qE ?_);(try simp only [qV]at *);simp only [zQ,zA,zB,zC,zD,zE,zF,zG,zH,zI,zJ,zK,zL,zM,zN,zO,zP,zR,zS]at *;omega)|(refine qL (qJ ?_);(repeat' (first|exact qA|exact qB|refine qC ?_ rfl ?_|refine qD ?_ ?_|exact qE (by rfl)|exact qF (by rfl)|exact Fit.refl _|exact qG _|(refine qE ?_;(try simp only [qV]at *);simp only [zQ,zA,zB,zC,zD,zE,zF,zG,zH,zI,zJ,zK,zL,zM,zN,zO,zP,zR,zS]at *;omega)));done)|skip))
      |skip
theorem cont104_val (l:List Int)(hfew:l.length≤1000):FSpec Try.prog 99 [(.sl 1 (.sym fun _=>zi (l).length) (fun ix=>[.int .i64 (.sym fun _=>(l).getD ix.den.toNat 0)])),.clo 120 [] [.own 0 0]] [.cells [.clo 107 [] []] 121] (fun r bs=>r=(.bool (.sym fun _=>decide (0≤fidx (fun i=>decide (0≤l.getD (i) 0)&&decide (l.getD (i) 0≤2000)) (l.length) 0)))∧bs=[.cells [.clo 107 [] []] 121]):=by
  have ci:=idx121_val l hfew
  refine FSpec.isB rfl fun R B hR hB=>qW (sc:=sc99) tyok mix Try.func99 rfl Try.call99 (by kernel_rfl) (by kernel_rfl) ?_
  generalize Try.prog=P at ci⊢
  cbv
  repeat' (first
      |with_reducible refine And.intro ?_ ?_
      | (refine⟨some [0],?_⟩
         cbv
         refine qQ ?_ (ci) (by cbv;(repeat' (first|exact qB|refine qD ?_ ?_|exact qE (by rfl)|exact qF (by rfl)|exact Fit.refl _|exact qA|refine qC ?_ rfl ?_))) (by cbv;(repeat' (first|exact qH|refine qI ?_ ?_|exact qK _|refine qJ ?_|exact qA|exact qE (by rfl)|exact qF (by rfl)|exact Fit.refl _|exact qG _|refine qC ?_ rfl ?_)))
         try cbv)
      |fail)
  all_goals first
    |(subst hR;(repeat' (first|exact qA|exact qB|refine qC ?_ rfl ?_|refine qD ?_ ?_|exact qE (by rfl)|exact qF (by rfl)|exact Fit.refl _|exact qG _|(refine qE ?_;(try simp only [qV]at *);simp only [zQ,zA,zB,zC,zD,zE,zF,zG,zH,zI,zJ,zK,zL,zM,zN,zO,zP,zR,zS]at *;omega)));done)
    |(subst hB;(repeat' (first|exact qH|refine qI ?_ ?_|exact qK _|refine qJ ?_|exact qA|exact qE (by rfl)|exact qF (by rfl)|exact Fit.refl _|exact qG _|refine qC ?_ rfl ?_));done)
    |skip
theorem all110_val (l:List Int)(hfew:l.length≤1000):FSpec Try.prog 106 [(.sl 1 (.sym fun _=>zi (l).length) (fun ix=>[.int .i64 (.sym fun _=>(l).getD ix.den.toNat 0)])),.clo 107 [] []] [] (fun r _=>r=(.bool (.sym fun _=> !(decide (0≤fidx (fun i=>decide (0≤l.getD (i) 0)&&decide (l.getD (i) 0≤2000)) (l.length) 0))))):=by
  have cc:=cont104_val l hfew
  refine FSpec.is fun R hR=>qW (sc:=sc106) tyok mix Try.func106 rfl Try.call106 (by kernel_rfl) (by kernel_rfl) ?_
  generalize Try.prog=P at cc⊢
  cbv
  repeat' (first
      | (refine⟨some [0],?_⟩
         cbv
         refine qQ ?_ (cc) (by cbv;(repeat' (first|exact qB|refine qD ?_ ?_|exact qE (by rfl)|exact qF (by rfl)|exact Fit.refl _|exact qA|refine qC ?_ rfl ?_))) (by cbv;(repeat' (first|exact qH|refine qI ?_ ?_|exact qK _|refine qJ ?_|exact qA|exact qE (by rfl)|exact qF (by rfl)|exact Fit.refl _|exact qG _|refine qC ?_ rfl ?_)))
         try cbv)
      |fail)
  all_goals first
    |(subst hR;(repeat' (first|exact qA|exact qB|refine qC ?_ rfl ?_|refine qD ?_ ?_|exact qE (by rfl)|exact qF (by rfl)|exact Fit.refl _|exact qG _|(refine qE ?_;(try simp only [qV]at *);simp only [zQ,zA,zB,zC,zD,zE,zF,zG,zH,zI,zJ,zK,zL,zM,zN,zO,zP,zR,zS]at *;omega)));done)
    |skip
theorem entry112 (l:List Int)(most:Int)(i:Nat)(hm:0≤most∧most≤1000000)(hi:i<l.length∧∀j,j<i→entP l most j=true):FSpec Try.prog 108 [(.int .i64 (.sym fun _=>l.getD i 0)),.own 0 0,.own 1 0] [.cells [(.int .i64 (.sym fun _=>lastAt l i))] 3,.cells [(.int .i64 (.sym fun _=>most))] 3] (fun r bs=>r=(.bool (.sym fun _=>entP l most i))∧bs=[.cells [(.int .i64 (.sym fun _=>lastAt l (i+1)))] 3,.cells [(.int .i64 (.sym fun _=>most))] 3]):=by
  have c113:= @within113
  refine FSpec.isB rfl fun R B hR hB=>qW (sc:=sc108) tyok mix Try.func108 rfl Try.call108 (by kernel_rfl) (by kernel_rfl) ?_
  generalize Try.prog=P at c113⊢
  cbv
  have hb:=entP_bd hi.2
  repeat' (first
      |with_reducible refine hold ?_ ?_
      |with_reducible refine And.intro ?_ ?_
      | (refine qP ?_ (c113 _ _ _) (by(repeat' (first|exact qB|refine qD ?_ ?_|exact qE (by rfl)|exact qF (by rfl)|exact Fit.refl _|exact qA|refine qC ?_ rfl ?_)))
         try cbv)
      |fail)
  all_goals first
    |((try simp only [qV]at *);(try simp only [zQ,zA,zB,zC,zD,zE,zF,zG,zH,zI,zJ,zK,zL,zM,zN,zO,zP,zR,zS]at *);first|(refine qN ?_;omega)|(simp only [Hold];omega))
    |(subst hR;(repeat' (first|exact qA|exact qB|refine qC ?_ rfl ?_|refine qD ?_ ?_|exact qE (by rfl)|exact qF (by rfl)|exact Fit.refl _|exact qG _|(refine qE ?_;(try simp only [qV]at *);simp only [zQ,zA,zB,zC,zD,zE,zF,zG,zH,zI,zJ,zK,zL,zM,zN,zO,zP,zR,zS]at *;omega)));done)
    |(subst hB;refine qI (qJ (qC (qE ?_) rfl qA)) (qI (qK _) qH);simp only [zQ,zA,zB,zC,zD,zE,zF,zG,zH,zI,zJ,zK,zL,zM,zN,zO,zP,zR,zS,lastAt_succ];done)
    |skip
theorem lam122_ent (l:List Int)(most:Int)(hm:0≤most∧most≤1000000)(hfew:l.length≤1000)(i:Nat)(hi:i<l.length∧∀j,j<i→(entP l most (j))=true):FSpec Try.prog 120 [(.int .i64 (.sym fun _=>l.getD (i) 0)),.own 0 0] [.cells [.clo 108 [] [.own 1 0,.own 2 0]] 121,.cells [(.int .i64 (.sym fun _=>lastAt l (i)))] 3,.cells [(.int .i64 (.sym fun _=>most))] 3] (fun r bs=>r=(.bool (.sym fun _=> !(entP l most (i))))∧bs=[.cells [.clo 108 [] [.own 1 0,.own 2 0]] 121,.cells [(.int .i64 (.sym fun _=>lastAt l (i+1)))] 3,.cells [(.int .i64 (.sym fun _=>most))] 3]):=by
  have cf:=entry112 l most i hm hi
  refine FSpec.isB rfl fun R B hR hB=>qW (sc:=sc120) tyok mix Try.func120 rfl Try.call120 (by kernel_rfl) (by kernel_rfl) ?_
  generalize Try.prog=P at cf⊢
  cbv
  repeat' (first
      |with_reducible refine And.intro ?_ ?_
      | (refine⟨some [1,2],?_⟩
         cbv
         refine qQ ?_ (cf) (by cbv;(repeat' (first|exact qB|refine qD ?_ ?_|exact qE (by rfl)|exact qF (by rfl)|exact Fit.refl _|exact qA|refine qC ?_ rfl ?_))) (by cbv;(repeat' (first|exact qH|refine qI ?_ ?_|exact qK _|refine qJ ?_|exact qA|exact qE (by rfl)|exact qF (by rfl)|exact Fit.refl _|exact qG _|refine qC ?_ rfl ?_)))
         try cbv)
      |fail)
  all_goals first
    |(subst hR;(repeat' (first|exact qA|exact qB|refine qC ?_ rfl ?_|refine qD ?_ ?_|exact qE (by rfl)|exact qF (by rfl)|exact Fit.refl _|exact qG _|(refine qE ?_;(try simp only [qV]at *);simp only [zQ,zA,zB,zC,zD,zE,zF,zG,zH,zI,zJ,zK,zL,zM,zN,zO,zP,zR,zS]at *;omega)));done)
    |(subst hB;(repeat' (first|exact qH|refine qI ?_ ?_|exact qK _|refine qJ ?_|exact qA|exact qE (by rfl)|exact qF (by rfl)|exact Fit.refl _|exact qG _|refine qC ?_ rfl ?_));done)
    |skip
theorem idx121_ent (l:List Int)(most:Int)(hm:0≤most∧most≤1000000)(hfew:l.length≤1000):FSpec Try.prog 115 [(.sl 1 (.sym fun _=>zi (l).length) (fun ix=>[.int .i64 (.sym fun _=>(l).getD ix.den.toNat 0)])),.clo 120 [] [.own 0 0]] [.cells [.clo 108 [] [.own 1 0,.own 2 0]] 121,.cells [(.int .i64 (.sym fun _=>lastAt l (0)))] 3,.cells [(.int .i64 (.sym fun _=>most))] 3] (fun r bs=>r=(.int .i64 (.sym fun _=>fidx (fun i=>entP l most (i)) (l.length) 0))∧bs=[.cells [.clo 108 [] [.own 1 0,.own 2 0]] 121,.cells [.any] 3,.cells [(.int .i64 (.sym fun _=>most))] 3]):=by
  have cl:=lam122_ent l most hm hfew
  refine FSpec.isB rfl fun R B hR hB=>qW (sc:=sc115) tyok mix Try.func115 rfl Try.call115 (by kernel_rfl) (by kernel_rfl) ?_
  generalize Try.prog=P at cl⊢
  cbv
  repeat' (first
      |fail)
  all_goals first
    |skip
  refine⟨none,[],{i:Nat // i≤l.length∧fidx (fun i=>entP l most (i)) (l.length) 0=fidx (fun i=>entP l most (i)) (l.length-i) i∧∀j,j<i→(entP l most (j))=true},fun x=>⟨[(0,(.sl 1 (.sym fun _=>zi (l).length) (fun ix=>[.int .i64 (.sym fun _=>(l).getD ix.den.toNat 0)]))),(1,.clo 120 [] [.own 0 0]),(7,(.int .i64 (.sym fun _=>zi (l.length)))),(8,(.int .i64 (.sym fun _=>zi x.1)))],[(0,.cells [.clo 108 [] [.own 1 0,.own 2 0]] 121),(1,.cells [(.int .i64 (.sym fun _=>lastAt l (x.1)))] 3),(2,.cells [(.int .i64 (.sym fun _=>most))] 3)],20⟩,fun x=>l.length-x.1,?_,?_⟩
  · refine⟨⟨0,by omega,rfl,fun j hj=>by omega⟩,?_⟩
    cbv
    repeat' (first
      |with_reducible refine hold ?_ ?_
      |with_reducible refine And.intro ?_ ?_)
    all_goals first
      |trivial
      |exact qM (qE (by rfl))
      |exact qM (Fit.refl _)
      |exact qL (qK _)
      |skip
  · rintro ⟨i,hi,hr,hq⟩
    cbv
    repeat' (first
        |with_reducible refine hold ?_ ?_
        |with_reducible refine And.intro ?_ ?_
        |(with_reducible intro hcd;(try simp only [zA,zB,zC,zD,zE,zF,zG,zH,zI,zJ,zK,zL,zM,zN,zO,zP]at hcd);try cbv)
        | (refine⟨some [0,1,2],?_⟩
           cbv
           refine qQ ?_ (cl i ⟨by(try simp only [qV]at *);simp only [zi_den]at *;omega,hq⟩) (by cbv;(repeat' (first|exact qB|refine qD ?_ ?_|exact qE (by rfl)|exact qF (by rfl)|exact Fit.refl _|exact qA|refine qC ?_ rfl ?_))) (by cbv;(repeat' (first|exact qH|refine qI ?_ ?_|exact qK _|refine qJ ?_|exact qA|exact qE (by rfl)|exact qF (by rfl)|exact Fit.refl _|exact qG _|refine qC ?_ rfl ?_)))
           try cbv)
        |fail)
    all_goals first
      |((try simp only [qV]at *);(try simp only [zQ,zA,zB,zC,zD,zE,zF,zG,zH,zI,zJ,zK,zL,zM,zN,zO,zP,zR,zS]at *);first|(refine qN ?_;omega)|(simp only [Hold];omega))
      |(subst hR;(refine qE ?_;simp only [zQ,zA,zB,zC,zD,zE,zF,zG,zH,zI,zJ,zK,zL,zM,zN,zO,zP,zR,zS]at *;rw [hr,fidx_stop (by omega) hcd]);done)
      |(subst hR;(refine qE ?_;simp only [zQ,zA,zB,zC,zD,zE,zF,zG,zH,zI,zJ,zK,zL,zM,zN,zO,zP,zR,zS]at *;rw [hr,show l.length-i=0 by omega];rfl);done)
      |(subst hB;(repeat' (first|exact qH|refine qI ?_ ?_|exact qK _|refine qJ ?_|exact qA|exact qE (by rfl)|exact qF (by rfl)|exact Fit.refl _|exact qG _|refine qC ?_ rfl ?_));done)
      |((try simp only [zQ,zA,zB,zC,zD,zE,zF,zG,zH,zI,zJ,zK,zL,zM,zN,zO,zP,zR,zS]at *);refine⟨⟨i+1,by omega,by rw [hr,fidx_go (by omega) hcd];(try congr 1)<;>omega,fun j hj=>(Nat.lt_or_ge j i).elim (hq j) (fun q=>by rw [show j=i by omega];exact hcd)⟩,by simp only [];omega,?_⟩;cbv;(repeat' (first|with_reducible refine hold ?_ ?_|with_reducible refine And.intro ?_ ?_));(all_goals first|trivial|exact qM (qE (by rfl))|exact qM (qF (by rfl))|exact qM (Fit.refl _)|exact qL (qK _)|(refine qM (qE ?_);(try simp only [qV]at *);simp only [zQ,zA,zB,zC,zD,zE,zF,zG,zH,zI,zJ,zK,zL,zM,zN,zO,zP,zR,zS]at *;omega)|(refine qL (qJ ?_);(repeat' (first|exact qA|exact qB|refine qC ?_ rfl ?_|refine qD ?_ ?_|exact qE (by rfl)|exact qF (by rfl)|exact Fit.refl _|exact qG _|(refine qE ?_;(try simp only [qV]at *);simp only [zQ,zA,zB,zC,zD,zE,zF,zG,zH,zI,zJ,zK,zL,zM,zN,zO,zP,zR,zS]at *;omega)));done)|skip))
      |skip
theorem cont104_ent (l:List Int)(most:Int)(hm:0≤most∧most≤1000000)(hfew:l.length≤1000):FSpec Try.prog 99 [(.sl 1 (.sym fun _=>zi (l).length) (fun ix=>[.int .i64 (.sym fun _=>(l).getD ix.den.toNat 0)])),.clo 120 [] [.own 0 0]] [.cells [.clo 108 [] [.own 1 0,.own 2 0]] 121,.cells [(.int .i64 (.sym fun _=>lastAt l (0)))] 3,.cells [(.int .i64 (.sym fun _=>most))] 3] (fun r bs=>r=(.bool (.sym fun _=>decide (0≤fidx (fun i=>entP l most (i)) (l.length) 0)))∧bs=[.cells [.clo 108 [] [.own 1 0,.own 2 0]] 121,.cells [.any] 3,.cells [(.int .i64 (.sym fun _=>most))] 3]):=by
  have ci:=idx121_ent l most hm hfew
  refine FSpec.isB rfl fun R B hR hB=>qW (sc:=sc99) tyok mix Try.func99 rfl Try.call99 (by kernel_rfl) (by kernel_rfl) ?_
  generalize Try.prog=P at ci⊢
  cbv
  repeat' (first
      |with_reducible refine And.intro ?_ ?_
      | (refine⟨some [0,1,2],?_⟩
         cbv
         refine qQ ?_ (ci) (by cbv;(repeat' (first|exact qB|refine qD ?_ ?_|exact qE (by rfl)|exact qF (by rfl)|exact Fit.refl _|exact qA|refine qC ?_ rfl ?_))) (by cbv;(repeat' (first|exact qH|refine qI ?_ ?_|exact qK _|refine qJ ?_|exact qA|exact qE (by rfl)|exact qF (by rfl)|exact Fit.refl _|exact qG _|refine qC ?_ rfl ?_)))
         try cbv)
      |fail)
  all_goals first
    |(subst hR;(repeat' (first|exact qA|exact qB|refine qC ?_ rfl ?_|refine qD ?_ ?_|exact qE (by rfl)|exact qF (by rfl)|exact Fit.refl _|exact qG _|(refine qE ?_;(try simp only [qV]at *);simp only [zQ,zA,zB,zC,zD,zE,zF,zG,zH,zI,zJ,zK,zL,zM,zN,zO,zP,zR,zS]at *;omega)));done)
    |(subst hB;(repeat' (first|exact qH|refine qI ?_ ?_|exact qK _|refine qJ ?_|exact qA|exact qE (by rfl)|exact qF (by rfl)|exact Fit.refl _|exact qG _|refine qC ?_ rfl ?_));done)
    |skip
theorem all110_ent (l:List Int)(most:Int)(hm:0≤most∧most≤1000000)(hfew:l.length≤1000):FSpec Try.prog 106 [(.sl 1 (.sym fun _=>zi (l).length) (fun ix=>[.int .i64 (.sym fun _=>(l).getD ix.den.toNat 0)])),.clo 108 [] [.own 0 0,.own 1 0]] [.cells [(.int .i64 (.sym fun _=>lastAt l (0)))] 3,.cells [(.int .i64 (.sym fun _=>most))] 3] (fun r bs=>r=(.bool (.sym fun _=> !(decide (0≤fidx (fun i=>entP l most (i)) (l.length) 0))))∧bs=[.cells [.any] 3,.cells [(.int .i64 (.sym fun _=>most))] 3]):=by
  have cc:=cont104_ent l most hm hfew
  refine FSpec.isB rfl fun R B hR hB=>qW (sc:=sc106) tyok mix Try.func106 rfl Try.call106 (by kernel_rfl) (by kernel_rfl) ?_
  generalize Try.prog=P at cc⊢
  cbv
  repeat' (first
      |with_reducible refine And.intro ?_ ?_
      | (refine⟨some [2,0,1],?_⟩
         cbv
         refine qQ ?_ (cc) (by cbv;(repeat' (first|exact qB|refine qD ?_ ?_|exact qE (by rfl)|exact qF (by rfl)|exact Fit.refl _|exact qA|refine qC ?_ rfl ?_))) (by cbv;(repeat' (first|exact qH|refine qI ?_ ?_|exact qK _|refine qJ ?_|exact qA|exact qE (by rfl)|exact qF (by rfl)|exact Fit.refl _|exact qG _|refine qC ?_ rfl ?_)))
         try cbv)
      |fail)
  all_goals first
    |(subst hR;(repeat' (first|exact qA|exact qB|refine qC ?_ rfl ?_|refine qD ?_ ?_|exact qE (by rfl)|exact qF (by rfl)|exact Fit.refl _|exact qG _|(refine qE ?_;(try simp only [qV]at *);simp only [zQ,zA,zB,zC,zD,zE,zF,zG,zH,zI,zJ,zK,zL,zM,zN,zO,zP,zR,zS]at *;omega)));done)
    |(subst hB;(repeat' (first|exact qH|refine qI ?_ ?_|exact qK _|refine qJ ?_|exact qA|exact qE (by rfl)|exact qF (by rfl)|exact Fit.refl _|exact qG _|refine qC ?_ rfl ?_));done)
    |skip
theorem entries97 (l:List Int)(most:Int)(h:l.length≤1000)(hm:0≤most∧most≤1000000):FSpec Try.prog 78 [(.sl 1 (.sym fun _=>zi (l).length) (fun ix=>[.int .i64 (.sym fun _=>(l).getD ix.den.toNat 0)])),(.int .i64 (.sym fun _=>most))] [] (fun r _=>r=(.bool (.sym fun _=>decide (2≤l.length)&&rising l most))):=by
  have ca:=all110_ent l most hm h
  refine FSpec.is fun R hR=>qW (sc:=sc78) tyok mix Try.func78 rfl Try.call78 (by kernel_rfl) (by kernel_rfl) ?_
  generalize Try.prog=P at ca⊢
  cbv
  repeat' (first
      |with_reducible refine And.intro ?_ ?_
      |(with_reducible intro hcd;(try simp only [zA,zB,zC,zD,zE,zF,zG,zH,zI,zJ,zK,zL,zM,zN,zO,zP]at hcd);try cbv)
      | (refine⟨some [2,0],?_⟩
         cbv
         refine qQ ?_ (ca) (by cbv;(repeat' (first|exact qB|refine qD ?_ ?_|exact qE (by rfl)|exact qF (by rfl)|exact Fit.refl _|exact qA|refine qC ?_ rfl ?_))) (by cbv;(repeat' (first|exact qH|refine qI ?_ ?_|exact qK _|refine qJ ?_|exact qA|exact qE (by rfl)|exact qF (by rfl)|exact Fit.refl _|exact qG _|refine qC ?_ rfl ?_)))
         try cbv)
      |fail)
  all_goals first
    |(subst hR;(refine qF ?_;(try simp only [qV]at *);simp only [zQ,zA,zB,zC,zD,zE,zF,zG,zH,zI,zJ,zK,zL,zM,zN,zO,zP,zR,zS]at *;rw [all_iff,ent_rising];have h2:2≤l.length:=(by omega);simp [h2]);done)
    |(subst hR;(refine qF ?_;(try simp only [qV]at *);simp only [zQ,zA,zB,zC,zD,zE,zF,zG,zH,zI,zJ,zK,zL,zM,zN,zO,zP,zR,zS]at *;have h2:¬2≤l.length:=(by omega);simp [h2]);done)
    |skip
theorem row96 (tw tm l:List Int)(tv:List (List Int))(h:tm.length≤1000):FSpec Try.prog 77 [(.agg [(.sl 1 (.sym fun _=>zi (tw).length) (fun ix=>[.int .i64 (.sym fun _=>(tw).getD ix.den.toNat 0)])),(.sl 1 (.sym fun _=>zi (tm).length) (fun ix=>[.int .i64 (.sym fun _=>(tm).getD ix.den.toNat 0)])),(.sl 1 (.sym fun _=>zi (tv).length) (fun ix=>[(.sl 1 (.sym fun _=>zi ((tv).getD ix.den.toNat []).length) (fun jx=>[.int .i64 (.sym fun _=>((tv).getD ix.den.toNat []).getD jx.den.toNat 0)]))]))]),(.sl 1 (.sym fun _=>zi (l).length) (fun ix=>[.int .i64 (.sym fun _=>(l).getD ix.den.toNat 0)]))] [] (fun r _=>r=(.bool (.sym fun _=>rowOk tm.length l))):=by
  have ca:=all110_val l
  refine FSpec.is fun R hR=>qW (sc:=sc77) tyok mix Try.func77 rfl Try.call77 (by kernel_rfl) (by kernel_rfl) ?_
  generalize Try.prog=P at ca⊢
  cbv
  repeat' (first
      |with_reducible refine And.intro ?_ ?_
      |(with_reducible intro hcd;(try simp only [zA,zB,zC,zD,zE,zF,zG,zH,zI,zJ,zK,zL,zM,zN,zO,zP]at hcd);try cbv)
      | (refine qP ?_ (ca (show Hold _ from ?_)) (by(repeat' (first|exact qB|refine qD ?_ ?_|exact qE (by rfl)|exact qF (by rfl)|exact Fit.refl _|exact qA|refine qC ?_ rfl ?_)))
         try cbv)
      |fail)
  all_goals first
    |((try simp only [qV]at *);(try simp only [zQ,zA,zB,zC,zD,zE,zF,zG,zH,zI,zJ,zK,zL,zM,zN,zO,zP,zR,zS]at *);first|(refine qN ?_;omega)|(simp only [Hold];omega))
    |(subst hR;(refine qF ?_;(try simp only [qV]at *);simp only [zQ,zA,zB,zC,zD,zE,zF,zG,zH,zI,zJ,zK,zL,zM,zN,zO,zP,zR,zS]at *;rw [all_iff,rowOk,valOk];have h2:l.length=tm.length:=(by omega);simp only [h2,decide_true,Bool.true_and]);done)
    |(subst hR;(refine qF ?_;(try simp only [qV]at *);simp only [zQ,zA,zB,zC,zD,zE,zF,zG,zH,zI,zJ,zK,zL,zM,zN,zO,zP,zR,zS]at *;rw [rowOk];have h2:¬l.length=tm.length:=(by omega);simp [h2]);done)
    |skip
end Go.Proofs.Ytkdggbfknlcdaaa

namespace Go.Proofs.Ytkdggbfknlcdaaa
open Go Go.Eng Go.Proofs
set_option maxRecDepth 10000
theorem lam115_rows (tw tm:List Int)(tv:List (List Int))(hm:tm.length≤1000)(hfew:tv.length≤1000)(i:Nat)(hi:i<tv.length∧∀j,j<i→(rowOk tm.length (tv.getD (j) []))=true):FSpec Try.prog 110 [(.sl 1 (.sym fun _=>zi ((tv.getD (i) [])).length) (fun ix=>[.int .i64 (.sym fun _=>((tv.getD (i) [])).getD ix.den.toNat 0)])),.own 0 0] [.cells [.clo 77 [(.agg [(.sl 1 (.sym fun _=>zi (tw).length) (fun ix=>[.int .i64 (.sym fun _=>(tw).getD ix.den.toNat 0)])),(.sl 1 (.sym fun _=>zi (tm).length) (fun ix=>[.int .i64 (.sym fun _=>(tm).getD ix.den.toNat 0)])),(.sl 1 (.sym fun _=>zi (tv).length) (fun ix=>[(.sl 1 (.sym fun _=>zi ((tv).getD ix.den.toNat []).length) (fun jx=>[.int .i64 (.sym fun _=>((tv).getD ix.den.toNat []).getD jx.den.toNat 0)]))]))])] []] 119] (fun r bs=>r=(.bool (.sym fun _=> !(rowOk tm.length (tv.getD (i) []))))∧bs=[.cells [.clo 77 [(.agg [(.sl 1 (.sym fun _=>zi (tw).length) (fun ix=>[.int .i64 (.sym fun _=>(tw).getD ix.den.toNat 0)])),(.sl 1 (.sym fun _=>zi (tm).length) (fun ix=>[.int .i64 (.sym fun _=>(tm).getD ix.den.toNat 0)])),(.sl 1 (.sym fun _=>zi (tv).length) (fun ix=>[(.sl 1 (.sym fun _=>zi ((tv).getD ix.den.toNat []).length) (fun jx=>[.int .i64 (.sym fun _=>((tv).getD ix.den.toNat []).getD jx.den.toNat 0)]))]))])] []] 119]):=by
  have cf:=row96 tw tm (tv.getD i []) tv hm
  refine FSpec.isB rfl fun R B hR hB=>qW (sc:=sc110) tyok mix Try.func110 rfl Try.call110 (by kernel_rfl) (by kernel_rfl) ?_
  generalize Try.prog=P at cf⊢
  cbv
  repeat' (first
      |with_reducible refine And.intro ?_ ?_
      | (refine qP ?_ (cf) (by(repeat' (first|exact qB|refine qD ?_ ?_|exact qE (by rfl)|exact qF (by rfl)|exact Fit.refl _|exact qA|refine qC ?_ rfl ?_)))
         try cbv)
      |fail)
  all_goals first
    |(subst hR;(repeat' (first|exact qA|exact qB|refine qC ?_ rfl ?_|refine qD ?_ ?_|exact qE (by rfl)|exact qF (by rfl)|exact Fit.refl _|exact qG _|(refine qE ?_;(try simp only [qV]at *);simp only [zQ,zA,zB,zC,zD,zE,zF,zG,zH,zI,zJ,zK,zL,zM,zN,zO,zP,zR,zS]at *;omega)));done)
    |(subst hB;(repeat' (first|exact qH|refine qI ?_ ?_|exact qK _|refine qJ ?_|exact qA|exact qE (by rfl)|exact qF (by rfl)|exact Fit.refl _|exact qG _|refine qC ?_ rfl ?_));done)
    |skip
theorem idx123_rows (tw tm:List Int)(tv:List (List Int))(hm:tm.length≤1000)(hfew:tv.length≤1000):FSpec Try.prog 97 [(.sl 1 (.sym fun _=>zi (tv).length) (fun ix=>[(.sl 1 (.sym fun _=>zi ((tv).getD ix.den.toNat []).length) (fun jx=>[.int .i64 (.sym fun _=>((tv).getD ix.den.toNat []).getD jx.den.toNat 0)]))])),.clo 110 [] [.own 0 0]] [.cells [.clo 77 [(.agg [(.sl 1 (.sym fun _=>zi (tw).length) (fun ix=>[.int .i64 (.sym fun _=>(tw).getD ix.den.toNat 0)])),(.sl 1 (.sym fun _=>zi (tm).length) (fun ix=>[.int .i64 (.sym fun _=>(tm).getD ix.den.toNat 0)])),(.sl 1 (.sym fun _=>zi (tv).length) (fun ix=>[(.sl 1 (.sym fun _=>zi ((tv).getD ix.den.toNat []).length) (fun jx=>[.int .i64 (.sym fun _=>((tv).getD ix.den.toNat []).getD jx.den.toNat 0)]))]))])] []] 119] (fun r bs=>r=(.int .i64 (.sym fun _=>fidx (fun i=>rowOk tm.length (tv.getD (i) [])) (tv.length) 0))∧bs=[.cells [.clo 77 [(.agg [(.sl 1 (.sym fun _=>zi (tw).length) (fun ix=>[.int .i64 (.sym fun _=>(tw).getD ix.den.toNat 0)])),(.sl 1 (.sym fun _=>zi (tm).length) (fun ix=>[.int .i64 (.sym fun _=>(tm).getD ix.den.toNat 0)])),(.sl 1 (.sym fun _=>zi (tv).length) (fun ix=>[(.sl 1 (.sym fun _=>zi ((tv).getD ix.den.toNat []).length) (fun jx=>[.int .i64 (.sym fun _=>((tv).getD ix.den.toNat []).getD jx.den.toNat 0)]))]))])] []] 119]):=by
  have cl:=lam115_rows tw tm tv hm hfew
  refine FSpec.isB rfl fun R B hR hB=>qW (sc:=sc97) tyok mix Try.func97 rfl Try.call97 (by kernel_rfl) (by kernel_rfl) ?_
  generalize Try.prog=P at cl⊢
  cbv
  repeat' (first
      |fail)
  all_goals first
    |skip
  refine⟨none,[],{i:Nat // i≤tv.length∧fidx (fun i=>rowOk tm.length (tv.getD (i) [])) (tv.length) 0=fidx (fun i=>rowOk tm.length (tv.getD (i) [])) (tv.length-i) i∧∀j,j<i→(rowOk tm.length (tv.getD (j) []))=true},fun x=>⟨[(0,(.sl 1 (.sym fun _=>zi (tv).length) (fun ix=>[(.sl 1 (.sym fun _=>zi ((tv).getD ix.den.toNat []).length) (fun jx=>[.int .i64 (.sym fun _=>((tv).getD ix.den.toNat []).getD jx.den.toNat 0)]))]))),(1,.clo 110 [] [.own 0 0]),(7,(.int .i64 (.sym fun _=>zi (tv.length)))),(8,(.int .i64 (.sym fun _=>zi x.1)))],[(0,.cells [.clo 77 [(.agg [(.sl 1 (.sym fun _=>zi (tw).length) (fun ix=>[.int .i64 (.sym fun _=>(tw).getD ix.den.toNat 0)])),(.sl 1 (.sym fun _=>zi (tm).length) (fun ix=>[.int .i64 (.sym fun _=>(tm).getD ix.den.toNat 0)])),(.sl 1 (.sym fun _=>zi (tv).length) (fun ix=>[(.sl 1 (.sym fun _=>zi ((tv).getD ix.den.toNat []).length) (fun jx=>[.int .i64 (.sym fun _=>((tv).getD ix.den.toNat []).getD jx.den.toNat 0)]))]))])] []] 119)],20⟩,fun x=>tv.length-x.1,?_,?_⟩
  · refine⟨⟨0,by omega,rfl,fun j hj=>by omega⟩,?_⟩
    cbv
    repeat' (first
      |with_reducible refine hold ?_ ?_
      |with_reducible refine And.intro ?_ ?_)
    all_goals first
      |trivial
      |exact qM (qE (by rfl))
      |exact qM (Fit.refl _)
      |exact qL (qK _)
      |skip
  · rintro ⟨i,hi,hr,hq⟩
    cbv
    repeat' (first
        |with_reducible refine hold ?_ ?_
        |with_reducible refine And.intro ?_ ?_
        |(with_reducible intro hcd;(try simp only [zA,zB,zC,zD,zE,zF,zG,zH,zI,zJ,zK,zL,zM,zN,zO,zP]at hcd);try cbv)
        | (refine⟨some [0],?_⟩
           cbv
           refine qQ ?_ (cl i ⟨by(try simp only [qV]at *);simp only [zi_den]at *;omega,hq⟩) (by cbv;(repeat' (first|exact qB|refine qD ?_ ?_|exact qE (by rfl)|exact qF (by rfl)|exact Fit.refl _|exact qA|refine qC ?_ rfl ?_))) (by cbv;(repeat' (first|exact qH|refine qI ?_ ?_|exact qK _|refine qJ ?_|exact qA|exact qE (by rfl)|exact qF (by rfl)|exact Fit.refl _|exact qG _|refine qC ?_ rfl ?_)))
           try cbv)
        |fail)
    all_goals first
      |((try simp only [qV]at *);(try simp only [zQ,zA,zB,zC,zD,zE,zF,zG,zH,zI,zJ,zK,zL,zM,zN,zO,zP,zR,zS]at *);first|(refine qN ?_;omega)|(simp only [Hold];omega))
      |(subst hR;(refine qE ?_;simp only [zQ,zA,zB,zC,zD,zE,zF,zG,zH,zI,zJ,zK,zL,zM,zN,zO,zP,zR,zS]at *;rw [hr,fidx_stop (by omega) hcd]);done)
      |(subst hR;(refine qE ?_;simp only [zQ,zA,zB,zC,zD,zE,zF,zG,zH,zI,zJ,zK,zL,zM,zN,zO,zP,zR,zS]at *;rw [hr,show tv.length-i=0 by omega];rfl);done)
      |(subst hB;(repeat' (first|exact qH|refine qI ?_ ?_|exact qK _|refine qJ ?_|exact qA|exact qE (by rfl)|exact qF (by rfl)|exact Fit.refl _|exact qG _|refine qC ?_ rfl ?_));done)
      |((try simp only [zQ,zA,zB,zC,zD,zE,zF,zG,zH,zI,zJ,zK,zL,zM,zN,zO,zP,zR,zS]at *);refine⟨⟨i+1,by omega,by rw [hr,fidx_go (by omega) hcd];(try congr 1)<;>omega,fun j hj=>(Nat.lt_or_ge j i).elim (hq j) (fun q=>by rw [show j=i by omega];exact hcd)⟩,by simp only [];omega,?_⟩;cbv;(repeat' (first|with_reducible refine hold ?_ ?_|with_reducible refine And.intro ?_ ?_));(all_goals first|trivial|exact qM (qE (by rfl))|exact qM (qF (by rfl))|exact qM (Fit.refl _)|exact qL (qK _)|(refine qM (qE ?_);(try simp only [qV]at *);simp only [zQ,zA,zB,zC,zD,zE,zF,zG,zH,zI,zJ,zK,zL,zM,zN,zO,zP,zR,zS]at *;omega)|(refine qL (qJ ?_);(repeat' (first|exact qA|exact qB|refine qC ?_ rfl ?_|refine qD ?_ ?_|exact qE (by rfl)|exact qF (by rfl)|exact Fit.refl _|exact qG _|(refine qE ?_;(try simp only [qV]at *);simp only [zQ,zA,zB,zC,zD,zE,zF,zG,zH,zI,zJ,zK,zL,zM,zN,zO,zP,zR,zS]at *;omega)));done)|skip))
      |skip
theorem cont114_rows (tw tm:List Int)(tv:List (List Int))(hm:tm.length≤1000)(hfew:tv.length≤1000):FSpec Try.prog 65 [(.sl 1 (.sym fun _=>zi (tv).length) (fun ix=>[(.sl 1 (.sym fun _=>zi ((tv).getD ix.den.toNat []).length) (fun jx=>[.int .i64 (.sym fun _=>((tv).getD ix.den.toNat []).getD jx.den.toNat 0)]))])),.clo 110 [] [.own 0 0]] [.cells [.clo 77 [(.agg [(.sl 1 (.sym fun _=>zi (tw).length) (fun ix=>[.int .i64 (.sym fun _=>(tw).getD ix.den.toNat 0)])),(.sl 1 (.sym fun _=>zi (tm).length) (fun ix=>[.int .i64 (.sym fun _=>(tm).getD ix.den.toNat 0)])),(.sl 1 (.sym fun _=>zi (tv).length) (fun ix=>[(.sl 1 (.sym fun _=>zi ((tv).getD ix.den.toNat []).length) (fun jx=>[.int .i64 (.sym fun _=>((tv).getD ix.den.toNat []).getD jx.den.toNat 0)]))]))])] []] 119] (fun r bs=>r=(.bool (.sym fun _=>decide (0≤fidx (fun i=>rowOk tm.length (tv.getD (i) [])) (tv.length) 0)))∧bs=[.cells [.clo 77 [(.agg [(.sl 1 (.sym fun _=>zi (tw).length) (fun ix=>[.int .i64 (.sym fun _=>(tw).getD ix.den.toNat 0)])),(.sl 1 (.sym fun _=>zi (tm).length) (fun ix=>[.int .i64 (.sym fun _=>(tm).getD ix.den.toNat 0)])),(.sl 1 (.sym fun _=>zi (tv).length) (fun ix=>[(.sl 1 (.sym fun _=>zi ((tv).getD ix.den.toNat []).length) (fun jx=>[.int .i64 (.sym fun _=>((tv).getD ix.den.toNat []).getD jx.den.toNat 0)]))]))])] []] 119]):=by
  have ci:=idx123_rows tw tm tv hm hfew
  refine FSpec.isB rfl fun R B hR hB=>qW (sc:=sc65) tyok mix Try.func65 rfl Try.call65 (by kernel_rfl) (by kernel_rfl) ?_
  generalize Try.prog=P at ci⊢
  cbv
  repeat' (first
      |with_reducible refine And.intro ?_ ?_
      | (refine⟨some [0],?_⟩
         cbv
         refine qQ ?_ (ci) (by cbv;(repeat' (first|exact qB|refine qD ?_ ?_|exact qE (by rfl)|exact qF (by rfl)|exact Fit.refl _|exact qA|refine qC ?_ rfl ?_))) (by cbv;(repeat' (first|exact qH|refine qI ?_ ?_|exact qK _|refine qJ ?_|exact qA|exact qE (by rfl)|exact qF (by rfl)|exact Fit.refl _|exact qG _|refine qC ?_ rfl ?_)))
         try cbv)
      |fail)
  all_goals first
    |(subst hR;(repeat' (first|exact qA|exact qB|refine qC ?_ rfl ?_|refine qD ?_ ?_|exact qE (by rfl)|exact qF (by rfl)|exact Fit.refl _|exact qG _|(refine qE ?_;(try simp only [qV]at *);simp only [zQ,zA,zB,zC,zD,zE,zF,zG,zH,zI,zJ,zK,zL,zM,zN,zO,zP,zR,zS]at *;omega)));done)
    |(subst hB;(repeat' (first|exact qH|refine qI ?_ ?_|exact qK _|refine qJ ?_|exact qA|exact qE (by rfl)|exact qF (by rfl)|exact Fit.refl _|exact qG _|refine qC ?_ rfl ?_));done)
    |skip
theorem all98_rows (tw tm:List Int)(tv:List (List Int))(hm:tm.length≤1000)(hfew:tv.length≤1000):FSpec Try.prog 79 [(.sl 1 (.sym fun _=>zi (tv).length) (fun ix=>[(.sl 1 (.sym fun _=>zi ((tv).getD ix.den.toNat []).length) (fun jx=>[.int .i64 (.sym fun _=>((tv).getD ix.den.toNat []).getD jx.den.toNat 0)]))])),.clo 77 [(.agg [(.sl 1 (.sym fun _=>zi (tw).length) (fun ix=>[.int .i64 (.sym fun _=>(tw).getD ix.den.toNat 0)])),(.sl 1 (.sym fun _=>zi (tm).length) (fun ix=>[.int .i64 (.sym fun _=>(tm).getD ix.den.toNat 0)])),(.sl 1 (.sym fun _=>zi (tv).length) (fun ix=>[(.sl 1 (.sym fun _=>zi ((tv).getD ix.den.toNat []).length) (fun jx=>[.int .i64 (.sym fun _=>((tv).getD ix.den.toNat []).getD jx.den.toNat 0)]))]))])] []] [] (fun r _=>r=(.bool (.sym fun _=> !(decide (0≤fidx (fun i=>rowOk tm.length (tv.getD (i) [])) (tv.length) 0))))):=by
  have cc:=cont114_rows tw tm tv hm hfew
  refine FSpec.is fun R hR=>qW (sc:=sc79) tyok mix Try.func79 rfl Try.call79 (by kernel_rfl) (by kernel_rfl) ?_
  generalize Try.prog=P at cc⊢
  cbv
  repeat' (first
      | (refine⟨some [0],?_⟩
         cbv
         refine qQ ?_ (cc) (by cbv;(repeat' (first|exact qB|refine qD ?_ ?_|exact qE (by rfl)|exact qF (by rfl)|exact Fit.refl _|exact qA|refine qC ?_ rfl ?_))) (by cbv;(repeat' (first|exact qH|refine qI ?_ ?_|exact qK _|refine qJ ?_|exact qA|exact qE (by rfl)|exact qF (by rfl)|exact Fit.refl _|exact qG _|refine qC ?_ rfl ?_)))
         try cbv)
      |fail)
  all_goals first
    |(subst hR;(repeat' (first|exact qA|exact qB|refine qC ?_ rfl ?_|refine qD ?_ ?_|exact qE (by rfl)|exact qF (by rfl)|exact Fit.refl _|exact qG _|(refine qE ?_;(try simp only [qV]at *);simp only [zQ,zA,zB,zC,zD,zE,zF,zG,zH,zI,zJ,zK,zL,zM,zN,zO,zP,zR,zS]at *;omega)));done)
    |skip
theorem all98r (tw tm:List Int)(tv:List (List Int))(h:tm.length≤1000∧tv.length≤1000):FSpec Try.prog 79 [(.sl 1 (.sym fun _=>zi (tv).length) (fun ix=>[(.sl 1 (.sym fun _=>zi ((tv).getD ix.den.toNat []).length) (fun jx=>[.int .i64 (.sym fun _=>((tv).getD ix.den.toNat []).getD jx.den.toNat 0)]))])),.clo 77 [(.agg [(.sl 1 (.sym fun _=>zi (tw).length) (fun ix=>[.int .i64 (.sym fun _=>(tw).getD ix.den.toNat 0)])),(.sl 1 (.sym fun _=>zi (tm).length) (fun ix=>[.int .i64 (.sym fun _=>(tm).getD ix.den.toNat 0)])),(.sl 1 (.sym fun _=>zi (tv).length) (fun ix=>[(.sl 1 (.sym fun _=>zi ((tv).getD ix.den.toNat []).length) (fun jx=>[.int .i64 (.sym fun _=>((tv).getD ix.den.toNat []).getD jx.den.toNat 0)]))]))])] []] [] (fun r _=>r=(.bool (.sym fun _=>rowsOk tm tv))):=by
  have:=all98_rows tw tm tv h.1 h.2
  simp only [all_iff]at this
  exact this
set_option maxHeartbeats 1000000 in
theorem check79 (tw tm:List Int)(tv:List (List Int)):FSpec Try.prog 48 [(.agg [(.sl 1 (.sym fun _=>zi (tw).length) (fun ix=>[.int .i64 (.sym fun _=>(tw).getD ix.den.toNat 0)])),(.sl 1 (.sym fun _=>zi (tm).length) (fun ix=>[.int .i64 (.sym fun _=>(tm).getD ix.den.toNat 0)])),(.sl 1 (.sym fun _=>zi (tv).length) (fun ix=>[(.sl 1 (.sym fun _=>zi ((tv).getD ix.den.toNat []).length) (fun jx=>[.int .i64 (.sym fun _=>((tv).getD ix.den.toNat []).getD jx.den.toNat 0)]))]))])] [] (fun r _=>r=(.int .i64 (.sym fun _=>faultT tw tm tv))):=by
  have c97:= @entries97
  have c98:= @all98r
  refine FSpec.is fun R hR=>qW (sc:=sc48) tyok mix Try.func48 rfl Try.call48 (by kernel_rfl) (by kernel_rfl) ?_
  generalize Try.prog=P at c97 c98⊢
  cbv
  repeat' (first
      |with_reducible refine And.intro ?_ ?_
      |(with_reducible intro hcd;(try simp only [zA,zB,zC,zD,zE,zF,zG,zH,zI,zJ,zK,zL,zM,zN,zO,zP]at hcd);try cbv)
      | (refine qP ?_ (c97 _ _ (show Hold _ from ?_) (show Hold _ from ?_)) (by(repeat' (first|exact qB|refine qD ?_ ?_|exact qE (by rfl)|exact qF (by rfl)|exact Fit.refl _|exact qA|refine qC ?_ rfl ?_)))
         try cbv)
      | (refine qP ?_ (c98 _ _ _ (show Hold _ from ?_)) (by(repeat' (first|exact qB|refine qD ?_ ?_|exact qE (by rfl)|exact qF (by rfl)|exact Fit.refl _|exact qA|refine qC ?_ rfl ?_)))
         try cbv)
      |fail)
  all_goals first
    |trivial
    |((try simp only [qV]at *);(try simp only [zQ,zA,zB,zC,zD,zE,zF,zG,zH,zI,zJ,zK,zL,zM,zN,zO,zP,zR,zS]at *);first|(refine qN ?_;omega)|(simp only [Hold];omega))
    |(subst hR;(refine qE ?_;(try simp only [qV]at *);simp only [zQ,zA,zB,zC,zD,zE,zF,zG,zH,zI,zJ,zK,zL,zM,zN,zO,zP,zR,zS]at *;rw [faultT_eq];(repeat' split)<;>first|rfl|(exfalso;simp_all;done)|(exfalso;simp_all;omega)|(exfalso;omega));done)
    |skip
end Go.Proofs.Ytkdggbfknlcdaaa

namespace Go.Proofs.Ytkdggbfknlcdaaa
theorem mix_bd {a b c d v00 v10 v01 v11 w m:Int}(h1:a≤w)(h2:w≤b)(h3:a<b)(h4:c≤m)(h5:m≤d)(h6:c<d)
    (v0:0≤v00∧v00≤2000) (v1:0≤v10∧v10≤2000) (v2:0≤v01∧v01≤2000) (v3:0≤v11∧v11≤2000):0≤mixAt a b c d v00 v10 v01 v11 w m∧mixAt a b c d v00 v10 v01 v11 w m≤2000:=by
  unfold mixAt
  rw [mix_eq]
  have p1:0≤(b-w)*(d-m):=Int.mul_nonneg (by omega) (by omega)
  have p2:0≤(w-a)*(d-m):=Int.mul_nonneg (by omega) (by omega)
  have p3:0≤(b-w)*(m-c):=Int.mul_nonneg (by omega) (by omega)
  have p4:0≤(w-a)*(m-c):=Int.mul_nonneg (by omega) (by omega)
  have e:(b-w)*(d-m)+(w-a)*(d-m)+(b-w)*(m-c)+(w-a)*(m-c)=(b-a)*(d-c):=by
    rw [←Int.add_mul,Int.add_assoc,←Int.add_mul]
    have e1:b-w+(w-a)=b-a:=by omega
    rw [e1,←Int.mul_add]
    congr 1;omega
  have q:0<(b-a)*(d-c):=Int.mul_pos (by omega) (by omega)
  have key:∀v p:Int,0≤v∧v≤2000→0≤p→0≤v*p∧v*p≤2000*p:=fun v p hv hp=>⟨Int.mul_nonneg hv.1 hp,Int.mul_le_mul_of_nonneg_right hv.2 hp⟩
  have k1:=key v00 _ v0 p1
  have k2:=key v10 _ v1 p2
  have k3:=key v01 _ v2 p3
  have k4:=key v11 _ v3 p4
  rw [Int.mul_assoc v00,Int.mul_assoc v10,Int.mul_assoc v01,Int.mul_assoc v11]
  generalize (b-w)*(d-m)=x1 at *
  generalize (w-a)*(d-m)=x2 at *
  generalize (b-w)*(m-c)=x3 at *
  generalize (w-a)*(m-c)=x4 at *
  rw [Int.mul_assoc 2 (b-a)]
  generalize (b-a)*(d-c)=y at *
  generalize v00*x1=y1 at *
  generalize v10*x2=y2 at *
  generalize v01*x3=y3 at *
  generalize v11*x4=y4 at *
  rw [Int.tdiv_eq_ediv_of_nonneg (by omega)]
  refine⟨Int.ediv_nonneg (by omega) (by omega),?_⟩
  have:2*(y1+y2+y3+y4)+y<(2000+1)*(2*y):=by omega
  have:=Int.ediv_lt_of_lt_mul (by omega) this
  omega
theorem at_bd {tw tm:List Int} {tv:List (List Int)} {w m:Int}(h:TOk tw tm tv)(hp:Pt tw tm w m):0≤atS tw tm tv w m∧atS tw tm tv w m≤2000:=by
  have hi:=cell_in h.w2 hp.w0
  have hk:=cell_in h.m2 hp.m0
  have l1:=hi.lt
  have l2:=hk.lt
  have e:=h.len
  have a2:=rising_lt h.rw (i:=cellN tw w tw.length 0) (j:=cellN tw w tw.length 0+1) (by omega) (by omega)
  have a4:=rising_lt h.rm (i:=cellN tm m tm.length 0) (j:=cellN tm m tm.length 0+1) (by omega) (by omega)
  exact mix_bd hi.lo (hi.le_hi hp.w1) a2 hk.lo (hk.le_hi hp.m1) a4 (h.val _ (by omega) _ (by omega)) (h.val _ (by omega) _ (by omega)) (h.val _ (by omega) _ (by omega)) (h.val _ (by omega) _ (by omega))
def vAt (tw tm:List Int)(tv:List (List Int))(wl ml:Int)(W n:Nat):Int:=atS tw tm tv (wl+((n%W:Nat):Int)) (ml+((n/W:Nat):Int))
def loN (v:Nat→Int):Nat→Int
  |0=>2000
  |n+1=>min (loN v n) (v n)
def hiN (v:Nat→Int):Nat→Int
  |0=>0
  |n+1=>max (hiN v n) (v n)
def wid (lo hi:Int):Nat:=(hi-lo+1).toNat
def bLo (tw tm:List Int)(tv:List (List Int))(wl wh ml mh:Int):Int:=loN (vAt tw tm tv wl ml (wid wl wh)) (wid ml mh*wid wl wh)
def bHi (tw tm:List Int)(tv:List (List Int))(wl wh ml mh:Int):Int:=hiN (vAt tw tm tv wl ml (wid wl wh)) (wid ml mh*wid wl wh)
theorem loN_le (v:Nat→Int):∀{n j:Nat},j<n→loN v n≤v j:=by
  intro n
  induction n with
  |zero=>intro j h;omega
  | succ n ih=>
    intro j h
    simp only [loN]
    by_cases e:j=n
    · subst e;omega
    · have:=ih (j:=j) (by omega);omega
theorem loN_in (v:Nat→Int):∀{n:Nat},loN v n=2000∨∃j,j<n∧loN v n=v j:=by
  intro n
  induction n with
  |zero=>exact .inl rfl
  | succ n ih=>
    simp only [loN]
    by_cases h:loN v n≤v n
    · rw [Int.min_eq_left h]
      rcases ih with q|⟨j,h1,h2⟩
      · exact .inl q
      · exact .inr ⟨j,by omega,h2⟩
    · rw [Int.min_eq_right (by omega)]
      exact .inr ⟨n,by omega,rfl⟩
theorem hiN_le (v:Nat→Int):∀{n j:Nat},j<n→v j≤hiN v n:=by
  intro n
  induction n with
  |zero=>intro j h;omega
  | succ n ih=>
    intro j h
    simp only [hiN]
    by_cases e:j=n
    · subst e;omega
    · have:=ih (j:=j) (by omega);omega
theorem hiN_in (v:Nat→Int):∀{n:Nat},hiN v n=0∨∃j,j<n∧hiN v n=v j:=by
  intro n
  induction n with
  |zero=>exact .inl rfl
  | succ n ih=>
    simp only [hiN]
    by_cases h:v n≤hiN v n
    · rw [Int.max_eq_left h]
      rcases ih with q|⟨j,h1,h2⟩
      · exact .inl q
      · exact .inr ⟨j,by omega,h2⟩
    · rw [Int.max_eq_right (by omega)]
      exact .inr ⟨n,by omega,rfl⟩
structure Box (tw tm:List Int)(wl wh ml mh:Int):Prop where
  w:wl≤wh
  w0:tw.getD 0 0≤wl
  w1:wh≤tw.getD (tw.length-1) 0
  m:ml≤mh
  m0:tm.getD 0 0≤ml
  m1:mh≤tm.getD (tm.length-1) 0
theorem Box.pt {tw tm:List Int} {wl wh ml mh:Int}(h:Box tw tm wl wh ml mh) {w m:Int}(h1:wl≤w)(h2:w≤wh)(h3:ml≤m)(h4:m≤mh):Pt tw tm w m:=by
  have:=h.w0;have:=h.w1;have:=h.m0;have:=h.m1
  exact⟨by omega,by omega,by omega,by omega⟩
structure IsB (f:Int→Int→Int)(wl wh ml mh lo hi:Int):Prop where
  le:∀w m,wl≤w→w≤wh→ml≤m→m≤mh→lo≤f w m∧f w m≤hi
  lo:∃w m,wl≤w∧w≤wh∧ml≤m∧m≤mh∧lo=f w m
  hi:∃w m,wl≤w∧w≤wh∧ml≤m∧m≤mh∧hi=f w m
theorem wid_lt {lo hi n:Int}(h:lo≤n)(h':n≤hi):(n-lo).toNat<wid lo hi:=by unfold wid;omega
theorem b_isB {tw tm:List Int} {tv:List (List Int)} {wl wh ml mh:Int}(h:TOk tw tm tv)(hb:Box tw tm wl wh ml mh):IsB (atS tw tm tv) wl wh ml mh (bLo tw tm tv wl wh ml mh) (bHi tw tm tv wl wh ml mh):=by
  have hw:=hb.w
  have hm:=hb.m
  have hW:0<wid wl wh:=by unfold wid;omega
  have hM:0<wid ml mh:=by unfold wid;omega
  have hpt:∀n,n<wid ml mh*wid wl wh→wl≤wl+((n%wid wl wh:Nat):Int)∧wl+((n%wid wl wh:Nat):Int)≤wh∧ml≤ml+((n/wid wl wh:Nat):Int)∧ml+((n/wid wl wh:Nat):Int)≤mh:=fun n hn=>by
    have h1:=Nat.mod_lt n hW
    have h2:n/wid wl wh<wid ml mh:=Nat.div_lt_of_lt_mul (by rw [Nat.mul_comm];exact hn)
    generalize n%wid wl wh=x at *
    generalize n/wid wl wh=y at *
    unfold wid at h1 h2
    omega
  have hv:∀n,n<wid ml mh*wid wl wh→0≤vAt tw tm tv wl ml (wid wl wh) n∧vAt tw tm tv wl ml (wid wl wh) n≤2000:=fun n hn=>by
    have q:=hpt n hn
    exact at_bd h (hb.pt q.1 q.2.1 q.2.2.1 q.2.2.2)
  have h0:0<wid ml mh*wid wl wh:=Nat.mul_pos hM hW
  refine⟨fun w m a1 a2 a3 a4=> ?_,?_,?_⟩
  · have b1:=wid_lt a1 a2
    have b2:=wid_lt a3 a4
    have hn:(m-ml).toNat*wid wl wh+(w-wl).toNat<wid ml mh*wid wl wh:=by
      have:((m-ml).toNat+1)*wid wl wh≤wid ml mh*wid wl wh:=Nat.mul_le_mul_right _ b2
      rw [Nat.add_mul,Nat.one_mul]at this
      omega
    have e:vAt tw tm tv wl ml (wid wl wh) ((m-ml).toNat*wid wl wh+(w-wl).toNat)=atS tw tm tv w m:=by
      unfold vAt
      rw [Nat.mul_comm,Nat.mul_add_mod,Nat.mod_eq_of_lt b1,Nat.mul_add_div hW,Nat.div_eq_of_lt b1]
      congr 1<;>omega
    rw [←e]
    exact⟨loN_le _ hn,hiN_le _ hn⟩
  · rcases loN_in (vAt tw tm tv wl ml (wid wl wh)) (n:=wid ml mh*wid wl wh)with q|⟨j,q1,q2⟩
    · have q3:=loN_le (vAt tw tm tv wl ml (wid wl wh)) h0
      have q4:=hv 0 h0
      have q5:=hpt 0 h0
      exact⟨_,_,q5.1,q5.2.1,q5.2.2.1,q5.2.2.2,show bLo tw tm tv wl wh ml mh=vAt tw tm tv wl ml (wid wl wh) 0 by unfold bLo;omega⟩
    · have q5:=hpt j q1
      exact⟨_,_,q5.1,q5.2.1,q5.2.2.1,q5.2.2.2,q2⟩
  · rcases hiN_in (vAt tw tm tv wl ml (wid wl wh)) (n:=wid ml mh*wid wl wh)with q|⟨j,q1,q2⟩
    · have q3:=hiN_le (vAt tw tm tv wl ml (wid wl wh)) h0
      have q4:=hv 0 h0
      have q5:=hpt 0 h0
      exact⟨_,_,q5.1,q5.2.1,q5.2.2.1,q5.2.2.2,show bHi tw tm tv wl wh ml mh=vAt tw tm tv wl ml (wid wl wh) 0 by unfold bHi;omega⟩
    · have q5:=hpt j q1
      exact⟨_,_,q5.1,q5.2.1,q5.2.2.1,q5.2.2.2,q2⟩
end Go.Proofs.Ytkdggbfknlcdaaa

namespace Go.Proofs.Ytkdggbfknlcdaaa
open Go Go.Eng Go.Proofs
set_option maxRecDepth 10000
theorem hold_done {n L:Nat}(h:Hold (n=L)):∀_:Unit,n=L:=fun _=>h
theorem hold_geq {f g:Unit→Nat}(h:f ()=g ()):Hold (GEq (.atg f) (.atg g)):=h
theorem hold_yield {l L:Nat} {a b:SV} {n:Nat}(h:n<L)(hf:Fit a b):Hold (l=l∧n<L∧Le a b):=⟨rfl,h,hf.le⟩
theorem strengths125 (tw tm:List Int)(tv:List (List Int))(wl wh ml mh:Int)(h:TOk tw tm tv∧Box tw tm wl wh ml mh):ISpec Try.prog 117 [.pp 0 [(.int .i64 (.sym fun _=>ml)),(.int .i64 (.sym fun _=>mh))],.pp 0 [(.int .i64 (.sym fun _=>wl)),(.int .i64 (.sym fun _=>wh))],.pp 0 [(.sl 1 (.sym fun _=>zi (tw).length) (fun ix=>[.int .i64 (.sym fun _=>(tw).getD ix.den.toNat 0)])),(.sl 1 (.sym fun _=>zi (tm).length) (fun ix=>[.int .i64 (.sym fun _=>(tm).getD ix.den.toNat 0)])),(.sl 1 (.sym fun _=>zi (tv).length) (fun ix=>[(.sl 1 (.sym fun _=>zi ((tv).getD ix.den.toNat []).length) (fun jx=>[.int .i64 (.sym fun _=>((tv).getD ix.den.toNat []).getD jx.den.toNat 0)]))]))]] (wid ml mh*wid wl wh) (fun n=>[(.int .i64 (.sym fun _=>ml+zi (n/wid wl wh))),(.int .i64 (.sym fun _=>vAt tw tm tv wl ml (wid wl wh) n))]):=by
  have ca:=at126 tw tm tv
  obtain⟨hT,hB⟩:=h
  have b1:=hB.w0;have b2:=hB.w1;have b3:=hB.m0;have b4:=hB.m1;have b5:=hB.w;have b6:=hB.m
  have d1:=hT.w2;have d2:=hT.m2
  have e1:=rising_spec hT.rw 0 (by omega)
  have e2:=rising_spec hT.rm 0 (by omega)
  have e3:=rising_spec hT.rw (tw.length-1) (by omega)
  have e4:=rising_spec hT.rm (tm.length-1) (by omega)
  simp only [risingAt]at e1 e2 e3 e4
  have hpt:∀a b:Nat,zi b≤wh-wl→zi a≤mh-ml→Pt tw tm (wl+zi b) (ml+zi a):=fun a b p q=>by
    simp only [zi_den]at *
    exact hB.pt (by omega) (by omega) (by omega) (by omega)
  obtain⟨W,hW⟩:∃W,W=wid wl wh:=⟨_,rfl⟩
  obtain⟨M,hM⟩:∃M,M=wid ml mh:=⟨_,rfl⟩
  obtain⟨L,hL⟩:∃L,L=M*W:=⟨_,rfl⟩
  have hWz:zi W=wh-wl+1:=by rw [hW];simp only [wid,zi_den];omega
  have hMz:zi M=mh-ml+1:=by rw [hM];simp only [wid,zi_den];omega
  obtain⟨el,hel⟩:∃el:Nat→List SV,el=(fun n:Nat=>[(.int .i64 (.sym fun _=>ml+zi (n/W))),(.int .i64 (.sym fun _=>vAt tw tm tv wl ml W n))]):=⟨_,rfl⟩
  have help:∀a b:Nat,b<W→el (a*W+b)=[(.int .i64 (.sym fun _=>ml+zi a)),(.int .i64 (.sym fun _=>atS tw tm tv (wl+zi b) (ml+zi a)))]:=fun a b hb=>by
    rw [hel]
    simp only [vAt]
    rw [Nat.mul_comm,Nat.mul_add_div (by omega),Nat.mul_add_mod,Nat.div_eq_of_lt hb,Nat.mod_eq_of_lt hb,Nat.add_zero]
    rfl
  have hlt:∀a b:Nat,a<M→b<W→a*W+b<L:=fun a b ha hb=>by
    have:=Nat.mul_le_mul_right W (show a+1≤M by omega)
    rw [Nat.add_mul,Nat.one_mul]at this
    omega
  have hpl:∀i,plainS (.tup (el i))=true:=fun i=>by rw [hel];rfl
  rw [←hW,←hM,←hL,←hel]
  clear hel hW hM
  refine ispec_of_vc (sc:=sc117) tyok mix Try.func117 rfl Try.call117 (by kernel_rfl) (by kernel_rfl) fun l=> ?_
  generalize Try.prog=P at ca⊢
  refine⟨rfl,rfl,hpl,?_⟩
  cbv
  refine⟨none,[],{a:Nat // a≤M},fun x=>.atg fun _=>x.1*W,fun x=>⟨[(0,.val (Value.func (Fn.yield l) ⟨[]⟩ ⟨[]⟩)),(1,.pp 0 [(.int .i64 (.sym fun _=>ml)),(.int .i64 (.sym fun _=>mh))]),(2,.pp 0 [(.int .i64 (.sym fun _=>wl)),(.int .i64 (.sym fun _=>wh))]),(3,.pp 0 [(.sl 1 (.sym fun _=>zi (tw).length) (fun ix=>[.int .i64 (.sym fun _=>(tw).getD ix.den.toNat 0)])),(.sl 1 (.sym fun _=>zi (tm).length) (fun ix=>[.int .i64 (.sym fun _=>(tm).getD ix.den.toNat 0)])),(.sl 1 (.sym fun _=>zi (tv).length) (fun ix=>[(.sl 1 (.sym fun _=>zi ((tv).getD ix.den.toNat []).length) (fun jx=>[.int .i64 (.sym fun _=>((tv).getD ix.den.toNat []).getD jx.den.toNat 0)]))]))]),(5,(.int .i64 (.sym fun _=>ml+zi x.1)))],[],3⟩,fun x=>M-x.1,?_,?_⟩
  · refine⟨⟨0,by omega⟩,?_⟩
    cbv
    repeat' (first
      |with_reducible refine hold ?_ ?_
      |with_reducible refine And.intro ?_ ?_)
    all_goals first
      |trivial
      |exact qM (Fit.refl _)
      |(refine qM (qE ?_);(try simp only [qV]at *);simp only [zQ,zA,zB,zC,zD,zE,zF,zG,zH,zI,zJ,zK,zL,zM,zN,zO,zP,zR,zS]at *;omega)
      |(refine hold_geq ?_;simp only [];omega)
      |skip
  · rintro ⟨a,ha⟩
    cbv
    repeat' (first
        |with_reducible refine hold_done ?_
        |with_reducible refine And.intro ?_ ?_
        |(with_reducible intro hcd;(try simp only [zA,zB,zC,zD,zE,zF,zG,zH,zI,zJ,zK,zL,zM,zN,zO,zP]at hcd);try cbv)
        |fail)
    all_goals first
      |(show a*W=L;(try simp only [qV]at *);simp only [zi_den]at *;rw [hL];congr 1;omega)
      |skip
    refine⟨none,[],{b:Nat // b≤W},fun x=>.atg fun _=>a*W+x.1,fun x=>⟨[(0,.val (Value.func (Fn.yield l) ⟨[]⟩ ⟨[]⟩)),(1,.pp 0 [(.int .i64 (.sym fun _=>ml)),(.int .i64 (.sym fun _=>mh))]),(2,.pp 0 [(.int .i64 (.sym fun _=>wl)),(.int .i64 (.sym fun _=>wh))]),(3,.pp 0 [(.sl 1 (.sym fun _=>zi (tw).length) (fun ix=>[.int .i64 (.sym fun _=>(tw).getD ix.den.toNat 0)])),(.sl 1 (.sym fun _=>zi (tm).length) (fun ix=>[.int .i64 (.sym fun _=>(tm).getD ix.den.toNat 0)])),(.sl 1 (.sym fun _=>zi (tv).length) (fun ix=>[(.sl 1 (.sym fun _=>zi ((tv).getD ix.den.toNat []).length) (fun jx=>[.int .i64 (.sym fun _=>((tv).getD ix.den.toNat []).getD jx.den.toNat 0)]))]))]),(5,(.int .i64 (.sym fun _=>ml+zi a))),(6,(.int .i64 (.sym fun _=>wl+zi x.1)))],[],3⟩,fun x=>W-x.1,?_,?_⟩
    · refine⟨⟨0,by omega⟩,?_⟩
      cbv
      repeat' (first
        |with_reducible refine hold ?_ ?_
        |with_reducible refine And.intro ?_ ?_)
      all_goals first
        |trivial
        |exact qM (qE (by rfl))
        |exact qM (Fit.refl _)
        |(refine qM (qE ?_);(try simp only [qV]at *);simp only [zQ,zA,zB,zC,zD,zE,zF,zG,zH,zI,zJ,zK,zL,zM,zN,zO,zP,zR,zS]at *;omega)
        |skip
    · rintro ⟨b,hb⟩
      cbv
      repeat' (first
          |with_reducible refine hold ?_ ?_
          |with_reducible refine And.intro ?_ ?_
          |(with_reducible intro hcd;(try simp only [zA,zB,zC,zD,zE,zF,zG,zH,zI,zJ,zK,zL,zM,zN,zO,zP]at hcd);try cbv)
          | (refine qP ?_ (ca _ _ (show Hold _ from ?_)) (by(repeat' (first|exact qB|refine qD ?_ ?_|exact qE (by rfl)|exact qF (by rfl)|exact Fit.refl _|exact qA|refine qC ?_ rfl ?_)))
             try cbv)
          |fail)
      all_goals first
        |trivial
        |((try simp only [qV]at *);(try simp only [zQ,zA,zB,zC,zD,zE,zF,zG,zH,zI,zJ,zK,zL,zM,zN,zO,zP,zR,zS]at *);first|(refine qN ?_;omega)|(simp only [Hold];omega))
        |(simp only [Hold];exact⟨hT,hpt _ _ (by omega) (by omega)⟩)
        |(refine hold_yield (hlt a b (by simp only [zi_den]at *;omega) (by simp only [zi_den]at *;omega)) ?_;rw [help a b (by simp only [zi_den]at *;omega)];(repeat' (first|exact qA|exact qB|refine qC ?_ rfl ?_|refine qD ?_ ?_|exact qE (by rfl)|exact qF (by rfl)|exact Fit.refl _|exact qG _|(refine qE ?_;(try simp only [qV]at *);simp only [zQ,zA,zB,zC,zD,zE,zF,zG,zH,zI,zJ,zK,zL,zM,zN,zO,zP,zR,zS]at *;omega)));done)
        |((try simp only [zQ,zA,zB,zC,zD,zE,zF,zG,zH,zI,zJ,zK,zL,zM,zN,zO,zP,zR,zS]at *);refine⟨⟨b+1,by omega⟩,by simp only [];omega,?_⟩;cbv;(repeat' (first|with_reducible refine hold ?_ ?_|with_reducible refine And.intro ?_ ?_));(all_goals first|trivial|exact qM (qE (by rfl))|exact qM (qF (by rfl))|exact qM (Fit.refl _)|exact qL (qK _)|(refine qM (qE ?_);(try simp only [qV]at *);simp only [zQ,zA,zB,zC,zD,zE,zF,zG,zH,zI,zJ,zK,zL,zM,zN,zO,zP,zR,zS]at *;omega)|(refine hold_geq ?_;simp only [];omega)|skip))
        |((try simp only [zQ,zA,zB,zC,zD,zE,zF,zG,zH,zI,zJ,zK,zL,zM,zN,zO,zP,zR,zS]at *);have hbW:b=W:=(by omega);refine⟨⟨a+1,by omega⟩,by simp only [];omega,?_⟩;cbv;(repeat' (first|with_reducible refine hold ?_ ?_|with_reducible refine And.intro ?_ ?_));(all_goals first|trivial|exact qM (qE (by rfl))|exact qM (qF (by rfl))|exact qM (Fit.refl _)|exact qL (qK _)|(refine qM (qE ?_);(try simp only [qV]at *);simp only [zQ,zA,zB,zC,zD,zE,zF,zG,zH,zI,zJ,zK,zL,zM,zN,zO,zP,zR,zS]at *;omega)|(refine hold_geq ?_;simp only [Nat.add_mul,Nat.one_mul];omega)|skip))
        |skip
end Go.Proofs.Ytkdggbfknlcdaaa

namespace Go.Proofs.Ytkdggbfknlcdaaa
open Go Go.Eng Go.Proofs
set_option maxRecDepth 10000
theorem strengths119 (tw tm:List Int)(tv:List (List Int))(wl wh ml mh:Int):FSpec Try.prog 103 [(.agg [(.sl 1 (.sym fun _=>zi (tw).length) (fun ix=>[.int .i64 (.sym fun _=>(tw).getD ix.den.toNat 0)])),(.sl 1 (.sym fun _=>zi (tm).length) (fun ix=>[.int .i64 (.sym fun _=>(tm).getD ix.den.toNat 0)])),(.sl 1 (.sym fun _=>zi (tv).length) (fun ix=>[(.sl 1 (.sym fun _=>zi ((tv).getD ix.den.toNat []).length) (fun jx=>[.int .i64 (.sym fun _=>((tv).getD ix.den.toNat []).getD jx.den.toNat 0)]))]))]),(.agg [(.int .i64 (.sym fun _=>wl)),(.int .i64 (.sym fun _=>wh))]),(.agg [(.int .i64 (.sym fun _=>ml)),(.int .i64 (.sym fun _=>mh))])] [] (fun r _=>r = .clo 117 [] [.pp 0 [(.int .i64 (.sym fun _=>ml)),(.int .i64 (.sym fun _=>mh))],.pp 0 [(.int .i64 (.sym fun _=>wl)),(.int .i64 (.sym fun _=>wh))],.pp 0 [(.sl 1 (.sym fun _=>zi (tw).length) (fun ix=>[.int .i64 (.sym fun _=>(tw).getD ix.den.toNat 0)])),(.sl 1 (.sym fun _=>zi (tm).length) (fun ix=>[.int .i64 (.sym fun _=>(tm).getD ix.den.toNat 0)])),(.sl 1 (.sym fun _=>zi (tv).length) (fun ix=>[(.sl 1 (.sym fun _=>zi ((tv).getD ix.den.toNat []).length) (fun jx=>[.int .i64 (.sym fun _=>((tv).getD ix.den.toNat []).getD jx.den.toNat 0)]))]))]]):=by
  refine FSpec.is fun R hR=>qW (sc:=sc103) tyok mix Try.func103 rfl Try.call103 (by kernel_rfl) (by kernel_rfl) ?_
  generalize Try.prog=P
  cbv
  repeat' (first
      |fail)
  all_goals first
    |(subst hR;(repeat' (first|exact qA|exact qB|refine qC ?_ rfl ?_|refine qD ?_ ?_|exact qE (by rfl)|exact qF (by rfl)|exact Fit.refl _|exact qG _|(refine qE ?_;(try simp only [qV]at *);simp only [zQ,zA,zB,zC,zD,zE,zF,zG,zH,zI,zJ,zK,zL,zM,zN,zO,zP,zR,zS]at *;omega)));done)
    |skip
theorem bounds102 (tw tm:List Int)(tv:List (List Int))(wl wh ml mh:Int)(h:TOk tw tm tv∧Box tw tm wl wh ml mh):FSpec Try.prog 73 [(.agg [(.sl 1 (.sym fun _=>zi (tw).length) (fun ix=>[.int .i64 (.sym fun _=>(tw).getD ix.den.toNat 0)])),(.sl 1 (.sym fun _=>zi (tm).length) (fun ix=>[.int .i64 (.sym fun _=>(tm).getD ix.den.toNat 0)])),(.sl 1 (.sym fun _=>zi (tv).length) (fun ix=>[(.sl 1 (.sym fun _=>zi ((tv).getD ix.den.toNat []).length) (fun jx=>[.int .i64 (.sym fun _=>((tv).getD ix.den.toNat []).getD jx.den.toNat 0)]))]))]),(.agg [(.int .i64 (.sym fun _=>wl)),(.int .i64 (.sym fun _=>wh))]),(.agg [(.int .i64 (.sym fun _=>ml)),(.int .i64 (.sym fun _=>mh))])] [] (fun r _=>r=(.tup [(.agg [(.int .i64 (.sym fun _=>bLo tw tm tv wl wh ml mh)),(.int .i64 (.sym fun _=>bHi tw tm tv wl wh ml mh))]),(.int .i64 (.sym fun _=>0))])):=by
  have c79:= @check79
  have c117:= @span117
  have c118:= @holds118
  have c119:= @strengths119
  have c120:= @minimum120
  obtain⟨hT,hB⟩:=h
  have hf:=faultT_ok hT
  have b1:=hB.w0;have b2:=hB.w1;have b3:=hB.m0;have b4:=hB.m1;have b5:=hB.w;have b6:=hB.m
  have d1:=hT.w2;have d2:=hT.m2;have d3:=hT.w5;have d4:=hT.m5
  obtain⟨W,hW⟩:∃W,W=wid wl wh:=⟨_,rfl⟩
  obtain⟨L,hL⟩:∃L,L=wid ml mh*W:=⟨_,rfl⟩
  obtain⟨v,hv⟩:∃v,v=vAt tw tm tv wl ml W:=⟨_,rfl⟩
  obtain⟨el,hel⟩:∃el:Nat→List SV,el=(fun n:Nat=>[(.int .i64 (.sym fun _=>ml+zi (n/W))),(.int .i64 (.sym fun _=>v n))]):=⟨_,rfl⟩
  have cI:ISpec Try.prog 117 [.pp 0 [(.int .i64 (.sym fun _=>ml)),(.int .i64 (.sym fun _=>mh))],.pp 0 [(.int .i64 (.sym fun _=>wl)),(.int .i64 (.sym fun _=>wh))],.pp 0 [(.sl 1 (.sym fun _=>zi (tw).length) (fun ix=>[.int .i64 (.sym fun _=>(tw).getD ix.den.toNat 0)])),(.sl 1 (.sym fun _=>zi (tm).length) (fun ix=>[.int .i64 (.sym fun _=>(tm).getD ix.den.toNat 0)])),(.sl 1 (.sym fun _=>zi (tv).length) (fun ix=>[(.sl 1 (.sym fun _=>zi ((tv).getD ix.den.toNat []).length) (fun jx=>[.int .i64 (.sym fun _=>((tv).getD ix.den.toNat []).getD jx.den.toNat 0)]))]))]] L el:=by rw [hel,hv,hL,hW];exact strengths125 tw tm tv wl wh ml mh ⟨hT,hB⟩
  have elen:∀i,(el i).length=2∧SV.idsL (el i)=[]:=fun i=>by rw [hel];exact⟨rfl,rfl⟩
  have ei:∀i,el i=[(.int .i64 (.sym fun _=>ml+zi (i/W))),(.int .i64 (.sym fun _=>v i))]:=fun i=>by rw [hel]
  have hlo:bLo tw tm tv wl wh ml mh=loN v L:=by rw [hv,hL,hW];rfl
  have hhi:bHi tw tm tv wl wh ml mh=hiN v L:=by rw [hv,hL,hW];rfl
  rw [hlo,hhi]
  clear hel hv hL hlo hhi hW
  refine FSpec.is fun R hR=>qW (sc:=sc73) tyok mix Try.func73 rfl Try.call73 (by kernel_rfl) (by kernel_rfl) ?_
  generalize Try.prog=P at c79 c117 c118 c119 c120 cI⊢
  cbv
  repeat' (first
      |with_reducible refine And.intro ?_ ?_
      |(with_reducible intro hcd;(try simp only [zA,zB,zC,zD,zE,zF,zG,zH,zI,zJ,zK,zL,zM,zN,zO,zP,hf]at hcd);try cbv)
      | (refine qP ?_ (c79 _ _ _) (by(repeat' (first|exact qB|refine qD ?_ ?_|exact qE (by rfl)|exact qF (by rfl)|exact Fit.refl _|exact qA|refine qC ?_ rfl ?_)))
         try cbv)
      | (refine qP ?_ (c117 _ (show Hold _ from ?_)) (by(repeat' (first|exact qB|refine qD ?_ ?_|exact qE (by rfl)|exact qF (by rfl)|exact Fit.refl _|exact qA|refine qC ?_ rfl ?_)))
         try cbv)
      | (refine qP ?_ (c118 _ _ _ _) (by(repeat' (first|exact qB|refine qD ?_ ?_|exact qE (by rfl)|exact qF (by rfl)|exact Fit.refl _|exact qA|refine qC ?_ rfl ?_)))
         try cbv)
      | (refine qP ?_ (c119 _ _ _ _ _ _ _) (by(repeat' (first|exact qB|refine qD ?_ ?_|exact qE (by rfl)|exact qF (by rfl)|exact Fit.refl _|exact qA|refine qC ?_ rfl ?_)))
         try cbv)
      |fail)
  all_goals first
    |trivial
    |((try simp only [qV]at *);(try simp only [zQ,zA,zB,zC,zD,zE,zF,zG,zH,zI,zJ,zK,zL,zM,zN,zO,zP,zR,zS]at *);first|(refine qN ?_;omega)|(simp only [Hold];omega))
    |(exfalso;simp_all;omega)
    |skip
  refine⟨[],L,el,fun _=>Unit,fun i _=>([(0,.cells [(.sl 1 (.sym fun _=>zi (tw).length) (fun ix=>[.int .i64 (.sym fun _=>(tw).getD ix.den.toNat 0)])),(.sl 1 (.sym fun _=>zi (tm).length) (fun ix=>[.int .i64 (.sym fun _=>(tm).getD ix.den.toNat 0)])),(.sl 1 (.sym fun _=>zi (tv).length) (fun ix=>[(.sl 1 (.sym fun _=>zi ((tv).getD ix.den.toNat []).length) (fun jx=>[.int .i64 (.sym fun _=>((tv).getD ix.den.toNat []).getD jx.den.toNat 0)]))]))] 37),(1,.cells [(.int .i64 (.sym fun _=>wl)),(.int .i64 (.sym fun _=>wh))] 125),(2,.cells [(.int .i64 (.sym fun _=>ml)),(.int .i64 (.sym fun _=>mh))] 125),(3,.cells [.int .i64 (.lit 0),.int .i64 (.lit 0)] 125),(25,.cells [(.int .i64 (.sym fun _=>loN v i)),(.int .i64 (.sym fun _=>hiN v i))] 125)],40),?_⟩
  cbv
  refine⟨fun _=>⟨cI,elen⟩,⟨(),?_⟩,?_,?_⟩
  · cbv
    repeat' (first
      |with_reducible refine hold ?_ ?_
      |with_reducible refine And.intro ?_ ?_)
    all_goals first
      |trivial
      |exact qL (qK _)
      |(refine qL (qJ ?_);refine qC (qE ?_) rfl (qC (qE ?_) rfl qA)<;>first|rfl|((try simp only [qV]at *);simp only [zQ,zA,zB,zC,zD,zE,zF,zG,zH,zI,zJ,zK,zL,zM,zN,zO,zP,zR,zS,loN,hiN,minIx,maxIx];omega))
      |skip
  · intro i _ hil
    simp only [ei]
    cbv
    repeat' (first
        | ((first|(refine qR ?_ (c120 _ _) rfl (by cbv;(repeat' (first|exact qB|refine qD ?_ ?_|exact qE (by rfl)|exact qF (by rfl)|exact Fit.refl _|exact qA|refine qC ?_ rfl ?_))))|(refine⟨none,?_⟩;refine qR ?_ (c120 _ _) rfl (by cbv;(repeat' (first|exact qB|refine qD ?_ ?_|exact qE (by rfl)|exact qF (by rfl)|exact Fit.refl _|exact qA|refine qC ?_ rfl ?_)))))
           try cbv)
        |fail)
    all_goals first
      |(refine⟨(),?_⟩;cbv;(repeat' (first|with_reducible refine hold ?_ ?_|with_reducible refine And.intro ?_ ?_));(all_goals first|trivial|exact qM (qE (by rfl))|exact qM (qF (by rfl))|exact qM (Fit.refl _)|exact qL (qK _)|(refine qM (qE ?_);(try simp only [qV]at *);simp only [zQ,zA,zB,zC,zD,zE,zF,zG,zH,zI,zJ,zK,zL,zM,zN,zO,zP,zR,zS]at *;omega)|(refine qL (qJ ?_);refine qC (qE ?_) rfl (qC (qE ?_) rfl qA)<;>first|rfl|((try simp only [qV]at *);simp only [zQ,zA,zB,zC,zD,zE,zF,zG,zH,zI,zJ,zK,zL,zM,zN,zO,zP,zR,zS,loN,hiN,minIx,maxIx];omega))|skip))
      |skip
    trace_state
  · intro _
    cbv
    repeat' (first
        |fail)
    all_goals first
      |(subst hR;(repeat' (first|exact qA|exact qB|refine qC ?_ rfl ?_|refine qD ?_ ?_|exact qE (by rfl)|exact qF (by rfl)|exact Fit.refl _|exact qG _|(refine qE ?_;(try simp only [qV]at *);simp only [zQ,zA,zB,zC,zD,zE,zF,zG,zH,zI,zJ,zK,zL,zM,zN,zO,zP,zR,zS]at *;omega)));done)
      |skip
end Go.Proofs.Ytkdggbfknlcdaaa

namespace Go.Proofs.Ytkdggbfknlcdaaa
structure Csk where
  g:Int
  wl:Int
  wh:Int
  ml:Int
  mh:Int
def ck0 :Csk:=⟨0,0,0,0,0⟩
structure SOk (tw tm:List Int)(tv:List (List Int))(rate:Int)(cs:List Csk):Prop where
  t:TOk tw tm tv
  few:cs.length≤6
  rate:0≤rate∧rate≤200
  gal:∀i,i<cs.length→1≤(cs.getD i ck0).g∧(cs.getD i ck0).g≤99
  box:∀i,i<cs.length→Box tw tm (cs.getD i ck0).wl (cs.getD i ck0).wh (cs.getD i ck0).ml (cs.getD i ck0).mh
end Go.Proofs.Ytkdggbfknlcdaaa

namespace Go.Proofs.Ytkdggbfknlcdaaa
structure ThinT (tw tm:List Int)(tv:List (List Int)):Prop where
  w:tw.length≤8
  m:tm.length≤8
  v:tv.length≤8
  r:∀i,i<tv.length→(tv.getD i []).length≤8
end Go.Proofs.Ytkdggbfknlcdaaa

namespace Go.Proofs.Ytkdggbfknlcdaaa
open Go.Eng.Dif
theorem faultT_zero {tw tm:List Int} {tv:List (List Int)}(h:faultT tw tm tv=0):TOk tw tm tv:=by
  unfold faultT at h
  split at h
  · omega
  · rename_i h1
    split at h
    · omega
    · rename_i h2
      split at h
      · rename_i h3
        refine⟨by omega,by omega,by omega,by omega,?_,?_,by omega,fun i hi=>(h3 i hi).1,fun i hi=>(h3 i hi).2⟩
        · cases hr:rising tw 40 with
          |true=>rfl
          |false=>exact absurd (.inr (.inr (.inl hr))) h2
        · cases hr:rising tm 60 with
          |true=>rfl
          |false=>exact absurd (.inr (.inr (.inr (.inl hr)))) h2
      · omega
def allB (p:Nat→Bool)(n:Nat):Bool:= !(decide (0≤fidx p n 0))
theorem allB_t (p:Nat→Bool)(n:Nat):(allB p n=true)=∀i,i<n→p i=true:=by rw [allB,all_iff];exact decide_eq_true_eq
theorem allB_f (p:Nat→Bool)(n:Nat):(allB p n=false)=¬∀i,i<n→p i=true:=by rw [allB,all_iff];simp only [decide_eq_false_iff_not]
def inB (lo n hi:Int):Bool:=decide (lo≤n∧n≤hi)
def ofB (lo a b hi:Int):Bool:=decide (lo≤a∧a≤b∧b≤hi)
theorem inB_t (lo n hi:Int):(inB lo n hi=true)=(lo≤n∧n≤hi):=decide_eq_true_eq
theorem inB_f (lo n hi:Int):(inB lo n hi=false)=¬(lo≤n∧n≤hi):=by simp only [inB,decide_eq_false_iff_not]
theorem ofB_t (lo a b hi:Int):(ofB lo a b hi=true)=(lo≤a∧a≤b∧b≤hi):=decide_eq_true_eq
theorem ofB_f (lo a b hi:Int):(ofB lo a b hi=false)=¬(lo≤a∧a≤b∧b≤hi):=by simp only [ofB,decide_eq_false_iff_not]
def inL (out:List Int)(v:Int):Bool:=decide (0≤fidx (fun j=> !(decide (out.getD j 0=v))) out.length 0)
theorem inL_t {out:List Int} {v:Int}:inL out v=true↔∃j,j<out.length∧out.getD j 0=v:=by
  unfold inL
  rw [decide_eq_true_eq,fidx_iff]
  constructor
  · rintro⟨j,_,h2,h3⟩;exact⟨j,by omega,of_decide_eq_true (by simpa using h3)⟩
  · rintro⟨j,h1,h2⟩;exact⟨j,by omega,by omega,by rw [h2];simp⟩
theorem inL_is (out:List Int)(v:Int):inL out v=out.contains v:=by
  rw [Bool.eq_iff_iff,inL_t,List.contains_iff_mem]
  constructor
  · rintro⟨j,h1,h2⟩
    rw [←h2,List.getD_eq_getElem?_getD,List.getElem?_eq_getElem h1];exact List.getElem_mem h1
  · intro h
    obtain⟨j,h1,h2⟩:=List.getElem_of_mem h
    exact⟨j,h1,by rw [List.getD_eq_getElem?_getD,List.getElem?_eq_getElem h1];exact h2⟩
structure LkT where
  a:Int
  b:Int
  lo:Int
  hi:Int
structure FaT where
  p:Int
  s:Int
  wl:Int
  wh:Int
  ml:Int
  mh:Int
structure Dsp where
  tw:List Int
  tm:List Int
  tv:List (List Int)
  sn:Int
  pn:Int
  ls:List LkT
  fs:List FaT
def l0T :LkT:=⟨0,0,0,0⟩
def f0T :FaT:=⟨0,0,0,0,0,0⟩
def linkP (sn:Int)(x:LkT):Prop:=(0≤x.a∧x.a≤sn-1)∧(0≤x.b∧x.b≤sn-1)∧x.a≠x.b∧ -2000≤x.lo∧x.lo≤x.hi∧x.hi≤2000
instance (sn:Int) (x:LkT):Decidable (linkP sn x):=by unfold linkP;infer_instance
def linkB (sn:Int)(x:LkT):Bool:=decide (linkP sn x)
theorem linkB_t (sn:Int)(x:LkT):(linkB sn x=true)=linkP sn x:=decide_eq_true_eq
theorem linkB_f (sn:Int)(x:LkT):(linkB sn x=false)=¬linkP sn x:=by simp only [linkB,decide_eq_false_iff_not]
def factP (d:Dsp)(f:FaT):Prop:=(0≤f.p∧f.p≤d.pn-1)∧(0≤f.s∧f.s≤d.sn-1)∧(d.tw.getD 0 0≤f.wl∧f.wl≤f.wh∧f.wh≤d.tw.getD (d.tw.length-1) 0)∧d.tm.getD 0 0≤f.ml∧f.ml≤f.mh∧f.mh≤d.tm.getD (d.tm.length-1) 0
instance (d:Dsp) (f:FaT):Decidable (factP d f):=by unfold factP;infer_instance
def factB (d:Dsp)(f:FaT):Bool:=decide (factP d f)
theorem factB_t (d:Dsp)(f:FaT):(factB d f=true)=factP d f:=decide_eq_true_eq
theorem factB_f (d:Dsp)(f:FaT):(factB d f=false)=¬factP d f:=by simp only [factB,decide_eq_false_iff_not]
structure DOk (d:Dsp):Prop where
  t:TOk d.tw d.tm d.tv
  s1:1≤d.sn
  s3:d.sn≤3
  p1:1≤d.pn
  p4:d.pn≤4
  l4:d.ls.length≤4
  f6:d.fs.length≤6
  l:∀i,i<d.ls.length→linkP d.sn (d.ls.getD i l0T)
  f:∀i,i<d.fs.length→factP d (d.fs.getD i f0T)
def manyD (d:Dsp):Prop:=3<d.sn∨4<d.pn∨4<d.ls.length∨6<d.fs.length
instance (d:Dsp):Decidable (manyD d):=by unfold manyD;infer_instance
def goodD (d:Dsp):Prop:=1≤d.sn∧1≤d.pn∧allB (fun i=>linkB d.sn (d.ls.getD i l0T)) d.ls.length=true∧allB (fun i=>factB d (d.fs.getD i f0T)) d.fs.length=true
instance (d:Dsp):Decidable (goodD d):=by unfold goodD;infer_instance
def faultD (d:Dsp):Int:=if faultT d.tw d.tm d.tv=0 then(if manyD d then 3 else if goodD d then 0 else 1)else faultT d.tw d.tm d.tv
theorem fault_bad {d:Dsp}(h:¬faultT d.tw d.tm d.tv=0):faultD d=faultT d.tw d.tm d.tv:=by unfold faultD;rw [if_neg h]
theorem fault_many {d:Dsp}(h:faultT d.tw d.tm d.tv=0)(h':manyD d):faultD d=3:=by unfold faultD;rw [if_pos h,if_pos h']
theorem fault_no {d:Dsp}(h:faultT d.tw d.tm d.tv=0)(h':¬manyD d)(h'':¬goodD d):faultD d=1:=by unfold faultD;rw [if_pos h,if_neg h',if_neg h'']
theorem fault_yes {d:Dsp}(h:faultT d.tw d.tm d.tv=0)(h':¬manyD d)(h'':goodD d):faultD d=0:=by unfold faultD;rw [if_pos h,if_neg h',if_pos h'']
theorem good_iff {d:Dsp}:goodD d↔1≤d.sn∧1≤d.pn∧(∀i,i<d.ls.length→linkP d.sn (d.ls.getD i l0T))∧∀i,i<d.fs.length→factP d (d.fs.getD i f0T):=by
  unfold goodD
  rw [allB_t,allB_t]
  simp only [linkB_t,factB_t]
theorem faultD_iff {d:Dsp}:faultD d=0↔DOk d:=by
  constructor
  · intro h
    by_cases ht:faultT d.tw d.tm d.tv=0
    · by_cases hm:manyD d
      · rw [fault_many ht hm]at h;omega
      · by_cases hg:goodD d
        · have g:=good_iff.1 hg
          unfold manyD at hm
          exact⟨faultT_zero ht,g.1,by omega,g.2.1,by omega,by omega,by omega,g.2.2.1,g.2.2.2⟩
        · rw [fault_no ht hm hg]at h;omega
    · rw [fault_bad ht]at h;exact absurd h ht
  · intro h
    have h1:=h.s3
    have h2:=h.p4
    have h3:=h.l4
    have h4:=h.f6
    exact fault_yes (faultT_ok h.t) (by unfold manyD;omega) (good_iff.2 ⟨h.s1,h.p1,h.l,h.f⟩)
def mLo (d:Dsp)(f:FaT):Int:=bLo d.tw d.tm d.tv f.wl f.wh f.ml f.mh
def mHi (d:Dsp)(f:FaT):Int:=bHi d.tw d.tm d.tv f.wl f.wh f.ml f.mh
theorem fact_box {d:Dsp} {f:FaT}(h:factP d f):Box d.tw d.tm f.wl f.wh f.ml f.mh:=by
  unfold factP at h
  exact⟨by omega,by omega,by omega,by omega,by omega,by omega⟩
theorem mean_bd {d:Dsp} {f:FaT}(hT:TOk d.tw d.tm d.tv)(h:factP d f):0≤mLo d f∧mLo d f≤mHi d f∧mHi d f≤2000:=by
  have hb:=fact_box h
  have hB:=b_isB hT hb
  obtain⟨w,m,a1,a2,a3,a4,a5⟩:=hB.lo
  obtain⟨w',m',b1,b2,b3,b4,b5⟩:=hB.hi
  have q1:=at_bd hT (hb.pt a1 a2 a3 a4)
  have q2:=at_bd hT (hb.pt b1 b2 b3 b4)
  have q3:=hB.le w m a1 a2 a3 a4
  unfold mLo mHi
  omega
def lkO (x:LkT):Lk:=⟨x.a.toNat,x.b.toNat,x.lo,x.hi⟩
def faO (d:Dsp)(f:FaT):Fa:=⟨f.s.toNat,mLo d f,mHi d f⟩
def LO (d:Dsp):List Lk:=d.ls.map lkO
def FO (d:Dsp)(fs:List FaT):List Fa:=fs.map (faO d)
def SN (d:Dsp):Nat:=d.sn.toNat
def FOk (d:Dsp)(fs:List FaT):Prop:=∀i,i<fs.length→factP d (fs.getD i f0T)
theorem FOk.mem {d:Dsp} {fs:List FaT}(h:FOk d fs) {f:FaT}(hf:f∈fs):factP d f:=by
  obtain⟨i,h1,h2⟩:=List.getElem_of_mem hf
  have:=h i h1
  rw [List.getD_eq_getElem?_getD,List.getElem?_eq_getElem h1]at this
  rw [←h2];exact this
theorem FOk.of {d:Dsp} {fs:List FaT}(h:∀f∈fs,factP d f):FOk d fs:=fun i hi=>by
  rw [List.getD_eq_getElem?_getD,List.getElem?_eq_getElem hi];exact h _ (List.getElem_mem hi)
theorem lkO_mem {d:Dsp}(h:∀i,i<d.ls.length→linkP d.sn (d.ls.getD i l0T)) {x:LkT}(hx:x∈d.ls):linkP d.sn x:=by
  obtain⟨i,h1,h2⟩:=List.getElem_of_mem hx
  have:=h i h1
  rw [List.getD_eq_getElem?_getD,List.getElem?_eq_getElem h1]at this
  rw [←h2];exact this
theorem okk {d:Dsp}(h:DOk d) {fs:List FaT}(hf:FOk d fs):Okk (SN d) (LO d) (FO d fs):=by
  have s1:=h.s1
  have s3:=h.s3
  refine⟨by unfold SN;omega,by unfold SN;omega,fun k hk=> ?_,fun k hk=> ?_⟩
  · obtain⟨x,hx,rfl⟩:=List.mem_map.1 hk
    have:=lkO_mem h.l hx
    unfold linkP at this
    unfold lkO SN
    simp only
    omega
  · obtain⟨x,hx,rfl⟩:=List.mem_map.1 hk
    have:=hf.mem hx
    unfold factP at this
    unfold faO SN
    simp only
    omega
theorem mat_sm {d:Dsp}(h:DOk d) {fs:List FaT}(hf:FOk d fs)(i:Nat): -2000≤matD (SN d) (LO d) (FO d fs) i∧matD (SN d) (LO d) (FO d fs) i≤2000:=by
  refine mat_small (fun k hk=> ?_) (fun k hk=> ?_) i
  · obtain⟨x,hx,rfl⟩:=List.mem_map.1 hk
    have:=lkO_mem h.l hx
    unfold linkP at this
    unfold lkO
    simp only
    omega
  · obtain⟨x,hx,rfl⟩:=List.mem_map.1 hk
    have:=mean_bd h.t (hf.mem hx)
    unfold faO
    simp only
    omega
def kpT (fs:List FaT)(c:Nat→Bool):Nat→List FaT
  |0=>[]
  |i+1=>if c i=true then kpT fs c i++[fs.getD i f0T]else kpT fs c i
theorem kpT_y {fs:List FaT} {c:Nat→Bool} {i:Nat}(h:c i=true):kpT fs c (i+1)=kpT fs c i++[fs.getD i f0T]:=by simp only [kpT,h,if_true]
theorem kpT_n {fs:List FaT} {c:Nat→Bool} {i:Nat}(h:c i=false):kpT fs c (i+1)=kpT fs c i:=by simp only [kpT,h,Bool.false_eq_true,if_false]
theorem kpT_pre (fs:List FaT)(c:Nat→Bool):∀{m n:Nat},m≤n→∃r,kpT fs c n=kpT fs c m++r:=by
  intro m n
  induction n with
  |zero=>intro h;exact⟨[],by rw [show m=0 by omega];simp [kpT]⟩
  | succ n ih=>
    intro h
    rcases Nat.lt_or_ge n m with q|q
    · exact⟨[],by rw [show m=n+1 by omega];simp⟩
    · obtain⟨r,e⟩:=ih q
      cases hc:c n with
      |true=>exact⟨r++[fs.getD n f0T],by rw [kpT_y hc,e,List.append_assoc]⟩
      |false=>exact⟨r,by rw [kpT_n hc,e]⟩
theorem kpT_at {fs:List FaT} {c:Nat→Bool} {i n:Nat}(hi:i<n)(h:c i=true):(kpT fs c i).length<(kpT fs c n).length∧(kpT fs c n).getD (kpT fs c i).length f0T=fs.getD i f0T:=by
  obtain⟨r,e⟩:=kpT_pre fs c (show i+1≤n by omega)
  rw [e,kpT_y h]
  constructor
  · simp only [List.length_append,List.length_cons,List.length_nil];omega
  · simp [List.getD_eq_getElem?_getD]
theorem kpT_mem {fs:List FaT} {c:Nat→Bool} {f:FaT}:∀{n:Nat},n≤fs.length→f∈kpT fs c n→f∈fs:=by
  intro n
  induction n with
  |zero=>intro _ h;simp [kpT]at h
  | succ n ih=>
    intro hn h
    simp only [kpT]at h
    split at h
    · rcases List.mem_append.1 h with h|h
      · exact ih (by omega) h
      · rw [List.mem_singleton]at h
        rw [h,List.getD_eq_getElem?_getD,List.getElem?_eq_getElem (by omega)];exact List.getElem_mem _
    · exact ih (by omega) h
theorem FO_at {d:Dsp} {fs:List FaT} {i:Nat}(h:i<fs.length):(FO d fs).getD i f0=faO d (fs.getD i f0T):=by
  unfold FO
  simp only [List.getD_eq_getElem?_getD,List.getElem?_map,List.getElem?_eq_getElem h,Option.map_some,Option.getD_some]
theorem FO_len (d:Dsp)(fs:List FaT):(FO d fs).length=fs.length:=List.length_map ..
theorem LO_len (d:Dsp):(LO d).length=d.ls.length:=List.length_map ..
theorem LO_at {d:Dsp} {i:Nat}(h:i<d.ls.length):(LO d).getD i lk0=lkO (d.ls.getD i l0T):=by
  unfold LO
  simp only [List.getD_eq_getElem?_getD,List.getElem?_map,List.getElem?_eq_getElem h,Option.map_some,Option.getD_some]
theorem FO_kp {d:Dsp} {fs:List FaT} {c:Nat→Bool}:∀{n:Nat},n≤fs.length→FO d (kpT fs c n)=kpN (FO d fs) c n:=by
  intro n
  induction n with
  |zero=>intro _;rfl
  | succ n ih=>
    intro hn
    have e:=ih (by omega)
    cases hc:c n with
    | true=>
      rw [kpT_y hc]
      simp only [kpN,hc,if_true]
      rw [←e,FO_at (by omega)]
      unfold FO
      rw [List.map_append];rfl
    | false=>
      rw [kpT_n hc]
      simp only [kpN,hc,Bool.false_eq_true,if_false]
      exact e
def keptT (fs:List FaT)(o:List Int):List FaT:=kpT fs (outL o) fs.length
def outB (o:List Int)(i:Nat):Bool:= !(inL o (i:Int))
theorem outB_is (o:List Int):outB o=outL o:=funext fun i=>by unfold outB outL;rw [inL_is]
theorem kept_ok {d:Dsp} {fs:List FaT}(h:FOk d fs)(o:List Int):FOk d (keptT fs o):=FOk.of fun f hf=>h.mem (kpT_mem (Nat.le_refl _) hf)
def matO (d:Dsp)(fs:List FaT)(o:List Int):Nat→Int:=matD (SN d) (LO d) (FO d (keptT fs o))
def canT (d:Dsp)(fs:List FaT)(o:List Int):Bool:=okD (clo (matO d fs o))
theorem canT_is {d:Dsp} {fs:List FaT} {o:List Int}:canT d fs o=okF (SN d) (LO d) (FO d fs) o:=by
  unfold canT matO keptT okF canO canD
  rw [FO_kp (Nat.le_refl _),FO_len]
end Go.Proofs.Ytkdggbfknlcdaaa
namespace Go.Proofs.Ytkdggbfknlcdaaa
open Go Go.Eng Go.Proofs
abbrev dspS (d:Dsp):SV:=(.agg [(.sl 1 (.sym fun _=>zi (d.tw).length) (fun ix=>[.int .i64 (.sym fun _=>(d.tw).getD ix.den.toNat 0)])),(.sl 1 (.sym fun _=>zi (d.tm).length) (fun ix=>[.int .i64 (.sym fun _=>(d.tm).getD ix.den.toNat 0)])),(.sl 1 (.sym fun _=>zi (d.tv).length) (fun ix=>[(.sl 1 (.sym fun _=>zi ((d.tv).getD ix.den.toNat []).length) (fun jx=>[.int .i64 (.sym fun _=>((d.tv).getD ix.den.toNat []).getD jx.den.toNat 0)]))])),(.int .i64 (.sym fun _=>d.sn)),(.int .i64 (.sym fun _=>d.pn)),(.sl 4 (.sym fun _=>zi (d.ls).length) (fun ix=>[(.int .i64 (.sym fun _=>((d.ls).getD ix.den.toNat l0T).a)),(.int .i64 (.sym fun _=>((d.ls).getD ix.den.toNat l0T).b)),(.int .i64 (.sym fun _=>((d.ls).getD ix.den.toNat l0T).lo)),(.int .i64 (.sym fun _=>((d.ls).getD ix.den.toNat l0T).hi))])),(.sl 6 (.sym fun _=>zi (d.fs).length) (fun ix=>[(.int .i64 (.sym fun _=>((d.fs).getD ix.den.toNat f0T).p)),(.int .i64 (.sym fun _=>((d.fs).getD ix.den.toNat f0T).s)),(.int .i64 (.sym fun _=>((d.fs).getD ix.den.toNat f0T).wl)),(.int .i64 (.sym fun _=>((d.fs).getD ix.den.toNat f0T).wh)),(.int .i64 (.sym fun _=>((d.fs).getD ix.den.toNat f0T).ml)),(.int .i64 (.sym fun _=>((d.fs).getD ix.den.toNat f0T).mh))]))])
end Go.Proofs.Ytkdggbfknlcdaaa

namespace Go.Proofs.Ytkdggbfknlcdaaa
open Go.Eng.Dif
theorem bS_succ (n:Nat):bS (n+1)=bS n++[⟨0,n+1,0,2000⟩]:=by unfold bS;rw [List.range_succ,List.map_append];rfl
def mS (n:Nat):Nat→Int:=addL M00 (bS n)
theorem mS_s (n:Nat):mS (n+1)=addB (mS n) ⟨0,n+1,0,2000⟩:=by unfold mS;rw [bS_succ,addL_app];rfl
def mL (d:Dsp)(k:Nat):Nat→Int:=addL (mS (SN d)) (bL_ ((LO d).take k))
theorem take_one {α:Type} {l:List α} {k:Nat}(h:k<l.length):l.take (k+1)=l.take k++[l[k]]:=List.take_succ_eq_append_getElem h
theorem mL_s {d:Dsp} {k:Nat}(h:k<d.ls.length)(h0:0≤(d.ls.getD k l0T).a)(h1:0≤(d.ls.getD k l0T).b):mL d (k+1)=addB (mL d k) ⟨((d.ls.getD k l0T).a+1).toNat,((d.ls.getD k l0T).b+1).toNat,(d.ls.getD k l0T).lo,(d.ls.getD k l0T).hi⟩:=by
  have hk:k<(LO d).length:=by rw [LO_len];exact h
  unfold mL
  rw [take_one hk]
  unfold bL_
  rw [List.map_append,addL_app]
  have e:(LO d)[k]=lkO (d.ls.getD k l0T):=by
    have:=LO_at h
    rw [List.getD_eq_getElem?_getD,List.getElem?_eq_getElem hk]at this
    exact this
  rw [e,show((d.ls.getD k l0T).a+1).toNat=(d.ls.getD k l0T).a.toNat+1 by omega,show((d.ls.getD k l0T).b+1).toNat=(d.ls.getD k l0T).b.toNat+1 by omega]
  rfl
def mF (d:Dsp)(fs:List FaT)(k:Nat):Nat→Int:=addL (mL d d.ls.length) (bF ((FO d fs).take k))
theorem mF_s {d:Dsp} {fs:List FaT} {k:Nat}(h:k<fs.length)(h0:0≤(fs.getD k f0T).s):mF d fs (k+1)=addB (mF d fs k) ⟨0,((fs.getD k f0T).s+1).toNat,mLo d (fs.getD k f0T),mHi d (fs.getD k f0T)⟩:=by
  have hk:k<(FO d fs).length:=by rw [FO_len];exact h
  unfold mF
  rw [take_one hk]
  unfold bF
  rw [List.map_append,addL_app]
  have e:(FO d fs)[k]=faO d (fs.getD k f0T):=by
    have:=FO_at (d:=d) h
    rw [List.getD_eq_getElem?_getD,List.getElem?_eq_getElem hk]at this
    exact this
  rw [e,show((fs.getD k f0T).s+1).toNat=(fs.getD k f0T).s.toNat+1 by omega]
  rfl
theorem mF_all (d:Dsp)(fs:List FaT):mF d fs fs.length=matD (SN d) (LO d) (FO d fs):=by
  unfold mF mL mS matD
  rw [addL_app,addL_app,List.take_of_length_le (by rw [LO_len];exact Nat.le_refl _),List.take_of_length_le (by rw [FO_len];exact Nat.le_refl _)]
def iN (k i:Nat):Int:=if i<k then M00 i else 0
theorem iN_0 (i:Nat):iN 0 i=0:=by unfold iN;rw [if_neg (by omega)]
theorem iN_old {k i:Nat}(h:i≠k):iN k i=iN (k+1) i:=by
  unfold iN
  by_cases q:i<k
  · rw [if_pos q,if_pos (by omega)]
  · rw [if_neg q,if_neg (by omega)]
theorem iN_new {k i:Nat}(h:i=k)(hd:k/4≠k%4):2000=iN (k+1) i:=by
  subst h
  unfold iN M00
  rw [if_pos (by omega),if_neg hd]
theorem iN_dia {k i:Nat}(hd:k/4=k%4):iN k i=iN (k+1) i:=by
  by_cases q:i=k
  · subst q
    unfold iN M00
    rw [if_neg (by omega),if_pos (by omega),if_pos hd]
  · exact iN_old q
theorem iN_all {i:Nat}(h:i<16):iN 16 i=M00 i:=by unfold iN;rw [if_pos h]
theorem mn_min (a b:Int):min a b=mn a b:=by unfold mn;split<;>omega
theorem lst_new {M:Nat→Int} {p i a:Nat} {n:Int}(ha:a=p)(h:i=p):min (M a) n=lst M p n i:=by
  unfold lst
  rw [if_pos h,mn_min,ha,h]
theorem lst_old {M:Nat→Int} {p i:Nat} {n:Int}(h:i≠p):M i=lst M p n i:=by
  unfold lst
  rw [if_neg h]
end Go.Proofs.Ytkdggbfknlcdaaa

namespace Go.Proofs.Ytkdggbfknlcdaaa
open Go Go.Eng Go.Proofs
set_option maxRecDepth 10000
theorem within43 (n lo hi:Int):FSpec Try.prog 43 [(.int .i64 (.sym fun _=>n)),(.int .i64 (.sym fun _=>lo)),(.int .i64 (.sym fun _=>hi))] [] (fun r _=>r=(.bool (.sym fun _=>inB lo n hi))):=by
  refine FSpec.is fun R hR=>qW (sc:=sc43) tyok mix Try.func43 rfl Try.call43 (by kernel_rfl) (by kernel_rfl) ?_
  generalize Try.prog=P
  cbv
  repeat' (first
      |with_reducible refine And.intro ?_ ?_
      |(with_reducible intro hcd;(try simp only [zA,zB,zC,zD,zE,zF,zG,zH,zI,zJ,zK,zL,zM,zN,zO,zP]at hcd);try cbv)
      |fail)
  all_goals first
    |(subst hR;(refine qF ?_;(try simp only [qV]at *);(try simp only [zQ,zA,zB,zC,zD,zE,zF,zG,zH,zI,zJ,zK,zL,zM,zN,zO,zP,zR,zS]at *);apply Bool.eq_iff_iff.2;simp only [allB_t,allB_f,inB_t,inB_f,ofB_t,ofB_f,linkB_t,linkB_f,factB_t,factB_f,Bool.and_eq_true,Bool.or_eq_true,Bool.not_eq_true',decide_eq_true_eq,decide_eq_false_iff_not,Bool.false_eq_true,reduceCtorEq,Bool.true_and,Bool.and_true,Bool.false_and,Bool.and_false,iff_true,true_iff,Bool.not_true,Bool.not_false]at *;constructor<;>intro q<;>first|omega|(exact q.elim)|(exact absurd q (by omega)));done)
    |skip
theorem has70 (lo hi n:Int):FSpec Try.prog 70 [(.agg [(.int .i64 (.sym fun _=>lo)),(.int .i64 (.sym fun _=>hi))]),(.int .i64 (.sym fun _=>n))] [] (fun r _=>r=(.bool (.sym fun _=>inB lo n hi))):=by
  have c43:= @within43
  refine FSpec.is fun R hR=>qW (sc:=sc70) tyok mix Try.func70 rfl Try.call70 (by kernel_rfl) (by kernel_rfl) ?_
  generalize Try.prog=P at c43⊢
  cbv
  repeat' (first
      | (refine qP ?_ (c43 _ _ _) (by(repeat' (first|exact qB|refine qD ?_ ?_|exact qE (by rfl)|exact qF (by rfl)|exact Fit.refl _|exact qA|refine qC ?_ rfl ?_)))
         try cbv)
      |fail)
  all_goals first
    |(subst hR;(repeat' (first|exact qA|exact qB|refine qC ?_ rfl ?_|refine qD ?_ ?_|exact qE (by rfl)|exact qF (by rfl)|exact Fit.refl _|exact qG _|(refine qE ?_;(try simp only [qV]at *);simp only [zQ,zA,zB,zC,zD,zE,zF,zG,zH,zI,zJ,zK,zL,zM,zN,zO,zP,zR,zS]at *;omega)));done)
    |skip
theorem of80 (a b lo hi:Int):FSpec Try.prog 80 [(.agg [(.int .i64 (.sym fun _=>a)),(.int .i64 (.sym fun _=>b))]),(.int .i64 (.sym fun _=>lo)),(.int .i64 (.sym fun _=>hi))] [] (fun r _=>r=(.bool (.sym fun _=>ofB lo a b hi))):=by
  refine FSpec.is fun R hR=>qW (sc:=sc80) tyok mix Try.func80 rfl Try.call80 (by kernel_rfl) (by kernel_rfl) ?_
  generalize Try.prog=P
  cbv
  repeat' (first
      |with_reducible refine And.intro ?_ ?_
      |(with_reducible intro hcd;(try simp only [zA,zB,zC,zD,zE,zF,zG,zH,zI,zJ,zK,zL,zM,zN,zO,zP]at hcd);try cbv)
      |fail)
  all_goals first
    |(subst hR;(refine qF ?_;(try simp only [qV]at *);(try simp only [zQ,zA,zB,zC,zD,zE,zF,zG,zH,zI,zJ,zK,zL,zM,zN,zO,zP,zR,zS]at *);apply Bool.eq_iff_iff.2;simp only [allB_t,allB_f,inB_t,inB_f,ofB_t,ofB_f,linkB_t,linkB_f,factB_t,factB_f,Bool.and_eq_true,Bool.or_eq_true,Bool.not_eq_true',decide_eq_true_eq,decide_eq_false_iff_not,Bool.false_eq_true,reduceCtorEq,Bool.true_and,Bool.and_true,Bool.false_and,Bool.and_false,iff_true,true_iff,Bool.not_true,Bool.not_false]at *;constructor<;>intro q<;>first|omega|(exact q.elim)|(exact absurd q (by omega)));done)
    |skip
theorem on81 (a b:Int)(l:List Int)(h:1≤l.length∧l.length≤1000):FSpec Try.prog 81 [(.agg [(.int .i64 (.sym fun _=>a)),(.int .i64 (.sym fun _=>b))]),(.sl 1 (.sym fun _=>zi (l).length) (fun ix=>[.int .i64 (.sym fun _=>(l).getD ix.den.toNat 0)]))] [] (fun r _=>r=(.bool (.sym fun _=>ofB (l.getD 0 0) a b (l.getD (l.length-1) 0)))):=by
  have c80:= @of80
  refine FSpec.is fun R hR=>qW (sc:=sc81) tyok mix Try.func81 rfl Try.call81 (by kernel_rfl) (by kernel_rfl) ?_
  generalize Try.prog=P at c80⊢
  cbv
  repeat' (first
      |with_reducible refine hold ?_ ?_
      | (refine qP ?_ (c80 _ _ _ _) (by(repeat' (first|exact qB|refine qD ?_ ?_|exact qE (by rfl)|exact qF (by rfl)|exact Fit.refl _|exact qA|refine qC ?_ rfl ?_)))
         try cbv)
      |fail)
  all_goals first
    |((try simp only [qV]at *);(try simp only [zQ,zA,zB,zC,zD,zE,zF,zG,zH,zI,zJ,zK,zL,zM,zN,zO,zP,zR,zS,allB_t,allB_f,inB_t,inB_f,ofB_t,ofB_f,linkB_t,linkB_f,factB_t,factB_f]at *);first|(refine qN ?_;omega)|(simp only [Hold];omega))
    |(subst hR;(refine qF ?_;simp only [zQ,zA,zB,zC,zD,zE,zF,zG,zH,zI,zJ,zK,zL,zM,zN,zO,zP,zR,zS];congr 2;omega);done)
    |skip
theorem sample66 (d:Dsp)(n:Int)(h:1≤d.sn∧d.sn≤1000):FSpec Try.prog 66 [(dspS d),(.int .i64 (.sym fun _=>n))] [] (fun r _=>r=(.bool (.sym fun _=>inB 0 n (d.sn-1)))):=by
  have c43:= @within43
  refine FSpec.is fun R hR=>qW (sc:=sc66) tyok mix Try.func66 rfl Try.call66 (by kernel_rfl) (by kernel_rfl) ?_
  generalize Try.prog=P at c43⊢
  cbv
  repeat' (first
      |with_reducible refine hold ?_ ?_
      | (refine qP ?_ (c43 _ _ _) (by(repeat' (first|exact qB|refine qD ?_ ?_|exact qE (by rfl)|exact qF (by rfl)|exact Fit.refl _|exact qA|refine qC ?_ rfl ?_)))
         try cbv)
      |fail)
  all_goals first
    |((try simp only [qV]at *);(try simp only [zQ,zA,zB,zC,zD,zE,zF,zG,zH,zI,zJ,zK,zL,zM,zN,zO,zP,zR,zS,allB_t,allB_f,inB_t,inB_f,ofB_t,ofB_f,linkB_t,linkB_f,factB_t,factB_f]at *);first|(refine qN ?_;omega)|(simp only [Hold];omega))
    |(subst hR;(repeat' (first|exact qA|exact qB|refine qC ?_ rfl ?_|refine qD ?_ ?_|exact qE (by rfl)|exact qF (by rfl)|exact Fit.refl _|exact qG _|(refine qE ?_;(try simp only [qV]at *);simp only [zQ,zA,zB,zC,zD,zE,zF,zG,zH,zI,zJ,zK,zL,zM,zN,zO,zP,zR,zS]at *;omega)));done)
    |skip
theorem link49 (d:Dsp)(x:LkT)(h:1≤d.sn∧d.sn≤1000):FSpec Try.prog 49 [(dspS d),(.agg [(.int .i64 (.sym fun _=>x.a)),(.int .i64 (.sym fun _=>x.b)),(.int .i64 (.sym fun _=>x.lo)),(.int .i64 (.sym fun _=>x.hi))])] [] (fun r _=>r=(.bool (.sym fun _=>linkB d.sn x))):=by
  have c66:=fun (n:Int)=>sample66 d n h
  have c80:= @of80
  refine FSpec.is fun R hR=>qW (sc:=sc49) tyok mix Try.func49 rfl Try.call49 (by kernel_rfl) (by kernel_rfl) ?_
  generalize Try.prog=P at c66 c80⊢
  cbv
  repeat' (first
      |with_reducible refine And.intro ?_ ?_
      |(with_reducible intro hcd;(try simp only [zA,zB,zC,zD,zE,zF,zG,zH,zI,zJ,zK,zL,zM,zN,zO,zP]at hcd);try cbv)
      | (refine qP ?_ (c66 _) (by(repeat' (first|exact qB|refine qD ?_ ?_|exact qE (by rfl)|exact qF (by rfl)|exact Fit.refl _|exact qA|refine qC ?_ rfl ?_)))
         try cbv)
      | (refine qP ?_ (c80 _ _ _ _) (by(repeat' (first|exact qB|refine qD ?_ ?_|exact qE (by rfl)|exact qF (by rfl)|exact Fit.refl _|exact qA|refine qC ?_ rfl ?_)))
         try cbv)
      |fail)
  all_goals first
    |(subst hR;(refine qF ?_;(try simp only [qV]at *);(try simp only [zQ,zA,zB,zC,zD,zE,zF,zG,zH,zI,zJ,zK,zL,zM,zN,zO,zP,zR,zS]at *);apply Bool.eq_iff_iff.2;simp only [linkB,allB_t,allB_f,inB_t,inB_f,ofB_t,ofB_f,linkB_t,linkB_f,factB_t,factB_f,Bool.and_eq_true,Bool.or_eq_true,Bool.not_eq_true',decide_eq_true_eq,decide_eq_false_iff_not,Bool.false_eq_true,reduceCtorEq,Bool.true_and,Bool.and_true,Bool.false_and,Bool.and_false,iff_true,true_iff,Bool.not_true,Bool.not_false]at *;simp only [linkP]at *;constructor<;>intro q<;>first|omega|(exact q.elim)|(exact absurd q (by omega)));done)
    |skip
theorem fact50 (d:Dsp)(f:FaT)(h:1≤d.sn∧d.sn≤1000∧1≤d.pn∧d.pn≤1000)(hw:1≤d.tw.length∧d.tw.length≤1000)(hm:1≤d.tm.length∧d.tm.length≤1000):FSpec Try.prog 50 [(dspS d),(.agg [(.int .i64 (.sym fun _=>f.p)),(.int .i64 (.sym fun _=>f.s)),(.int .i64 (.sym fun _=>f.wl)),(.int .i64 (.sym fun _=>f.wh)),(.int .i64 (.sym fun _=>f.ml)),(.int .i64 (.sym fun _=>f.mh))])] [] (fun r _=>r=(.bool (.sym fun _=>factB d f))):=by
  have c66:=fun (n:Int)=>sample66 d n ⟨h.1,h.2.1⟩
  have c43:= @within43
  have c81w:=fun (a b:Int)=>on81 a b d.tw hw
  have c81m:=fun (a b:Int)=>on81 a b d.tm hm
  refine FSpec.is fun R hR=>qW (sc:=sc50) tyok mix Try.func50 rfl Try.call50 (by kernel_rfl) (by kernel_rfl) ?_
  generalize Try.prog=P at c66 c43 c81w c81m⊢
  cbv
  repeat' (first
      |with_reducible refine hold ?_ ?_
      |with_reducible refine And.intro ?_ ?_
      |(with_reducible intro hcd;(try simp only [zA,zB,zC,zD,zE,zF,zG,zH,zI,zJ,zK,zL,zM,zN,zO,zP]at hcd);try cbv)
      | (refine qP ?_ (c66 _) (by(repeat' (first|exact qB|refine qD ?_ ?_|exact qE (by rfl)|exact qF (by rfl)|exact Fit.refl _|exact qA|refine qC ?_ rfl ?_)))
         try cbv)
      | (refine qP ?_ (c43 _ _ _) (by(repeat' (first|exact qB|refine qD ?_ ?_|exact qE (by rfl)|exact qF (by rfl)|exact Fit.refl _|exact qA|refine qC ?_ rfl ?_)))
         try cbv)
      | (refine qP ?_ (c81w f.wl f.wh) ?hfit
         case hfit=>((repeat' (first|exact qB|refine qD ?_ ?_|exact qE (by rfl)|exact qF (by rfl)|exact Fit.refl _|exact qA|refine qC ?_ rfl ?_));done)
         try cbv)
      | (refine qP ?_ (c81m f.ml f.mh) ?hfit
         case hfit=>((repeat' (first|exact qB|refine qD ?_ ?_|exact qE (by rfl)|exact qF (by rfl)|exact Fit.refl _|exact qA|refine qC ?_ rfl ?_));done)
         try cbv)
      |fail)
  all_goals first
    |((try simp only [qV]at *);(try simp only [zQ,zA,zB,zC,zD,zE,zF,zG,zH,zI,zJ,zK,zL,zM,zN,zO,zP,zR,zS,allB_t,allB_f,inB_t,inB_f,ofB_t,ofB_f,linkB_t,linkB_f,factB_t,factB_f]at *);first|(refine qN ?_;omega)|(simp only [Hold];omega))
    |(subst hR;(refine qF ?_;(try simp only [qV]at *);(try simp only [zQ,zA,zB,zC,zD,zE,zF,zG,zH,zI,zJ,zK,zL,zM,zN,zO,zP,zR,zS]at *);apply Bool.eq_iff_iff.2;simp only [factB,allB_t,allB_f,inB_t,inB_f,ofB_t,ofB_f,linkB_t,linkB_f,factB_t,factB_f,Bool.and_eq_true,Bool.or_eq_true,Bool.not_eq_true',decide_eq_true_eq,decide_eq_false_iff_not,Bool.false_eq_true,reduceCtorEq,Bool.true_and,Bool.and_true,Bool.false_and,Bool.and_false,iff_true,true_iff,Bool.not_true,Bool.not_false]at *;simp only [factP]at *;constructor<;>intro q<;>first|omega|(exact q.elim)|(exact absurd q (by omega)));done)
    |skip
end Go.Proofs.Ytkdggbfknlcdaaa

namespace Go.Proofs.Ytkdggbfknlcdaaa
open Go Go.Eng Go.Proofs
set_option maxRecDepth 10000
theorem lam83_link (d:Dsp)(h1:1≤d.sn∧d.sn≤1000)(hfew:d.ls.length≤1000)(i:Nat)(hi:i<d.ls.length∧∀j,j<i→(linkB d.sn (d.ls.getD (j) l0T))=true):FSpec Try.prog 83 [(.agg [(.int .i64 (.sym fun _=>(d.ls.getD (i) l0T).a)),(.int .i64 (.sym fun _=>(d.ls.getD (i) l0T).b)),(.int .i64 (.sym fun _=>(d.ls.getD (i) l0T).lo)),(.int .i64 (.sym fun _=>(d.ls.getD (i) l0T).hi))]),.own 0 0] [.cells [.clo 49 [(dspS d)] []] 97] (fun r bs=>r=(.bool (.sym fun _=> !(linkB d.sn (d.ls.getD (i) l0T))))∧bs=[.cells [.clo 49 [(dspS d)] []] 97]):=by
  have cf:=link49 d (d.ls.getD i l0T) h1
  refine FSpec.isB rfl fun R B hR hB=>qW (sc:=sc83) tyok mix Try.func83 rfl Try.call83 (by kernel_rfl) (by kernel_rfl) ?_
  generalize Try.prog=P at cf⊢
  cbv
  repeat' (first
      |with_reducible refine And.intro ?_ ?_
      | (refine qP ?_ (cf) ?hfit
         case hfit=>((repeat' (first|exact qB|refine qD ?_ ?_|exact qE (by rfl)|exact qF (by rfl)|exact Fit.refl _|exact qA|refine qC ?_ rfl ?_));done)
         try cbv)
      |fail)
  all_goals first
    |(subst hR;(repeat' (first|exact qA|exact qB|refine qC ?_ rfl ?_|refine qD ?_ ?_|exact qE (by rfl)|exact qF (by rfl)|exact Fit.refl _|exact qG _|(refine qE ?_;(try simp only [qV]at *);simp only [zQ,zA,zB,zC,zD,zE,zF,zG,zH,zI,zJ,zK,zL,zM,zN,zO,zP,zR,zS]at *;omega)));done)
    |(subst hB;(repeat' (first|exact qH|refine qI ?_ ?_|exact qK _|refine qJ ?_|exact qA|exact qE (by rfl)|exact qF (by rfl)|exact Fit.refl _|exact qG _|refine qC ?_ rfl ?_));done)
    |skip
theorem idx111_link (d:Dsp)(h1:1≤d.sn∧d.sn≤1000)(hfew:d.ls.length≤1000):FSpec Try.prog 111 [(.sl 4 (.sym fun _=>zi (d.ls).length) (fun ix=>[(.int .i64 (.sym fun _=>((d.ls).getD ix.den.toNat l0T).a)),(.int .i64 (.sym fun _=>((d.ls).getD ix.den.toNat l0T).b)),(.int .i64 (.sym fun _=>((d.ls).getD ix.den.toNat l0T).lo)),(.int .i64 (.sym fun _=>((d.ls).getD ix.den.toNat l0T).hi))])),.clo 83 [] [.own 0 0]] [.cells [.clo 49 [(dspS d)] []] 97] (fun r bs=>r=(.int .i64 (.sym fun _=>fidx (fun i=>linkB d.sn (d.ls.getD (i) l0T)) (d.ls.length) 0))∧bs=[.cells [.clo 49 [(dspS d)] []] 97]):=by
  have cl:=lam83_link d h1 hfew
  refine FSpec.isB rfl fun R B hR hB=>qW (sc:=sc111) tyok mix Try.func111 rfl Try.call111 (by kernel_rfl) (by kernel_rfl) ?_
  generalize Try.prog=P at cl⊢
  cbv
  repeat' (first
      |fail)
  all_goals first
    |skip
  refine⟨none,[],{i:Nat // i≤d.ls.length∧fidx (fun i=>linkB d.sn (d.ls.getD (i) l0T)) (d.ls.length) 0=fidx (fun i=>linkB d.sn (d.ls.getD (i) l0T)) (d.ls.length-i) i∧∀j,j<i→(linkB d.sn (d.ls.getD (j) l0T))=true},fun x=>⟨[(0,(.sl 4 (.sym fun _=>zi (d.ls).length) (fun ix=>[(.int .i64 (.sym fun _=>((d.ls).getD ix.den.toNat l0T).a)),(.int .i64 (.sym fun _=>((d.ls).getD ix.den.toNat l0T).b)),(.int .i64 (.sym fun _=>((d.ls).getD ix.den.toNat l0T).lo)),(.int .i64 (.sym fun _=>((d.ls).getD ix.den.toNat l0T).hi))]))),(1,.clo 83 [] [.own 0 0]),(7,(.int .i64 (.sym fun _=>zi (d.ls.length)))),(8,(.int .i64 (.sym fun _=>zi x.1)))],[(0,.cells [.clo 49 [(dspS d)] []] 97)],20⟩,fun x=>d.ls.length-x.1,?_,?_⟩
  · refine⟨⟨0,by omega,rfl,fun j hj=>by omega⟩,?_⟩
    cbv
    repeat' (first
      |with_reducible refine hold ?_ ?_
      |with_reducible refine And.intro ?_ ?_)
    all_goals first
      |trivial
      |exact qM (qE (by rfl))
      |exact qM (Fit.refl _)
      |exact qL (qK _)
      |skip
  · rintro ⟨i,hi,hr,hq⟩
    cbv
    repeat' (first
        |with_reducible refine hold ?_ ?_
        |with_reducible refine And.intro ?_ ?_
        |(with_reducible intro hcd;(try simp only [zA,zB,zC,zD,zE,zF,zG,zH,zI,zJ,zK,zL,zM,zN,zO,zP]at hcd);try cbv)
        | (refine⟨some [0],?_⟩
           cbv
           refine qQ ?_ (cl i ⟨by(try simp only [qV]at *);simp only [zi_den]at *;omega,hq⟩) (by cbv;(repeat' (first|exact qB|refine qD ?_ ?_|exact qE (by rfl)|exact qF (by rfl)|exact Fit.refl _|exact qA|refine qC ?_ rfl ?_))) (by cbv;(repeat' (first|exact qH|refine qI ?_ ?_|exact qK _|refine qJ ?_|exact qA|exact qE (by rfl)|exact qF (by rfl)|exact Fit.refl _|exact qG _|refine qC ?_ rfl ?_)))
           try cbv)
        |fail)
    all_goals first
      |((try simp only [qV]at *);(try simp only [zQ,zA,zB,zC,zD,zE,zF,zG,zH,zI,zJ,zK,zL,zM,zN,zO,zP,zR,zS]at *);first|(refine qN ?_;omega)|(simp only [Hold];omega))
      |(subst hR;(refine qE ?_;simp only [zQ,zA,zB,zC,zD,zE,zF,zG,zH,zI,zJ,zK,zL,zM,zN,zO,zP,zR,zS]at *;rw [hr,fidx_stop (by omega) hcd]);done)
      |(subst hR;(refine qE ?_;simp only [zQ,zA,zB,zC,zD,zE,zF,zG,zH,zI,zJ,zK,zL,zM,zN,zO,zP,zR,zS]at *;rw [hr,show d.ls.length-i=0 by omega];rfl);done)
      |(subst hB;(repeat' (first|exact qH|refine qI ?_ ?_|exact qK _|refine qJ ?_|exact qA|exact qE (by rfl)|exact qF (by rfl)|exact Fit.refl _|exact qG _|refine qC ?_ rfl ?_));done)
      |((try simp only [zQ,zA,zB,zC,zD,zE,zF,zG,zH,zI,zJ,zK,zL,zM,zN,zO,zP,zR,zS]at *);refine⟨⟨i+1,by omega,by rw [hr,fidx_go (by omega) hcd];(try congr 1)<;>omega,fun j hj=>(Nat.lt_or_ge j i).elim (hq j) (fun q=>by rw [show j=i by omega];exact hcd)⟩,by simp only [];omega,?_⟩;cbv;(repeat' (first|with_reducible refine hold ?_ ?_|with_reducible refine And.intro ?_ ?_));(all_goals first|trivial|exact qM (qE (by rfl))|exact qM (qF (by rfl))|exact qM (Fit.refl _)|exact qL (qK _)|(refine qM (qE ?_);(try simp only [qV]at *);simp only [zQ,zA,zB,zC,zD,zE,zF,zG,zH,zI,zJ,zK,zL,zM,zN,zO,zP,zR,zS]at *;omega)|(refine qL (qJ ?_);(repeat' (first|exact qA|exact qB|refine qC ?_ rfl ?_|refine qD ?_ ?_|exact qE (by rfl)|exact qF (by rfl)|exact Fit.refl _|exact qG _|(refine qE ?_;(try simp only [qV]at *);simp only [zQ,zA,zB,zC,zD,zE,zF,zG,zH,zI,zJ,zK,zL,zM,zN,zO,zP,zR,zS]at *;omega)));done)|skip))
      |skip
theorem cont82_link (d:Dsp)(h1:1≤d.sn∧d.sn≤1000)(hfew:d.ls.length≤1000):FSpec Try.prog 82 [(.sl 4 (.sym fun _=>zi (d.ls).length) (fun ix=>[(.int .i64 (.sym fun _=>((d.ls).getD ix.den.toNat l0T).a)),(.int .i64 (.sym fun _=>((d.ls).getD ix.den.toNat l0T).b)),(.int .i64 (.sym fun _=>((d.ls).getD ix.den.toNat l0T).lo)),(.int .i64 (.sym fun _=>((d.ls).getD ix.den.toNat l0T).hi))])),.clo 83 [] [.own 0 0]] [.cells [.clo 49 [(dspS d)] []] 97] (fun r bs=>r=(.bool (.sym fun _=>decide (0≤fidx (fun i=>linkB d.sn (d.ls.getD (i) l0T)) (d.ls.length) 0)))∧bs=[.cells [.clo 49 [(dspS d)] []] 97]):=by
  have ci:=idx111_link d h1 hfew
  refine FSpec.isB rfl fun R B hR hB=>qW (sc:=sc82) tyok mix Try.func82 rfl Try.call82 (by kernel_rfl) (by kernel_rfl) ?_
  generalize Try.prog=P at ci⊢
  cbv
  repeat' (first
      |with_reducible refine And.intro ?_ ?_
      | (refine⟨some [0],?_⟩
         cbv
         refine qQ ?_ (ci) (by cbv;(repeat' (first|exact qB|refine qD ?_ ?_|exact qE (by rfl)|exact qF (by rfl)|exact Fit.refl _|exact qA|refine qC ?_ rfl ?_))) (by cbv;(repeat' (first|exact qH|refine qI ?_ ?_|exact qK _|refine qJ ?_|exact qA|exact qE (by rfl)|exact qF (by rfl)|exact Fit.refl _|exact qG _|refine qC ?_ rfl ?_)))
         try cbv)
      |fail)
  all_goals first
    |(subst hR;(repeat' (first|exact qA|exact qB|refine qC ?_ rfl ?_|refine qD ?_ ?_|exact qE (by rfl)|exact qF (by rfl)|exact Fit.refl _|exact qG _|(refine qE ?_;(try simp only [qV]at *);simp only [zQ,zA,zB,zC,zD,zE,zF,zG,zH,zI,zJ,zK,zL,zM,zN,zO,zP,zR,zS]at *;omega)));done)
    |(subst hB;(repeat' (first|exact qH|refine qI ?_ ?_|exact qK _|refine qJ ?_|exact qA|exact qE (by rfl)|exact qF (by rfl)|exact Fit.refl _|exact qG _|refine qC ?_ rfl ?_));done)
    |skip
theorem all51_link (d:Dsp)(h1:1≤d.sn∧d.sn≤1000)(hfew:d.ls.length≤1000):FSpec Try.prog 51 [(.sl 4 (.sym fun _=>zi (d.ls).length) (fun ix=>[(.int .i64 (.sym fun _=>((d.ls).getD ix.den.toNat l0T).a)),(.int .i64 (.sym fun _=>((d.ls).getD ix.den.toNat l0T).b)),(.int .i64 (.sym fun _=>((d.ls).getD ix.den.toNat l0T).lo)),(.int .i64 (.sym fun _=>((d.ls).getD ix.den.toNat l0T).hi))])),.clo 49 [(dspS d)] []] [] (fun r _=>r=(.bool (.sym fun _=>allB (fun i=>linkB d.sn (d.ls.getD (i) l0T)) (d.ls.length)))):=by
  have cc:=cont82_link d h1 hfew
  refine FSpec.is fun R hR=>qW (sc:=sc51) tyok mix Try.func51 rfl Try.call51 (by kernel_rfl) (by kernel_rfl) ?_
  generalize Try.prog=P at cc⊢
  cbv
  repeat' (first
      | (refine⟨some [0],?_⟩
         cbv
         refine qQ ?_ (cc) (by cbv;(repeat' (first|exact qB|refine qD ?_ ?_|exact qE (by rfl)|exact qF (by rfl)|exact Fit.refl _|exact qA|refine qC ?_ rfl ?_))) (by cbv;(repeat' (first|exact qH|refine qI ?_ ?_|exact qK _|refine qJ ?_|exact qA|exact qE (by rfl)|exact qF (by rfl)|exact Fit.refl _|exact qG _|refine qC ?_ rfl ?_)))
         try cbv)
      |fail)
  all_goals first
    |(subst hR;(repeat' (first|exact qA|exact qB|refine qC ?_ rfl ?_|refine qD ?_ ?_|exact qE (by rfl)|exact qF (by rfl)|exact Fit.refl _|exact qG _|(refine qE ?_;(try simp only [qV]at *);simp only [zQ,zA,zB,zC,zD,zE,zF,zG,zH,zI,zJ,zK,zL,zM,zN,zO,zP,zR,zS]at *;omega)));done)
    |skip
theorem lam85_fact (d:Dsp)(h1:1≤d.sn∧d.sn≤1000∧1≤d.pn∧d.pn≤1000)(hw:1≤d.tw.length∧d.tw.length≤1000)(hm:1≤d.tm.length∧d.tm.length≤1000)(hfew:d.fs.length≤1000)(i:Nat)(hi:i<d.fs.length∧∀j,j<i→(factB d (d.fs.getD (j) f0T))=true):FSpec Try.prog 85 [(.agg [(.int .i64 (.sym fun _=>(d.fs.getD (i) f0T).p)),(.int .i64 (.sym fun _=>(d.fs.getD (i) f0T).s)),(.int .i64 (.sym fun _=>(d.fs.getD (i) f0T).wl)),(.int .i64 (.sym fun _=>(d.fs.getD (i) f0T).wh)),(.int .i64 (.sym fun _=>(d.fs.getD (i) f0T).ml)),(.int .i64 (.sym fun _=>(d.fs.getD (i) f0T).mh))]),.own 0 0] [.cells [.clo 50 [(dspS d)] []] 98] (fun r bs=>r=(.bool (.sym fun _=> !(factB d (d.fs.getD (i) f0T))))∧bs=[.cells [.clo 50 [(dspS d)] []] 98]):=by
  have cf:=fact50 d (d.fs.getD i f0T) h1 hw hm
  refine FSpec.isB rfl fun R B hR hB=>qW (sc:=sc85) tyok mix Try.func85 rfl Try.call85 (by kernel_rfl) (by kernel_rfl) ?_
  generalize Try.prog=P at cf⊢
  cbv
  repeat' (first
      |with_reducible refine And.intro ?_ ?_
      | (refine qP ?_ (cf) ?hfit
         case hfit=>((repeat' (first|exact qB|refine qD ?_ ?_|exact qE (by rfl)|exact qF (by rfl)|exact Fit.refl _|exact qA|refine qC ?_ rfl ?_));done)
         try cbv)
      |fail)
  all_goals first
    |(subst hR;(repeat' (first|exact qA|exact qB|refine qC ?_ rfl ?_|refine qD ?_ ?_|exact qE (by rfl)|exact qF (by rfl)|exact Fit.refl _|exact qG _|(refine qE ?_;(try simp only [qV]at *);simp only [zQ,zA,zB,zC,zD,zE,zF,zG,zH,zI,zJ,zK,zL,zM,zN,zO,zP,zR,zS]at *;omega)));done)
    |(subst hB;(repeat' (first|exact qH|refine qI ?_ ?_|exact qK _|refine qJ ?_|exact qA|exact qE (by rfl)|exact qF (by rfl)|exact Fit.refl _|exact qG _|refine qC ?_ rfl ?_));done)
    |skip
theorem idx112_fact (d:Dsp)(h1:1≤d.sn∧d.sn≤1000∧1≤d.pn∧d.pn≤1000)(hw:1≤d.tw.length∧d.tw.length≤1000)(hm:1≤d.tm.length∧d.tm.length≤1000)(hfew:d.fs.length≤1000):FSpec Try.prog 112 [(.sl 6 (.sym fun _=>zi (d.fs).length) (fun ix=>[(.int .i64 (.sym fun _=>((d.fs).getD ix.den.toNat f0T).p)),(.int .i64 (.sym fun _=>((d.fs).getD ix.den.toNat f0T).s)),(.int .i64 (.sym fun _=>((d.fs).getD ix.den.toNat f0T).wl)),(.int .i64 (.sym fun _=>((d.fs).getD ix.den.toNat f0T).wh)),(.int .i64 (.sym fun _=>((d.fs).getD ix.den.toNat f0T).ml)),(.int .i64 (.sym fun _=>((d.fs).getD ix.den.toNat f0T).mh))])),.clo 85 [] [.own 0 0]] [.cells [.clo 50 [(dspS d)] []] 98] (fun r bs=>r=(.int .i64 (.sym fun _=>fidx (fun i=>factB d (d.fs.getD (i) f0T)) (d.fs.length) 0))∧bs=[.cells [.clo 50 [(dspS d)] []] 98]):=by
  have cl:=lam85_fact d h1 hw hm hfew
  refine FSpec.isB rfl fun R B hR hB=>qW (sc:=sc112) tyok mix Try.func112 rfl Try.call112 (by kernel_rfl) (by kernel_rfl) ?_
  generalize Try.prog=P at cl⊢
  cbv
  repeat' (first
      |fail)
  all_goals first
    |skip
  refine⟨none,[],{i:Nat // i≤d.fs.length∧fidx (fun i=>factB d (d.fs.getD (i) f0T)) (d.fs.length) 0=fidx (fun i=>factB d (d.fs.getD (i) f0T)) (d.fs.length-i) i∧∀j,j<i→(factB d (d.fs.getD (j) f0T))=true},fun x=>⟨[(0,(.sl 6 (.sym fun _=>zi (d.fs).length) (fun ix=>[(.int .i64 (.sym fun _=>((d.fs).getD ix.den.toNat f0T).p)),(.int .i64 (.sym fun _=>((d.fs).getD ix.den.toNat f0T).s)),(.int .i64 (.sym fun _=>((d.fs).getD ix.den.toNat f0T).wl)),(.int .i64 (.sym fun _=>((d.fs).getD ix.den.toNat f0T).wh)),(.int .i64 (.sym fun _=>((d.fs).getD ix.den.toNat f0T).ml)),(.int .i64 (.sym fun _=>((d.fs).getD ix.den.toNat f0T).mh))]))),(1,.clo 85 [] [.own 0 0]),(7,(.int .i64 (.sym fun _=>zi (d.fs.length)))),(8,(.int .i64 (.sym fun _=>zi x.1)))],[(0,.cells [.clo 50 [(dspS d)] []] 98)],20⟩,fun x=>d.fs.length-x.1,?_,?_⟩
  · refine⟨⟨0,by omega,rfl,fun j hj=>by omega⟩,?_⟩
    cbv
    repeat' (first
      |with_reducible refine hold ?_ ?_
      |with_reducible refine And.intro ?_ ?_)
    all_goals first
      |trivial
      |exact qM (qE (by rfl))
      |exact qM (Fit.refl _)
      |exact qL (qK _)
      |skip
  · rintro ⟨i,hi,hr,hq⟩
    cbv
    repeat' (first
        |with_reducible refine hold ?_ ?_
        |with_reducible refine And.intro ?_ ?_
        |(with_reducible intro hcd;(try simp only [zA,zB,zC,zD,zE,zF,zG,zH,zI,zJ,zK,zL,zM,zN,zO,zP]at hcd);try cbv)
        | (refine⟨some [0],?_⟩
           cbv
           refine qQ ?_ (cl i ⟨by(try simp only [qV]at *);simp only [zi_den]at *;omega,hq⟩) (by cbv;(repeat' (first|exact qB|refine qD ?_ ?_|exact qE (by rfl)|exact qF (by rfl)|exact Fit.refl _|exact qA|refine qC ?_ rfl ?_))) (by cbv;(repeat' (first|exact qH|refine qI ?_ ?_|exact qK _|refine qJ ?_|exact qA|exact qE (by rfl)|exact qF (by rfl)|exact Fit.refl _|exact qG _|refine qC ?_ rfl ?_)))
           try cbv)
        |fail)
    all_goals first
      |((try simp only [qV]at *);(try simp only [zQ,zA,zB,zC,zD,zE,zF,zG,zH,zI,zJ,zK,zL,zM,zN,zO,zP,zR,zS]at *);first|(refine qN ?_;omega)|(simp only [Hold];omega))
      |(subst hR;(refine qE ?_;simp only [zQ,zA,zB,zC,zD,zE,zF,zG,zH,zI,zJ,zK,zL,zM,zN,zO,zP,zR,zS]at *;rw [hr,fidx_stop (by omega) hcd]);done)
      |(subst hR;(refine qE ?_;simp only [zQ,zA,zB,zC,zD,zE,zF,zG,zH,zI,zJ,zK,zL,zM,zN,zO,zP,zR,zS]at *;rw [hr,show d.fs.length-i=0 by omega];rfl);done)
      |(subst hB;(repeat' (first|exact qH|refine qI ?_ ?_|exact qK _|refine qJ ?_|exact qA|exact qE (by rfl)|exact qF (by rfl)|exact Fit.refl _|exact qG _|refine qC ?_ rfl ?_));done)
      |((try simp only [zQ,zA,zB,zC,zD,zE,zF,zG,zH,zI,zJ,zK,zL,zM,zN,zO,zP,zR,zS]at *);refine⟨⟨i+1,by omega,by rw [hr,fidx_go (by omega) hcd];(try congr 1)<;>omega,fun j hj=>(Nat.lt_or_ge j i).elim (hq j) (fun q=>by rw [show j=i by omega];exact hcd)⟩,by simp only [];omega,?_⟩;cbv;(repeat' (first|with_reducible refine hold ?_ ?_|with_reducible refine And.intro ?_ ?_));(all_goals first|trivial|exact qM (qE (by rfl))|exact qM (qF (by rfl))|exact qM (Fit.refl _)|exact qL (qK _)|(refine qM (qE ?_);(try simp only [qV]at *);simp only [zQ,zA,zB,zC,zD,zE,zF,zG,zH,zI,zJ,zK,zL,zM,zN,zO,zP,zR,zS]at *;omega)|(refine qL (qJ ?_);(repeat' (first|exact qA|exact qB|refine qC ?_ rfl ?_|refine qD ?_ ?_|exact qE (by rfl)|exact qF (by rfl)|exact Fit.refl _|exact qG _|(refine qE ?_;(try simp only [qV]at *);simp only [zQ,zA,zB,zC,zD,zE,zF,zG,zH,zI,zJ,zK,zL,zM,zN,zO,zP,zR,zS]at *;omega)));done)|skip))
      |skip
theorem cont84_fact (d:Dsp)(h1:1≤d.sn∧d.sn≤1000∧1≤d.pn∧d.pn≤1000)(hw:1≤d.tw.length∧d.tw.length≤1000)(hm:1≤d.tm.length∧d.tm.length≤1000)(hfew:d.fs.length≤1000):FSpec Try.prog 84 [(.sl 6 (.sym fun _=>zi (d.fs).length) (fun ix=>[(.int .i64 (.sym fun _=>((d.fs).getD ix.den.toNat f0T).p)),(.int .i64 (.sym fun _=>((d.fs).getD ix.den.toNat f0T).s)),(.int .i64 (.sym fun _=>((d.fs).getD ix.den.toNat f0T).wl)),(.int .i64 (.sym fun _=>((d.fs).getD ix.den.toNat f0T).wh)),(.int .i64 (.sym fun _=>((d.fs).getD ix.den.toNat f0T).ml)),(.int .i64 (.sym fun _=>((d.fs).getD ix.den.toNat f0T).mh))])),.clo 85 [] [.own 0 0]] [.cells [.clo 50 [(dspS d)] []] 98] (fun r bs=>r=(.bool (.sym fun _=>decide (0≤fidx (fun i=>factB d (d.fs.getD (i) f0T)) (d.fs.length) 0)))∧bs=[.cells [.clo 50 [(dspS d)] []] 98]):=by
  have ci:=idx112_fact d h1 hw hm hfew
  refine FSpec.isB rfl fun R B hR hB=>qW (sc:=sc84) tyok mix Try.func84 rfl Try.call84 (by kernel_rfl) (by kernel_rfl) ?_
  generalize Try.prog=P at ci⊢
  cbv
  repeat' (first
      |with_reducible refine And.intro ?_ ?_
      | (refine⟨some [0],?_⟩
         cbv
         refine qQ ?_ (ci) (by cbv;(repeat' (first|exact qB|refine qD ?_ ?_|exact qE (by rfl)|exact qF (by rfl)|exact Fit.refl _|exact qA|refine qC ?_ rfl ?_))) (by cbv;(repeat' (first|exact qH|refine qI ?_ ?_|exact qK _|refine qJ ?_|exact qA|exact qE (by rfl)|exact qF (by rfl)|exact Fit.refl _|exact qG _|refine qC ?_ rfl ?_)))
         try cbv)
      |fail)
  all_goals first
    |(subst hR;(repeat' (first|exact qA|exact qB|refine qC ?_ rfl ?_|refine qD ?_ ?_|exact qE (by rfl)|exact qF (by rfl)|exact Fit.refl _|exact qG _|(refine qE ?_;(try simp only [qV]at *);simp only [zQ,zA,zB,zC,zD,zE,zF,zG,zH,zI,zJ,zK,zL,zM,zN,zO,zP,zR,zS]at *;omega)));done)
    |(subst hB;(repeat' (first|exact qH|refine qI ?_ ?_|exact qK _|refine qJ ?_|exact qA|exact qE (by rfl)|exact qF (by rfl)|exact Fit.refl _|exact qG _|refine qC ?_ rfl ?_));done)
    |skip
theorem all52_fact (d:Dsp)(h1:1≤d.sn∧d.sn≤1000∧1≤d.pn∧d.pn≤1000)(hw:1≤d.tw.length∧d.tw.length≤1000)(hm:1≤d.tm.length∧d.tm.length≤1000)(hfew:d.fs.length≤1000):FSpec Try.prog 52 [(.sl 6 (.sym fun _=>zi (d.fs).length) (fun ix=>[(.int .i64 (.sym fun _=>((d.fs).getD ix.den.toNat f0T).p)),(.int .i64 (.sym fun _=>((d.fs).getD ix.den.toNat f0T).s)),(.int .i64 (.sym fun _=>((d.fs).getD ix.den.toNat f0T).wl)),(.int .i64 (.sym fun _=>((d.fs).getD ix.den.toNat f0T).wh)),(.int .i64 (.sym fun _=>((d.fs).getD ix.den.toNat f0T).ml)),(.int .i64 (.sym fun _=>((d.fs).getD ix.den.toNat f0T).mh))])),.clo 50 [(dspS d)] []] [] (fun r _=>r=(.bool (.sym fun _=>allB (fun i=>factB d (d.fs.getD (i) f0T)) (d.fs.length)))):=by
  have cc:=cont84_fact d h1 hw hm hfew
  refine FSpec.is fun R hR=>qW (sc:=sc52) tyok mix Try.func52 rfl Try.call52 (by kernel_rfl) (by kernel_rfl) ?_
  generalize Try.prog=P at cc⊢
  cbv
  repeat' (first
      | (refine⟨some [0],?_⟩
         cbv
         refine qQ ?_ (cc) (by cbv;(repeat' (first|exact qB|refine qD ?_ ?_|exact qE (by rfl)|exact qF (by rfl)|exact Fit.refl _|exact qA|refine qC ?_ rfl ?_))) (by cbv;(repeat' (first|exact qH|refine qI ?_ ?_|exact qK _|refine qJ ?_|exact qA|exact qE (by rfl)|exact qF (by rfl)|exact Fit.refl _|exact qG _|refine qC ?_ rfl ?_)))
         try cbv)
      |fail)
  all_goals first
    |(subst hR;(repeat' (first|exact qA|exact qB|refine qC ?_ rfl ?_|refine qD ?_ ?_|exact qE (by rfl)|exact qF (by rfl)|exact Fit.refl _|exact qG _|(refine qE ?_;(try simp only [qV]at *);simp only [zQ,zA,zB,zC,zD,zE,zF,zG,zH,zI,zJ,zK,zL,zM,zN,zO,zP,zR,zS]at *;omega)));done)
    |skip
theorem check16 (d:Dsp):FSpec Try.prog 16 [(dspS d)] [] (fun r _=>r=(.int .i64 (.sym fun _=>faultD d))):=by
  have c48:=check79 d.tw d.tm d.tv
  have cl:=fun h:(1≤d.sn∧d.sn≤1000)∧d.ls.length≤1000=>all51_link d h.1 h.2
  have cf:=fun h:((1≤d.sn∧d.sn≤1000∧1≤d.pn∧d.pn≤1000)∧faultT d.tw d.tm d.tv=0)∧d.fs.length≤1000=>all52_fact d h.1.1 (by have:=faultT_zero h.1.2;have a:=this.w2;have b:=this.w5;omega) (by have:=faultT_zero h.1.2;have a:=this.m2;have b:=this.m5;omega) h.2
  refine FSpec.is fun R hR=>qW (sc:=sc16) tyok mix Try.func16 rfl Try.call16 (by kernel_rfl) (by kernel_rfl) ?_
  generalize Try.prog=P at c48 cl cf⊢
  cbv
  repeat' (first
      |with_reducible refine And.intro ?_ ?_
      |(with_reducible intro hcd;(try simp only [zA,zB,zC,zD,zE,zF,zG,zH,zI,zJ,zK,zL,zM,zN,zO,zP]at hcd);try cbv)
      | (refine qP ?_ (c48) ?hfit
         case hfit=>((repeat' (first|exact qB|refine qD ?_ ?_|exact qE (by rfl)|exact qF (by rfl)|exact Fit.refl _|exact qA|refine qC ?_ rfl ?_));done)
         try cbv)
      | (refine qP ?_ (cl (show Hold _ from ?_)) ?hfit
         case hfit=>((repeat' (first|exact qB|refine qD ?_ ?_|exact qE (by rfl)|exact qF (by rfl)|exact Fit.refl _|exact qA|refine qC ?_ rfl ?_));done)
         try cbv)
      | (refine qP ?_ (cf (show Hold _ from ?_)) ?hfit
         case hfit=>((repeat' (first|exact qB|refine qD ?_ ?_|exact qE (by rfl)|exact qF (by rfl)|exact Fit.refl _|exact qA|refine qC ?_ rfl ?_));done)
         try cbv)
      |fail)
  all_goals first
    |((try simp only [qV]at *);(try simp only [zQ,zA,zB,zC,zD,zE,zF,zG,zH,zI,zJ,zK,zL,zM,zN,zO,zP,zR,zS,allB_t,allB_f,inB_t,inB_f,ofB_t,ofB_f,linkB_t,linkB_f,factB_t,factB_f]at *);first|(refine qN ?_;omega)|(simp only [Hold];omega))
    |(subst hR;(refine qE ?_;(try simp only [qV]at *);(try simp only [zQ,zA,zB,zC,zD,zE,zF,zG,zH,zI,zJ,zK,zL,zM,zN,zO,zP,zR,zS]at *);exact(fault_bad (by first|assumption|omega)).symm);done)
    |(subst hR;(refine qE ?_;(try simp only [qV]at *);(try simp only [zQ,zA,zB,zC,zD,zE,zF,zG,zH,zI,zJ,zK,zL,zM,zN,zO,zP,zR,zS]at *);exact(fault_many (by first|assumption|omega) (by unfold manyD;omega)).symm);done)
    |(subst hR;(refine qE ?_;(try simp only [qV]at *);(try simp only [zQ,zA,zB,zC,zD,zE,zF,zG,zH,zI,zJ,zK,zL,zM,zN,zO,zP,zR,zS]at *);exact(fault_no (by first|assumption|omega) (by unfold manyD;omega) (fun g=>by have a1:=g.1;have a2:=g.2.1;have a3:=g.2.2.1;have a4:=g.2.2.2;first|omega|(simp_all;done))).symm);done)
    |(subst hR;(refine qE ?_;(try simp only [qV]at *);(try simp only [zQ,zA,zB,zC,zD,zE,zF,zG,zH,zI,zJ,zK,zL,zM,zN,zO,zP,zR,zS]at *);exact(fault_yes (by first|assumption|omega) (by unfold manyD;omega) ⟨by omega,by omega,by(first|assumption|(simp_all;done)),by(first|assumption|(simp_all;done))⟩).symm);done)
    |skip
end Go.Proofs.Ytkdggbfknlcdaaa

namespace Go.Proofs.Ytkdggbfknlcdaaa
open Go Go.Eng Go.Proofs
set_option maxRecDepth 10000
theorem mapTy115 :MapTy Try.prog 115 89 33:=by
  show Try.prog.underlying 115=some (.map 89 33)
  kernel_rfl
theorem keyOk89 :KeyOk Try.prog 89 false 6:=(keyB_ok (by kernel_rfl)).1
def kLo (d:Dsp)(ks:List Int):Int:=bLo d.tw d.tm d.tv (ks.getD 2 0) (ks.getD 3 0) (ks.getD 4 0) (ks.getD 5 0)
def kHi (d:Dsp)(ks:List Int):Int:=bHi d.tw d.tm d.tv (ks.getD 2 0) (ks.getD 3 0) (ks.getD 4 0) (ks.getD 5 0)
theorem work44 (d:Dsp):FSpec Try.prog 44 [(dspS d)] [] (fun r _=>r=(.pp 0 [(.sl 1 (.sym fun _=>zi (d.tw).length) (fun ix=>[.int .i64 (.sym fun _=>(d.tw).getD ix.den.toNat 0)])),(.sl 1 (.sym fun _=>zi (d.tm).length) (fun ix=>[.int .i64 (.sym fun _=>(d.tm).getD ix.den.toNat 0)])),(.sl 1 (.sym fun _=>zi (d.tv).length) (fun ix=>[(.sl 1 (.sym fun _=>zi ((d.tv).getD ix.den.toNat []).length) (fun jx=>[.int .i64 (.sym fun _=>((d.tv).getD ix.den.toNat []).getD jx.den.toNat 0)]))])),(.int .i64 (.sym fun _=>d.sn)),(.int .i64 (.sym fun _=>d.pn)),(.sl 4 (.sym fun _=>zi (d.ls).length) (fun ix=>[(.int .i64 (.sym fun _=>((d.ls).getD ix.den.toNat l0T).a)),(.int .i64 (.sym fun _=>((d.ls).getD ix.den.toNat l0T).b)),(.int .i64 (.sym fun _=>((d.ls).getD ix.den.toNat l0T).lo)),(.int .i64 (.sym fun _=>((d.ls).getD ix.den.toNat l0T).hi))])),(.sl 6 (.sym fun _=>zi (d.fs).length) (fun ix=>[(.int .i64 (.sym fun _=>((d.fs).getD ix.den.toNat f0T).p)),(.int .i64 (.sym fun _=>((d.fs).getD ix.den.toNat f0T).s)),(.int .i64 (.sym fun _=>((d.fs).getD ix.den.toNat f0T).wl)),(.int .i64 (.sym fun _=>((d.fs).getD ix.den.toNat f0T).wh)),(.int .i64 (.sym fun _=>((d.fs).getD ix.den.toNat f0T).ml)),(.int .i64 (.sym fun _=>((d.fs).getD ix.den.toNat f0T).mh))])),(.memo 89 33 false 6 (fun ks=>.agg [(.int .i64 (.sym fun _=>kLo d ks)),(.int .i64 (.sym fun _=>kHi d ks))]))])):=by
  have hmt:=mapTy115
  refine FSpec.is fun R hR=>qW (sc:=sc44) tyok mix Try.func44 rfl Try.call44 (by kernel_rfl) (by kernel_rfl) ?_
  generalize Try.prog=P at hmt⊢
  cbv
  repeat' (first
      | (refine⟨89,33,false,6,?_⟩
         cbv
         refine hold ⟨hmt,fun h=>by cases h⟩ ?_
         refine Or.inr ⟨(fun ks=>.agg [(.int .i64 (.sym fun _=>kLo d ks)),(.int .i64 (.sym fun _=>kHi d ks))]),?_⟩
         cbv)
      |fail)
  all_goals first
    |(subst hR;(repeat' (first|exact qA|exact qB|refine qC ?_ rfl ?_|refine qD ?_ ?_|exact qE (by rfl)|exact qF (by rfl)|exact Fit.refl _|exact qG _|(refine qE ?_;(try simp only [qV]at *);simp only [zQ,zA,zB,zC,zD,zE,zF,zG,zH,zI,zJ,zK,zL,zM,zN,zO,zP,zR,zS]at *;omega)));done)
    |skip
theorem mean45 (d:Dsp)(f:FaT)(hT:TOk d.tw d.tm d.tv)(hf:factP d f):FSpec Try.prog 45 [(.pp 0 [(.sl 1 (.sym fun _=>zi (d.tw).length) (fun ix=>[.int .i64 (.sym fun _=>(d.tw).getD ix.den.toNat 0)])),(.sl 1 (.sym fun _=>zi (d.tm).length) (fun ix=>[.int .i64 (.sym fun _=>(d.tm).getD ix.den.toNat 0)])),(.sl 1 (.sym fun _=>zi (d.tv).length) (fun ix=>[(.sl 1 (.sym fun _=>zi ((d.tv).getD ix.den.toNat []).length) (fun jx=>[.int .i64 (.sym fun _=>((d.tv).getD ix.den.toNat []).getD jx.den.toNat 0)]))])),(.int .i64 (.sym fun _=>d.sn)),(.int .i64 (.sym fun _=>d.pn)),(.sl 4 (.sym fun _=>zi (d.ls).length) (fun ix=>[(.int .i64 (.sym fun _=>((d.ls).getD ix.den.toNat l0T).a)),(.int .i64 (.sym fun _=>((d.ls).getD ix.den.toNat l0T).b)),(.int .i64 (.sym fun _=>((d.ls).getD ix.den.toNat l0T).lo)),(.int .i64 (.sym fun _=>((d.ls).getD ix.den.toNat l0T).hi))])),(.sl 6 (.sym fun _=>zi (d.fs).length) (fun ix=>[(.int .i64 (.sym fun _=>((d.fs).getD ix.den.toNat f0T).p)),(.int .i64 (.sym fun _=>((d.fs).getD ix.den.toNat f0T).s)),(.int .i64 (.sym fun _=>((d.fs).getD ix.den.toNat f0T).wl)),(.int .i64 (.sym fun _=>((d.fs).getD ix.den.toNat f0T).wh)),(.int .i64 (.sym fun _=>((d.fs).getD ix.den.toNat f0T).ml)),(.int .i64 (.sym fun _=>((d.fs).getD ix.den.toNat f0T).mh))])),(.memo 89 33 false 6 (fun ks=>.agg [(.int .i64 (.sym fun _=>kLo d ks)),(.int .i64 (.sym fun _=>kHi d ks))]))]),(.agg [(.int .i64 (.sym fun _=>f.p)),(.int .i64 (.sym fun _=>f.s)),(.int .i64 (.sym fun _=>f.wl)),(.int .i64 (.sym fun _=>f.wh)),(.int .i64 (.sym fun _=>f.ml)),(.int .i64 (.sym fun _=>f.mh))])] [] (fun r _=>r=(.agg [(.int .i64 (.sym fun _=>mLo d f)),(.int .i64 (.sym fun _=>mHi d f))])):=by
  have hmt:=mapTy115
  have hko:=keyOk89
  have c73:=bounds102 d.tw d.tm d.tv f.wl f.wh f.ml f.mh ⟨hT,fact_box hf⟩
  refine FSpec.is fun R hR=>qW (sc:=sc45) tyok mix Try.func45 rfl Try.call45 (by kernel_rfl) (by kernel_rfl) ?_
  generalize Try.prog=P at hmt hko c73⊢
  cbv
  repeat' (first
      |with_reducible refine hold ?_ ?_
      |with_reducible refine And.intro ?_ ?_
      | (refine qP ?_ (c73) ?hfit
         case hfit=>((repeat' (first|exact qB|refine qD ?_ ?_|exact qE (by rfl)|exact qF (by rfl)|exact Fit.refl _|exact qA|refine qC ?_ rfl ?_));done)
         try cbv)
      |fail)
  all_goals first
    |trivial
    |(subst hR;(repeat' (first|exact qA|exact qB|refine qC ?_ rfl ?_|refine qD ?_ ?_|exact qE (by rfl)|exact qF (by rfl)|exact Fit.refl _|exact qG _|(refine qE ?_;(try simp only [qV]at *);simp only [zQ,zA,zB,zC,zD,zE,zF,zG,zH,zI,zJ,zK,zL,zM,zN,zO,zP,zR,zS]at *;omega)));done)
    |(unfold Hold;exact⟨rfl,rfl,hmt,hko,⟨rfl,rfl,trivial⟩,Fit.le (qC (qE rfl) rfl (qC (qE rfl) rfl qA))⟩)
    |skip
end Go.Proofs.Ytkdggbfknlcdaaa
namespace Go.Proofs.Ytkdggbfknlcdaaa
open Go Go.Eng Go.Proofs
abbrev wpS (d:Dsp):SV:=(.pp 0 [(.sl 1 (.sym fun _=>zi (d.tw).length) (fun ix=>[.int .i64 (.sym fun _=>(d.tw).getD ix.den.toNat 0)])),(.sl 1 (.sym fun _=>zi (d.tm).length) (fun ix=>[.int .i64 (.sym fun _=>(d.tm).getD ix.den.toNat 0)])),(.sl 1 (.sym fun _=>zi (d.tv).length) (fun ix=>[(.sl 1 (.sym fun _=>zi ((d.tv).getD ix.den.toNat []).length) (fun jx=>[.int .i64 (.sym fun _=>((d.tv).getD ix.den.toNat []).getD jx.den.toNat 0)]))])),(.int .i64 (.sym fun _=>d.sn)),(.int .i64 (.sym fun _=>d.pn)),(.sl 4 (.sym fun _=>zi (d.ls).length) (fun ix=>[(.int .i64 (.sym fun _=>((d.ls).getD ix.den.toNat l0T).a)),(.int .i64 (.sym fun _=>((d.ls).getD ix.den.toNat l0T).b)),(.int .i64 (.sym fun _=>((d.ls).getD ix.den.toNat l0T).lo)),(.int .i64 (.sym fun _=>((d.ls).getD ix.den.toNat l0T).hi))])),(.sl 6 (.sym fun _=>zi (d.fs).length) (fun ix=>[(.int .i64 (.sym fun _=>((d.fs).getD ix.den.toNat f0T).p)),(.int .i64 (.sym fun _=>((d.fs).getD ix.den.toNat f0T).s)),(.int .i64 (.sym fun _=>((d.fs).getD ix.den.toNat f0T).wl)),(.int .i64 (.sym fun _=>((d.fs).getD ix.den.toNat f0T).wh)),(.int .i64 (.sym fun _=>((d.fs).getD ix.den.toNat f0T).ml)),(.int .i64 (.sym fun _=>((d.fs).getD ix.den.toNat f0T).mh))])),(.memo 89 33 false 6 (fun ks=>.agg [(.int .i64 (.sym fun _=>kLo d ks)),(.int .i64 (.sym fun _=>kHi d ks))]))])
end Go.Proofs.Ytkdggbfknlcdaaa

namespace Go.Proofs.Ytkdggbfknlcdaaa
open Go Go.Eng Go.Proofs Go.Eng.Dif Go.Eng.Few
set_option maxRecDepth 10000
theorem index95 (o:List Int)(v:Int)(hfew:o.length≤1000):FSpec Try.prog 95 [(.sl 1 (.sym fun _=>zi (o).length) (fun ix=>[.int .i64 (.sym fun _=>(o).getD ix.den.toNat 0)])),(.int .i64 (.sym fun _=>v))] [] (fun r _=>r=(.int .i64 (.sym fun _=>fidx (fun j=> !(decide (o.getD j 0=v))) o.length 0))):=by
  refine FSpec.is fun R hR=>qW (sc:=sc95) tyok mix Try.func95 rfl Try.call95 (by kernel_rfl) (by kernel_rfl) ?_
  generalize Try.prog=P
  cbv
  repeat' (first
      |fail)
  all_goals first
    |skip
  refine⟨none,[],{i:Nat // i≤o.length∧fidx (fun j=> !(decide (o.getD j 0=v))) o.length 0=fidx (fun j=> !(decide (o.getD j 0=v))) (o.length-i) i},fun x=>⟨[(0,(.sl 1 (.sym fun _=>zi (o).length) (fun ix=>[.int .i64 (.sym fun _=>(o).getD ix.den.toNat 0)]))),(1,(.int .i64 (.sym fun _=>v))),(7,(.int .i64 (.sym fun _=>zi o.length))),(8,(.int .i64 (.sym fun _=>zi x.1)))],[],20⟩,fun x=>o.length-x.1,?_,?_⟩
  · refine⟨⟨0,by omega,rfl⟩,?_⟩
    cbv
    repeat' (first
      |with_reducible refine hold ?_ ?_
      |with_reducible refine And.intro ?_ ?_)
    all_goals first
      |trivial
      |exact qM (qE (by rfl))
      |exact qM (Fit.refl _)
      |skip
  · rintro⟨i,hi,hr⟩
    cbv
    repeat' (first
        |with_reducible refine hold ?_ ?_
        |with_reducible refine And.intro ?_ ?_
        |(with_reducible intro hcd;(try simp only [zA,zB,zC,zD,zE,zF,zG,zH,zI,zJ,zK,zL,zM,zN,zO,zP]at hcd);try cbv)
        |fail)
    all_goals first
      |((try simp only [qV]at *);(try simp only [zQ,zA,zB,zC,zD,zE,zF,zG,zH,zI,zJ,zK,zL,zM,zN,zO,zP,zR,zS]at *);first|(refine qN ?_;omega)|(simp only [Hold];omega))
      |(subst hR;(refine qE ?_;(try simp only [qV]at *);(try simp only [zQ,zA,zB,zC,zD,zE,zF,zG,zH,zI,zJ,zK,zL,zM,zN,zO,zP,zR,zS]at *);rw [hr,fidx_stop (by omega) (by simp only [Bool.not_eq_false',decide_eq_true_eq];omega)]);done)
      |(subst hR;(refine qE ?_;(try simp only [qV]at *);(try simp only [zQ,zA,zB,zC,zD,zE,zF,zG,zH,zI,zJ,zK,zL,zM,zN,zO,zP,zR,zS]at *);rw [hr,show o.length-i=0 by omega];rfl);done)
      |((try simp only [zQ,zA,zB,zC,zD,zE,zF,zG,zH,zI,zJ,zK,zL,zM,zN,zO,zP,zR,zS]at *);refine⟨⟨i+1,by omega,by rw [hr,fidx_go (by omega) (by simp only [Bool.not_eq_true',decide_eq_false_iff_not];omega)];(try congr 1)<;>omega⟩,by simp only [];omega,?_⟩;cbv;(repeat' (first|with_reducible refine hold ?_ ?_|with_reducible refine And.intro ?_ ?_));(all_goals first|trivial|exact qM (qE (by rfl))|exact qM (qF (by rfl))|exact qM (Fit.refl _)|exact qL (qK _)|(refine qM (qE ?_);(try simp only [qV]at *);simp only [zQ,zA,zB,zC,zD,zE,zF,zG,zH,zI,zJ,zK,zL,zM,zN,zO,zP,zR,zS]at *;omega)|skip))
      |skip
theorem contains63 (o:List Int)(v:Int)(hfew:o.length≤1000):FSpec Try.prog 63 [(.sl 1 (.sym fun _=>zi (o).length) (fun ix=>[.int .i64 (.sym fun _=>(o).getD ix.den.toNat 0)])),(.int .i64 (.sym fun _=>v))] [] (fun r _=>r=(.bool (.sym fun _=>inL o v))):=by
  have c95:=index95 o v hfew
  refine FSpec.is fun R hR=>qW (sc:=sc63) tyok mix Try.func63 rfl Try.call63 (by kernel_rfl) (by kernel_rfl) ?_
  generalize Try.prog=P at c95⊢
  cbv
  repeat' (first
      | (refine qP ?_ (c95) ?hfit
         case hfit=>((repeat' (first|exact qB|refine qD ?_ ?_|exact qE (by rfl)|exact qF (by rfl)|exact Fit.refl _|exact qA|refine qC ?_ rfl ?_));done)
         try cbv)
      |fail)
  all_goals first
    |(subst hR;(repeat' (first|exact qA|exact qB|refine qC ?_ rfl ?_|refine qD ?_ ?_|exact qE (by rfl)|exact qF (by rfl)|exact Fit.refl _|exact qG _|(refine qE ?_;(try simp only [qV]at *);simp only [zQ,zA,zB,zC,zD,zE,zF,zG,zH,zI,zJ,zK,zL,zM,zN,zO,zP,zR,zS]at *;omega)));done)
    |skip
theorem minimum114 (a b:Int):FSpec Try.prog 114 [(.sl 1 (.lit 2) (fun ix=>cellsAt [(.int .i64 (.sym fun _=>a)),(.int .i64 (.sym fun _=>b))] (0+ix.den.toNat*1) 1))] [] (fun r _=>r=(.int .i64 (.sym fun _=>min a b))):=by
  have c119:= @min127
  refine FSpec.is fun R hR=>qW (sc:=sc114) tyok mix Try.func114 rfl Try.call114 (by kernel_rfl) (by kernel_rfl) ?_
  generalize Try.prog=P at c119⊢
  cbv
  repeat' (first
      | (refine qP ?_ (c119 _ _) (by(repeat' (first|exact qB|refine qD ?_ ?_|exact qE (by rfl)|exact qF (by rfl)|exact Fit.refl _|exact qA|refine qC ?_ rfl ?_)))
         try cbv)
      |fail)
  all_goals first
    |(subst hR;(repeat' (first|exact qA|exact qB|refine qC ?_ rfl ?_|refine qD ?_ ?_|exact qE (by rfl)|exact qF (by rfl)|exact Fit.refl _|exact qG _|(refine qE ?_;(try simp only [qV]at *);simp only [zQ,zA,zB,zC,zD,zE,zF,zG,zH,zI,zJ,zK,zL,zM,zN,zO,zP,zR,zS]at *;omega)));done)
    |skip
theorem least98 (M:Nat→Int)(f t n:Int)(hf:0≤f∧f<4)(ht:0≤t∧t<4):FSpec Try.prog 98 [.own 0 0,(.int .i64 (.sym fun _=>f)),(.int .i64 (.sym fun _=>t)),(.int .i64 (.sym fun _=>n))] [.cells [(.arr 16 (fun ix=>(.int .i64 (.sym fun _=>M ix.den.toNat))))] 104] (fun r bs=>r = .tup []∧bs=[.cells [(.arr 16 (fun ix=>(.int .i64 (.sym fun _=>(lst M (at4 f.toNat t.toNat) n) ix.den.toNat))))] 104]):=by
  have c114:= @minimum114
  refine FSpec.isB rfl fun R B hR hB=>qW (sc:=sc98) tyok mix Try.func98 rfl Try.call98 (by kernel_rfl) (by kernel_rfl) ?_
  generalize Try.prog=P at c114⊢
  cbv
  repeat' (first
      |with_reducible refine hold ?_ ?_
      |with_reducible refine And.intro ?_ ?_
      | (refine⟨fun ix=>(.int .i64 (.sym fun _=>lst M (at4 f.toNat t.toNat) n ix.den.toNat)),?_⟩
         cbv
         refine hold (hold_arrupd (by intro jx h0 h1 h2;refine qE ?_;(try simp only [qV]at *);(try simp only [zQ,zA,zB,zC,zD,zE,zF,zG,zH,zI,zJ,zK,zL,zM,zN,zO,zP,zR,zS]at *);exact lst_new (M:=M) (by unfold at4;omega) (by unfold at4;omega)) (by intro jx h0 h1 h2;refine qE ?_;(try simp only [qV]at *);(try simp only [zQ,zA,zB,zC,zD,zE,zF,zG,zH,zI,zJ,zK,zL,zM,zN,zO,zP,zR,zS]at *);exact lst_old (by unfold at4;omega))) ?_
         try cbv)
      | ((first|(refine qR ?_ (c114 _ _) rfl (by cbv;(repeat' (first|exact qB|refine qD ?_ ?_|exact qE (by rfl)|exact qF (by rfl)|exact Fit.refl _|exact qA|refine qC ?_ rfl ?_))))|(refine⟨none,?_⟩;refine qR ?_ (c114 _ _) rfl (by cbv;(repeat' (first|exact qB|refine qD ?_ ?_|exact qE (by rfl)|exact qF (by rfl)|exact Fit.refl _|exact qA|refine qC ?_ rfl ?_)))))
         try cbv)
      |fail)
  all_goals first
    |trivial
    |(subst hR;exact Fit.refl _;done)
    |(subst hB;(repeat' (first|exact qH|refine qI ?_ ?_|exact qK _|refine qJ ?_|exact qA|exact qE (by rfl)|exact qF (by rfl)|exact Fit.refl _|exact qG _|refine qC ?_ rfl ?_));done)
    |skip
theorem hold_neg {M:Nat→Int}(hM:∀i,i<16→ -1000000≤M i∧M i≤1000000) {i:Nat}(hi:i<16):Hold (inR .i64 (subI (IX.lit 0).den (IX.sym fun _=>M i).den)):=by
  have:=hM i hi
  refine qN ?_
  simp only [zQ,zA,zB,zC,zD,zE,zF,zG,zH,zI,zJ,zK,zL,zM,zN,zO,zP,zR,zS]
  omega
theorem neg_at {M:Nat→Int} {a b:Nat}(h:a=b):0-M a = -M b:=by subst h;exact Int.zero_sub _
theorem at_eq {M:Nat→Int} {a b:Nat}(h:a=b):M a=M b:=by subst h;rfl
theorem addB_is (M:Nat→Int)(f t:Nat)(lo hi:Int)(i:Nat):lst (lst M (at4 f t) hi) (at4 t f) (0-lo) i=addB M ⟨f,t,lo,hi⟩ i:=by
  rw [Int.zero_sub];rfl
theorem between67 (M:Nat→Int)(f t lo hi:Int)(hf:0≤f∧f<4)(ht:0≤t∧t<4)(hb: -1000000≤lo∧lo≤1000000):FSpec Try.prog 67 [.own 0 0,(.int .i64 (.sym fun _=>f)),(.int .i64 (.sym fun _=>t)),(.agg [(.int .i64 (.sym fun _=>lo)),(.int .i64 (.sym fun _=>hi))])] [.cells [(.arr 16 (fun ix=>(.int .i64 (.sym fun _=>M ix.den.toNat))))] 104] (fun r bs=>r = .tup []∧bs=[.cells [(.arr 16 (fun ix=>(.int .i64 (.sym fun _=>(addB M ⟨f.toNat,t.toNat,lo,hi⟩) ix.den.toNat))))] 104]):=by
  have c98:= @least98
  refine FSpec.isB rfl fun R B hR hB=>qW (sc:=sc67) tyok mix Try.func67 rfl Try.call67 (by kernel_rfl) (by kernel_rfl) ?_
  generalize Try.prog=P at c98⊢
  cbv
  repeat' (first
      |with_reducible refine hold ?_ ?_
      |with_reducible refine And.intro ?_ ?_
      | (refine⟨some [0],?_⟩
         cbv
         refine qQ ?_ (c98 M f t hi hf ht) ?hfit ?hbo
         case hfit=>(cbv;(repeat' (first|exact qB|refine qD ?_ ?_|exact qE (by rfl)|exact qF (by rfl)|exact Fit.refl _|exact qA|refine qC ?_ rfl ?_));done)
         case hbo=>(cbv;(repeat' (first|exact qH|refine qI ?_ ?_|exact qK _|refine qJ ?_|exact qA|exact qE (by rfl)|exact qF (by rfl)|exact Fit.refl _|exact qG _|refine qC ?_ rfl ?_));done)
         try cbv)
      | (refine⟨some [0],?_⟩
         cbv
         refine qQ ?_ (c98 (lst M (at4 f.toNat t.toNat) (hi)) t f (0-lo) ht hf) ?hfit ?hbo
         case hfit=>(cbv;(repeat' (first|exact qB|refine qD ?_ ?_|exact qE (by rfl)|exact qF (by rfl)|exact Fit.refl _|exact qA|refine qC ?_ rfl ?_));done)
         case hbo=>(cbv;(repeat' (first|exact qH|refine qI ?_ ?_|exact qK _|refine qJ ?_|exact qA|exact qE (by rfl)|exact qF (by rfl)|exact Fit.refl _|exact qG _|refine qC ?_ rfl ?_));done)
         try cbv)
      |fail)
  all_goals first
    |((try simp only [qV]at *);(try simp only [zQ,zA,zB,zC,zD,zE,zF,zG,zH,zI,zJ,zK,zL,zM,zN,zO,zP,zR,zS]at *);first|(refine qN ?_;omega)|(simp only [Hold];omega))
    |(subst hR;exact Fit.refl _;done)
    |(subst hB;exact qI (qJ (fit_arr (fun ix h0 h1=>qE (addB_is _ _ _ _ _ _)) qA)) qH)
    |skip
theorem bounds55 (M:Nat→Int)(s:Int)(hs:0≤s∧s<3)(hM:∀i,i<16→ -1000000≤M i∧M i≤1000000):FSpec Try.prog 55 [.own 0 0,(.int .i64 (.sym fun _=>s))] [.cells [(.arr 16 (fun ix=>(.int .i64 (.sym fun _=>M ix.den.toNat))))] 104] (fun r bs=>r=(.agg [(.int .i64 (.sym fun _=> -M (at4 (s.toNat+1) 0))),(.int .i64 (.sym fun _=>M (at4 0 (s.toNat+1))))])∧bs=[.cells [(.arr 16 (fun ix=>(.int .i64 (.sym fun _=>M ix.den.toNat))))] 104]):=by
  refine FSpec.isB rfl fun R B hR hB=>qW (sc:=sc55) tyok mix Try.func55 rfl Try.call55 (by kernel_rfl) (by kernel_rfl) ?_
  generalize Try.prog=P
  cbv
  repeat' (first
      |with_reducible refine hold ?_ ?_
      |with_reducible refine And.intro ?_ ?_
      |fail)
  all_goals first
    |trivial
    |((try simp only [qV]at *);(try simp only [zQ,zA,zB,zC,zD,zE,zF,zG,zH,zI,zJ,zK,zL,zM,zN,zO,zP,zR,zS]at *);first|(refine qN ?_;omega)|(simp only [Hold];omega))
    |(subst hR;(refine qC (qE ?_) rfl (qC (qE ?_) rfl qA)<;>((try simp only [qV]at *);(try simp only [zQ,zA,zB,zC,zD,zE,zF,zG,zH,zI,zJ,zK,zL,zM,zN,zO,zP,zR,zS]at *);first|exact neg_at (by unfold at4;omega)|exact at_eq (by unfold at4;omega)));done)
    |(subst hB;(repeat' (first|exact qH|refine qI ?_ ?_|exact qK _|refine qJ ?_|exact qA|exact qE (by rfl)|exact qF (by rfl)|exact Fit.refl _|exact qG _|refine qC ?_ rfl ?_));done)
    |(refine hold_neg hM ?_;(try simp only [qV]at *);(try simp only [zQ,zA,zB,zC,zD,zE,zF,zG,zH,zI,zJ,zK,zL,zM,zN,zO,zP,zR,zS]at *);omega)
    |skip
end Go.Proofs.Ytkdggbfknlcdaaa

namespace Go.Proofs.Ytkdggbfknlcdaaa
open Go Go.Eng Go.Proofs Go.Eng.Dif Go.Eng.Few
set_option maxRecDepth 10000
theorem eqOk104 :EqOk Try.prog 104 16:=arr2B_ok (e:=102) (g:=3) (n:=4) (m:=4) (by kernel_rfl)
theorem ph_go {v:Nat} {Y:Nat→Int} {f t a b i:Nat}(ht:t<4)(ha:a=at4 f v)(hb:b=at4 v t):lst (phN v Y (f*4+t)) (at4 f t) (phN v Y (f*4+t) a+phN v Y (f*4+t) b) i=phN v Y (f*4+(t+1)) i:=by
  subst ha
  subst hb
  have e:phN v Y (f*4+(t+1))=stp v (phN v Y (f*4+t)) (f*4+t):=rfl
  rw [e]
  unfold stp
  rw [show(f*4+t)/4=f by omega,show(f*4+t)%4=t by omega]
  rfl
theorem ph_row {v:Nat} {Y:Nat→Int} {f t i:Nat}(h:t=4):phN v Y (f*4+t) i=phN v Y ((f+1)*4) i:=by
  subst h
  rw [show f*4+4=(f+1)*4 by omega]
theorem ph_all {v:Nat} {X:Nat→Int} {f i:Nat}(h:f=4):phN v (fwN X v) (f*4) i=fwN X (v+1) i:=by subst h;rfl
theorem fw_all {M:Nat→Int} {n v i:Nat}(h:v=4):fwN (fwP M n) v i=fwP M (n+1) i:=by subst h;rfl
theorem fwP_end {M:Nat→Int} {n i:Nat}(h:n=4):fwP M n i=clo M i:=by subst h;rfl
theorem fwP_brk {M:Nat→Int} {n v:Nat}(hn:n<4)(hv:v=4)(h:Same (fwN (fwP M n) v) (fwP M n)) {i:Nat}(hi:i<16):fwN (fwP M n) v i=clo M i:=by
  subst hv
  have h':Same (fwP M (n+1)) (fwP M n):=h
  have:=fwP_stop h' (3-n) i hi
  rw [show n+1+(3-n)=4 by omega]at this
  exact this.symm
theorem hold_sum {P:Nat→Int}(hP:∀i,i<16→ -5642219814912000≤P i∧P i≤2000) {a b:Nat}(ha:a<16)(hb:b<16):Hold (inR .i64 (addI (IX.sym fun _=>P a).den (IX.sym fun _=>P b).den)):=by
  have h1:=hP a ha
  have h2:=hP b hb
  refine qN ?_
  simp only [zQ,zA,zB,zC,zD,zE,zF,zG,zH,zI,zJ,zK,zL,zM,zN,zO,zP,zR,zS]
  omega
theorem same_of {A B:Nat→Int}(h:decide (dens [IX.sym fun _=>A 0,IX.sym fun _=>A 1,IX.sym fun _=>A 2,IX.sym fun _=>A 3,IX.sym fun _=>A 4,IX.sym fun _=>A 5,IX.sym fun _=>A 6,IX.sym fun _=>A 7,IX.sym fun _=>A 8,IX.sym fun _=>A 9,IX.sym fun _=>A 10,IX.sym fun _=>A 11,IX.sym fun _=>A 12,IX.sym fun _=>A 13,IX.sym fun _=>A 14,IX.sym fun _=>A 15]=dens [IX.sym fun _=>B 0,IX.sym fun _=>B 1,IX.sym fun _=>B 2,IX.sym fun _=>B 3,IX.sym fun _=>B 4,IX.sym fun _=>B 5,IX.sym fun _=>B 6,IX.sym fun _=>B 7,IX.sym fun _=>B 8,IX.sym fun _=>B 9,IX.sym fun _=>B 10,IX.sym fun _=>B 11,IX.sym fun _=>B 12,IX.sym fun _=>B 13,IX.sym fun _=>B 14,IX.sym fun _=>B 15])=true):Same A B:=by
  have e:=of_decide_eq_true h
  simp only [dens,List.map_cons,List.map_nil,den_sym,List.cons.injEq,and_true]at e
  intro i hi
  rcases(show i=0∨i=1∨i=2∨i=3∨i=4∨i=5∨i=6∨i=7∨i=8∨i=9∨i=10∨i=11∨i=12∨i=13∨i=14∨i=15 by omega)with q|q|q|q|q|q|q|q|q|q|q|q|q|q|q|q<;>subst q
  · exact e.1
  · exact e.2.1
  · exact e.2.2.1
  · exact e.2.2.2.1
  · exact e.2.2.2.2.1
  · exact e.2.2.2.2.2.1
  · exact e.2.2.2.2.2.2.1
  · exact e.2.2.2.2.2.2.2.1
  · exact e.2.2.2.2.2.2.2.2.1
  · exact e.2.2.2.2.2.2.2.2.2.1
  · exact e.2.2.2.2.2.2.2.2.2.2.1
  · exact e.2.2.2.2.2.2.2.2.2.2.2.1
  · exact e.2.2.2.2.2.2.2.2.2.2.2.2.1
  · exact e.2.2.2.2.2.2.2.2.2.2.2.2.2.1
  · exact e.2.2.2.2.2.2.2.2.2.2.2.2.2.2.1
  · exact e.2.2.2.2.2.2.2.2.2.2.2.2.2.2.2
theorem okD_at {M:Nat→Int} {a b:Nat}(q:¬M a<0)(h:a=b):0≤M b:=by subst h;omega
theorem okD_no {M:Nat→Int} {n a:Nat}(h:M a<0)(ha:a=at4 n n)(hn:n<4):false=okD M:=by
  subst ha
  symm
  rw [Bool.eq_false_iff]
  intro q
  have:=okD_iff.1 q n hn
  omega
theorem okD_yes {M:Nat→Int} {n:Nat}(hn:n=4)(h:∀j,j<n→0≤M (at4 j j)):true=okD M:=by
  subst hn
  exact(okD_iff.2 h).symm
set_option maxHeartbeats 2000000 in
theorem close68 (M:Nat→Int)(h1:∀i,i<16→ -2000≤M i)(h2:∀i,i<16→M i≤2000):FSpec Try.prog 68 [.own 0 0] [.cells [(.arr 16 (fun ix=>(.int .i64 (.sym fun _=>M ix.den.toNat))))] 104] (fun r bs=>r=(.bool (.sym fun _=>okD (clo M)))∧bs=[.cells [(.arr 16 (fun ix=>(.int .i64 (.sym fun _=>(clo M) ix.den.toNat))))] 104]):=by
  have he:=eqOk104
  have c98:= @least98
  refine FSpec.isB rfl fun R B hR hB=>qW (sc:=sc68) tyok mix Try.func68 rfl Try.call68 (by kernel_rfl) (by kernel_rfl) ?_
  generalize Try.prog=P at he c98⊢
  cbv
  repeat' (first
      |fail)
  all_goals first
    |skip
  refine⟨none,[],{n:Nat // n≤4},fun x=>⟨[(0,.own 0 0),(8,(.int .i64 (.sym fun _=>zi x.1)))],[(0,.cells [(.arr 16 (fun ix=>(.int .i64 (.sym fun _=>(fwP M x.1) ix.den.toNat))))] 104)],60⟩,fun x=>4-x.1,?_,?_⟩
  · refine⟨⟨0,by omega⟩,?_⟩
    cbv
    repeat' (first
      |with_reducible refine hold ?_ ?_
      |with_reducible refine And.intro ?_ ?_)
    all_goals first
      |trivial
      |exact qM (qE (by rfl))
      |exact qM (Fit.refl _)
      |exact qL (qK _)
      |skip
  · rintro ⟨n, hn⟩
    cbv
    repeat' (first
        |with_reducible refine And.intro ?_ ?_
        |(with_reducible intro hcd;(try simp only [zA,zB,zC,zD,zE,zF,zG,zH,zI,zJ,zK,zL,zM,zN,zO,zP]at hcd);try cbv)
        |fail)
    all_goals first
      |skip
    refine⟨none,[],{v:Nat // v≤4},fun x=>⟨[(0,.own 0 0),(8,(.int .i64 (.sym fun _=>zi n))),(3,.own 64 0),(13,(.int .i64 (.sym fun _=>zi x.1)))],[(0,.cells [(.arr 16 (fun ix=>(.int .i64 (.sym fun _=>(fwN (fwP M n) x.1) ix.den.toNat))))] 104),(64,.cells [(.arr 16 (fun ix=>(.int .i64 (.sym fun _=>(fwP M n) ix.den.toNat))))] 104)],200⟩,fun x=>4-x.1,?_,?_⟩
    · refine⟨⟨0,by omega⟩,?_⟩
      cbv
      repeat' (first
        |with_reducible refine hold ?_ ?_
        |with_reducible refine And.intro ?_ ?_)
      all_goals first
        |trivial
        |exact qM (qE (by rfl))
        |exact qM (Fit.refl _)
        |exact qL (qK _)
        |skip
    · rintro ⟨v, hv⟩
      cbv
      repeat' (first
          |with_reducible refine hold ?_ ?_
          |with_reducible refine And.intro ?_ ?_
          |(with_reducible intro hcd;(try simp only [zA,zB,zC,zD,zE,zF,zG,zH,zI,zJ,zK,zL,zM,zN,zO,zP]at hcd);try cbv)
          |fail)
      all_goals first
        |trivial
        |((try simp only [qV]at *);(try simp only [zQ,zA,zB,zC,zD,zE,zF,zG,zH,zI,zJ,zK,zL,zM,zN,zO,zP,zR,zS]at *);first|(refine qN ?_;omega)|(simp only [Hold];omega))
        |((try simp only [zQ,zA,zB,zC,zD,zE,zF,zG,zH,zI,zJ,zK,zL,zM,zN,zO,zP,zR,zS]at *);refine⟨⟨n+1,by omega⟩,by simp only [];omega,?_⟩;cbv;(repeat' (first|with_reducible refine hold ?_ ?_|with_reducible refine And.intro ?_ ?_));(all_goals first|trivial|exact qM (qE (by rfl))|exact qM (qF (by rfl))|exact qM (Fit.refl _)|exact qL (qK _)|(refine qM (qE ?_);(try simp only [qV]at *);simp only [zQ,zA,zB,zC,zD,zE,zF,zG,zH,zI,zJ,zK,zL,zM,zN,zO,zP,zR,zS]at *;omega)|(refine qL (qJ (fit_arr (fun ix h0 h1=>qE (fw_all (by((try simp only [qV]at *);(try simp only [zQ,zA,zB,zC,zD,zE,zF,zG,zH,zI,zJ,zK,zL,zM,zN,zO,zP,zR,zS]at *);omega)))) qA)))|skip))
        |skip
      refine⟨none,[],{f:Nat // f≤4},fun x=>⟨[(0,.own 0 0),(8,(.int .i64 (.sym fun _=>zi n))),(3,.own 64 0),(13,(.int .i64 (.sym fun _=>zi v))),(4,(.int .i64 (.sym fun _=>zi v))),(16,(.int .i64 (.sym fun _=>zi x.1)))],[(0,.cells [(.arr 16 (fun ix=>(.int .i64 (.sym fun _=>(phN v (fwN (fwP M n) v) (x.1*4)) ix.den.toNat))))] 104),(64,.cells [(.arr 16 (fun ix=>(.int .i64 (.sym fun _=>(fwP M n) ix.den.toNat))))] 104)],300⟩,fun x=>4-x.1,?_,?_⟩
      · refine⟨⟨0,by omega⟩,?_⟩
        cbv
        repeat' (first
          |with_reducible refine hold ?_ ?_
          |with_reducible refine And.intro ?_ ?_)
        all_goals first
          |trivial
          |exact qM (qE (by rfl))
          |exact qM (Fit.refl _)
          |exact qL (qK _)
          |skip
      · rintro ⟨f,hf⟩
        cbv
        repeat' (first
            |with_reducible refine hold ?_ ?_
            |with_reducible refine And.intro ?_ ?_
            |(with_reducible intro hcd;(try simp only [zA,zB,zC,zD,zE,zF,zG,zH,zI,zJ,zK,zL,zM,zN,zO,zP]at hcd);try cbv)
            |fail)
        all_goals first
          |((try simp only [qV]at *);(try simp only [zQ,zA,zB,zC,zD,zE,zF,zG,zH,zI,zJ,zK,zL,zM,zN,zO,zP,zR,zS]at *);first|(refine qN ?_;omega)|(simp only [Hold];omega))
          |((try simp only [zQ,zA,zB,zC,zD,zE,zF,zG,zH,zI,zJ,zK,zL,zM,zN,zO,zP,zR,zS]at *);refine⟨⟨v+1,by omega⟩,by simp only [];omega,?_⟩;cbv;(repeat' (first|with_reducible refine hold ?_ ?_|with_reducible refine And.intro ?_ ?_));(all_goals first|trivial|exact qM (qE (by rfl))|exact qM (qF (by rfl))|exact qM (Fit.refl _)|exact qL (qK _)|(refine qM (qE ?_);(try simp only [qV]at *);simp only [zQ,zA,zB,zC,zD,zE,zF,zG,zH,zI,zJ,zK,zL,zM,zN,zO,zP,zR,zS]at *;omega)|(refine qL (qJ (fit_arr (fun ix h0 h1=>qE (ph_all (by((try simp only [qV]at *);(try simp only [zQ,zA,zB,zC,zD,zE,zF,zG,zH,zI,zJ,zK,zL,zM,zN,zO,zP,zR,zS]at *);omega)))) qA)))|(refine qL (qJ (fit_arr (fun ix h0 h1=>qE rfl) qA)))|skip))
          |skip
        refine⟨none,[],{t:Nat // t≤4},fun x=>⟨[(0,.own 0 0),(8,(.int .i64 (.sym fun _=>zi n))),(3,.own 64 0),(13,(.int .i64 (.sym fun _=>zi v))),(4,(.int .i64 (.sym fun _=>zi v))),(16,(.int .i64 (.sym fun _=>zi f))),(5,(.int .i64 (.sym fun _=>zi f))),(19,(.int .i64 (.sym fun _=>zi x.1)))],[(0,.cells [(.arr 16 (fun ix=>(.int .i64 (.sym fun _=>(phN v (fwN (fwP M n) v) (f*4+x.1)) ix.den.toNat))))] 104),(64,.cells [(.arr 16 (fun ix=>(.int .i64 (.sym fun _=>(fwP M n) ix.den.toNat))))] 104)],400⟩,fun x=>4-x.1,?_,?_⟩
        · refine⟨⟨0,by omega⟩,?_⟩
          cbv
          repeat' (first
            |with_reducible refine hold ?_ ?_
            |with_reducible refine And.intro ?_ ?_)
          all_goals first
            |trivial
            |exact qM (qE (by rfl))
            |exact qM (Fit.refl _)
            |exact qL (qK _)
            |skip
        · rintro ⟨t,ht⟩
          cbv
          repeat' (first
              |with_reducible refine hold ?_ ?_
              |with_reducible refine And.intro ?_ ?_
              |(with_reducible intro hcd;(try simp only [zA,zB,zC,zD,zE,zF,zG,zH,zI,zJ,zK,zL,zM,zN,zO,zP]at hcd);try cbv)
              | (refine⟨some [0],?_⟩
                 cbv
                 refine qQ ?_ (c98 (phN v (fwN (fwP M n) v) (f*4+t)) (zi f) (zi t) (phN v (fwN (fwP M n) v) (f*4+t) ((zi f*4+zi v)*1+0).toNat+phN v (fwN (fwP M n) v) (f*4+t) ((zi v*4+zi t)*1+0).toNat) ⟨(by((try simp only [qV]at *);(try simp only [zQ,zA,zB,zC,zD,zE,zF,zG,zH,zI,zJ,zK,zL,zM,zN,zO,zP,zR,zS]at *);omega)),(by((try simp only [qV]at *);(try simp only [zQ,zA,zB,zC,zD,zE,zF,zG,zH,zI,zJ,zK,zL,zM,zN,zO,zP,zR,zS]at *);omega))⟩ ⟨(by((try simp only [qV]at *);(try simp only [zQ,zA,zB,zC,zD,zE,zF,zG,zH,zI,zJ,zK,zL,zM,zN,zO,zP,zR,zS]at *);omega)),(by((try simp only [qV]at *);(try simp only [zQ,zA,zB,zC,zD,zE,zF,zG,zH,zI,zJ,zK,zL,zM,zN,zO,zP,zR,zS]at *);omega))⟩) ?hfit ?hbo
                 case hfit=>(cbv;(repeat' (first|exact qB|refine qD ?_ ?_|exact qE (by rfl)|exact qF (by rfl)|exact Fit.refl _|exact qA|refine qC ?_ rfl ?_));done)
                 case hbo=>(cbv;(repeat' (first|exact qH|refine qI ?_ ?_|exact qK _|refine qJ ?_|exact qA|exact qE (by rfl)|exact qF (by rfl)|exact Fit.refl _|exact qG _|refine qC ?_ rfl ?_));done)
                 try cbv)
              |fail)
          all_goals first
            |((try simp only [qV]at *);(try simp only [zQ,zA,zB,zC,zD,zE,zF,zG,zH,zI,zJ,zK,zL,zM,zN,zO,zP,zR,zS]at *);first|(refine qN ?_;omega)|(simp only [Hold];omega))
            |(refine hold_sum (P:=phN v (fwN (fwP M n) v) (f*4+t)) (fun i hi=>mid_bd h1 h2 (by((try simp only [qV]at *);(try simp only [zQ,zA,zB,zC,zD,zE,zF,zG,zH,zI,zJ,zK,zL,zM,zN,zO,zP,zR,zS]at *);omega)) (by((try simp only [qV]at *);(try simp only [zQ,zA,zB,zC,zD,zE,zF,zG,zH,zI,zJ,zK,zL,zM,zN,zO,zP,zR,zS]at *);omega)) (by((try simp only [qV]at *);(try simp only [zQ,zA,zB,zC,zD,zE,zF,zG,zH,zI,zJ,zK,zL,zM,zN,zO,zP,zR,zS]at *);omega)) hi) ?_ ?_<;>((try simp only [qV]at *);(try simp only [zQ,zA,zB,zC,zD,zE,zF,zG,zH,zI,zJ,zK,zL,zM,zN,zO,zP,zR,zS]at *);omega))
            |((try simp only [zQ,zA,zB,zC,zD,zE,zF,zG,zH,zI,zJ,zK,zL,zM,zN,zO,zP,zR,zS]at *);refine⟨⟨t+1,by omega⟩,by simp only [];omega,?_⟩;cbv;(repeat' (first|with_reducible refine hold ?_ ?_|with_reducible refine And.intro ?_ ?_));(all_goals first|trivial|exact qM (qE (by rfl))|exact qM (qF (by rfl))|exact qM (Fit.refl _)|exact qL (qK _)|(refine qM (qE ?_);(try simp only [qV]at *);simp only [zQ,zA,zB,zC,zD,zE,zF,zG,zH,zI,zJ,zK,zL,zM,zN,zO,zP,zR,zS]at *;omega)|(refine qL (qJ (fit_arr (fun ix h0 h1=>qE (ph_go (by((try simp only [qV]at *);(try simp only [zQ,zA,zB,zC,zD,zE,zF,zG,zH,zI,zJ,zK,zL,zM,zN,zO,zP,zR,zS]at *);omega)) (by unfold at4;(try simp only [qV]at *);(try simp only [zQ,zA,zB,zC,zD,zE,zF,zG,zH,zI,zJ,zK,zL,zM,zN,zO,zP,zR,zS]at *);omega) (by unfold at4;(try simp only [qV]at *);(try simp only [zQ,zA,zB,zC,zD,zE,zF,zG,zH,zI,zJ,zK,zL,zM,zN,zO,zP,zR,zS]at *);omega))) qA)))|(refine qL (qJ (fit_arr (fun ix h0 h1=>qE rfl) qA)))|skip))
            |((try simp only [zQ,zA,zB,zC,zD,zE,zF,zG,zH,zI,zJ,zK,zL,zM,zN,zO,zP,zR,zS]at *);refine⟨⟨f+1,by omega⟩,by simp only [];omega,?_⟩;cbv;(repeat' (first|with_reducible refine hold ?_ ?_|with_reducible refine And.intro ?_ ?_));(all_goals first|trivial|exact qM (qE (by rfl))|exact qM (qF (by rfl))|exact qM (Fit.refl _)|exact qL (qK _)|(refine qM (qE ?_);(try simp only [qV]at *);simp only [zQ,zA,zB,zC,zD,zE,zF,zG,zH,zI,zJ,zK,zL,zM,zN,zO,zP,zR,zS]at *;omega)|(refine qL (qJ (fit_arr (fun ix h0 h1=>qE (ph_row (by((try simp only [qV]at *);(try simp only [zQ,zA,zB,zC,zD,zE,zF,zG,zH,zI,zJ,zK,zL,zM,zN,zO,zP,zR,zS]at *);omega)))) qA)))|skip))
            |skip
      refine⟨none,[],{m:Nat // m≤4∧∀j,j<m→0≤clo M (at4 j j)},fun x=>⟨[(0,.own 0 0),(50,(.int .i64 (.sym fun _=>zi x.1)))],[(0,.cells [(.arr 16 (fun ix=>(.int .i64 (.sym fun _=>(clo M) ix.den.toNat))))] 104)],500⟩,fun x=>4-x.1,?_,?_⟩
      · refine⟨⟨0,by omega,fun j hj=>by omega⟩,?_⟩
        cbv
        repeat' (first
          |with_reducible refine hold ?_ ?_
          |with_reducible refine And.intro ?_ ?_)
        all_goals first
          |trivial
          |exact qM (qE (by rfl))
          |exact qM (Fit.refl _)
          |(refine qL (qJ (fit_arr (fun ix h0 h1=>qE (fwP_brk (by((try simp only [qV]at *);(try simp only [zQ,zA,zB,zC,zD,zE,zF,zG,zH,zI,zJ,zK,zL,zM,zN,zO,zP,zR,zS]at *);omega)) (by((try simp only [qV]at *);(try simp only [zQ,zA,zB,zC,zD,zE,zF,zG,zH,zI,zJ,zK,zL,zM,zN,zO,zP,zR,zS]at *);omega)) (same_of hcd) (by omega))) qA)))
          |skip
      · rintro⟨m,hm,hq⟩
        cbv
        repeat' (first
            |with_reducible refine hold ?_ ?_
            |with_reducible refine And.intro ?_ ?_
            |(with_reducible intro hcd;(try simp only [zA,zB,zC,zD,zE,zF,zG,zH,zI,zJ,zK,zL,zM,zN,zO,zP]at hcd);try cbv)
            |fail)
        all_goals first
          |((try simp only [qV]at *);(try simp only [zQ,zA,zB,zC,zD,zE,zF,zG,zH,zI,zJ,zK,zL,zM,zN,zO,zP,zR,zS]at *);first|(refine qN ?_;omega)|(simp only [Hold];omega))
          |(subst hR;(refine qF ?_;(try simp only [qV]at *);(try simp only [zQ,zA,zB,zC,zD,zE,zF,zG,zH,zI,zJ,zK,zL,zM,zN,zO,zP,zR,zS]at *);exact okD_no (n:=m) (by assumption) (by unfold at4;omega) (by omega));done)
          |(subst hR;(refine qF ?_;(try simp only [qV]at *);(try simp only [zQ,zA,zB,zC,zD,zE,zF,zG,zH,zI,zJ,zK,zL,zM,zN,zO,zP,zR,zS]at *);exact okD_yes (n:=m) (by omega) hq);done)
          |(subst hB;(repeat' (first|exact qH|refine qI ?_ ?_|exact qK _|refine qJ ?_|exact qA|exact qE (by rfl)|exact qF (by rfl)|exact Fit.refl _|exact qG _|refine qC ?_ rfl ?_));done)
          |((try simp only [zQ,zA,zB,zC,zD,zE,zF,zG,zH,zI,zJ,zK,zL,zM,zN,zO,zP,zR,zS]at *);(have g:0≤clo M (at4 m m):=okD_at (by assumption) (by((try simp only [qV]at *);(try simp only [zQ,zA,zB,zC,zD,zE,zF,zG,zH,zI,zJ,zK,zL,zM,zN,zO,zP,zR,zS]at *);unfold at4;omega)));refine⟨⟨m+1,by omega,fun j hj=>(Nat.lt_or_ge j m).elim (hq j) fun q=>by rw [show j=m by omega];exact g⟩,by simp only [];omega,?_⟩;cbv;(repeat' (first|with_reducible refine hold ?_ ?_|with_reducible refine And.intro ?_ ?_));(all_goals first|trivial|exact qM (qE (by rfl))|exact qM (qF (by rfl))|exact qM (Fit.refl _)|exact qL (qK _)|(refine qM (qE ?_);(try simp only [qV]at *);simp only [zQ,zA,zB,zC,zD,zE,zF,zG,zH,zI,zJ,zK,zL,zM,zN,zO,zP,zR,zS]at *;omega)|(refine qL (qJ (fit_arr (fun ix h0 h1=>qE rfl) qA)))|skip))
          |skip
    refine⟨none,[],{m:Nat // m≤4∧∀j,j<m→0≤clo M (at4 j j)},fun x=>⟨[(0,.own 0 0),(50,(.int .i64 (.sym fun _=>zi x.1)))],[(0,.cells [(.arr 16 (fun ix=>(.int .i64 (.sym fun _=>(clo M) ix.den.toNat))))] 104)],500⟩,fun x=>4-x.1,?_,?_⟩
    · refine⟨⟨0,by omega,fun j hj=>by omega⟩,?_⟩
      cbv
      repeat' (first
        |with_reducible refine hold ?_ ?_
        |with_reducible refine And.intro ?_ ?_)
      all_goals first
        |trivial
        |exact qM (qE (by rfl))
        |exact qM (Fit.refl _)
        |(refine qL (qJ (fit_arr (fun ix h0 h1=>qE (fwP_end (by((try simp only [qV]at *);(try simp only [zQ,zA,zB,zC,zD,zE,zF,zG,zH,zI,zJ,zK,zL,zM,zN,zO,zP,zR,zS]at *);omega)))) qA)))
        |skip
    · rintro⟨m,hm,hq⟩
      cbv
      repeat' (first
          |with_reducible refine hold ?_ ?_
          |with_reducible refine And.intro ?_ ?_
          |(with_reducible intro hcd;(try simp only [zA,zB,zC,zD,zE,zF,zG,zH,zI,zJ,zK,zL,zM,zN,zO,zP]at hcd);try cbv)
          |fail)
      all_goals first
        |((try simp only [qV]at *);(try simp only [zQ,zA,zB,zC,zD,zE,zF,zG,zH,zI,zJ,zK,zL,zM,zN,zO,zP,zR,zS]at *);first|(refine qN ?_;omega)|(simp only [Hold];omega))
        |(subst hR;(refine qF ?_;(try simp only [qV]at *);(try simp only [zQ,zA,zB,zC,zD,zE,zF,zG,zH,zI,zJ,zK,zL,zM,zN,zO,zP,zR,zS]at *);exact okD_no (n:=m) (by assumption) (by unfold at4;omega) (by omega));done)
        |(subst hR;(refine qF ?_;(try simp only [qV]at *);(try simp only [zQ,zA,zB,zC,zD,zE,zF,zG,zH,zI,zJ,zK,zL,zM,zN,zO,zP,zR,zS]at *);exact okD_yes (n:=m) (by omega) hq);done)
        |(subst hB;(repeat' (first|exact qH|refine qI ?_ ?_|exact qK _|refine qJ ?_|exact qA|exact qE (by rfl)|exact qF (by rfl)|exact Fit.refl _|exact qG _|refine qC ?_ rfl ?_));done)
        |((try simp only [zQ,zA,zB,zC,zD,zE,zF,zG,zH,zI,zJ,zK,zL,zM,zN,zO,zP,zR,zS]at *);(have g:0≤clo M (at4 m m):=okD_at (by assumption) (by((try simp only [qV]at *);(try simp only [zQ,zA,zB,zC,zD,zE,zF,zG,zH,zI,zJ,zK,zL,zM,zN,zO,zP,zR,zS]at *);unfold at4;omega)));refine⟨⟨m+1,by omega,fun j hj=>(Nat.lt_or_ge j m).elim (hq j) fun q=>by rw [show j=m by omega];exact g⟩,by simp only [];omega,?_⟩;cbv;(repeat' (first|with_reducible refine hold ?_ ?_|with_reducible refine And.intro ?_ ?_));(all_goals first|trivial|exact qM (qE (by rfl))|exact qM (qF (by rfl))|exact qM (Fit.refl _)|exact qL (qK _)|(refine qM (qE ?_);(try simp only [qV]at *);simp only [zQ,zA,zB,zC,zD,zE,zF,zG,zH,zI,zJ,zK,zL,zM,zN,zO,zP,zR,zS]at *;omega)|(refine qL (qJ (fit_arr (fun ix h0 h1=>qE rfl) qA)))|skip))
        |skip
end Go.Proofs.Ytkdggbfknlcdaaa

namespace Go.Proofs.Ytkdggbfknlcdaaa
open Go Go.Eng Go.Proofs Go.Eng.Dif Go.Eng.Few
set_option maxRecDepth 10000
theorem kept87 (d:Dsp)(o:List Int):FSpec Try.prog 87 [(wpS d),(.sl 1 (.sym fun _=>zi (o).length) (fun ix=>[.int .i64 (.sym fun _=>(o).getD ix.den.toNat 0)]))] [] (fun r _=>r = .clo 113 [] [(.pp 0 [(wpS d)]),.pp 0 [(.sl 1 (.sym fun _=>zi (o).length) (fun ix=>[.int .i64 (.sym fun _=>(o).getD ix.den.toNat 0)]))]]):=by
  refine FSpec.is fun R hR=>qW (sc:=sc87) tyok mix Try.func87 rfl Try.call87 (by kernel_rfl) (by kernel_rfl) ?_
  generalize Try.prog=P
  cbv
  repeat' (first
      |fail)
  all_goals first
    |(subst hR;(repeat' (first|exact qA|exact qB|refine qC ?_ rfl ?_|refine qD ?_ ?_|exact qE (by rfl)|exact qF (by rfl)|exact Fit.refl _|exact qG _|(refine qE ?_;(try simp only [qV]at *);simp only [zQ,zA,zB,zC,zD,zE,zF,zG,zH,zI,zJ,zK,zL,zM,zN,zO,zP,zR,zS]at *;omega)));done)
    |skip
theorem kept113 (d:Dsp)(o:List Int)(hf:d.fs.length≤1000)(ho:o.length≤1000):ISpec Try.prog 113 [(.pp 0 [(wpS d)]),.pp 0 [(.sl 1 (.sym fun _=>zi (o).length) (fun ix=>[.int .i64 (.sym fun _=>(o).getD ix.den.toNat 0)]))]] (keptT d.fs o).length (fun n:Nat=>[(.agg [(.int .i64 (.sym fun _=>((keptT d.fs o).getD n f0T).p)),(.int .i64 (.sym fun _=>((keptT d.fs o).getD n f0T).s)),(.int .i64 (.sym fun _=>((keptT d.fs o).getD n f0T).wl)),(.int .i64 (.sym fun _=>((keptT d.fs o).getD n f0T).wh)),(.int .i64 (.sym fun _=>((keptT d.fs o).getD n f0T).ml)),(.int .i64 (.sym fun _=>((keptT d.fs o).getD n f0T).mh))])]):=by
  obtain⟨el,hel⟩:∃el:Nat→List SV,el=(fun n:Nat=>[(.agg [(.int .i64 (.sym fun _=>((keptT d.fs o).getD n f0T).p)),(.int .i64 (.sym fun _=>((keptT d.fs o).getD n f0T).s)),(.int .i64 (.sym fun _=>((keptT d.fs o).getD n f0T).wl)),(.int .i64 (.sym fun _=>((keptT d.fs o).getD n f0T).wh)),(.int .i64 (.sym fun _=>((keptT d.fs o).getD n f0T).ml)),(.int .i64 (.sym fun _=>((keptT d.fs o).getD n f0T).mh))])]):=⟨_,rfl⟩
  have hpl:∀i,plainS (.tup (el i))=true:=fun i=>by rw [hel];rfl
  have help:∀n,el n=[(.agg [(.int .i64 (.sym fun _=>((keptT d.fs o).getD n f0T).p)),(.int .i64 (.sym fun _=>((keptT d.fs o).getD n f0T).s)),(.int .i64 (.sym fun _=>((keptT d.fs o).getD n f0T).wl)),(.int .i64 (.sym fun _=>((keptT d.fs o).getD n f0T).wh)),(.int .i64 (.sym fun _=>((keptT d.fs o).getD n f0T).ml)),(.int .i64 (.sym fun _=>((keptT d.fs o).getD n f0T).mh))])]:=fun n=>by rw [hel]
  rw [←hel]
  clear hel
  have c63:=fun i:Nat=>(show FSpec Try.prog 63 [(.sl 1 (.sym fun _=>zi (o).length) (fun ix=>[.int .i64 (.sym fun _=>(o).getD ix.den.toNat 0)])),(.int .i64 (.sym fun _=>zi i))] [] (fun r _=>r=(.bool (.sym fun _=>inL o (zi i))))from contains63 o (i:Int) ho)
  obtain⟨c,hc⟩:∃c,c=outL o:=⟨_,rfl⟩
  have hcy:∀i:Nat,inL o (zi i)=false→c i=true:=fun i h=>by rw [hc,←outB_is];unfold outB;rw [show inL o (i:Int)=false from h];rfl
  have hcn:∀i:Nat,inL o (zi i)=true→c i=false:=fun i h=>by rw [hc,←outB_is];unfold outB;rw [show inL o (i:Int)=true from h];rfl
  obtain⟨L,hL⟩:∃L,L=(keptT d.fs o).length:=⟨_,rfl⟩
  rw [←hL]
  obtain⟨w,hw⟩:∃w:Nat→Nat,w=fun i=>(kpT d.fs c i).length:=⟨_,rfl⟩
  have w0:w 0=0:=by rw [hw];rfl
  have wL:w d.fs.length=L:=by rw [hw,hL,hc];rfl
  have wn:∀i:Nat,c i=false→w (i+1)=w i:=fun i h=>by rw [hw];simp only [kpT_n h]
  have wy:∀i:Nat,i<d.fs.length→c i=true→w i<L∧el (w i)=[(.agg [(.int .i64 (.sym fun _=>(d.fs.getD i f0T).p)),(.int .i64 (.sym fun _=>(d.fs.getD i f0T).s)),(.int .i64 (.sym fun _=>(d.fs.getD i f0T).wl)),(.int .i64 (.sym fun _=>(d.fs.getD i f0T).wh)),(.int .i64 (.sym fun _=>(d.fs.getD i f0T).ml)),(.int .i64 (.sym fun _=>(d.fs.getD i f0T).mh))])]∧w (i+1)=w i+1:=fun i hi h=>by
    have q:=kpT_at (fs:=d.fs) hi h
    rw [hw]
    refine⟨by rw [hL];unfold keptT;rw [←hc];exact q.1,?_,by simp only [kpT_y h,List.length_append,List.length_cons,List.length_nil]⟩
    rw [help]
    unfold keptT
    rw [←hc]
    simp only [q.2]
  clear hw hc hL help
  refine ispec_of_vc (sc:=sc113) tyok mix Try.func113 rfl Try.call113 (by kernel_rfl) (by kernel_rfl) fun y=> ?_
  generalize Try.prog=P at c63⊢
  refine⟨rfl,rfl,hpl,?_⟩
  cbv
  repeat' (first
      |fail)
  all_goals first
    |skip
  refine⟨none,[],{i:Nat // i≤d.fs.length},fun x=>.atg fun _=>w x.1,fun x=>⟨[(0,.val (Value.func (Fn.yield y) ⟨[]⟩ ⟨[]⟩)),(1,(.pp 0 [(wpS d)])),(2,.pp 0 [(.sl 1 (.sym fun _=>zi (o).length) (fun ix=>[.int .i64 (.sym fun _=>(o).getD ix.den.toNat 0)]))]),(10,(.sl 6 (.sym fun _=>zi (d.fs).length) (fun ix=>[(.int .i64 (.sym fun _=>((d.fs).getD ix.den.toNat f0T).p)),(.int .i64 (.sym fun _=>((d.fs).getD ix.den.toNat f0T).s)),(.int .i64 (.sym fun _=>((d.fs).getD ix.den.toNat f0T).wl)),(.int .i64 (.sym fun _=>((d.fs).getD ix.den.toNat f0T).wh)),(.int .i64 (.sym fun _=>((d.fs).getD ix.den.toNat f0T).ml)),(.int .i64 (.sym fun _=>((d.fs).getD ix.den.toNat f0T).mh))]))),(11,(.int .i64 (.sym fun _=>zi d.fs.length))),(12,(.int .i64 (.sym fun _=>zi x.1)))],[],90⟩,fun x=>d.fs.length-x.1,?_,?_⟩
  · refine⟨⟨0,by omega⟩,?_⟩
    cbv
    repeat' (first
      |with_reducible refine hold ?_ ?_
      |with_reducible refine And.intro ?_ ?_)
    all_goals first
      |trivial
      |exact qM (qE (by rfl))
      |exact qM (Fit.refl _)
      |(refine hold_geq ?_;exact w0.symm)
      |skip
  · rintro ⟨i,hi⟩
    cbv
    repeat' (first
        |with_reducible refine hold ?_ ?_
        |with_reducible refine And.intro ?_ ?_
        |(with_reducible intro hcd;(try simp only [zA,zB,zC,zD,zE,zF,zG,zH,zI,zJ,zK,zL,zM,zN,zO,zP]at hcd);try cbv)
        | (refine qP ?_ (c63 i) ?hfit
           case hfit=>((repeat' (first|exact qB|refine qD ?_ ?_|exact qE (by rfl)|exact qF (by rfl)|exact Fit.refl _|exact qA|refine qC ?_ rfl ?_));done)
           try cbv)
        |fail)
    all_goals first
      |trivial
      |((try simp only [qV]at *);(try simp only [zQ,zA,zB,zC,zD,zE,zF,zG,zH,zI,zJ,zK,zL,zM,zN,zO,zP,zR,zS]at *);first|(refine qN ?_;omega)|(simp only [Hold];omega))
      |((have h9:=wy i (by((try simp only [qV]at *);(try simp only [zQ,zA,zB,zC,zD,zE,zF,zG,zH,zI,zJ,zK,zL,zM,zN,zO,zP,zR,zS]at *);omega)) (hcy i (by assumption)));refine hold_yield h9.1 ?_;rw [h9.2.1];exact Fit.refl _)
      |((try simp only [zQ,zA,zB,zC,zD,zE,zF,zG,zH,zI,zJ,zK,zL,zM,zN,zO,zP,zR,zS]at *);refine⟨⟨i+1,by omega⟩,by simp only [];omega,?_⟩;cbv;(repeat' (first|with_reducible refine hold ?_ ?_|with_reducible refine And.intro ?_ ?_));(all_goals first|trivial|exact qM (qE (by rfl))|exact qM (qF (by rfl))|exact qM (Fit.refl _)|exact qL (qK _)|(refine qM (qE ?_);(try simp only [qV]at *);simp only [zQ,zA,zB,zC,zD,zE,zF,zG,zH,zI,zJ,zK,zL,zM,zN,zO,zP,zR,zS]at *;omega)|(refine hold_geq ?_;exact(wn i (hcn i (by assumption))).symm)|(refine hold_geq ?_;exact(wy i (by((try simp only [qV]at *);(try simp only [zQ,zA,zB,zC,zD,zE,zF,zG,zH,zI,zJ,zK,zL,zM,zN,zO,zP,zR,zS]at *);omega)) (hcy i (by assumption))).2.2.symm)|skip))
      |(show w i=L;rw [←wL];congr 1;((try simp only [qV]at *);(try simp only [zQ,zA,zB,zC,zD,zE,zF,zG,zH,zI,zJ,zK,zL,zM,zN,zO,zP,zR,zS]at *);omega))
      |skip
end Go.Proofs.Ytkdggbfknlcdaaa

namespace Go.Proofs.Ytkdggbfknlcdaaa
open Go Go.Eng Go.Proofs Go.Eng.Dif Go.Eng.Few
set_option maxRecDepth 10000
theorem iN_end {f i:Nat}(h:f=4)(hi:i<16):iN (f*4) i=mS 0 i:=by subst h;exact iN_all hi
theorem iN_row {f t i:Nat}(h:t=4):iN (f*4+t) i=iN ((f+1)*4) i:=by
  subst h
  rw [show f*4+4=(f+1)*4 by omega]
theorem iN_put {f t i:Nat}(h:i=f*4+t)(ht:t<4)(hd:f≠t):2000=iN (f*4+(t+1)) i:=iN_new (k:=f*4+t) h (by omega)
theorem iN_off {f t i:Nat}(h:i≠f*4+t):iN (f*4+t) i=iN (f*4+(t+1)) i:=iN_old h
theorem iN_same {f t i:Nat}(ht:t<4)(hd:f=t):iN (f*4+t) i=iN (f*4+(t+1)) i:=iN_dia (k:=f*4+t) (by omega)
theorem mS_go (s i:Nat):addB (mS s) ⟨(0:Int).toNat,(zi s+1).toNat,0,2000⟩ i=mS (s+1) i:=by rw [mS_s];rfl
theorem mS_all {d:Dsp} {s i:Nat}(h:s=SN d):mS s i=mL d 0 i:=by subst h;rfl
theorem mL_go {d:Dsp} {k:Nat}(hd:DOk d)(h:k<d.ls.length)(i:Nat):addB (mL d k) ⟨((d.ls.getD k l0T).a+1).toNat,((d.ls.getD k l0T).b+1).toNat,(d.ls.getD k l0T).lo,(d.ls.getD k l0T).hi⟩ i=mL d (k+1) i:=by
  have:=hd.l k h
  unfold linkP at this
  rw [mL_s h (by omega) (by omega)]
theorem mL_all {d:Dsp} {K:List FaT} {k i:Nat}(h:k=d.ls.length):mL d k i=mF d K 0 i:=by subst h;rfl
theorem mF_go {d:Dsp} {K:List FaT} {k:Nat}(hK:FOk d K)(h:k<K.length)(i:Nat):addB (mF d K k) ⟨(0:Int).toNat,((K.getD k f0T).s+1).toNat,mLo d (K.getD k f0T),mHi d (K.getD k f0T)⟩ i=mF d K (k+1) i:=by
  have:=hK k h
  unfold factP at this
  rw [mF_s h (by omega)]
  rfl
set_option maxHeartbeats 4000000 in
theorem apart54 (d:Dsp)(o:List Int)(hd:DOk d)(ho:o.length≤1000):FSpec Try.prog 54 [(wpS d),(.sl 1 (.sym fun _=>zi (o).length) (fun ix=>[.int .i64 (.sym fun _=>(o).getD ix.den.toNat 0)]))] [] (fun r _=>r=(.tup [(.agg [(.arr 16 (fun ix=>(.int .i64 (.sym fun _=>(clo (matO d d.fs o)) ix.den.toNat))))]),(.bool (.sym fun _=>canT d d.fs o))])):=by
  have c67:= @between67
  have c87:=kept87 d o
  have c68:= @close68
  obtain⟨K,hKd⟩:∃K,K=keptT d.fs o:=⟨_,rfl⟩
  have hK:FOk d K:=by rw [hKd];exact kept_ok hd.f o
  obtain⟨L,hL⟩:∃L,L=K.length:=⟨_,rfl⟩
  obtain⟨el,hel⟩:∃el:Nat→List SV,el=(fun n:Nat=>[(.agg [(.int .i64 (.sym fun _=>(K.getD n f0T).p)),(.int .i64 (.sym fun _=>(K.getD n f0T).s)),(.int .i64 (.sym fun _=>(K.getD n f0T).wl)),(.int .i64 (.sym fun _=>(K.getD n f0T).wh)),(.int .i64 (.sym fun _=>(K.getD n f0T).ml)),(.int .i64 (.sym fun _=>(K.getD n f0T).mh))])]):=⟨_,rfl⟩
  have cI:ISpec Try.prog 113 [(.pp 0 [(wpS d)]),.pp 0 [(.sl 1 (.sym fun _=>zi (o).length) (fun ix=>[.int .i64 (.sym fun _=>(o).getD ix.den.toNat 0)]))]] L el:=by rw [hel,hL,hKd];exact kept113 d o (by have:=hd.f6;omega) ho
  have elen:∀i,(el i).length=1∧SV.idsL (el i)=[]:=fun i=>by rw [hel];exact⟨rfl,rfl⟩
  have ei:∀i,el i=[(.agg [(.int .i64 (.sym fun _=>(K.getD i f0T).p)),(.int .i64 (.sym fun _=>(K.getD i f0T).s)),(.int .i64 (.sym fun _=>(K.getD i f0T).wl)),(.int .i64 (.sym fun _=>(K.getD i f0T).wh)),(.int .i64 (.sym fun _=>(K.getD i f0T).ml)),(.int .i64 (.sym fun _=>(K.getD i f0T).mh))])]:=fun i=>by rw [hel]
  have hbd:∀i,-2000≤mF d K L i∧mF d K L i≤2000:=fun i=>by rw [hL,mF_all];exact mat_sm hd hK i
  have hend:mF d K L=matO d d.fs o:=by rw [hL,mF_all,hKd];rfl
  have hKb:∀i,i<L→(0≤(K.getD i f0T).s∧(K.getD i f0T).s≤d.sn-1)∧0≤mLo d (K.getD i f0T)∧mLo d (K.getD i f0T)≤mHi d (K.getD i f0T)∧mHi d (K.getD i f0T)≤2000:=fun i hi=>by
    have q:=hK i (by rw [←hL];exact hi)
    have b:=mean_bd hd.t q
    unfold factP at q
    exact⟨q.2.1,b⟩
  have c45:=fun (i:Nat) (hi:i<L)=>mean45 d (K.getD i f0T) hd.t (hK i (by rw [←hL];exact hi))
  have s1:=hd.s1
  have s3:=hd.s3
  have l4:=hd.l4
  rw [show canT d d.fs o=okD (clo (matO d d.fs o))from rfl]
  clear hel hKd
  refine FSpec.is fun R hR=>qW (sc:=sc54) tyok mix Try.func54 rfl Try.call54 (by kernel_rfl) (by kernel_rfl) ?_
  generalize Try.prog=P at c67 c87 c68 c45 cI⊢
  cbv
  repeat' (first
      |fail)
  all_goals first
    |skip
  refine⟨none,[],{f:Nat // f≤4},fun x=>⟨[(1,(.sl 1 (.sym fun _=>zi (o).length) (fun ix=>[.int .i64 (.sym fun _=>(o).getD ix.den.toNat 0)]))),(2,.own 0 0),(4,.own 1 0),(12,(.int .i64 (.sym fun _=>zi x.1)))],[(0,.cells [(wpS d)] 91),(1,.cells [(.arr 16 (fun ix=>(.int .i64 (.sym fun _=>(iN (x.1*4)) ix.den.toNat))))] 104)],100⟩,fun x=>4-x.1,?_,?_⟩
  · refine⟨⟨0,by omega⟩,?_⟩
    cbv
    repeat' (first
      |with_reducible refine hold ?_ ?_
      |with_reducible refine And.intro ?_ ?_)
    all_goals first
      |trivial
      |exact qM (qE (by rfl))
      |exact qM (Fit.refl _)
      |exact qL (qK _)
      |(refine qL (qJ (fit_arr (fun ix h0 h1=>qE (iN_0 _).symm) qA)))
      |skip
  · rintro ⟨f, hf⟩
    cbv
    repeat' (first
        |with_reducible refine And.intro ?_ ?_
        |(with_reducible intro hcd;(try simp only [zA,zB,zC,zD,zE,zF,zG,zH,zI,zJ,zK,zL,zM,zN,zO,zP]at hcd);try cbv)
        |fail)
    all_goals first
      |skip
    refine⟨none,[],{t:Nat // t≤4},fun x=>⟨[(1,(.sl 1 (.sym fun _=>zi (o).length) (fun ix=>[.int .i64 (.sym fun _=>(o).getD ix.den.toNat 0)]))),(2,.own 0 0),(4,.own 1 0),(12,(.int .i64 (.sym fun _=>zi f))),(6,(.int .i64 (.sym fun _=>zi f))),(15,(.int .i64 (.sym fun _=>zi x.1)))],[(0,.cells [(wpS d)] 91),(1,.cells [(.arr 16 (fun ix=>(.int .i64 (.sym fun _=>(iN (f*4+x.1)) ix.den.toNat))))] 104)],200⟩,fun x=>4-x.1,?_,?_⟩
    · refine⟨⟨0,by omega⟩,?_⟩
      cbv
      repeat' (first
        |with_reducible refine hold ?_ ?_
        |with_reducible refine And.intro ?_ ?_)
      all_goals first
        |trivial
        |exact qM (qE (by rfl))
        |exact qM (Fit.refl _)
        |exact qL (qK _)
        |skip
    · rintro ⟨t,ht⟩
      cbv
      repeat' (first
          |with_reducible refine hold ?_ ?_
          |with_reducible refine And.intro ?_ ?_
          |(with_reducible intro hcd;(try simp only [zA,zB,zC,zD,zE,zF,zG,zH,zI,zJ,zK,zL,zM,zN,zO,zP]at hcd);try cbv)
          | (refine⟨fun ix=>(.int .i64 (.sym fun _=>iN (f*4+(t+1)) ix.den.toNat)),?_⟩
             cbv
             refine hold (hold_arrupd (by intro jx h0 h1 h2;refine qE ?_;(try simp only [qV]at *);(try simp only [zQ,zA,zB,zC,zD,zE,zF,zG,zH,zI,zJ,zK,zL,zM,zN,zO,zP,zR,zS]at *);exact iN_put (by omega) (by omega) (by omega)) (by intro jx h0 h1 h2;refine qE ?_;(try simp only [qV]at *);(try simp only [zQ,zA,zB,zC,zD,zE,zF,zG,zH,zI,zJ,zK,zL,zM,zN,zO,zP,zR,zS]at *);exact iN_off (by omega))) ?_
             try cbv)
          |fail)
      all_goals first
        |((try simp only [qV]at *);(try simp only [zQ,zA,zB,zC,zD,zE,zF,zG,zH,zI,zJ,zK,zL,zM,zN,zO,zP,zR,zS]at *);first|(refine qN ?_;omega)|(simp only [Hold];omega))
        |((try simp only [zQ,zA,zB,zC,zD,zE,zF,zG,zH,zI,zJ,zK,zL,zM,zN,zO,zP,zR,zS]at *);refine⟨⟨t+1,by omega⟩,by simp only [];omega,?_⟩;cbv;(repeat' (first|with_reducible refine hold ?_ ?_|with_reducible refine And.intro ?_ ?_));(all_goals first|trivial|exact qM (qE (by rfl))|exact qM (qF (by rfl))|exact qM (Fit.refl _)|exact qL (qK _)|(refine qM (qE ?_);(try simp only [qV]at *);simp only [zQ,zA,zB,zC,zD,zE,zF,zG,zH,zI,zJ,zK,zL,zM,zN,zO,zP,zR,zS]at *;omega)|(refine qL (qJ ?_);(repeat' (first|exact qA|exact qB|refine qC ?_ rfl ?_|refine qD ?_ ?_|exact qE (by rfl)|exact qF (by rfl)|exact Fit.refl _|exact qG _|(refine qE ?_;(try simp only [qV]at *);simp only [zQ,zA,zB,zC,zD,zE,zF,zG,zH,zI,zJ,zK,zL,zM,zN,zO,zP,zR,zS]at *;omega)));done)|(refine qL (qJ (fit_arr (fun ix h0 h1=>qE rfl) qA)))|(refine qL (qJ (fit_arr (fun ix h0 h1=>qE (iN_same (by((try simp only [qV]at *);(try simp only [zQ,zA,zB,zC,zD,zE,zF,zG,zH,zI,zJ,zK,zL,zM,zN,zO,zP,zR,zS]at *);omega)) (by((try simp only [qV]at *);(try simp only [zQ,zA,zB,zC,zD,zE,zF,zG,zH,zI,zJ,zK,zL,zM,zN,zO,zP,zR,zS]at *);omega)))) qA)))|skip))
        |((try simp only [zQ,zA,zB,zC,zD,zE,zF,zG,zH,zI,zJ,zK,zL,zM,zN,zO,zP,zR,zS]at *);refine⟨⟨f+1,by omega⟩,by simp only [];omega,?_⟩;cbv;(repeat' (first|with_reducible refine hold ?_ ?_|with_reducible refine And.intro ?_ ?_));(all_goals first|trivial|exact qM (qE (by rfl))|exact qM (qF (by rfl))|exact qM (Fit.refl _)|exact qL (qK _)|(refine qM (qE ?_);(try simp only [qV]at *);simp only [zQ,zA,zB,zC,zD,zE,zF,zG,zH,zI,zJ,zK,zL,zM,zN,zO,zP,zR,zS]at *;omega)|(refine qL (qJ ?_);(repeat' (first|exact qA|exact qB|refine qC ?_ rfl ?_|refine qD ?_ ?_|exact qE (by rfl)|exact qF (by rfl)|exact Fit.refl _|exact qG _|(refine qE ?_;(try simp only [qV]at *);simp only [zQ,zA,zB,zC,zD,zE,zF,zG,zH,zI,zJ,zK,zL,zM,zN,zO,zP,zR,zS]at *;omega)));done)|(refine qL (qJ (fit_arr (fun ix h0 h1=>qE (iN_row (by((try simp only [qV]at *);(try simp only [zQ,zA,zB,zC,zD,zE,zF,zG,zH,zI,zJ,zK,zL,zM,zN,zO,zP,zR,zS]at *);omega)))) qA)))|skip))
        |skip
    refine⟨none,[],{s:Nat // s≤d.sn.toNat},fun x=>⟨[(1,(.sl 1 (.sym fun _=>zi (o).length) (fun ix=>[.int .i64 (.sym fun _=>(o).getD ix.den.toNat 0)]))),(2,.own 0 0),(4,.own 1 0),(31,(.int .i64 (.sym fun _=>d.sn))),(32,(.int .i64 (.sym fun _=>zi x.1)))],[(0,.cells [(wpS d)] 91),(1,.cells [(.arr 16 (fun ix=>(.int .i64 (.sym fun _=>(mS x.1) ix.den.toNat))))] 104)],300⟩,fun x=>d.sn.toNat-x.1,?_,?_⟩
    · refine⟨⟨0,by omega⟩,?_⟩
      cbv
      repeat' (first
        |with_reducible refine hold ?_ ?_
        |with_reducible refine And.intro ?_ ?_)
      all_goals first
        |trivial
        |exact qM (qE (by rfl))
        |exact qM (Fit.refl _)
        |exact qL (qK _)
        |(refine qL (qJ (fit_arr (fun ix h0 h1=>qE (iN_end (by((try simp only [qV]at *);(try simp only [zQ,zA,zB,zC,zD,zE,zF,zG,zH,zI,zJ,zK,zL,zM,zN,zO,zP,zR,zS]at *);omega)) (by omega))) qA)))
        |skip
    · rintro ⟨s, hs⟩
      cbv
      repeat' (first
          |with_reducible refine hold ?_ ?_
          |with_reducible refine And.intro ?_ ?_
          |(with_reducible intro hcd;(try simp only [zA,zB,zC,zD,zE,zF,zG,zH,zI,zJ,zK,zL,zM,zN,zO,zP]at hcd);try cbv)
          | (refine⟨some [1],?_⟩
             cbv
             refine qQ ?_ (c67 (mS s) 0 (zi s+1) 0 2000 (by omega) ⟨(by((try simp only [qV]at *);(try simp only [zQ,zA,zB,zC,zD,zE,zF,zG,zH,zI,zJ,zK,zL,zM,zN,zO,zP,zR,zS]at *);omega)),(by((try simp only [qV]at *);(try simp only [zQ,zA,zB,zC,zD,zE,zF,zG,zH,zI,zJ,zK,zL,zM,zN,zO,zP,zR,zS]at *);omega))⟩ (by omega)) ?hfit ?hbo
             case hfit=>(cbv;(repeat' (first|exact qB|refine qD ?_ ?_|exact qE (by rfl)|exact qF (by rfl)|exact Fit.refl _|exact qA|refine qC ?_ rfl ?_));done)
             case hbo=>(cbv;(repeat' (first|exact qH|refine qI ?_ ?_|exact qK _|refine qJ ?_|exact qA|exact qE (by rfl)|exact qF (by rfl)|exact Fit.refl _|exact qG _|refine qC ?_ rfl ?_));done)
             try cbv)
          |fail)
      all_goals first
        |((try simp only [qV]at *);(try simp only [zQ,zA,zB,zC,zD,zE,zF,zG,zH,zI,zJ,zK,zL,zM,zN,zO,zP,zR,zS]at *);first|(refine qN ?_;omega)|(simp only [Hold];omega))
        |((try simp only [zQ,zA,zB,zC,zD,zE,zF,zG,zH,zI,zJ,zK,zL,zM,zN,zO,zP,zR,zS]at *);refine⟨⟨s+1,by((try simp only [qV]at *);(try simp only [zQ,zA,zB,zC,zD,zE,zF,zG,zH,zI,zJ,zK,zL,zM,zN,zO,zP,zR,zS]at *);omega)⟩,by simp only [];omega,?_⟩;cbv;(repeat' (first|with_reducible refine hold ?_ ?_|with_reducible refine And.intro ?_ ?_));(all_goals first|trivial|exact qM (qE (by rfl))|exact qM (qF (by rfl))|exact qM (Fit.refl _)|exact qL (qK _)|(refine qM (qE ?_);(try simp only [qV]at *);simp only [zQ,zA,zB,zC,zD,zE,zF,zG,zH,zI,zJ,zK,zL,zM,zN,zO,zP,zR,zS]at *;omega)|(refine qL (qJ ?_);(repeat' (first|exact qA|exact qB|refine qC ?_ rfl ?_|refine qD ?_ ?_|exact qE (by rfl)|exact qF (by rfl)|exact Fit.refl _|exact qG _|(refine qE ?_;(try simp only [qV]at *);simp only [zQ,zA,zB,zC,zD,zE,zF,zG,zH,zI,zJ,zK,zL,zM,zN,zO,zP,zR,zS]at *;omega)));done)|(refine qL (qJ (fit_arr (fun ix h0 h1=>qE (mS_go s _)) qA)))|skip))
        |skip
      refine⟨none,[],{k:Nat // k≤d.ls.length},fun x=>⟨[(1,(.sl 1 (.sym fun _=>zi (o).length) (fun ix=>[.int .i64 (.sym fun _=>(o).getD ix.den.toNat 0)]))),(2,.own 0 0),(4,.own 1 0),(44,(.sl 4 (.sym fun _=>zi (d.ls).length) (fun ix=>[(.int .i64 (.sym fun _=>((d.ls).getD ix.den.toNat l0T).a)),(.int .i64 (.sym fun _=>((d.ls).getD ix.den.toNat l0T).b)),(.int .i64 (.sym fun _=>((d.ls).getD ix.den.toNat l0T).lo)),(.int .i64 (.sym fun _=>((d.ls).getD ix.den.toNat l0T).hi))]))),(45,(.int .i64 (.sym fun _=>zi d.ls.length))),(46,(.int .i64 (.sym fun _=>zi x.1)))],[(0,.cells [(wpS d)] 91),(1,.cells [(.arr 16 (fun ix=>(.int .i64 (.sym fun _=>(mL d x.1) ix.den.toNat))))] 104)],400⟩,fun x=>d.ls.length-x.1,?_,?_⟩
      · refine⟨⟨0,by omega⟩,?_⟩
        cbv
        repeat' (first
          |with_reducible refine hold ?_ ?_
          |with_reducible refine And.intro ?_ ?_)
        all_goals first
          |trivial
          |exact qM (qE (by rfl))
          |exact qM (Fit.refl _)
          |exact qL (qK _)
          |(refine qL (qJ (fit_arr (fun ix h0 h1=>qE (mS_all (by unfold SN;(try simp only [qV]at *);(try simp only [zQ,zA,zB,zC,zD,zE,zF,zG,zH,zI,zJ,zK,zL,zM,zN,zO,zP,zR,zS]at *);omega))) qA)))
          |skip
      · rintro ⟨k,hk⟩
        cbv
        have hlk:k<d.ls.length→linkP d.sn (d.ls.getD k l0T):=hd.l k
        unfold linkP at hlk
        repeat' (first
            |with_reducible refine hold ?_ ?_
            |with_reducible refine And.intro ?_ ?_
            |(with_reducible intro hcd;(try simp only [zA,zB,zC,zD,zE,zF,zG,zH,zI,zJ,zK,zL,zM,zN,zO,zP]at hcd);try cbv)
            | ((have hk9:=hlk (by((try simp only [qV]at *);(try simp only [zQ,zA,zB,zC,zD,zE,zF,zG,zH,zI,zJ,zK,zL,zM,zN,zO,zP,zR,zS]at *);omega)))
               refine⟨some [1],?_⟩
               cbv
               refine qQ ?_ (c67 (mL d k) ((d.ls.getD k l0T).a+1) ((d.ls.getD k l0T).b+1) (d.ls.getD k l0T).lo (d.ls.getD k l0T).hi ⟨by omega,by omega⟩ ⟨by omega,by omega⟩ (by omega)) ?hfit ?hbo
               case hfit=>(cbv;(repeat' (first|exact qB|refine qD ?_ ?_|exact qE (by rfl)|exact qF (by rfl)|exact Fit.refl _|exact qA|refine qC ?_ rfl ?_));done)
               case hbo=>(cbv;(repeat' (first|exact qH|refine qI ?_ ?_|exact qK _|refine qJ ?_|exact qA|exact qE (by rfl)|exact qF (by rfl)|exact Fit.refl _|exact qG _|refine qC ?_ rfl ?_));done)
               try cbv)
            | (refine qP ?_ (c87) ?hfit
               case hfit=>((repeat' (first|exact qB|refine qD ?_ ?_|exact qE (by rfl)|exact qF (by rfl)|exact Fit.refl _|exact qA|refine qC ?_ rfl ?_));done)
               try cbv)
            |fail)
        all_goals first
          |((try simp only [qV]at *);(try simp only [zQ,zA,zB,zC,zD,zE,zF,zG,zH,zI,zJ,zK,zL,zM,zN,zO,zP,zR,zS]at *);first|(refine qN ?_;omega)|(simp only [Hold];omega))
          |((try simp only [zQ,zA,zB,zC,zD,zE,zF,zG,zH,zI,zJ,zK,zL,zM,zN,zO,zP,zR,zS]at *);refine⟨⟨k+1,by((try simp only [qV]at *);(try simp only [zQ,zA,zB,zC,zD,zE,zF,zG,zH,zI,zJ,zK,zL,zM,zN,zO,zP,zR,zS]at *);omega)⟩,by simp only [];omega,?_⟩;cbv;(repeat' (first|with_reducible refine hold ?_ ?_|with_reducible refine And.intro ?_ ?_));(all_goals first|trivial|exact qM (qE (by rfl))|exact qM (qF (by rfl))|exact qM (Fit.refl _)|exact qL (qK _)|(refine qM (qE ?_);(try simp only [qV]at *);simp only [zQ,zA,zB,zC,zD,zE,zF,zG,zH,zI,zJ,zK,zL,zM,zN,zO,zP,zR,zS]at *;omega)|(refine qL (qJ ?_);(repeat' (first|exact qA|exact qB|refine qC ?_ rfl ?_|refine qD ?_ ?_|exact qE (by rfl)|exact qF (by rfl)|exact Fit.refl _|exact qG _|(refine qE ?_;(try simp only [qV]at *);simp only [zQ,zA,zB,zC,zD,zE,zF,zG,zH,zI,zJ,zK,zL,zM,zN,zO,zP,zR,zS]at *;omega)));done)|(refine qL (qJ (fit_arr (fun ix h0 h1=>qE (mL_go hd (by((try simp only [qV]at *);(try simp only [zQ,zA,zB,zC,zD,zE,zF,zG,zH,zI,zJ,zK,zL,zM,zN,zO,zP,zR,zS]at *);omega)) _)) qA)))|skip))
          |skip
        refine⟨[],L,el,fun _=>Unit,fun i _=>([(0,.cells [(wpS d)] 91),(1,.cells [(.arr 16 (fun ix=>(.int .i64 (.sym fun _=>(mF d K i) ix.den.toNat))))] 104)],500),?_⟩
        cbv
        refine⟨fun _=>⟨cI,elen⟩,⟨(),?_⟩,?_,?_⟩
        · cbv
          repeat' (first
            |with_reducible refine hold ?_ ?_
            |with_reducible refine And.intro ?_ ?_)
          all_goals first
            |trivial
            |exact qL (qK _)
            |(refine qL (qJ (fit_arr (fun ix h0 h1=>qE (mL_all (by((try simp only [qV]at *);(try simp only [zQ,zA,zB,zC,zD,zE,zF,zG,zH,zI,zJ,zK,zL,zM,zN,zO,zP,zR,zS]at *);omega)))) qA)))
            |skip
        · intro i _ hil
          have hil':i<L:=hil
          simp only [ei]
          cbv
          repeat' (first
              |with_reducible refine hold ?_ ?_
              | (refine qP ?_ (c45 i hil) ?hfit
                 case hfit=>((repeat' (first|exact qB|refine qD ?_ ?_|exact qE (by rfl)|exact qF (by rfl)|exact Fit.refl _|exact qA|refine qC ?_ rfl ?_));done)
                 try cbv)
              | ((have hk9:=hKb i hil)
                 refine⟨some [1],?_⟩
                 cbv
                 refine qQ ?_ (c67 (mF d K i) 0 ((K.getD i f0T).s+1) (mLo d (K.getD i f0T)) (mHi d (K.getD i f0T)) (by omega) ⟨by omega,by omega⟩ (by omega)) ?hfit ?hbo
                 case hfit=>(cbv;(repeat' (first|exact qB|refine qD ?_ ?_|exact qE (by rfl)|exact qF (by rfl)|exact Fit.refl _|exact qA|refine qC ?_ rfl ?_));done)
                 case hbo=>(cbv;(repeat' (first|exact qH|refine qI ?_ ?_|exact qK _|refine qJ ?_|exact qA|exact qE (by rfl)|exact qF (by rfl)|exact Fit.refl _|exact qG _|refine qC ?_ rfl ?_));done)
                 try cbv)
              |fail)
          all_goals first
            |((have hk9:=hKb i hil);(try simp only [qV]at *);(try simp only [zQ,zA,zB,zC,zD,zE,zF,zG,zH,zI,zJ,zK,zL,zM,zN,zO,zP,zR,zS]at *);simp only [Hold];first|omega|exact⟨by omega,by omega⟩)
            |(refine⟨(),?_⟩;cbv;(repeat' (first|with_reducible refine hold ?_ ?_|with_reducible refine And.intro ?_ ?_));(all_goals first|trivial|exact qM (qE (by rfl))|exact qM (qF (by rfl))|exact qM (Fit.refl _)|exact qL (qK _)|(refine qM (qE ?_);(try simp only [qV]at *);simp only [zQ,zA,zB,zC,zD,zE,zF,zG,zH,zI,zJ,zK,zL,zM,zN,zO,zP,zR,zS]at *;omega)|(refine qL (qJ ?_);(repeat' (first|exact qA|exact qB|refine qC ?_ rfl ?_|refine qD ?_ ?_|exact qE (by rfl)|exact qF (by rfl)|exact Fit.refl _|exact qG _|(refine qE ?_;(try simp only [qV]at *);simp only [zQ,zA,zB,zC,zD,zE,zF,zG,zH,zI,zJ,zK,zL,zM,zN,zO,zP,zR,zS]at *;omega)));done)|(refine qL (qJ (fit_arr (fun ix h0 h1=>qE (mF_go hK (by rw [←hL];exact hil) _)) qA)))|skip))
            |skip
        · intro _
          cbv
          repeat' (first
              | (refine⟨some [1],?_⟩
                 cbv
                 refine qQ ?_ (c68 (mF d K L) (fun i _=>(hbd i).1) (fun i _=>(hbd i).2)) ?hfit ?hbo
                 case hfit=>(cbv;(repeat' (first|exact qB|refine qD ?_ ?_|exact qE (by rfl)|exact qF (by rfl)|exact Fit.refl _|exact qA|refine qC ?_ rfl ?_));done)
                 case hbo=>(cbv;(repeat' (first|exact qH|refine qI ?_ ?_|exact qK _|refine qJ ?_|exact qA|exact qE (by rfl)|exact qF (by rfl)|exact Fit.refl _|exact qG _|refine qC ?_ rfl ?_));done)
                 try cbv)
              |fail)
          all_goals first
            |(subst hR;(rw [hend];exact Fit.refl _);done)
            |skip
end Go.Proofs.Ytkdggbfknlcdaaa

namespace Go.Proofs.Ytkdggbfknlcdaaa
open Go.Eng.Dif
theorem kept_nil (fs:List FaT):keptT fs []=fs:=by
  have h:∀n,n≤fs.length→kpT fs (outL []) n=fs.take n:=by
    intro n
    induction n with
    |zero=>intro _;rfl
    | succ n ih=>
      intro hn
      rw [kpT_y (show outL [] n=true from rfl),ih (by omega),take_one (by omega),List.getD_eq_getElem?_getD,List.getElem?_eq_getElem (by omega)]
      rfl
  unfold keptT
  rw [h _ (Nat.le_refl _),List.take_of_length_le (Nat.le_refl _)]
theorem clo_bd {d:Dsp}(h:DOk d) {o:List Int}(hc:canT d d.fs o=true) {i:Nat}(hi:i<16): -2000≤clo (matO d d.fs o) i∧clo (matO d d.fs o) i≤2000:=by
  have hk:=kept_ok h.f o
  exact⟨clo_small (okk h hk) hc hi,Int.le_trans (clo_le _ _) (mat_sm h hk i).2⟩
def meanE (d:Dsp)(n:Int):Int:=if faultD d=0 then(if inB 0 n ((d.fs.length:Int)-1)=true then 0 else 2)else faultD d
def meanL (d:Dsp)(n:Int):Int:=if meanE d n=0 then mLo d (d.fs.getD n.toNat f0T)else 0
def meanH (d:Dsp)(n:Int):Int:=if meanE d n=0 then mHi d (d.fs.getD n.toNat f0T)else 0
theorem meanE_bad {d:Dsp} {n:Int}(h:¬faultD d=0):meanE d n=faultD d∧meanL d n=0∧meanH d n=0:=by
  have e:meanE d n=faultD d:=by unfold meanE;rw [if_neg h]
  exact⟨e,by unfold meanL;rw [e,if_neg h],by unfold meanH;rw [e,if_neg h]⟩
theorem meanE_no {d:Dsp} {n:Int}(h:faultD d=0)(hn:¬(0≤n∧n≤(d.fs.length:Int)-1)):meanE d n=2∧meanL d n=0∧meanH d n=0:=by
  have e:meanE d n=2:=by unfold meanE;rw [if_pos h,if_neg (by rw [inB_t];exact hn)]
  exact⟨e,by unfold meanL;rw [e];rfl,by unfold meanH;rw [e];rfl⟩
theorem meanE_yes {d:Dsp} {n:Int}(h:faultD d=0)(hn:0≤n∧n≤(d.fs.length:Int)-1):meanE d n=0∧meanL d n=mLo d (d.fs.getD n.toNat f0T)∧meanH d n=mHi d (d.fs.getD n.toNat f0T):=by
  have e:meanE d n=0:=by unfold meanE;rw [if_pos h,if_pos (by rw [inB_t];exact hn)]
  exact⟨e,by unfold meanL;rw [e];rfl,by unfold meanH;rw [e];rfl⟩
def bndE (d:Dsp):Int:=if faultD d=0 then(if canT d d.fs []=true then 0 else 11)else faultD d
def bndN (d:Dsp):Int:=if bndE d=0 then d.sn else 0
def loT (d:Dsp)(o:List Int)(s:Nat):Int:= -clo (matO d d.fs o) (at4 (s+1) 0)
def hiT (d:Dsp)(o:List Int)(s:Nat):Int:=clo (matO d d.fs o) (at4 0 (s+1))
theorem bndE_bad {d:Dsp}(h:¬faultD d=0):bndE d=faultD d∧bndN d=0:=by
  have e:bndE d=faultD d:=by unfold bndE;rw [if_neg h]
  exact⟨e,by unfold bndN;rw [e,if_neg h]⟩
theorem bndE_no {d:Dsp}(h:faultD d=0)(hc:canT d d.fs []=false):bndE d=11∧bndN d=0:=by
  have e:bndE d=11:=by unfold bndE;rw [if_pos h,if_neg (by rw [hc];simp)]
  exact⟨e,by unfold bndN;rw [e];rfl⟩
theorem bndE_yes {d:Dsp}(h:faultD d=0)(hc:canT d d.fs []=true):bndE d=0∧bndN d=d.sn:=by
  have e:bndE d=0:=by unfold bndE;rw [if_pos h,if_pos hc]
  exact⟨e,by unfold bndN;rw [e];rfl⟩
theorem bndE_ok {d:Dsp}(h:bndE d=0):faultD d=0∧canT d d.fs []=true:=by
  by_cases hF:faultD d=0
  · refine⟨hF,?_⟩
    cases hC:canT d d.fs []with
    |true=>rfl
    |false=>rw [(bndE_no hF hC).1]at h;omega
  · rw [(bndE_bad hF).1]at h;exact absurd h hF
theorem bndE_ne {d:Dsp}(h:¬bndE d=0):bndN d=0:=by unfold bndN;rw [if_neg h]
end Go.Proofs.Ytkdggbfknlcdaaa

namespace Go.Proofs.Ytkdggbfknlcdaaa
open Go Go.Eng Go.Proofs Go.Eng.Dif Go.Eng.Few
set_option maxRecDepth 10000
theorem mean13 (d:Dsp)(n:Int)(hl:d.fs.length≤1000):FSpec Try.prog 13 [(dspS d),(.int .i64 (.sym fun _=>n))] [] (fun r _=>r=(.tup [(.agg [(.int .i64 (.sym fun _=>meanL d n)),(.int .i64 (.sym fun _=>meanH d n))]),(.int .i64 (.sym fun _=>meanE d n))])):=by
  have c16:=check16 d
  have c43:= @within43
  have c44:=work44 d
  have c45:=fun (i:Nat) (h:faultD d=0∧i<d.fs.length)=>mean45 d (d.fs.getD i f0T) (faultD_iff.1 h.1).t ((faultD_iff.1 h.1).f i h.2)
  refine FSpec.is fun R hR=>qW (sc:=sc13) tyok mix Try.func13 rfl Try.call13 (by kernel_rfl) (by kernel_rfl) ?_
  generalize Try.prog=P at c16 c43 c44 c45⊢
  cbv
  repeat' (first
      |with_reducible refine hold ?_ ?_
      |with_reducible refine And.intro ?_ ?_
      |(with_reducible intro hcd;(try simp only [zA,zB,zC,zD,zE,zF,zG,zH,zI,zJ,zK,zL,zM,zN,zO,zP]at hcd);try cbv)
      | (refine qP ?_ (c16) ?hfit
         case hfit=>((repeat' (first|exact qB|refine qD ?_ ?_|exact qE (by rfl)|exact qF (by rfl)|exact Fit.refl _|exact qA|refine qC ?_ rfl ?_));done)
         try cbv)
      | (refine qP ?_ (c43 _ _ _) (by(repeat' (first|exact qB|refine qD ?_ ?_|exact qE (by rfl)|exact qF (by rfl)|exact Fit.refl _|exact qA|refine qC ?_ rfl ?_)))
         try cbv)
      | (refine qP ?_ (c44) ?hfit
         case hfit=>((repeat' (first|exact qB|refine qD ?_ ?_|exact qE (by rfl)|exact qF (by rfl)|exact Fit.refl _|exact qA|refine qC ?_ rfl ?_));done)
         try cbv)
      | ((have hn9:0≤n∧n≤(d.fs.length:Int)-1:=(by((try simp only [qV]at *);(try simp only [zQ,zA,zB,zC,zD,zE,zF,zG,zH,zI,zJ,zK,zL,zM,zN,zO,zP,zR,zS]at *);(try simp only [allB_t,allB_f,inB_t,inB_f,ofB_t,ofB_f,linkB_t,linkB_f,factB_t,factB_f]at *);omega)))
         refine qP ?_ (c45 n.toNat ⟨by first|assumption|omega,by omega⟩) ?hfit
         case hfit=>((repeat' (first|exact qB|refine qD ?_ ?_|exact qE (by rfl)|exact qF (by rfl)|exact Fit.refl _|exact qA|refine qC ?_ rfl ?_));done)
         try cbv)
      |fail)
  all_goals first
    |((try simp only [qV]at *);(try simp only [zQ,zA,zB,zC,zD,zE,zF,zG,zH,zI,zJ,zK,zL,zM,zN,zO,zP,zR,zS,allB_t,allB_f,inB_t,inB_f,ofB_t,ofB_f,linkB_t,linkB_f,factB_t,factB_f]at *);first|(refine qN ?_;omega)|(simp only [Hold];omega))
    |(subst hR;(refine qD (qC (qE ?_) rfl (qC (qE ?_) rfl qA)) (qD (qE ?_) qB)<;>((try simp only [qV]at *);(try simp only [zQ,zA,zB,zC,zD,zE,zF,zG,zH,zI,zJ,zK,zL,zM,zN,zO,zP,zR,zS]at *);(try simp only [allB_t,allB_f,inB_t,inB_f,ofB_t,ofB_f,linkB_t,linkB_f,factB_t,factB_f]at *);(have h0:=meanE_bad (d:=d) (n:=n) (by first|assumption|omega));first|exact h0.2.1.symm|exact h0.2.2.symm|exact h0.1.symm));done)
    |(subst hR;(refine qD (qC (qE ?_) rfl (qC (qE ?_) rfl qA)) (qD (qE ?_) qB)<;>((try simp only [qV]at *);(try simp only [zQ,zA,zB,zC,zD,zE,zF,zG,zH,zI,zJ,zK,zL,zM,zN,zO,zP,zR,zS]at *);(try simp only [allB_t,allB_f,inB_t,inB_f,ofB_t,ofB_f,linkB_t,linkB_f,factB_t,factB_f]at *);(have h0:=meanE_no (d:=d) (n:=n) (by first|assumption|omega) (by first|assumption|omega));first|exact h0.2.1.symm|exact h0.2.2.symm|exact h0.1.symm));done)
    |(subst hR;(refine qD (qC (qE ?_) rfl (qC (qE ?_) rfl qA)) (qD (qE ?_) qB)<;>((try simp only [qV]at *);(try simp only [zQ,zA,zB,zC,zD,zE,zF,zG,zH,zI,zJ,zK,zL,zM,zN,zO,zP,zR,zS]at *);(try simp only [allB_t,allB_f,inB_t,inB_f,ofB_t,ofB_f,linkB_t,linkB_f,factB_t,factB_f]at *);(have h0:=meanE_yes (d:=d) (n:=n) (by first|assumption|omega) (by omega));first|exact h0.2.1.symm|exact h0.2.2.symm|exact h0.1.symm));done)
    |skip
end Go.Proofs.Ytkdggbfknlcdaaa
