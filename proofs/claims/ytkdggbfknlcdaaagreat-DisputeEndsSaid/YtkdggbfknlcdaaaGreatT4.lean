/- Contracts of the functions that the laws come to. No condition. -/
import Derived.Test.YtkdggbfknlcdaaaGreatE3
import Derived.Test.YtkdggbfknlcdaaaGreatProg
set_option linter.unusedVariables false
set_option linter.unusedSimpArgs false
set_option linter.deprecated false

namespace Go.Eng.Few
open Go Go.Eng
def uby (f:Nat→Option (List Int)):Nat→Nat→Option (List Int)
 |0,_=>none
 | k+1,i=>match f i with
  |some r=>some r
  |none=>uby f k (i+1)
theorem ugo {f:Nat→Option (List Int)} {k i:Nat} {r:List Int}(hk:0<k)(h:f i=some r):uby f k i=some r:=by
 cases k with
 |zero=>omega
 |succ k=>simp only [uby,h]
theorem unu {f:Nat→Option (List Int)} {k i:Nat}(hk:0<k)(h:f i=none):uby f k i=uby f (k-1) (i+1):=by
 cases k with
 |zero=>omega
 |succ k=>simp only [uby,h,Nat.add_sub_cancel]
def ubc (n:Nat)(ok:List Int→Bool):Nat→List Int→Nat→Option (List Int)
 |0,l,_=>if ok l=true then some l else none
 |m+1,l,i=>uby (fun j=>ubc n ok m (l++[(j:Int)]) (j+1)) (n-m-i) i
def ub0 :Nat→List Int
 |0=>[]
 |n+1=>ub0 n++[(n:Int)]
theorem ukV {n:Nat} {ok:List Int→Bool}(h:ok (ub0 n)=true):∀m,m≤n→ubc n ok m (ub0 (n-m)) (n-m)=some (ub0 n):=by
 intro m
 induction m with
 |zero=>intro _;simp only [ubc,Nat.sub_zero,h,if_true]
 | succ m ih=>
  intro hm
  have:=ih (by omega)
  simp only [ubc]
  rw [show n-m-(n-(m+1))=1 by omega]
  refine ugo (by omega) ?_
  rw [show n-(m+1)+1=n-m by omega]
  rw [show n-m=n-(m+1)+1 by omega]at this⊢
  exact this
theorem ujA {f:Nat→Option (List Int)} {j:Nat} {r:List Int}(h:f j=some r):∀k i,i≤j→j<i+k→∃r',uby f k i=some r':=by
 intro k
 induction k with
 |zero=>intro i h1 h2;omega
 | succ k ih=>
  intro i h1 h2
  cases hf:f i with
  |some r'=>exact⟨r',ugo (by omega) hf⟩
  | none=>
   rw [unu (by omega) hf,Nat.add_sub_cancel]
   by_cases e:i=j
   ·rw [e,h]at hf;cases hf
   ·exact ih (i+1) (by omega) (by omega)
theorem umt {n i:Nat}(h:i<n):(i:Int)∈ub0 n:=by
 induction n with
 |zero=>omega
 | succ n ih=>
  simp only [ub0,List.mem_append,List.mem_singleton]
  by_cases e:i=n
  ·exact Or.inr (by rw [e])
  ·exact Or.inl (ih (by omega))
theorem usE {L l:List Int} {x:Int}(h:L=l++[x]):zi l.length+1=zi L.length:=by
 subst h
 simp only [uah,List.length_append,List.length_cons,List.length_nil]
 omega
theorem ujM {f:Nat→Option (List Int)}:∀{k i:Nat},uby f k i=none→∀j,i≤j→j<i+k→f j=none:=by
 intro k
 induction k with
 |zero=>intro i _ j h1 h2;omega
 | succ k ih=>
  intro i h j h1 h2
  simp only [uby]at h
  split at h
  ·cases h
  ·rename_i hf
   by_cases e:j=i
   ·rw [e];exact hf
   ·exact ih h j (by omega) (by omega)
theorem uhP {f:Nat→Option (List Int)} {r:List Int}:∀{k i:Nat},uby f k i=some r→∃j,i≤j∧j<i+k∧f j=some r∧∀j',i≤j'→j'<j→f j'=none:=by
 intro k
 induction k with
 |zero=>intro i h;cases h
 | succ k ih=>
  intro i h
  simp only [uby]at h
  split at h
  ·rename_i r' hf
   cases h
   exact⟨i,Nat.le_refl _,by omega,hf,fun j' h1 h2=>by omega⟩
  ·rename_i hf
   obtain⟨j,h1,h2,h3,h4⟩:=ih h
   refine⟨j,by omega,by omega,h3,fun j' a b=> ?_⟩
   by_cases e:j'=i
   ·rw [e];exact hf
   ·exact h4 j' (by omega) b
def Asc (n:Nat):Nat→List Int→Prop
 |_,[]=>True
 |i,x::t=>∃j:Nat,x=(j:Int)∧i≤j∧j<n∧Asc n (j+1) t
def urc :List Int→List Int→Prop
 |x::s,y::t=>x<y∨(x=y∧urc s t)
 |_,_=>False
theorem uiJ {n:Nat}:∀{s:List Int} {i:Nat},Asc n i s→s=[]∨i+s.length≤n:=by
 intro s
 induction s with
 |nil=>intro i _;exact .inl rfl
 | cons x t ih=>
  rintro i ⟨j,_,h1,h2,h3⟩
  right
  rcases ih h3 with e|e
  ·subst e;simp only [List.length_cons,List.length_nil];omega
  ·simp only [List.length_cons];omega
theorem ueC {n:Nat} {ok:List Int→Bool}:∀{m:Nat} {l:List Int} {i:Nat},ubc n ok m l i=none→∀s,Asc n i s→s.length=m→ok (l++s)=false:=by
 intro m
 induction m with
 | zero=>
  intro l i h s hs hl
  rw [List.length_eq_zero_iff.1 hl,List.append_nil]
  simp only [ubc]at h
  split at h
  ·cases h
  ·rename_i q;simpa using q
 | succ m ih=>
  intro l i h s hs hl
  cases s with
  |nil=>cases hl
  | cons x t=>
   obtain⟨j,rfl,h1,h2,h3⟩:=hs
   simp only [List.length_cons]at hl
   simp only [ubc]at h
   have hj:j<i+(n-m-i):=by
    rcases uiJ h3 with e|e
    ·rw [e]at hl;simp at hl;omega
    ·omega
   have:=ih (ujM h j h1 hj) t h3 (by omega)
   simpa using this
theorem ugG {n:Nat} {ok:List Int→Bool} {F:List Int}:∀{m:Nat} {l:List Int} {i:Nat},ubc n ok m l i=some F→∃s,Asc n i s∧s.length=m∧F=l++s∧ok F=true∧∀s',Asc n i s'→s'.length=m→ok (l++s')=true→s=s'∨urc s s':=by
 intro m
 induction m with
 | zero=>
  intro l i h
  simp only [ubc]at h
  split at h
  ·rename_i q
   cases h
   refine⟨[],trivial,rfl,(List.append_nil _).symm,q,fun s' _ hl _=>.inl (List.length_eq_zero_iff.1 hl).symm⟩
  ·cases h
 | succ m ih=>
  intro l i h
  simp only [ubc]at h
  obtain⟨j,h1,h2,h3,h4⟩:=uhP h
  obtain⟨s,a1,a2,a3,a4,a5⟩:=ih h3
  refine⟨(j:Int)::s,⟨j,rfl,h1,by omega,a1⟩,by simp [a2],by rw [a3];simp,a4,fun s' hs hl hok=> ?_⟩
  cases s' with
  |nil=>cases hl
  | cons x t=>
   obtain⟨j',rfl,b1,b2,b3⟩:=hs
   simp only [List.length_cons]at hl
   rcases Nat.lt_trichotomy j j' with e|e|e
   ·exact .inr (.inl (by omega))
   ·subst e
    rcases a5 t b3 (by omega) (by simpa using hok)with q|q
    ·exact .inl (by rw [q])
    ·exact .inr (.inr ⟨rfl,q⟩)
   ·have:=ueC (h4 j' b1 e) t b3 (by omega)
    rw [show l++[(j':Int)]++t=l++(j':Int)::t by simp,hok]at this
    cases this
theorem urQ {n m:Nat}(hnm:n≤m):∀{s:List Int} {i:Nat},Asc n i s→Asc m i s:=by
 intro s
 induction s with
 |nil=>intro i _;trivial
 |cons x t ih=>rintro i ⟨j,a,b,d,e⟩;exact⟨j,a,b,by omega,ih e⟩
theorem urM {n:Nat}:∀{s:List Int} {i:Nat},i≤n→Asc n i s→Asc (n+1) i (s++[(n:Int)]):=by
 intro s
 induction s with
 |nil=>intro i hi _;exact⟨n,rfl,hi,by omega,trivial⟩
 |cons x t ih=>rintro i hi ⟨j,a,b,d,e⟩;exact⟨j,a,b,by omega,ih (by omega) e⟩
def ujy (b:Nat):Nat→List Int
 |0=>[]
 |p+1=>if b.testBit p=true then ujy b p++[(p:Int)]else ujy b p
def uhe (a b:List Int):Bool:=if a.length=b.length then lexB a b else decide (a.length<b.length)
where lexB:List Int→List Int→Bool
 |x::s,y::t=>if x=y then lexB s t else decide (x<y)
 |_,_=>false
theorem ur8 (a:List Int):uhe.lexB a a=false:=by
 induction a with
 |nil=>simp only [uhe.lexB]
 |cons x s ih=>simp only [uhe.lexB,if_true];exact ih
theorem uw0 {n:Nat} {L:List Int}:∀{s:Nat},Asc n s L→∀i,i<L.length→(s:Int)≤L.getD i 0∧L.getD i 0<n:=by
 induction L with
 |nil=>intro s _ i hi;simp at hi
 | cons x t ih=>
  rintro s ⟨j,rfl,h1,h2,h3⟩ i hi
  cases i with
  |zero=>simp only [List.getD_cons_zero];omega
  | succ i=>
   simp only [List.getD_cons_succ]
   have:=ih h3 i (by simpa using hi)
   omega
theorem us2 (b n:Nat):Asc n 0 (ujy b n):=by
 induction n with
 |zero=>trivial
 | succ n ih=>
  simp only [ujy]
  split
  ·exact urM (by omega) ih
  ·exact urQ (by omega) ih
theorem uop :∀{a b d:List Int},a.length=b.length→b.length=d.length→uhe.lexB a b=true→uhe.lexB b d=true→uhe.lexB a d=true:=by
 intro a
 induction a with
 |nil=>intro b d _ _ h;cases b<;>simp [uhe.lexB]at h
 | cons x s ih=>
  intro b d h1 h2 p q
  cases b with
  |nil=>cases h1
  | cons y t=>
   cases d with
   |nil=>cases h2
   | cons z u=>
    simp only [List.length_cons,Nat.add_right_cancel_iff]at h1 h2
    simp only [uhe.lexB]at p q⊢
    by_cases e1:x=y
    ·rw [if_pos e1]at p
     by_cases e2:y=z
     ·rw [if_pos e2]at q
      rw [if_pos (e1.trans e2)]
      exact ih h1 h2 p q
     ·rw [if_neg e2]at q
      rw [if_neg (by rw [e1];exact e2),e1]
      exact q
    ·rw [if_neg e1,decide_eq_true_eq]at p
     by_cases e2:y=z
     ·rw [if_neg (by omega),decide_eq_true_eq]
      omega
     ·rw [if_neg e2,decide_eq_true_eq]at q
      rw [if_neg (by omega),decide_eq_true_eq]
      omega
theorem utc {a b:List Int}(h:urc a b):uhe.lexB a b=true:=by
 induction a generalizing b with
 |nil=>cases h
 | cons x s ih=>
  cases b with
  |nil=>cases h
  | cons y t=>
   simp only [uhe.lexB]
   rcases h with h|⟨h,h2⟩
   ·rw [if_neg (by omega),decide_eq_true_eq];exact h
   ·rw [if_pos h];exact ih h2
def uxl (n:Nat)(ok:List Int→Bool):Option (List Int):=uby (fun m=>ubc n ok m [] 0) (n+1) 0
def udB (n:Nat)(ok:List Int→Bool):List Int:=(uxl n ok).getD []
theorem uqZ {n:Nat} {ok:List Int→Bool}(h:ok (ub0 n)=true):uxl n ok=some (udB n ok):=by
 have:=ukV h n (Nat.le_refl _)
 rw [Nat.sub_self]at this
 obtain⟨F,hF⟩:=ujA (f:=fun m=>ubc n ok m [] 0) (j:=n) this (n+1) 0 (by omega) (by omega)
 unfold udB
 rw [show uxl n ok=some F from hF];rfl
theorem ud0 {n:Nat} {ok:List Int→Bool}(h:ok (ub0 n)=true):Asc n 0 (udB n ok)∧ok (udB n ok)=true ∧
 ∀s,Asc n 0 s→ok s=true→(udB n ok).length≤s.length∧(s.length=(udB n ok).length→udB n ok=s∨urc (udB n ok) s):=by
 have hO:=uqZ h
 unfold uxl at hO
 obtain⟨m,_,h2,h3,h4⟩:=uhP hO
 obtain⟨s,a1,a2,a3,a4,a5⟩:=ugG h3
 have e:udB n ok=s:=by rw [a3];simp
 refine⟨e▸a1,a4,fun s' hs hok=> ?_⟩
 rw [e]
 have hmin:s.length≤s'.length:=by
  refine Nat.le_of_not_lt fun hlt=> ?_
  have:=ueC (h4 s'.length (by omega) (by omega)) s' hs rfl
  rw [List.nil_append,hok]at this
  cases this
 exact⟨hmin,fun he=>a5 s' hs (by omega) (by simpa using hok)⟩
theorem uqB {n:Nat} {ok:List Int→Bool}(h:ok (ub0 n)=true):ok []=true↔(udB n ok).length=0:=by
 have hs:=ud0 h
 constructor
 ·intro q;have:=(hs.2.2 [] trivial q).1;simpa using this
 ·intro q;have:=hs.2.1;rwa [List.length_eq_zero_iff.1 q]at this
theorem ule {n:Nat} {ok:List Int→Bool}(h:ok (ub0 n)=true):(udB n ok).length≤n:=by
 rcases uiJ (ud0 h).1 with e|e
 ·rw [e];simp
 ·omega
end Go.Eng.Few

namespace Go.Eng.Few
def ubL (n:Nat)(ok:List Int→Bool):Nat→List Int→Nat→List (List Int)
 |0,l,_=>if ok l=true then [l]else []
 |m+1,l,i=>(List.range (n-m-i)).flatMap fun j=>ubL n ok m (l++[((i+j:Nat):Int)]) (i+j+1)
theorem ueZ {n:Nat} {ok:List Int→Bool}:∀{m:Nat} {l:List Int} {i:Nat} {F:List Int},F∈ubL n ok m l i↔∃s,Asc n i s∧s.length=m∧F=l++s∧ok F=true:=by
 intro m
 induction m with
 | zero=>
  intro l i F
  simp only [ubL]
  constructor
  ·intro h
   split at h
   ·rename_i q
    rw [List.mem_singleton]at h
    subst h
    exact⟨[],trivial,rfl,(List.append_nil _).symm,q⟩
   ·cases h
  ·rintro⟨s,_,hl,rfl,q⟩
   rw [List.length_eq_zero_iff.1 hl,List.append_nil]at q⊢
   rw [if_pos q];exact List.mem_singleton.2 rfl
 | succ m ih=>
  intro l i F
  simp only [ubL,List.mem_flatMap,List.mem_range]
  constructor
  ·rintro⟨j,hj,hF⟩
   obtain⟨s,a1,a2,a3,a4⟩:=ih.1 hF
   exact⟨((i+j:Nat):Int)::s,⟨i+j,rfl,by omega,by omega,a1⟩,by simp [a2],by rw [a3];simp,a4⟩
  ·rintro⟨s,hs,hl,e,q⟩
   cases s with
   |nil=>cases hl
   | cons x t=>
    obtain⟨j,rfl,h1,h2,h3⟩:=hs
    simp only [List.length_cons]at hl
    have hr:j-i<n-m-i:=by
     rcases uiJ h3 with e|e
     ·rw [e]at hl;simp at hl;omega
     ·omega
    refine⟨j-i,hr,ih.2 ⟨t,?_,by omega,?_,q⟩⟩
    ·rw [show i+(j-i)+1=j+1 by omega];exact h3
    ·rw [e,show i+(j-i)=j by omega];simp
def uqj (n:Nat)(ok:List Int→Bool):Nat→Nat→List (List Int)
 |0,_=>[]
 |k+1,m=>if(ubL n ok m [] 0).isEmpty=true then uqj n ok k (m+1)else ubL n ok m [] 0
def uaB (n:Nat)(ok:List Int→Bool):List (List Int):=uqj n ok (n+1) 0
theorem uqF {n:Nat} {ok:List Int→Bool}:∀{k m:Nat},(∃j,m≤j∧j<m+k∧ubL n ok j [] 0≠[])→∃j,m≤j∧j<m+k∧uqj n ok k m=ubL n ok j [] 0∧ubL n ok j [] 0≠[]∧∀i,m≤i→i<j→ubL n ok i [] 0=[]:=by
 intro k
 induction k with
 |zero=>rintro m ⟨j,h1,h2,_⟩;omega
 | succ k ih=>
  rintro m ⟨j,h1,h2,h3⟩
  simp only [uqj]
  cases he:(ubL n ok m [] 0).isEmpty with
  | true=>
   have e0:=List.isEmpty_iff.1 he
   rw [if_pos rfl]
   have hm:m≠j:=fun q=>by subst q;exact h3 e0
   obtain⟨j',a1,a2,a3,a4,a5⟩:=ih (m:=m+1) ⟨j,by omega,by omega,h3⟩
   refine⟨j',by omega,by omega,a3,a4,fun i b1 b2=> ?_⟩
   by_cases q:i=m
   ·subst q;exact e0
   ·exact a5 i (by omega) b2
  | false=>
   rw [if_neg (by simp)]
   exact⟨m,Nat.le_refl _,by omega,rfl,(fun q=>by rw [q]at he;cases he),fun i b1 b2=>by omega⟩
theorem uqf {n:Nat} {ok:List Int→Bool}:∀{m:Nat} {l:List Int} {i:Nat},(ubL n ok m l i).head?=ubc n ok m l i:=by
 intro m
 induction m with
 | zero=>
  intro l i
  simp only [ubL,ubc]
  split<;>rfl
 | succ m ih=>
  intro l i
  simp only [ubL,ubc]
  have key:∀k a,((List.range k).flatMap fun j=>ubL n ok m (l++[((i+a+j:Nat):Int)]) (i+a+j+1)).head?=uby (fun j=>ubc n ok m (l++[(j:Int)]) (j+1)) k (i+a):=by
   intro k
   induction k with
   |zero=>intro a;rfl
   | succ k ihk=>
    intro a
    rw [List.range_succ_eq_map,List.flatMap_cons,List.head?_append,ih]
    simp only [uby,Nat.add_zero]
    cases ubc n ok m (l++[((i+a:Nat):Int)]) (i+a+1)with
    |some r=>rfl
    | none=>
     simp only [Option.none_or,List.flatMap_map]
     have:=ihk (a+1)
     rw [show i+(a+1)=i+a+1 by omega]at this
     rw [←this]
     congr 1
     congr 1
     funext j
     rw [show i+a+1+j=i+a+(j+1) by omega]
  have:=key (n-m-i) 0
  simpa using this
theorem uiP {n:Nat} {ok:List Int→Bool}(h:ok (ub0 n)=true):∃j,j≤n∧uaB n ok=ubL n ok j [] 0∧ubL n ok j [] 0≠[]∧∀i,i<j→ubL n ok i [] 0=[]:=by
 have hs:=ud0 h
 obtain⟨j,a1,a2,a3,a4,a5⟩:=uqF (n:=n) (ok:=ok) (k:=n+1) (m:=0) ⟨(udB n ok).length,Nat.zero_le _,by have:=ule h;omega,fun q=>by
  have:=(ueZ (m:=(udB n ok).length) (l:=[]) (i:=0) (F:=udB n ok)).2 ⟨_,hs.1,rfl,rfl,hs.2.1⟩
  rw [q]at this;cases this⟩
 exact⟨j,by omega,a3,a4,fun i hi=>a5 i (Nat.zero_le _) hi⟩
theorem ufh {n:Nat} {ok:List Int→Bool}(h:ok (ub0 n)=true) {F:List Int}:F∈uaB n ok↔Asc n 0 F∧ok F=true∧F.length=(udB n ok).length:=by
 obtain⟨j,hj,e,hne,hno⟩:=uiP h
 have hs:=ud0 h
 have hjl:(udB n ok).length=j:=by
  have h1:¬(udB n ok).length<j:=fun q=>by
   have:=(ueZ (m:=(udB n ok).length) (l:=[]) (i:=0) (F:=udB n ok)).2 ⟨_,hs.1,rfl,rfl,hs.2.1⟩
   rw [hno _ q]at this;cases this
  obtain⟨F,hF⟩:=List.exists_mem_of_ne_nil _ hne
  obtain⟨s,b1,b2,b3,b4⟩:=ueZ.1 hF
  rw [List.nil_append]at b3
  subst b3
  have:=(hs.2.2 _ b1 b4).1
  omega
 rw [e,ueZ]
 constructor
 ·rintro⟨s,b1,b2,b3,b4⟩
  rw [List.nil_append]at b3
  subst b3
  exact⟨b1,b4,by omega⟩
 ·rintro⟨b1,b2,b3⟩
  exact⟨F,b1,by omega,rfl,b2⟩
theorem un8 {n:Nat} {ok:List Int→Bool}(h:ok (ub0 n)=true):(uaB n ok).head?=some (udB n ok):=by
 obtain⟨j,hj,e,hne,hno⟩:=uiP h
 have hs:=ud0 h
 have hm:=(ufh h (F:=udB n ok)).2 ⟨hs.1,hs.2.1,rfl⟩
 rw [e,uqf]
 rw [e]at hm
 obtain⟨s,b1,b2,b3,b4⟩:=ueZ.1 hm
 cases hc:ubc n ok j [] 0 with
 | none=>
  have:=ueC hc s b1 b2
  rw [←b3,b4]at this;cases this
 | some G=>
  obtain⟨t,c1,c2,c3,c4,c5⟩:=ugG hc
  rw [List.nil_append]at c3 b3
  subst c3
  have hl:(udB n ok).length=j:=by rw [b3];exact b2
  rcases(hs.2.2 _ c1 c4).2 (by omega)with q|q
  ·rw [q]
  ·rcases c5 (udB n ok) hs.1 (by omega) (by simpa using hs.2.1)with r|r
   ·rw [r]
   ·exfalso
    have a:=utc q
    have b:=utc r
    have:=uop (by omega) (by omega) a b
    have c:=ur8 (udB n ok)
    rw [c]at this;cases this
end Go.Eng.Few

namespace Go.Eng.Few
def mnI (a b:Int):Int:=if b<a then b else a
def shN (P:Nat)(h:Nat→Bool):Nat→Int
 |0=>(P:Int)
 |b+1=>if h b=true then mnI (shN P h b) ((ujy b 16).length:Int)else shN P h b
structure Agree (P:Nat)(ok:List Int→Bool)(h:Nat→Bool):Prop where
 p:P≤16
 all:ok (ub0 P)=true
 h:∀b,b<2^P→h b=ok (ujy b 16)
def ulu (P:Nat)(ok:List Int→Bool)(p:Nat):Bool:=(uaB P ok).all fun F=>F.contains (p:Int)
def ulx (P:Nat)(ok:List Int→Bool)(p:Nat):Bool:=(uaB P ok).any fun F=>F.contains (p:Int)
def ubU (f:Nat→Bool):Nat→List Int
 |0=>[]
 |p+1=>if f p=true then ubU f p++[(p:Int)]else ubU f p
theorem urD {b:Nat} {f:Nat→Bool}:∀{n:Nat},(∀p,p<n→b.testBit p=f p)→ujy b n=ubU f n:=by
 intro n
 induction n with
 |zero=>intro _;rfl
 | succ n ih=>
  intro h
  simp only [ujy,ubU,h n (by omega),ih fun p hp=>h p (by omega)]
end Go.Eng.Few

namespace Go.Eng.Dif
def mn (a b:Int):Int:=if b<a then b else a
theorem uts (a b:Int):mn a b≤a:=by unfold mn;split<;>omega
theorem usV (a b:Int):mn a b≤b:=by unfold mn;split<;>omega
theorem ury (a b:Int):mn a b=a∨mn a b=b:=by unfold mn;split<;>simp
theorem uuK {a b:Int}(h:a≤b):mn a b=a:=by unfold mn;rw [if_neg (by omega)]
def lst (M:Nat→Int)(p:Nat)(n:Int):Nat→Int:=fun i=>if i=p then mn (M i) n else M i
def at4 (f t:Nat):Nat:=f*4+t
def stp (v:Nat)(M:Nat→Int)(k:Nat):Nat→Int:=lst M k (M (at4 (k/4) v)+M (at4 v (k%4)))
def phN (v:Nat)(M:Nat→Int):Nat→Nat→Int
 |0=>M
 |k+1=>stp v (phN v M k) k
def fwN (M:Nat→Int):Nat→Nat→Int
 |0=>M
 |v+1=>phN v (fwN M v) 16
def fw (M:Nat→Int):Nat→Int:=fwN M 4
def fwP (M:Nat→Int):Nat→Nat→Int
 |0=>M
 |n+1=>fw (fwP M n)
def clo (M:Nat→Int):Nat→Int:=fwP M 4
def okD (M:Nat→Int):Bool:=decide (0≤M 0∧0≤M 5∧0≤M 10∧0≤M 15)
def Sol (M:Nat→Int)(x:Nat→Int):Prop:=∀f t,f<4→t<4→x t-x f≤M (at4 f t)
theorem um7 (M:Nat→Int)(p:Nat)(n:Int)(i:Nat):lst M p n i≤M i:=by
 unfold lst
 split
 ·exact uts _ _
 ·exact Int.le_refl _
theorem uwB (v:Nat)(M:Nat→Int)(k i:Nat):stp v M k i≤M i:=um7 _ _ _ _
theorem uqD (v:Nat)(M:Nat→Int):∀k i,phN v M k i≤M i:=by
 intro k
 induction k with
 |zero=>exact fun i=>Int.le_refl _
 |succ k ih=>exact fun i=>Int.le_trans (uwB _ _ _ _) (ih i)
theorem uto (M:Nat→Int):∀v i,fwN M v i≤M i:=by
 intro v
 induction v with
 |zero=>exact fun i=>Int.le_refl _
 |succ v ih=>exact fun i=>Int.le_trans (uqD _ _ _ _) (ih i)
theorem uss (M:Nat→Int)(i:Nat):fw M i≤M i:=uto M 4 i
theorem usX (M:Nat→Int):∀n i,fwP M n i≤M i:=by
 intro n
 induction n with
 |zero=>exact fun i=>Int.le_refl _
 |succ n ih=>exact fun i=>Int.le_trans (uss _ _) (ih i)
theorem uhM (M:Nat→Int)(i:Nat):clo M i≤M i:=usX M 4 i
theorem uig {f t:Nat}(h:t<4):at4 f t/4=f:=by unfold at4;omega
theorem uiW {f t:Nat}(h:t<4):at4 f t%4=t:=by unfold at4;omega
theorem uve {v:Nat} {M:Nat→Int} {k:Nat} {x:Nat→Int}(hv:v<4)(hk:k<16)(h:Sol M x):Sol (stp v M k) x:=by
 intro f t hf ht
 unfold stp lst
 split
 ·rename_i e
  have a:=h f t hf ht
  have b:=h (k/4) v (by omega) hv
  have c:=h v (k%4) hv (by omega)
  have e1:k/4=f:=by rw [←e];exact uig ht
  have e2:k%4=t:=by rw [←e];exact uiW ht
  rw [e1]at b
  rw [e2]at c
  rw [e1,e2]
  unfold mn
  split<;>omega
 ·exact h f t hf ht
theorem uub {v:Nat} {M:Nat→Int} {x:Nat→Int}(hv:v<4)(h:Sol M x):∀k,k≤16→Sol (phN v M k) x:=by
 intro k
 induction k with
 |zero=>exact fun _=>h
 |succ k ih=>exact fun hk=>uve hv (by omega) (ih (by omega))
theorem uv0 {M:Nat→Int} {x:Nat→Int}(h:Sol M x):∀v,v≤4→Sol (fwN M v) x:=by
 intro v
 induction v with
 |zero=>exact fun _=>h
 |succ v ih=>exact fun hv=>uub (by omega) (ih (by omega)) 16 (Nat.le_refl _)
theorem uvU {M:Nat→Int} {x:Nat→Int}(h:Sol M x):Sol (fw M) x:=uv0 h 4 (Nat.le_refl _)
theorem utX {M:Nat→Int} {x:Nat→Int}(h:Sol M x):∀n,Sol (fwP M n) x:=by
 intro n
 induction n with
 |zero=>exact h
 |succ n ih=>exact uvU ih
theorem ud4 {M:Nat→Int} {x:Nat→Int}:Sol (clo M) x↔Sol M x:=
 ⟨fun h f t hf ht=>Int.le_trans (h f t hf ht) (uhM M _),fun h=>utX h 4⟩
theorem uxe {v:Nat} {M:Nat→Int}(hv:v<4)(hd:0≤M (at4 v v)):∀k,k≤16→∀f t,f<4→t<4→phN v M k (at4 f t)=if at4 f t<k then mn (M (at4 f t)) (M (at4 f v)+M (at4 v t))else M (at4 f t):=by
 intro k
 induction k with
 |zero=>intro _ f t _ _;rfl
 | succ k ih=>
  intro hk f t hf ht
  have ih:=ih (by omega)
  show stp v (phN v M k) k (at4 f t)=_
  unfold stp lst
  by_cases e:at4 f t=k
  ·rw [if_pos e,if_pos (by omega)]
   have e1:k/4=f:=by rw [←e];exact uig ht
   have e2:k%4=t:=by rw [←e];exact uiW ht
   rw [e1,e2,ih f t hf ht,ih f v hf hv,ih v t hv ht,if_neg (by omega)]
   have a:(if at4 f v<k then mn (M (at4 f v)) (M (at4 f v)+M (at4 v v))else M (at4 f v))=M (at4 f v):=by
    split
    ·exact uuK (by omega)
    ·rfl
   have b:(if at4 v t<k then mn (M (at4 v t)) (M (at4 v v)+M (at4 v t))else M (at4 v t))=M (at4 v t):=by
    split
    ·exact uuK (by omega)
    ·rfl
   rw [a,b]
  ·rw [if_neg e,ih f t hf ht]
   by_cases q:at4 f t<k
   ·rw [if_pos q,if_pos (by omega)]
   ·rw [if_neg q,if_neg (by omega)]
def Clo (M:Nat→Int):Prop:=∀f v t,f<4→v<4→t<4→M (at4 f t)≤M (at4 f v)+M (at4 v t)
def Dg (M:Nat→Int):Prop:=∀n,n<4→0≤M (at4 n n)
theorem ufK {M:Nat→Int}:okD M=true↔Dg M:=by
 unfold okD
 rw [decide_eq_true_eq]
 constructor
 ·rintro⟨a,b,c,d⟩ n hn
  have:n=0∨n=1∨n=2∨n=3:=by omega
  rcases this with rfl|rfl|rfl|rfl
  ·exact a
  ·exact b
  ·exact c
  ·exact d
 ·intro h
  exact⟨h 0 (by omega),h 1 (by omega),h 2 (by omega),h 3 (by omega)⟩
theorem ui5 {M:Nat→Int} {v:Nat}(hv:v<4)(hd:Dg (fwN M v)) {f t:Nat}(hf:f<4)(ht:t<4):fwN M (v+1) (at4 f t)=mn (fwN M v (at4 f t)) (fwN M v (at4 f v)+fwN M v (at4 v t)):=by
 show phN v (fwN M v) 16 (at4 f t)=_
 rw [uxe hv (hd v hv) 16 (Nat.le_refl _) f t hf ht,if_pos (by unfold at4;omega)]
theorem uus {M:Nat→Int}(hd:Dg (fw M)):∀w,w≤4→∀v,v<w→∀f t,f<4→t<4→fwN M w (at4 f t)≤fwN M w (at4 f v)+fwN M w (at4 v t):=by
 have hdw:∀w,w≤4→Dg (fwN M w):=by
  intro w hw n hn
  have key:∀d w,w+d=4→fwN M 4 (at4 n n)≤fwN M w (at4 n n):=by
   intro d
   induction d with
   |zero=>intro w e;rw [show w=4 by omega];exact Int.le_refl _
   |succ d ih=>intro w e;exact Int.le_trans (ih (w+1) (by omega)) (uqD _ _ _ _)
  exact Int.le_trans (hd n hn) (key (4-w) w (by omega))
 intro w
 induction w with
 |zero=>intro _ v hv;omega
 | succ w ih=>
  intro hw v hv f t hf ht
  have ih:=ih (by omega)
  have hD:=hdw w (by omega)
  have hw4:w<4:=by omega
  rw [ui5 hw4 hD hf ht,ui5 hw4 hD hf (by omega:v<4),ui5 hw4 hD (by omega:v<4) ht]
  have dw:=hD w hw4
  have m1:=uts (fwN M w (at4 f t)) (fwN M w (at4 f w)+fwN M w (at4 w t))
  have m2:=usV (fwN M w (at4 f t)) (fwN M w (at4 f w)+fwN M w (at4 w t))
  by_cases e:v=w
  ·subst e
   rcases ury (fwN M v (at4 f v)) (fwN M v (at4 f v)+fwN M v (at4 v v))with q|q<;>rcases ury (fwN M v (at4 v t)) (fwN M v (at4 v v)+fwN M v (at4 v t))with r|r<;>rw [q,r]<;>omega
  ·have c1:=ih v (by omega) f t hf ht
   have c2:=ih v (by omega) f w hf hw4
   have c3:=ih v (by omega) w t hw4 ht
   have c4:=ih v (by omega) w w hw4 hw4
   rcases ury (fwN M w (at4 f v)) (fwN M w (at4 f w)+fwN M w (at4 w v))with q|q<;>rcases ury (fwN M w (at4 v t)) (fwN M w (at4 v w)+fwN M w (at4 w t))with r|r<;>rw [q,r]<;>omega
theorem uwk {M:Nat→Int}(hd:Dg (fw M)):Clo (fw M):=fun f v t hf hv ht=>uus hd 4 (Nat.le_refl _) v hv f t hf ht
theorem usg {v:Nat} {M:Nat→Int}(hv:v<4)(hc:Clo M) {k:Nat}(hk:k<16) {i:Nat}(hi:i<16):stp v M k i=M i:=by
 unfold stp lst
 split
 ·rename_i e
  subst e
  refine uuK ?_
  have:=hc (i/4) v (i%4) (by omega) hv (by omega)
  rwa [show at4 (i/4) (i%4)=i by unfold at4;omega]at this
 ·rfl
def uks (A B:Nat→Int):Prop:=∀i,i<16→A i=B i
theorem uf8 {f t:Nat}(hf:f<4)(ht:t<4):at4 f t<16:=by unfold at4;omega
theorem ufp {A B:Nat→Int}(h:uks A B)(hc:Clo B):Clo A:=fun f v t hf hv ht=>by
 rw [h _ (uf8 hf ht),h _ (uf8 hf hv),h _ (uf8 hv ht)];exact hc f v t hf hv ht
theorem urZ {v:Nat} {M:Nat→Int}(hv:v<4)(hc:Clo M):∀k,k≤16→uks (phN v M k) M:=by
 intro k
 induction k with
 |zero=>intro _ i _;rfl
 | succ k ih=>
  intro hk i hi
  have ih:=ih (by omega)
  show stp v (phN v M k) k i=_
  rw [usg hv (ufp ih hc) (by omega) hi]
  exact ih i hi
theorem use {M:Nat→Int}(hc:Clo M):∀v,v≤4→uks (fwN M v) M:=by
 intro v
 induction v with
 |zero=>intro _ i _;rfl
 | succ v ih=>
  intro hv i hi
  have ih:=ih (by omega)
  show phN v (fwN M v) 16 i=_
  rw [urZ (by omega) (ufp ih hc) 16 (Nat.le_refl _) i hi]
  exact ih i hi
theorem ukY {M:Nat→Int}(hc:Clo M):uks (fw M) M:=use hc 4 (Nat.le_refl _)
theorem uu9 {A B:Nat→Int}(h:∀i,A i≤B i)(hd:Dg A):Dg B:=fun n hn=>Int.le_trans (hd n hn) (h _)
theorem ukJ {M:Nat→Int}(hd:Dg (clo M)):Clo (clo M):=by
 have h1:Dg (fw M):=uu9 (fun i=>Int.le_trans (uss _ _) (Int.le_trans (uss _ _) (uss (fw M) i))) hd
 have c1:=uwk h1
 have s2:=ukY c1
 have c2:=ufp s2 c1
 have s3:=ukY c2
 have c3:=ufp s3 c2
 exact ufp (ukY c3) c3
theorem uoh {M:Nat→Int}(hc:Clo M)(hd:Dg M)(s:Nat)(hs:s<4):Sol M (fun t=>M (at4 s t)):=fun f t hf ht=>by
 have:=hc s f t hs hf ht
 show M (at4 s t)-M (at4 s f)≤_
 omega
theorem uw4 {M:Nat→Int} {x:Nat→Int}(h:Sol M x):Dg M:=fun n hn=>by
 have:=h n n hn hn
 omega
theorem ut3 {M:Nat→Int}:okD (clo M)=true↔∃x,Sol M x:=by
 rw [ufK]
 constructor
 ·intro h
  exact⟨_,ud4.1 (uoh (ukJ h) h 0 (by omega))⟩
 ·rintro⟨x,hx⟩
  exact uw4 (ud4.2 hx)
theorem up3 {A B:Nat→Int}(h:uks A B):uks (fw A) (fw B):=by
 have hs:∀v k X Y,v<4→k<16→uks X Y→uks (stp v X k) (stp v Y k):=fun v k X Y hv hk hXY i hi=>by
  unfold stp lst
  rw [hXY _ (uf8 (by omega:k/4<4) hv),hXY _ (uf8 hv (by omega:k%4<4)),hXY i hi]
 have hp:∀v X Y,v<4→uks X Y→∀k,k≤16→uks (phN v X k) (phN v Y k):=fun v X Y hv hXY k=>by
  induction k with
  |zero=>exact fun _=>hXY
  |succ k ih=>exact fun hk=>hs v k _ _ hv (by omega) (ih (by omega))
 have hf:∀v,v≤4→uks (fwN A v) (fwN B v):=fun v=>by
  induction v with
  |zero=>exact fun _=>h
  |succ v ih=>exact fun hv=>hp v _ _ (by omega) (ih (by omega)) 16 (Nat.le_refl _)
 exact hf 4 (Nat.le_refl _)
theorem urx {M:Nat→Int} {n:Nat}(h:uks (fwP M (n+1)) (fwP M n)):∀k,uks (fwP M (n+1+k)) (fwP M (n+1)):=by
 intro k
 induction k with
 |zero=>intro i _;rfl
 | succ k ih=>
  intro i hi
  show fw (fwP M (n+1+k)) i=_
  rw [up3 ih i hi]
  exact up3 h i hi
def cf (v k i:Nat):Int:=if i<k then(if i=at4 v v then 2 else if i/4=v∨i%4=v then 3 else 6)else 1
theorem uxS {v:Nat} {M:Nat→Int} {b:Int}(hv:v<4)(hb:0≤b)(h:∀i,i<16→ -b≤M i):∀k,k≤16→∀i,i<16→ -(cf v k i*b)≤phN v M k i:=by
 intro k
 induction k with
 |zero=>intro _ i hi;have:=h i hi;unfold cf;simp only [Nat.not_lt_zero,if_false,phN];omega
 | succ k ih=>
  intro hk i hi
  have ih:=ih (by omega)
  show _≤stp v (phN v M k) k i
  unfold stp lst
  have c1:=ih i hi
  by_cases e:i=k
  ·subst e
   rw [if_pos rfl]
   have c2:=ih (at4 (i/4) v) (uf8 (by omega) hv)
   have c3:=ih (at4 v (i%4)) (uf8 hv (by omega))
   have key:cf v i (at4 (i/4) v)+cf v i (at4 v (i%4))≤cf v (i+1) i∧cf v i i=1∧1≤cf v (i+1) i:=by
    unfold cf at4
    have hv':v=0∨v=1∨v=2∨v=3:=by omega
    have hi':i=0∨i=1∨i=2∨i=3∨i=4∨i=5∨i=6∨i=7∨i=8∨i=9∨i=10∨i=11∨i=12∨i=13∨i=14∨i=15:=by omega
    rcases hv' with rfl|rfl|rfl|rfl<;>rcases hi' with rfl|rfl|rfl|rfl|rfl|rfl|rfl|rfl|rfl|rfl|rfl|rfl|rfl|rfl|rfl|rfl<;>decide
   obtain⟨k1,k2,k3⟩:=key
   have q1:(cf v i (at4 (i/4) v)+cf v i (at4 v (i%4)))*b≤cf v (i+1) i*b:=Int.mul_le_mul_of_nonneg_right k1 hb
   have q2:1*b≤cf v (i+1) i*b:=Int.mul_le_mul_of_nonneg_right k3 hb
   rw [Int.add_mul]at q1
   rw [k2]at c1
   generalize cf v (i+1) i*b=z at *
   generalize cf v i (at4 (i/4) v)*b=z1 at *
   generalize cf v i (at4 v (i%4))*b=z2 at *
   unfold mn
   split<;>omega
  ·rw [if_neg e]
   have:cf v (k+1) i=cf v k i:=by
    unfold cf
    by_cases q:i<k
    ·rw [if_pos q,if_pos (by omega)]
    ·rw [if_neg q,if_neg (by omega)]
   rw [this]
   exact c1
theorem utg {v:Nat} {M:Nat→Int} {b:Int}(hv:v<4)(hb:0≤b)(h:∀i,i<16→ -b≤M i) {k:Nat}(hk:k≤16) {i:Nat}(hi:i<16): -(6*b)≤phN v M k i:=by
 have q:=uxS hv hb h k hk i hi
 have c:cf v k i≤6∧0≤cf v k i:=by
  unfold cf
  repeat' split
  all_goals omega
 have:=Int.mul_le_mul_of_nonneg_right c.1 hb
 omega
theorem usO {M:Nat→Int} {b:Int}(hb:0≤b)(h:∀i,i<16→ -b≤M i):∀v,v≤4→∀i,i<16→ -(6^v*b)≤fwN M v i:=by
 intro v
 induction v with
 |zero=>intro _ i hi;have:=h i hi;show -(6^0*b)≤M i;simpa using this
 | succ v ih=>
  intro hv i hi
  have hp:(0:Int)≤6^v*b:=Int.mul_nonneg (Int.pow_nonneg (by decide)) hb
  have:=utg (by omega:v<4) hp (ih (by omega)) (Nat.le_refl 16) hi
  rw [Int.pow_succ,Int.mul_comm (6^v) 6,Int.mul_assoc]
  exact this
end Go.Eng.Dif

namespace Go.Eng.Dif
def mx (a b:Int):Int:=if b>a then b else a
theorem ut8 {a b n:Int}:n≤mn a b↔n≤a∧n≤b:=by unfold mn;split<;>omega
structure Six where
 l0:Int
 h0:Int
 l1:Int
 h1:Int
 l2:Int
 h2:Int
 al:Int
 ah:Int
 bl:Int
 bh:Int
 cl:Int
 ch:Int
structure Fits (s:Six)(n p q:Int):Prop where
 n0:s.l0≤n
 n1:n≤s.h0
 p0:s.l1≤p
 p1:p≤s.h1
 q0:s.l2≤q
 q1:q≤s.h2
 a0:s.al≤p-n
 a1:p-n≤s.ah
 b0:s.bl≤q-n
 b1:q-n≤s.bh
 c0:s.cl≤q-p
 c1:q-p≤s.ch
section
variable (s:Six) (n:Int)
def bL :Int:=mx s.l1 (n+s.al)
def bH :Int:=mn s.h1 (n+s.ah)
def cL :Int:=mx s.l2 (n+s.bl)
def cH :Int:=mn s.h2 (n+s.bh)
def xL :Int:=mx (bL s n) (cL s n-s.ch)
def xH :Int:=mn (bH s n) (cH s n-s.cl)
def yL :Int:=mx (cL s n) (bL s n+s.cl)
def yH :Int:=mn (cH s n) (bH s n+s.ch)
def goB :Bool:=decide (bL s n≤bH s n∧cL s n≤cH s n)&&decide (s.cl≤s.ch∧xL s n≤xH s n∧yL s n≤yH s n)
end
structure Bnd where
 l0:Int
 h0:Int
 l1:Int
 h1:Int
 l2:Int
 h2:Int
def bd0 :Bnd:=⟨9999,-1,9999,-1,9999,-1⟩
structure Sml (s:Six):Prop where
 l0:0≤s.l0
 h0:s.h0≤2000
 l1:0≤s.l1
 h1:s.h1≤2000
 l2:0≤s.l2
 h2:s.h2≤2000
structure ukv (s:Six)(k:Nat)(b:Bnd):Prop where
 none:b.h0<0→b=bd0∧∀j:Nat,j<k→goB s (s.l0+(j:Int))=false
 le:∀n p q,Fits s n p q→n<s.l0+(k:Int)→(b.l0≤n∧n≤b.h0)∧(b.l1≤p∧p≤b.h1)∧(b.l2≤q∧q≤b.h2)
 e0:0≤b.h0→(∃p q,Fits s b.l0 p q)∧∃p q,Fits s b.h0 p q
 e1:0≤b.h0→(∃n q,Fits s n b.l1 q)∧∃n q,Fits s n b.h1 q
 e2:0≤b.h0→(∃n p,Fits s n p b.l2)∧∃n p,Fits s n p b.h2
end Go.Eng.Dif

namespace Go.Eng.Dif
structure Btw where
 f:Nat
 t:Nat
 lo:Int
 hi:Int
def M00 :Nat→Int:=fun i=>if i/4=i%4 then 0 else 2000
def ugd (M:Nat→Int)(b:Btw):Nat→Int:=lst (lst M (at4 b.f b.t) b.hi) (at4 b.t b.f) (-b.lo)
def uog (M:Nat→Int):List Btw→Nat→Int
 |[]=>M
 |b::l=>uog (ugd M b) l
def Btw.Is (b:Btw)(x:Nat→Int):Prop:=b.lo≤x b.t-x b.f∧x b.t-x b.f≤b.hi
theorem uuv {f t f' t':Nat}(ht:t<4)(ht':t'<4)(h:at4 f t=at4 f' t'):f=f'∧t=t':=by unfold at4 at h;omega
theorem uoA {M:Nat→Int} {f t:Nat}(hf:f<4)(ht:t<4) {n:Int} {x:Nat→Int}:Sol (lst M (at4 f t) n) x↔Sol M x∧x t-x f≤n:=by
 constructor
 ·intro h
  refine⟨fun a b ha hb=>Int.le_trans (h a b ha hb) (um7 _ _ _ _),?_⟩
  have:=h f t hf ht
  unfold lst at this
  rw [if_pos rfl]at this
  exact Int.le_trans this (usV _ _)
 ·rintro⟨h,hn⟩ a b ha hb
  unfold lst
  split
  ·rename_i e
   obtain⟨rfl,rfl⟩:=uuv hb ht e
   exact ut8.2 ⟨h _ _ ha hb,hn⟩
  ·exact h a b ha hb
theorem uip {M:Nat→Int} {b:Btw}(hf:b.f<4)(ht:b.t<4) {x:Nat→Int}:Sol (ugd M b) x↔Sol M x∧b.Is x:=by
 unfold ugd Btw.Is
 rw [uoA ht hf,uoA hf ht]
 constructor
 ·rintro⟨⟨h1,h2⟩,h3⟩;exact⟨h1,by omega,h2⟩
 ·rintro⟨h1,h2,h3⟩;exact⟨⟨h1,h3⟩,by omega⟩
theorem umT {l:List Btw}:∀{M:Nat→Int} {x:Nat→Int},(∀b∈l,b.f<4∧b.t<4)→(Sol (uog M l) x↔Sol M x∧∀b∈l,b.Is x):=by
 induction l with
 |nil=>intro M x _;exact⟨fun h=>⟨h,fun b hb=>by cases hb⟩,fun h=>h.1⟩
 | cons b l ih=>
  intro M x hl
  have hb:=hl b (by simp)
  show Sol (uog (ugd M b) l) x↔_
  rw [ih fun c hc=>hl c (List.mem_cons_of_mem _ hc),uip hb.1 hb.2]
  constructor
  ·rintro⟨⟨h1,h2⟩,h3⟩
   refine⟨h1,fun c hc=> ?_⟩
   rcases List.mem_cons.1 hc with rfl|hc
   ·exact h2
   ·exact h3 c hc
  ·rintro⟨h1,h2⟩
   exact⟨⟨h1,h2 b (by simp)⟩,fun c hc=>h2 c (List.mem_cons_of_mem _ hc)⟩
theorem ufe {l m:List Btw}:∀{M:Nat→Int},uog M (l++m)=uog (uog M l) m:=by
 induction l with
 |nil=>intro M;rfl
 |cons b l ih=>intro M;exact ih
theorem ulB (M:Nat→Int)(b:Btw)(i:Nat):ugd M b i≤M i:=Int.le_trans (um7 _ _ _ _) (um7 _ _ _ _)
theorem uqy {l:List Btw}:∀{M:Nat→Int} (i:Nat),uog M l i≤M i:=by
 induction l with
 |nil=>intro M i;exact Int.le_refl _
 |cons b l ih=>intro M i;exact Int.le_trans (ih i) (ulB M b i)
theorem uti {M:Nat→Int} {p:Nat} {n c:Int}(hn:c≤n) {i:Nat}(h:c≤M i):c≤lst M p n i:=by
 unfold lst
 split
 ·exact ut8.2 ⟨h,hn⟩
 ·exact h
theorem uum {c:Int} {l:List Btw}:∀{M:Nat→Int} {i:Nat},c≤M i→(∀b∈l,c≤b.hi∧c≤ -b.lo)→c≤uog M l i:=by
 induction l with
 |nil=>intro M i h _;exact h
 | cons b l ih=>
  intro M i h hl
  have hb:=hl b (by simp)
  exact ih (uti hb.2 (uti hb.1 h)) fun c hc=>hl c (List.mem_cons_of_mem _ hc)
theorem uwh {M:Nat→Int}(hd:Dg (clo M))(h0:M 0≤0) {s:Nat}(hs:s<4):(∀x,Sol M x→x s-x 0≤clo M (at4 0 s))∧Sol M (fun t=>clo M (at4 0 t))∧clo M (at4 0 0)=0:=by
 refine⟨fun x hx=>(ud4.2 hx) 0 s (by omega) hs,ud4.1 (uoh (ukJ hd) hd 0 (by omega)),?_⟩
 have a:=hd 0 (by omega)
 have b:=uhM M (at4 0 0)
 have e:at4 0 0=0:=rfl
 rw [e]at a b⊢
 omega
theorem uz1 {M:Nat→Int}(hd:Dg (clo M))(h0:∀n,n<4→M (at4 n n)≤0) {s:Nat}(hs:s<4):(∀x,Sol M x→ -clo M (at4 s 0)≤x s-x 0)∧Sol M (fun t=>clo M (at4 s t))∧clo M (at4 s s)=0:=by
 refine⟨fun x hx=>by have:=(ud4.2 hx) s 0 hs (by omega);omega,ud4.1 (uoh (ukJ hd) hd s hs),?_⟩
 have a:=hd s hs
 have b:=uhM M (at4 s s)
 have c:=h0 s hs
 omega
end Go.Eng.Dif

namespace Go.Eng.Dif
structure Lk where
 a:Nat
 b:Nat
 lo:Int
 hi:Int
structure Fa where
 s:Nat
 lo:Int
 hi:Int
structure Tr (S:Nat)(ls:List Lk)(fs:List Fa)(x:Nat→Int):Prop where
 r:∀s,s<S→0≤x s∧x s≤2000
 l:∀k∈ls,k.lo≤x k.b-x k.a∧x k.b-x k.a≤k.hi
 f:∀k∈fs,k.lo≤x k.s∧x k.s≤k.hi
structure Okk (S:Nat)(ls:List Lk)(fs:List Fa):Prop where
 s1:1≤S
 s3:S≤3
 l:∀k∈ls,k.a<S∧k.b<S∧k.a≠k.b
 f:∀k∈fs,k.s<S
def bS (n:Nat):List Btw:=(List.range n).map fun s=>⟨0,s+1,0,2000⟩
def bL_ (ls:List Lk):List Btw:=ls.map fun k=>⟨k.a+1,k.b+1,k.lo,k.hi⟩
def bF (fs:List Fa):List Btw:=fs.map fun k=>⟨0,k.s+1,k.lo,k.hi⟩
def ug8 (S:Nat)(ls:List Lk)(fs:List Fa):Nat→Int:=uog M00 (bS S++bL_ ls++bF fs)
theorem uuQ {x:Nat→Int}(h:∀s,s<4→0≤x s∧x s≤2000):Sol M00 x:=by
 intro f t hf ht
 unfold M00
 rw [uig ht,uiW ht]
 have a:=h f hf
 have b:=h t ht
 split
 ·rename_i e;subst e;omega
 ·omega
theorem uta {S:Nat} {ls:List Lk} {fs:List Fa}(h:Okk S ls fs):∀b∈bS S++bL_ ls++bF fs,b.f<4∧b.t<4:=by
 intro b hb
 have s3:=h.s3
 rcases List.mem_append.1 hb with hb|hb
 ·rcases List.mem_append.1 hb with hb|hb
  ·obtain⟨s,hs,rfl⟩:=List.mem_map.1 hb
   have:=List.mem_range.1 hs
   exact⟨by show 0<4;omega,by show s+1<4;omega⟩
  ·obtain⟨k,hk,rfl⟩:=List.mem_map.1 hb
   have:=h.l k hk
   exact⟨by show k.a+1<4;omega,by show k.b+1<4;omega⟩
 ·obtain⟨k,hk,rfl⟩:=List.mem_map.1 hb
  have:=h.f k hk
  exact⟨by show 0<4;omega,by show k.s+1<4;omega⟩
theorem umr {S:Nat} {ls:List Lk} {fs:List Fa}(h:Okk S ls fs) {y:Nat→Int}(hy:Sol (ug8 S ls fs) y):Tr S ls fs (fun s=>y (s+1)-y 0):=by
 have q:=((umT (uta h)).1 hy).2
 refine⟨fun s hs=> ?_,fun k hk=> ?_,fun k hk=> ?_⟩
 ·exact q ⟨0,s+1,0,2000⟩ (List.mem_append_left _ (List.mem_append_left _ (List.mem_map.2 ⟨s,List.mem_range.2 hs,rfl⟩)))
 ·have:=q ⟨k.a+1,k.b+1,k.lo,k.hi⟩ (List.mem_append_left _ (List.mem_append_right _ (List.mem_map.2 ⟨k,hk,rfl⟩)))
  unfold Btw.Is at this
  simp only at this⊢
  omega
 ·exact q ⟨0,k.s+1,k.lo,k.hi⟩ (List.mem_append_right _ (List.mem_map.2 ⟨k,hk,rfl⟩))
def nod (S:Nat)(x:Nat→Int)(n:Nat):Int:=if n=0 then 0 else if n≤S then x (n-1)else 0
theorem ujb {S:Nat} {x:Nat→Int} {s:Nat}(h:s<S):nod S x (s+1)=x s:=by
 unfold nod
 rw [if_neg (by omega),if_pos (by omega)];rfl
theorem uhQ {S:Nat} {ls:List Lk} {fs:List Fa}(h:Okk S ls fs) {x:Nat→Int}(hx:Tr S ls fs x):Sol (ug8 S ls fs) (nod S x):=by
 refine(umT (uta h)).2 ⟨uuQ fun s hs=> ?_,fun b hb=> ?_⟩
 ·unfold nod
  split
  ·omega
  ·split
   ·exact hx.r _ (by omega)
   ·omega
 ·rcases List.mem_append.1 hb with hb|hb
  ·rcases List.mem_append.1 hb with hb|hb
   ·obtain⟨s,hs,rfl⟩:=List.mem_map.1 hb
    have hs:=List.mem_range.1 hs
    have:=hx.r s hs
    show 0≤nod S x (s+1)-nod S x 0∧nod S x (s+1)-nod S x 0≤2000
    rw [ujb hs]
    show 0≤x s-0∧x s-0≤2000
    omega
   ·obtain⟨k,hk,rfl⟩:=List.mem_map.1 hb
    have o:=h.l k hk
    have:=hx.l k hk
    show k.lo≤nod S x (k.b+1)-nod S x (k.a+1)∧nod S x (k.b+1)-nod S x (k.a+1)≤k.hi
    rw [ujb o.1,ujb o.2.1]
    exact this
  ·obtain⟨k,hk,rfl⟩:=List.mem_map.1 hb
   have o:=h.f k hk
   have:=hx.f k hk
   show k.lo≤nod S x (k.s+1)-nod S x 0∧nod S x (k.s+1)-nod S x 0≤k.hi
   rw [ujb o]
   show k.lo≤x k.s-0∧x k.s-0≤k.hi
   omega
theorem uiw (S:Nat)(ls:List Lk)(fs:List Fa)(n:Nat)(hn:n<4):ug8 S ls fs (at4 n n)≤0:=by
 have:=uqy (M:=M00) (l:=bS S++bL_ ls++bF fs) (at4 n n)
 have e:M00 (at4 n n)=0:=by unfold M00;rw [uig hn,uiW hn,if_pos rfl]
 unfold ug8
 omega
def hiD (S:Nat)(ls:List Lk)(fs:List Fa)(s:Nat):Int:=clo (ug8 S ls fs) (at4 0 (s+1))
def loD (S:Nat)(ls:List Lk)(fs:List Fa)(s:Nat):Int:= -clo (ug8 S ls fs) (at4 (s+1) 0)
def ueJ (S:Nat)(ls:List Lk)(fs:List Fa):Bool:=okD (clo (ug8 S ls fs))
theorem uba {S:Nat} {ls:List Lk} {fs:List Fa}(h:Okk S ls fs):ueJ S ls fs=true↔∃x,Tr S ls fs x:=by
 unfold ueJ
 rw [ut3]
 exact⟨fun ⟨y,hy⟩=>⟨_,umr h hy⟩,fun ⟨x,hx⟩=>⟨_,uhQ h hx⟩⟩
theorem uk1 {S:Nat} {ls:List Lk} {fs:List Fa}(h:Okk S ls fs)(hc:ueJ S ls fs=true) {s:Nat}(hs:s<S):(∀x,Tr S ls fs x→x s≤hiD S ls fs s)∧∃x,Tr S ls fs x∧x s=hiD S ls fs s:=by
 have s3:=h.s3
 have q:=uwh (ufK.1 hc) (uiw S ls fs 0 (by omega)) (s:=s+1) (by omega)
 refine⟨fun x hx=> ?_,_,umr h q.2.1,?_⟩
 ·have:=q.1 _ (uhQ h hx)
  rw [ujb hs]at this
  show x s≤clo _ _
  have e:nod S x 0=0:=rfl
  omega
 ·show clo _ (at4 0 (s+1))-clo _ (at4 0 0)=clo _ (at4 0 (s+1))
  rw [q.2.2];omega
theorem uke {S:Nat} {ls:List Lk} {fs:List Fa}(h:Okk S ls fs)(hc:ueJ S ls fs=true) {s:Nat}(hs:s<S):(∀x,Tr S ls fs x→loD S ls fs s≤x s)∧∃x,Tr S ls fs x∧x s=loD S ls fs s:=by
 have s3:=h.s3
 have q:=uz1 (ufK.1 hc) (fun n hn=>uiw S ls fs n hn) (s:=s+1) (by omega)
 refine⟨fun x hx=> ?_,_,umr h q.2.1,?_⟩
 ·have:=q.1 _ (uhQ h hx)
  rw [ujb hs]at this
  show -clo _ _≤x s
  have e:nod S x 0=0:=rfl
  omega
 ·show clo _ (at4 (s+1) (s+1))-clo _ (at4 (s+1) 0) = -clo _ (at4 (s+1) 0)
  rw [q.2.2];omega
def urb (s:Nat):List Fa→Int×Int
 |[]=>(0,2000)
 |k::l=>if k.s=s then(mx (urb s l).1 k.lo,mn (urb s l).2 k.hi)else urb s l
def utV (a b:Nat):List Lk→Int×Int
 |[]=>(-2000,2000)
 | k::l=>
  let r:=utV a b l
  let r:=if k.a=a∧k.b=b then(mx r.1 k.lo,mn r.2 k.hi)else r
  if k.a=b∧k.b=a then(mx r.1 (-k.hi),mn r.2 (-k.lo))else r
def six (S:Nat)(ls:List Lk)(fs:List Fa):Six:=
 ⟨(urb 0 fs).1,(urb 0 fs).2,if 1<S then(urb 1 fs).1 else 0,if 1<S then(urb 1 fs).2 else 0,if 2<S then(urb 2 fs).1 else 0,if 2<S then(urb 2 fs).2 else 0,
  if 1<S then(utV 0 1 ls).1 else -2000,if 1<S then(utV 0 1 ls).2 else 2000,if 2<S then(utV 0 2 ls).1 else -2000,if 2<S then(utV 0 2 ls).2 else 2000,if 2<S then(utV 1 2 ls).1 else -2000,if 2<S then(utV 1 2 ls).2 else 2000⟩
def tri (n p q:Int)(s:Nat):Int:=if s=0 then n else if s=1 then p else q
def Bnd.lo (b:Bnd)(s:Nat):Int:=if s=0 then b.l0 else if s=1 then b.l1 else b.l2
def Bnd.hi (b:Bnd)(s:Nat):Int:=if s=0 then b.h0 else if s=1 then b.h1 else b.h2
end Go.Eng.Dif

namespace Go.Eng.Dif
open Go.Eng.Few
structure Rep (S:Nat)(ls:List Lk)(fs:List Fa)(s:Six):Prop where
 sml:Sml s
 tr:∀n p q,Fits s n p q→Tr S ls fs (tri n p q)
 fit:∀x,Tr S ls fs x→Fits s (x 0) (if 1<S then x 1 else 0) (if 2<S then x 2 else 0)
def f0 :Fa:=⟨0,0,0⟩
def lk0 :Lk:=⟨0,0,0,0⟩
def kpN (fs:List Fa)(c:Nat→Bool):Nat→List Fa
 |0=>[]
 |i+1=>if c i=true then kpN fs c i++[fs.getD i f0]else kpN fs c i
theorem ukH {fs:List Fa} {c:Nat→Bool} {n:Nat} {k:Fa}:k∈kpN fs c n↔∃i,i<n∧c i=true∧k=fs.getD i f0:=by
 induction n with
 |zero=>simp [kpN]
 | succ n ih=>
  simp only [kpN]
  split
  ·rename_i q
   rw [List.mem_append,ih,List.mem_singleton]
   constructor
   ·rintro(⟨i,hi,e⟩|e)
    ·exact⟨i,by omega,e⟩
    ·exact⟨n,by omega,q,e⟩
   ·rintro⟨i,hi,hc,e⟩
    by_cases w:i=n
    ·subst w;exact .inr e
    ·exact .inl ⟨i,by omega,hc,e⟩
  ·rename_i q
   rw [ih]
   constructor
   ·rintro⟨i,hi,e⟩;exact⟨i,by omega,e⟩
   ·rintro⟨i,hi,hc,e⟩
    by_cases w:i=n
    ·subst w;exact absurd hc q
    ·exact⟨i,by omega,hc,e⟩
theorem uuW {fs:List Fa} {i:Nat}(h:i<fs.length):fs.getD i f0∈fs:=by
 rw [List.getD_eq_getElem?_getD,List.getElem?_eq_getElem h];exact List.getElem_mem h
theorem uy8 {ls:List Lk} {i:Nat}(h:i<ls.length):ls.getD i lk0∈ls:=by
 rw [List.getD_eq_getElem?_getD,List.getElem?_eq_getElem h];exact List.getElem_mem h
theorem uyU {ls:List Lk} {k:Lk}(h:k∈ls):∃i,i<ls.length∧ls.getD i lk0=k:=by
 obtain⟨i,hi,e⟩:=List.getElem_of_mem h
 exact⟨i,hi,by rw [List.getD_eq_getElem?_getD,List.getElem?_eq_getElem hi];exact e⟩
theorem uwM {fs:List Fa} {k:Fa}(h:k∈fs):∃i,i<fs.length∧fs.getD i f0=k:=by
 obtain⟨i,hi,e⟩:=List.getElem_of_mem h
 exact⟨i,hi,by rw [List.getD_eq_getElem?_getD,List.getElem?_eq_getElem hi];exact e⟩
theorem uwf {S:Nat} {ls:List Lk} {fs:List Fa}(h:Okk S ls fs)(c:Nat→Bool) {n:Nat}(hn:n≤fs.length):Okk S ls (kpN fs c n):=
 ⟨h.s1,h.s3,h.l,fun k hk=>by obtain⟨i,hi,_,e⟩:=ukH.1 hk;rw [e];exact h.f _ (uuW (by omega))⟩
end Go.Eng.Dif

namespace Go.Eng.Dif
open Go.Eng.Few
def ukq (o:List Int)(i:Nat):Bool:= !(o.contains (i:Int))
def unC (S:Nat)(ls:List Lk)(fs:List Fa)(c:Nat→Bool):Bool:=ueJ S ls (kpN fs c fs.length)
theorem uwN {S:Nat} {ls:List Lk} {fs:List Fa} {c:Nat→Bool} {x:Nat→Int}:Tr S ls (kpN fs c fs.length) x↔Tr S ls [] x∧∀i,i<fs.length→c i=true→(fs.getD i f0).lo≤x (fs.getD i f0).s∧x (fs.getD i f0).s≤(fs.getD i f0).hi:=by
 constructor
 ·intro h
  exact⟨⟨h.r,h.l,fun k hk=>by cases hk⟩,fun i hi hc=>h.f _ (ukH.2 ⟨i,hi,hc,rfl⟩)⟩
 ·rintro⟨h1,h2⟩
  refine⟨h1.r,h1.l,fun k hk=> ?_⟩
  obtain⟨i,hi,hc,rfl⟩:=ukH.1 hk
  exact h2 i hi hc
theorem uee {S:Nat} {ls:List Lk} {fs:List Fa}(h:Okk S ls fs) {c:Nat→Bool}:unC S ls fs c=true↔∃x,Tr S ls [] x∧∀i,i<fs.length→c i=true→(fs.getD i f0).lo≤x (fs.getD i f0).s∧x (fs.getD i f0).s≤(fs.getD i f0).hi:=by
 unfold unC
 rw [uba (uwf h c (Nat.le_refl _))]
 exact⟨fun ⟨x,hx⟩=>⟨x,uwN.1 hx⟩,fun ⟨x,hx⟩=>⟨x,uwN.2 hx⟩⟩
theorem ujT {S:Nat} {ls:List Lk} {fs:List Fa}(h:Okk S ls fs) {c d:Nat→Bool}(hcd:∀i,i<fs.length→d i=true→c i=true)(hc:unC S ls fs c=true):unC S ls fs d=true:=by
 rw [uee h]at hc⊢
 obtain⟨x,h1,h2⟩:=hc
 exact⟨x,h1,fun i hi hd=>h2 i hi (hcd i hi hd)⟩
theorem uj4 {S:Nat} {ls:List Lk} {fs:List Fa}(h:Okk S ls fs) {c d:Nat→Bool}(hcd:∀i,i<fs.length→d i=c i):unC S ls fs c=unC S ls fs d:=
 Bool.eq_iff_iff.2 ⟨ujT h fun i hi q=>by rw [←hcd i hi];exact q,ujT h fun i hi q=>by rw [hcd i hi];exact q⟩
theorem upB {S:Nat} {ls:List Lk} {fs:List Fa}(h:Okk S ls fs):Okk S ls []:=⟨h.s1,h.s3,h.l,fun k hk=>by cases hk⟩
theorem ukd {S:Nat} {ls:List Lk} {fs:List Fa}(h:Okk S ls fs) {c:Nat→Bool}(hc:∀i,i<fs.length→c i=false):unC S ls fs c=ueJ S ls []:=by
 apply Bool.eq_iff_iff.2
 rw [uee h,uba (upB h)]
 exact⟨fun ⟨x,h1,_⟩=>⟨x,h1⟩,fun ⟨x,h1⟩=>⟨x,h1,fun i hi q=>by rw [hc i hi]at q;cases q⟩⟩
theorem uix {S:Nat} {ls:List Lk} {fs:List Fa}(h:Okk S ls fs) {c:Nat→Bool}(hc:∀i,i<fs.length→c i=true):unC S ls fs c=ueJ S ls fs:=by
 apply Bool.eq_iff_iff.2
 rw [uee h,uba h]
 constructor
 ·rintro⟨x,h1,h2⟩
  refine⟨x,h1.r,h1.l,fun k hk=> ?_⟩
  obtain⟨i,hi,e⟩:=uwM hk
  rw [←e]
  exact h2 i hi (hc i hi)
 ·rintro⟨x,hx⟩
  exact⟨x,⟨hx.r,hx.l,fun k hk=>by cases hk⟩,fun i hi _=>hx.f _ (uuW hi)⟩
def okF (S:Nat)(ls:List Lk)(fs:List Fa)(o:List Int):Bool:=unC S ls fs (ukq o)
theorem upv {S:Nat} {ls:List Lk} {fs:List Fa}(h:Okk S ls fs):okF S ls fs (ub0 fs.length)=ueJ S ls []:=
 ukd h fun i hi=>by unfold ukq;rw [List.contains_iff_mem.2 (umt hi)];rfl
theorem utA {S:Nat} {ls:List Lk} {fs:List Fa}(h:Okk S ls fs):okF S ls fs []=ueJ S ls fs:=
 uix h fun i _=>rfl
def uxB (pt:Nat→Int)(o:List Int)(i:Nat):Bool:= !(o.contains (pt i))
def okP (S:Nat)(ls:List Lk)(fs:List Fa)(pt:Nat→Int)(o:List Int):Bool:=unC S ls fs (uxB pt o)
theorem upY {S:Nat} {ls:List Lk} {fs:List Fa}(h:Okk S ls fs) {pt:Nat→Int} {P:Nat}(hpt:∀i,i<fs.length→0≤pt i∧pt i<(P:Int)):okP S ls fs pt (ub0 P)=ueJ S ls []:=
 ukd h fun i hi=>by
  have hp:=hpt i hi
  have:=umt (n:=P) (i:=(pt i).toNat) (by omega)
  rw [show(((pt i).toNat:Nat):Int)=pt i by omega]at this
  unfold uxB
  rw [List.contains_iff_mem.2 this];rfl
theorem uuG {S:Nat} {ls:List Lk} {fs:List Fa}(h:Okk S ls fs)(pt:Nat→Int):okP S ls fs pt []=ueJ S ls fs:=
 uix h fun i _=>rfl
def utB (S:Nat)(ls:List Lk)(fs:List Fa):Nat→Nat→Option Nat
 |0,_=>none
 |k+1,i=>if ueJ S ls (fs.take (i+1))=true then utB S ls fs k (i+1)else some i
theorem uoj {fs:List Fa} {n i:Nat}(h:i<n):(fs.take n).getD i f0=fs.getD i f0:=by
 simp only [List.getD_eq_getElem?_getD,List.getElem?_take,if_pos h]
theorem urB {S:Nat} {ls:List Lk} {fs:List Fa}(h:Okk S ls fs):ueJ S ls fs=true↔∃x,Tr S ls [] x∧∀i,i<fs.length→(fs.getD i f0).lo≤x (fs.getD i f0).s∧x (fs.getD i f0).s≤(fs.getD i f0).hi:=by
 rw [←uix h (c:=fun _=>true) (fun _ _=>rfl),uee h]
 exact⟨fun ⟨x,h1,h2⟩=>⟨x,h1,fun i hi=>h2 i hi rfl⟩,fun ⟨x,h1,h2⟩=>⟨x,h1,fun i hi _=>h2 i hi⟩⟩
theorem urW {S:Nat} {ls:List Lk} {fs:List Fa}(h:Okk S ls fs)(n:Nat):Okk S ls (fs.take n):=⟨h.s1,h.s3,h.l,fun k hk=>h.f k (List.mem_of_mem_take hk)⟩
theorem uqX {S:Nat} {ls:List Lk} {fs:List Fa}(h:Okk S ls fs)(n:Nat):ueJ S ls (fs.take n)=unC S ls fs (fun i=>decide (i<n)):=by
 apply Bool.eq_iff_iff.2
 rw [urB (urW h n),uee h]
 constructor
 ·rintro⟨x,h1,h2⟩
  refine⟨x,h1,fun i hi hn=> ?_⟩
  have hn:=of_decide_eq_true hn
  have:=h2 i (by rw [List.length_take];omega)
  rwa [uoj hn]at this
 ·rintro⟨x,h1,h2⟩
  refine⟨x,h1,fun i hi=> ?_⟩
  rw [List.length_take]at hi
  rw [uoj (by omega)]
  exact h2 i (by omega) (decide_eq_true (by omega))
end Go.Eng.Dif

namespace Go.Eng.Dif
open Go.Eng.Few
theorem uu4 {g:Nat→Bool} {x:Int}:∀{n:Nat},x∈ubU g n↔∃i,i<n∧g i=true∧x=(i:Int):=by
 intro n
 induction n with
 |zero=>simp [ubU]
 | succ n ih=>
  simp only [ubU]
  split
  ·rename_i q
   rw [List.mem_append,ih]
   constructor
   ·rintro(⟨i,hi,hg,e⟩|hx)
    ·exact⟨i,by omega,hg,e⟩
    ·rw [List.mem_singleton]at hx
     exact⟨n,by omega,q,hx⟩
   ·rintro⟨i,hi,hg,e⟩
    by_cases c:i=n
    ·right;rw [List.mem_singleton,e,c]
    ·left;exact⟨i,by omega,hg,e⟩
  ·rename_i q
   rw [ih]
   constructor
   ·rintro⟨i,hi,hg,e⟩;exact⟨i,by omega,hg,e⟩
   ·rintro⟨i,hi,hg,e⟩
    by_cases c:i=n
    ·subst c;exact absurd hg q
    ·exact⟨i,by omega,hg,e⟩
theorem upJ {g:Nat→Bool} {n:Nat}:Asc n 0 (ubU g n):=by
 have h:∀m,∃b:Nat,∀i,i<m→b.testBit i=g i:=by
  intro m
  induction m with
  |zero=>exact⟨0,fun i hi=>by omega⟩
  | succ m ih=>
   obtain⟨b,hb⟩:=ih
   by_cases c:b.testBit m=g m
   ·exact⟨b,fun i hi=>by
     by_cases e:i=m
     ·subst e;exact c
     ·exact hb i (by omega)⟩
   ·refine⟨b ^^^2^m,fun i hi=> ?_⟩
    rw [Nat.testBit_xor,Nat.testBit_two_pow]
    by_cases e:i=m
    ·subst e;revert c;cases b.testBit i<;>cases g i<;>simp
    ·rw [decide_eq_false (by omega),Bool.xor_false];exact hb i (by omega)
 obtain⟨b,hb⟩:=h n
 rw [←urD (b:=b) hb]
 exact us2 b n
theorem uqB {n:Nat} {ok:List Int→Bool}(h:ok (ub0 n)=true):(udB n ok).length=0↔ok []=true:=by
 have hs:=ud0 h
 constructor
 ·intro q;have:=hs.2.1;rwa [List.length_eq_zero_iff.1 q]at this
 ·intro q;have:=(hs.2.2 [] trivial q).1;simpa using this
def ux4 (pence n i:Nat):Nat:=pence/n+(if i<pence%n then 1 else 0)
end Go.Eng.Dif

namespace Go.Eng.Dif
open Go.Eng.Few
def uif (S:Nat)(ls:List Lk)(fs:List Fa)(s:Nat)(n:Int)(t:Nat):Int:=clo (ugd (clo (ug8 S ls fs)) ⟨0,s+1,n,n⟩) (at4 0 (t+1))
def utZ (S:Nat)(ls:List Lk)(fs:List Fa)(s:Nat)(high:Bool):Int:=if high=true then hiD S ls fs s else loD S ls fs s
theorem uvk {S:Nat} {ls:List Lk} {fs:List Fa}(h:Okk S ls fs) {s:Nat}(hs:s<S) {n:Int}(hx:∃x,Tr S ls fs x∧x s=n):Tr S ls fs (uif S ls fs s n)∧uif S ls fs s n s=n:=by
 obtain⟨x,hx,hn⟩:=hx
 have h3:=h.s3
 have sm:∀y,Sol (ugd (clo (ug8 S ls fs)) ⟨0,s+1,n,n⟩) y↔Sol (ug8 S ls fs) y∧(⟨0,s+1,n,n⟩:Btw).Is y:=fun y=>by
  rw [uip (by show(0:Nat)<4;omega) (by show s+1<4;omega),ud4]
 have hd:Dg (clo (ugd (clo (ug8 S ls fs)) ⟨0,s+1,n,n⟩)):=by
  rw [←ufK,ut3]
  refine⟨nod S x,(sm _).2 ⟨uhQ h hx,?_⟩⟩
  have e1:=ujb (x:=x) hs
  have e0:nod S x 0=0:=rfl
  unfold Btw.Is
  show n≤nod S x (s+1)-nod S x 0∧nod S x (s+1)-nod S x 0≤n
  omega
 have h0:ugd (clo (ug8 S ls fs)) ⟨0,s+1,n,n⟩ 0≤0:=
  Int.le_trans (ulB _ _ _) (Int.le_trans (uhM _ _) (uiw S ls fs 0 (by omega)))
 have q:=uwh hd h0 (s:=s+1) (by omega)
 have r:=(sm _).1 q.2.1
 have t:=umr h r.1
 have e:(fun s'=>clo (ugd (clo (ug8 S ls fs)) ⟨0,s+1,n,n⟩) (at4 0 (s'+1))-clo (ugd (clo (ug8 S ls fs)) ⟨0,s+1,n,n⟩) (at4 0 0))=uif S ls fs s n:=by
  funext s'
  rw [q.2.2]
  show _-0=clo _ _
  omega
 rw [e]at t
 refine⟨t,?_⟩
 have b:=r.2
 unfold Btw.Is at b
 have b:n≤uif S ls fs s n s-clo (ugd (clo (ug8 S ls fs)) ⟨0,s+1,n,n⟩) (at4 0 0)∧uif S ls fs s n s-clo (ugd (clo (ug8 S ls fs)) ⟨0,s+1,n,n⟩) (at4 0 0)≤n:=b
 rw [q.2.2]at b
 omega
theorem uv4 {S:Nat} {ls:List Lk} {fs:List Fa}(h:Okk S ls fs)(hc:ueJ S ls fs=true) {s:Nat}(hs:s<S)(high:Bool):Tr S ls fs (uif S ls fs s (utZ S ls fs s high))∧uif S ls fs s (utZ S ls fs s high) s=utZ S ls fs s high:=by
 refine uvk h hs ?_
 unfold utZ
 cases high
 ·exact(uke h hc hs).2
 ·exact(uk1 h hc hs).2
theorem ux6 {S:Nat} {ls:List Lk} {fs:List Fa}(h:Okk S ls fs)(hc:ueJ S ls fs=true) {s:Nat}(hs:s<S):0≤loD S ls fs s∧loD S ls fs s≤hiD S ls fs s∧hiD S ls fs s≤2000:=by
 obtain⟨a1,x,hx,ex⟩:=uk1 h hc hs
 obtain⟨b1,y,hy,ey⟩:=uke h hc hs
 have r:=hx.r s hs
 have r':=hy.r s hs
 have:=b1 x hx
 omega
theorem uo4 {S:Nat} {ls:List Lk} {fs:List Fa}(h:Okk S ls fs) {x:Nat→Int}(hx:Tr S ls fs x) {s:Nat}(hs:s<S):loD S ls fs s≤x s∧x s≤hiD S ls fs s:=by
 have hc:=(uba h).2 ⟨x,hx⟩
 exact⟨(uke h hc hs).1 x hx,(uk1 h hc hs).1 x hx⟩
end Go.Eng.Dif

namespace Go.Eng.Dif
open Go.Eng.Few
theorem ukB {n:Nat} {ok:List Int→Bool}(h:ok (ub0 n)=true) {k:Nat}(hk:k<n)(h0:ok []=false)(hj:∀j:Nat,j<k→ok [(j:Int)]=false)(h1:ok [(k:Int)]=true):udB n ok=[(k:Int)]:=by
 have s:=ud0 h
 have a:Asc n 0 [(k:Int)]:=⟨k,rfl,Nat.zero_le _,hk,trivial⟩
 have q:=s.2.2 _ a h1
 generalize udB n ok=F at s q⊢
 match F,s,q with
 |[],s,_=>rw [h0]at s;exact absurd s.2.1 (by decide)
 | [x],s,q=>
  rcases q.2 rfl with e|e
  ·exact e
  ·obtain⟨j,hx,_,_,_⟩:=s.1
   have:x<(k:Int):=by
    rcases e with e|e
    ·exact e
    ·exact absurd e.2 (by intro z;exact z)
   have t:=hj j (by omega)
   have u:=s.2.1
   rw [hx,t]at u;cases u
 |x::y::l,_,q=>exact absurd q.1 (by simp)
theorem ulL {n:Nat} {ok:List Int→Bool}(h:ok (ub0 n)=true)(h0:ok []=true):udB n ok=[]:=List.length_eq_zero_iff.1 ((uqB h).2 h0)
theorem uqG {n:Nat} {ok:List Int→Bool}(h:ok (ub0 n)=true) {k:Nat}(hk:k<n)(h0:ok []=false)(hj:∀j:Nat,j<n→j≠k→ok [(j:Int)]=false)(h1:ok [(k:Int)]=true) {F:List Int}:F∈uaB n ok↔F=[(k:Int)]:=by
 have e:=ukB h hk h0 (fun j hj'=>hj j (by omega) (by omega)) h1
 rw [ufh h,e]
 constructor
 ·rintro⟨a,b,c⟩
  match F,a,b,c with
  | [x],a,b,_=>
   obtain⟨j,hx,_,hj',_⟩:=a
   by_cases q:j=k
   ·rw [hx,q]
   ·rw [hx,hj j hj' q]at b;cases b
  |[],_,_,c=>cases c
  |_::_::_,_,_,c=>simp at c
 ·intro q;rw [q]
  exact⟨⟨k,rfl,Nat.zero_le _,hk,trivial⟩,h1,rfl⟩
theorem uv8 {n:Nat} {ok:List Int→Bool}(h:ok (ub0 n)=true) {k:Nat}(hk:k<n)(h0:ok []=false)(hj:∀j:Nat,j<n→j≠k→ok [(j:Int)]=false)(h1:ok [(k:Int)]=true)(p:Nat):ulu n ok p=decide (p=k)∧ulx n ok p=decide (p=k):=by
 have m:=fun F=>uqG h hk h0 hj h1 (F:=F)
 have c:∀F:List Int,F=[(k:Int)]→(F.contains (p:Int)=true↔p=k):=by
  intro F e
  rw [e,List.contains_iff_mem,List.mem_singleton]
  omega
 constructor
 ·apply Bool.eq_iff_iff.2
  rw [decide_eq_true_iff]
  unfold ulu
  rw [List.all_eq_true]
  exact⟨fun q=>(c _ rfl).1 (q _ ((m _).2 rfl)),fun q F hF=>(c F ((m F).1 hF)).2 q⟩
 ·apply Bool.eq_iff_iff.2
  rw [decide_eq_true_iff]
  unfold ulx
  rw [List.any_eq_true]
  exact⟨fun ⟨F,hF,q⟩=>(c F ((m F).1 hF)).1 q,fun q=>⟨_,(m _).2 rfl,(c _ rfl).2 q⟩⟩
theorem uvj {n:Nat} {ok:List Int→Bool}(h:ok (ub0 n)=true)(h0:ok []=true)(p:Nat):ulu n ok p=false∧ulx n ok p=false:=by
 have m:∀F,F∈uaB n ok↔F=[]:=by
  intro F
  rw [ufh h,ulL h h0]
  constructor
  ·rintro⟨_,_,c⟩;exact List.length_eq_zero_iff.1 c
  ·intro q;rw [q];exact⟨trivial,h0,rfl⟩
 constructor
 ·unfold ulu
  rw [Bool.eq_false_iff]
  intro q
  have:=List.all_eq_true.1 q [] ((m _).2 rfl)
  simp at this
 ·unfold ulx
  rw [Bool.eq_false_iff]
  intro q
  obtain⟨F,hF,g⟩:=List.any_eq_true.1 q
  rw [(m F).1 hF]at g
  simp at g
theorem usz {S:Nat} {ls:List Lk} {fs:List Fa}(h:Okk S ls fs) {s:Nat}(hs:s<S) {n:Int} {x:Nat→Int}(hx:Tr S ls fs x)(hn:x s=n)(hm:∀y,Tr S ls fs y→y s≤n):hiD S ls fs s=n:=by
 have hc:=(uba h).2 ⟨x,hx⟩
 obtain⟨a,y,hy,e⟩:=uk1 h hc hs
 have:=a x hx
 have:=hm y hy
 omega
theorem utf {S:Nat} {ls:List Lk} {fs:List Fa}(h:Okk S ls fs) {s:Nat}(hs:s<S) {n:Int} {x:Nat→Int}(hx:Tr S ls fs x)(hn:x s=n)(hm:∀y,Tr S ls fs y→n≤y s):loD S ls fs s=n:=by
 have hc:=(uba h).2 ⟨x,hx⟩
 obtain⟨a,y,hy,e⟩:=uke h hc hs
 have:=a x hx
 have:=hm y hy
 omega
end Go.Eng.Dif

namespace Go.Eng.Dif
open Go.Eng.Few
def xL3 :List Lk:=[⟨0,1,-3,0⟩]
def xF3 :List Fa:=[⟨0,115,119⟩,⟨0,98,102⟩,⟨1,116,116⟩]
def xF2 :List Fa:=[⟨0,115,119⟩,⟨1,116,116⟩]
def xP3 (i:Nat):Int:=(i:Int)
def xP2 (i:Nat):Int:=if i=0 then 0 else 2
def xT (a b:Int)(s:Nat):Int:=if s=0 then a else b
theorem us0 {a b:Int}(ha:0≤a∧a≤2000)(hb:0≤b∧b≤2000)(hd: -3≤b-a∧b-a≤0):Tr 2 xL3 [] (xT a b):=by
 refine⟨fun s hs=> ?_,fun k hk=> ?_,fun k hk=>by cases hk⟩
 ·unfold xT;split<;>assumption
 ·rw [List.mem_singleton.1 hk];exact hd
theorem uxt :Okk 2 xL3 xF3:=by
 refine⟨by decide,by decide,fun k hk=> ?_,fun k hk=> ?_⟩
 ·rw [List.mem_singleton.1 hk];exact⟨by decide,by decide,by decide⟩
 ·unfold xF3 at hk
  simp only [List.mem_cons,List.not_mem_nil,or_false]at hk
  rcases hk with e|e|e<;>rw [e]<;>decide
theorem uqR :Okk 2 xL3 xF2:=by
 refine⟨by decide,by decide,fun k hk=> ?_,fun k hk=> ?_⟩
 ·rw [List.mem_singleton.1 hk];exact⟨by decide,by decide,by decide⟩
 ·unfold xF2 at hk
  simp only [List.mem_cons,List.not_mem_nil,or_false]at hk
  rcases hk with e|e<;>rw [e]<;>decide
theorem xc3 (c:Nat→Bool):unC 2 xL3 xF3 c = !(c 1&&(c 0||c 2)):=by
 apply Bool.eq_iff_iff.2
 rw [uee uxt]
 constructor
 ·rintro⟨x,t,hf⟩
  have hl: -3≤x 1-x 0∧x 1-x 0≤0:=t.l _ (List.mem_singleton.2 rfl)
  have f0:c 0=true→115≤x 0∧x 0≤119:=hf 0 (by decide)
  have f1:c 1=true→98≤x 0∧x 0≤102:=hf 1 (by decide)
  have f2:c 2=true→116≤x 1∧x 1≤116:=hf 2 (by decide)
  cases h1:c 1
  ·rfl
  ·have f1:=f1 h1
   cases h0:c 0
   ·cases h2:c 2
    ·rfl
    ·have f2:=f2 h2;omega
   ·have f0:=f0 h0;omega
 ·intro q
  cases h1:c 1
  ·refine⟨xT 117 116,us0 (by decide) (by decide) (by decide),fun i hi hc=> ?_⟩
   have hi:i<3:=hi
   rcases(show i=0∨i=1∨i=2 by omega)with e|e|e<;>subst e
   ·exact⟨by decide,by decide⟩
   ·rw [h1]at hc;cases hc
   ·exact⟨by decide,by decide⟩
  ·rw [h1]at q
   cases h0:c 0
   ·cases h2:c 2
    ·refine⟨xT 100 100,us0 (by decide) (by decide) (by decide),fun i hi hc=> ?_⟩
     have hi:i<3:=hi
     rcases(show i=0∨i=1∨i=2 by omega)with e|e|e<;>subst e
     ·rw [h0]at hc;cases hc
     ·exact⟨by decide,by decide⟩
     ·rw [h2]at hc;cases hc
    ·rw [h0,h2]at q;cases q
   ·rw [h0]at q;cases q
theorem urp :ueJ 2 xL3 []=true:=(uba (upB uxt)).2 ⟨_,us0 (a:=117) (b:=116) (by decide) (by decide) (by decide)⟩
theorem uxu (o:List Int):okF 2 xL3 xF3 o = !(!(o.contains 1)&&(!(o.contains 0)|| !(o.contains 2))):=xc3 _
theorem uuI (o:List Int):okP 2 xL3 xF3 xP3 o = !(!(o.contains 1)&&(!(o.contains 0)|| !(o.contains 2))):=xc3 _
theorem uyf :udB 3 (okF 2 xL3 xF3)=[1]:=by
 have hj:∀j:Nat,j<1→okF 2 xL3 xF3 [(j:Int)]=false:=fun j hj=>by
  rw [uxu]
  rcases(show j=0 by omega)with e
  subst e;decide
 exact ukB (n:=3) (k:=1) (by rw [uxu];decide) (by decide) (by rw [uxu];decide) hj (by rw [uxu];decide)
theorem uut :udB 3 (okP 2 xL3 xF3 xP3)=[1]∧ubU (ulu 3 (okP 2 xL3 xF3 xP3)) 3=[1]∧ubU (ulx 3 (okP 2 xL3 xF3 xP3)) 3=[1]:=by
 have hj:∀j:Nat,j<3→j≠1→okP 2 xL3 xF3 xP3 [(j:Int)]=false:=fun j hj h1=>by
  rw [uuI]
  rcases(show j=0∨j=2 by omega)with e|e<;>subst e<;>decide
 have a:=uv8 (n:=3) (k:=1) (ok:=okP 2 xL3 xF3 xP3) (by rw [uuI];decide) (by decide) (by rw [uuI];decide) hj (by rw [uuI];decide)
 refine⟨ukB (n:=3) (k:=1) (by rw [uuI];decide) (by decide) (by rw [uuI];decide) (fun j q=>hj j (by omega) (by omega)) (by rw [uuI];decide),?_,?_⟩
 ·simp only [ubU,(a _).1];decide
 ·simp only [ubU,(a _).2];decide
theorem xt2 {a b:Int}(ha:116≤a∧a≤119)(hb:b=116):Tr 2 xL3 xF2 (xT a b):=by
 have t:=us0 (a:=a) (b:=b) (by omega) (by omega) (by omega)
 refine⟨t.r,t.l,fun k hk=> ?_⟩
 unfold xF2 at hk
 simp only [List.mem_cons,List.not_mem_nil,or_false]at hk
 rcases hk with e|e<;>rw [e]
 ·show 115≤a∧a≤119;omega
 ·show 116≤b∧b≤116;omega
theorem xi2 {x:Nat→Int}(t:Tr 2 xL3 xF2 x):116≤x 0∧x 0≤119∧x 1=116:=by
 have hl: -3≤x 1-x 0∧x 1-x 0≤0:=t.l _ (List.mem_singleton.2 rfl)
 have h0:115≤x 0∧x 0≤119:=t.f ⟨0,115,119⟩ (by unfold xF2;exact List.mem_cons_self ..)
 have h1:116≤x 1∧x 1≤116:=t.f ⟨1,116,116⟩ (by unfold xF2;exact List.mem_cons_of_mem _ (List.mem_cons_self ..))
 omega
theorem urK :ueJ 2 xL3 xF2=true∧loD 2 xL3 xF2 0=116∧hiD 2 xL3 xF2 0=119∧loD 2 xL3 xF2 1=116∧hiD 2 xL3 xF2 1=116:=
 ⟨(uba uqR).2 ⟨_,xt2 (a:=117) (by decide) rfl⟩,
  utf uqR (by decide) (xt2 (a:=116) (by decide) rfl) rfl fun y h=>(xi2 h).1,
  usz uqR (by decide) (xt2 (a:=119) (by decide) rfl) rfl fun y h=>(xi2 h).2.1,
  utf uqR (by decide) (xt2 (a:=116) (by decide) rfl) rfl fun y h=>Int.le_of_eq (xi2 h).2.2.symm,
  usz uqR (by decide) (xt2 (a:=119) (by decide) rfl) rfl fun y h=>Int.le_of_eq (xi2 h).2.2⟩
theorem uyV :udB 3 (okP 2 xL3 xF2 xP2)=[]∧udB 2 (okF 2 xL3 xF2)=[]∧ubU (ulu 3 (okP 2 xL3 xF2 xP2)) 3=[]∧ubU (ulx 3 (okP 2 xL3 xF2 xP2)) 3=[]:=by
 have hp:∀i,i<xF2.length→0≤xP2 i∧xP2 i<((3:Nat):Int):=fun i _=>by unfold xP2;split<;>decide
 have h:okP 2 xL3 xF2 xP2 (ub0 3)=true:=by rw [upY uqR hp];exact urp
 have h0:okP 2 xL3 xF2 xP2 []=true:=by rw [uuG uqR];exact urK.1
 have a:=uvj h h0
 have hall:okF 2 xL3 xF2 (ub0 2)=true:=(upv uqR).trans urp
 refine⟨ulL h h0,ulL (hall) (by rw [utA uqR];exact urK.1),?_,?_⟩
 ·simp only [ubU,(a _).1];decide
 ·simp only [ubU,(a _).2];decide
theorem uzm (n:Nat):ueJ 2 xL3 (xF3.take n) = !(decide (1<n)&&(decide (0<n)||decide (2<n))):=by
 rw [uqX uxt,xc3]
theorem uyb :utB 2 xL3 xF3 3 0=some 1:=by
 have a:ueJ 2 xL3 (xF3.take 1)=true:=by rw [uzm];decide
 have b:ueJ 2 xL3 (xF3.take 2)=false:=by rw [uzm];decide
 simp [utB,a,b]
end Go.Eng.Dif

namespace Go.Eng.Dif
open Go.Eng.Few
def ucm (pence:Nat)(L:List Int)(n:Nat):Nat→Nat→Int
 |0,_=>0
 |k+1,p=>if(p:Int)=L.getD k 0 then(ux4 pence n k:Int)else ucm pence L n k p
theorem urU (P:Nat):Asc P 0 (ub0 P):=by
 have:ub0 P=ubU (fun _=>true) P:=by
  induction P with
  |zero=>rfl
  |succ P ih=>simp only [ubU,ub0,ih,if_true]
 rw [this]
 exact upJ
theorem uit (P:Nat):(ub0 P).length=P:=by
 induction P with
 |zero=>rfl
 |succ P ih=>simp only [ub0,List.length_append,List.length_singleton,ih]
def ukU (P:Nat)(must:List Int):List Int:=if must.length=0 then ub0 P else must
theorem uro {P:Nat} {must:List Int}(hP:0<P)(h:Asc P 0 must):Asc P 0 (ukU P must)∧0<(ukU P must).length:=by
 unfold ukU
 split
 ·exact⟨urU P,by rw [uit];exact hP⟩
 ·exact⟨h,by omega⟩
end Go.Eng.Dif

namespace Go.Eng.Dif
open Go.Eng.Few
theorem uv1 {g:Nat→Bool} {n p:Nat}(hp:p<n):(ubU g n).contains (p:Int)=g p:=by
 apply Bool.eq_iff_iff.2
 rw [List.contains_iff_mem,uu4]
 constructor
 ·rintro⟨i,_,hg,e⟩
  have:p=i:=Int.ofNat.inj e
  rw [this];exact hg
 ·intro q;exact⟨p,hp,q,rfl⟩
end Go.Eng.Dif

namespace Go.Eng.Dif
open Go.Eng.Few
theorem uzZ :kpN xF3 (ukq [1]) 3=xF2:=by
 have a:ukq [1] 0=true:=by decide
 have b:ukq [1] 1=false:=by decide
 have c:ukq [1] 2=true:=by decide
 simp only [kpN,a,b,c]
 rfl
theorem uvP :ucm 100 [1] 1 1 0=0∧ucm 100 [1] 1 1 1=100∧ucm 100 [1] 1 1 2=0:=by decide
theorem uwJ :ucm 100 [0,1,2] 3 3 0=34∧ucm 100 [0,1,2] 3 3 1=33∧ucm 100 [0,1,2] 3 3 2=33:=by decide
end Go.Eng.Dif

namespace Go.Eng.Dif
theorem uwo {M:Nat→Int}(h:∀i,i<16→ -2000≤M i):∀n i,i<16→ -(6^(4*n)*2000)≤fwP M n i:=by
 intro n
 induction n with
 |zero=>intro i hi;simpa [fwP]using h i hi
 | succ n ih=>
  intro i hi
  have a:=usO (M:=fwP M n) (b:=6^(4*n)*2000) (Int.mul_nonneg (Int.pow_nonneg (by decide)) (by decide)) ih 4 (by omega) i hi
  have e:(6:Int)^4*(6^(4*n)*2000)=6^(4*(n+1))*2000:=by
   rw [show 4*(n+1)=4+4*n by omega,Int.pow_add,Int.mul_assoc]
  rw [e]at a
  exact a
theorem uwt {M:Nat→Int}(h:∀i,i<16→ -2000≤M i)(h2:∀i,i<16→M i≤2000) {n v k i:Nat}(hn:n<4)(hv:v<4)(hk:k≤16)(hi:i<16): -5642219814912000≤phN v (fwN (fwP M n) v) k i∧phN v (fwN (fwP M n) v) k i≤2000:=by
 constructor
 ·have a:=uwo h n
  have p0:(0:Int)≤6^(4*n)*2000:=Int.mul_nonneg (Int.pow_nonneg (by decide)) (by decide)
  have b:=usO p0 a v (by omega)
  have p1:(0:Int)≤6^v*(6^(4*n)*2000):=Int.mul_nonneg (Int.pow_nonneg (by decide)) p0
  have c:=utg hv p1 b hk hi
  have e:(6:Int)*(6^v*(6^(4*n)*2000))≤5642219814912000:=by
   rcases(show n=0∨n=1∨n=2∨n=3 by omega)with q|q|q|q<;>rcases(show v=0∨v=1∨v=2∨v=3 by omega)with r|r|r|r<;>subst q<;>subst r<;>decide
  omega
 ·exact Int.le_trans (uqD _ _ _ _) (Int.le_trans (uto _ _ _) (Int.le_trans (usX _ _ _) (h2 i hi)))
theorem upA {S:Nat} {ls:List Lk} {fs:List Fa}(hl:∀k∈ls,-2000≤k.lo∧k.lo≤2000∧ -2000≤k.hi∧k.hi≤2000)(hf:∀k∈fs,-2000≤k.lo∧k.lo≤2000∧ -2000≤k.hi∧k.hi≤2000)(i:Nat): -2000≤ug8 S ls fs i∧ug8 S ls fs i≤2000:=by
 constructor
 ·refine uum ?_ fun b hb=> ?_
  ·unfold M00;split<;>decide
  ·rw [List.mem_append,List.mem_append]at hb
   rcases hb with(hb|hb)|hb
   ·unfold bS at hb
    obtain⟨s,_,e⟩:=List.mem_map.1 hb
    rw [←e];exact⟨show(-2000:Int)≤2000 by decide,show(-2000:Int)≤ -0 by decide⟩
   ·unfold bL_ at hb
    obtain⟨q,hq,e⟩:=List.mem_map.1 hb
    have:=hl q hq
    rw [←e]
    show -2000≤q.hi∧ -2000≤ -q.lo
    omega
   ·unfold bF at hb
    obtain⟨q,hq,e⟩:=List.mem_map.1 hb
    have:=hf q hq
    rw [←e]
    show -2000≤q.hi∧ -2000≤ -q.lo
    omega
 ·refine Int.le_trans (uqy i) ?_
  unfold M00;split<;>decide
theorem ugX {M:Nat→Int} {x:Nat→Int}(h:Sol M x)(hx:∀n,n<4→0≤x n∧x n≤2000) {i:Nat}(hi:i<16): -2000≤M i:=by
 have a:=h (i/4) (i%4) (by omega) (by omega)
 have e:at4 (i/4) (i%4)=i:=by unfold at4;omega
 rw [e]at a
 have:=hx (i/4) (by omega)
 have:=hx (i%4) (by omega)
 omega
theorem ulE {S:Nat} {x:Nat→Int}(h:∀s,s<S→0≤x s∧x s≤2000)(n:Nat):0≤nod S x n∧nod S x n≤2000:=by
 unfold nod
 split
 ·decide
 ·split
  ·exact h _ (by omega)
  ·decide
theorem upP {S:Nat} {ls:List Lk} {fs:List Fa}(h:Okk S ls fs)(hc:ueJ S ls fs=true) {i:Nat}(hi:i<16): -2000≤clo (ug8 S ls fs) i:=by
 obtain⟨x,t⟩:=(uba h).1 hc
 exact ugX (ud4.2 (uhQ h t)) (fun n _=>ulE t.r n) hi
end Go.Eng.Dif

namespace Go.Proofs.YtkdggbfknlcdaaaGreat
open Go Go.Eng Go.Proofs
abbrev iv (f : Unit → Int) : SV := .int .i64 (.sym f)
abbrev bv (f : Unit → Bool) : SV := .bool (.sym f)
abbrev iS (l : List Int) : SV := .sl 1 (.sym fun _ => zi l.length) (fun ix => [.int .i64 (.sym fun _ => l.getD ix.den.toNat 0)])
def ti3 :TI:=⟨.int .i64,1,8,[.one (.int .i64)]⟩
def ti4 :TI:=⟨.bool,1,1,[.one .bool]⟩
def ti5 :TI:=⟨.int .u8,1,1,[.one (.int .u8)]⟩
def uAG :TI:=⟨.sli 3,1,24,[.one .sli]⟩
def uAu :TI:=⟨.sli 22,1,24,[.one .sli]⟩
def uAT :TI:=⟨.str [(0,22),(1,22),(2,23)],3,72,[.one .sli,.one .sli,.one .sli]⟩
def uzK :TI:=⟨.sli 100,1,24,[.one .sli]⟩
def uBa :TI:=⟨.sli 104,1,24,[.one .sli]⟩
def uAS :TI:=⟨.str [(0,25),(3,3),(4,3),(5,26),(6,27)],7,136,[.one .sli,.one .sli,.one .sli,.one (.int .i64),.one (.int .i64),.one .sli,.one .sli]⟩
def uAI :TI:=⟨.int .i64,1,8,[.one (.int .i64)]⟩
def uBe :TI:=⟨.str [(0,22),(1,22),(2,23)],3,72,[.one .sli,.one .sli,.one .sli]⟩
def uAE :TI:=⟨.sli 102,1,24,[.one .sli]⟩
def uzF :TI:=⟨.sli 106,1,24,[.one .sli]⟩
def uzU :TI:=⟨.str [(0,35),(3,3),(4,3),(5,36),(6,37)],7,136,[.one .sli,.one .sli,.one .sli,.one (.int .i64),.one (.int .i64),.one .sli,.one .sli]⟩
def uAy :TI:=⟨.sli 66,1,24,[.one .sli]⟩
def uAA :TI:=⟨.str [(0,3),(1,3)],2,16,[.one (.int .i64),.one (.int .i64)]⟩
def uAs :TI:=⟨.int .u64,1,8,[.one (.int .u64)]⟩
def uAX :TI:=⟨.str [(0,3),(1,3)],2,16,[.one (.int .i64),.one (.int .i64)]⟩
def uzG :TI:=⟨.sli 69,1,24,[.one .sli]⟩
def uzL :TI:=⟨.int .u16,1,2,[.one (.int .u16)]⟩
def uzI :TI:=⟨.sli 59,1,24,[.one .sli]⟩
def uAk :TI:=⟨.one,1,8,[.one .ptr]⟩
def uzH :TI:=⟨.one,1,8,[.one .mp]⟩
def uzX :TI:=⟨.str [(0,39),(7,90)],8,144,[.one .sli,.one .sli,.one .sli,.one (.int .i64),.one (.int .i64),.one .sli,.one .sli,.one .mp]⟩
def uzP :TI:=⟨.arr 4 3,4,32,[.rep 4 (.int .i64)]⟩
def uA8 :TI:=⟨.arr 4 93,16,128,[.rep 16 (.int .i64)]⟩
def uyD :TI:=⟨.str [(0,3),(1,3),(2,66)],4,32,[.one (.int .i64),.one (.int .i64),.one (.int .i64),.one (.int .i64)]⟩
def uyG :TI:=⟨.str [(0,3),(1,3),(2,59)],4,32,[.one (.int .i64),.one (.int .i64),.one (.int .i64),.one (.int .i64)]⟩
def uxJ :TI:=⟨.str [(0,3),(1,3),(2,66),(4,66)],6,48,[.one (.int .i64),.one (.int .i64),.one (.int .i64),.one (.int .i64),.one (.int .i64),.one (.int .i64)]⟩
def uxV :TI:=⟨.str [(0,3),(1,3),(2,59),(4,59)],6,48,[.one (.int .i64),.one (.int .i64),.one (.int .i64),.one (.int .i64),.one (.int .i64),.one (.int .i64)]⟩
def uyj :TI:=⟨.one,1,8,[.one .fn]⟩
def uy4 :TI:=⟨.one,1,8,[.one .fn]⟩
def uyA :TI:=⟨.str [(0,107),(1,108)],2,16,[.one .fn,.one .fn]⟩
def uyh :TI:=⟨.one,1,8,[.one .fn]⟩
def uxK :TI:=⟨.one,1,8,[.one .fn]⟩
def uxN :TI:=⟨.arr 3 66,6,48,[.rep 6 (.int .i64)]⟩
def uzd :TI:=⟨.one,1,8,[.one .fn]⟩
def uxY :TI:=⟨.one,1,8,[.one .fn]⟩
def uyQ :TI:=⟨.one,1,8,[.one .fn]⟩
def uyO :TI:=⟨.str [(0,3),(1,3)],2,16,[.one (.int .i64),.one (.int .i64)]⟩
def uz8 :TI:=⟨.str [(0,3),(1,3),(2,3)],3,24,[.one (.int .i64),.one (.int .i64),.one (.int .i64)]⟩
def uyy :TI:=⟨.sli 168,1,24,[.one .sli]⟩
def uzz :List (Nat×TI):=[(3,ti3),(4,ti4),(5,ti5),(22,uAG),(23,uAu),(25,uAT),(26,uzK),(27,uBa),(29,uAS),(32,uAI),(35,uBe),(36,uAE),(37,uzF),(39,uzU),(43,uAy),(59,uAA),(62,uAs),(66,uAX),(68,uzG),(69,uzL),(72,uzI),(87,uAk),(90,uzH),(92,uzX),(93,uzP),(95,uA8),(100,uyD),(102,uyG),(104,uxJ),(106,uxV),(107,uyj),(108,uy4),(110,uyA),(117,uyh),(121,uxK),(124,uxN),(133,uzd),(136,uxY),(144,uyQ),(152,uyO),(168,uz8),(169,uyy)]
def tab :uau:=fun t=>lk uzz t
def qr (n:Nat):List Nat:=List.range n
def qs (a n:Nat):List Nat:=List.range' a n
def qa (i:Nat)(p:List Nat):SE:=⟨i,false,p,false,0,none⟩
def qb (i:Nat)(p:List Nat):SE:=⟨i,true,p,false,0,none⟩
def sc9 :SC:=[]
def uzJ :SC:=[(10,[qb 0 [],qb 1 [0],⟨2,true,[0,1],true,0,none⟩,qa 3 [0,1,2],qa 4 [0,1,2],qb 5 (qr 5),qb 6 (qr 6),⟨7,true,(qr 7),true,0,none⟩,qb 8 (qr 8),qb 9 (qr 9),qb 10 (qr 10),⟨11,true,(qr 11),true,0,none⟩,qb 12 (qr 12),qb 13 (qr 13),qb 14 (qr 14),⟨15,true,(qr 15),true,0,none⟩,qb 16 (qr 16),qb 17 (qr 17),qb 18 (qr 18),⟨19,true,(qr 19),true,0,none⟩,qa 20 (qr 20),qa 21 (qr 20),qb 22 (qr 22),qb 23 (qr 23),⟨24,true,(qr 24),true,0,none⟩,qb 25 (qr 25),qb 26 (qr 26),qb 27 (qr 27),⟨28,true,(qr 28),true,0,none⟩,qa 29 (qr 29),qa 30 (qr 29),qb 31 (qr 31),qb 32 (qr 32),⟨33,true,(qr 33),true,0,none⟩,qb 34 (qr 34),qb 35 (qr 35),qb 36 (qr 36),⟨37,true,(qr 37),true,0,none⟩,qa 38 (qr 38),qa 39 (qr 38),qb 40 (qr 40),qb 41 (qr 41),⟨42,true,(qr 42),true,0,none⟩,qa 43 (qr 43),qa 44 (qr 43),qb 45 (qr 45),qb 46 (qr 46),⟨47,true,(qr 47),true,0,none⟩,qb 48 (qr 48),qb 49 (qr 49),qb 50 (qr 50),⟨51,true,(qr 51),true,0,none⟩,qb 52 (qr 52),qb 53 (qr 53),qb 54 (qr 54),qb 55 (qr 55),⟨56,true,(qr 56),true,0,none⟩,qa 57 (qr 57),qa 58 (qr 58),qa 59 (qr 59),qa 60 (qr 57),qb 61 (qr 61),qb 62 (qr 62),⟨63,true,(qr 63),true,0,none⟩,qa 64 (qr 64),qa 65 (qr 65),qa 66 (qr 66),qa 67 (qr 64),qb 68 (qr 68),qb 69 (qr 69),⟨70,true,(qr 70),true,0,none⟩,qb 71 (qr 71),qb 72 (qr 72),qb 73 (qr 73),⟨74,true,(qr 74),true,0,none⟩,qa 75 (qr 75),qa 76 (qr 75),qb 77 (qr 77),qb 78 (qr 78),⟨79,true,(qr 79),true,0,none⟩,qb 80 (qr 80),qb 81 (qr 81),qb 82 (qr 82),⟨83,true,(qr 83),true,0,none⟩,qa 84 (qr 84),qa 85 (qr 84),qb 86 (qr 86),qb 87 (qr 87),⟨88,true,(qr 88),true,0,none⟩,qb 89 (qr 89),qb 90 (qr 90),qb 91 (qr 91),⟨92,true,(qr 92),true,0,none⟩,qa 93 (qr 93),qa 94 (qr 93),qb 95 (qr 95),qb 96 (qr 96),qb 97 (qr 97)])]
def uzq :SC:=[]
def uAo :SC:=[(1,[qa 0 [],qa 1 [0],qa 3 [],qa 4 [3],qa 5 [],qa 6 [5],qa 8 [],qa 2 [0,1],qa 7 (qr 7),qb 9 (qr 9)]),(5,[qa 0 [],qa 1 [0],qa 2 [],qa 3 [2],qa 4 [],qa 5 [2,3,4],qa 6 (qs 2 4),qa 7 (qs 2 5),qa 8 [],qa 9 [8],qa 10 [],qa 11 [8,9,10],qa 12 (qs 8 4),qa 13 (qs 8 5),qa 14 [],qa 15 [14],qa 16 [],qa 17 [14,15,16],qa 18 (qs 14 4),qa 19 (qs 14 5),qa 20 (qs 14 6),qa 21 (qs 2 19),qa 22 (qs 2 20),qb 23 (qr 23),qb 24 (qr 24),qb 25 (qr 25)]),(10,[qa 0 [],qa 1 [0],qa 2 [],qa 3 [2],qa 4 [],qa 5 [4],qa 6 [],qa 7 [6],qa 9 [],qa 10 [9],qa 8 [6,7],qa 11 (qs 6 5),qa 12 (qs 2 10),qa 13 (qs 2 11),qb 14 (qr 14),qb 15 (qr 15),qb 16 (qr 16)])]
def uA1 :SC:=[(1,[qa 1 [],qa 0 [],qb 2 [0,1],qa 3 [0,1,2],qa 4 [0,1,2],qb 5 (qr 5),qb 6 (qr 6)])]
def uAw :SC:=[(6,[qa 0 [],qa 1 [],qa 2 [0,1],qa 3 [0,1,2],qa 4 [],qa 5 [],qa 6 [4,5],qa 7 [4,5,6],qb 8 (qr 8)])]
def uAr :SC:=[(1,[qa 1 [],qa 0 [],qb 2 [0,1],qa 3 [0,1,2],qa 4 [0,1,2],qb 5 (qr 5),qb 6 (qr 6)])]
def uxM :SC:=[]
def uxF :SC:=[]
def uAc :SC:=[]
def uB1 :SC:=[]
def uAC :SC:=[]
def uAp :SC:=[]
def uzy :SC:=[]
def uzE :SC:=[]
def uAQ :SC:=[]
def uxj :SC:=[]
def uB3 :SC:=[(6,[qa 0 [],qa 1 [],qa 2 [1],qa 3 [],qa 4 [1,2,3],qa 5 (qs 1 4),qa 7 [],qa 6 (qr 6),qb 8 (qr 8)]),(7,[qa 0 [],qa 1 [],qa 2 [1],qa 3 [],qa 4 [1,2,3],qa 5 (qs 1 4),qa 6 (qs 1 5),qa 7 (qr 7),qa 8 (qr 8),qa 9 [],qa 10 [9],qa 11 [],qa 12 [11],qb 13 (qr 13),qb 14 (qr 14)])]
def uAx :SC:=[]
def uAz :SC:=[]
def uzN :SC:=[(6,[qa 0 [],qa 2 [],qa 3 [2],qa 4 [],qa 5 [2,3,4],qa 6 (qs 2 4),qa 1 [0],qb 7 (qr 7),qb 8 (qr 8),qb 9 (qr 9)])]
def uzt :SC:=[]
def uB2 :SC:=[(2,[qa 0 [],qa 1 [0],qa 2 [0,1],qa 3 [],qa 4 [3],qa 5 [3,4],qa 6 [3,4,5],qa 7 (qs 3 4),qb 8 (qr 8),qb 9 (qr 9),qb 10 (qr 10)])]
def uz2 :SC:=[]
def uAn :SC:=[(23,[qa 0 [],qa 1 [0],qa 2 [0,1],qa 3 [],qa 4 [],qa 5 [3,4],qb 6 (qr 6)])]
def uzQ :SC:=[(1,[qa 0 [],qa 1 [0],qa 3 [],qa 4 [3],qa 7 [],qa 2 [0,1],qa 5 (qr 5),qa 6 (qr 6),qb 8 (qr 8)]),(5,[qa 0 [],qa 1 [0],qa 2 [],qa 3 [2],qa 4 [],qa 5 [2,3,4],qa 6 (qs 2 4),qa 7 (qs 2 5),qa 8 (qs 2 6),qb 9 (qr 9),qb 10 (qr 10),qb 11 (qr 11)])]
def uAH :SC:=[]
def uxv :SC:=[]
def uAL :SC:=[]
def uzn :SC:=[]
def uAe :SC:=[]
def uzW :SC:=[]
def uAi :SC:=[]
def uxE :SC:=[]
def uAR :SC:=[(4,[qa 0 [],qa 1 [0],qa 2 [],qa 3 [2],qa 4 [0,1],qb 5 (qr 5)])]
def uAN :SC:=[]
def uAm :SC:=[]
def uA6 :SC:=[]
def uzo :SC:=[]
def uBc :SC:=[(1,[qa 0 [],qa 1 [],qa 2 [1],qa 3 [0],qa 4 (qr 4),qa 5 (qr 5),qa 6 (qr 6),qa 7 (qr 7),qa 8 [],qa 9 [],qa 10 [9],qa 11 [8],qa 12 [8,11],qa 13 (qs 8 5),qa 14 (qs 8 6),qb 15 (qr 15),qb 16 (qr 16)])]
def uAW :SC:=[]
def uB6 :SC:=[(1,[qa 0 [],qa 1 [0],qa 2 [0,1],qa 3 [0,1,2],qa 4 [],qa 5 [4],qa 6 [4,5],qa 7 [4,5,6],qa 8 (qr 4),qb 9 (qr 9)]),(6,[qa 0 [],qa 1 [],qa 2 [1],qa 3 [],qa 4 [1,2,3],qa 5 (qs 1 4),qa 6 (qr 6),qa 7 [],qa 8 [],qa 9 [8],qa 10 [],qa 11 [8,9,10],qa 12 (qs 8 4),qa 13 (qs 7 6),qa 14 (qr 7),qb 15 (qr 15)]),(7,[qa 0 [],qa 1 [0],qa 2 [],qa 3 [2],qa 4 (qr 4),qa 5 (qr 5),qa 6 [],qa 7 (qr 7),qa 8 [],qa 9 [8],qa 10 [],qa 11 [10],qa 12 (qs 8 4),qa 13 (qs 8 5),qa 14 [],qa 15 (qs 8 7),qa 16 (qr 8),qb 17 (qr 17)]),(8,[qa 0 [],qa 1 [0],qa 2 [],qa 3 [0,1,2],qa 4 (qr 4),qa 5 [],qa 6 (qr 6),qa 7 (qr 7),qa 8 [],qa 9 (qr 9),qa 10 [],qa 11 (qr 11),qa 12 [],qa 13 [12],qa 14 [],qa 15 [14],qa 16 (qs 12 4),qa 17 (qs 12 5),qa 18 [],qa 19 (qs 12 7),qa 20 (qs 12 8),qa 21 [],qa 22 (qs 12 10),qa 23 [],qa 24 (qs 12 12),qa 25 (qr 25),qa 26 [],qa 27 [26],qa 28 [],qa 29 [26,27,28],qa 30 (qs 26 4),qa 31 [],qa 32 [31],qa 33 (qs 26 7),qa 34 (qs 26 8),qa 35 [],qa 36 (qs 26 10),qa 37 [],qa 38 (qs 26 12),qa 39 (qr 39),qa 40 [],qa 41 [40],qa 42 [],qa 43 [42],qa 44 (qs 40 4),qa 45 (qs 40 5),qa 46 [],qa 47 [46],qa 48 (qs 40 8),qa 49 (qs 40 9),qa 50 [],qa 51 (qs 40 11),qa 52 [],qa 53 (qs 40 13),qb 54 (qr 54),qb 55 (qr 55)])]
def uB0 :SC:=[]
def uzS :SC:=[]
def uzD :SC:=[]
def uB7 :SC:=[(1,[qa 0 [],qa 1 [0],qa 2 [],qa 3 [],qa 4 [3],qa 5 [2,3,4],qa 6 (qs 2 4),qa 7 [],qa 8 [],qa 9 [8],qa 10 [7,8,9],qa 11 (qs 7 4),qa 12 (qs 2 10),qb 13 (qr 13),qb 14 (qr 14)])]
def uzx :SC:=[]
def uzM :SC:=[(1,[qa 0 [],qa 1 [],qa 3 [],qa 4 [],qa 5 [4],qa 6 [3,4,5],qa 7 (qs 3 4),qa 2 [0,1],qb 8 (qr 8),qb 9 (qr 9)])]
def uB4 :SC:=[(1,[qa 0 [],qa 1 [0],qa 2 [0,1],qa 3 [0,1,2],qa 4 [],qa 9 [],qa 5 (qr 5),qa 6 (qr 6),qa 7 (qr 7),qa 8 (qr 7),qb 10 (qs 0 8++qs 9 1),qb 11 (qr 11)]),(4,[qa 0 [],qa 1 [0],qa 2 [0,1],qa 3 [0,1,2],qa 4 (qr 4),qa 5 [],qa 6 [5],qa 7 [],qa 8 [7],qa 13 [],qa 9 (qr 9),qa 10 (qr 10),qa 11 (qr 11),qa 12 (qr 11),qb 14 (qs 0 12++qs 13 1),qb 15 (qr 15)]),(5,[qa 0 [],qa 1 [0],qa 2 [0,1],qa 3 [0,1,2],qa 4 [],qa 5 [],qb 6 (qr 6)])]
def uAl :SC:=[]
def uBd :SC:=[(13,[qa 0 [],qa 1 [],qa 2 [],qa 3 [],qa 4 [],qa 5 [],qa 6 [3],qa 7 [3,4,6],qa 8 (qs 3 5),qa 9 (qs 3 6),qa 10 [],qa 11 [],qa 12 [],qa 13 [10],qa 14 [10,11,13],qa 15 (qs 10 5),qa 16 (qs 10 6),qa 17 (qs 3 14),qb 18 (qr 18)]),(17,[qa 0 [],qa 1 [0],qa 2 [0,1],qa 3 [],qb 4 (qr 4)])]
def uAM :SC:=[(12,[qa 0 [],qa 1 [],qa 2 [1],qa 3 [0,1,2],qa 4 (qr 4),qa 5 [],qa 6 [],qa 7 [6],qa 8 [5,6,7],qa 9 (qs 5 4),qa 10 (qr 10),qa 11 [],qa 12 [11],qa 13 [11,12],qa 14 [],qa 15 [14],qa 16 [14,15],qb 17 (qr 17),qb 18 (qr 18)])]
def uAB :SC:=[]
def uAF :SC:=[]
def uAt :SC:=[]
def uAb :SC:=[]
def uAg :SC:=[]
def uAK :SC:=[]
def uB5 :SC:=[]
def uB9 :SC:=[]
def uvp :SC:=[(1,[qa 0 [],qa 1 [],qa 2 [1],qa 3 [],qa 4 [],qa 10 [],qa 5 (qs 1 4),qa 6 (qr 6),qa 7 (qr 7),qa 8 (qr 8),qa 9 (qr 8),qb 11 (qs 0 9++qs 10 1),qb 12 (qr 12)]),(7,[⟨0,false,[],false,4,none⟩,qa 1 [],qa 3 [],qa 4 [3],qa 6 [],qa 7 [6],qa 8 [],qa 9 [8],qa 2 [1],⟨5,true,(qs 1 4),false,3,none⟩,qb 10 (qr 10)])]
def uB8 :SC:=[]
def uA4 :SC:=[]
def uAD :SC:=[]
def uxQ :SC:=[]
def uA2 :SC:=[]
def uAf :SC:=[]
def uAJ :SC:=[]
def uA9 :SC:=[(8,[qa 0 [],qa 1 [0],qa 2 [],qa 3 [0,1,2],qa 4 (qr 4),qa 5 (qr 5),qa 6 [],qa 7 [6],qa 8 [6,7],qb 9 (qr 9)])]
def uAY :SC:=[(1,[qa 0 [],qa 1 [0],qa 2 [],qa 3 [2],qb 4 (qr 4),⟨5,true,(qr 5),true,0,none⟩,qa 6 (qr 6),qa 7 (qr 7),qa 8 (qr 6),qa 9 (qs 0 6++qs 8 1),qa 10 (qs 0 6++qs 8 2),qb 11 (qr 11),qb 12 (qr 12),⟨13,true,(qr 13),true,0,none⟩,qa 14 (qr 14),qa 15 (qr 15),qa 16 (qr 14),qa 17 (qs 0 14++qs 16 1),qb 18 (qr 18),qb 19 (qr 19),qb 20 (qr 20)])]
def uyk :SC:=[]
def uA5 :SC:=[]
def ux5 :SC:=[]
def uwC :SC:=[]
def uvI :SC:=[]
def uxc :SC:=[]
def uze :SC:=[(4,[qa 0 [],qa 1 [0],qa 3 [],qa 2 [0,1],qb 4 (qr 4),qb 5 (qr 5),⟨6,true,(qr 6),true,0,none⟩,qa 7 (qr 7),qa 8 (qr 8),qa 10 (qr 7),qa 9 (qr 9),qb 11 (qr 11),qb 12 (qr 12),qb 13 (qr 13)]),(9,[qa 0 [],qa 1 [0],qa 2 [],qa 3 [0,1,2],qa 5 [],qa 6 [5],qa 7 [],qa 8 [5,6,7],qa 4 (qr 4),qb 9 (qr 9),qb 10 (qr 10)])]
def uyo :SC:=[(0,[qa 0 [],qa 1 [],qa 2 [],qa 3 [],qa 4 [],qa 5 [],qa 6 [3],qa 7 [3,4,6],qa 8 (qs 3 5),qa 9 (qs 3 6),qa 10 [],qa 11 (qs 3 8),qa 13 [0],qa 14 [0,1,13],qa 12 (qs 3 9),qb 15 (qr 15),qb 16 (qr 16)])]
def uyt :SC:=[(8,[qa 0 [],qa 1 [0],qa 2 [],qa 3 [],qa 4 [],qa 7 [],qa 8 [7],qa 9 [],qa 10 [],qa 11 [],qa 5 [2,3,4],qa 6 (qr 6),qa 12 (qs 2 4++qs 9 3),qa 13 (qs 2 4++qs 7 6),qb 14 (qr 14),qb 15 (qr 15)])]
def uyM :SC:=[]
def uyE :SC:=[]
def uyi :SC:=[]
def uyZ :SC:=[]
def uyd :SC:=[]
def uyW :SC:=[(1,[qa 0 [],qa 1 [],qa 2 [1],qa 3 [1,2],qa 4 [],qa 5 [],qa 6 [5],qa 7 [5,6],qa 8 (qs 4 4),qa 9 (qs 4 5),qb 10 (qr 10),qb 11 (qr 11)])]
def uyx :SC:=[(4,[qa 0 [],qa 1 [],qa 2 [0,1],qa 3 [0,1,2],qa 4 [],qb 5 (qr 5),qb 6 (qr 6),⟨7,true,(qr 7),true,0,none⟩,qb 8 (qr 8),qb 9 (qr 9),⟨10,true,(qr 10),true,0,none⟩,qa 11 (qr 11),qa 12 (qr 11),qa 13 (qr 13),qa 14 (qr 14),qa 15 (qr 11),qa 16 (qr 11),qa 17 (qs 0 11++qs 16 1),qa 18 (qs 0 11++qs 15 3),qa 19 (qs 0 11++qs 15 4),qb 20 (qr 20),qb 21 (qr 21),qb 22 (qr 22)])]
def uuB :SC:=[]
def uxd :SC:=[]
def uwv :SC:=[]
def uyn :SC:=[(1,[qa 0 [],qa 1 [0],qa 2 [0,1],qa 3 [],qa 4 [],qa 5 [4],qa 6 [4,5],qa 7 (qs 3 4),qa 8 (qs 3 5),qb 9 (qr 9),qb 10 (qr 10)])]
def uza :SC:=[]
def uyL :SC:=[]
def uyN :SC:=[]
def uzj :SC:=[]
def uvQ :SC:=[]
def uxW :SC:=[]
def uy6 :SC:=[]
def uyT :SC:=[]
def uz4 :SC:=[]
def uxX :SC:=[]
def uy1 :SC:=[]
def uzc :SC:=[(1,[qa 0 [],qa 1 [0],qa 2 [],qa 4 [],qa 5 [4],qa 6 [],qa 3 [0,1,2],qb 7 (qr 7),qb 8 (qr 8),qb 9 (qr 9)]),(2,[qa 0 [],qa 1 [],qa 2 [1],qa 3 [],qa 4 [1,2,3],qa 5 (qs 1 4),qa 6 (qr 6),qa 7 [],qa 8 [],qa 9 [8],qa 10 [],qa 11 [8,9,10],qa 12 (qs 8 4),qa 13 (qs 7 6),qa 14 (qr 7),qb 15 (qr 15)]),(3,[qa 0 [],qa 1 [0],qa 2 [],qa 3 [2],qa 4 (qr 4),qa 5 (qr 5),qa 6 [],qa 7 [6],qa 8 [],qa 9 [6,7,8],qa 10 (qs 6 4),qa 11 (qr 11),qa 12 [],qa 13 [12],qa 14 [],qa 15 [14],qa 16 (qs 12 4),qa 17 (qs 12 5),qa 18 [],qa 19 [18],qa 20 [],qa 21 [18,19,20],qa 22 (qs 18 4),qa 23 (qs 12 11),qa 24 (qr 12),qb 25 (qr 25)]),(8,[qa 0 [],qa 1 [],qa 2 [1],qa 3 [],qa 4 [3],qa 5 (qs 1 4),qa 6 (qs 1 5),qa 7 [],qa 8 [7],qa 9 (qs 1 8),qa 10 (qs 1 9),qa 11 [],qa 12 [11],qa 13 (qs 1 12),qb 14 (qr 14),qb 15 (qr 15)])]
def uyF :SC:=[]
def uwq :SC:=[]
def uyI :SC:=[]
theorem uaj :uck Tryz.prog tab:=uu7 (l:=uzz) (by kernel_rfl) (by kernel_rfl)
theorem mix :Tryz.prog.follows .mixedOrders=true:=by kernel_rfl
end Go.Proofs.YtkdggbfknlcdaaaGreat

namespace Go.Proofs.YtkdggbfknlcdaaaGreat
def ubI (l:List Int)(n:Int):Nat→Nat→Nat
 |0,i=>i
 |f+1,i=>if i+2<l.length∧l.getD (i+1) 0≤n then ubI l n f (i+1)else i
def ubk (l:List Int)(most:Int)(i:Nat):Prop:=0≤l.getD i 0∧l.getD i 0≤most∧(0<i→l.getD (i-1) 0<l.getD i 0)
instance (l:List Int) (most:Int) (i:Nat):Decidable (ubk l most i):=by unfold ubk;infer_instance
def ucr (l:List Int)(most:Int):Bool:=decide (∀i,i<l.length→ubk l most i)
theorem uat {l:List Int} {most:Int}(h:ucr l most=true):∀i,i<l.length→ubk l most i:=of_decide_eq_true h
theorem uh4 {l:List Int} {most:Int}(h:ucr l most=true):∀{i j:Nat},i<j→j<l.length→l.getD i 0<l.getD j 0:=by
 intro i j hij
 induction j with
 |zero=>omega
 | succ j ih=>
  intro hj
  have h1:=(uat h (j+1) hj).2.2 (by omega)
  rw [Nat.add_sub_cancel]at h1
  by_cases e:i=j
  ·subst e;exact h1
  ·have:=ih (by omega) (by omega);omega
structure InCell (l:List Int)(n:Int)(i:Nat):Prop where
 lt:i+2≤l.length
 lo:l.getD i 0≤n
 hi:i+2=l.length∨n<l.getD (i+1) 0
theorem us7 {l:List Int} {n:Int}:∀(f i:Nat),i+2≤l.length→l.length≤f+i+1→l.getD i 0≤n→InCell l n (ubI l n f i):=by
 intro f
 induction f with
 |zero=>intro i h1 h2 h3;omega
 | succ f ih=>
  intro i h1 h2 h3
  unfold ubI
  split
  ·rename_i h
   exact ih (i+1) (by omega) (by omega) h.2
  ·rename_i h
   refine⟨h1,h3,?_⟩
   by_cases e:i+2=l.length
   ·exact .inl e
   ·right
    refine Int.not_le.1 fun q=>h ⟨by omega,q⟩
theorem uc9 {l:List Int} {n:Int}(h2:2≤l.length)(h0:l.getD 0 0≤n):InCell l n (ubI l n l.length 0):=us7 l.length 0 (by omega) (by omega) h0
def upw (a b c d v00 v10 v01 v11 w m:Int):Int:=
 (2*(0+(v00*((b-a-(w-a))*(d-c-(m-c))))+(v10*((w-a)*(d-c-(m-c))))+(v01*((b-a-(w-a))*(m-c)))+(v11*((w-a)*(m-c))))+(b-a)*(d-c)).tdiv (2*(b-a)*(d-c))
def atI (tw tm:List Int)(tv:List (List Int))(w m:Int)(i k:Nat):Int:=
 upw (tw.getD i 0) (tw.getD (i+1) 0) (tm.getD k 0) (tm.getD (k+1) 0) ((tv.getD i []).getD k 0) ((tv.getD (i+1) []).getD k 0) ((tv.getD i []).getD (k+1) 0) ((tv.getD (i+1) []).getD (k+1) 0) w m
def atS (tw tm:List Int)(tv:List (List Int))(w m:Int):Int:=atI tw tm tv w m (ubI tw w tw.length 0) (ubI tm m tm.length 0)
def ubM (tw tm:List Int)(tv:List (List Int)):Int:=
 if 5<tw.length∨5<tm.length∨5<tv.length then 3
 else if tw.length<2∨tm.length<2∨ucr tw 40=false∨ucr tm 60=false∨tv.length≠tw.length then 1
 else if ∀i,i<tv.length→(tv.getD i []).length=tm.length∧∀k,k<tm.length→0≤(tv.getD i []).getD k 0∧(tv.getD i []).getD k 0≤2000 then 0 else 1
structure TOk (tw tm:List Int)(tv:List (List Int)):Prop where
 w5:tw.length≤5
 m5:tm.length≤5
 w2:2≤tw.length
 m2:2≤tm.length
 rw:ucr tw 40=true
 rm:ucr tm 60=true
 len:tv.length=tw.length
 row:∀i,i<tv.length→(tv.getD i []).length=tm.length
 val:∀i,i<tv.length→∀k,k<tm.length→0≤(tv.getD i []).getD k 0∧(tv.getD i []).getD k 0≤2000
theorem ujD {tw tm:List Int} {tv:List (List Int)}(h:TOk tw tm tv):ubM tw tm tv=0:=by
 unfold ubM
 have a:=h.w5;have b:=h.m5;have c:=h.w2;have d:=h.m2;have e:=h.len
 rw [if_neg (by omega),if_neg (by simp only [h.rw,h.rm];simp;omega),if_pos (fun i hi=>⟨h.row i hi,h.val i hi⟩)]
def ubK (p:Nat→Bool):Nat→Nat→Int
 |0,_=> -1
 |n+1,i=>if p i=true then ubK p n (i+1)else i
theorem ub9 {p:Nat→Bool} {n i:Nat}(hn:0<n)(h:p i=false):ubK p n i=i:=by
 cases n with
 |zero=>omega
 |succ n=>simp [ubK,h]
theorem ucn {p:Nat→Bool} {n i:Nat}(hn:0<n)(h:p i=true):ubK p n i=ubK p (n-1) (i+1):=by
 cases n with
 |zero=>omega
 |succ n=>simp [ubK,h]
theorem uiI {p:Nat→Bool}:∀{n i:Nat},0≤ubK p n i↔∃j,i≤j∧j<i+n∧p j=false:=by
 intro n
 induction n with
 | zero => intro i;simp only [ubK];constructor
           ·intro h;omega
           ·rintro⟨j,h1,h2,_⟩;omega
 | succ n ih=>
  intro i
  cases h:p i with
  | true=>
   rw [ucn (by omega) h,Nat.add_sub_cancel,ih]
   constructor
   ·rintro⟨j,h1,h2,h3⟩;exact⟨j,by omega,by omega,h3⟩
   ·rintro⟨j,h1,h2,h3⟩
    refine⟨j,?_,by omega,h3⟩
    by_cases e:j=i
    ·subst e;rw [h]at h3;cases h3
    ·omega
  | false=>
   rw [ub9 (by omega) h]
   exact⟨fun _=>⟨i,by omega,by omega,h⟩,fun _=>by omega⟩
theorem ugj {p:Nat→Bool} {n:Nat}:(!(decide (0≤ubK p n 0)))=decide (∀i,i<n→p i=true):=by
 rw [Bool.eq_iff_iff]
 simp only [Bool.not_eq_true',decide_eq_false_iff_not,decide_eq_true_eq,uiI]
 constructor
 ·intro h i hi
  cases hp:p i with
  |true=>rfl
  |false=>exact absurd ⟨i,by omega,by omega,hp⟩ h
 ·rintro h ⟨j,_,h2,h3⟩
  rw [h j (by omega)]at h3;cases h3
structure Pt (tw tm:List Int)(w m:Int):Prop where
 w0:tw.getD 0 0≤w
 w1:w≤tw.getD (tw.length-1) 0
 m0:tm.getD 0 0≤m
 m1:m≤tm.getD (tm.length-1) 0
theorem InCell.le_hi {l:List Int} {n:Int} {i:Nat}(h:InCell l n i)(h1:n≤l.getD (l.length-1) 0):n≤l.getD (i+1) 0:=by
 rcases h.hi with q|q
 ·rw [show i+1=l.length-1 by omega];exact h1
 ·omega
theorem usK (a b c d v00 v10 v01 v11 w m:Int):0+(v00*((b-a-(w-a))*(d-c-(m-c))))+(v10*((w-a)*(d-c-(m-c))))+(v01*((b-a-(w-a))*(m-c)))+(v11*((w-a)*(m-c))) =
 v00*(b-w)*(d-m)+v10*(w-a)*(d-m)+v01*(b-w)*(m-c)+v11*(w-a)*(m-c):=by
 rw [show b-a-(w-a)=b-w by omega,show d-c-(m-c)=d-m by omega,Int.zero_add]
 simp only [Int.mul_assoc]
end Go.Proofs.YtkdggbfknlcdaaaGreat

namespace Go.Proofs.YtkdggbfknlcdaaaGreat
open Go Go.Eng Go.Proofs
set_option maxRecDepth 10000
theorem ugM (n lo hi:Int):ua0 Tryz.prog 125 [(iv fun _=>n),(iv fun _=>lo),(iv fun _=>hi)] [] (fun r _=>r=(bv fun _=>decide (lo≤n)&&decide (n≤hi))):=by
 refine ua0.is fun R hR=>qW (sc:=uyT) uaj mix Tryz.func125 rfl Tryz.call125 (by kernel_rfl) (by kernel_rfl) ?_
 generalize Tryz.prog=P
 cbv
 repeat' (first|with_reducible refine And.intro ?_ ?_|(with_reducible intro _;try cbv))
 all_goals subst hR
 all_goals refine qF ?_
 all_goals simp only [IX.den,BX.den,ucu,ucy,ucv,udG,udI,udq,udC,udm,udk]at *
 all_goals simp_all
 all_goals (try omega)
theorem uwP (lo hi n:Int):ua0 Tryz.prog 127 [(.agg [(iv fun _=>lo),(iv fun _=>hi)]),(iv fun _=>n)] [] (fun r _=>r=(bv fun _=>decide (lo≤n)&&decide (n≤hi))):=by
 have c113:= @ugM
 refine ua0.is fun R hR=>qW (sc:=uxX) uaj mix Tryz.func127 rfl Tryz.call127 (by kernel_rfl) (by kernel_rfl) ?_
 generalize Tryz.prog=P at c113⊢
 cbv
 repeat' (first|(refine udi (c113 _ _ _) (by(repeat' (first|exact qB|refine qD ?_ ?_|exact qE rfl|exact qF rfl|exact Fit.refl _|exact qA|refine qC ?_ rfl ?_))) ?_;try cbv))
 subst hR
 exact qF rfl
end Go.Proofs.YtkdggbfknlcdaaaGreat

namespace Go.Proofs.YtkdggbfknlcdaaaGreat
open Go Go.Eng Go.Proofs
set_option maxRecDepth 10000
theorem utx (l:List Int)(n:Int)(h:2≤l.length∧l.length≤1000):ua0 Tryz.prog 132 [(iS l),(iv fun _=>n)] [] (fun r _=>r = (iv fun _=>zi (ubI l n l.length 0))):=by
 refine ua0.is fun R hR=>qW (sc:=uyI) uaj mix Tryz.func132 rfl Tryz.call132 (by kernel_rfl) (by kernel_rfl) ?_
 generalize Tryz.prog=P
 cbv
 refine⟨none,[],{i:Nat // i<l.length∧ubI l n l.length 0=ubI l n (l.length-i) i},fun i=>⟨[(5,(iv fun _=>zi i.1)),(0,(iS l)),(1,(iv fun _=>n))],[],1⟩,fun i=>l.length-i.1,?_,?_⟩
 ·refine⟨⟨0,by omega,rfl⟩,?_⟩
  cbv
  repeat' (first|with_reducible refine ua4 ?_ ?_|with_reducible refine And.intro ?_ ?_)
  all_goals first|trivial|exact qM (qE (by rfl))|exact qM (Fit.refl _)
 ·rintro⟨i,hi⟩
  have hf:∃f,l.length-i=f+1:=⟨l.length-i-1,by omega⟩
  obtain⟨f,hf⟩:=hf
  have hc:=hi.2
  rw [hf,ubI]at hc
  cbv
  repeat' (first|with_reducible refine ua4 ?_ ?_|with_reducible refine And.intro ?_ ?_|(with_reducible intro _;try cbv))
  all_goals simp only [uah,ub6,den_lit,ubl,ubm,ucu,ucy,ucv,udG,udI,udq,udC,udm,udk,decide_eq_true_eq,decide_eq_false_iff_not,Bool.not_true]at *
  all_goals first|(refine qN ?_;omega)|(simp only [uam];omega)|skip
  ·rename_i h1 h2
   have e:(((i:Int)+1).toNat)=i+1:=by omega
   rw [e]at h2
   rw [if_pos ⟨by omega,h2⟩]at hc
   refine⟨⟨i+1,by omega,by rw [show l.length-(i+1)=f by omega];exact hc⟩,by simp only [];omega,?_⟩
   cbv
   repeat' (first|with_reducible refine ua4 ?_ ?_|with_reducible refine And.intro ?_ ?_)
   all_goals first|trivial|exact qM (qE (by rfl))|exact qM (Fit.refl _)
  ·rename_i h1 h2
   have e:(((i:Int)+1).toNat)=i+1:=by omega
   rw [e]at h2
   rw [if_neg (fun q=>by omega)]at hc
   subst hR
   exact qE (by rw [ub6,ub6,hc])
  ·rename_i h1
   rw [if_neg (fun q=>by omega)]at hc
   subst hR
   exact qE (by rw [ub6,ub6,hc])
end Go.Proofs.YtkdggbfknlcdaaaGreat

namespace Go.Proofs.YtkdggbfknlcdaaaGreat
open Go Go.Eng Go.Proofs
set_option maxRecDepth 10000
theorem uxO (n lo hi:Int):ua0 Tryz.prog 22 [(iv fun _=>n),(iv fun _=>lo),(iv fun _=>hi)] [] (fun r _=>r=(bv fun _=>decide (lo≤n)&&decide (n≤hi))):=by
 refine ua0.is fun R hR=>qW (sc:=uAc) uaj mix Tryz.func22 rfl Tryz.call22 (by kernel_rfl) (by kernel_rfl) ?_
 generalize Tryz.prog=P
 cbv
 repeat' (first|with_reducible refine And.intro ?_ ?_|(with_reducible intro _;try cbv))
 all_goals (try subst hR)
 all_goals refine qF ?_
 all_goals (try simp only [uah,ub6,den_lit,ubl,ubm,ucu,ucy,ucv,udG,udI,udq,udC,udm,udk,decide_eq_true_eq,decide_eq_false_iff_not,Bool.not_true]at *)
 all_goals simp_all
 all_goals (try omega)
theorem urN (n:Int):ua0 Tryz.prog 123 [(iv fun _=>n)] [] (fun r _=>r=(bv fun _=>decide (0≤n)&&decide (n≤2000))):=by
 have c113:= @ugM
 refine ua0.is fun R hR=>qW (sc:=uxW) uaj mix Tryz.func123 rfl Tryz.call123 (by kernel_rfl) (by kernel_rfl) ?_
 generalize Tryz.prog=P at c113⊢
 cbv
 repeat' (first|(refine udi (c113 _ _ _) (by(repeat' (first|exact qB|refine qD ?_ ?_|exact qE (by rfl)|exact qF (by rfl)|exact Fit.refl _|exact qA|refine qC ?_ rfl ?_))) ?_;try cbv))
 all_goals (try subst hR)
 all_goals (try simp only [uah,ub6,den_lit,ubl,ubm,ucu,ucy,ucv,udG,udI,udq,udC,udm,udk,decide_eq_true_eq,decide_eq_false_iff_not,Bool.not_true]at *)
 all_goals first|skip
 all_goals (repeat' (first|exact qA|exact qB|refine qC ?_ rfl ?_|refine qD ?_ ?_|exact qE (by rfl)|exact qF (by rfl)|exact Fit.refl _))
theorem uw2 (l:List Int)(h:1≤l.length∧l.length≤1000):ua0 Tryz.prog 68 [(iS l)] [] (fun r _=>r=(iv fun _=>l.getD (l.length-1) 0)):=by
 refine ua0.is fun R hR=>qW (sc:=uAW) uaj mix Tryz.func68 rfl Tryz.call68 (by kernel_rfl) (by kernel_rfl) ?_
 generalize Tryz.prog=P
 cbv
 repeat' (first|with_reducible refine ua4 ?_ ?_|(with_reducible intro _;try cbv))
 all_goals (try subst hR)
 all_goals (try simp only [uah,ub6,den_lit,ubl,ubm,ucu,ucy,ucv,udG,udI,udq,udC,udm,udk,decide_eq_true_eq,decide_eq_false_iff_not,Bool.not_true]at *)
 all_goals first|(refine qN ?_;omega)|(simp only [uam];omega)|skip
 ·refine qE ?_
  rw [ub6,ub6]
  congr 1
  omega
theorem uvb (l:List Int)(h:1≤l.length∧l.length≤1000):ua0 Tryz.prog 117 [(iS l)] [] (fun r _=>r=(.agg [(iv fun _=>l.getD 0 0),(iv fun _=>l.getD (l.length-1) 0)])):=by
 refine ua0.is fun R hR=>qW (sc:=uyn) uaj mix Tryz.func117 rfl Tryz.call117 (by kernel_rfl) (by kernel_rfl) ?_
 generalize Tryz.prog=P
 cbv
 repeat' (first|with_reducible refine ua4 ?_ ?_|(with_reducible intro _;try cbv))
 all_goals (try subst hR)
 all_goals (try simp only [uah,ub6,den_lit,ubl,ubm,ucu,ucy,ucv,udG,udI,udq,udC,udm,udk,decide_eq_true_eq,decide_eq_false_iff_not,Bool.not_true]at *)
 all_goals first|(refine qN ?_;omega)|(simp only [uam];omega)|skip
 ·refine qC (qE (by rfl)) rfl (qC (qE ?_) rfl qA)
  rw [ub6,ub6]
  congr 1
  omega
theorem usr (a b c d:Int):ua0 Tryz.prog 118 [(.agg [(iv fun _=>a),(iv fun _=>b)]),(.agg [(iv fun _=>c),(iv fun _=>d)])] [] (fun r _=>r=(bv fun _=>decide (c≤d)&&(decide (a≤c)&&decide (c≤b))&&(decide (a≤d)&&decide (d≤b)))):=by
 have c124:= @uwP
 refine ua0.is fun R hR=>qW (sc:=uza) uaj mix Tryz.func118 rfl Tryz.call118 (by kernel_rfl) (by kernel_rfl) ?_
 generalize Tryz.prog=P at c124⊢
 cbv
 repeat' (first|with_reducible refine And.intro ?_ ?_|(with_reducible intro _;try cbv)|(refine udi (c124 _ _ _) (by(repeat' (first|exact qB|refine qD ?_ ?_|exact qE (by rfl)|exact qF (by rfl)|exact Fit.refl _|exact qA|refine qC ?_ rfl ?_))) ?_;try cbv))
 all_goals (try subst hR)
 all_goals refine qF ?_
 all_goals (try simp only [uah,ub6,den_lit,ubl,ubm,ucu,ucy,ucv,udG,udI,udq,udC,udm,udk,decide_eq_true_eq,decide_eq_false_iff_not,Bool.not_true]at *)
 all_goals simp_all
 all_goals (try omega)
theorem uol (l:List Int)(h:l.length≤1000):ua0 Tryz.prog 83 [(iS l)] [] (fun r _=>r=(iS l)):=by
 refine ua0.is fun R hR=>qW (sc:=uAb) uaj mix Tryz.func83 rfl Tryz.call83 (by kernel_rfl) (by kernel_rfl) ?_
 generalize Tryz.prog=P
 cbv
 repeat' (first|with_reducible refine ua4 ?_ ?_|(with_reducible intro _;try cbv))
 all_goals (try subst hR)
 all_goals (try simp only [uah,ub6,den_lit,ubl,ubm,ucu,ucy,ucv,udG,udI,udq,udC,udm,udk,decide_eq_true_eq,decide_eq_false_iff_not,Bool.not_true]at *)
 all_goals first|(simp [uam];omega)|skip
 all_goals (repeat' (first|exact qA|exact qB|refine qC ?_ rfl ?_|refine qD ?_ ?_|exact qE (by rfl)|exact qF (by rfl)|exact Fit.refl _))
end Go.Proofs.YtkdggbfknlcdaaaGreat

namespace Go.Proofs.YtkdggbfknlcdaaaGreat
open Go Go.Eng Go.Proofs
set_option maxRecDepth 10000
theorem upS (l:List Int)(most:Int)(h:l.length≤1000):ua0 Tryz.prog 113 [(iS l),(iv fun _=>most)] [] (fun r _=>r=(bv fun _=>ucr l most)):=by
 have c31:= @uxO
 refine ua0.is fun R hR=>qW (sc:=uyx) uaj mix Tryz.func113 rfl Tryz.call113 (by kernel_rfl) (by kernel_rfl) ?_
 generalize Tryz.prog=P at c31⊢
 cbv
 refine⟨none,[],{i:Nat // i≤l.length∧∀j,j<i→ubk l most j},fun x=>⟨[(5,(iv fun _=>zi x.1)),(0,(iS l)),(1,(iv fun _=>most))],[],2⟩,fun x=>l.length-x.1,?_,?_⟩
 ·refine⟨⟨0,by omega,fun j hj=>by omega⟩,?_⟩
  cbv
  repeat' (first|with_reducible refine ua4 ?_ ?_|with_reducible refine And.intro ?_ ?_)
  all_goals first|trivial|exact qM (qE (by rfl))|exact qM (Fit.refl _)|skip
 ·rintro⟨i,hi,hr⟩
  cbv
  repeat' (first|with_reducible refine ua4 ?_ ?_|with_reducible refine And.intro ?_ ?_|(with_reducible intro _;try cbv)|(refine udi (c31 _ _ _) (by(repeat' (first|exact qB|refine qD ?_ ?_|exact qE (by rfl)|exact qF (by rfl)|exact Fit.refl _|exact qA|refine qC ?_ rfl ?_))) ?_;try cbv))
  all_goals simp only [uah,ub6,den_lit,ubl,ubm,ucu,ucy,ucv,udG,udI,udq,udC,udm,udk,decide_eq_true_eq,decide_eq_false_iff_not,Bool.not_true,Bool.not_eq_true',Bool.not_eq_false',Bool.and_eq_true,Bool.and_eq_false_iff]at *
  all_goals (have ei:((i:Int)).toNat=i:=by omega)
  all_goals (have ei1:((i:Int)-1).toNat=i-1:=by omega)
  all_goals simp only [ei,ei1]at *
  all_goals (try simp only [decide_eq_true_eq,decide_eq_false_iff_not]at *)
  all_goals clear ei ei1
  all_goals first
   |(refine qN ?_;omega)
   |(simp only [uam];omega)
   | (subst hR
      refine qF ?_
      rw [ubm,ubl]
      refine(decide_eq_false ?_).symm
      intro hall
      have:=hall i (by omega)
      simp only [ubk]at this
      omega)
   | (subst hR
      refine qF ?_
      rw [ubm,ubl]
      exact(decide_eq_true (fun j hj=>hr j (by omega))).symm)
   |skip
  all_goals (have hnew:ubk l most i:=by simp only [ubk];omega)
  all_goals refine⟨⟨i+1,by omega,fun j hj=>(Nat.lt_or_ge j i).elim (hr j) (fun q=>by rw [show j=i by omega];exact hnew)⟩,by simp only [];omega,?_⟩
  all_goals cbv
  repeat' (first|with_reducible refine ua4 ?_ ?_|with_reducible refine And.intro ?_ ?_)
  all_goals first|trivial|exact qM (qE (by rfl))|exact qM (Fit.refl _)|skip
end Go.Proofs.YtkdggbfknlcdaaaGreat

namespace Go.Proofs.YtkdggbfknlcdaaaGreat
open Go Go.Eng Go.Proofs
set_option maxRecDepth 10000
theorem ut1 (a b:Int):ua0 Tryz.prog 130 [(.sl 1 (.lit 2) (fun ix=>ucq [(iv fun _=>a),(iv fun _=>b)] (0+ix.den.toNat*1) 1))] [] (fun r _=>r=(iv fun _=>min a b)):=by
 refine ua0.is fun R hR=>qW (sc:=uyF) uaj mix Tryz.func130 rfl Tryz.call130 (by kernel_rfl) (by kernel_rfl) ?_
 generalize Tryz.prog=P
 cbv
 repeat' (first|with_reducible refine ua4 ?_ ?_|fail)
 all_goals first|(refine⟨some 3,?_⟩;cbv)|skip
 repeat' (first|with_reducible refine ua4 ?_ ?_|fail)
 all_goals first|trivial|(subst hR;(refine qE ?_;simp only [zQ,zA,zB,zC,zD,zE,zF,zG,zH,zI,zJ,zK,zL,zM,zN,zO,zP,zR,zS];omega);done)|skip
theorem unL (a b:Int):ua0 Tryz.prog 120 [(.sl 1 (.lit 2) (fun ix=>ucq [(iv fun _=>a),(iv fun _=>b)] (0+ix.den.toNat*1) 1))] [] (fun r _=>r=(iv fun _=>min a b)):=by
 have c127:= @ut1
 refine ua0.is fun R hR=>qW (sc:=uyN) uaj mix Tryz.func120 rfl Tryz.call120 (by kernel_rfl) (by kernel_rfl) ?_
 generalize Tryz.prog=P at c127⊢
 cbv
 repeat' (first|(refine qP ?_ (c127 _ _) (by(repeat' (first|exact qB|refine qD ?_ ?_|exact qE (by rfl)|exact qF (by rfl)|exact Fit.refl _|exact qA|refine qC ?_ rfl ?_)));try cbv)|fail)
 all_goals first|(subst hR;(repeat' (first|exact qA|exact qB|refine qC ?_ rfl ?_|refine qD ?_ ?_|exact qE (by rfl)|exact qF (by rfl)|exact Fit.refl _|exact qG _|(refine qE ?_;(try simp only [qV]at *);simp only [zQ,zA,zB,zC,zD,zE,zF,zG,zH,zI,zJ,zK,zL,zM,zN,zO,zP,zR,zS]at *;omega)));done)|skip
end Go.Proofs.YtkdggbfknlcdaaaGreat

namespace Go.Proofs.YtkdggbfknlcdaaaGreat
open Go Go.Eng Go.Proofs
set_option maxRecDepth 10000
theorem ubZ {x y:Int}(A B:Int)(hx:0≤x∧x≤A)(hy:0≤y∧y≤B):0≤x*y∧x*y≤A*B:=
 ⟨Int.mul_nonneg hx.1 hy.1,Int.mul_le_mul hx.2 hy.2 hy.1 (Int.le_trans hx.1 hx.2)⟩
theorem uwQ (tw tm:List Int)(tv:List (List Int))(w m a b c d v00 v10 v01 v11:Int)(i k:Nat)(hl:2≤tw.length∧tw.length≤1000∧2≤tm.length∧tm.length≤1000)(hi:ubI tw w tw.length 0=i)(hk:ubI tm m tm.length 0=k)(ha:tw.getD i 0=a)(hb:tw.getD (i+1) 0=b)(hc:tm.getD k 0=c)(hd:tm.getD (k+1) 0=d)(h00:(tv.getD i []).getD k 0=v00)(h10:(tv.getD (i+1) []).getD k 0=v10)(h01:(tv.getD i []).getD (k+1) 0=v01)(h11:(tv.getD (i+1) []).getD (k+1) 0=v11)(hil:i+1<tw.length∧k+1<tm.length∧i+1<tv.length∧k+1<(tv.getD i []).length∧k+1<(tv.getD (i+1) []).length)(hbd:0≤a∧a≤w∧w≤b∧a<b∧b≤40∧0≤c∧c≤m∧m≤d∧c<d∧d≤60)(hv:0≤v00∧v00≤2000∧0≤v10∧v10≤2000∧0≤v01∧v01≤2000∧0≤v11∧v11≤2000):ua0 Tryz.prog 129 [(.agg [(iS tw),(iS tm),(.sl 1 (.sym fun _=>zi (tv).length) (fun ix=>[(.sl 1 (.sym fun _=>zi ((tv).getD ix.den.toNat []).length) (fun jx=>[(iv fun _=>((tv).getD ix.den.toNat []).getD jx.den.toNat 0)]))]))]),(iv fun _=>w),(iv fun _=>m)] [] (fun r _=>r=(iv fun _=>((2*(0+(v00*((b-a-(w-a))*(d-c-(m-c))))+(v10*((w-a)*(d-c-(m-c))))+(v01*((b-a-(w-a))*(m-c)))+(v11*((w-a)*(m-c))))+(b-a)*(d-c)).tdiv (2*(b-a)*(d-c))))):=by
 have c128:= @utx
 have p1:=ubZ (x:=b-a-(w-a)) (y:=d-c-(m-c)) 40 60 (by omega) (by omega)
 have p2:=ubZ (x:=w-a) (y:=d-c-(m-c)) 40 60 (by omega) (by omega)
 have p3:=ubZ (x:=b-a-(w-a)) (y:=m-c) 40 60 (by omega) (by omega)
 have p4:=ubZ (x:=w-a) (y:=m-c) 40 60 (by omega) (by omega)
 have p5:=ubZ (x:=b-a) (y:=d-c) 40 60 (by omega) (by omega)
 have p6:1≤(b-a)*(d-c):=Int.mul_pos (by omega) (by omega)
 have q1:=ubZ (x:=v00) 2000 2400 (by omega) p1
 have q2:=ubZ (x:=v10) 2000 2400 (by omega) p2
 have q3:=ubZ (x:=v01) 2000 2400 (by omega) p3
 have q4:=ubZ (x:=v11) 2000 2400 (by omega) p4
 have p7:2*(b-a)*(d-c)=2*((b-a)*(d-c)):=Int.mul_assoc _ _ _
 have ei:((i:Int)+1).toNat=i+1:=by omega
 have ek:((k:Int)+1).toNat=k+1:=by omega
 have ei0:(i:Int).toNat=i:=by omega
 have ek0:(k:Int).toNat=k:=by omega
 refine ua0.is fun R hR=>qW (sc:=uzc) uaj mix Tryz.func129 rfl Tryz.call129 (by kernel_rfl) (by kernel_rfl) ?_
 generalize Tryz.prog=P at c128⊢
 cbv
 repeat' (first|with_reducible refine ua4 ?_ ?_|(refine qP ?_ (c128 _ _ (show uam _ from ?_)) (by(repeat' (first|exact qB|refine qD ?_ ?_|exact qE (by rfl)|exact qF (by rfl)|exact Fit.refl _|exact qA|refine qC ?_ rfl ?_)));try cbv)|fail)
 all_goals try (refine⟨some 5,?_⟩;cbv)
 repeat' (first|with_reducible refine ua4 ?_ ?_|(with_reducible refine qS ?_ ?_ ?_;try cbv)|fail)
 all_goals (try simp only [zQ,zA,zB,zC,zD,zE,zF,zG,zH,zI,zJ,zK,zL,zM,zN,zO,zP,zR,zS,hi,hk,ei,ek,ei0,ek0,ha,hb,hc,hd,h00,h10,h01,h11])
 all_goals first|(refine qN ?_;omega)|(simp only [uam];omega)|(refine qN ?_;rw [p7,Int.tdiv_eq_ediv_of_nonneg (by omega)];refine⟨?_,?_⟩;exact Int.le_trans (by omega) (Int.ediv_nonneg (by omega) (by omega));exact Int.le_trans (Int.ediv_le_self _ (by omega)) (by omega))|(subst hR;exact qE (by rfl))|(simp only [uam];decide)|skip
 trace_state
end Go.Proofs.YtkdggbfknlcdaaaGreat

namespace Go.Proofs.YtkdggbfknlcdaaaGreat
open Go Go.Eng Go.Proofs
set_option maxRecDepth 10000
theorem uy3 (tw tm:List Int)(tv:List (List Int))(w m:Int)(h:TOk tw tm tv∧Pt tw tm w m):ua0 Tryz.prog 129 [(.agg [(iS tw),(iS tm),(.sl 1 (.sym fun _=>zi (tv).length) (fun ix=>[(.sl 1 (.sym fun _=>zi ((tv).getD ix.den.toNat []).length) (fun jx=>[(iv fun _=>((tv).getD ix.den.toNat []).getD jx.den.toNat 0)]))]))]),(iv fun _=>w),(iv fun _=>m)] [] (fun r _=>r=(iv fun _=>atS tw tm tv w m)):=by
 obtain⟨h,hp⟩:=h
 have hi:=uc9 h.w2 hp.w0
 have hk:=uc9 h.m2 hp.m0
 have hr:=uat h.rw
 have hs:=uat h.rm
 have l1:=hi.lt
 have l2:=hk.lt
 have a1:=hr (ubI tw w tw.length 0) (by omega)
 have a2:=hr (ubI tw w tw.length 0+1) (by omega)
 have a3:=hs (ubI tm m tm.length 0) (by omega)
 have a4:=hs (ubI tm m tm.length 0+1) (by omega)
 simp only [ubk,Nat.add_sub_cancel]at a1 a2 a3 a4
 have e:=h.len
 have r1:=h.row (ubI tw w tw.length 0) (by omega)
 have r2:=h.row (ubI tw w tw.length 0+1) (by omega)
 have v1:=h.val (ubI tw w tw.length 0) (by omega) (ubI tm m tm.length 0) (by omega)
 have v2:=h.val (ubI tw w tw.length 0+1) (by omega) (ubI tm m tm.length 0) (by omega)
 have v3:=h.val (ubI tw w tw.length 0) (by omega) (ubI tm m tm.length 0+1) (by omega)
 have v4:=h.val (ubI tw w tw.length 0+1) (by omega) (ubI tm m tm.length 0+1) (by omega)
 have b1:=hi.le_hi hp.w1
 have b2:=hk.le_hi hp.m1
 have c1:=hi.lo
 have c2:=hk.lo
 have d1:=h.w5;have d2:=h.m5;have d3:=h.w2;have d4:=h.m2
 exact uwQ tw tm tv w m _ _ _ _ _ _ _ _ _ _ (by omega) rfl rfl rfl rfl rfl rfl rfl rfl rfl rfl (by omega) (by omega) (by omega)
end Go.Proofs.YtkdggbfknlcdaaaGreat

namespace Go.Proofs.YtkdggbfknlcdaaaGreat
def ucs (l:List Int)(i:Nat):Int:=if i=0 then -1 else l.getD (i-1) 0
theorem ugt (l:List Int):ucs l 0 = -1:=rfl
theorem ueI (l:List Int)(i:Nat):ucs l (i+1)=l.getD i 0:=by simp [ucs]
def ulH (l:List Int)(most:Int)(i:Nat):Bool:=decide (ucs l i+1≤l.getD i 0)&&decide (l.getD i 0≤most)
theorem upl {l:List Int} {most:Int} {i:Nat}(h:∀j,j<i→ulH l most j=true): -1≤ucs l i∧(ucs l i≤most∨ucs l i = -1):=by
 induction i with
 |zero=>rw [ugt];omega
 | succ i ih=>
  have:=ih fun j hj=>h j (by omega)
  have h2:=h i (by omega)
  simp only [ulH,Bool.and_eq_true,decide_eq_true_eq]at h2
  rw [ueI];omega
theorem uo2 (l:List Int)(most:Int):decide (∀i,i<l.length→ulH l most i=true)=ucr l most:=by
 rw [Bool.eq_iff_iff]
 simp only [ucr,decide_eq_true_eq]
 constructor
 ·intro h i hi
  have h1:=h i hi
  simp only [ulH,Bool.and_eq_true,decide_eq_true_eq]at h1
  have h2:=upl (i:=i) fun j hj=>h j (by omega)
  refine⟨by omega,by omega,fun h0=> ?_⟩
  obtain⟨k,rfl⟩:∃k,i=k+1:=⟨i-1,by omega⟩
  rw [ueI]at h1
  rw [Nat.add_sub_cancel];omega
 ·intro h i hi
  have h1:=h i hi
  simp only [ubk]at h1
  simp only [ulH,Bool.and_eq_true,decide_eq_true_eq]
  refine⟨?_,h1.2.1⟩
  by_cases e:i=0
  ·subst e;rw [ugt];omega
  ·have:=h1.2.2 (by omega)
   simp only [ucs,e,if_false];omega
def utN (l:List Int):Bool:=decide (∀i,i<l.length→(decide (0≤l.getD i 0)&&decide (l.getD i 0≤2000))=true)
def ufN (n:Nat)(l:List Int):Bool:=decide (l.length=n)&&utN l
def ugA (tm:List Int)(tv:List (List Int)):Bool:=decide (∀i,i<tv.length→ufN tm.length (tv.getD i [])=true)
theorem udj (tm:List Int)(tv:List (List Int)):ugA tm tv=true↔∀i,i<tv.length→(tv.getD i []).length=tm.length∧∀k,k<tm.length→0≤(tv.getD i []).getD k 0∧(tv.getD i []).getD k 0≤2000:=by
 simp only [ugA,ufN,utN,decide_eq_true_eq,Bool.and_eq_true]
 constructor
 ·intro h i hi
  obtain⟨h1,h2⟩:=h i hi
  exact⟨h1,fun k hk=>h2 k (by omega)⟩
 ·intro h i hi
  obtain⟨h1,h2⟩:=h i hi
  exact⟨h1,fun k hk=>h2 k (by omega)⟩
theorem udU (tw tm:List Int)(tv:List (List Int)):ubM tw tm tv=if 5<tw.length∨5<tm.length∨5<tv.length then 3
 else if tw.length<2∨tm.length<2∨ucr tw 40=false∨ucr tm 60=false∨tv.length≠tw.length∨ugA tm tv=false then 1 else 0:=by
 unfold ubM
 split
 ·rfl
 ·by_cases h:ugA tm tv=true
  ·have h':=(udj tm tv).1 h
   simp only [h,Bool.true_eq_false,or_false]
   split
   ·rfl
   ·first|rfl|rw [if_pos h']
  ·have h':=fun q=>h ((udj tm tv).2 q)
   have hf:ugA tm tv=false:=by simpa using h
   simp only [hf,or_true,if_true]
   split
   ·rfl
   ·first|rfl|rw [if_neg h']
end Go.Proofs.YtkdggbfknlcdaaaGreat

namespace Go.Proofs.YtkdggbfknlcdaaaGreat
open Go Go.Eng Go.Proofs
set_option maxRecDepth 10000
theorem uo1 (l:List Int)(hfew:l.length≤1000)(i:Nat)(hi:i<l.length∧∀j,j<i→(decide (0≤l.getD (j) 0)&&decide (l.getD (j) 0≤2000))=true):ua0 Tryz.prog 131 [(iv fun _=>l.getD (i) 0),.own 0 0] [.cells [.clo 123 [] []] 121] (fun r bs=>r=(bv fun _=> !(decide (0≤l.getD (i) 0)&&decide (l.getD (i) 0≤2000)))∧bs=[.cells [.clo 123 [] []] 121]):=by
 have cf:=urN (l.getD i 0)
 refine ua0.isB rfl fun R B hR hB=>qW (sc:=uwq) uaj mix Tryz.func131 rfl Tryz.call131 (by kernel_rfl) (by kernel_rfl) ?_
 generalize Tryz.prog=P at cf⊢
 cbv
 repeat' (first|with_reducible refine And.intro ?_ ?_|(refine qP ?_ (cf) (by(repeat' (first|exact qB|refine qD ?_ ?_|exact qE (by rfl)|exact qF (by rfl)|exact Fit.refl _|exact qA|refine qC ?_ rfl ?_)));try cbv)|fail)
 all_goals first|(subst hR;(repeat' (first|exact qA|exact qB|refine qC ?_ rfl ?_|refine qD ?_ ?_|exact qE (by rfl)|exact qF (by rfl)|exact Fit.refl _|exact qG _|(refine qE ?_;(try simp only [qV]at *);simp only [zQ,zA,zB,zC,zD,zE,zF,zG,zH,zI,zJ,zK,zL,zM,zN,zO,zP,zR,zS]at *;omega)));done)|(subst hB;(repeat' (first|exact qH|refine qI ?_ ?_|exact qK _|refine qJ ?_|exact qA|exact qE (by rfl)|exact qF (by rfl)|exact Fit.refl _|exact qG _|refine qC ?_ rfl ?_));done)|skip
theorem unU (l:List Int)(hfew:l.length≤1000):ua0 Tryz.prog 114 [(iS l),.clo 131 [] [.own 0 0]] [.cells [.clo 123 [] []] 121] (fun r bs=>r=(iv fun _=>ubK (fun i=>decide (0≤l.getD (i) 0)&&decide (l.getD (i) 0≤2000)) (l.length) 0)∧bs=[.cells [.clo 123 [] []] 121]):=by
 have cl:=uo1 l hfew
 refine ua0.isB rfl fun R B hR hB=>qW (sc:=uuB) uaj mix Tryz.func114 rfl Tryz.call114 (by kernel_rfl) (by kernel_rfl) ?_
 generalize Tryz.prog=P at cl⊢
 cbv
 repeat' (first|fail)
 all_goals first|skip
 refine⟨none,[],{i:Nat // i≤l.length∧ubK (fun i=>decide (0≤l.getD (i) 0)&&decide (l.getD (i) 0≤2000)) (l.length) 0=ubK (fun i=>decide (0≤l.getD (i) 0)&&decide (l.getD (i) 0≤2000)) (l.length-i) i∧∀j,j<i→(decide (0≤l.getD (j) 0)&&decide (l.getD (j) 0≤2000))=true},fun x=>⟨[(0,(iS l)),(1,.clo 131 [] [.own 0 0]),(7,(iv fun _=>zi (l.length))),(8,(iv fun _=>zi x.1))],[(0,.cells [.clo 123 [] []] 121)],20⟩,fun x=>l.length-x.1,?_,?_⟩
 ·refine⟨⟨0,by omega,rfl,fun j hj=>by omega⟩,?_⟩
  cbv
  repeat' (first|with_reducible refine ua4 ?_ ?_|with_reducible refine And.intro ?_ ?_)
  all_goals first|trivial|exact qM (qE (by rfl))|exact qM (Fit.refl _)|exact qL (qK _)|skip
 ·rintro ⟨i,hi,hr,hq⟩
  cbv
  repeat' (first
   |with_reducible refine ua4 ?_ ?_
   |with_reducible refine And.intro ?_ ?_
   |(with_reducible intro hcd;(try simp only [zA,zB,zC,zD,zE,zF,zG,zH,zI,zJ,zK,zL,zM,zN,zO,zP]at hcd);try cbv)
   | (refine⟨some [0],?_⟩
      cbv
      refine qQ ?_ (cl i ⟨by(try simp only [qV]at *);simp only [uah]at *;omega,hq⟩) (by cbv;(repeat' (first|exact qB|refine qD ?_ ?_|exact qE (by rfl)|exact qF (by rfl)|exact Fit.refl _|exact qA|refine qC ?_ rfl ?_))) (by cbv;(repeat' (first|exact qH|refine qI ?_ ?_|exact qK _|refine qJ ?_|exact qA|exact qE (by rfl)|exact qF (by rfl)|exact Fit.refl _|exact qG _|refine qC ?_ rfl ?_)))
      try cbv)
   |fail)
  all_goals first|((try simp only [qV]at *);(try simp only [zQ,zA,zB,zC,zD,zE,zF,zG,zH,zI,zJ,zK,zL,zM,zN,zO,zP,zR,zS]at *);first|(refine qN ?_;omega)|(simp only [uam];omega))|(subst hR;(refine qE ?_;simp only [zQ,zA,zB,zC,zD,zE,zF,zG,zH,zI,zJ,zK,zL,zM,zN,zO,zP,zR,zS]at *;rw [hr,ub9 (by omega) hcd]);done)|(subst hR;(refine qE ?_;simp only [zQ,zA,zB,zC,zD,zE,zF,zG,zH,zI,zJ,zK,zL,zM,zN,zO,zP,zR,zS]at *;rw [hr,show l.length-i=0 by omega];rfl);done)|(subst hB;(repeat' (first|exact qH|refine qI ?_ ?_|exact qK _|refine qJ ?_|exact qA|exact qE (by rfl)|exact qF (by rfl)|exact Fit.refl _|exact qG _|refine qC ?_ rfl ?_));done)|((try simp only [zQ,zA,zB,zC,zD,zE,zF,zG,zH,zI,zJ,zK,zL,zM,zN,zO,zP,zR,zS]at *);refine⟨⟨i+1,by omega,by rw [hr,ucn (by omega) hcd];(try congr 1)<;>omega,fun j hj=>(Nat.lt_or_ge j i).elim (hq j) (fun q=>by rw [show j=i by omega];exact hcd)⟩,by simp only [];omega,?_⟩;cbv;(repeat' (first|with_reducible refine ua4 ?_ ?_|with_reducible refine And.intro ?_ ?_));(all_goals first|trivial|exact qM (qE (by rfl))|exact qM (qF (by rfl))|exact qM (Fit.refl _)|exact qL (qK _)|(refine qM (qE ?_);(try simp only [qV]at *);simp only [zQ,zA,zB,zC,zD,zE,zF,zG,zH,zI,zJ,zK,zL,zM,zN,zO,zP,zR,zS]at *;omega)|(refine qL (qJ ?_);(repeat' (first|exact qA|exact qB|refine qC ?_ rfl ?_|refine qD ?_ ?_|exact qE (by rfl)|exact qF (by rfl)|exact Fit.refl _|exact qG _|(refine qE ?_;(try simp only [qV]at *);simp only [zQ,zA,zB,zC,zD,zE,zF,zG,zH,zI,zJ,zK,zL,zM,zN,zO,zP,zR,zS]at *;omega)));done)|skip))|skip
theorem ulh (l:List Int)(hfew:l.length≤1000):ua0 Tryz.prog 98 [(iS l),.clo 131 [] [.own 0 0]] [.cells [.clo 123 [] []] 121] (fun r bs=>r=(bv fun _=>decide (0≤ubK (fun i=>decide (0≤l.getD (i) 0)&&decide (l.getD (i) 0≤2000)) (l.length) 0))∧bs=[.cells [.clo 123 [] []] 121]):=by
 have ci:=unU l hfew
 refine ua0.isB rfl fun R B hR hB=>qW (sc:=uyk) uaj mix Tryz.func98 rfl Tryz.call98 (by kernel_rfl) (by kernel_rfl) ?_
 generalize Tryz.prog=P at ci⊢
 cbv
 repeat' (first
  |with_reducible refine And.intro ?_ ?_
  | (refine⟨some [0],?_⟩
     cbv
     refine qQ ?_ (ci) (by cbv;(repeat' (first|exact qB|refine qD ?_ ?_|exact qE (by rfl)|exact qF (by rfl)|exact Fit.refl _|exact qA|refine qC ?_ rfl ?_))) (by cbv;(repeat' (first|exact qH|refine qI ?_ ?_|exact qK _|refine qJ ?_|exact qA|exact qE (by rfl)|exact qF (by rfl)|exact Fit.refl _|exact qG _|refine qC ?_ rfl ?_)))
     try cbv)
  |fail)
 all_goals first|(subst hR;(repeat' (first|exact qA|exact qB|refine qC ?_ rfl ?_|refine qD ?_ ?_|exact qE (by rfl)|exact qF (by rfl)|exact Fit.refl _|exact qG _|(refine qE ?_;(try simp only [qV]at *);simp only [zQ,zA,zB,zC,zD,zE,zF,zG,zH,zI,zJ,zK,zL,zM,zN,zO,zP,zR,zS]at *;omega)));done)|(subst hB;(repeat' (first|exact qH|refine qI ?_ ?_|exact qK _|refine qJ ?_|exact qA|exact qE (by rfl)|exact qF (by rfl)|exact Fit.refl _|exact qG _|refine qC ?_ rfl ?_));done)|skip
theorem umY (l:List Int)(hfew:l.length≤1000):ua0 Tryz.prog 122 [(iS l),.clo 123 [] []] [] (fun r _=>r=(bv fun _=> !(decide (0≤ubK (fun i=>decide (0≤l.getD (i) 0)&&decide (l.getD (i) 0≤2000)) (l.length) 0)))):=by
 have cc:=ulh l hfew
 refine ua0.is fun R hR=>qW (sc:=uvQ) uaj mix Tryz.func122 rfl Tryz.call122 (by kernel_rfl) (by kernel_rfl) ?_
 generalize Tryz.prog=P at cc⊢
 cbv
 repeat' (first
  | (refine⟨some [0],?_⟩
     cbv
     refine qQ ?_ (cc) (by cbv;(repeat' (first|exact qB|refine qD ?_ ?_|exact qE (by rfl)|exact qF (by rfl)|exact Fit.refl _|exact qA|refine qC ?_ rfl ?_))) (by cbv;(repeat' (first|exact qH|refine qI ?_ ?_|exact qK _|refine qJ ?_|exact qA|exact qE (by rfl)|exact qF (by rfl)|exact Fit.refl _|exact qG _|refine qC ?_ rfl ?_)))
     try cbv)
  |fail)
 all_goals first|(subst hR;(repeat' (first|exact qA|exact qB|refine qC ?_ rfl ?_|refine qD ?_ ?_|exact qE (by rfl)|exact qF (by rfl)|exact Fit.refl _|exact qG _|(refine qE ?_;(try simp only [qV]at *);simp only [zQ,zA,zB,zC,zD,zE,zF,zG,zH,zI,zJ,zK,zL,zM,zN,zO,zP,zR,zS]at *;omega)));done)|skip
theorem urv (l:List Int)(most:Int)(i:Nat)(hm:0≤most∧most≤1000000)(hi:i<l.length∧∀j,j<i→ulH l most j=true):ua0 Tryz.prog 124 [(iv fun _=>l.getD i 0),.own 0 0,.own 1 0] [.cells [(iv fun _=>ucs l i)] 3,.cells [(iv fun _=>most)] 3] (fun r bs=>r=(bv fun _=>ulH l most i)∧bs=[.cells [(iv fun _=>ucs l (i+1))] 3,.cells [(iv fun _=>most)] 3]):=by
 have c113:= @ugM
 refine ua0.isB rfl fun R B hR hB=>qW (sc:=uy6) uaj mix Tryz.func124 rfl Tryz.call124 (by kernel_rfl) (by kernel_rfl) ?_
 generalize Tryz.prog=P at c113⊢
 cbv
 have hb:=upl hi.2
 repeat' (first|with_reducible refine ua4 ?_ ?_|with_reducible refine And.intro ?_ ?_|(refine qP ?_ (c113 _ _ _) (by(repeat' (first|exact qB|refine qD ?_ ?_|exact qE (by rfl)|exact qF (by rfl)|exact Fit.refl _|exact qA|refine qC ?_ rfl ?_)));try cbv)|fail)
 all_goals first|((try simp only [qV]at *);(try simp only [zQ,zA,zB,zC,zD,zE,zF,zG,zH,zI,zJ,zK,zL,zM,zN,zO,zP,zR,zS]at *);first|(refine qN ?_;omega)|(simp only [uam];omega))|(subst hR;(repeat' (first|exact qA|exact qB|refine qC ?_ rfl ?_|refine qD ?_ ?_|exact qE (by rfl)|exact qF (by rfl)|exact Fit.refl _|exact qG _|(refine qE ?_;(try simp only [qV]at *);simp only [zQ,zA,zB,zC,zD,zE,zF,zG,zH,zI,zJ,zK,zL,zM,zN,zO,zP,zR,zS]at *;omega)));done)|(subst hB;refine qI (qJ (qC (qE ?_) rfl qA)) (qI (qK _) qH);simp only [zQ,zA,zB,zC,zD,zE,zF,zG,zH,zI,zJ,zK,zL,zM,zN,zO,zP,zR,zS,ueI];done)|skip
theorem unz (l:List Int)(most:Int)(hm:0≤most∧most≤1000000)(hfew:l.length≤1000)(i:Nat)(hi:i<l.length∧∀j,j<i→(ulH l most (j))=true):ua0 Tryz.prog 131 [(iv fun _=>l.getD (i) 0),.own 0 0] [.cells [.clo 124 [] [.own 1 0,.own 2 0]] 121,.cells [(iv fun _=>ucs l (i))] 3,.cells [(iv fun _=>most)] 3] (fun r bs=>r=(bv fun _=> !(ulH l most (i)))∧bs=[.cells [.clo 124 [] [.own 1 0,.own 2 0]] 121,.cells [(iv fun _=>ucs l (i+1))] 3,.cells [(iv fun _=>most)] 3]):=by
 have cf:=urv l most i hm hi
 refine ua0.isB rfl fun R B hR hB=>qW (sc:=uwq) uaj mix Tryz.func131 rfl Tryz.call131 (by kernel_rfl) (by kernel_rfl) ?_
 generalize Tryz.prog=P at cf⊢
 cbv
 repeat' (first
  |with_reducible refine And.intro ?_ ?_
  | (refine⟨some [1,2],?_⟩
     cbv
     refine qQ ?_ (cf) (by cbv;(repeat' (first|exact qB|refine qD ?_ ?_|exact qE (by rfl)|exact qF (by rfl)|exact Fit.refl _|exact qA|refine qC ?_ rfl ?_))) (by cbv;(repeat' (first|exact qH|refine qI ?_ ?_|exact qK _|refine qJ ?_|exact qA|exact qE (by rfl)|exact qF (by rfl)|exact Fit.refl _|exact qG _|refine qC ?_ rfl ?_)))
     try cbv)
  |fail)
 all_goals first|(subst hR;(repeat' (first|exact qA|exact qB|refine qC ?_ rfl ?_|refine qD ?_ ?_|exact qE (by rfl)|exact qF (by rfl)|exact Fit.refl _|exact qG _|(refine qE ?_;(try simp only [qV]at *);simp only [zQ,zA,zB,zC,zD,zE,zF,zG,zH,zI,zJ,zK,zL,zM,zN,zO,zP,zR,zS]at *;omega)));done)|(subst hB;(repeat' (first|exact qH|refine qI ?_ ?_|exact qK _|refine qJ ?_|exact qA|exact qE (by rfl)|exact qF (by rfl)|exact Fit.refl _|exact qG _|refine qC ?_ rfl ?_));done)|skip
theorem unY (l:List Int)(most:Int)(hm:0≤most∧most≤1000000)(hfew:l.length≤1000):ua0 Tryz.prog 114 [(iS l),.clo 131 [] [.own 0 0]] [.cells [.clo 124 [] [.own 1 0,.own 2 0]] 121,.cells [(iv fun _=>ucs l (0))] 3,.cells [(iv fun _=>most)] 3] (fun r bs=>r=(iv fun _=>ubK (fun i=>ulH l most (i)) (l.length) 0)∧bs=[.cells [.clo 124 [] [.own 1 0,.own 2 0]] 121,.cells [.any] 3,.cells [(iv fun _=>most)] 3]):=by
 have cl:=unz l most hm hfew
 refine ua0.isB rfl fun R B hR hB=>qW (sc:=uuB) uaj mix Tryz.func114 rfl Tryz.call114 (by kernel_rfl) (by kernel_rfl) ?_
 generalize Tryz.prog=P at cl⊢
 cbv
 repeat' (first|fail)
 all_goals first|skip
 refine⟨none,[],{i:Nat // i≤l.length∧ubK (fun i=>ulH l most (i)) (l.length) 0=ubK (fun i=>ulH l most (i)) (l.length-i) i∧∀j,j<i→(ulH l most (j))=true},fun x=>⟨[(0,(iS l)),(1,.clo 131 [] [.own 0 0]),(7,(iv fun _=>zi (l.length))),(8,(iv fun _=>zi x.1))],[(0,.cells [.clo 124 [] [.own 1 0,.own 2 0]] 121),(1,.cells [(iv fun _=>ucs l (x.1))] 3),(2,.cells [(iv fun _=>most)] 3)],20⟩,fun x=>l.length-x.1,?_,?_⟩
 ·refine⟨⟨0,by omega,rfl,fun j hj=>by omega⟩,?_⟩
  cbv
  repeat' (first|with_reducible refine ua4 ?_ ?_|with_reducible refine And.intro ?_ ?_)
  all_goals first|trivial|exact qM (qE (by rfl))|exact qM (Fit.refl _)|exact qL (qK _)|skip
 ·rintro ⟨i,hi,hr,hq⟩
  cbv
  repeat' (first
   |with_reducible refine ua4 ?_ ?_
   |with_reducible refine And.intro ?_ ?_
   |(with_reducible intro hcd;(try simp only [zA,zB,zC,zD,zE,zF,zG,zH,zI,zJ,zK,zL,zM,zN,zO,zP]at hcd);try cbv)
   | (refine⟨some [0,1,2],?_⟩
      cbv
      refine qQ ?_ (cl i ⟨by(try simp only [qV]at *);simp only [uah]at *;omega,hq⟩) (by cbv;(repeat' (first|exact qB|refine qD ?_ ?_|exact qE (by rfl)|exact qF (by rfl)|exact Fit.refl _|exact qA|refine qC ?_ rfl ?_))) (by cbv;(repeat' (first|exact qH|refine qI ?_ ?_|exact qK _|refine qJ ?_|exact qA|exact qE (by rfl)|exact qF (by rfl)|exact Fit.refl _|exact qG _|refine qC ?_ rfl ?_)))
      try cbv)
   |fail)
  all_goals first|((try simp only [qV]at *);(try simp only [zQ,zA,zB,zC,zD,zE,zF,zG,zH,zI,zJ,zK,zL,zM,zN,zO,zP,zR,zS]at *);first|(refine qN ?_;omega)|(simp only [uam];omega))|(subst hR;(refine qE ?_;simp only [zQ,zA,zB,zC,zD,zE,zF,zG,zH,zI,zJ,zK,zL,zM,zN,zO,zP,zR,zS]at *;rw [hr,ub9 (by omega) hcd]);done)|(subst hR;(refine qE ?_;simp only [zQ,zA,zB,zC,zD,zE,zF,zG,zH,zI,zJ,zK,zL,zM,zN,zO,zP,zR,zS]at *;rw [hr,show l.length-i=0 by omega];rfl);done)|(subst hB;(repeat' (first|exact qH|refine qI ?_ ?_|exact qK _|refine qJ ?_|exact qA|exact qE (by rfl)|exact qF (by rfl)|exact Fit.refl _|exact qG _|refine qC ?_ rfl ?_));done)|((try simp only [zQ,zA,zB,zC,zD,zE,zF,zG,zH,zI,zJ,zK,zL,zM,zN,zO,zP,zR,zS]at *);refine⟨⟨i+1,by omega,by rw [hr,ucn (by omega) hcd];(try congr 1)<;>omega,fun j hj=>(Nat.lt_or_ge j i).elim (hq j) (fun q=>by rw [show j=i by omega];exact hcd)⟩,by simp only [];omega,?_⟩;cbv;(repeat' (first|with_reducible refine ua4 ?_ ?_|with_reducible refine And.intro ?_ ?_));(all_goals first|trivial|exact qM (qE (by rfl))|exact qM (qF (by rfl))|exact qM (Fit.refl _)|exact qL (qK _)|(refine qM (qE ?_);(try simp only [qV]at *);simp only [zQ,zA,zB,zC,zD,zE,zF,zG,zH,zI,zJ,zK,zL,zM,zN,zO,zP,zR,zS]at *;omega)|(refine qL (qJ ?_);(repeat' (first|exact qA|exact qB|refine qC ?_ rfl ?_|refine qD ?_ ?_|exact qE (by rfl)|exact qF (by rfl)|exact Fit.refl _|exact qG _|(refine qE ?_;(try simp only [qV]at *);simp only [zQ,zA,zB,zC,zD,zE,zF,zG,zH,zI,zJ,zK,zL,zM,zN,zO,zP,zR,zS]at *;omega)));done)|skip))|skip
theorem ulD (l:List Int)(most:Int)(hm:0≤most∧most≤1000000)(hfew:l.length≤1000):ua0 Tryz.prog 98 [(iS l),.clo 131 [] [.own 0 0]] [.cells [.clo 124 [] [.own 1 0,.own 2 0]] 121,.cells [(iv fun _=>ucs l (0))] 3,.cells [(iv fun _=>most)] 3] (fun r bs=>r=(bv fun _=>decide (0≤ubK (fun i=>ulH l most (i)) (l.length) 0))∧bs=[.cells [.clo 124 [] [.own 1 0,.own 2 0]] 121,.cells [.any] 3,.cells [(iv fun _=>most)] 3]):=by
 have ci:=unY l most hm hfew
 refine ua0.isB rfl fun R B hR hB=>qW (sc:=uyk) uaj mix Tryz.func98 rfl Tryz.call98 (by kernel_rfl) (by kernel_rfl) ?_
 generalize Tryz.prog=P at ci⊢
 cbv
 repeat' (first
  |with_reducible refine And.intro ?_ ?_
  | (refine⟨some [0,1,2],?_⟩
     cbv
     refine qQ ?_ (ci) (by cbv;(repeat' (first|exact qB|refine qD ?_ ?_|exact qE (by rfl)|exact qF (by rfl)|exact Fit.refl _|exact qA|refine qC ?_ rfl ?_))) (by cbv;(repeat' (first|exact qH|refine qI ?_ ?_|exact qK _|refine qJ ?_|exact qA|exact qE (by rfl)|exact qF (by rfl)|exact Fit.refl _|exact qG _|refine qC ?_ rfl ?_)))
     try cbv)
  |fail)
 all_goals first|(subst hR;(repeat' (first|exact qA|exact qB|refine qC ?_ rfl ?_|refine qD ?_ ?_|exact qE (by rfl)|exact qF (by rfl)|exact Fit.refl _|exact qG _|(refine qE ?_;(try simp only [qV]at *);simp only [zQ,zA,zB,zC,zD,zE,zF,zG,zH,zI,zJ,zK,zL,zM,zN,zO,zP,zR,zS]at *;omega)));done)|(subst hB;(repeat' (first|exact qH|refine qI ?_ ?_|exact qK _|refine qJ ?_|exact qA|exact qE (by rfl)|exact qF (by rfl)|exact Fit.refl _|exact qG _|refine qC ?_ rfl ?_));done)|skip
theorem uo9 (l:List Int)(most:Int)(hm:0≤most∧most≤1000000)(hfew:l.length≤1000):ua0 Tryz.prog 122 [(iS l),.clo 124 [] [.own 0 0,.own 1 0]] [.cells [(iv fun _=>ucs l (0))] 3,.cells [(iv fun _=>most)] 3] (fun r bs=>r=(bv fun _=> !(decide (0≤ubK (fun i=>ulH l most (i)) (l.length) 0)))∧bs=[.cells [.any] 3,.cells [(iv fun _=>most)] 3]):=by
 have cc:=ulD l most hm hfew
 refine ua0.isB rfl fun R B hR hB=>qW (sc:=uvQ) uaj mix Tryz.func122 rfl Tryz.call122 (by kernel_rfl) (by kernel_rfl) ?_
 generalize Tryz.prog=P at cc⊢
 cbv
 repeat' (first
  |with_reducible refine And.intro ?_ ?_
  | (refine⟨some [2,0,1],?_⟩
     cbv
     refine qQ ?_ (cc) (by cbv;(repeat' (first|exact qB|refine qD ?_ ?_|exact qE (by rfl)|exact qF (by rfl)|exact Fit.refl _|exact qA|refine qC ?_ rfl ?_))) (by cbv;(repeat' (first|exact qH|refine qI ?_ ?_|exact qK _|refine qJ ?_|exact qA|exact qE (by rfl)|exact qF (by rfl)|exact Fit.refl _|exact qG _|refine qC ?_ rfl ?_)))
     try cbv)
  |fail)
 all_goals first|(subst hR;(repeat' (first|exact qA|exact qB|refine qC ?_ rfl ?_|refine qD ?_ ?_|exact qE (by rfl)|exact qF (by rfl)|exact Fit.refl _|exact qG _|(refine qE ?_;(try simp only [qV]at *);simp only [zQ,zA,zB,zC,zD,zE,zF,zG,zH,zI,zJ,zK,zL,zM,zN,zO,zP,zR,zS]at *;omega)));done)|(subst hB;(repeat' (first|exact qH|refine qI ?_ ?_|exact qK _|refine qJ ?_|exact qA|exact qE (by rfl)|exact qF (by rfl)|exact Fit.refl _|exact qG _|refine qC ?_ rfl ?_));done)|skip
theorem uqa (l:List Int)(most:Int)(h:l.length≤1000)(hm:0≤most∧most≤1000000):ua0 Tryz.prog 109 [(iS l),(iv fun _=>most)] [] (fun r _=>r=(bv fun _=>decide (2≤l.length)&&ucr l most)):=by
 have ca:=uo9 l most hm h
 refine ua0.is fun R hR=>qW (sc:=uyi) uaj mix Tryz.func109 rfl Tryz.call109 (by kernel_rfl) (by kernel_rfl) ?_
 generalize Tryz.prog=P at ca⊢
 cbv
 repeat' (first
  |with_reducible refine And.intro ?_ ?_
  |(with_reducible intro hcd;(try simp only [zA,zB,zC,zD,zE,zF,zG,zH,zI,zJ,zK,zL,zM,zN,zO,zP]at hcd);try cbv)
  | (refine⟨some [2,0],?_⟩
     cbv
     refine qQ ?_ (ca) (by cbv;(repeat' (first|exact qB|refine qD ?_ ?_|exact qE (by rfl)|exact qF (by rfl)|exact Fit.refl _|exact qA|refine qC ?_ rfl ?_))) (by cbv;(repeat' (first|exact qH|refine qI ?_ ?_|exact qK _|refine qJ ?_|exact qA|exact qE (by rfl)|exact qF (by rfl)|exact Fit.refl _|exact qG _|refine qC ?_ rfl ?_)))
     try cbv)
  |fail)
 all_goals first|(subst hR;(refine qF ?_;(try simp only [qV]at *);simp only [zQ,zA,zB,zC,zD,zE,zF,zG,zH,zI,zJ,zK,zL,zM,zN,zO,zP,zR,zS]at *;rw [ugj,uo2];have h2:2≤l.length:=(by omega);simp [h2]);done)|(subst hR;(refine qF ?_;(try simp only [qV]at *);simp only [zQ,zA,zB,zC,zD,zE,zF,zG,zH,zI,zJ,zK,zL,zM,zN,zO,zP,zR,zS]at *;have h2:¬2≤l.length:=(by omega);simp [h2]);done)|skip
theorem uxL (tw tm l:List Int)(tv:List (List Int))(h:tm.length≤1000):ua0 Tryz.prog 108 [(.agg [(iS tw),(iS tm),(.sl 1 (.sym fun _=>zi (tv).length) (fun ix=>[(.sl 1 (.sym fun _=>zi ((tv).getD ix.den.toNat []).length) (fun jx=>[(iv fun _=>((tv).getD ix.den.toNat []).getD jx.den.toNat 0)]))]))]),(iS l)] [] (fun r _=>r=(bv fun _=>ufN tm.length l)):=by
 have ca:=umY l
 refine ua0.is fun R hR=>qW (sc:=uyE) uaj mix Tryz.func108 rfl Tryz.call108 (by kernel_rfl) (by kernel_rfl) ?_
 generalize Tryz.prog=P at ca⊢
 cbv
 repeat' (first|with_reducible refine And.intro ?_ ?_|(with_reducible intro hcd;(try simp only [zA,zB,zC,zD,zE,zF,zG,zH,zI,zJ,zK,zL,zM,zN,zO,zP]at hcd);try cbv)|(refine qP ?_ (ca (show uam _ from ?_)) (by(repeat' (first|exact qB|refine qD ?_ ?_|exact qE (by rfl)|exact qF (by rfl)|exact Fit.refl _|exact qA|refine qC ?_ rfl ?_)));try cbv)|fail)
 all_goals first|((try simp only [qV]at *);(try simp only [zQ,zA,zB,zC,zD,zE,zF,zG,zH,zI,zJ,zK,zL,zM,zN,zO,zP,zR,zS]at *);first|(refine qN ?_;omega)|(simp only [uam];omega))|(subst hR;(refine qF ?_;(try simp only [qV]at *);simp only [zQ,zA,zB,zC,zD,zE,zF,zG,zH,zI,zJ,zK,zL,zM,zN,zO,zP,zR,zS]at *;rw [ugj,ufN,utN];have h2:l.length=tm.length:=(by omega);simp only [h2,decide_true,Bool.true_and]);done)|(subst hR;(refine qF ?_;(try simp only [qV]at *);simp only [zQ,zA,zB,zC,zD,zE,zF,zG,zH,zI,zJ,zK,zL,zM,zN,zO,zP,zR,zS]at *;rw [ufN];have h2:¬l.length=tm.length:=(by omega);simp [h2]);done)|skip
end Go.Proofs.YtkdggbfknlcdaaaGreat

namespace Go.Proofs.YtkdggbfknlcdaaaGreat
open Go Go.Eng Go.Proofs
set_option maxRecDepth 10000
theorem uli (tw tm:List Int)(tv:List (List Int))(hm:tm.length≤1000)(hfew:tv.length≤1000)(i:Nat)(hi:i<tv.length∧∀j,j<i→(ufN tm.length (tv.getD (j) []))=true):ua0 Tryz.prog 126 [(.sl 1 (.sym fun _=>zi ((tv.getD (i) [])).length) (fun ix=>[(iv fun _=>((tv.getD (i) [])).getD ix.den.toNat 0)])),.own 0 0] [.cells [.clo 108 [(.agg [(iS tw),(iS tm),(.sl 1 (.sym fun _=>zi (tv).length) (fun ix=>[(.sl 1 (.sym fun _=>zi ((tv).getD ix.den.toNat []).length) (fun jx=>[(iv fun _=>((tv).getD ix.den.toNat []).getD jx.den.toNat 0)]))]))])] []] 117] (fun r bs=>r=(bv fun _=> !(ufN tm.length (tv.getD (i) [])))∧bs=[.cells [.clo 108 [(.agg [(iS tw),(iS tm),(.sl 1 (.sym fun _=>zi (tv).length) (fun ix=>[(.sl 1 (.sym fun _=>zi ((tv).getD ix.den.toNat []).length) (fun jx=>[(iv fun _=>((tv).getD ix.den.toNat []).getD jx.den.toNat 0)]))]))])] []] 117]):=by
 have cf:=uxL tw tm (tv.getD i []) tv hm
 refine ua0.isB rfl fun R B hR hB=>qW (sc:=uz4) uaj mix Tryz.func126 rfl Tryz.call126 (by kernel_rfl) (by kernel_rfl) ?_
 generalize Tryz.prog=P at cf⊢
 cbv
 repeat' (first|with_reducible refine And.intro ?_ ?_|(refine qP ?_ (cf) (by(repeat' (first|exact qB|refine qD ?_ ?_|exact qE (by rfl)|exact qF (by rfl)|exact Fit.refl _|exact qA|refine qC ?_ rfl ?_)));try cbv)|fail)
 all_goals first|(subst hR;(repeat' (first|exact qA|exact qB|refine qC ?_ rfl ?_|refine qD ?_ ?_|exact qE (by rfl)|exact qF (by rfl)|exact Fit.refl _|exact qG _|(refine qE ?_;(try simp only [qV]at *);simp only [zQ,zA,zB,zC,zD,zE,zF,zG,zH,zI,zJ,zK,zL,zM,zN,zO,zP,zR,zS]at *;omega)));done)|(subst hB;(repeat' (first|exact qH|refine qI ?_ ?_|exact qK _|refine qJ ?_|exact qA|exact qE (by rfl)|exact qF (by rfl)|exact Fit.refl _|exact qG _|refine qC ?_ rfl ?_));done)|skip
theorem ukE (tw tm:List Int)(tv:List (List Int))(hm:tm.length≤1000)(hfew:tv.length≤1000):ua0 Tryz.prog 92 [(.sl 1 (.sym fun _=>zi (tv).length) (fun ix=>[(.sl 1 (.sym fun _=>zi ((tv).getD ix.den.toNat []).length) (fun jx=>[(iv fun _=>((tv).getD ix.den.toNat []).getD jx.den.toNat 0)]))])),.clo 126 [] [.own 0 0]] [.cells [.clo 108 [(.agg [(iS tw),(iS tm),(.sl 1 (.sym fun _=>zi (tv).length) (fun ix=>[(.sl 1 (.sym fun _=>zi ((tv).getD ix.den.toNat []).length) (fun jx=>[(iv fun _=>((tv).getD ix.den.toNat []).getD jx.den.toNat 0)]))]))])] []] 117] (fun r bs=>r=(iv fun _=>ubK (fun i=>ufN tm.length (tv.getD (i) [])) (tv.length) 0)∧bs=[.cells [.clo 108 [(.agg [(iS tw),(iS tm),(.sl 1 (.sym fun _=>zi (tv).length) (fun ix=>[(.sl 1 (.sym fun _=>zi ((tv).getD ix.den.toNat []).length) (fun jx=>[(iv fun _=>((tv).getD ix.den.toNat []).getD jx.den.toNat 0)]))]))])] []] 117]):=by
 have cl:=uli tw tm tv hm hfew
 refine ua0.isB rfl fun R B hR hB=>qW (sc:=uxQ) uaj mix Tryz.func92 rfl Tryz.call92 (by kernel_rfl) (by kernel_rfl) ?_
 generalize Tryz.prog=P at cl⊢
 cbv
 repeat' (first|fail)
 all_goals first|skip
 refine⟨none,[],{i:Nat // i≤tv.length∧ubK (fun i=>ufN tm.length (tv.getD (i) [])) (tv.length) 0=ubK (fun i=>ufN tm.length (tv.getD (i) [])) (tv.length-i) i∧∀j,j<i→(ufN tm.length (tv.getD (j) []))=true},fun x=>⟨[(0,(.sl 1 (.sym fun _=>zi (tv).length) (fun ix=>[(.sl 1 (.sym fun _=>zi ((tv).getD ix.den.toNat []).length) (fun jx=>[(iv fun _=>((tv).getD ix.den.toNat []).getD jx.den.toNat 0)]))]))),(1,.clo 126 [] [.own 0 0]),(7,(iv fun _=>zi (tv.length))),(8,(iv fun _=>zi x.1))],[(0,.cells [.clo 108 [(.agg [(iS tw),(iS tm),(.sl 1 (.sym fun _=>zi (tv).length) (fun ix=>[(.sl 1 (.sym fun _=>zi ((tv).getD ix.den.toNat []).length) (fun jx=>[(iv fun _=>((tv).getD ix.den.toNat []).getD jx.den.toNat 0)]))]))])] []] 117)],20⟩,fun x=>tv.length-x.1,?_,?_⟩
 ·refine⟨⟨0,by omega,rfl,fun j hj=>by omega⟩,?_⟩
  cbv
  repeat' (first|with_reducible refine ua4 ?_ ?_|with_reducible refine And.intro ?_ ?_)
  all_goals first|trivial|exact qM (qE (by rfl))|exact qM (Fit.refl _)|exact qL (qK _)|skip
 ·rintro ⟨i,hi,hr,hq⟩
  cbv
  repeat' (first
   |with_reducible refine ua4 ?_ ?_
   |with_reducible refine And.intro ?_ ?_
   |(with_reducible intro hcd;(try simp only [zA,zB,zC,zD,zE,zF,zG,zH,zI,zJ,zK,zL,zM,zN,zO,zP]at hcd);try cbv)
   | (refine⟨some [0],?_⟩
      cbv
      refine qQ ?_ (cl i ⟨by(try simp only [qV]at *);simp only [uah]at *;omega,hq⟩) (by cbv;(repeat' (first|exact qB|refine qD ?_ ?_|exact qE (by rfl)|exact qF (by rfl)|exact Fit.refl _|exact qA|refine qC ?_ rfl ?_))) (by cbv;(repeat' (first|exact qH|refine qI ?_ ?_|exact qK _|refine qJ ?_|exact qA|exact qE (by rfl)|exact qF (by rfl)|exact Fit.refl _|exact qG _|refine qC ?_ rfl ?_)))
      try cbv)
   |fail)
  all_goals first|((try simp only [qV]at *);(try simp only [zQ,zA,zB,zC,zD,zE,zF,zG,zH,zI,zJ,zK,zL,zM,zN,zO,zP,zR,zS]at *);first|(refine qN ?_;omega)|(simp only [uam];omega))|(subst hR;(refine qE ?_;simp only [zQ,zA,zB,zC,zD,zE,zF,zG,zH,zI,zJ,zK,zL,zM,zN,zO,zP,zR,zS]at *;rw [hr,ub9 (by omega) hcd]);done)|(subst hR;(refine qE ?_;simp only [zQ,zA,zB,zC,zD,zE,zF,zG,zH,zI,zJ,zK,zL,zM,zN,zO,zP,zR,zS]at *;rw [hr,show tv.length-i=0 by omega];rfl);done)|(subst hB;(repeat' (first|exact qH|refine qI ?_ ?_|exact qK _|refine qJ ?_|exact qA|exact qE (by rfl)|exact qF (by rfl)|exact Fit.refl _|exact qG _|refine qC ?_ rfl ?_));done)|((try simp only [zQ,zA,zB,zC,zD,zE,zF,zG,zH,zI,zJ,zK,zL,zM,zN,zO,zP,zR,zS]at *);refine⟨⟨i+1,by omega,by rw [hr,ucn (by omega) hcd];(try congr 1)<;>omega,fun j hj=>(Nat.lt_or_ge j i).elim (hq j) (fun q=>by rw [show j=i by omega];exact hcd)⟩,by simp only [];omega,?_⟩;cbv;(repeat' (first|with_reducible refine ua4 ?_ ?_|with_reducible refine And.intro ?_ ?_));(all_goals first|trivial|exact qM (qE (by rfl))|exact qM (qF (by rfl))|exact qM (Fit.refl _)|exact qL (qK _)|(refine qM (qE ?_);(try simp only [qV]at *);simp only [zQ,zA,zB,zC,zD,zE,zF,zG,zH,zI,zJ,zK,zL,zM,zN,zO,zP,zR,zS]at *;omega)|(refine qL (qJ ?_);(repeat' (first|exact qA|exact qB|refine qC ?_ rfl ?_|refine qD ?_ ?_|exact qE (by rfl)|exact qF (by rfl)|exact Fit.refl _|exact qG _|(refine qE ?_;(try simp only [qV]at *);simp only [zQ,zA,zB,zC,zD,zE,zF,zG,zH,zI,zJ,zK,zL,zM,zN,zO,zP,zR,zS]at *;omega)));done)|skip))|skip
theorem ujq (tw tm:List Int)(tv:List (List Int))(hm:tm.length≤1000)(hfew:tv.length≤1000):ua0 Tryz.prog 55 [(.sl 1 (.sym fun _=>zi (tv).length) (fun ix=>[(.sl 1 (.sym fun _=>zi ((tv).getD ix.den.toNat []).length) (fun jx=>[(iv fun _=>((tv).getD ix.den.toNat []).getD jx.den.toNat 0)]))])),.clo 126 [] [.own 0 0]] [.cells [.clo 108 [(.agg [(iS tw),(iS tm),(.sl 1 (.sym fun _=>zi (tv).length) (fun ix=>[(.sl 1 (.sym fun _=>zi ((tv).getD ix.den.toNat []).length) (fun jx=>[(iv fun _=>((tv).getD ix.den.toNat []).getD jx.den.toNat 0)]))]))])] []] 117] (fun r bs=>r=(bv fun _=>decide (0≤ubK (fun i=>ufN tm.length (tv.getD (i) [])) (tv.length) 0))∧bs=[.cells [.clo 108 [(.agg [(iS tw),(iS tm),(.sl 1 (.sym fun _=>zi (tv).length) (fun ix=>[(.sl 1 (.sym fun _=>zi ((tv).getD ix.den.toNat []).length) (fun jx=>[(iv fun _=>((tv).getD ix.den.toNat []).getD jx.den.toNat 0)]))]))])] []] 117]):=by
 have ci:=ukE tw tm tv hm hfew
 refine ua0.isB rfl fun R B hR hB=>qW (sc:=uxE) uaj mix Tryz.func55 rfl Tryz.call55 (by kernel_rfl) (by kernel_rfl) ?_
 generalize Tryz.prog=P at ci⊢
 cbv
 repeat' (first
  |with_reducible refine And.intro ?_ ?_
  | (refine⟨some [0],?_⟩
     cbv
     refine qQ ?_ (ci) (by cbv;(repeat' (first|exact qB|refine qD ?_ ?_|exact qE (by rfl)|exact qF (by rfl)|exact Fit.refl _|exact qA|refine qC ?_ rfl ?_))) (by cbv;(repeat' (first|exact qH|refine qI ?_ ?_|exact qK _|refine qJ ?_|exact qA|exact qE (by rfl)|exact qF (by rfl)|exact Fit.refl _|exact qG _|refine qC ?_ rfl ?_)))
     try cbv)
  |fail)
 all_goals first|(subst hR;(repeat' (first|exact qA|exact qB|refine qC ?_ rfl ?_|refine qD ?_ ?_|exact qE (by rfl)|exact qF (by rfl)|exact Fit.refl _|exact qG _|(refine qE ?_;(try simp only [qV]at *);simp only [zQ,zA,zB,zC,zD,zE,zF,zG,zH,zI,zJ,zK,zL,zM,zN,zO,zP,zR,zS]at *;omega)));done)|(subst hB;(repeat' (first|exact qH|refine qI ?_ ?_|exact qK _|refine qJ ?_|exact qA|exact qE (by rfl)|exact qF (by rfl)|exact Fit.refl _|exact qG _|refine qC ?_ rfl ?_));done)|skip
theorem unb (tw tm:List Int)(tv:List (List Int))(hm:tm.length≤1000)(hfew:tv.length≤1000):ua0 Tryz.prog 110 [(.sl 1 (.sym fun _=>zi (tv).length) (fun ix=>[(.sl 1 (.sym fun _=>zi ((tv).getD ix.den.toNat []).length) (fun jx=>[(iv fun _=>((tv).getD ix.den.toNat []).getD jx.den.toNat 0)]))])),.clo 108 [(.agg [(iS tw),(iS tm),(.sl 1 (.sym fun _=>zi (tv).length) (fun ix=>[(.sl 1 (.sym fun _=>zi ((tv).getD ix.den.toNat []).length) (fun jx=>[(iv fun _=>((tv).getD ix.den.toNat []).getD jx.den.toNat 0)]))]))])] []] [] (fun r _=>r=(bv fun _=> !(decide (0≤ubK (fun i=>ufN tm.length (tv.getD (i) [])) (tv.length) 0)))):=by
 have cc:=ujq tw tm tv hm hfew
 refine ua0.is fun R hR=>qW (sc:=uyZ) uaj mix Tryz.func110 rfl Tryz.call110 (by kernel_rfl) (by kernel_rfl) ?_
 generalize Tryz.prog=P at cc⊢
 cbv
 repeat' (first
  | (refine⟨some [0],?_⟩
     cbv
     refine qQ ?_ (cc) (by cbv;(repeat' (first|exact qB|refine qD ?_ ?_|exact qE (by rfl)|exact qF (by rfl)|exact Fit.refl _|exact qA|refine qC ?_ rfl ?_))) (by cbv;(repeat' (first|exact qH|refine qI ?_ ?_|exact qK _|refine qJ ?_|exact qA|exact qE (by rfl)|exact qF (by rfl)|exact Fit.refl _|exact qG _|refine qC ?_ rfl ?_)))
     try cbv)
  |fail)
 all_goals first|(subst hR;(repeat' (first|exact qA|exact qB|refine qC ?_ rfl ?_|refine qD ?_ ?_|exact qE (by rfl)|exact qF (by rfl)|exact Fit.refl _|exact qG _|(refine qE ?_;(try simp only [qV]at *);simp only [zQ,zA,zB,zC,zD,zE,zF,zG,zH,zI,zJ,zK,zL,zM,zN,zO,zP,zR,zS]at *;omega)));done)|skip
theorem uw1 (tw tm:List Int)(tv:List (List Int))(h:tm.length≤1000∧tv.length≤1000):ua0 Tryz.prog 110 [(.sl 1 (.sym fun _=>zi (tv).length) (fun ix=>[(.sl 1 (.sym fun _=>zi ((tv).getD ix.den.toNat []).length) (fun jx=>[(iv fun _=>((tv).getD ix.den.toNat []).getD jx.den.toNat 0)]))])),.clo 108 [(.agg [(iS tw),(iS tm),(.sl 1 (.sym fun _=>zi (tv).length) (fun ix=>[(.sl 1 (.sym fun _=>zi ((tv).getD ix.den.toNat []).length) (fun jx=>[(iv fun _=>((tv).getD ix.den.toNat []).getD jx.den.toNat 0)]))]))])] []] [] (fun r _=>r=(bv fun _=>ugA tm tv)):=by
 have:=unb tw tm tv h.1 h.2
 simp only [ugj]at this
 exact this
set_option maxHeartbeats 1000000 in
theorem uqi (tw tm:List Int)(tv:List (List Int)):ua0 Tryz.prog 93 [(.agg [(iS tw),(iS tm),(.sl 1 (.sym fun _=>zi (tv).length) (fun ix=>[(.sl 1 (.sym fun _=>zi ((tv).getD ix.den.toNat []).length) (fun jx=>[(iv fun _=>((tv).getD ix.den.toNat []).getD jx.den.toNat 0)]))]))])] [] (fun r _=>r=(iv fun _=>ubM tw tm tv)):=by
 have c97:= @uqa
 have c98:= @uw1
 refine ua0.is fun R hR=>qW (sc:=uA2) uaj mix Tryz.func93 rfl Tryz.call93 (by kernel_rfl) (by kernel_rfl) ?_
 generalize Tryz.prog=P at c97 c98⊢
 cbv
 repeat' (first|with_reducible refine And.intro ?_ ?_|(with_reducible intro hcd;(try simp only [zA,zB,zC,zD,zE,zF,zG,zH,zI,zJ,zK,zL,zM,zN,zO,zP]at hcd);try cbv)|(refine qP ?_ (c97 _ _ (show uam _ from ?_) (show uam _ from ?_)) (by(repeat' (first|exact qB|refine qD ?_ ?_|exact qE (by rfl)|exact qF (by rfl)|exact Fit.refl _|exact qA|refine qC ?_ rfl ?_)));try cbv)|(refine qP ?_ (c98 _ _ _ (show uam _ from ?_)) (by(repeat' (first|exact qB|refine qD ?_ ?_|exact qE (by rfl)|exact qF (by rfl)|exact Fit.refl _|exact qA|refine qC ?_ rfl ?_)));try cbv)|fail)
 all_goals first|trivial|((try simp only [qV]at *);(try simp only [zQ,zA,zB,zC,zD,zE,zF,zG,zH,zI,zJ,zK,zL,zM,zN,zO,zP,zR,zS]at *);first|(refine qN ?_;omega)|(simp only [uam];omega))|(subst hR;(refine qE ?_;(try simp only [qV]at *);simp only [zQ,zA,zB,zC,zD,zE,zF,zG,zH,zI,zJ,zK,zL,zM,zN,zO,zP,zR,zS]at *;rw [udU];(repeat' split)<;>first|rfl|(exfalso;simp_all;done)|(exfalso;simp_all;omega)|(exfalso;omega));done)|skip
theorem utw (tw tm:List Int)(tv:List (List Int)):ua0 Tryz.prog 96 [(.agg [(iS tw),(iS tm),(.sl 1 (.sym fun _=>zi (tv).length) (fun ix=>[(.sl 1 (.sym fun _=>zi ((tv).getD ix.den.toNat []).length) (fun jx=>[(iv fun _=>((tv).getD ix.den.toNat []).getD jx.den.toNat 0)]))]))])] [] (fun r _=>r=(iv fun _=>ubM tw tm tv)):=by
 have c101:= @upS
 have c31:= @uxO
 refine ua0.is fun R hR=>qW (sc:=uA9) uaj mix Tryz.func96 rfl Tryz.call96 (by kernel_rfl) (by kernel_rfl) ?_
 generalize Tryz.prog=P at c101 c31⊢
 cbv
 repeat' (first|with_reducible refine And.intro ?_ ?_|(with_reducible intro hcd;(try simp only [zA,zB,zC,zD,zE,zF,zG,zH,zI,zJ,zK,zL,zM,zN,zO,zP]at hcd);try cbv)|(refine qP ?_ (c101 _ _ (show uam _ from ?_)) (by(repeat' (first|exact qB|refine qD ?_ ?_|exact qE (by rfl)|exact qF (by rfl)|exact Fit.refl _|exact qA|refine qC ?_ rfl ?_)));try cbv)|fail)
 all_goals first|((try simp only [qV]at *);(try simp only [zQ,zA,zB,zC,zD,zE,zF,zG,zH,zI,zJ,zK,zL,zM,zN,zO,zP,zR,zS]at *);first|(refine qN ?_;omega)|(simp only [uam];omega))|(subst hR;(refine qE ?_;(try simp only [qV]at *);simp only [zQ,zA,zB,zC,zD,zE,zF,zG,zH,zI,zJ,zK,zL,zM,zN,zO,zP,zR,zS]at *;rw [udU];(repeat' split)<;>first|rfl|(exfalso;simp_all;done)|(exfalso;simp_all;omega)|(exfalso;omega));done)|skip
 refine⟨none,[],{i:Nat // i≤tv.length∧∀j,j<i→(tv.getD j []).length=tm.length∧∀k,k<tm.length→0≤(tv.getD j []).getD k 0∧(tv.getD j []).getD k 0≤2000},fun x=>⟨[(1,.own 0 0),(3,(iv fun _=>zi x.1))],[(0,.cells [(iS tw),(iS tm),(.sl 1 (.sym fun _=>zi (tv).length) (fun ix=>[(.sl 1 (.sym fun _=>zi ((tv).getD ix.den.toNat []).length) (fun jx=>[(iv fun _=>((tv).getD ix.den.toNat []).getD jx.den.toNat 0)]))]))] 25)],20⟩,fun x=>tv.length-x.1,?_,?_⟩
 ·refine⟨⟨0,by omega,fun j hj=>by omega⟩,?_⟩
  cbv
  repeat' (first|with_reducible refine ua4 ?_ ?_|with_reducible refine And.intro ?_ ?_)
  all_goals first|trivial|exact qM (qE (by rfl))|exact qM (Fit.refl _)|exact qL (qK _)|skip
 ·rintro ⟨i,hi,hr⟩
  cbv
  repeat' (first|with_reducible refine ua4 ?_ ?_|with_reducible refine And.intro ?_ ?_|(with_reducible intro hcd;(try simp only [zA,zB,zC,zD,zE,zF,zG,zH,zI,zJ,zK,zL,zM,zN,zO,zP]at hcd);try cbv)|fail)
  all_goals first|((try simp only [qV]at *);(try simp only [zQ,zA,zB,zC,zD,zE,zF,zG,zH,zI,zJ,zK,zL,zM,zN,zO,zP,zR,zS]at *);first|(refine qN ?_;omega)|(simp only [uam];omega))|(subst hR;(refine qE ?_;(try simp only [qV]at *);simp only [zQ,zA,zB,zC,zD,zE,zF,zG,zH,zI,zJ,zK,zL,zM,zN,zO,zP,zR,zS]at *;rw [udU,if_neg (by omega),if_pos];right;right;right;right;right;rw [←Bool.not_eq_true,udj];intro hall;have:=(hall i (by omega)).1;omega);done)|(subst hR;(refine qE ?_;(try simp only [qV]at *);simp only [zQ,zA,zB,zC,zD,zE,zF,zG,zH,zI,zJ,zK,zL,zM,zN,zO,zP,zR,zS]at *;rw [udU,if_neg (by omega),if_neg];have hro:ugA tm tv=true:=(udj _ _).2 (fun j hj=>hr j (by omega));simp_all;omega);done)|skip
  have hlen:(tv.getD i []).length=tm.length:=by((try simp only [qV]at *);simp only [zQ,zA,zB,zC,zD,zE,zF,zG,zH,zI,zJ,zK,zL,zM,zN,zO,zP,zR,zS]at *;omega)
  refine⟨none,[],{k:Nat // k≤tm.length∧∀j,j<k→0≤(tv.getD i []).getD j 0∧(tv.getD i []).getD j 0≤2000},fun x=>⟨[(1,.own 0 0),(3,(iv fun _=>zi i)),(4,(iv fun _=>zi x.1))],[(0,.cells [(iS tw),(iS tm),(.sl 1 (.sym fun _=>zi (tv).length) (fun ix=>[(.sl 1 (.sym fun _=>zi ((tv).getD ix.den.toNat []).length) (fun jx=>[(iv fun _=>((tv).getD ix.den.toNat []).getD jx.den.toNat 0)]))]))] 25)],20⟩,fun x=>tm.length-x.1,?_,?_⟩
  ·refine⟨⟨0,by omega,fun j hj=>by omega⟩,?_⟩
   cbv
   repeat' (first|with_reducible refine ua4 ?_ ?_|with_reducible refine And.intro ?_ ?_)
   all_goals first|trivial|exact qM (qE (by rfl))|exact qM (Fit.refl _)|exact qL (qK _)|skip
  ·rintro ⟨k,hk,hq⟩
   cbv
   repeat' (first|with_reducible refine ua4 ?_ ?_|with_reducible refine And.intro ?_ ?_|(with_reducible intro hcd;(try simp only [zA,zB,zC,zD,zE,zF,zG,zH,zI,zJ,zK,zL,zM,zN,zO,zP]at hcd);try cbv)|(refine qP ?_ (c31 _ _ _) (by(repeat' (first|exact qB|refine qD ?_ ?_|exact qE (by rfl)|exact qF (by rfl)|exact Fit.refl _|exact qA|refine qC ?_ rfl ?_)));try cbv)|fail)
   all_goals first|((try simp only [qV]at *);(try simp only [zQ,zA,zB,zC,zD,zE,zF,zG,zH,zI,zJ,zK,zL,zM,zN,zO,zP,zR,zS]at *);first|(refine qN ?_;omega)|(simp only [uam];omega))|(subst hR;(refine qE ?_;(try simp only [qV]at *);simp only [zQ,zA,zB,zC,zD,zE,zF,zG,zH,zI,zJ,zK,zL,zM,zN,zO,zP,zR,zS]at *;rw [udU,if_neg (by omega),if_pos];right;right;right;right;right;rw [←Bool.not_eq_true,udj];intro hall;have:=(hall i (by omega)).2 k (by omega);simp only [Bool.and_eq_false_iff]at hcd;rcases hcd with hcd|hcd<;>(have hz:=of_decide_eq_false hcd;omega));done)|((try simp only [zQ,zA,zB,zC,zD,zE,zF,zG,zH,zI,zJ,zK,zL,zM,zN,zO,zP,zR,zS]at *);refine⟨⟨k+1,by omega,fun j hj=>(Nat.lt_or_ge j k).elim (hq j) (fun q=>by rw [show j=k by omega];simp only [Bool.and_eq_true]at hcd;have hz:=of_decide_eq_true hcd.1;have hz2:=of_decide_eq_true hcd.2;omega)⟩,by simp only [];omega,?_⟩;cbv;(repeat' (first|with_reducible refine ua4 ?_ ?_|with_reducible refine And.intro ?_ ?_));(all_goals first|trivial|exact qM (qE (by rfl))|exact qM (qF (by rfl))|exact qM (Fit.refl _)|exact qL (qK _)|(refine qM (qE ?_);(try simp only [qV]at *);simp only [zQ,zA,zB,zC,zD,zE,zF,zG,zH,zI,zJ,zK,zL,zM,zN,zO,zP,zR,zS]at *;omega)|skip))|((try simp only [zQ,zA,zB,zC,zD,zE,zF,zG,zH,zI,zJ,zK,zL,zM,zN,zO,zP,zR,zS]at *);refine⟨⟨i+1,by omega,fun j hj=>(Nat.lt_or_ge j i).elim (hr j) (fun q=>by rw [show j=i by omega];exact⟨hlen,fun k2 hk2=>hq k2 (by omega)⟩)⟩,by simp only [];omega,?_⟩;cbv;(repeat' (first|with_reducible refine ua4 ?_ ?_|with_reducible refine And.intro ?_ ?_));(all_goals first|trivial|exact qM (qE (by rfl))|exact qM (qF (by rfl))|exact qM (Fit.refl _)|exact qL (qK _)|(refine qM (qE ?_);(try simp only [qV]at *);simp only [zQ,zA,zB,zC,zD,zE,zF,zG,zH,zI,zJ,zK,zL,zM,zN,zO,zP,zR,zS]at *;omega)|skip))|skip
end Go.Proofs.YtkdggbfknlcdaaaGreat

namespace Go.Proofs.YtkdggbfknlcdaaaGreat
theorem ux3 {a b c d v00 v10 v01 v11 w m:Int}(h1:a≤w)(h2:w≤b)(h3:a<b)(h4:c≤m)(h5:m≤d)(h6:c<d)
 (v0:0≤v00∧v00≤2000) (v1:0≤v10∧v10≤2000) (v2:0≤v01∧v01≤2000) (v3:0≤v11∧v11≤2000):0≤upw a b c d v00 v10 v01 v11 w m∧upw a b c d v00 v10 v01 v11 w m≤2000:=by
 unfold upw
 rw [usK]
 have p1:0≤(b-w)*(d-m):=Int.mul_nonneg (by omega) (by omega)
 have p2:0≤(w-a)*(d-m):=Int.mul_nonneg (by omega) (by omega)
 have p3:0≤(b-w)*(m-c):=Int.mul_nonneg (by omega) (by omega)
 have p4:0≤(w-a)*(m-c):=Int.mul_nonneg (by omega) (by omega)
 have e:(b-w)*(d-m)+(w-a)*(d-m)+(b-w)*(m-c)+(w-a)*(m-c)=(b-a)*(d-c):=by
  rw [←Int.add_mul,Int.add_assoc,←Int.add_mul]
  have e1:b-w+(w-a)=b-a:=by omega
  rw [e1,←Int.mul_add]
  congr 1;omega
 have q:0<(b-a)*(d-c):=Int.mul_pos (by omega) (by omega)
 have key:∀v p:Int,0≤v∧v≤2000→0≤p→0≤v*p∧v*p≤2000*p:=fun v p hv hp=>⟨Int.mul_nonneg hv.1 hp,Int.mul_le_mul_of_nonneg_right hv.2 hp⟩
 have k1:=key v00 _ v0 p1
 have k2:=key v10 _ v1 p2
 have k3:=key v01 _ v2 p3
 have k4:=key v11 _ v3 p4
 rw [Int.mul_assoc v00,Int.mul_assoc v10,Int.mul_assoc v01,Int.mul_assoc v11]
 generalize (b-w)*(d-m)=x1 at *
 generalize (w-a)*(d-m)=x2 at *
 generalize (b-w)*(m-c)=x3 at *
 generalize (w-a)*(m-c)=x4 at *
 rw [Int.mul_assoc 2 (b-a)]
 generalize (b-a)*(d-c)=y at *
 generalize v00*x1=y1 at *
 generalize v10*x2=y2 at *
 generalize v01*x3=y3 at *
 generalize v11*x4=y4 at *
 rw [Int.tdiv_eq_ediv_of_nonneg (by omega)]
 refine⟨Int.ediv_nonneg (by omega) (by omega),?_⟩
 have:2*(y1+y2+y3+y4)+y<(2000+1)*(2*y):=by omega
 have:=Int.ediv_lt_of_lt_mul (by omega) this
 omega
theorem usq {tw tm:List Int} {tv:List (List Int)} {w m:Int}(h:TOk tw tm tv)(hp:Pt tw tm w m):0≤atS tw tm tv w m∧atS tw tm tv w m≤2000:=by
 have hi:=uc9 h.w2 hp.w0
 have hk:=uc9 h.m2 hp.m0
 have l1:=hi.lt
 have l2:=hk.lt
 have e:=h.len
 have a2:=uh4 h.rw (i:=ubI tw w tw.length 0) (j:=ubI tw w tw.length 0+1) (by omega) (by omega)
 have a4:=uh4 h.rm (i:=ubI tm m tm.length 0) (j:=ubI tm m tm.length 0+1) (by omega) (by omega)
 exact ux3 hi.lo (hi.le_hi hp.w1) a2 hk.lo (hk.le_hi hp.m1) a4 (h.val _ (by omega) _ (by omega)) (h.val _ (by omega) _ (by omega)) (h.val _ (by omega) _ (by omega)) (h.val _ (by omega) _ (by omega))
def vAt (tw tm:List Int)(tv:List (List Int))(wl ml:Int)(W n:Nat):Int:=atS tw tm tv (wl+((n%W:Nat):Int)) (ml+((n/W:Nat):Int))
def loN (v:Nat→Int):Nat→Int
 |0=>2000
 |n+1=>min (loN v n) (v n)
def hiN (v:Nat→Int):Nat→Int
 |0=>0
 |n+1=>max (hiN v n) (v n)
def wid (lo hi:Int):Nat:=(hi-lo+1).toNat
def bLo (tw tm:List Int)(tv:List (List Int))(wl wh ml mh:Int):Int:=loN (vAt tw tm tv wl ml (wid wl wh)) (wid ml mh*wid wl wh)
def bHi (tw tm:List Int)(tv:List (List Int))(wl wh ml mh:Int):Int:=hiN (vAt tw tm tv wl ml (wid wl wh)) (wid ml mh*wid wl wh)
theorem usN (v:Nat→Int):∀{n j:Nat},j<n→loN v n≤v j:=by
 intro n
 induction n with
 |zero=>intro j h;omega
 | succ n ih=>
  intro j h
  simp only [loN]
  by_cases e:j=n
  ·subst e;omega
  ·have:=ih (j:=j) (by omega);omega
theorem uwx (v:Nat→Int):∀{n:Nat},loN v n=2000∨∃j,j<n∧loN v n=v j:=by
 intro n
 induction n with
 |zero=>exact .inl rfl
 | succ n ih=>
  simp only [loN]
  by_cases h:loN v n≤v n
  ·rw [Int.min_eq_left h]
   rcases ih with q|⟨j,h1,h2⟩
   ·exact .inl q
   ·exact .inr ⟨j,by omega,h2⟩
  ·rw [Int.min_eq_right (by omega)]
   exact .inr ⟨n,by omega,rfl⟩
theorem utp (v:Nat→Int):∀{n j:Nat},j<n→v j≤hiN v n:=by
 intro n
 induction n with
 |zero=>intro j h;omega
 | succ n ih=>
  intro j h
  simp only [hiN]
  by_cases e:j=n
  ·subst e;omega
  ·have:=ih (j:=j) (by omega);omega
theorem uw8 (v:Nat→Int):∀{n:Nat},hiN v n=0∨∃j,j<n∧hiN v n=v j:=by
 intro n
 induction n with
 |zero=>exact .inl rfl
 | succ n ih=>
  simp only [hiN]
  by_cases h:v n≤hiN v n
  ·rw [Int.max_eq_left h]
   rcases ih with q|⟨j,h1,h2⟩
   ·exact .inl q
   ·exact .inr ⟨j,by omega,h2⟩
  ·rw [Int.max_eq_right (by omega)]
   exact .inr ⟨n,by omega,rfl⟩
structure Box (tw tm:List Int)(wl wh ml mh:Int):Prop where
 w:wl≤wh
 w0:tw.getD 0 0≤wl
 w1:wh≤tw.getD (tw.length-1) 0
 m:ml≤mh
 m0:tm.getD 0 0≤ml
 m1:mh≤tm.getD (tm.length-1) 0
theorem Box.pt {tw tm:List Int} {wl wh ml mh:Int}(h:Box tw tm wl wh ml mh) {w m:Int}(h1:wl≤w)(h2:w≤wh)(h3:ml≤m)(h4:m≤mh):Pt tw tm w m:=by
 have:=h.w0;have:=h.w1;have:=h.m0;have:=h.m1
 exact⟨by omega,by omega,by omega,by omega⟩
structure IsB (f:Int→Int→Int)(wl wh ml mh lo hi:Int):Prop where
 le:∀w m,wl≤w→w≤wh→ml≤m→m≤mh→lo≤f w m∧f w m≤hi
 lo:∃w m,wl≤w∧w≤wh∧ml≤m∧m≤mh∧lo=f w m
 hi:∃w m,wl≤w∧w≤wh∧ml≤m∧m≤mh∧hi=f w m
theorem usR {lo hi n:Int}(h:lo≤n)(h':n≤hi):(n-lo).toNat<wid lo hi:=by unfold wid;omega
theorem uw6 {tw tm:List Int} {tv:List (List Int)} {wl wh ml mh:Int}(h:TOk tw tm tv)(hb:Box tw tm wl wh ml mh):IsB (atS tw tm tv) wl wh ml mh (bLo tw tm tv wl wh ml mh) (bHi tw tm tv wl wh ml mh):=by
 have hw:=hb.w
 have hm:=hb.m
 have hW:0<wid wl wh:=by unfold wid;omega
 have hM:0<wid ml mh:=by unfold wid;omega
 have hpt:∀n,n<wid ml mh*wid wl wh→wl≤wl+((n%wid wl wh:Nat):Int)∧wl+((n%wid wl wh:Nat):Int)≤wh∧ml≤ml+((n/wid wl wh:Nat):Int)∧ml+((n/wid wl wh:Nat):Int)≤mh:=fun n hn=>by
  have h1:=Nat.mod_lt n hW
  have h2:n/wid wl wh<wid ml mh:=Nat.div_lt_of_lt_mul (by rw [Nat.mul_comm];exact hn)
  generalize n%wid wl wh=x at *
  generalize n/wid wl wh=y at *
  unfold wid at h1 h2
  omega
 have hv:∀n,n<wid ml mh*wid wl wh→0≤vAt tw tm tv wl ml (wid wl wh) n∧vAt tw tm tv wl ml (wid wl wh) n≤2000:=fun n hn=>by
  have q:=hpt n hn
  exact usq h (hb.pt q.1 q.2.1 q.2.2.1 q.2.2.2)
 have h0:0<wid ml mh*wid wl wh:=Nat.mul_pos hM hW
 refine⟨fun w m a1 a2 a3 a4=> ?_,?_,?_⟩
 ·have b1:=usR a1 a2
  have b2:=usR a3 a4
  have hn:(m-ml).toNat*wid wl wh+(w-wl).toNat<wid ml mh*wid wl wh:=by
   have:((m-ml).toNat+1)*wid wl wh≤wid ml mh*wid wl wh:=Nat.mul_le_mul_right _ b2
   rw [Nat.add_mul,Nat.one_mul]at this
   omega
  have e:vAt tw tm tv wl ml (wid wl wh) ((m-ml).toNat*wid wl wh+(w-wl).toNat)=atS tw tm tv w m:=by
   unfold vAt
   rw [Nat.mul_comm,Nat.mul_add_mod,Nat.mod_eq_of_lt b1,Nat.mul_add_div hW,Nat.div_eq_of_lt b1]
   congr 1<;>omega
  rw [←e]
  exact⟨usN _ hn,utp _ hn⟩
 ·rcases uwx (vAt tw tm tv wl ml (wid wl wh)) (n:=wid ml mh*wid wl wh)with q|⟨j,q1,q2⟩
  ·have q3:=usN (vAt tw tm tv wl ml (wid wl wh)) h0
   have q4:=hv 0 h0
   have q5:=hpt 0 h0
   exact⟨_,_,q5.1,q5.2.1,q5.2.2.1,q5.2.2.2,show bLo tw tm tv wl wh ml mh=vAt tw tm tv wl ml (wid wl wh) 0 by unfold bLo;omega⟩
  ·have q5:=hpt j q1
   exact⟨_,_,q5.1,q5.2.1,q5.2.2.1,q5.2.2.2,q2⟩
 ·rcases uw8 (vAt tw tm tv wl ml (wid wl wh)) (n:=wid ml mh*wid wl wh)with q|⟨j,q1,q2⟩
  ·have q3:=utp (vAt tw tm tv wl ml (wid wl wh)) h0
   have q4:=hv 0 h0
   have q5:=hpt 0 h0
   exact⟨_,_,q5.1,q5.2.1,q5.2.2.1,q5.2.2.2,show bHi tw tm tv wl wh ml mh=vAt tw tm tv wl ml (wid wl wh) 0 by unfold bHi;omega⟩
  ·have q5:=hpt j q1
   exact⟨_,_,q5.1,q5.2.1,q5.2.2.1,q5.2.2.2,q2⟩
end Go.Proofs.YtkdggbfknlcdaaaGreat

namespace Go.Proofs.YtkdggbfknlcdaaaGreat
open Go Go.Eng Go.Proofs
set_option maxRecDepth 10000
theorem upD {n L:Nat}(h:uam (n=L)):∀_:Unit,n=L:=fun _=>h
theorem uei {f g:Unit→Nat}(h:f ()=g ()):uam (GEq (.atg f) (.atg g)):=h
theorem uhT {l L:Nat} {a b:SV} {n:Nat}(h:n<L)(hf:Fit a b):uam (l=l∧n<L∧Le a b):=⟨rfl,h,hf.le⟩
theorem uje (tw tm:List Int)(tv:List (List Int))(wl wh ml mh:Int)(h:TOk tw tm tv∧Box tw tm wl wh ml mh):uln Tryz.prog 128 [.pp 0 [(iv fun _=>ml),(iv fun _=>mh)],.pp 0 [(iv fun _=>wl),(iv fun _=>wh)],.pp 0 [(iS tw),(iS tm),(.sl 1 (.sym fun _=>zi (tv).length) (fun ix=>[(.sl 1 (.sym fun _=>zi ((tv).getD ix.den.toNat []).length) (fun jx=>[(iv fun _=>((tv).getD ix.den.toNat []).getD jx.den.toNat 0)]))]))]] (wid ml mh*wid wl wh) (fun n=>[(iv fun _=>ml+zi (n/wid wl wh)),(iv fun _=>vAt tw tm tv wl ml (wid wl wh) n)]):=by
 have ca:=uy3 tw tm tv
 obtain⟨hT,hB⟩:=h
 have b1:=hB.w0;have b2:=hB.w1;have b3:=hB.m0;have b4:=hB.m1;have b5:=hB.w;have b6:=hB.m
 have d1:=hT.w2;have d2:=hT.m2
 have e1:=uat hT.rw 0 (by omega)
 have e2:=uat hT.rm 0 (by omega)
 have e3:=uat hT.rw (tw.length-1) (by omega)
 have e4:=uat hT.rm (tm.length-1) (by omega)
 simp only [ubk]at e1 e2 e3 e4
 have hpt:∀a b:Nat,zi b≤wh-wl→zi a≤mh-ml→Pt tw tm (wl+zi b) (ml+zi a):=fun a b p q=>by
  simp only [uah]at *
  exact hB.pt (by omega) (by omega) (by omega) (by omega)
 obtain⟨W,hW⟩:∃W,W=wid wl wh:=⟨_,rfl⟩
 obtain⟨M,hM⟩:∃M,M=wid ml mh:=⟨_,rfl⟩
 obtain⟨L,hL⟩:∃L,L=M*W:=⟨_,rfl⟩
 have hWz:zi W=wh-wl+1:=by rw [hW];simp only [wid,uah];omega
 have hMz:zi M=mh-ml+1:=by rw [hM];simp only [wid,uah];omega
 obtain⟨el,hel⟩:∃el:Nat→List SV,el=(fun n:Nat=>[(iv fun _=>ml+zi (n/W)),(iv fun _=>vAt tw tm tv wl ml W n)]):=⟨_,rfl⟩
 have help:∀a b:Nat,b<W→el (a*W+b)=[(iv fun _=>ml+zi a),(iv fun _=>atS tw tm tv (wl+zi b) (ml+zi a))]:=fun a b hb=>by
  rw [hel]
  simp only [vAt]
  rw [Nat.mul_comm,Nat.mul_add_div (by omega),Nat.mul_add_mod,Nat.div_eq_of_lt hb,Nat.mod_eq_of_lt hb,Nat.add_zero]
  rfl
 have hlt:∀a b:Nat,a<M→b<W→a*W+b<L:=fun a b ha hb=>by
  have:=Nat.mul_le_mul_right W (show a+1≤M by omega)
  rw [Nat.add_mul,Nat.one_mul]at this
  omega
 have hpl:∀i,ubi (.tup (el i))=true:=fun i=>by rw [hel];rfl
 rw [←hW,←hM,←hL,←hel]
 clear hel hW hM
 refine uha (sc:=uy1) uaj mix Tryz.func128 rfl Tryz.call128 (by kernel_rfl) (by kernel_rfl) fun l=> ?_
 generalize Tryz.prog=P at ca⊢
 refine⟨rfl,rfl,hpl,?_⟩
 cbv
 refine⟨none,[],{a:Nat // a≤M},fun x=>.atg fun _=>x.1*W,fun x=>⟨[(0,.val (Value.func (Fn.yield l) ⟨[]⟩ ⟨[]⟩)),(1,.pp 0 [(iv fun _=>ml),(iv fun _=>mh)]),(2,.pp 0 [(iv fun _=>wl),(iv fun _=>wh)]),(3,.pp 0 [(iS tw),(iS tm),(.sl 1 (.sym fun _=>zi (tv).length) (fun ix=>[(.sl 1 (.sym fun _=>zi ((tv).getD ix.den.toNat []).length) (fun jx=>[(iv fun _=>((tv).getD ix.den.toNat []).getD jx.den.toNat 0)]))]))]),(5,(iv fun _=>ml+zi x.1))],[],3⟩,fun x=>M-x.1,?_,?_⟩
 ·refine⟨⟨0,by omega⟩,?_⟩
  cbv
  repeat' (first|with_reducible refine ua4 ?_ ?_|with_reducible refine And.intro ?_ ?_)
  all_goals first|trivial|exact qM (Fit.refl _)|(refine qM (qE ?_);(try simp only [qV]at *);simp only [zQ,zA,zB,zC,zD,zE,zF,zG,zH,zI,zJ,zK,zL,zM,zN,zO,zP,zR,zS]at *;omega)|(refine uei ?_;simp only [];omega)|skip
 ·rintro ⟨a,ha⟩
  cbv
  repeat' (first|with_reducible refine upD ?_|with_reducible refine And.intro ?_ ?_|(with_reducible intro hcd;(try simp only [zA,zB,zC,zD,zE,zF,zG,zH,zI,zJ,zK,zL,zM,zN,zO,zP]at hcd);try cbv)|fail)
  all_goals first|(show a*W=L;(try simp only [qV]at *);simp only [uah]at *;rw [hL];congr 1;omega)|skip
  refine⟨none,[],{b:Nat // b≤W},fun x=>.atg fun _=>a*W+x.1,fun x=>⟨[(0,.val (Value.func (Fn.yield l) ⟨[]⟩ ⟨[]⟩)),(1,.pp 0 [(iv fun _=>ml),(iv fun _=>mh)]),(2,.pp 0 [(iv fun _=>wl),(iv fun _=>wh)]),(3,.pp 0 [(iS tw),(iS tm),(.sl 1 (.sym fun _=>zi (tv).length) (fun ix=>[(.sl 1 (.sym fun _=>zi ((tv).getD ix.den.toNat []).length) (fun jx=>[(iv fun _=>((tv).getD ix.den.toNat []).getD jx.den.toNat 0)]))]))]),(5,(iv fun _=>ml+zi a)),(6,(iv fun _=>wl+zi x.1))],[],3⟩,fun x=>W-x.1,?_,?_⟩
  ·refine⟨⟨0,by omega⟩,?_⟩
   cbv
   repeat' (first|with_reducible refine ua4 ?_ ?_|with_reducible refine And.intro ?_ ?_)
   all_goals first|trivial|exact qM (qE (by rfl))|exact qM (Fit.refl _)|(refine qM (qE ?_);(try simp only [qV]at *);simp only [zQ,zA,zB,zC,zD,zE,zF,zG,zH,zI,zJ,zK,zL,zM,zN,zO,zP,zR,zS]at *;omega)|skip
  ·rintro ⟨b,hb⟩
   cbv
   repeat' (first|with_reducible refine ua4 ?_ ?_|with_reducible refine And.intro ?_ ?_|(with_reducible intro hcd;(try simp only [zA,zB,zC,zD,zE,zF,zG,zH,zI,zJ,zK,zL,zM,zN,zO,zP]at hcd);try cbv)|(refine qP ?_ (ca _ _ (show uam _ from ?_)) (by(repeat' (first|exact qB|refine qD ?_ ?_|exact qE (by rfl)|exact qF (by rfl)|exact Fit.refl _|exact qA|refine qC ?_ rfl ?_)));try cbv)|fail)
   all_goals first|trivial|((try simp only [qV]at *);(try simp only [zQ,zA,zB,zC,zD,zE,zF,zG,zH,zI,zJ,zK,zL,zM,zN,zO,zP,zR,zS]at *);first|(refine qN ?_;omega)|(simp only [uam];omega))|(simp only [uam];exact⟨hT,hpt _ _ (by omega) (by omega)⟩)|(refine uhT (hlt a b (by simp only [uah]at *;omega) (by simp only [uah]at *;omega)) ?_;rw [help a b (by simp only [uah]at *;omega)];(repeat' (first|exact qA|exact qB|refine qC ?_ rfl ?_|refine qD ?_ ?_|exact qE (by rfl)|exact qF (by rfl)|exact Fit.refl _|exact qG _|(refine qE ?_;(try simp only [qV]at *);simp only [zQ,zA,zB,zC,zD,zE,zF,zG,zH,zI,zJ,zK,zL,zM,zN,zO,zP,zR,zS]at *;omega)));done)|((try simp only [zQ,zA,zB,zC,zD,zE,zF,zG,zH,zI,zJ,zK,zL,zM,zN,zO,zP,zR,zS]at *);refine⟨⟨b+1,by omega⟩,by simp only [];omega,?_⟩;cbv;(repeat' (first|with_reducible refine ua4 ?_ ?_|with_reducible refine And.intro ?_ ?_));(all_goals first|trivial|exact qM (qE (by rfl))|exact qM (qF (by rfl))|exact qM (Fit.refl _)|exact qL (qK _)|(refine qM (qE ?_);(try simp only [qV]at *);simp only [zQ,zA,zB,zC,zD,zE,zF,zG,zH,zI,zJ,zK,zL,zM,zN,zO,zP,zR,zS]at *;omega)|(refine uei ?_;simp only [];omega)|skip))|((try simp only [zQ,zA,zB,zC,zD,zE,zF,zG,zH,zI,zJ,zK,zL,zM,zN,zO,zP,zR,zS]at *);have hbW:b=W:=(by omega);refine⟨⟨a+1,by omega⟩,by simp only [];omega,?_⟩;cbv;(repeat' (first|with_reducible refine ua4 ?_ ?_|with_reducible refine And.intro ?_ ?_));(all_goals first|trivial|exact qM (qE (by rfl))|exact qM (qF (by rfl))|exact qM (Fit.refl _)|exact qL (qK _)|(refine qM (qE ?_);(try simp only [qV]at *);simp only [zQ,zA,zB,zC,zD,zE,zF,zG,zH,zI,zJ,zK,zL,zM,zN,zO,zP,zR,zS]at *;omega)|(refine uei ?_;simp only [Nat.add_mul,Nat.one_mul];omega)|skip))|skip
end Go.Proofs.YtkdggbfknlcdaaaGreat

namespace Go.Proofs.YtkdggbfknlcdaaaGreat
open Go Go.Eng Go.Proofs
set_option maxRecDepth 10000
theorem uj1 (tw tm:List Int)(tv:List (List Int))(wl wh ml mh:Int):ua0 Tryz.prog 119 [(.agg [(iS tw),(iS tm),(.sl 1 (.sym fun _=>zi (tv).length) (fun ix=>[(.sl 1 (.sym fun _=>zi ((tv).getD ix.den.toNat []).length) (fun jx=>[(iv fun _=>((tv).getD ix.den.toNat []).getD jx.den.toNat 0)]))]))]),(.agg [(iv fun _=>wl),(iv fun _=>wh)]),(.agg [(iv fun _=>ml),(iv fun _=>mh)])] [] (fun r _=>r = .clo 128 [] [.pp 0 [(iv fun _=>ml),(iv fun _=>mh)],.pp 0 [(iv fun _=>wl),(iv fun _=>wh)],.pp 0 [(iS tw),(iS tm),(.sl 1 (.sym fun _=>zi (tv).length) (fun ix=>[(.sl 1 (.sym fun _=>zi ((tv).getD ix.den.toNat []).length) (fun jx=>[(iv fun _=>((tv).getD ix.den.toNat []).getD jx.den.toNat 0)]))]))]]):=by
 refine ua0.is fun R hR=>qW (sc:=uyL) uaj mix Tryz.func119 rfl Tryz.call119 (by kernel_rfl) (by kernel_rfl) ?_
 generalize Tryz.prog=P
 cbv
 repeat' (first|fail)
 all_goals first|(subst hR;(repeat' (first|exact qA|exact qB|refine qC ?_ rfl ?_|refine qD ?_ ?_|exact qE (by rfl)|exact qF (by rfl)|exact Fit.refl _|exact qG _|(refine qE ?_;(try simp only [qV]at *);simp only [zQ,zA,zB,zC,zD,zE,zF,zG,zH,zI,zJ,zK,zL,zM,zN,zO,zP,zR,zS]at *;omega)));done)|skip
theorem uq8 (tw tm:List Int)(tv:List (List Int))(wl wh ml mh:Int)(h:TOk tw tm tv∧Box tw tm wl wh ml mh):ua0 Tryz.prog 104 [(.agg [(iS tw),(iS tm),(.sl 1 (.sym fun _=>zi (tv).length) (fun ix=>[(.sl 1 (.sym fun _=>zi ((tv).getD ix.den.toNat []).length) (fun jx=>[(iv fun _=>((tv).getD ix.den.toNat []).getD jx.den.toNat 0)]))]))]),(.agg [(iv fun _=>wl),(iv fun _=>wh)]),(.agg [(iv fun _=>ml),(iv fun _=>mh)])] [] (fun r _=>r=(.tup [(.agg [(iv fun _=>bLo tw tm tv wl wh ml mh),(iv fun _=>bHi tw tm tv wl wh ml mh)]),(iv fun _=>0)])):=by
 have c79:= @uqi
 have c117:= @uvb
 have c118:= @usr
 have c119:= @uj1
 have c120:= @unL
 obtain⟨hT,hB⟩:=h
 have hf:=ujD hT
 have b1:=hB.w0;have b2:=hB.w1;have b3:=hB.m0;have b4:=hB.m1;have b5:=hB.w;have b6:=hB.m
 have d1:=hT.w2;have d2:=hT.m2;have d3:=hT.w5;have d4:=hT.m5
 obtain⟨W,hW⟩:∃W,W=wid wl wh:=⟨_,rfl⟩
 obtain⟨L,hL⟩:∃L,L=wid ml mh*W:=⟨_,rfl⟩
 obtain⟨v,hv⟩:∃v,v=vAt tw tm tv wl ml W:=⟨_,rfl⟩
 obtain⟨el,hel⟩:∃el:Nat→List SV,el=(fun n:Nat=>[(iv fun _=>ml+zi (n/W)),(iv fun _=>v n)]):=⟨_,rfl⟩
 have cI:uln Tryz.prog 128 [.pp 0 [(iv fun _=>ml),(iv fun _=>mh)],.pp 0 [(iv fun _=>wl),(iv fun _=>wh)],.pp 0 [(iS tw),(iS tm),(.sl 1 (.sym fun _=>zi (tv).length) (fun ix=>[(.sl 1 (.sym fun _=>zi ((tv).getD ix.den.toNat []).length) (fun jx=>[(iv fun _=>((tv).getD ix.den.toNat []).getD jx.den.toNat 0)]))]))]] L el:=by rw [hel,hv,hL,hW];exact uje tw tm tv wl wh ml mh ⟨hT,hB⟩
 have elen:∀i,(el i).length=2∧SV.idsL (el i)=[]:=fun i=>by rw [hel];exact⟨rfl,rfl⟩
 have ei:∀i,el i=[(iv fun _=>ml+zi (i/W)),(iv fun _=>v i)]:=fun i=>by rw [hel]
 have hlo:bLo tw tm tv wl wh ml mh=loN v L:=by rw [hv,hL,hW];rfl
 have hhi:bHi tw tm tv wl wh ml mh=hiN v L:=by rw [hv,hL,hW];rfl
 rw [hlo,hhi]
 clear hel hv hL hlo hhi hW
 refine ua0.is fun R hR=>qW (sc:=uze) uaj mix Tryz.func104 rfl Tryz.call104 (by kernel_rfl) (by kernel_rfl) ?_
 generalize Tryz.prog=P at c79 c117 c118 c119 c120 cI⊢
 cbv
 repeat' (first|with_reducible refine And.intro ?_ ?_|(with_reducible intro hcd;(try simp only [zA,zB,zC,zD,zE,zF,zG,zH,zI,zJ,zK,zL,zM,zN,zO,zP,hf]at hcd);try cbv)|(refine qP ?_ (c79 _ _ _) (by(repeat' (first|exact qB|refine qD ?_ ?_|exact qE (by rfl)|exact qF (by rfl)|exact Fit.refl _|exact qA|refine qC ?_ rfl ?_)));try cbv)|(refine qP ?_ (c117 _ (show uam _ from ?_)) (by(repeat' (first|exact qB|refine qD ?_ ?_|exact qE (by rfl)|exact qF (by rfl)|exact Fit.refl _|exact qA|refine qC ?_ rfl ?_)));try cbv)|(refine qP ?_ (c118 _ _ _ _) (by(repeat' (first|exact qB|refine qD ?_ ?_|exact qE (by rfl)|exact qF (by rfl)|exact Fit.refl _|exact qA|refine qC ?_ rfl ?_)));try cbv)|(refine qP ?_ (c119 _ _ _ _ _ _ _) (by(repeat' (first|exact qB|refine qD ?_ ?_|exact qE (by rfl)|exact qF (by rfl)|exact Fit.refl _|exact qA|refine qC ?_ rfl ?_)));try cbv)|fail)
 all_goals first|trivial|((try simp only [qV]at *);(try simp only [zQ,zA,zB,zC,zD,zE,zF,zG,zH,zI,zJ,zK,zL,zM,zN,zO,zP,zR,zS]at *);first|(refine qN ?_;omega)|(simp only [uam];omega))|(exfalso;simp_all;omega)|skip
 refine⟨[],L,el,fun _=>Unit,fun i _=>([(0,.cells [(iS tw),(iS tm),(.sl 1 (.sym fun _=>zi (tv).length) (fun ix=>[(.sl 1 (.sym fun _=>zi ((tv).getD ix.den.toNat []).length) (fun jx=>[(iv fun _=>((tv).getD ix.den.toNat []).getD jx.den.toNat 0)]))]))] 35),(1,.cells [(iv fun _=>wl),(iv fun _=>wh)] 152),(2,.cells [(iv fun _=>ml),(iv fun _=>mh)] 152),(3,.cells [.int .i64 (.lit 0),.int .i64 (.lit 0)] 152),(25,.cells [(iv fun _=>loN v i),(iv fun _=>hiN v i)] 152)],40),?_⟩
 cbv
 refine⟨fun _=>⟨cI,elen⟩,⟨(),?_⟩,?_,?_⟩
 ·cbv
  repeat' (first|with_reducible refine ua4 ?_ ?_|with_reducible refine And.intro ?_ ?_)
  all_goals first|trivial|exact qL (qK _)|(refine qL (qJ ?_);refine qC (qE ?_) rfl (qC (qE ?_) rfl qA)<;>first|rfl|((try simp only [qV]at *);simp only [zQ,zA,zB,zC,zD,zE,zF,zG,zH,zI,zJ,zK,zL,zM,zN,zO,zP,zR,zS,loN,hiN,upp,upu];omega))|skip
 ·intro i _ hil
  simp only [ei]
  cbv
  repeat' (first
   | ((first|(refine qR ?_ (c120 _ _) rfl (by cbv;(repeat' (first|exact qB|refine qD ?_ ?_|exact qE (by rfl)|exact qF (by rfl)|exact Fit.refl _|exact qA|refine qC ?_ rfl ?_))))|(refine⟨none,?_⟩;refine qR ?_ (c120 _ _) rfl (by cbv;(repeat' (first|exact qB|refine qD ?_ ?_|exact qE (by rfl)|exact qF (by rfl)|exact Fit.refl _|exact qA|refine qC ?_ rfl ?_)))))
      try cbv)
   |fail)
  all_goals first|(refine⟨(),?_⟩;cbv;(repeat' (first|with_reducible refine ua4 ?_ ?_|with_reducible refine And.intro ?_ ?_));(all_goals first|trivial|exact qM (qE (by rfl))|exact qM (qF (by rfl))|exact qM (Fit.refl _)|exact qL (qK _)|(refine qM (qE ?_);(try simp only [qV]at *);simp only [zQ,zA,zB,zC,zD,zE,zF,zG,zH,zI,zJ,zK,zL,zM,zN,zO,zP,zR,zS]at *;omega)|(refine qL (qJ ?_);refine qC (qE ?_) rfl (qC (qE ?_) rfl qA)<;>first|rfl|((try simp only [qV]at *);simp only [zQ,zA,zB,zC,zD,zE,zF,zG,zH,zI,zJ,zK,zL,zM,zN,zO,zP,zR,zS,loN,hiN,upp,upu];omega))|skip))|skip
  trace_state
 ·intro _
  cbv
  repeat' (first|fail)
  all_goals first|(subst hR;(repeat' (first|exact qA|exact qB|refine qC ?_ rfl ?_|refine qD ?_ ?_|exact qE (by rfl)|exact qF (by rfl)|exact Fit.refl _|exact qG _|(refine qE ?_;(try simp only [qV]at *);simp only [zQ,zA,zB,zC,zD,zE,zF,zG,zH,zI,zJ,zK,zL,zM,zN,zO,zP,zR,zS]at *;omega)));done)|skip
end Go.Proofs.YtkdggbfknlcdaaaGreat

namespace Go.Proofs.YtkdggbfknlcdaaaGreat
structure Csk where
 g:Int
 wl:Int
 wh:Int
 ml:Int
 mh:Int
def ck0 :Csk:=⟨0,0,0,0,0⟩
structure SOk (tw tm:List Int)(tv:List (List Int))(rate:Int)(cs:List Csk):Prop where
 t:TOk tw tm tv
 few:cs.length≤6
 rate:0≤rate∧rate≤200
 gal:∀i,i<cs.length→1≤(cs.getD i ck0).g∧(cs.getD i ck0).g≤99
 box:∀i,i<cs.length→Box tw tm (cs.getD i ck0).wl (cs.getD i ck0).wh (cs.getD i ck0).ml (cs.getD i ck0).mh
end Go.Proofs.YtkdggbfknlcdaaaGreat

namespace Go.Proofs.YtkdggbfknlcdaaaGreat
def um5 (tv:List (List Int)):Bool:=decide (∀i,i<tv.length→(tv.getD i []).length≤8)
def ulQ (tw tm:List Int)(tv:List (List Int)):Bool:=decide (tw.length≤8)&&decide (tm.length≤8)&&decide (tv.length≤8)&&um5 tv
structure ThinT (tw tm:List Int)(tv:List (List Int)):Prop where
 w:tw.length≤8
 m:tm.length≤8
 v:tv.length≤8
 r:∀i,i<tv.length→(tv.getD i []).length≤8
theorem ueR {tw tm:List Int} {tv:List (List Int)}:ulQ tw tm tv=true↔ThinT tw tm tv:=by
 simp only [ulQ,um5,Bool.and_eq_true,decide_eq_true_eq]
 exact⟨fun h=>⟨h.1.1.1,h.1.1.2,h.1.2,h.2⟩,fun h=>⟨⟨⟨h.w,h.m⟩,h.v⟩,h.r⟩⟩
end Go.Proofs.YtkdggbfknlcdaaaGreat

namespace Go.Proofs.YtkdggbfknlcdaaaGreat
open Go Go.Eng Go.Proofs
set_option maxRecDepth 10000
theorem uvT (tw tm:List Int)(tv:List (List Int)):ua0 Tryz.prog 37 [(.agg [(iS tw),(iS tm),(.sl 1 (.sym fun _=>zi (tv).length) (fun ix=>[(.sl 1 (.sym fun _=>zi ((tv).getD ix.den.toNat []).length) (fun jx=>[(iv fun _=>((tv).getD ix.den.toNat []).getD jx.den.toNat 0)]))]))])] [] (fun r _=>r=(bv fun _=>ulQ tw tm tv)):=by
 refine ua0.is fun R hR=>qW (sc:=uAz) uaj mix Tryz.func37 rfl Tryz.call37 (by kernel_rfl) (by kernel_rfl) ?_
 generalize Tryz.prog=P
 cbv
 repeat' (first|with_reducible refine And.intro ?_ ?_|(with_reducible intro hcd;(try simp only [zA,zB,zC,zD,zE,zF,zG,zH,zI,zJ,zK,zL,zM,zN,zO,zP]at hcd);try cbv)|fail)
 all_goals first|(subst hR;(refine qF ?_;simp only [ubl,ubm];symm;rw [←Bool.not_eq_true];intro hth0;have hth:=ueR.1 hth0;have q1:=hth.w;have q2:=hth.m;have q3:=hth.v;(try simp only [qV]at *);(try simp only [zQ,zA,zB,zC,zD,zE,zF,zG,zH,zI,zJ,zK,zL,zM,zN,zO,zP,zR,zS]at *);omega);done)|skip
 have hl:tw.length≤8∧tm.length≤8∧tv.length≤8:=by((try simp only [qV]at *);(try simp only [zQ,zA,zB,zC,zD,zE,zF,zG,zH,zI,zJ,zK,zL,zM,zN,zO,zP,zR,zS]at *);omega)
 refine⟨none,[],{i:Nat // i≤tv.length∧∀j,j<i→(tv.getD j []).length≤8},fun x=>⟨[(1,.own 0 0),(3,(iv fun _=>zi x.1))],[(0,.cells [(iS tw),(iS tm),(.sl 1 (.sym fun _=>zi (tv).length) (fun ix=>[(.sl 1 (.sym fun _=>zi ((tv).getD ix.den.toNat []).length) (fun jx=>[(iv fun _=>((tv).getD ix.den.toNat []).getD jx.den.toNat 0)]))]))] 25)],30⟩,fun x=>tv.length-x.1,?_,?_⟩
 ·refine⟨⟨0,by omega,fun j hj=>by omega⟩,?_⟩
  cbv
  repeat' (first|with_reducible refine ua4 ?_ ?_|with_reducible refine And.intro ?_ ?_)
  all_goals first|trivial|exact qM (qE (by rfl))|exact qM (Fit.refl _)|exact qL (qK _)|skip
 ·rintro⟨i,hi,hr⟩
  cbv
  repeat' (first|with_reducible refine ua4 ?_ ?_|with_reducible refine And.intro ?_ ?_|(with_reducible intro hcd;(try simp only [zA,zB,zC,zD,zE,zF,zG,zH,zI,zJ,zK,zL,zM,zN,zO,zP]at hcd);try cbv)|fail)
  all_goals (try have hlt:i<tv.length:=(by(try simp only [qV]at *);(try simp only [zQ,zA,zB,zC,zD,zE,zF,zG,zH,zI,zJ,zK,zL,zM,zN,zO,zP,zR,zS]at *);omega))
  all_goals first|((try simp only [qV]at *);(try simp only [zQ,zA,zB,zC,zD,zE,zF,zG,zH,zI,zJ,zK,zL,zM,zN,zO,zP,zR,zS]at *);first|(refine qN ?_;omega)|(simp only [uam];omega))|(subst hR;(refine qF ?_;simp only [ubl,ubm];symm;rw [←Bool.not_eq_true];intro hth0;have hth:=(ueR.1 hth0).r i hlt;(try simp only [qV]at *);(try simp only [zQ,zA,zB,zC,zD,zE,zF,zG,zH,zI,zJ,zK,zL,zM,zN,zO,zP,zR,zS]at *);omega);done)|(subst hR;(refine qF ?_;simp only [ubl,ubm];symm;exact ueR.2 ⟨hl.1,hl.2.1,hl.2.2,fun j hj=>hr j (by(try simp only [qV]at *);(try simp only [zQ,zA,zB,zC,zD,zE,zF,zG,zH,zI,zJ,zK,zL,zM,zN,zO,zP,zR,zS]at *);omega)⟩);done)|((try simp only [zQ,zA,zB,zC,zD,zE,zF,zG,zH,zI,zJ,zK,zL,zM,zN,zO,zP,zR,zS]at *);refine⟨⟨i+1,by omega,fun j hj=>(Nat.lt_or_ge j i).elim (hr j) (fun q=>by rw [show j=i by omega];(try simp only [qV]at *);(try simp only [zQ,zA,zB,zC,zD,zE,zF,zG,zH,zI,zJ,zK,zL,zM,zN,zO,zP,zR,zS]at *);omega)⟩,by simp only [];omega,?_⟩;cbv;(repeat' (first|with_reducible refine ua4 ?_ ?_|with_reducible refine And.intro ?_ ?_));(all_goals first|trivial|exact qM (qE (by rfl))|exact qM (qF (by rfl))|exact qM (Fit.refl _)|exact qL (qK _)|(refine qM (qE ?_);(try simp only [qV]at *);simp only [zQ,zA,zB,zC,zD,zE,zF,zG,zH,zI,zJ,zK,zL,zM,zN,zO,zP,zR,zS]at *;omega)|skip))|skip
end Go.Proofs.YtkdggbfknlcdaaaGreat

namespace Go.Proofs.YtkdggbfknlcdaaaGreat
open Go.Eng.Dif
theorem udn {tw tm:List Int} {tv:List (List Int)}(h:ubM tw tm tv=0):TOk tw tm tv:=by
 unfold ubM at h
 split at h
 ·omega
 ·rename_i h1
  split at h
  ·omega
  ·rename_i h2
   split at h
   ·rename_i h3
    refine⟨by omega,by omega,by omega,by omega,?_,?_,by omega,fun i hi=>(h3 i hi).1,fun i hi=>(h3 i hi).2⟩
    ·cases hr:ucr tw 40 with
     |true=>rfl
     |false=>exact absurd (.inr (.inr (.inl hr))) h2
    ·cases hr:ucr tm 60 with
     |true=>rfl
     |false=>exact absurd (.inr (.inr (.inr (.inl hr)))) h2
   ·omega
def uhl (p:Nat→Bool)(n:Nat):Bool:= !(decide (0≤ubK p n 0))
theorem uag (p:Nat→Bool)(n:Nat):(uhl p n=true)=∀i,i<n→p i=true:=by rw [uhl,ugj];exact decide_eq_true_eq
theorem uai (p:Nat→Bool)(n:Nat):(uhl p n=false)=¬∀i,i<n→p i=true:=by rw [uhl,ugj];simp only [decide_eq_false_iff_not]
def inB (lo n hi:Int):Bool:=decide (lo≤n∧n≤hi)
def ofB (lo a b hi:Int):Bool:=decide (lo≤a∧a≤b∧b≤hi)
theorem uax (lo n hi:Int):(inB lo n hi=true)=(lo≤n∧n≤hi):=decide_eq_true_eq
theorem uaO (lo n hi:Int):(inB lo n hi=false)=¬(lo≤n∧n≤hi):=by simp only [inB,decide_eq_false_iff_not]
theorem uaK (lo a b hi:Int):(ofB lo a b hi=true)=(lo≤a∧a≤b∧b≤hi):=decide_eq_true_eq
theorem uaN (lo a b hi:Int):(ofB lo a b hi=false)=¬(lo≤a∧a≤b∧b≤hi):=by simp only [ofB,decide_eq_false_iff_not]
def inL (out:List Int)(v:Int):Bool:=decide (0≤ubK (fun j=> !(decide (out.getD j 0=v))) out.length 0)
theorem uys {out:List Int} {v:Int}:inL out v=true↔∃j,j<out.length∧out.getD j 0=v:=by
 unfold inL
 rw [decide_eq_true_eq,uiI]
 constructor
 ·rintro⟨j,_,h2,h3⟩;exact⟨j,by omega,of_decide_eq_true (by simpa using h3)⟩
 ·rintro⟨j,h1,h2⟩;exact⟨j,by omega,by omega,by rw [h2];simp⟩
theorem uhz (out:List Int)(v:Int):inL out v=out.contains v:=by
 rw [Bool.eq_iff_iff,uys,List.contains_iff_mem]
 constructor
 ·rintro⟨j,h1,h2⟩
  rw [←h2,List.getD_eq_getElem?_getD,List.getElem?_eq_getElem h1];exact List.getElem_mem h1
 ·intro h
  obtain⟨j,h1,h2⟩:=List.getElem_of_mem h
  exact⟨j,h1,by rw [List.getD_eq_getElem?_getD,List.getElem?_eq_getElem h1];exact h2⟩
structure LkT where
 a:Int
 b:Int
 lo:Int
 hi:Int
structure FaT where
 p:Int
 s:Int
 wl:Int
 wh:Int
 ml:Int
 mh:Int
structure Dsp where
 tw:List Int
 tm:List Int
 tv:List (List Int)
 sn:Int
 pn:Int
 ls:List LkT
 fs:List FaT
def l0T :LkT:=⟨0,0,0,0⟩
def f0T :FaT:=⟨0,0,0,0,0,0⟩
def ud3 (sn:Int)(x:LkT):Prop:=(0≤x.a∧x.a≤sn-1)∧(0≤x.b∧x.b≤sn-1)∧x.a≠x.b∧ -2000≤x.lo∧x.lo≤x.hi∧x.hi≤2000
instance (sn:Int) (x:LkT):Decidable (ud3 sn x):=by unfold ud3;infer_instance
def ueX (sn:Int)(x:LkT):Bool:=decide (ud3 sn x)
theorem ua9 (sn:Int)(x:LkT):(ueX sn x=true)=ud3 sn x:=decide_eq_true_eq
theorem uaa (sn:Int)(x:LkT):(ueX sn x=false)=¬ud3 sn x:=by simp only [ueX,decide_eq_false_iff_not]
def uca (d:Dsp)(f:FaT):Prop:=(0≤f.p∧f.p≤d.pn-1)∧(0≤f.s∧f.s≤d.sn-1)∧(d.tw.getD 0 0≤f.wl∧f.wl≤f.wh∧f.wh≤d.tw.getD (d.tw.length-1) 0)∧d.tm.getD 0 0≤f.ml∧f.ml≤f.mh∧f.mh≤d.tm.getD (d.tm.length-1) 0
instance (d:Dsp) (f:FaT):Decidable (uca d f):=by unfold uca;infer_instance
def ufb (d:Dsp)(f:FaT):Bool:=decide (uca d f)
theorem ua8 (d:Dsp)(f:FaT):(ufb d f=true)=uca d f:=decide_eq_true_eq
theorem uab (d:Dsp)(f:FaT):(ufb d f=false)=¬uca d f:=by simp only [ufb,decide_eq_false_iff_not]
structure DOk (d:Dsp):Prop where
 t:TOk d.tw d.tm d.tv
 s1:1≤d.sn
 s3:d.sn≤3
 p1:1≤d.pn
 p4:d.pn≤4
 l4:d.ls.length≤4
 f6:d.fs.length≤6
 l:∀i,i<d.ls.length→ud3 d.sn (d.ls.getD i l0T)
 f:∀i,i<d.fs.length→uca d (d.fs.getD i f0T)
def uew (d:Dsp):Prop:=3<d.sn∨4<d.pn∨4<d.ls.length∨6<d.fs.length
instance (d:Dsp):Decidable (uew d):=by unfold uew;infer_instance
def ujs (d:Dsp):Prop:=1≤d.sn∧1≤d.pn∧uhl (fun i=>ueX d.sn (d.ls.getD i l0T)) d.ls.length=true∧uhl (fun i=>ufb d (d.fs.getD i f0T)) d.fs.length=true
instance (d:Dsp):Decidable (ujs d):=by unfold ujs;infer_instance
def ua5 (d:Dsp):Int:=if ubM d.tw d.tm d.tv=0 then(if uew d then 3 else if ujs d then 0 else 1)else ubM d.tw d.tm d.tv
theorem ugq {d:Dsp}(h:¬ubM d.tw d.tm d.tv=0):ua5 d=ubM d.tw d.tm d.tv:=by unfold ua5;rw [if_neg h]
theorem ufO {d:Dsp}(h:ubM d.tw d.tm d.tv=0)(h':uew d):ua5 d=3:=by unfold ua5;rw [if_pos h,if_pos h']
theorem ueV {d:Dsp}(h:ubM d.tw d.tm d.tv=0)(h':¬uew d)(h'':¬ujs d):ua5 d=1:=by unfold ua5;rw [if_pos h,if_neg h',if_neg h'']
theorem ugm {d:Dsp}(h:ubM d.tw d.tm d.tv=0)(h':¬uew d)(h'':ujs d):ua5 d=0:=by unfold ua5;rw [if_pos h,if_neg h',if_pos h'']
theorem ufa {d:Dsp}:ujs d↔1≤d.sn∧1≤d.pn∧(∀i,i<d.ls.length→ud3 d.sn (d.ls.getD i l0T))∧∀i,i<d.fs.length→uca d (d.fs.getD i f0T):=by
 unfold ujs
 rw [uag,uag]
 simp only [ua9,ua8]
theorem ua2 {d:Dsp}:ua5 d=0↔DOk d:=by
 constructor
 ·intro h
  by_cases ht:ubM d.tw d.tm d.tv=0
  ·by_cases hm:uew d
   ·rw [ufO ht hm]at h;omega
   ·by_cases hg:ujs d
    ·have g:=ufa.1 hg
     unfold uew at hm
     exact⟨udn ht,g.1,by omega,g.2.1,by omega,by omega,by omega,g.2.2.1,g.2.2.2⟩
    ·rw [ueV ht hm hg]at h;omega
  ·rw [ugq ht]at h;exact absurd h ht
 ·intro h
  have h1:=h.s3
  have h2:=h.p4
  have h3:=h.l4
  have h4:=h.f6
  exact ugm (ujD h.t) (by unfold uew;omega) (ufa.2 ⟨h.s1,h.p1,h.l,h.f⟩)
def mLo (d:Dsp)(f:FaT):Int:=bLo d.tw d.tm d.tv f.wl f.wh f.ml f.mh
def mHi (d:Dsp)(f:FaT):Int:=bHi d.tw d.tm d.tv f.wl f.wh f.ml f.mh
theorem uin {d:Dsp} {f:FaT}(h:uca d f):Box d.tw d.tm f.wl f.wh f.ml f.mh:=by
 unfold uca at h
 exact⟨by omega,by omega,by omega,by omega,by omega,by omega⟩
theorem uov {d:Dsp} {f:FaT}(hT:TOk d.tw d.tm d.tv)(h:uca d f):0≤mLo d f∧mLo d f≤mHi d f∧mHi d f≤2000:=by
 have hb:=uin h
 have hB:=uw6 hT hb
 obtain⟨w,m,a1,a2,a3,a4,a5⟩:=hB.lo
 obtain⟨w',m',b1,b2,b3,b4,b5⟩:=hB.hi
 have q1:=usq hT (hb.pt a1 a2 a3 a4)
 have q2:=usq hT (hb.pt b1 b2 b3 b4)
 have q3:=hB.le w m a1 a2 a3 a4
 unfold mLo mHi
 omega
def lkO (x:LkT):Lk:=⟨x.a.toNat,x.b.toNat,x.lo,x.hi⟩
def faO (d:Dsp)(f:FaT):Fa:=⟨f.s.toNat,mLo d f,mHi d f⟩
def LO (d:Dsp):List Lk:=d.ls.map lkO
def FO (d:Dsp)(fs:List FaT):List Fa:=fs.map (faO d)
def SN (d:Dsp):Nat:=d.sn.toNat
def FOk (d:Dsp)(fs:List FaT):Prop:=∀i,i<fs.length→uca d (fs.getD i f0T)
theorem FOk.mem {d:Dsp} {fs:List FaT}(h:FOk d fs) {f:FaT}(hf:f∈fs):uca d f:=by
 obtain⟨i,h1,h2⟩:=List.getElem_of_mem hf
 have:=h i h1
 rw [List.getD_eq_getElem?_getD,List.getElem?_eq_getElem h1]at this
 rw [←h2];exact this
theorem FOk.of {d:Dsp} {fs:List FaT}(h:∀f∈fs,uca d f):FOk d fs:=fun i hi=>by
 rw [List.getD_eq_getElem?_getD,List.getElem?_eq_getElem hi];exact h _ (List.getElem_mem hi)
theorem uom {d:Dsp}(h:∀i,i<d.ls.length→ud3 d.sn (d.ls.getD i l0T)) {x:LkT}(hx:x∈d.ls):ud3 d.sn x:=by
 obtain⟨i,h1,h2⟩:=List.getElem_of_mem hx
 have:=h i h1
 rw [List.getD_eq_getElem?_getD,List.getElem?_eq_getElem h1]at this
 rw [←h2];exact this
theorem okk {d:Dsp}(h:DOk d) {fs:List FaT}(hf:FOk d fs):Okk (SN d) (LO d) (FO d fs):=by
 have s1:=h.s1
 have s3:=h.s3
 refine⟨by unfold SN;omega,by unfold SN;omega,fun k hk=> ?_,fun k hk=> ?_⟩
 ·obtain⟨x,hx,rfl⟩:=List.mem_map.1 hk
  have:=uom h.l hx
  unfold ud3 at this
  unfold lkO SN
  simp only
  omega
 ·obtain⟨x,hx,rfl⟩:=List.mem_map.1 hk
  have:=hf.mem hx
  unfold uca at this
  unfold faO SN
  simp only
  omega
theorem ut5 {d:Dsp}(h:DOk d) {fs:List FaT}(hf:FOk d fs)(i:Nat): -2000≤ug8 (SN d) (LO d) (FO d fs) i∧ug8 (SN d) (LO d) (FO d fs) i≤2000:=by
 refine upA (fun k hk=> ?_) (fun k hk=> ?_) i
 ·obtain⟨x,hx,rfl⟩:=List.mem_map.1 hk
  have:=uom h.l hx
  unfold ud3 at this
  unfold lkO
  simp only
  omega
 ·obtain⟨x,hx,rfl⟩:=List.mem_map.1 hk
  have:=uov h.t (hf.mem hx)
  unfold faO
  simp only
  omega
def kpT (fs:List FaT)(c:Nat→Bool):Nat→List FaT
 |0=>[]
 |i+1=>if c i=true then kpT fs c i++[fs.getD i f0T]else kpT fs c i
theorem uoE {fs:List FaT} {c:Nat→Bool} {i:Nat}(h:c i=true):kpT fs c (i+1)=kpT fs c i++[fs.getD i f0T]:=by simp only [kpT,h,if_true]
theorem uud {fs:List FaT} {c:Nat→Bool} {i:Nat}(h:c i=false):kpT fs c (i+1)=kpT fs c i:=by simp only [kpT,h,Bool.false_eq_true,if_false]
theorem uul (fs:List FaT)(c:Nat→Bool):∀{m n:Nat},m≤n→∃r,kpT fs c n=kpT fs c m++r:=by
 intro m n
 induction n with
 |zero=>intro h;exact⟨[],by rw [show m=0 by omega];simp [kpT]⟩
 | succ n ih=>
  intro h
  rcases Nat.lt_or_ge n m with q|q
  ·exact⟨[],by rw [show m=n+1 by omega];simp⟩
  ·obtain⟨r,e⟩:=ih q
   cases hc:c n with
   |true=>exact⟨r++[fs.getD n f0T],by rw [uoE hc,e,List.append_assoc]⟩
   |false=>exact⟨r,by rw [uud hc,e]⟩
theorem uw3 {fs:List FaT} {c:Nat→Bool} {i n:Nat}(hi:i<n)(h:c i=true):(kpT fs c i).length<(kpT fs c n).length∧(kpT fs c n).getD (kpT fs c i).length f0T=fs.getD i f0T:=by
 obtain⟨r,e⟩:=uul fs c (show i+1≤n by omega)
 rw [e,uoE h]
 constructor
 ·simp only [List.length_append,List.length_cons,List.length_nil];omega
 ·simp [List.getD_eq_getElem?_getD]
theorem uug {fs:List FaT} {c:Nat→Bool} {f:FaT}:∀{n:Nat},n≤fs.length→f∈kpT fs c n→f∈fs:=by
 intro n
 induction n with
 |zero=>intro _ h;simp [kpT]at h
 | succ n ih=>
  intro hn h
  simp only [kpT]at h
  split at h
  ·rcases List.mem_append.1 h with h|h
   ·exact ih (by omega) h
   ·rw [List.mem_singleton]at h
    rw [h,List.getD_eq_getElem?_getD,List.getElem?_eq_getElem (by omega)];exact List.getElem_mem _
  ·exact ih (by omega) h
theorem uqV {d:Dsp} {fs:List FaT} {i:Nat}(h:i<fs.length):(FO d fs).getD i f0=faO d (fs.getD i f0T):=by
 unfold FO
 simp only [List.getD_eq_getElem?_getD,List.getElem?_map,List.getElem?_eq_getElem h,Option.map_some,Option.getD_some]
theorem ufX (d:Dsp)(fs:List FaT):(FO d fs).length=fs.length:=List.length_map ..
theorem umI (d:Dsp):(LO d).length=d.ls.length:=List.length_map ..
theorem uva {d:Dsp} {i:Nat}(h:i<d.ls.length):(LO d).getD i lk0=lkO (d.ls.getD i l0T):=by
 unfold LO
 simp only [List.getD_eq_getElem?_getD,List.getElem?_map,List.getElem?_eq_getElem h,Option.map_some,Option.getD_some]
theorem uwA {d:Dsp} {fs:List FaT} {c:Nat→Bool}:∀{n:Nat},n≤fs.length→FO d (kpT fs c n)=kpN (FO d fs) c n:=by
 intro n
 induction n with
 |zero=>intro _;rfl
 | succ n ih=>
  intro hn
  have e:=ih (by omega)
  cases hc:c n with
  | true=>
   rw [uoE hc]
   simp only [kpN,hc,if_true]
   rw [←e,uqV (by omega)]
   unfold FO
   rw [List.map_append];rfl
  | false=>
   rw [uud hc]
   simp only [kpN,hc,Bool.false_eq_true,if_false]
   exact e
def ubQ (fs:List FaT)(o:List Int):List FaT:=kpT fs (ukq o) fs.length
def uxi (o:List Int)(i:Nat):Bool:= !(inL o (i:Int))
theorem uqI (o:List Int):uxi o=ukq o:=funext fun i=>by unfold uxi ukq;rw [uhz]
theorem ukL {d:Dsp} {fs:List FaT}(h:FOk d fs)(o:List Int):FOk d (ubQ fs o):=FOk.of fun f hf=>h.mem (uug (Nat.le_refl _) hf)
def ufq (d:Dsp)(fs:List FaT)(o:List Int):Nat→Int:=ug8 (SN d) (LO d) (FO d (ubQ fs o))
def ud7 (d:Dsp)(fs:List FaT)(o:List Int):Bool:=okD (clo (ufq d fs o))
theorem upt {d:Dsp} {fs:List FaT} {o:List Int}:ud7 d fs o=okF (SN d) (LO d) (FO d fs) o:=by
 unfold ud7 ufq ubQ okF unC ueJ
 rw [uwA (Nat.le_refl _),ufX]
end Go.Proofs.YtkdggbfknlcdaaaGreat
namespace Go.Proofs.YtkdggbfknlcdaaaGreat
open Go Go.Eng Go.Proofs
abbrev ub5 (d:Dsp):SV:=(.agg [(iS d.tw),(iS d.tm),(.sl 1 (.sym fun _=>zi (d.tv).length) (fun ix=>[(.sl 1 (.sym fun _=>zi ((d.tv).getD ix.den.toNat []).length) (fun jx=>[(iv fun _=>((d.tv).getD ix.den.toNat []).getD jx.den.toNat 0)]))])),(iv fun _=>d.sn),(iv fun _=>d.pn),(.sl 4 (.sym fun _=>zi (d.ls).length) (fun ix=>[(iv fun _=>((d.ls).getD ix.den.toNat l0T).a),(iv fun _=>((d.ls).getD ix.den.toNat l0T).b),(iv fun _=>((d.ls).getD ix.den.toNat l0T).lo),(iv fun _=>((d.ls).getD ix.den.toNat l0T).hi)])),(.sl 6 (.sym fun _=>zi (d.fs).length) (fun ix=>[(iv fun _=>((d.fs).getD ix.den.toNat f0T).p),(iv fun _=>((d.fs).getD ix.den.toNat f0T).s),(iv fun _=>((d.fs).getD ix.den.toNat f0T).wl),(iv fun _=>((d.fs).getD ix.den.toNat f0T).wh),(iv fun _=>((d.fs).getD ix.den.toNat f0T).ml),(iv fun _=>((d.fs).getD ix.den.toNat f0T).mh)]))])
end Go.Proofs.YtkdggbfknlcdaaaGreat

namespace Go.Proofs.YtkdggbfknlcdaaaGreat
open Go.Eng.Dif
theorem utI (n:Nat):bS (n+1)=bS n++[⟨0,n+1,0,2000⟩]:=by unfold bS;rw [List.range_succ,List.map_append];rfl
def mS (n:Nat):Nat→Int:=uog M00 (bS n)
theorem uAZ (n:Nat):mS (n+1)=ugd (mS n) ⟨0,n+1,0,2000⟩:=by unfold mS;rw [utI,ufe];rfl
def mL (d:Dsp)(k:Nat):Nat→Int:=uog (mS (SN d)) (bL_ ((LO d).take k))
theorem ui6 {α:Type} {l:List α} {k:Nat}(h:k<l.length):l.take (k+1)=l.take k++[l[k]]:=List.take_succ_eq_append_getElem h
theorem uzY {d:Dsp} {k:Nat}(h:k<d.ls.length)(h0:0≤(d.ls.getD k l0T).a)(h1:0≤(d.ls.getD k l0T).b):mL d (k+1)=ugd (mL d k) ⟨((d.ls.getD k l0T).a+1).toNat,((d.ls.getD k l0T).b+1).toNat,(d.ls.getD k l0T).lo,(d.ls.getD k l0T).hi⟩:=by
 have hk:k<(LO d).length:=by rw [umI];exact h
 unfold mL
 rw [ui6 hk]
 unfold bL_
 rw [List.map_append,ufe]
 have e:(LO d)[k]=lkO (d.ls.getD k l0T):=by
  have:=uva h
  rw [List.getD_eq_getElem?_getD,List.getElem?_eq_getElem hk]at this
  exact this
 rw [e,show((d.ls.getD k l0T).a+1).toNat=(d.ls.getD k l0T).a.toNat+1 by omega,show((d.ls.getD k l0T).b+1).toNat=(d.ls.getD k l0T).b.toNat+1 by omega]
 rfl
def mF (d:Dsp)(fs:List FaT)(k:Nat):Nat→Int:=uog (mL d d.ls.length) (bF ((FO d fs).take k))
theorem uzT {d:Dsp} {fs:List FaT} {k:Nat}(h:k<fs.length)(h0:0≤(fs.getD k f0T).s):mF d fs (k+1)=ugd (mF d fs k) ⟨0,((fs.getD k f0T).s+1).toNat,mLo d (fs.getD k f0T),mHi d (fs.getD k f0T)⟩:=by
 have hk:k<(FO d fs).length:=by rw [ufX];exact h
 unfold mF
 rw [ui6 hk]
 unfold bF
 rw [List.map_append,ufe]
 have e:(FO d fs)[k]=faO d (fs.getD k f0T):=by
  have:=uqV (d:=d) h
  rw [List.getD_eq_getElem?_getD,List.getElem?_eq_getElem hk]at this
  exact this
 rw [e,show((fs.getD k f0T).s+1).toNat=(fs.getD k f0T).s.toNat+1 by omega]
 rfl
theorem usy (d:Dsp)(fs:List FaT):mF d fs fs.length=ug8 (SN d) (LO d) (FO d fs):=by
 unfold mF mL mS ug8
 rw [ufe,ufe,List.take_of_length_le (by rw [umI];exact Nat.le_refl _),List.take_of_length_le (by rw [ufX];exact Nat.le_refl _)]
def iN (k i:Nat):Int:=if i<k then M00 i else 0
theorem uA0 (i:Nat):iN 0 i=0:=by unfold iN;rw [if_neg (by omega)]
theorem usJ {k i:Nat}(h:i≠k):iN k i=iN (k+1) i:=by
 unfold iN
 by_cases q:i<k
 ·rw [if_pos q,if_pos (by omega)]
 ·rw [if_neg q,if_neg (by omega)]
theorem uws {k i:Nat}(h:i=k)(hd:k/4≠k%4):2000=iN (k+1) i:=by
 subst h
 unfold iN M00
 rw [if_pos (by omega),if_neg hd]
theorem ux9 {k i:Nat}(hd:k/4=k%4):iN k i=iN (k+1) i:=by
 by_cases q:i=k
 ·subst q
  unfold iN M00
  rw [if_neg (by omega),if_pos (by omega),if_pos hd]
 ·exact usJ q
theorem uvR {i:Nat}(h:i<16):iN 16 i=M00 i:=by unfold iN;rw [if_pos h]
theorem uwd (a b:Int):min a b=mn a b:=by unfold mn;split<;>omega
theorem uuk {M:Nat→Int} {p i a:Nat} {n:Int}(ha:a=p)(h:i=p):min (M a) n=lst M p n i:=by
 unfold lst
 rw [if_pos h,uwd,ha,h]
theorem uuO {M:Nat→Int} {p i:Nat} {n:Int}(h:i≠p):M i=lst M p n i:=by
 unfold lst
 rw [if_neg h]
end Go.Proofs.YtkdggbfknlcdaaaGreat

namespace Go.Proofs.YtkdggbfknlcdaaaGreat
open Go Go.Eng Go.Proofs
set_option maxRecDepth 10000
theorem ucW (n lo hi:Int):ua0 Tryz.prog 57 [(iv fun _=>n),(iv fun _=>lo),(iv fun _=>hi)] [] (fun r _=>r=(bv fun _=>inB lo n hi)):=by
 refine ua0.is fun R hR=>qW (sc:=uAN) uaj mix Tryz.func57 rfl Tryz.call57 (by kernel_rfl) (by kernel_rfl) ?_
 generalize Tryz.prog=P
 cbv
 repeat' (first|with_reducible refine And.intro ?_ ?_|(with_reducible intro hcd;(try simp only [zA,zB,zC,zD,zE,zF,zG,zH,zI,zJ,zK,zL,zM,zN,zO,zP]at hcd);try cbv)|fail)
 all_goals first|(subst hR;(refine qF ?_;(try simp only [qV]at *);(try simp only [zQ,zA,zB,zC,zD,zE,zF,zG,zH,zI,zJ,zK,zL,zM,zN,zO,zP,zR,zS]at *);apply Bool.eq_iff_iff.2;simp only [uag,uai,uax,uaO,uaK,uaN,ua9,uaa,ua8,uab,Bool.and_eq_true,Bool.or_eq_true,Bool.not_eq_true',decide_eq_true_eq,decide_eq_false_iff_not,Bool.false_eq_true,reduceCtorEq,Bool.true_and,Bool.and_true,Bool.false_and,Bool.and_false,iff_true,true_iff,Bool.not_true,Bool.not_false]at *;constructor<;>intro q<;>first|omega|(exact q.elim)|(exact absurd q (by omega)));done)|skip
theorem uuA (lo hi n:Int):ua0 Tryz.prog 71 [(.agg [(iv fun _=>lo),(iv fun _=>hi)]),(iv fun _=>n)] [] (fun r _=>r=(bv fun _=>inB lo n hi)):=by
 have c43:= @ucW
 refine ua0.is fun R hR=>qW (sc:=uzS) uaj mix Tryz.func71 rfl Tryz.call71 (by kernel_rfl) (by kernel_rfl) ?_
 generalize Tryz.prog=P at c43⊢
 cbv
 repeat' (first|(refine qP ?_ (c43 _ _ _) (by(repeat' (first|exact qB|refine qD ?_ ?_|exact qE (by rfl)|exact qF (by rfl)|exact Fit.refl _|exact qA|refine qC ?_ rfl ?_)));try cbv)|fail)
 all_goals first|(subst hR;(repeat' (first|exact qA|exact qB|refine qC ?_ rfl ?_|refine qD ?_ ?_|exact qE (by rfl)|exact qF (by rfl)|exact Fit.refl _|exact qG _|(refine qE ?_;(try simp only [qV]at *);simp only [zQ,zA,zB,zC,zD,zE,zF,zG,zH,zI,zJ,zK,zL,zM,zN,zO,zP,zR,zS]at *;omega)));done)|skip
theorem uzB (a b lo hi:Int):ua0 Tryz.prog 111 [(.agg [(iv fun _=>a),(iv fun _=>b)]),(iv fun _=>lo),(iv fun _=>hi)] [] (fun r _=>r=(bv fun _=>ofB lo a b hi)):=by
 refine ua0.is fun R hR=>qW (sc:=uyd) uaj mix Tryz.func111 rfl Tryz.call111 (by kernel_rfl) (by kernel_rfl) ?_
 generalize Tryz.prog=P
 cbv
 repeat' (first|with_reducible refine And.intro ?_ ?_|(with_reducible intro hcd;(try simp only [zA,zB,zC,zD,zE,zF,zG,zH,zI,zJ,zK,zL,zM,zN,zO,zP]at hcd);try cbv)|fail)
 all_goals first|(subst hR;(refine qF ?_;(try simp only [qV]at *);(try simp only [zQ,zA,zB,zC,zD,zE,zF,zG,zH,zI,zJ,zK,zL,zM,zN,zO,zP,zR,zS]at *);apply Bool.eq_iff_iff.2;simp only [uag,uai,uax,uaO,uaK,uaN,ua9,uaa,ua8,uab,Bool.and_eq_true,Bool.or_eq_true,Bool.not_eq_true',decide_eq_true_eq,decide_eq_false_iff_not,Bool.false_eq_true,reduceCtorEq,Bool.true_and,Bool.and_true,Bool.false_and,Bool.and_false,iff_true,true_iff,Bool.not_true,Bool.not_false]at *;constructor<;>intro q<;>first|omega|(exact q.elim)|(exact absurd q (by omega)));done)|skip
theorem uzp (a b:Int)(l:List Int)(h:1≤l.length∧l.length≤1000):ua0 Tryz.prog 112 [(.agg [(iv fun _=>a),(iv fun _=>b)]),(iS l)] [] (fun r _=>r=(bv fun _=>ofB (l.getD 0 0) a b (l.getD (l.length-1) 0))):=by
 have c80:= @uzB
 refine ua0.is fun R hR=>qW (sc:=uyW) uaj mix Tryz.func112 rfl Tryz.call112 (by kernel_rfl) (by kernel_rfl) ?_
 generalize Tryz.prog=P at c80⊢
 cbv
 repeat' (first|with_reducible refine ua4 ?_ ?_|(refine qP ?_ (c80 _ _ _ _) (by(repeat' (first|exact qB|refine qD ?_ ?_|exact qE (by rfl)|exact qF (by rfl)|exact Fit.refl _|exact qA|refine qC ?_ rfl ?_)));try cbv)|fail)
 all_goals first|((try simp only [qV]at *);(try simp only [zQ,zA,zB,zC,zD,zE,zF,zG,zH,zI,zJ,zK,zL,zM,zN,zO,zP,zR,zS,uag,uai,uax,uaO,uaK,uaN,ua9,uaa,ua8,uab]at *);first|(refine qN ?_;omega)|(simp only [uam];omega))|(subst hR;(refine qF ?_;simp only [zQ,zA,zB,zC,zD,zE,zF,zG,zH,zI,zJ,zK,zL,zM,zN,zO,zP,zR,zS];congr 2;omega);done)|skip
theorem udy (d:Dsp)(n:Int)(h:1≤d.sn∧d.sn≤1000):ua0 Tryz.prog 61 [(ub5 d),(iv fun _=>n)] [] (fun r _=>r=(bv fun _=>inB 0 n (d.sn-1))):=by
 have c43:= @ucW
 refine ua0.is fun R hR=>qW (sc:=uA6) uaj mix Tryz.func61 rfl Tryz.call61 (by kernel_rfl) (by kernel_rfl) ?_
 generalize Tryz.prog=P at c43⊢
 cbv
 repeat' (first|with_reducible refine ua4 ?_ ?_|(refine qP ?_ (c43 _ _ _) (by(repeat' (first|exact qB|refine qD ?_ ?_|exact qE (by rfl)|exact qF (by rfl)|exact Fit.refl _|exact qA|refine qC ?_ rfl ?_)));try cbv)|fail)
 all_goals first|((try simp only [qV]at *);(try simp only [zQ,zA,zB,zC,zD,zE,zF,zG,zH,zI,zJ,zK,zL,zM,zN,zO,zP,zR,zS,uag,uai,uax,uaO,uaK,uaN,ua9,uaa,ua8,uab]at *);first|(refine qN ?_;omega)|(simp only [uam];omega))|(subst hR;(repeat' (first|exact qA|exact qB|refine qC ?_ rfl ?_|refine qD ?_ ?_|exact qE (by rfl)|exact qF (by rfl)|exact Fit.refl _|exact qG _|(refine qE ?_;(try simp only [qV]at *);simp only [zQ,zA,zB,zC,zD,zE,zF,zG,zH,zI,zJ,zK,zL,zM,zN,zO,zP,zR,zS]at *;omega)));done)|skip
theorem uvZ (d:Dsp)(x:LkT)(h:1≤d.sn∧d.sn≤1000):ua0 Tryz.prog 94 [(ub5 d),(.agg [(iv fun _=>x.a),(iv fun _=>x.b),(iv fun _=>x.lo),(iv fun _=>x.hi)])] [] (fun r _=>r=(bv fun _=>ueX d.sn x)):=by
 have c66:=fun (n:Int)=>udy d n h
 have c80:= @uzB
 refine ua0.is fun R hR=>qW (sc:=uAf) uaj mix Tryz.func94 rfl Tryz.call94 (by kernel_rfl) (by kernel_rfl) ?_
 generalize Tryz.prog=P at c66 c80⊢
 cbv
 repeat' (first|with_reducible refine And.intro ?_ ?_|(with_reducible intro hcd;(try simp only [zA,zB,zC,zD,zE,zF,zG,zH,zI,zJ,zK,zL,zM,zN,zO,zP]at hcd);try cbv)|(refine qP ?_ (c66 _) (by(repeat' (first|exact qB|refine qD ?_ ?_|exact qE (by rfl)|exact qF (by rfl)|exact Fit.refl _|exact qA|refine qC ?_ rfl ?_)));try cbv)|(refine qP ?_ (c80 _ _ _ _) (by(repeat' (first|exact qB|refine qD ?_ ?_|exact qE (by rfl)|exact qF (by rfl)|exact Fit.refl _|exact qA|refine qC ?_ rfl ?_)));try cbv)|fail)
 all_goals first|(subst hR;(refine qF ?_;(try simp only [qV]at *);(try simp only [zQ,zA,zB,zC,zD,zE,zF,zG,zH,zI,zJ,zK,zL,zM,zN,zO,zP,zR,zS]at *);apply Bool.eq_iff_iff.2;simp only [ueX,uag,uai,uax,uaO,uaK,uaN,ua9,uaa,ua8,uab,Bool.and_eq_true,Bool.or_eq_true,Bool.not_eq_true',decide_eq_true_eq,decide_eq_false_iff_not,Bool.false_eq_true,reduceCtorEq,Bool.true_and,Bool.and_true,Bool.false_and,Bool.and_false,iff_true,true_iff,Bool.not_true,Bool.not_false]at *;simp only [ud3]at *;constructor<;>intro q<;>first|omega|(exact q.elim)|(exact absurd q (by omega)));done)|skip
theorem uvS (d:Dsp)(f:FaT)(h:1≤d.sn∧d.sn≤1000∧1≤d.pn∧d.pn≤1000)(hw:1≤d.tw.length∧d.tw.length≤1000)(hm:1≤d.tm.length∧d.tm.length≤1000):ua0 Tryz.prog 95 [(ub5 d),(.agg [(iv fun _=>f.p),(iv fun _=>f.s),(iv fun _=>f.wl),(iv fun _=>f.wh),(iv fun _=>f.ml),(iv fun _=>f.mh)])] [] (fun r _=>r=(bv fun _=>ufb d f)):=by
 have c66:=fun (n:Int)=>udy d n ⟨h.1,h.2.1⟩
 have c43:= @ucW
 have c81w:=fun (a b:Int)=>uzp a b d.tw hw
 have c81m:=fun (a b:Int)=>uzp a b d.tm hm
 refine ua0.is fun R hR=>qW (sc:=uAJ) uaj mix Tryz.func95 rfl Tryz.call95 (by kernel_rfl) (by kernel_rfl) ?_
 generalize Tryz.prog=P at c66 c43 c81w c81m⊢
 cbv
 repeat' (first|with_reducible refine ua4 ?_ ?_|with_reducible refine And.intro ?_ ?_|(with_reducible intro hcd;(try simp only [zA,zB,zC,zD,zE,zF,zG,zH,zI,zJ,zK,zL,zM,zN,zO,zP]at hcd);try cbv)|(refine qP ?_ (c66 _) (by(repeat' (first|exact qB|refine qD ?_ ?_|exact qE (by rfl)|exact qF (by rfl)|exact Fit.refl _|exact qA|refine qC ?_ rfl ?_)));try cbv)|(refine qP ?_ (c43 _ _ _) (by(repeat' (first|exact qB|refine qD ?_ ?_|exact qE (by rfl)|exact qF (by rfl)|exact Fit.refl _|exact qA|refine qC ?_ rfl ?_)));try cbv)|(refine qP ?_ (c81w f.wl f.wh) ?hfit;(case hfit=>((repeat' (first|exact qB|refine qD ?_ ?_|exact qE (by rfl)|exact qF (by rfl)|exact Fit.refl _|exact qA|refine qC ?_ rfl ?_));done));try cbv)|(refine qP ?_ (c81m f.ml f.mh) ?hfit;(case hfit=>((repeat' (first|exact qB|refine qD ?_ ?_|exact qE (by rfl)|exact qF (by rfl)|exact Fit.refl _|exact qA|refine qC ?_ rfl ?_));done));try cbv)|fail)
 all_goals first|((try simp only [qV]at *);(try simp only [zQ,zA,zB,zC,zD,zE,zF,zG,zH,zI,zJ,zK,zL,zM,zN,zO,zP,zR,zS,uag,uai,uax,uaO,uaK,uaN,ua9,uaa,ua8,uab]at *);first|(refine qN ?_;omega)|(simp only [uam];omega))|(subst hR;(refine qF ?_;(try simp only [qV]at *);(try simp only [zQ,zA,zB,zC,zD,zE,zF,zG,zH,zI,zJ,zK,zL,zM,zN,zO,zP,zR,zS]at *);apply Bool.eq_iff_iff.2;simp only [ufb,uag,uai,uax,uaO,uaK,uaN,ua9,uaa,ua8,uab,Bool.and_eq_true,Bool.or_eq_true,Bool.not_eq_true',decide_eq_true_eq,decide_eq_false_iff_not,Bool.false_eq_true,reduceCtorEq,Bool.true_and,Bool.and_true,Bool.false_and,Bool.and_false,iff_true,true_iff,Bool.not_true,Bool.not_false]at *;simp only [uca]at *;constructor<;>intro q<;>first|omega|(exact q.elim)|(exact absurd q (by omega)));done)|skip
end Go.Proofs.YtkdggbfknlcdaaaGreat

namespace Go.Proofs.YtkdggbfknlcdaaaGreat
open Go Go.Eng Go.Proofs
set_option maxRecDepth 10000
theorem uo0 (d:Dsp)(h1:1≤d.sn∧d.sn≤1000)(hfew:d.ls.length≤1000)(i:Nat)(hi:i<d.ls.length∧∀j,j<i→(ueX d.sn (d.ls.getD (j) l0T))=true):ua0 Tryz.prog 101 [(.agg [(iv fun _=>(d.ls.getD (i) l0T).a),(iv fun _=>(d.ls.getD (i) l0T).b),(iv fun _=>(d.ls.getD (i) l0T).lo),(iv fun _=>(d.ls.getD (i) l0T).hi)]),.own 0 0] [.cells [.clo 94 [(ub5 d)] []] 133] (fun r bs=>r=(bv fun _=> !(ueX d.sn (d.ls.getD (i) l0T)))∧bs=[.cells [.clo 94 [(ub5 d)] []] 133]):=by
 have cf:=uvZ d (d.ls.getD i l0T) h1
 refine ua0.isB rfl fun R B hR hB=>qW (sc:=uwC) uaj mix Tryz.func101 rfl Tryz.call101 (by kernel_rfl) (by kernel_rfl) ?_
 generalize Tryz.prog=P at cf⊢
 cbv
 repeat' (first|with_reducible refine And.intro ?_ ?_|(refine qP ?_ (cf) ?hfit;(case hfit=>((repeat' (first|exact qB|refine qD ?_ ?_|exact qE (by rfl)|exact qF (by rfl)|exact Fit.refl _|exact qA|refine qC ?_ rfl ?_));done));try cbv)|fail)
 all_goals first|(subst hR;(repeat' (first|exact qA|exact qB|refine qC ?_ rfl ?_|refine qD ?_ ?_|exact qE (by rfl)|exact qF (by rfl)|exact Fit.refl _|exact qG _|(refine qE ?_;(try simp only [qV]at *);simp only [zQ,zA,zB,zC,zD,zE,zF,zG,zH,zI,zJ,zK,zL,zM,zN,zO,zP,zR,zS]at *;omega)));done)|(subst hB;(repeat' (first|exact qH|refine qI ?_ ?_|exact qK _|refine qJ ?_|exact qA|exact qE (by rfl)|exact qF (by rfl)|exact Fit.refl _|exact qG _|refine qC ?_ rfl ?_));done)|skip
theorem ulg (d:Dsp)(h1:1≤d.sn∧d.sn≤1000)(hfew:d.ls.length≤1000):ua0 Tryz.prog 115 [(.sl 4 (.sym fun _=>zi (d.ls).length) (fun ix=>[(iv fun _=>((d.ls).getD ix.den.toNat l0T).a),(iv fun _=>((d.ls).getD ix.den.toNat l0T).b),(iv fun _=>((d.ls).getD ix.den.toNat l0T).lo),(iv fun _=>((d.ls).getD ix.den.toNat l0T).hi)])),.clo 101 [] [.own 0 0]] [.cells [.clo 94 [(ub5 d)] []] 133] (fun r bs=>r=(iv fun _=>ubK (fun i=>ueX d.sn (d.ls.getD (i) l0T)) (d.ls.length) 0)∧bs=[.cells [.clo 94 [(ub5 d)] []] 133]):=by
 have cl:=uo0 d h1 hfew
 refine ua0.isB rfl fun R B hR hB=>qW (sc:=uxd) uaj mix Tryz.func115 rfl Tryz.call115 (by kernel_rfl) (by kernel_rfl) ?_
 generalize Tryz.prog=P at cl⊢
 cbv
 repeat' (first|fail)
 all_goals first|skip
 refine⟨none,[],{i:Nat // i≤d.ls.length∧ubK (fun i=>ueX d.sn (d.ls.getD (i) l0T)) (d.ls.length) 0=ubK (fun i=>ueX d.sn (d.ls.getD (i) l0T)) (d.ls.length-i) i∧∀j,j<i→(ueX d.sn (d.ls.getD (j) l0T))=true},fun x=>⟨[(0,(.sl 4 (.sym fun _=>zi (d.ls).length) (fun ix=>[(iv fun _=>((d.ls).getD ix.den.toNat l0T).a),(iv fun _=>((d.ls).getD ix.den.toNat l0T).b),(iv fun _=>((d.ls).getD ix.den.toNat l0T).lo),(iv fun _=>((d.ls).getD ix.den.toNat l0T).hi)]))),(1,.clo 101 [] [.own 0 0]),(7,(iv fun _=>zi (d.ls.length))),(8,(iv fun _=>zi x.1))],[(0,.cells [.clo 94 [(ub5 d)] []] 133)],20⟩,fun x=>d.ls.length-x.1,?_,?_⟩
 ·refine⟨⟨0,by omega,rfl,fun j hj=>by omega⟩,?_⟩
  cbv
  repeat' (first|with_reducible refine ua4 ?_ ?_|with_reducible refine And.intro ?_ ?_)
  all_goals first|trivial|exact qM (qE (by rfl))|exact qM (Fit.refl _)|exact qL (qK _)|skip
 ·rintro ⟨i,hi,hr,hq⟩
  cbv
  repeat' (first
   |with_reducible refine ua4 ?_ ?_
   |with_reducible refine And.intro ?_ ?_
   |(with_reducible intro hcd;(try simp only [zA,zB,zC,zD,zE,zF,zG,zH,zI,zJ,zK,zL,zM,zN,zO,zP]at hcd);try cbv)
   | (refine⟨some [0],?_⟩
      cbv
      refine qQ ?_ (cl i ⟨by(try simp only [qV]at *);simp only [uah]at *;omega,hq⟩) (by cbv;(repeat' (first|exact qB|refine qD ?_ ?_|exact qE (by rfl)|exact qF (by rfl)|exact Fit.refl _|exact qA|refine qC ?_ rfl ?_))) (by cbv;(repeat' (first|exact qH|refine qI ?_ ?_|exact qK _|refine qJ ?_|exact qA|exact qE (by rfl)|exact qF (by rfl)|exact Fit.refl _|exact qG _|refine qC ?_ rfl ?_)))
      try cbv)
   |fail)
  all_goals first|((try simp only [qV]at *);(try simp only [zQ,zA,zB,zC,zD,zE,zF,zG,zH,zI,zJ,zK,zL,zM,zN,zO,zP,zR,zS]at *);first|(refine qN ?_;omega)|(simp only [uam];omega))|(subst hR;(refine qE ?_;simp only [zQ,zA,zB,zC,zD,zE,zF,zG,zH,zI,zJ,zK,zL,zM,zN,zO,zP,zR,zS]at *;rw [hr,ub9 (by omega) hcd]);done)|(subst hR;(refine qE ?_;simp only [zQ,zA,zB,zC,zD,zE,zF,zG,zH,zI,zJ,zK,zL,zM,zN,zO,zP,zR,zS]at *;rw [hr,show d.ls.length-i=0 by omega];rfl);done)|(subst hB;(repeat' (first|exact qH|refine qI ?_ ?_|exact qK _|refine qJ ?_|exact qA|exact qE (by rfl)|exact qF (by rfl)|exact Fit.refl _|exact qG _|refine qC ?_ rfl ?_));done)|((try simp only [zQ,zA,zB,zC,zD,zE,zF,zG,zH,zI,zJ,zK,zL,zM,zN,zO,zP,zR,zS]at *);refine⟨⟨i+1,by omega,by rw [hr,ucn (by omega) hcd];(try congr 1)<;>omega,fun j hj=>(Nat.lt_or_ge j i).elim (hq j) (fun q=>by rw [show j=i by omega];exact hcd)⟩,by simp only [];omega,?_⟩;cbv;(repeat' (first|with_reducible refine ua4 ?_ ?_|with_reducible refine And.intro ?_ ?_));(all_goals first|trivial|exact qM (qE (by rfl))|exact qM (qF (by rfl))|exact qM (Fit.refl _)|exact qL (qK _)|(refine qM (qE ?_);(try simp only [qV]at *);simp only [zQ,zA,zB,zC,zD,zE,zF,zG,zH,zI,zJ,zK,zL,zM,zN,zO,zP,zR,zS]at *;omega)|(refine qL (qJ ?_);(repeat' (first|exact qA|exact qB|refine qC ?_ rfl ?_|refine qD ?_ ?_|exact qE (by rfl)|exact qF (by rfl)|exact Fit.refl _|exact qG _|(refine qE ?_;(try simp only [qV]at *);simp only [zQ,zA,zB,zC,zD,zE,zF,zG,zH,zI,zJ,zK,zL,zM,zN,zO,zP,zR,zS]at *;omega)));done)|skip))|skip
theorem ulI (d:Dsp)(h1:1≤d.sn∧d.sn≤1000)(hfew:d.ls.length≤1000):ua0 Tryz.prog 100 [(.sl 4 (.sym fun _=>zi (d.ls).length) (fun ix=>[(iv fun _=>((d.ls).getD ix.den.toNat l0T).a),(iv fun _=>((d.ls).getD ix.den.toNat l0T).b),(iv fun _=>((d.ls).getD ix.den.toNat l0T).lo),(iv fun _=>((d.ls).getD ix.den.toNat l0T).hi)])),.clo 101 [] [.own 0 0]] [.cells [.clo 94 [(ub5 d)] []] 133] (fun r bs=>r=(bv fun _=>decide (0≤ubK (fun i=>ueX d.sn (d.ls.getD (i) l0T)) (d.ls.length) 0))∧bs=[.cells [.clo 94 [(ub5 d)] []] 133]):=by
 have ci:=ulg d h1 hfew
 refine ua0.isB rfl fun R B hR hB=>qW (sc:=ux5) uaj mix Tryz.func100 rfl Tryz.call100 (by kernel_rfl) (by kernel_rfl) ?_
 generalize Tryz.prog=P at ci⊢
 cbv
 repeat' (first
  |with_reducible refine And.intro ?_ ?_
  | (refine⟨some [0],?_⟩
     cbv
     refine qQ ?_ (ci) (by cbv;(repeat' (first|exact qB|refine qD ?_ ?_|exact qE (by rfl)|exact qF (by rfl)|exact Fit.refl _|exact qA|refine qC ?_ rfl ?_))) (by cbv;(repeat' (first|exact qH|refine qI ?_ ?_|exact qK _|refine qJ ?_|exact qA|exact qE (by rfl)|exact qF (by rfl)|exact Fit.refl _|exact qG _|refine qC ?_ rfl ?_)))
     try cbv)
  |fail)
 all_goals first|(subst hR;(repeat' (first|exact qA|exact qB|refine qC ?_ rfl ?_|refine qD ?_ ?_|exact qE (by rfl)|exact qF (by rfl)|exact Fit.refl _|exact qG _|(refine qE ?_;(try simp only [qV]at *);simp only [zQ,zA,zB,zC,zD,zE,zF,zG,zH,zI,zJ,zK,zL,zM,zN,zO,zP,zR,zS]at *;omega)));done)|(subst hB;(repeat' (first|exact qH|refine qI ?_ ?_|exact qK _|refine qJ ?_|exact qA|exact qE (by rfl)|exact qF (by rfl)|exact Fit.refl _|exact qG _|refine qC ?_ rfl ?_));done)|skip
theorem unw (d:Dsp)(h1:1≤d.sn∧d.sn≤1000)(hfew:d.ls.length≤1000):ua0 Tryz.prog 72 [(.sl 4 (.sym fun _=>zi (d.ls).length) (fun ix=>[(iv fun _=>((d.ls).getD ix.den.toNat l0T).a),(iv fun _=>((d.ls).getD ix.den.toNat l0T).b),(iv fun _=>((d.ls).getD ix.den.toNat l0T).lo),(iv fun _=>((d.ls).getD ix.den.toNat l0T).hi)])),.clo 94 [(ub5 d)] []] [] (fun r _=>r=(bv fun _=>uhl (fun i=>ueX d.sn (d.ls.getD (i) l0T)) (d.ls.length))):=by
 have cc:=ulI d h1 hfew
 refine ua0.is fun R hR=>qW (sc:=uzD) uaj mix Tryz.func72 rfl Tryz.call72 (by kernel_rfl) (by kernel_rfl) ?_
 generalize Tryz.prog=P at cc⊢
 cbv
 repeat' (first
  | (refine⟨some [0],?_⟩
     cbv
     refine qQ ?_ (cc) (by cbv;(repeat' (first|exact qB|refine qD ?_ ?_|exact qE (by rfl)|exact qF (by rfl)|exact Fit.refl _|exact qA|refine qC ?_ rfl ?_))) (by cbv;(repeat' (first|exact qH|refine qI ?_ ?_|exact qK _|refine qJ ?_|exact qA|exact qE (by rfl)|exact qF (by rfl)|exact Fit.refl _|exact qG _|refine qC ?_ rfl ?_)))
     try cbv)
  |fail)
 all_goals first|(subst hR;(repeat' (first|exact qA|exact qB|refine qC ?_ rfl ?_|refine qD ?_ ?_|exact qE (by rfl)|exact qF (by rfl)|exact Fit.refl _|exact qG _|(refine qE ?_;(try simp only [qV]at *);simp only [zQ,zA,zB,zC,zD,zE,zF,zG,zH,zI,zJ,zK,zL,zM,zN,zO,zP,zR,zS]at *;omega)));done)|skip
theorem unV (d:Dsp)(h1:1≤d.sn∧d.sn≤1000∧1≤d.pn∧d.pn≤1000)(hw:1≤d.tw.length∧d.tw.length≤1000)(hm:1≤d.tm.length∧d.tm.length≤1000)(hfew:d.fs.length≤1000)(i:Nat)(hi:i<d.fs.length∧∀j,j<i→(ufb d (d.fs.getD (j) f0T))=true):ua0 Tryz.prog 103 [(.agg [(iv fun _=>(d.fs.getD (i) f0T).p),(iv fun _=>(d.fs.getD (i) f0T).s),(iv fun _=>(d.fs.getD (i) f0T).wl),(iv fun _=>(d.fs.getD (i) f0T).wh),(iv fun _=>(d.fs.getD (i) f0T).ml),(iv fun _=>(d.fs.getD (i) f0T).mh)]),.own 0 0] [.cells [.clo 95 [(ub5 d)] []] 136] (fun r bs=>r=(bv fun _=> !(ufb d (d.fs.getD (i) f0T)))∧bs=[.cells [.clo 95 [(ub5 d)] []] 136]):=by
 have cf:=uvS d (d.fs.getD i f0T) h1 hw hm
 refine ua0.isB rfl fun R B hR hB=>qW (sc:=uxc) uaj mix Tryz.func103 rfl Tryz.call103 (by kernel_rfl) (by kernel_rfl) ?_
 generalize Tryz.prog=P at cf⊢
 cbv
 repeat' (first|with_reducible refine And.intro ?_ ?_|(refine qP ?_ (cf) ?hfit;(case hfit=>((repeat' (first|exact qB|refine qD ?_ ?_|exact qE (by rfl)|exact qF (by rfl)|exact Fit.refl _|exact qA|refine qC ?_ rfl ?_));done));try cbv)|fail)
 all_goals first|(subst hR;(repeat' (first|exact qA|exact qB|refine qC ?_ rfl ?_|refine qD ?_ ?_|exact qE (by rfl)|exact qF (by rfl)|exact Fit.refl _|exact qG _|(refine qE ?_;(try simp only [qV]at *);simp only [zQ,zA,zB,zC,zD,zE,zF,zG,zH,zI,zJ,zK,zL,zM,zN,zO,zP,zR,zS]at *;omega)));done)|(subst hB;(repeat' (first|exact qH|refine qI ?_ ?_|exact qK _|refine qJ ?_|exact qA|exact qE (by rfl)|exact qF (by rfl)|exact Fit.refl _|exact qG _|refine qC ?_ rfl ?_));done)|skip
theorem ulv (d:Dsp)(h1:1≤d.sn∧d.sn≤1000∧1≤d.pn∧d.pn≤1000)(hw:1≤d.tw.length∧d.tw.length≤1000)(hm:1≤d.tm.length∧d.tm.length≤1000)(hfew:d.fs.length≤1000):ua0 Tryz.prog 116 [(.sl 6 (.sym fun _=>zi (d.fs).length) (fun ix=>[(iv fun _=>((d.fs).getD ix.den.toNat f0T).p),(iv fun _=>((d.fs).getD ix.den.toNat f0T).s),(iv fun _=>((d.fs).getD ix.den.toNat f0T).wl),(iv fun _=>((d.fs).getD ix.den.toNat f0T).wh),(iv fun _=>((d.fs).getD ix.den.toNat f0T).ml),(iv fun _=>((d.fs).getD ix.den.toNat f0T).mh)])),.clo 103 [] [.own 0 0]] [.cells [.clo 95 [(ub5 d)] []] 136] (fun r bs=>r=(iv fun _=>ubK (fun i=>ufb d (d.fs.getD (i) f0T)) (d.fs.length) 0)∧bs=[.cells [.clo 95 [(ub5 d)] []] 136]):=by
 have cl:=unV d h1 hw hm hfew
 refine ua0.isB rfl fun R B hR hB=>qW (sc:=uwv) uaj mix Tryz.func116 rfl Tryz.call116 (by kernel_rfl) (by kernel_rfl) ?_
 generalize Tryz.prog=P at cl⊢
 cbv
 repeat' (first|fail)
 all_goals first|skip
 refine⟨none,[],{i:Nat // i≤d.fs.length∧ubK (fun i=>ufb d (d.fs.getD (i) f0T)) (d.fs.length) 0=ubK (fun i=>ufb d (d.fs.getD (i) f0T)) (d.fs.length-i) i∧∀j,j<i→(ufb d (d.fs.getD (j) f0T))=true},fun x=>⟨[(0,(.sl 6 (.sym fun _=>zi (d.fs).length) (fun ix=>[(iv fun _=>((d.fs).getD ix.den.toNat f0T).p),(iv fun _=>((d.fs).getD ix.den.toNat f0T).s),(iv fun _=>((d.fs).getD ix.den.toNat f0T).wl),(iv fun _=>((d.fs).getD ix.den.toNat f0T).wh),(iv fun _=>((d.fs).getD ix.den.toNat f0T).ml),(iv fun _=>((d.fs).getD ix.den.toNat f0T).mh)]))),(1,.clo 103 [] [.own 0 0]),(7,(iv fun _=>zi (d.fs.length))),(8,(iv fun _=>zi x.1))],[(0,.cells [.clo 95 [(ub5 d)] []] 136)],20⟩,fun x=>d.fs.length-x.1,?_,?_⟩
 ·refine⟨⟨0,by omega,rfl,fun j hj=>by omega⟩,?_⟩
  cbv
  repeat' (first|with_reducible refine ua4 ?_ ?_|with_reducible refine And.intro ?_ ?_)
  all_goals first|trivial|exact qM (qE (by rfl))|exact qM (Fit.refl _)|exact qL (qK _)|skip
 ·rintro ⟨i,hi,hr,hq⟩
  cbv
  repeat' (first
   |with_reducible refine ua4 ?_ ?_
   |with_reducible refine And.intro ?_ ?_
   |(with_reducible intro hcd;(try simp only [zA,zB,zC,zD,zE,zF,zG,zH,zI,zJ,zK,zL,zM,zN,zO,zP]at hcd);try cbv)
   | (refine⟨some [0],?_⟩
      cbv
      refine qQ ?_ (cl i ⟨by(try simp only [qV]at *);simp only [uah]at *;omega,hq⟩) (by cbv;(repeat' (first|exact qB|refine qD ?_ ?_|exact qE (by rfl)|exact qF (by rfl)|exact Fit.refl _|exact qA|refine qC ?_ rfl ?_))) (by cbv;(repeat' (first|exact qH|refine qI ?_ ?_|exact qK _|refine qJ ?_|exact qA|exact qE (by rfl)|exact qF (by rfl)|exact Fit.refl _|exact qG _|refine qC ?_ rfl ?_)))
      try cbv)
   |fail)
  all_goals first|((try simp only [qV]at *);(try simp only [zQ,zA,zB,zC,zD,zE,zF,zG,zH,zI,zJ,zK,zL,zM,zN,zO,zP,zR,zS]at *);first|(refine qN ?_;omega)|(simp only [uam];omega))|(subst hR;(refine qE ?_;simp only [zQ,zA,zB,zC,zD,zE,zF,zG,zH,zI,zJ,zK,zL,zM,zN,zO,zP,zR,zS]at *;rw [hr,ub9 (by omega) hcd]);done)|(subst hR;(refine qE ?_;simp only [zQ,zA,zB,zC,zD,zE,zF,zG,zH,zI,zJ,zK,zL,zM,zN,zO,zP,zR,zS]at *;rw [hr,show d.fs.length-i=0 by omega];rfl);done)|(subst hB;(repeat' (first|exact qH|refine qI ?_ ?_|exact qK _|refine qJ ?_|exact qA|exact qE (by rfl)|exact qF (by rfl)|exact Fit.refl _|exact qG _|refine qC ?_ rfl ?_));done)|((try simp only [zQ,zA,zB,zC,zD,zE,zF,zG,zH,zI,zJ,zK,zL,zM,zN,zO,zP,zR,zS]at *);refine⟨⟨i+1,by omega,by rw [hr,ucn (by omega) hcd];(try congr 1)<;>omega,fun j hj=>(Nat.lt_or_ge j i).elim (hq j) (fun q=>by rw [show j=i by omega];exact hcd)⟩,by simp only [];omega,?_⟩;cbv;(repeat' (first|with_reducible refine ua4 ?_ ?_|with_reducible refine And.intro ?_ ?_));(all_goals first|trivial|exact qM (qE (by rfl))|exact qM (qF (by rfl))|exact qM (Fit.refl _)|exact qL (qK _)|(refine qM (qE ?_);(try simp only [qV]at *);simp only [zQ,zA,zB,zC,zD,zE,zF,zG,zH,zI,zJ,zK,zL,zM,zN,zO,zP,zR,zS]at *;omega)|(refine qL (qJ ?_);(repeat' (first|exact qA|exact qB|refine qC ?_ rfl ?_|refine qD ?_ ?_|exact qE (by rfl)|exact qF (by rfl)|exact Fit.refl _|exact qG _|(refine qE ?_;(try simp only [qV]at *);simp only [zQ,zA,zB,zC,zD,zE,zF,zG,zH,zI,zJ,zK,zL,zM,zN,zO,zP,zR,zS]at *;omega)));done)|skip))|skip
theorem ukC (d:Dsp)(h1:1≤d.sn∧d.sn≤1000∧1≤d.pn∧d.pn≤1000)(hw:1≤d.tw.length∧d.tw.length≤1000)(hm:1≤d.tm.length∧d.tm.length≤1000)(hfew:d.fs.length≤1000):ua0 Tryz.prog 102 [(.sl 6 (.sym fun _=>zi (d.fs).length) (fun ix=>[(iv fun _=>((d.fs).getD ix.den.toNat f0T).p),(iv fun _=>((d.fs).getD ix.den.toNat f0T).s),(iv fun _=>((d.fs).getD ix.den.toNat f0T).wl),(iv fun _=>((d.fs).getD ix.den.toNat f0T).wh),(iv fun _=>((d.fs).getD ix.den.toNat f0T).ml),(iv fun _=>((d.fs).getD ix.den.toNat f0T).mh)])),.clo 103 [] [.own 0 0]] [.cells [.clo 95 [(ub5 d)] []] 136] (fun r bs=>r=(bv fun _=>decide (0≤ubK (fun i=>ufb d (d.fs.getD (i) f0T)) (d.fs.length) 0))∧bs=[.cells [.clo 95 [(ub5 d)] []] 136]):=by
 have ci:=ulv d h1 hw hm hfew
 refine ua0.isB rfl fun R B hR hB=>qW (sc:=uvI) uaj mix Tryz.func102 rfl Tryz.call102 (by kernel_rfl) (by kernel_rfl) ?_
 generalize Tryz.prog=P at ci⊢
 cbv
 repeat' (first
  |with_reducible refine And.intro ?_ ?_
  | (refine⟨some [0],?_⟩
     cbv
     refine qQ ?_ (ci) (by cbv;(repeat' (first|exact qB|refine qD ?_ ?_|exact qE (by rfl)|exact qF (by rfl)|exact Fit.refl _|exact qA|refine qC ?_ rfl ?_))) (by cbv;(repeat' (first|exact qH|refine qI ?_ ?_|exact qK _|refine qJ ?_|exact qA|exact qE (by rfl)|exact qF (by rfl)|exact Fit.refl _|exact qG _|refine qC ?_ rfl ?_)))
     try cbv)
  |fail)
 all_goals first|(subst hR;(repeat' (first|exact qA|exact qB|refine qC ?_ rfl ?_|refine qD ?_ ?_|exact qE (by rfl)|exact qF (by rfl)|exact Fit.refl _|exact qG _|(refine qE ?_;(try simp only [qV]at *);simp only [zQ,zA,zB,zC,zD,zE,zF,zG,zH,zI,zJ,zK,zL,zM,zN,zO,zP,zR,zS]at *;omega)));done)|(subst hB;(repeat' (first|exact qH|refine qI ?_ ?_|exact qK _|refine qJ ?_|exact qA|exact qE (by rfl)|exact qF (by rfl)|exact Fit.refl _|exact qG _|refine qC ?_ rfl ?_));done)|skip
theorem uni (d:Dsp)(h1:1≤d.sn∧d.sn≤1000∧1≤d.pn∧d.pn≤1000)(hw:1≤d.tw.length∧d.tw.length≤1000)(hm:1≤d.tm.length∧d.tm.length≤1000)(hfew:d.fs.length≤1000):ua0 Tryz.prog 74 [(.sl 6 (.sym fun _=>zi (d.fs).length) (fun ix=>[(iv fun _=>((d.fs).getD ix.den.toNat f0T).p),(iv fun _=>((d.fs).getD ix.den.toNat f0T).s),(iv fun _=>((d.fs).getD ix.den.toNat f0T).wl),(iv fun _=>((d.fs).getD ix.den.toNat f0T).wh),(iv fun _=>((d.fs).getD ix.den.toNat f0T).ml),(iv fun _=>((d.fs).getD ix.den.toNat f0T).mh)])),.clo 95 [(ub5 d)] []] [] (fun r _=>r=(bv fun _=>uhl (fun i=>ufb d (d.fs.getD (i) f0T)) (d.fs.length))):=by
 have cc:=ukC d h1 hw hm hfew
 refine ua0.is fun R hR=>qW (sc:=uzx) uaj mix Tryz.func74 rfl Tryz.call74 (by kernel_rfl) (by kernel_rfl) ?_
 generalize Tryz.prog=P at cc⊢
 cbv
 repeat' (first
  | (refine⟨some [0],?_⟩
     cbv
     refine qQ ?_ (cc) (by cbv;(repeat' (first|exact qB|refine qD ?_ ?_|exact qE (by rfl)|exact qF (by rfl)|exact Fit.refl _|exact qA|refine qC ?_ rfl ?_))) (by cbv;(repeat' (first|exact qH|refine qI ?_ ?_|exact qK _|refine qJ ?_|exact qA|exact qE (by rfl)|exact qF (by rfl)|exact Fit.refl _|exact qG _|refine qC ?_ rfl ?_)))
     try cbv)
  |fail)
 all_goals first|(subst hR;(repeat' (first|exact qA|exact qB|refine qC ?_ rfl ?_|refine qD ?_ ?_|exact qE (by rfl)|exact qF (by rfl)|exact Fit.refl _|exact qG _|(refine qE ?_;(try simp only [qV]at *);simp only [zQ,zA,zB,zC,zD,zE,zF,zG,zH,zI,zJ,zK,zL,zM,zN,zO,zP,zR,zS]at *;omega)));done)|skip
theorem ubB (d:Dsp):ua0 Tryz.prog 56 [(ub5 d)] [] (fun r _=>r=(iv fun _=>ua5 d)):=by
 have c48:=uqi d.tw d.tm d.tv
 have cl:=fun h:(1≤d.sn∧d.sn≤1000)∧d.ls.length≤1000=>unw d h.1 h.2
 have cf:=fun h:((1≤d.sn∧d.sn≤1000∧1≤d.pn∧d.pn≤1000)∧ubM d.tw d.tm d.tv=0)∧d.fs.length≤1000=>uni d h.1.1 (by have:=udn h.1.2;have a:=this.w2;have b:=this.w5;omega) (by have:=udn h.1.2;have a:=this.m2;have b:=this.m5;omega) h.2
 refine ua0.is fun R hR=>qW (sc:=uAR) uaj mix Tryz.func56 rfl Tryz.call56 (by kernel_rfl) (by kernel_rfl) ?_
 generalize Tryz.prog=P at c48 cl cf⊢
 cbv
 repeat' (first|with_reducible refine And.intro ?_ ?_|(with_reducible intro hcd;(try simp only [zA,zB,zC,zD,zE,zF,zG,zH,zI,zJ,zK,zL,zM,zN,zO,zP]at hcd);try cbv)|(refine qP ?_ (c48) ?hfit;(case hfit=>((repeat' (first|exact qB|refine qD ?_ ?_|exact qE (by rfl)|exact qF (by rfl)|exact Fit.refl _|exact qA|refine qC ?_ rfl ?_));done));try cbv)|(refine qP ?_ (cl (show uam _ from ?_)) ?hfit;(case hfit=>((repeat' (first|exact qB|refine qD ?_ ?_|exact qE (by rfl)|exact qF (by rfl)|exact Fit.refl _|exact qA|refine qC ?_ rfl ?_));done));try cbv)|(refine qP ?_ (cf (show uam _ from ?_)) ?hfit;(case hfit=>((repeat' (first|exact qB|refine qD ?_ ?_|exact qE (by rfl)|exact qF (by rfl)|exact Fit.refl _|exact qA|refine qC ?_ rfl ?_));done));try cbv)|fail)
 all_goals first|((try simp only [qV]at *);(try simp only [zQ,zA,zB,zC,zD,zE,zF,zG,zH,zI,zJ,zK,zL,zM,zN,zO,zP,zR,zS,uag,uai,uax,uaO,uaK,uaN,ua9,uaa,ua8,uab]at *);first|(refine qN ?_;omega)|(simp only [uam];omega))|(subst hR;(refine qE ?_;(try simp only [qV]at *);(try simp only [zQ,zA,zB,zC,zD,zE,zF,zG,zH,zI,zJ,zK,zL,zM,zN,zO,zP,zR,zS]at *);exact(ugq (by first|assumption|omega)).symm);done)|(subst hR;(refine qE ?_;(try simp only [qV]at *);(try simp only [zQ,zA,zB,zC,zD,zE,zF,zG,zH,zI,zJ,zK,zL,zM,zN,zO,zP,zR,zS]at *);exact(ufO (by first|assumption|omega) (by unfold uew;omega)).symm);done)|(subst hR;(refine qE ?_;(try simp only [qV]at *);(try simp only [zQ,zA,zB,zC,zD,zE,zF,zG,zH,zI,zJ,zK,zL,zM,zN,zO,zP,zR,zS]at *);exact(ueV (by first|assumption|omega) (by unfold uew;omega) (fun g=>by have a1:=g.1;have a2:=g.2.1;have a3:=g.2.2.1;have a4:=g.2.2.2;first|omega|(simp_all;done))).symm);done)|(subst hR;(refine qE ?_;(try simp only [qV]at *);(try simp only [zQ,zA,zB,zC,zD,zE,zF,zG,zH,zI,zJ,zK,zL,zM,zN,zO,zP,zR,zS]at *);exact(ugm (by first|assumption|omega) (by unfold uew;omega) ⟨by omega,by omega,by(first|assumption|(simp_all;done)),by(first|assumption|(simp_all;done))⟩).symm);done)|skip
end Go.Proofs.YtkdggbfknlcdaaaGreat

namespace Go.Proofs.YtkdggbfknlcdaaaGreat
open Go Go.Eng Go.Proofs
set_option maxRecDepth 10000
theorem uer :umZ Tryz.prog 90 106 59:=by
 show Tryz.prog.underlying 90=some (.map 106 59)
 kernel_rfl
theorem uur :ulq Tryz.prog 106 false 6:=(utQ (by kernel_rfl)).1
def kLo (d:Dsp)(ks:List Int):Int:=bLo d.tw d.tm d.tv (ks.getD 2 0) (ks.getD 3 0) (ks.getD 4 0) (ks.getD 5 0)
def kHi (d:Dsp)(ks:List Int):Int:=bHi d.tw d.tm d.tv (ks.getD 2 0) (ks.getD 3 0) (ks.getD 4 0) (ks.getD 5 0)
theorem ucB (d:Dsp):ua0 Tryz.prog 62 [(ub5 d)] [] (fun r _=>r=(.pp 0 [(iS d.tw),(iS d.tm),(.sl 1 (.sym fun _=>zi (d.tv).length) (fun ix=>[(.sl 1 (.sym fun _=>zi ((d.tv).getD ix.den.toNat []).length) (fun jx=>[(iv fun _=>((d.tv).getD ix.den.toNat []).getD jx.den.toNat 0)]))])),(iv fun _=>d.sn),(iv fun _=>d.pn),(.sl 4 (.sym fun _=>zi (d.ls).length) (fun ix=>[(iv fun _=>((d.ls).getD ix.den.toNat l0T).a),(iv fun _=>((d.ls).getD ix.den.toNat l0T).b),(iv fun _=>((d.ls).getD ix.den.toNat l0T).lo),(iv fun _=>((d.ls).getD ix.den.toNat l0T).hi)])),(.sl 6 (.sym fun _=>zi (d.fs).length) (fun ix=>[(iv fun _=>((d.fs).getD ix.den.toNat f0T).p),(iv fun _=>((d.fs).getD ix.den.toNat f0T).s),(iv fun _=>((d.fs).getD ix.den.toNat f0T).wl),(iv fun _=>((d.fs).getD ix.den.toNat f0T).wh),(iv fun _=>((d.fs).getD ix.den.toNat f0T).ml),(iv fun _=>((d.fs).getD ix.den.toNat f0T).mh)])),(.memo 106 59 false 6 (fun ks=>.agg [(iv fun _=>kLo d ks),(iv fun _=>kHi d ks)]))])):=by
 have hmt:=uer
 refine ua0.is fun R hR=>qW (sc:=uzo) uaj mix Tryz.func62 rfl Tryz.call62 (by kernel_rfl) (by kernel_rfl) ?_
 generalize Tryz.prog=P at hmt⊢
 cbv
 repeat' (first
  | (refine⟨106,59,false,6,?_⟩
     cbv
     refine ua4 ⟨hmt,fun h=>by cases h⟩ ?_
     refine Or.inr ⟨(fun ks=>.agg [(iv fun _=>kLo d ks),(iv fun _=>kHi d ks)]),?_⟩
     cbv)
  |fail)
 all_goals first|(subst hR;(repeat' (first|exact qA|exact qB|refine qC ?_ rfl ?_|refine qD ?_ ?_|exact qE (by rfl)|exact qF (by rfl)|exact Fit.refl _|exact qG _|(refine qE ?_;(try simp only [qV]at *);simp only [zQ,zA,zB,zC,zD,zE,zF,zG,zH,zI,zJ,zK,zL,zM,zN,zO,zP,zR,zS]at *;omega)));done)|skip
theorem upc (d:Dsp)(f:FaT)(hT:TOk d.tw d.tm d.tv)(hf:uca d f):ua0 Tryz.prog 76 [(.pp 0 [(iS d.tw),(iS d.tm),(.sl 1 (.sym fun _=>zi (d.tv).length) (fun ix=>[(.sl 1 (.sym fun _=>zi ((d.tv).getD ix.den.toNat []).length) (fun jx=>[(iv fun _=>((d.tv).getD ix.den.toNat []).getD jx.den.toNat 0)]))])),(iv fun _=>d.sn),(iv fun _=>d.pn),(.sl 4 (.sym fun _=>zi (d.ls).length) (fun ix=>[(iv fun _=>((d.ls).getD ix.den.toNat l0T).a),(iv fun _=>((d.ls).getD ix.den.toNat l0T).b),(iv fun _=>((d.ls).getD ix.den.toNat l0T).lo),(iv fun _=>((d.ls).getD ix.den.toNat l0T).hi)])),(.sl 6 (.sym fun _=>zi (d.fs).length) (fun ix=>[(iv fun _=>((d.fs).getD ix.den.toNat f0T).p),(iv fun _=>((d.fs).getD ix.den.toNat f0T).s),(iv fun _=>((d.fs).getD ix.den.toNat f0T).wl),(iv fun _=>((d.fs).getD ix.den.toNat f0T).wh),(iv fun _=>((d.fs).getD ix.den.toNat f0T).ml),(iv fun _=>((d.fs).getD ix.den.toNat f0T).mh)])),(.memo 106 59 false 6 (fun ks=>.agg [(iv fun _=>kLo d ks),(iv fun _=>kHi d ks)]))]),(.agg [(iv fun _=>f.p),(iv fun _=>f.s),(iv fun _=>f.wl),(iv fun _=>f.wh),(iv fun _=>f.ml),(iv fun _=>f.mh)])] [] (fun r _=>r=(.agg [(iv fun _=>mLo d f),(iv fun _=>mHi d f)])):=by
 have hmt:=uer
 have hko:=uur
 have c73:=uq8 d.tw d.tm d.tv f.wl f.wh f.ml f.mh ⟨hT,uin hf⟩
 refine ua0.is fun R hR=>qW (sc:=uB4) uaj mix Tryz.func76 rfl Tryz.call76 (by kernel_rfl) (by kernel_rfl) ?_
 generalize Tryz.prog=P at hmt hko c73⊢
 cbv
 repeat' (first|with_reducible refine ua4 ?_ ?_|with_reducible refine And.intro ?_ ?_|(refine qP ?_ (c73) ?hfit;(case hfit=>((repeat' (first|exact qB|refine qD ?_ ?_|exact qE (by rfl)|exact qF (by rfl)|exact Fit.refl _|exact qA|refine qC ?_ rfl ?_));done));try cbv)|fail)
 all_goals first|trivial|(subst hR;(repeat' (first|exact qA|exact qB|refine qC ?_ rfl ?_|refine qD ?_ ?_|exact qE (by rfl)|exact qF (by rfl)|exact Fit.refl _|exact qG _|(refine qE ?_;(try simp only [qV]at *);simp only [zQ,zA,zB,zC,zD,zE,zF,zG,zH,zI,zJ,zK,zL,zM,zN,zO,zP,zR,zS]at *;omega)));done)|(unfold uam;exact⟨rfl,rfl,hmt,hko,⟨rfl,rfl,trivial⟩,Fit.le (qC (qE rfl) rfl (qC (qE rfl) rfl qA))⟩)|skip
end Go.Proofs.YtkdggbfknlcdaaaGreat
namespace Go.Proofs.YtkdggbfknlcdaaaGreat
open Go Go.Eng Go.Proofs
abbrev wpS (d:Dsp):SV:=(.pp 0 [(iS d.tw),(iS d.tm),(.sl 1 (.sym fun _=>zi (d.tv).length) (fun ix=>[(.sl 1 (.sym fun _=>zi ((d.tv).getD ix.den.toNat []).length) (fun jx=>[(iv fun _=>((d.tv).getD ix.den.toNat []).getD jx.den.toNat 0)]))])),(iv fun _=>d.sn),(iv fun _=>d.pn),(.sl 4 (.sym fun _=>zi (d.ls).length) (fun ix=>[(iv fun _=>((d.ls).getD ix.den.toNat l0T).a),(iv fun _=>((d.ls).getD ix.den.toNat l0T).b),(iv fun _=>((d.ls).getD ix.den.toNat l0T).lo),(iv fun _=>((d.ls).getD ix.den.toNat l0T).hi)])),(.sl 6 (.sym fun _=>zi (d.fs).length) (fun ix=>[(iv fun _=>((d.fs).getD ix.den.toNat f0T).p),(iv fun _=>((d.fs).getD ix.den.toNat f0T).s),(iv fun _=>((d.fs).getD ix.den.toNat f0T).wl),(iv fun _=>((d.fs).getD ix.den.toNat f0T).wh),(iv fun _=>((d.fs).getD ix.den.toNat f0T).ml),(iv fun _=>((d.fs).getD ix.den.toNat f0T).mh)])),(.memo 106 59 false 6 (fun ks=>.agg [(iv fun _=>kLo d ks),(iv fun _=>kHi d ks)]))])
end Go.Proofs.YtkdggbfknlcdaaaGreat

namespace Go.Proofs.YtkdggbfknlcdaaaGreat
open Go Go.Eng Go.Proofs Go.Eng.Dif Go.Eng.Few
set_option maxRecDepth 10000
theorem utv (o:List Int)(v:Int)(hfew:o.length≤1000):ua0 Tryz.prog 90 [(iS o),(iv fun _=>v)] [] (fun r _=>r=(iv fun _=>ubK (fun j=> !(decide (o.getD j 0=v))) o.length 0)):=by
 refine ua0.is fun R hR=>qW (sc:=uA4) uaj mix Tryz.func90 rfl Tryz.call90 (by kernel_rfl) (by kernel_rfl) ?_
 generalize Tryz.prog=P
 cbv
 repeat' (first|fail)
 all_goals first|skip
 refine⟨none,[],{i:Nat // i≤o.length∧ubK (fun j=> !(decide (o.getD j 0=v))) o.length 0=ubK (fun j=> !(decide (o.getD j 0=v))) (o.length-i) i},fun x=>⟨[(0,(iS o)),(1,(iv fun _=>v)),(7,(iv fun _=>zi o.length)),(8,(iv fun _=>zi x.1))],[],20⟩,fun x=>o.length-x.1,?_,?_⟩
 ·refine⟨⟨0,by omega,rfl⟩,?_⟩
  cbv
  repeat' (first|with_reducible refine ua4 ?_ ?_|with_reducible refine And.intro ?_ ?_)
  all_goals first|trivial|exact qM (qE (by rfl))|exact qM (Fit.refl _)|skip
 ·rintro⟨i,hi,hr⟩
  cbv
  repeat' (first|with_reducible refine ua4 ?_ ?_|with_reducible refine And.intro ?_ ?_|(with_reducible intro hcd;(try simp only [zA,zB,zC,zD,zE,zF,zG,zH,zI,zJ,zK,zL,zM,zN,zO,zP]at hcd);try cbv)|fail)
  all_goals first|((try simp only [qV]at *);(try simp only [zQ,zA,zB,zC,zD,zE,zF,zG,zH,zI,zJ,zK,zL,zM,zN,zO,zP,zR,zS]at *);first|(refine qN ?_;omega)|(simp only [uam];omega))|(subst hR;(refine qE ?_;(try simp only [qV]at *);(try simp only [zQ,zA,zB,zC,zD,zE,zF,zG,zH,zI,zJ,zK,zL,zM,zN,zO,zP,zR,zS]at *);rw [hr,ub9 (by omega) (by simp only [Bool.not_eq_false',decide_eq_true_eq];omega)]);done)|(subst hR;(refine qE ?_;(try simp only [qV]at *);(try simp only [zQ,zA,zB,zC,zD,zE,zF,zG,zH,zI,zJ,zK,zL,zM,zN,zO,zP,zR,zS]at *);rw [hr,show o.length-i=0 by omega];rfl);done)|((try simp only [zQ,zA,zB,zC,zD,zE,zF,zG,zH,zI,zJ,zK,zL,zM,zN,zO,zP,zR,zS]at *);refine⟨⟨i+1,by omega,by rw [hr,ucn (by omega) (by simp only [Bool.not_eq_true',decide_eq_false_iff_not];omega)];(try congr 1)<;>omega⟩,by simp only [];omega,?_⟩;cbv;(repeat' (first|with_reducible refine ua4 ?_ ?_|with_reducible refine And.intro ?_ ?_));(all_goals first|trivial|exact qM (qE (by rfl))|exact qM (qF (by rfl))|exact qM (Fit.refl _)|exact qL (qK _)|(refine qM (qE ?_);(try simp only [qV]at *);simp only [zQ,zA,zB,zC,zD,zE,zF,zG,zH,zI,zJ,zK,zL,zM,zN,zO,zP,zR,zS]at *;omega)|skip))|skip
theorem ufD (o:List Int)(v:Int)(hfew:o.length≤1000):ua0 Tryz.prog 53 [(iS o),(iv fun _=>v)] [] (fun r _=>r=(bv fun _=>inL o v)):=by
 have c95:=utv o v hfew
 refine ua0.is fun R hR=>qW (sc:=uzW) uaj mix Tryz.func53 rfl Tryz.call53 (by kernel_rfl) (by kernel_rfl) ?_
 generalize Tryz.prog=P at c95⊢
 cbv
 repeat' (first|(refine qP ?_ (c95) ?hfit;(case hfit=>((repeat' (first|exact qB|refine qD ?_ ?_|exact qE (by rfl)|exact qF (by rfl)|exact Fit.refl _|exact qA|refine qC ?_ rfl ?_));done));try cbv)|fail)
 all_goals first|(subst hR;(repeat' (first|exact qA|exact qB|refine qC ?_ rfl ?_|refine qD ?_ ?_|exact qE (by rfl)|exact qF (by rfl)|exact Fit.refl _|exact qG _|(refine qE ?_;(try simp only [qV]at *);simp only [zQ,zA,zB,zC,zD,zE,zF,zG,zH,zI,zJ,zK,zL,zM,zN,zO,zP,zR,zS]at *;omega)));done)|skip
theorem uo3 (a b:Int):ua0 Tryz.prog 121 [(.sl 1 (.lit 2) (fun ix=>ucq [(iv fun _=>a),(iv fun _=>b)] (0+ix.den.toNat*1) 1))] [] (fun r _=>r=(iv fun _=>min a b)):=by
 have c119:= @ut1
 refine ua0.is fun R hR=>qW (sc:=uzj) uaj mix Tryz.func121 rfl Tryz.call121 (by kernel_rfl) (by kernel_rfl) ?_
 generalize Tryz.prog=P at c119⊢
 cbv
 repeat' (first|(refine qP ?_ (c119 _ _) (by(repeat' (first|exact qB|refine qD ?_ ?_|exact qE (by rfl)|exact qF (by rfl)|exact Fit.refl _|exact qA|refine qC ?_ rfl ?_)));try cbv)|fail)
 all_goals first|(subst hR;(repeat' (first|exact qA|exact qB|refine qC ?_ rfl ?_|refine qD ?_ ?_|exact qE (by rfl)|exact qF (by rfl)|exact Fit.refl _|exact qG _|(refine qE ?_;(try simp only [qV]at *);simp only [zQ,zA,zB,zC,zD,zE,zF,zG,zH,zI,zJ,zK,zL,zM,zN,zO,zP,zR,zS]at *;omega)));done)|skip
theorem up1 (M:Nat→Int)(f t n:Int)(hf:0≤f∧f<4)(ht:0≤t∧t<4):ua0 Tryz.prog 105 [.own 0 0,(iv fun _=>f),(iv fun _=>t),(iv fun _=>n)] [.cells [(.arr 16 (fun ix=>(iv fun _=>M ix.den.toNat)))] 95] (fun r bs=>r = .tup []∧bs=[.cells [(.arr 16 (fun ix=>(iv fun _=>(lst M (at4 f.toNat t.toNat) n) ix.den.toNat)))] 95]):=by
 have c114:= @uo3
 refine ua0.isB rfl fun R B hR hB=>qW (sc:=uyo) uaj mix Tryz.func105 rfl Tryz.call105 (by kernel_rfl) (by kernel_rfl) ?_
 generalize Tryz.prog=P at c114⊢
 cbv
 repeat' (first
  |with_reducible refine ua4 ?_ ?_
  |with_reducible refine And.intro ?_ ?_
  | (refine⟨fun ix=>(iv fun _=>lst M (at4 f.toNat t.toNat) n ix.den.toNat),?_⟩
     cbv
     refine ua4 (ugU (by intro jx h0 h1 h2;refine qE ?_;(try simp only [qV]at *);(try simp only [zQ,zA,zB,zC,zD,zE,zF,zG,zH,zI,zJ,zK,zL,zM,zN,zO,zP,zR,zS]at *);exact uuk (M:=M) (by unfold at4;omega) (by unfold at4;omega)) (by intro jx h0 h1 h2;refine qE ?_;(try simp only [qV]at *);(try simp only [zQ,zA,zB,zC,zD,zE,zF,zG,zH,zI,zJ,zK,zL,zM,zN,zO,zP,zR,zS]at *);exact uuO (by unfold at4;omega))) ?_
     try cbv)
  | ((first|(refine qR ?_ (c114 _ _) rfl (by cbv;(repeat' (first|exact qB|refine qD ?_ ?_|exact qE (by rfl)|exact qF (by rfl)|exact Fit.refl _|exact qA|refine qC ?_ rfl ?_))))|(refine⟨none,?_⟩;refine qR ?_ (c114 _ _) rfl (by cbv;(repeat' (first|exact qB|refine qD ?_ ?_|exact qE (by rfl)|exact qF (by rfl)|exact Fit.refl _|exact qA|refine qC ?_ rfl ?_)))))
     try cbv)
  |fail)
 all_goals first|trivial|(subst hR;exact Fit.refl _;done)|(subst hB;(repeat' (first|exact qH|refine qI ?_ ?_|exact qK _|refine qJ ?_|exact qA|exact qE (by rfl)|exact qF (by rfl)|exact Fit.refl _|exact qG _|refine qC ?_ rfl ?_));done)|skip
theorem urL {M:Nat→Int}(hM:∀i,i<16→ -1000000≤M i∧M i≤1000000) {i:Nat}(hi:i<16):uam (inR .i64 (uth (IX.lit 0).den (IX.sym fun _=>M i).den)):=by
 have:=hM i hi
 refine qN ?_
 simp only [zQ,zA,zB,zC,zD,zE,zF,zG,zH,zI,zJ,zK,zL,zM,zN,zO,zP,zR,zS]
 omega
theorem uwu {M:Nat→Int} {a b:Nat}(h:a=b):0-M a = -M b:=by subst h;exact Int.zero_sub _
theorem uyg {M:Nat→Int} {a b:Nat}(h:a=b):M a=M b:=by subst h;rfl
theorem uv7 (M:Nat→Int)(f t:Nat)(lo hi:Int)(i:Nat):lst (lst M (at4 f t) hi) (at4 t f) (0-lo) i=ugd M ⟨f,t,lo,hi⟩ i:=by
 rw [Int.zero_sub];rfl
theorem ugH (M:Nat→Int)(f t lo hi:Int)(hf:0≤f∧f<4)(ht:0≤t∧t<4)(hb: -1000000≤lo∧lo≤1000000):ua0 Tryz.prog 77 [.own 0 0,(iv fun _=>f),(iv fun _=>t),(.agg [(iv fun _=>lo),(iv fun _=>hi)])] [.cells [(.arr 16 (fun ix=>(iv fun _=>M ix.den.toNat)))] 95] (fun r bs=>r = .tup []∧bs=[.cells [(.arr 16 (fun ix=>(iv fun _=>(ugd M ⟨f.toNat,t.toNat,lo,hi⟩) ix.den.toNat)))] 95]):=by
 have c98:= @up1
 refine ua0.isB rfl fun R B hR hB=>qW (sc:=uAl) uaj mix Tryz.func77 rfl Tryz.call77 (by kernel_rfl) (by kernel_rfl) ?_
 generalize Tryz.prog=P at c98⊢
 cbv
 repeat' (first
  |with_reducible refine ua4 ?_ ?_
  |with_reducible refine And.intro ?_ ?_
  | (refine⟨some [0],?_⟩
     cbv
     refine qQ ?_ (c98 M f t hi hf ht) ?hfit ?hbo
     case hfit=>(cbv;(repeat' (first|exact qB|refine qD ?_ ?_|exact qE (by rfl)|exact qF (by rfl)|exact Fit.refl _|exact qA|refine qC ?_ rfl ?_));done)
     case hbo=>(cbv;(repeat' (first|exact qH|refine qI ?_ ?_|exact qK _|refine qJ ?_|exact qA|exact qE (by rfl)|exact qF (by rfl)|exact Fit.refl _|exact qG _|refine qC ?_ rfl ?_));done)
     try cbv)
  | (refine⟨some [0],?_⟩
     cbv
     refine qQ ?_ (c98 (lst M (at4 f.toNat t.toNat) (hi)) t f (0-lo) ht hf) ?hfit ?hbo
     case hfit=>(cbv;(repeat' (first|exact qB|refine qD ?_ ?_|exact qE (by rfl)|exact qF (by rfl)|exact Fit.refl _|exact qA|refine qC ?_ rfl ?_));done)
     case hbo=>(cbv;(repeat' (first|exact qH|refine qI ?_ ?_|exact qK _|refine qJ ?_|exact qA|exact qE (by rfl)|exact qF (by rfl)|exact Fit.refl _|exact qG _|refine qC ?_ rfl ?_));done)
     try cbv)
  |fail)
 all_goals first|((try simp only [qV]at *);(try simp only [zQ,zA,zB,zC,zD,zE,zF,zG,zH,zI,zJ,zK,zL,zM,zN,zO,zP,zR,zS]at *);first|(refine qN ?_;omega)|(simp only [uam];omega))|(subst hR;exact Fit.refl _;done)|(subst hB;exact qI (qJ (ub1 (fun ix h0 h1=>qE (uv7 _ _ _ _ _ _)) qA)) qH)|skip
theorem uep (M:Nat→Int)(s:Int)(hs:0≤s∧s<3)(hM:∀i,i<16→ -1000000≤M i∧M i≤1000000):ua0 Tryz.prog 63 [.own 0 0,(iv fun _=>s)] [.cells [(.arr 16 (fun ix=>(iv fun _=>M ix.den.toNat)))] 95] (fun r bs=>r=(.agg [(iv fun _=> -M (at4 (s.toNat+1) 0)),(iv fun _=>M (at4 0 (s.toNat+1)))])∧bs=[.cells [(.arr 16 (fun ix=>(iv fun _=>M ix.den.toNat)))] 95]):=by
 refine ua0.isB rfl fun R B hR hB=>qW (sc:=uBc) uaj mix Tryz.func63 rfl Tryz.call63 (by kernel_rfl) (by kernel_rfl) ?_
 generalize Tryz.prog=P
 cbv
 repeat' (first|with_reducible refine ua4 ?_ ?_|with_reducible refine And.intro ?_ ?_|fail)
 all_goals first|trivial|((try simp only [qV]at *);(try simp only [zQ,zA,zB,zC,zD,zE,zF,zG,zH,zI,zJ,zK,zL,zM,zN,zO,zP,zR,zS]at *);first|(refine qN ?_;omega)|(simp only [uam];omega))|(subst hR;(refine qC (qE ?_) rfl (qC (qE ?_) rfl qA)<;>((try simp only [qV]at *);(try simp only [zQ,zA,zB,zC,zD,zE,zF,zG,zH,zI,zJ,zK,zL,zM,zN,zO,zP,zR,zS]at *);first|exact uwu (by unfold at4;omega)|exact uyg (by unfold at4;omega)));done)|(subst hB;(repeat' (first|exact qH|refine qI ?_ ?_|exact qK _|refine qJ ?_|exact qA|exact qE (by rfl)|exact qF (by rfl)|exact Fit.refl _|exact qG _|refine qC ?_ rfl ?_));done)|(refine urL hM ?_;(try simp only [qV]at *);(try simp only [zQ,zA,zB,zC,zD,zE,zF,zG,zH,zI,zJ,zK,zL,zM,zN,zO,zP,zR,zS]at *);omega)|skip
end Go.Proofs.YtkdggbfknlcdaaaGreat

namespace Go.Proofs.YtkdggbfknlcdaaaGreat
open Go Go.Eng Go.Proofs Go.Eng.Dif Go.Eng.Few
set_option maxRecDepth 10000
theorem uty :uoc Tryz.prog 95 16:=urq (e:=93) (g:=3) (n:=4) (m:=4) (by kernel_rfl)
theorem uy2 {v:Nat} {Y:Nat→Int} {f t a b i:Nat}(ht:t<4)(ha:a=at4 f v)(hb:b=at4 v t):lst (phN v Y (f*4+t)) (at4 f t) (phN v Y (f*4+t) a+phN v Y (f*4+t) b) i=phN v Y (f*4+(t+1)) i:=by
 subst ha
 subst hb
 have e:phN v Y (f*4+(t+1))=stp v (phN v Y (f*4+t)) (f*4+t):=rfl
 rw [e]
 unfold stp
 rw [show(f*4+t)/4=f by omega,show(f*4+t)%4=t by omega]
 rfl
theorem uvz {v:Nat} {Y:Nat→Int} {f t i:Nat}(h:t=4):phN v Y (f*4+t) i=phN v Y ((f+1)*4) i:=by
 subst h
 rw [show f*4+4=(f+1)*4 by omega]
theorem uwm {v:Nat} {X:Nat→Int} {f i:Nat}(h:f=4):phN v (fwN X v) (f*4) i=fwN X (v+1) i:=by subst h;rfl
theorem uvM {M:Nat→Int} {n v i:Nat}(h:v=4):fwN (fwP M n) v i=fwP M (n+1) i:=by subst h;rfl
theorem utM {M:Nat→Int} {n i:Nat}(h:n=4):fwP M n i=clo M i:=by subst h;rfl
theorem uv6 {M:Nat→Int} {n v:Nat}(hn:n<4)(hv:v=4)(h:uks (fwN (fwP M n) v) (fwP M n)) {i:Nat}(hi:i<16):fwN (fwP M n) v i=clo M i:=by
 subst hv
 have h':uks (fwP M (n+1)) (fwP M n):=h
 have:=urx h' (3-n) i hi
 rw [show n+1+(3-n)=4 by omega]at this
 exact this.symm
theorem uqY {P:Nat→Int}(hP:∀i,i<16→ -5642219814912000≤P i∧P i≤2000) {a b:Nat}(ha:a<16)(hb:b<16):uam (inR .i64 (uv3 (IX.sym fun _=>P a).den (IX.sym fun _=>P b).den)):=by
 have h1:=hP a ha
 have h2:=hP b hb
 refine qN ?_
 simp only [zQ,zA,zB,zC,zD,zE,zF,zG,zH,zI,zJ,zK,zL,zM,zN,zO,zP,zR,zS]
 omega
theorem uuj {A B:Nat→Int}(h:decide (ubd [IX.sym fun _=>A 0,IX.sym fun _=>A 1,IX.sym fun _=>A 2,IX.sym fun _=>A 3,IX.sym fun _=>A 4,IX.sym fun _=>A 5,IX.sym fun _=>A 6,IX.sym fun _=>A 7,IX.sym fun _=>A 8,IX.sym fun _=>A 9,IX.sym fun _=>A 10,IX.sym fun _=>A 11,IX.sym fun _=>A 12,IX.sym fun _=>A 13,IX.sym fun _=>A 14,IX.sym fun _=>A 15]=ubd [IX.sym fun _=>B 0,IX.sym fun _=>B 1,IX.sym fun _=>B 2,IX.sym fun _=>B 3,IX.sym fun _=>B 4,IX.sym fun _=>B 5,IX.sym fun _=>B 6,IX.sym fun _=>B 7,IX.sym fun _=>B 8,IX.sym fun _=>B 9,IX.sym fun _=>B 10,IX.sym fun _=>B 11,IX.sym fun _=>B 12,IX.sym fun _=>B 13,IX.sym fun _=>B 14,IX.sym fun _=>B 15])=true):uks A B:=by
 have e:=of_decide_eq_true h
 simp only [ubd,List.map_cons,List.map_nil,ub6,List.cons.injEq,and_true]at e
 intro i hi
 rcases(show i=0∨i=1∨i=2∨i=3∨i=4∨i=5∨i=6∨i=7∨i=8∨i=9∨i=10∨i=11∨i=12∨i=13∨i=14∨i=15 by omega)with q|q|q|q|q|q|q|q|q|q|q|q|q|q|q|q<;>subst q
 ·exact e.1
 ·exact e.2.1
 ·exact e.2.2.1
 ·exact e.2.2.2.1
 ·exact e.2.2.2.2.1
 ·exact e.2.2.2.2.2.1
 ·exact e.2.2.2.2.2.2.1
 ·exact e.2.2.2.2.2.2.2.1
 ·exact e.2.2.2.2.2.2.2.2.1
 ·exact e.2.2.2.2.2.2.2.2.2.1
 ·exact e.2.2.2.2.2.2.2.2.2.2.1
 ·exact e.2.2.2.2.2.2.2.2.2.2.2.1
 ·exact e.2.2.2.2.2.2.2.2.2.2.2.2.1
 ·exact e.2.2.2.2.2.2.2.2.2.2.2.2.2.1
 ·exact e.2.2.2.2.2.2.2.2.2.2.2.2.2.2.1
 ·exact e.2.2.2.2.2.2.2.2.2.2.2.2.2.2.2
theorem ut9 {M:Nat→Int} {a b:Nat}(q:¬M a<0)(h:a=b):0≤M b:=by subst h;omega
theorem utm {M:Nat→Int} {n a:Nat}(h:M a<0)(ha:a=at4 n n)(hn:n<4):false=okD M:=by
 subst ha
 symm
 rw [Bool.eq_false_iff]
 intro q
 have:=ufK.1 q n hn
 omega
theorem upQ {M:Nat→Int} {n:Nat}(hn:n=4)(h:∀j,j<n→0≤M (at4 j j)):true=okD M:=by
 subst hn
 exact(ufK.2 h).symm
set_option maxHeartbeats 2000000 in
theorem ul1 (M:Nat→Int)(h1:∀i,i<16→ -2000≤M i)(h2:∀i,i<16→M i≤2000):ua0 Tryz.prog 78 [.own 0 0] [.cells [(.arr 16 (fun ix=>(iv fun _=>M ix.den.toNat)))] 95] (fun r bs=>r=(bv fun _=>okD (clo M))∧bs=[.cells [(.arr 16 (fun ix=>(iv fun _=>(clo M) ix.den.toNat)))] 95]):=by
 have he:=uty
 have c98:= @up1
 refine ua0.isB rfl fun R B hR hB=>qW (sc:=uBd) uaj mix Tryz.func78 rfl Tryz.call78 (by kernel_rfl) (by kernel_rfl) ?_
 generalize Tryz.prog=P at he c98⊢
 cbv
 repeat' (first|fail)
 all_goals first|skip
 refine⟨none,[],{n:Nat // n≤4},fun x=>⟨[(0,.own 0 0),(8,(iv fun _=>zi x.1))],[(0,.cells [(.arr 16 (fun ix=>(iv fun _=>(fwP M x.1) ix.den.toNat)))] 95)],60⟩,fun x=>4-x.1,?_,?_⟩
 ·refine⟨⟨0,by omega⟩,?_⟩
  cbv
  repeat' (first|with_reducible refine ua4 ?_ ?_|with_reducible refine And.intro ?_ ?_)
  all_goals first|trivial|exact qM (qE (by rfl))|exact qM (Fit.refl _)|exact qL (qK _)|skip
 ·rintro ⟨n, hn⟩
  cbv
  repeat' (first|with_reducible refine And.intro ?_ ?_|(with_reducible intro hcd;(try simp only [zA,zB,zC,zD,zE,zF,zG,zH,zI,zJ,zK,zL,zM,zN,zO,zP]at hcd);try cbv)|fail)
  all_goals first|skip
  refine⟨none,[],{v:Nat // v≤4},fun x=>⟨[(0,.own 0 0),(8,(iv fun _=>zi n)),(3,.own 64 0),(13,(iv fun _=>zi x.1))],[(0,.cells [(.arr 16 (fun ix=>(iv fun _=>(fwN (fwP M n) x.1) ix.den.toNat)))] 95),(64,.cells [(.arr 16 (fun ix=>(iv fun _=>(fwP M n) ix.den.toNat)))] 95)],200⟩,fun x=>4-x.1,?_,?_⟩
  ·refine⟨⟨0,by omega⟩,?_⟩
   cbv
   repeat' (first|with_reducible refine ua4 ?_ ?_|with_reducible refine And.intro ?_ ?_)
   all_goals first|trivial|exact qM (qE (by rfl))|exact qM (Fit.refl _)|exact qL (qK _)|skip
  ·rintro ⟨v, hv⟩
   cbv
   repeat' (first|with_reducible refine ua4 ?_ ?_|with_reducible refine And.intro ?_ ?_|(with_reducible intro hcd;(try simp only [zA,zB,zC,zD,zE,zF,zG,zH,zI,zJ,zK,zL,zM,zN,zO,zP]at hcd);try cbv)|fail)
   all_goals first|trivial|((try simp only [qV]at *);(try simp only [zQ,zA,zB,zC,zD,zE,zF,zG,zH,zI,zJ,zK,zL,zM,zN,zO,zP,zR,zS]at *);first|(refine qN ?_;omega)|(simp only [uam];omega))|((try simp only [zQ,zA,zB,zC,zD,zE,zF,zG,zH,zI,zJ,zK,zL,zM,zN,zO,zP,zR,zS]at *);refine⟨⟨n+1,by omega⟩,by simp only [];omega,?_⟩;cbv;(repeat' (first|with_reducible refine ua4 ?_ ?_|with_reducible refine And.intro ?_ ?_));(all_goals first|trivial|exact qM (qE (by rfl))|exact qM (qF (by rfl))|exact qM (Fit.refl _)|exact qL (qK _)|(refine qM (qE ?_);(try simp only [qV]at *);simp only [zQ,zA,zB,zC,zD,zE,zF,zG,zH,zI,zJ,zK,zL,zM,zN,zO,zP,zR,zS]at *;omega)|(refine qL (qJ (ub1 (fun ix h0 h1=>qE (uvM (by((try simp only [qV]at *);(try simp only [zQ,zA,zB,zC,zD,zE,zF,zG,zH,zI,zJ,zK,zL,zM,zN,zO,zP,zR,zS]at *);omega)))) qA)))|skip))|skip
   refine⟨none,[],{f:Nat // f≤4},fun x=>⟨[(0,.own 0 0),(8,(iv fun _=>zi n)),(3,.own 64 0),(13,(iv fun _=>zi v)),(4,(iv fun _=>zi v)),(16,(iv fun _=>zi x.1))],[(0,.cells [(.arr 16 (fun ix=>(iv fun _=>(phN v (fwN (fwP M n) v) (x.1*4)) ix.den.toNat)))] 95),(64,.cells [(.arr 16 (fun ix=>(iv fun _=>(fwP M n) ix.den.toNat)))] 95)],300⟩,fun x=>4-x.1,?_,?_⟩
   ·refine⟨⟨0,by omega⟩,?_⟩
    cbv
    repeat' (first|with_reducible refine ua4 ?_ ?_|with_reducible refine And.intro ?_ ?_)
    all_goals first|trivial|exact qM (qE (by rfl))|exact qM (Fit.refl _)|exact qL (qK _)|skip
   ·rintro ⟨f,hf⟩
    cbv
    repeat' (first|with_reducible refine ua4 ?_ ?_|with_reducible refine And.intro ?_ ?_|(with_reducible intro hcd;(try simp only [zA,zB,zC,zD,zE,zF,zG,zH,zI,zJ,zK,zL,zM,zN,zO,zP]at hcd);try cbv)|fail)
    all_goals first|((try simp only [qV]at *);(try simp only [zQ,zA,zB,zC,zD,zE,zF,zG,zH,zI,zJ,zK,zL,zM,zN,zO,zP,zR,zS]at *);first|(refine qN ?_;omega)|(simp only [uam];omega))|((try simp only [zQ,zA,zB,zC,zD,zE,zF,zG,zH,zI,zJ,zK,zL,zM,zN,zO,zP,zR,zS]at *);refine⟨⟨v+1,by omega⟩,by simp only [];omega,?_⟩;cbv;(repeat' (first|with_reducible refine ua4 ?_ ?_|with_reducible refine And.intro ?_ ?_));(all_goals first|trivial|exact qM (qE (by rfl))|exact qM (qF (by rfl))|exact qM (Fit.refl _)|exact qL (qK _)|(refine qM (qE ?_);(try simp only [qV]at *);simp only [zQ,zA,zB,zC,zD,zE,zF,zG,zH,zI,zJ,zK,zL,zM,zN,zO,zP,zR,zS]at *;omega)|(refine qL (qJ (ub1 (fun ix h0 h1=>qE (uwm (by((try simp only [qV]at *);(try simp only [zQ,zA,zB,zC,zD,zE,zF,zG,zH,zI,zJ,zK,zL,zM,zN,zO,zP,zR,zS]at *);omega)))) qA)))|(refine qL (qJ (ub1 (fun ix h0 h1=>qE rfl) qA)))|skip))|skip
    refine⟨none,[],{t:Nat // t≤4},fun x=>⟨[(0,.own 0 0),(8,(iv fun _=>zi n)),(3,.own 64 0),(13,(iv fun _=>zi v)),(4,(iv fun _=>zi v)),(16,(iv fun _=>zi f)),(5,(iv fun _=>zi f)),(19,(iv fun _=>zi x.1))],[(0,.cells [(.arr 16 (fun ix=>(iv fun _=>(phN v (fwN (fwP M n) v) (f*4+x.1)) ix.den.toNat)))] 95),(64,.cells [(.arr 16 (fun ix=>(iv fun _=>(fwP M n) ix.den.toNat)))] 95)],400⟩,fun x=>4-x.1,?_,?_⟩
    ·refine⟨⟨0,by omega⟩,?_⟩
     cbv
     repeat' (first|with_reducible refine ua4 ?_ ?_|with_reducible refine And.intro ?_ ?_)
     all_goals first|trivial|exact qM (qE (by rfl))|exact qM (Fit.refl _)|exact qL (qK _)|skip
    ·rintro ⟨t,ht⟩
     cbv
     repeat' (first
      |with_reducible refine ua4 ?_ ?_
      |with_reducible refine And.intro ?_ ?_
      |(with_reducible intro hcd;(try simp only [zA,zB,zC,zD,zE,zF,zG,zH,zI,zJ,zK,zL,zM,zN,zO,zP]at hcd);try cbv)
      | (refine⟨some [0],?_⟩
         cbv
         refine qQ ?_ (c98 (phN v (fwN (fwP M n) v) (f*4+t)) (zi f) (zi t) (phN v (fwN (fwP M n) v) (f*4+t) ((zi f*4+zi v)*1+0).toNat+phN v (fwN (fwP M n) v) (f*4+t) ((zi v*4+zi t)*1+0).toNat) ⟨(by((try simp only [qV]at *);(try simp only [zQ,zA,zB,zC,zD,zE,zF,zG,zH,zI,zJ,zK,zL,zM,zN,zO,zP,zR,zS]at *);omega)),(by((try simp only [qV]at *);(try simp only [zQ,zA,zB,zC,zD,zE,zF,zG,zH,zI,zJ,zK,zL,zM,zN,zO,zP,zR,zS]at *);omega))⟩ ⟨(by((try simp only [qV]at *);(try simp only [zQ,zA,zB,zC,zD,zE,zF,zG,zH,zI,zJ,zK,zL,zM,zN,zO,zP,zR,zS]at *);omega)),(by((try simp only [qV]at *);(try simp only [zQ,zA,zB,zC,zD,zE,zF,zG,zH,zI,zJ,zK,zL,zM,zN,zO,zP,zR,zS]at *);omega))⟩) ?hfit ?hbo
         case hfit=>(cbv;(repeat' (first|exact qB|refine qD ?_ ?_|exact qE (by rfl)|exact qF (by rfl)|exact Fit.refl _|exact qA|refine qC ?_ rfl ?_));done)
         case hbo=>(cbv;(repeat' (first|exact qH|refine qI ?_ ?_|exact qK _|refine qJ ?_|exact qA|exact qE (by rfl)|exact qF (by rfl)|exact Fit.refl _|exact qG _|refine qC ?_ rfl ?_));done)
         try cbv)
      |fail)
     all_goals first|((try simp only [qV]at *);(try simp only [zQ,zA,zB,zC,zD,zE,zF,zG,zH,zI,zJ,zK,zL,zM,zN,zO,zP,zR,zS]at *);first|(refine qN ?_;omega)|(simp only [uam];omega))|(refine uqY (P:=phN v (fwN (fwP M n) v) (f*4+t)) (fun i hi=>uwt h1 h2 (by((try simp only [qV]at *);(try simp only [zQ,zA,zB,zC,zD,zE,zF,zG,zH,zI,zJ,zK,zL,zM,zN,zO,zP,zR,zS]at *);omega)) (by((try simp only [qV]at *);(try simp only [zQ,zA,zB,zC,zD,zE,zF,zG,zH,zI,zJ,zK,zL,zM,zN,zO,zP,zR,zS]at *);omega)) (by((try simp only [qV]at *);(try simp only [zQ,zA,zB,zC,zD,zE,zF,zG,zH,zI,zJ,zK,zL,zM,zN,zO,zP,zR,zS]at *);omega)) hi) ?_ ?_<;>((try simp only [qV]at *);(try simp only [zQ,zA,zB,zC,zD,zE,zF,zG,zH,zI,zJ,zK,zL,zM,zN,zO,zP,zR,zS]at *);omega))|((try simp only [zQ,zA,zB,zC,zD,zE,zF,zG,zH,zI,zJ,zK,zL,zM,zN,zO,zP,zR,zS]at *);refine⟨⟨t+1,by omega⟩,by simp only [];omega,?_⟩;cbv;(repeat' (first|with_reducible refine ua4 ?_ ?_|with_reducible refine And.intro ?_ ?_));(all_goals first|trivial|exact qM (qE (by rfl))|exact qM (qF (by rfl))|exact qM (Fit.refl _)|exact qL (qK _)|(refine qM (qE ?_);(try simp only [qV]at *);simp only [zQ,zA,zB,zC,zD,zE,zF,zG,zH,zI,zJ,zK,zL,zM,zN,zO,zP,zR,zS]at *;omega)|(refine qL (qJ (ub1 (fun ix h0 h1=>qE (uy2 (by((try simp only [qV]at *);(try simp only [zQ,zA,zB,zC,zD,zE,zF,zG,zH,zI,zJ,zK,zL,zM,zN,zO,zP,zR,zS]at *);omega)) (by unfold at4;(try simp only [qV]at *);(try simp only [zQ,zA,zB,zC,zD,zE,zF,zG,zH,zI,zJ,zK,zL,zM,zN,zO,zP,zR,zS]at *);omega) (by unfold at4;(try simp only [qV]at *);(try simp only [zQ,zA,zB,zC,zD,zE,zF,zG,zH,zI,zJ,zK,zL,zM,zN,zO,zP,zR,zS]at *);omega))) qA)))|(refine qL (qJ (ub1 (fun ix h0 h1=>qE rfl) qA)))|skip))|((try simp only [zQ,zA,zB,zC,zD,zE,zF,zG,zH,zI,zJ,zK,zL,zM,zN,zO,zP,zR,zS]at *);refine⟨⟨f+1,by omega⟩,by simp only [];omega,?_⟩;cbv;(repeat' (first|with_reducible refine ua4 ?_ ?_|with_reducible refine And.intro ?_ ?_));(all_goals first|trivial|exact qM (qE (by rfl))|exact qM (qF (by rfl))|exact qM (Fit.refl _)|exact qL (qK _)|(refine qM (qE ?_);(try simp only [qV]at *);simp only [zQ,zA,zB,zC,zD,zE,zF,zG,zH,zI,zJ,zK,zL,zM,zN,zO,zP,zR,zS]at *;omega)|(refine qL (qJ (ub1 (fun ix h0 h1=>qE (uvz (by((try simp only [qV]at *);(try simp only [zQ,zA,zB,zC,zD,zE,zF,zG,zH,zI,zJ,zK,zL,zM,zN,zO,zP,zR,zS]at *);omega)))) qA)))|skip))|skip
   refine⟨none,[],{m:Nat // m≤4∧∀j,j<m→0≤clo M (at4 j j)},fun x=>⟨[(0,.own 0 0),(50,(iv fun _=>zi x.1))],[(0,.cells [(.arr 16 (fun ix=>(iv fun _=>(clo M) ix.den.toNat)))] 95)],500⟩,fun x=>4-x.1,?_,?_⟩
   ·refine⟨⟨0,by omega,fun j hj=>by omega⟩,?_⟩
    cbv
    repeat' (first|with_reducible refine ua4 ?_ ?_|with_reducible refine And.intro ?_ ?_)
    all_goals first|trivial|exact qM (qE (by rfl))|exact qM (Fit.refl _)|(refine qL (qJ (ub1 (fun ix h0 h1=>qE (uv6 (by((try simp only [qV]at *);(try simp only [zQ,zA,zB,zC,zD,zE,zF,zG,zH,zI,zJ,zK,zL,zM,zN,zO,zP,zR,zS]at *);omega)) (by((try simp only [qV]at *);(try simp only [zQ,zA,zB,zC,zD,zE,zF,zG,zH,zI,zJ,zK,zL,zM,zN,zO,zP,zR,zS]at *);omega)) (uuj hcd) (by omega))) qA)))|skip
   ·rintro⟨m,hm,hq⟩
    cbv
    repeat' (first|with_reducible refine ua4 ?_ ?_|with_reducible refine And.intro ?_ ?_|(with_reducible intro hcd;(try simp only [zA,zB,zC,zD,zE,zF,zG,zH,zI,zJ,zK,zL,zM,zN,zO,zP]at hcd);try cbv)|fail)
    all_goals first|((try simp only [qV]at *);(try simp only [zQ,zA,zB,zC,zD,zE,zF,zG,zH,zI,zJ,zK,zL,zM,zN,zO,zP,zR,zS]at *);first|(refine qN ?_;omega)|(simp only [uam];omega))|(subst hR;(refine qF ?_;(try simp only [qV]at *);(try simp only [zQ,zA,zB,zC,zD,zE,zF,zG,zH,zI,zJ,zK,zL,zM,zN,zO,zP,zR,zS]at *);exact utm (n:=m) (by assumption) (by unfold at4;omega) (by omega));done)|(subst hR;(refine qF ?_;(try simp only [qV]at *);(try simp only [zQ,zA,zB,zC,zD,zE,zF,zG,zH,zI,zJ,zK,zL,zM,zN,zO,zP,zR,zS]at *);exact upQ (n:=m) (by omega) hq);done)|(subst hB;(repeat' (first|exact qH|refine qI ?_ ?_|exact qK _|refine qJ ?_|exact qA|exact qE (by rfl)|exact qF (by rfl)|exact Fit.refl _|exact qG _|refine qC ?_ rfl ?_));done)|((try simp only [zQ,zA,zB,zC,zD,zE,zF,zG,zH,zI,zJ,zK,zL,zM,zN,zO,zP,zR,zS]at *);(have g:0≤clo M (at4 m m):=ut9 (by assumption) (by((try simp only [qV]at *);(try simp only [zQ,zA,zB,zC,zD,zE,zF,zG,zH,zI,zJ,zK,zL,zM,zN,zO,zP,zR,zS]at *);unfold at4;omega)));refine⟨⟨m+1,by omega,fun j hj=>(Nat.lt_or_ge j m).elim (hq j) fun q=>by rw [show j=m by omega];exact g⟩,by simp only [];omega,?_⟩;cbv;(repeat' (first|with_reducible refine ua4 ?_ ?_|with_reducible refine And.intro ?_ ?_));(all_goals first|trivial|exact qM (qE (by rfl))|exact qM (qF (by rfl))|exact qM (Fit.refl _)|exact qL (qK _)|(refine qM (qE ?_);(try simp only [qV]at *);simp only [zQ,zA,zB,zC,zD,zE,zF,zG,zH,zI,zJ,zK,zL,zM,zN,zO,zP,zR,zS]at *;omega)|(refine qL (qJ (ub1 (fun ix h0 h1=>qE rfl) qA)))|skip))|skip
  refine⟨none,[],{m:Nat // m≤4∧∀j,j<m→0≤clo M (at4 j j)},fun x=>⟨[(0,.own 0 0),(50,(iv fun _=>zi x.1))],[(0,.cells [(.arr 16 (fun ix=>(iv fun _=>(clo M) ix.den.toNat)))] 95)],500⟩,fun x=>4-x.1,?_,?_⟩
  ·refine⟨⟨0,by omega,fun j hj=>by omega⟩,?_⟩
   cbv
   repeat' (first|with_reducible refine ua4 ?_ ?_|with_reducible refine And.intro ?_ ?_)
   all_goals first|trivial|exact qM (qE (by rfl))|exact qM (Fit.refl _)|(refine qL (qJ (ub1 (fun ix h0 h1=>qE (utM (by((try simp only [qV]at *);(try simp only [zQ,zA,zB,zC,zD,zE,zF,zG,zH,zI,zJ,zK,zL,zM,zN,zO,zP,zR,zS]at *);omega)))) qA)))|skip
  ·rintro⟨m,hm,hq⟩
   cbv
   repeat' (first|with_reducible refine ua4 ?_ ?_|with_reducible refine And.intro ?_ ?_|(with_reducible intro hcd;(try simp only [zA,zB,zC,zD,zE,zF,zG,zH,zI,zJ,zK,zL,zM,zN,zO,zP]at hcd);try cbv)|fail)
   all_goals first|((try simp only [qV]at *);(try simp only [zQ,zA,zB,zC,zD,zE,zF,zG,zH,zI,zJ,zK,zL,zM,zN,zO,zP,zR,zS]at *);first|(refine qN ?_;omega)|(simp only [uam];omega))|(subst hR;(refine qF ?_;(try simp only [qV]at *);(try simp only [zQ,zA,zB,zC,zD,zE,zF,zG,zH,zI,zJ,zK,zL,zM,zN,zO,zP,zR,zS]at *);exact utm (n:=m) (by assumption) (by unfold at4;omega) (by omega));done)|(subst hR;(refine qF ?_;(try simp only [qV]at *);(try simp only [zQ,zA,zB,zC,zD,zE,zF,zG,zH,zI,zJ,zK,zL,zM,zN,zO,zP,zR,zS]at *);exact upQ (n:=m) (by omega) hq);done)|(subst hB;(repeat' (first|exact qH|refine qI ?_ ?_|exact qK _|refine qJ ?_|exact qA|exact qE (by rfl)|exact qF (by rfl)|exact Fit.refl _|exact qG _|refine qC ?_ rfl ?_));done)|((try simp only [zQ,zA,zB,zC,zD,zE,zF,zG,zH,zI,zJ,zK,zL,zM,zN,zO,zP,zR,zS]at *);(have g:0≤clo M (at4 m m):=ut9 (by assumption) (by((try simp only [qV]at *);(try simp only [zQ,zA,zB,zC,zD,zE,zF,zG,zH,zI,zJ,zK,zL,zM,zN,zO,zP,zR,zS]at *);unfold at4;omega)));refine⟨⟨m+1,by omega,fun j hj=>(Nat.lt_or_ge j m).elim (hq j) fun q=>by rw [show j=m by omega];exact g⟩,by simp only [];omega,?_⟩;cbv;(repeat' (first|with_reducible refine ua4 ?_ ?_|with_reducible refine And.intro ?_ ?_));(all_goals first|trivial|exact qM (qE (by rfl))|exact qM (qF (by rfl))|exact qM (Fit.refl _)|exact qL (qK _)|(refine qM (qE ?_);(try simp only [qV]at *);simp only [zQ,zA,zB,zC,zD,zE,zF,zG,zH,zI,zJ,zK,zL,zM,zN,zO,zP,zR,zS]at *;omega)|(refine qL (qJ (ub1 (fun ix h0 h1=>qE rfl) qA)))|skip))|skip
end Go.Proofs.YtkdggbfknlcdaaaGreat

namespace Go.Proofs.YtkdggbfknlcdaaaGreat
open Go Go.Eng Go.Proofs Go.Eng.Dif Go.Eng.Few
set_option maxRecDepth 10000
theorem ux7 (d:Dsp)(o:List Int):ua0 Tryz.prog 82 [(wpS d),(iS o)] [] (fun r _=>r = .clo 107 [] [(.pp 0 [(wpS d)]),.pp 0 [(iS o)]]):=by
 refine ua0.is fun R hR=>qW (sc:=uAt) uaj mix Tryz.func82 rfl Tryz.call82 (by kernel_rfl) (by kernel_rfl) ?_
 generalize Tryz.prog=P
 cbv
 repeat' (first|fail)
 all_goals first|(subst hR;(repeat' (first|exact qA|exact qB|refine qC ?_ rfl ?_|refine qD ?_ ?_|exact qE (by rfl)|exact qF (by rfl)|exact Fit.refl _|exact qG _|(refine qE ?_;(try simp only [qV]at *);simp only [zQ,zA,zB,zC,zD,zE,zF,zG,zH,zI,zJ,zK,zL,zM,zN,zO,zP,zR,zS]at *;omega)));done)|skip
theorem uuo (d:Dsp)(o:List Int)(hf:d.fs.length≤1000)(ho:o.length≤1000):uln Tryz.prog 107 [(.pp 0 [(wpS d)]),.pp 0 [(iS o)]] (ubQ d.fs o).length (fun n:Nat=>[(.agg [(iv fun _=>((ubQ d.fs o).getD n f0T).p),(iv fun _=>((ubQ d.fs o).getD n f0T).s),(iv fun _=>((ubQ d.fs o).getD n f0T).wl),(iv fun _=>((ubQ d.fs o).getD n f0T).wh),(iv fun _=>((ubQ d.fs o).getD n f0T).ml),(iv fun _=>((ubQ d.fs o).getD n f0T).mh)])]):=by
 obtain⟨el,hel⟩:∃el:Nat→List SV,el=(fun n:Nat=>[(.agg [(iv fun _=>((ubQ d.fs o).getD n f0T).p),(iv fun _=>((ubQ d.fs o).getD n f0T).s),(iv fun _=>((ubQ d.fs o).getD n f0T).wl),(iv fun _=>((ubQ d.fs o).getD n f0T).wh),(iv fun _=>((ubQ d.fs o).getD n f0T).ml),(iv fun _=>((ubQ d.fs o).getD n f0T).mh)])]):=⟨_,rfl⟩
 have hpl:∀i,ubi (.tup (el i))=true:=fun i=>by rw [hel];rfl
 have help:∀n,el n=[(.agg [(iv fun _=>((ubQ d.fs o).getD n f0T).p),(iv fun _=>((ubQ d.fs o).getD n f0T).s),(iv fun _=>((ubQ d.fs o).getD n f0T).wl),(iv fun _=>((ubQ d.fs o).getD n f0T).wh),(iv fun _=>((ubQ d.fs o).getD n f0T).ml),(iv fun _=>((ubQ d.fs o).getD n f0T).mh)])]:=fun n=>by rw [hel]
 rw [←hel]
 clear hel
 have c63:=fun i:Nat=>(show ua0 Tryz.prog 53 [(iS o),(iv fun _=>zi i)] [] (fun r _=>r=(bv fun _=>inL o (zi i)))from ufD o (i:Int) ho)
 obtain⟨c,hc⟩:∃c,c=ukq o:=⟨_,rfl⟩
 have hcy:∀i:Nat,inL o (zi i)=false→c i=true:=fun i h=>by rw [hc,←uqI];unfold uxi;rw [show inL o (i:Int)=false from h];rfl
 have hcn:∀i:Nat,inL o (zi i)=true→c i=false:=fun i h=>by rw [hc,←uqI];unfold uxi;rw [show inL o (i:Int)=true from h];rfl
 obtain⟨L,hL⟩:∃L,L=(ubQ d.fs o).length:=⟨_,rfl⟩
 rw [←hL]
 obtain⟨w,hw⟩:∃w:Nat→Nat,w=fun i=>(kpT d.fs c i).length:=⟨_,rfl⟩
 have w0:w 0=0:=by rw [hw];rfl
 have wL:w d.fs.length=L:=by rw [hw,hL,hc];rfl
 have wn:∀i:Nat,c i=false→w (i+1)=w i:=fun i h=>by rw [hw];simp only [uud h]
 have wy:∀i:Nat,i<d.fs.length→c i=true→w i<L∧el (w i)=[(.agg [(iv fun _=>(d.fs.getD i f0T).p),(iv fun _=>(d.fs.getD i f0T).s),(iv fun _=>(d.fs.getD i f0T).wl),(iv fun _=>(d.fs.getD i f0T).wh),(iv fun _=>(d.fs.getD i f0T).ml),(iv fun _=>(d.fs.getD i f0T).mh)])]∧w (i+1)=w i+1:=fun i hi h=>by
  have q:=uw3 (fs:=d.fs) hi h
  rw [hw]
  refine⟨by rw [hL];unfold ubQ;rw [←hc];exact q.1,?_,by simp only [uoE h,List.length_append,List.length_cons,List.length_nil]⟩
  rw [help]
  unfold ubQ
  rw [←hc]
  simp only [q.2]
 clear hw hc hL help
 refine uha (sc:=uyM) uaj mix Tryz.func107 rfl Tryz.call107 (by kernel_rfl) (by kernel_rfl) fun y=> ?_
 generalize Tryz.prog=P at c63⊢
 refine⟨rfl,rfl,hpl,?_⟩
 cbv
 repeat' (first|fail)
 all_goals first|skip
 refine⟨none,[],{i:Nat // i≤d.fs.length},fun x=>.atg fun _=>w x.1,fun x=>⟨[(0,.val (Value.func (Fn.yield y) ⟨[]⟩ ⟨[]⟩)),(1,(.pp 0 [(wpS d)])),(2,.pp 0 [(iS o)]),(10,(.sl 6 (.sym fun _=>zi (d.fs).length) (fun ix=>[(iv fun _=>((d.fs).getD ix.den.toNat f0T).p),(iv fun _=>((d.fs).getD ix.den.toNat f0T).s),(iv fun _=>((d.fs).getD ix.den.toNat f0T).wl),(iv fun _=>((d.fs).getD ix.den.toNat f0T).wh),(iv fun _=>((d.fs).getD ix.den.toNat f0T).ml),(iv fun _=>((d.fs).getD ix.den.toNat f0T).mh)]))),(11,(iv fun _=>zi d.fs.length)),(12,(iv fun _=>zi x.1))],[],90⟩,fun x=>d.fs.length-x.1,?_,?_⟩
 ·refine⟨⟨0,by omega⟩,?_⟩
  cbv
  repeat' (first|with_reducible refine ua4 ?_ ?_|with_reducible refine And.intro ?_ ?_)
  all_goals first|trivial|exact qM (qE (by rfl))|exact qM (Fit.refl _)|(refine uei ?_;exact w0.symm)|skip
 ·rintro ⟨i,hi⟩
  cbv
  repeat' (first|with_reducible refine ua4 ?_ ?_|with_reducible refine And.intro ?_ ?_|(with_reducible intro hcd;(try simp only [zA,zB,zC,zD,zE,zF,zG,zH,zI,zJ,zK,zL,zM,zN,zO,zP]at hcd);try cbv)|(refine qP ?_ (c63 i) ?hfit;(case hfit=>((repeat' (first|exact qB|refine qD ?_ ?_|exact qE (by rfl)|exact qF (by rfl)|exact Fit.refl _|exact qA|refine qC ?_ rfl ?_));done));try cbv)|fail)
  all_goals first|trivial|((try simp only [qV]at *);(try simp only [zQ,zA,zB,zC,zD,zE,zF,zG,zH,zI,zJ,zK,zL,zM,zN,zO,zP,zR,zS]at *);first|(refine qN ?_;omega)|(simp only [uam];omega))|((have h9:=wy i (by((try simp only [qV]at *);(try simp only [zQ,zA,zB,zC,zD,zE,zF,zG,zH,zI,zJ,zK,zL,zM,zN,zO,zP,zR,zS]at *);omega)) (hcy i (by assumption)));refine uhT h9.1 ?_;rw [h9.2.1];exact Fit.refl _)|((try simp only [zQ,zA,zB,zC,zD,zE,zF,zG,zH,zI,zJ,zK,zL,zM,zN,zO,zP,zR,zS]at *);refine⟨⟨i+1,by omega⟩,by simp only [];omega,?_⟩;cbv;(repeat' (first|with_reducible refine ua4 ?_ ?_|with_reducible refine And.intro ?_ ?_));(all_goals first|trivial|exact qM (qE (by rfl))|exact qM (qF (by rfl))|exact qM (Fit.refl _)|exact qL (qK _)|(refine qM (qE ?_);(try simp only [qV]at *);simp only [zQ,zA,zB,zC,zD,zE,zF,zG,zH,zI,zJ,zK,zL,zM,zN,zO,zP,zR,zS]at *;omega)|(refine uei ?_;exact(wn i (hcn i (by assumption))).symm)|(refine uei ?_;exact(wy i (by((try simp only [qV]at *);(try simp only [zQ,zA,zB,zC,zD,zE,zF,zG,zH,zI,zJ,zK,zL,zM,zN,zO,zP,zR,zS]at *);omega)) (hcy i (by assumption))).2.2.symm)|skip))|(show w i=L;rw [←wL];congr 1;((try simp only [qV]at *);(try simp only [zQ,zA,zB,zC,zD,zE,zF,zG,zH,zI,zJ,zK,zL,zM,zN,zO,zP,zR,zS]at *);omega))|skip
end Go.Proofs.YtkdggbfknlcdaaaGreat
