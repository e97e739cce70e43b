/- Contracts of the functions that the laws come to. No condition. -/
import Derived.Test.YtkdggbfknlcdaaaGreatE3
import Derived.Test.YtkdggbfknlcdaaaGreatProg
set_option linter.unusedVariables false
set_option linter.unusedSimpArgs false
set_option linter.deprecated false

namespace Go.Eng.Few
open Go Go.Eng
def ubz (f:Nat→Option (List Int)):Nat→Nat→Option (List Int)
 |0,_=>none
 | k+1,i=>match f i with
  |some r=>some r
  |none=>ubz f k (i+1)
theorem ugx {f:Nat→Option (List Int)} {k i:Nat} {r:List Int}(hk:0<k)(h:f i=some r):ubz f k i=some r:=by
 cases k with
 |zero=>omega
 |succ k=>simp only [ubz,h]
theorem unh {f:Nat→Option (List Int)} {k i:Nat}(hk:0<k)(h:f i=none):ubz f k i=ubz f (k-1) (i+1):=by
 cases k with
 |zero=>omega
 |succ k=>simp only [ubz,h,Nat.add_sub_cancel]
def ubb (n:Nat)(ok:List Int→Bool):Nat→List Int→Nat→Option (List Int)
 |0,l,_=>if ok l=true then some l else none
 |m+1,l,i=>ubz (fun j=>ubb n ok m (l++[(j:Int)]) (j+1)) (n-m-i) i
def uaQ :Nat→List Int
 |0=>[]
 |n+1=>uaQ n++[(n:Int)]
theorem uln {n:Nat} {ok:List Int→Bool}(h:ok (uaQ n)=true):∀m,m≤n→ubb n ok m (uaQ (n-m)) (n-m)=some (uaQ n):=by
 intro m
 induction m with
 |zero=>intro _;simp only [ubb,Nat.sub_zero,h,if_true]
 | succ m ih=>
  intro hm
  have:=ih (by omega)
  simp only [ubb]
  rw [show n-m-(n-(m+1))=1 by omega]
  refine ugx (by omega) ?_
  rw [show n-(m+1)+1=n-m by omega]
  rw [show n-m=n-(m+1)+1 by omega]at this⊢
  exact this
theorem ujl {f:Nat→Option (List Int)} {j:Nat} {r:List Int}(h:f j=some r):∀k i,i≤j→j<i+k→∃r',ubz f k i=some r':=by
 intro k
 induction k with
 |zero=>intro i h1 h2;omega
 | succ k ih=>
  intro i h1 h2
  cases hf:f i with
  |some r'=>exact⟨r',ugx (by omega) hf⟩
  | none=>
   rw [unh (by omega) hf,Nat.add_sub_cancel]
   by_cases e:i=j
   ·rw [e,h]at hf;cases hf
   ·exact ih (i+1) (by omega) (by omega)
theorem uiD {n i:Nat}(h:i<n):(i:Int)∈uaQ n:=by
 induction n with
 |zero=>omega
 | succ n ih=>
  simp only [uaQ,List.mem_append,List.mem_singleton]
  by_cases e:i=n
  ·exact Or.inr (by rw [e])
  ·exact Or.inl (ih (by omega))
theorem utt {L l:List Int} {x:Int}(h:L=l++[x]):zi l.length+1=zi L.length:=by
 subst h
 simp only [uaa,List.length_append,List.length_cons,List.length_nil]
 omega
theorem ujZ {f:Nat→Option (List Int)}:∀{k i:Nat},ubz f k i=none→∀j,i≤j→j<i+k→f j=none:=by
 intro k
 induction k with
 |zero=>intro i _ j h1 h2;omega
 | succ k ih=>
  intro i h j h1 h2
  simp only [ubz]at h
  split at h
  ·cases h
  ·rename_i hf
   by_cases e:j=i
   ·rw [e];exact hf
   ·exact ih h j (by omega) (by omega)
theorem uhg {f:Nat→Option (List Int)} {r:List Int}:∀{k i:Nat},ubz f k i=some r→∃j,i≤j∧j<i+k∧f j=some r∧∀j',i≤j'→j'<j→f j'=none:=by
 intro k
 induction k with
 |zero=>intro i h;cases h
 | succ k ih=>
  intro i h
  simp only [ubz]at h
  split at h
  ·rename_i r' hf
   cases h
   exact⟨i,Nat.le_refl _,by omega,hf,fun j' h1 h2=>by omega⟩
  ·rename_i hf
   obtain⟨j,h1,h2,h3,h4⟩:=ih h
   refine⟨j,by omega,by omega,h3,fun j' a b=> ?_⟩
   by_cases e:j'=i
   ·rw [e];exact hf
   ·exact h4 j' (by omega) b
def Asc (n:Nat):Nat→List Int→Prop
 |_,[]=>True
 |i,x::t=>∃j:Nat,x=(j:Int)∧i≤j∧j<n∧Asc n (j+1) t
def urS :List Int→List Int→Prop
 |x::s,y::t=>x<y∨(x=y∧urS s t)
 |_,_=>False
theorem uio {n:Nat}:∀{s:List Int} {i:Nat},Asc n i s→s=[]∨i+s.length≤n:=by
 intro s
 induction s with
 |nil=>intro i _;exact .inl rfl
 | cons x t ih=>
  rintro i ⟨j,_,h1,h2,h3⟩
  right
  rcases ih h3 with e|e
  ·subst e;simp only [List.length_cons,List.length_nil];omega
  ·simp only [List.length_cons];omega
theorem uey {n:Nat} {ok:List Int→Bool}:∀{m:Nat} {l:List Int} {i:Nat},ubb n ok m l i=none→∀s,Asc n i s→s.length=m→ok (l++s)=false:=by
 intro m
 induction m with
 | zero=>
  intro l i h s hs hl
  rw [List.length_eq_zero_iff.1 hl,List.append_nil]
  simp only [ubb]at h
  split at h
  ·cases h
  ·rename_i q;simpa using q
 | succ m ih=>
  intro l i h s hs hl
  cases s with
  |nil=>cases hl
  | cons x t=>
   obtain⟨j,rfl,h1,h2,h3⟩:=hs
   simp only [List.length_cons]at hl
   simp only [ubb]at h
   have hj:j<i+(n-m-i):=by
    rcases uio h3 with e|e
    ·rw [e]at hl;simp at hl;omega
    ·omega
   have:=ih (ujZ h j h1 hj) t h3 (by omega)
   simpa using this
theorem ugr {n:Nat} {ok:List Int→Bool} {F:List Int}:∀{m:Nat} {l:List Int} {i:Nat},ubb n ok m l i=some F→∃s,Asc n i s∧s.length=m∧F=l++s∧ok F=true∧∀s',Asc n i s'→s'.length=m→ok (l++s')=true→s=s'∨urS s s':=by
 intro m
 induction m with
 | zero=>
  intro l i h
  simp only [ubb]at h
  split at h
  ·rename_i q
   cases h
   refine⟨[],trivial,rfl,(List.append_nil _).symm,q,fun s' _ hl _=>.inl (List.length_eq_zero_iff.1 hl).symm⟩
  ·cases h
 | succ m ih=>
  intro l i h
  simp only [ubb]at h
  obtain⟨j,h1,h2,h3,h4⟩:=uhg h
  obtain⟨s,a1,a2,a3,a4,a5⟩:=ih h3
  refine⟨(j:Int)::s,⟨j,rfl,h1,by omega,a1⟩,by simp [a2],by rw [a3];simp,a4,fun s' hs hl hok=> ?_⟩
  cases s' with
  |nil=>cases hl
  | cons x t=>
   obtain⟨j',rfl,b1,b2,b3⟩:=hs
   simp only [List.length_cons]at hl
   rcases Nat.lt_trichotomy j j' with e|e|e
   ·exact .inr (.inl (by omega))
   ·subst e
    rcases a5 t b3 (by omega) (by simpa using hok)with q|q
    ·exact .inl (by rw [q])
    ·exact .inr (.inr ⟨rfl,q⟩)
   ·have:=uey (h4 j' b1 e) t b3 (by omega)
    rw [show l++[(j':Int)]++t=l++(j':Int)::t by simp,hok]at this
    cases this
theorem urF {n m:Nat}(hnm:n≤m):∀{s:List Int} {i:Nat},Asc n i s→Asc m i s:=by
 intro s
 induction s with
 |nil=>intro i _;trivial
 |cons x t ih=>rintro i ⟨j,a,b,d,e⟩;exact⟨j,a,b,by omega,ih e⟩
theorem us6 {n:Nat}:∀{s:List Int} {i:Nat},i≤n→Asc n i s→Asc (n+1) i (s++[(n:Int)]):=by
 intro s
 induction s with
 |nil=>intro i hi _;exact⟨n,rfl,hi,by omega,trivial⟩
 |cons x t ih=>rintro i hi ⟨j,a,b,d,e⟩;exact⟨j,a,b,by omega,ih (by omega) e⟩
def ufU (b:Nat):Nat→List Int
 |0=>[]
 |p+1=>if b.testBit p=true then ufU b p++[(p:Int)]else ufU b p
theorem up7 {b n:Nat} {x:Int}:x∈ufU b n↔∃p:Nat,p<n∧x=(p:Int)∧b.testBit p=true:=by
 induction n with
 |zero=>simp [ufU]
 | succ n ih=>
  simp only [ufU]
  split
  ·rename_i h
   rw [List.mem_append,ih,List.mem_singleton]
   constructor
   ·rintro(⟨p,hp,e,q⟩|e)
    ·exact⟨p,by omega,e,q⟩
    ·exact⟨n,by omega,e,h⟩
   ·rintro⟨p,hp,e,q⟩
    by_cases e1:p=n
    ·subst e1;exact .inr e
    ·exact .inl ⟨p,by omega,e,q⟩
  ·rename_i h
   rw [ih]
   constructor
   ·rintro⟨p,hp,e,q⟩;exact⟨p,by omega,e,q⟩
   ·rintro⟨p,hp,e,q⟩
    by_cases e1:p=n
    ·subst e1;exact absurd q h
    ·exact⟨p,by omega,e,q⟩
def uh1 (a b:List Int):Bool:=if a.length=b.length then lexB a b else decide (a.length<b.length)
where lexB:List Int→List Int→Bool
 |x::s,y::t=>if x=y then lexB s t else decide (x<y)
 |_,_=>false
theorem usz (a:List Int):uh1.lexB a a=false:=by
 induction a with
 |nil=>simp only [uh1.lexB]
 |cons x s ih=>simp only [uh1.lexB,if_true];exact ih
theorem uqQ {n:Nat} {L:List Int}:∀{s:Nat},Asc n s L→∀i,i<L.length→(s:Int)≤L.getD i 0∧L.getD i 0<n:=by
 induction L with
 |nil=>intro s _ i hi;simp at hi
 | cons x t ih=>
  rintro s ⟨j,rfl,h1,h2,h3⟩ i hi
  cases i with
  |zero=>simp only [List.getD_cons_zero];omega
  | succ i=>
   simp only [List.getD_cons_succ]
   have:=ih h3 i (by simpa using hi)
   omega
theorem ux7 {n:Nat} {L:List Int}:∀{s:Nat},Asc n s L→∀i,0<i→i<L.length→L.getD (i-1) 0<L.getD i 0:=by
 induction L with
 |nil=>intro s _ i _ hi;simp at hi
 | cons x t ih=>
  rintro s ⟨j,rfl,h1,h2,h3⟩ i h0 hi
  cases i with
  |zero=>omega
  | succ i=>
   cases i with
   | zero=>
    have:=uqQ h3 0 (by simpa using hi)
    simp only [List.getD_cons_succ,List.getD_cons_zero]at this⊢
    show((j:Nat):Int)<_
    omega
   | succ i=>
    have:=ih h3 (i+1) (by omega) (by simpa using hi)
    simpa using this
theorem usx (b n:Nat):Asc n 0 (ufU b n):=by
 induction n with
 |zero=>trivial
 | succ n ih=>
  simp only [ufU]
  split
  ·exact us6 (by omega) ih
  ·exact urF (by omega) ih
theorem uq8 :∀{a b d:List Int},a.length=b.length→b.length=d.length→uh1.lexB a b=true→uh1.lexB b d=true→uh1.lexB a d=true:=by
 intro a
 induction a with
 |nil=>intro b d _ _ h;cases b<;>simp [uh1.lexB]at h
 | cons x s ih=>
  intro b d h1 h2 p q
  cases b with
  |nil=>cases h1
  | cons y t=>
   cases d with
   |nil=>cases h2
   | cons z u=>
    simp only [List.length_cons,Nat.add_right_cancel_iff]at h1 h2
    simp only [uh1.lexB]at p q⊢
    by_cases e1:x=y
    ·rw [if_pos e1]at p
     by_cases e2:y=z
     ·rw [if_pos e2]at q
      rw [if_pos (e1.trans e2)]
      exact ih h1 h2 p q
     ·rw [if_neg e2]at q
      rw [if_neg (by rw [e1];exact e2),e1]
      exact q
    ·rw [if_neg e1,decide_eq_true_eq]at p
     by_cases e2:y=z
     ·rw [if_neg (by omega),decide_eq_true_eq]
      omega
     ·rw [if_neg e2,decide_eq_true_eq]at q
      rw [if_neg (by omega),decide_eq_true_eq]
      omega
theorem utF {a b:List Int}(h:urS a b):uh1.lexB a b=true:=by
 induction a generalizing b with
 |nil=>cases h
 | cons x s ih=>
  cases b with
  |nil=>cases h
  | cons y t=>
   simp only [uh1.lexB]
   rcases h with h|⟨h,h2⟩
   ·rw [if_neg (by omega),decide_eq_true_eq];exact h
   ·rw [if_pos h];exact ih h2
def uxY (n:Nat)(ok:List Int→Bool):Option (List Int):=ubz (fun m=>ubb n ok m [] 0) (n+1) 0
def ud1 (n:Nat)(ok:List Int→Bool):List Int:=(uxY n ok).getD []
theorem usk {n:Nat} {ok:List Int→Bool}(h:ok (uaQ n)=true):uxY n ok=some (ud1 n ok):=by
 have:=uln h n (Nat.le_refl _)
 rw [Nat.sub_self]at this
 obtain⟨F,hF⟩:=ujl (f:=fun m=>ubb n ok m [] 0) (j:=n) this (n+1) 0 (by omega) (by omega)
 unfold ud1
 rw [show uxY n ok=some F from hF];rfl
theorem ucc {n:Nat} {ok:List Int→Bool}(h:ok (uaQ n)=true):Asc n 0 (ud1 n ok)∧ok (ud1 n ok)=true ∧
 ∀s,Asc n 0 s→ok s=true→(ud1 n ok).length≤s.length∧(s.length=(ud1 n ok).length→ud1 n ok=s∨urS (ud1 n ok) s):=by
 have hO:=usk h
 unfold uxY at hO
 obtain⟨m,_,h2,h3,h4⟩:=uhg hO
 obtain⟨s,a1,a2,a3,a4,a5⟩:=ugr h3
 have e:ud1 n ok=s:=by rw [a3];simp
 refine⟨e▸a1,a4,fun s' hs hok=> ?_⟩
 rw [e]
 have hmin:s.length≤s'.length:=by
  refine Nat.le_of_not_lt fun hlt=> ?_
  have:=uey (h4 s'.length (by omega) (by omega)) s' hs rfl
  rw [List.nil_append,hok]at this
  cases this
 exact⟨hmin,fun he=>a5 s' hs (by omega) (by simpa using hok)⟩
theorem few_nil {n:Nat} {ok:List Int→Bool}(h:ok (uaQ n)=true):ok []=true↔(ud1 n ok).length=0:=by
 have hs:=ucc h
 constructor
 ·intro q;have:=(hs.2.2 [] trivial q).1;simpa using this
 ·intro q;have:=hs.2.1;rwa [List.length_eq_zero_iff.1 q]at this
theorem ukw {n:Nat} {ok:List Int→Bool}(h:ok (uaQ n)=true):(ud1 n ok).length≤n:=by
 rcases uio (ucc h).1 with e|e
 ·rw [e];simp
 ·omega
end Go.Eng.Few

namespace Go.Eng.Few
def ubS (n:Nat)(ok:List Int→Bool):Nat→List Int→Nat→List (List Int)
 |0,l,_=>if ok l=true then [l]else []
 |m+1,l,i=>(List.range (n-m-i)).flatMap fun j=>ubS n ok m (l++[((i+j:Nat):Int)]) (i+j+1)
theorem uf5 {n:Nat} {ok:List Int→Bool}:∀{m:Nat} {l:List Int} {i:Nat} {F:List Int},F∈ubS n ok m l i↔∃s,Asc n i s∧s.length=m∧F=l++s∧ok F=true:=by
 intro m
 induction m with
 | zero=>
  intro l i F
  simp only [ubS]
  constructor
  ·intro h
   split at h
   ·rename_i q
    rw [List.mem_singleton]at h
    subst h
    exact⟨[],trivial,rfl,(List.append_nil _).symm,q⟩
   ·cases h
  ·rintro⟨s,_,hl,rfl,q⟩
   rw [List.length_eq_zero_iff.1 hl,List.append_nil]at q⊢
   rw [if_pos q];exact List.mem_singleton.2 rfl
 | succ m ih=>
  intro l i F
  simp only [ubS,List.mem_flatMap,List.mem_range]
  constructor
  ·rintro⟨j,hj,hF⟩
   obtain⟨s,a1,a2,a3,a4⟩:=ih.1 hF
   exact⟨((i+j:Nat):Int)::s,⟨i+j,rfl,by omega,by omega,a1⟩,by simp [a2],by rw [a3];simp,a4⟩
  ·rintro⟨s,hs,hl,e,q⟩
   cases s with
   |nil=>cases hl
   | cons x t=>
    obtain⟨j,rfl,h1,h2,h3⟩:=hs
    simp only [List.length_cons]at hl
    have hr:j-i<n-m-i:=by
     rcases uio h3 with e|e
     ·rw [e]at hl;simp at hl;omega
     ·omega
    refine⟨j-i,hr,ih.2 ⟨t,?_,by omega,?_,q⟩⟩
    ·rw [show i+(j-i)+1=j+1 by omega];exact h3
    ·rw [e,show i+(j-i)=j by omega];simp
def uq0 (n:Nat)(ok:List Int→Bool):Nat→Nat→List (List Int)
 |0,_=>[]
 |k+1,m=>if(ubS n ok m [] 0).isEmpty=true then uq0 n ok k (m+1)else ubS n ok m [] 0
def uaw (n:Nat)(ok:List Int→Bool):List (List Int):=uq0 n ok (n+1) 0
theorem uop {n:Nat} {ok:List Int→Bool}:∀{k m:Nat},(∃j,m≤j∧j<m+k∧ubS n ok j [] 0≠[])→∃j,m≤j∧j<m+k∧uq0 n ok k m=ubS n ok j [] 0∧ubS n ok j [] 0≠[]∧∀i,m≤i→i<j→ubS n ok i [] 0=[]:=by
 intro k
 induction k with
 |zero=>rintro m ⟨j,h1,h2,_⟩;omega
 | succ k ih=>
  rintro m ⟨j,h1,h2,h3⟩
  simp only [uq0]
  cases he:(ubS n ok m [] 0).isEmpty with
  | true=>
   have e0:=List.isEmpty_iff.1 he
   rw [if_pos rfl]
   have hm:m≠j:=fun q=>by subst q;exact h3 e0
   obtain⟨j',a1,a2,a3,a4,a5⟩:=ih (m:=m+1) ⟨j,by omega,by omega,h3⟩
   refine⟨j',by omega,by omega,a3,a4,fun i b1 b2=> ?_⟩
   by_cases q:i=m
   ·subst q;exact e0
   ·exact a5 i (by omega) b2
  | false=>
   rw [if_neg (by simp)]
   exact⟨m,Nat.le_refl _,by omega,rfl,(fun q=>by rw [q]at he;cases he),fun i b1 b2=>by omega⟩
theorem up1 {n:Nat} {ok:List Int→Bool}:∀{m:Nat} {l:List Int} {i:Nat},(ubS n ok m l i).head?=ubb n ok m l i:=by
 intro m
 induction m with
 | zero=>
  intro l i
  simp only [ubS,ubb]
  split<;>rfl
 | succ m ih=>
  intro l i
  simp only [ubS,ubb]
  have key:∀k a,((List.range k).flatMap fun j=>ubS n ok m (l++[((i+a+j:Nat):Int)]) (i+a+j+1)).head?=ubz (fun j=>ubb n ok m (l++[(j:Int)]) (j+1)) k (i+a):=by
   intro k
   induction k with
   |zero=>intro a;rfl
   | succ k ihk=>
    intro a
    rw [List.range_succ_eq_map,List.flatMap_cons,List.head?_append,ih]
    simp only [ubz,Nat.add_zero]
    cases ubb n ok m (l++[((i+a:Nat):Int)]) (i+a+1)with
    |some r=>rfl
    | none=>
     simp only [Option.none_or,List.flatMap_map]
     have:=ihk (a+1)
     rw [show i+(a+1)=i+a+1 by omega]at this
     rw [←this]
     congr 1
     congr 1
     funext j
     rw [show i+a+1+j=i+a+(j+1) by omega]
  have:=key (n-m-i) 0
  simpa using this
theorem uik {n:Nat} {ok:List Int→Bool}(h:ok (uaQ n)=true):∃j,j≤n∧uaw n ok=ubS n ok j [] 0∧ubS n ok j [] 0≠[]∧∀i,i<j→ubS n ok i [] 0=[]:=by
 have hs:=ucc h
 obtain⟨j,a1,a2,a3,a4,a5⟩:=uop (n:=n) (ok:=ok) (k:=n+1) (m:=0) ⟨(ud1 n ok).length,Nat.zero_le _,by have:=ukw h;omega,fun q=>by
  have:=(uf5 (m:=(ud1 n ok).length) (l:=[]) (i:=0) (F:=ud1 n ok)).2 ⟨_,hs.1,rfl,rfl,hs.2.1⟩
  rw [q]at this;cases this⟩
 exact⟨j,by omega,a3,a4,fun i hi=>a5 i (Nat.zero_le _) hi⟩
theorem uda {n:Nat} {ok:List Int→Bool}(h:ok (uaQ n)=true) {F:List Int}:F∈uaw n ok↔Asc n 0 F∧ok F=true∧F.length=(ud1 n ok).length:=by
 obtain⟨j,hj,e,hne,hno⟩:=uik h
 have hs:=ucc h
 have hjl:(ud1 n ok).length=j:=by
  have h1:¬(ud1 n ok).length<j:=fun q=>by
   have:=(uf5 (m:=(ud1 n ok).length) (l:=[]) (i:=0) (F:=ud1 n ok)).2 ⟨_,hs.1,rfl,rfl,hs.2.1⟩
   rw [hno _ q]at this;cases this
  obtain⟨F,hF⟩:=List.exists_mem_of_ne_nil _ hne
  obtain⟨s,b1,b2,b3,b4⟩:=uf5.1 hF
  rw [List.nil_append]at b3
  subst b3
  have:=(hs.2.2 _ b1 b4).1
  omega
 rw [e,uf5]
 constructor
 ·rintro⟨s,b1,b2,b3,b4⟩
  rw [List.nil_append]at b3
  subst b3
  exact⟨b1,b4,by omega⟩
 ·rintro⟨b1,b2,b3⟩
  exact⟨F,b1,by omega,rfl,b2⟩
theorem umO {n:Nat} {ok:List Int→Bool}(h:ok (uaQ n)=true):(uaw n ok).head?=some (ud1 n ok):=by
 obtain⟨j,hj,e,hne,hno⟩:=uik h
 have hs:=ucc h
 have hm:=(uda h (F:=ud1 n ok)).2 ⟨hs.1,hs.2.1,rfl⟩
 rw [e,up1]
 rw [e]at hm
 obtain⟨s,b1,b2,b3,b4⟩:=uf5.1 hm
 cases hc:ubb n ok j [] 0 with
 | none=>
  have:=uey hc s b1 b2
  rw [←b3,b4]at this;cases this
 | some G=>
  obtain⟨t,c1,c2,c3,c4,c5⟩:=ugr hc
  rw [List.nil_append]at c3 b3
  subst c3
  have hl:(ud1 n ok).length=j:=by rw [b3];exact b2
  rcases(hs.2.2 _ c1 c4).2 (by omega)with q|q
  ·rw [q]
  ·rcases c5 (ud1 n ok) hs.1 (by omega) (by simpa using hs.2.1)with r|r
   ·rw [r]
   ·exfalso
    have a:=utF q
    have b:=utF r
    have:=uq8 (by omega) (by omega) a b
    have c:=usz (ud1 n ok)
    rw [c]at this;cases this
end Go.Eng.Few

namespace Go.Eng.Few
structure Agree (P:Nat)(ok:List Int→Bool)(h:Nat→Bool):Prop where
 p:P≤16
 all:ok (uaQ P)=true
 h:∀b,b<2^P→h b=ok (ufU b 16)
def ukQ (P:Nat)(ok:List Int→Bool)(p:Nat):Bool:=(uaw P ok).all fun F=>F.contains (p:Int)
def ukf (P:Nat)(ok:List Int→Bool)(p:Nat):Bool:=(uaw P ok).any fun F=>F.contains (p:Int)
theorem uxm {P b p:Nat}(hP:P≤16)(hp:p<P):(p:Int)∈ufU b 16↔b.testBit p=true:=by
 rw [up7]
 constructor
 ·rintro⟨q,_,e,h⟩
  have:p=q:=by omega
  rw [this];exact h
 ·intro h;exact⟨p,by omega,rfl,h⟩
def ubT (f:Nat→Bool):Nat→List Int
 |0=>[]
 |p+1=>if f p=true then ubT f p++[(p:Int)]else ubT f p
theorem ur6 {b:Nat} {f:Nat→Bool}:∀{n:Nat},(∀p,p<n→b.testBit p=f p)→ufU b n=ubT f n:=by
 intro n
 induction n with
 |zero=>intro _;rfl
 | succ n ih=>
  intro h
  simp only [ufU,ubT,h n (by omega),ih fun p hp=>h p (by omega)]
end Go.Eng.Few

namespace Go.Eng.Dif
def mn (a b:Int):Int:=if b<a then b else a
theorem uhz (a b:Int):mn a b≤a:=by unfold mn;split<;>omega
theorem ujY (a b:Int):mn a b≤b:=by unfold mn;split<;>omega
theorem upO (a b:Int):mn a b=a∨mn a b=b:=by unfold mn;split<;>simp
theorem uuH {a b:Int}(h:a≤b):mn a b=a:=by unfold mn;rw [if_neg (by omega)]
def lst (M:Nat→Int)(p:Nat)(n:Int):Nat→Int:=fun i=>if i=p then mn (M i) n else M i
def at4 (f t:Nat):Nat:=f*4+t
def stp (v:Nat)(M:Nat→Int)(k:Nat):Nat→Int:=lst M k (M (at4 (k/4) v)+M (at4 v (k%4)))
def phN (v:Nat)(M:Nat→Int):Nat→Nat→Int
 |0=>M
 |k+1=>stp v (phN v M k) k
def fwN (M:Nat→Int):Nat→Nat→Int
 |0=>M
 |v+1=>phN v (fwN M v) 16
def fw (M:Nat→Int):Nat→Int:=fwN M 4
def fwP (M:Nat→Int):Nat→Nat→Int
 |0=>M
 |n+1=>fw (fwP M n)
def clo (M:Nat→Int):Nat→Int:=fwP M 4
def okD (M:Nat→Int):Bool:=decide (0≤M 0∧0≤M 5∧0≤M 10∧0≤M 15)
def Sol (M:Nat→Int)(x:Nat→Int):Prop:=∀f t,f<4→t<4→x t-x f≤M (at4 f t)
theorem ulM (M:Nat→Int)(p:Nat)(n:Int)(i:Nat):lst M p n i≤M i:=by
 unfold lst
 split
 ·exact uhz _ _
 ·exact Int.le_refl _
theorem uwj (v:Nat)(M:Nat→Int)(k i:Nat):stp v M k i≤M i:=ulM _ _ _ _
theorem upR (v:Nat)(M:Nat→Int):∀k i,phN v M k i≤M i:=by
 intro k
 induction k with
 |zero=>exact fun i=>Int.le_refl _
 |succ k ih=>exact fun i=>Int.le_trans (uwj _ _ _ _) (ih i)
theorem utm (M:Nat→Int):∀v i,fwN M v i≤M i:=by
 intro v
 induction v with
 |zero=>exact fun i=>Int.le_refl _
 |succ v ih=>exact fun i=>Int.le_trans (upR _ _ _ _) (ih i)
theorem usf (M:Nat→Int)(i:Nat):fw M i≤M i:=utm M 4 i
theorem usX (M:Nat→Int):∀n i,fwP M n i≤M i:=by
 intro n
 induction n with
 |zero=>exact fun i=>Int.le_refl _
 |succ n ih=>exact fun i=>Int.le_trans (usf _ _) (ih i)
theorem ulE (M:Nat→Int)(i:Nat):clo M i≤M i:=usX M 4 i
theorem uiC {f t:Nat}(h:t<4):at4 f t/4=f:=by unfold at4;omega
theorem uiy {f t:Nat}(h:t<4):at4 f t%4=t:=by unfold at4;omega
theorem uv5 {v:Nat} {M:Nat→Int} {k:Nat} {x:Nat→Int}(hv:v<4)(hk:k<16)(h:Sol M x):Sol (stp v M k) x:=by
 intro f t hf ht
 unfold stp lst
 split
 ·rename_i e
  have a:=h f t hf ht
  have b:=h (k/4) v (by omega) hv
  have c:=h v (k%4) hv (by omega)
  have e1:k/4=f:=by rw [←e];exact uiC ht
  have e2:k%4=t:=by rw [←e];exact uiy ht
  rw [e1]at b
  rw [e2]at c
  rw [e1,e2]
  unfold mn
  split<;>omega
 ·exact h f t hf ht
theorem uvo {v:Nat} {M:Nat→Int} {x:Nat→Int}(hv:v<4)(h:Sol M x):∀k,k≤16→Sol (phN v M k) x:=by
 intro k
 induction k with
 |zero=>exact fun _=>h
 |succ k ih=>exact fun hk=>uv5 hv (by omega) (ih (by omega))
theorem uuw {M:Nat→Int} {x:Nat→Int}(h:Sol M x):∀v,v≤4→Sol (fwN M v) x:=by
 intro v
 induction v with
 |zero=>exact fun _=>h
 |succ v ih=>exact fun hv=>uvo (by omega) (ih (by omega)) 16 (Nat.le_refl _)
theorem uwW {M:Nat→Int} {x:Nat→Int}(h:Sol M x):Sol (fw M) x:=uuw h 4 (Nat.le_refl _)
theorem uvs {M:Nat→Int} {x:Nat→Int}(h:Sol M x):∀n,Sol (fwP M n) x:=by
 intro n
 induction n with
 |zero=>exact h
 |succ n ih=>exact uwW ih
theorem uez {M:Nat→Int} {x:Nat→Int}:Sol (clo M) x↔Sol M x:=
 ⟨fun h f t hf ht=>Int.le_trans (h f t hf ht) (ulE M _),fun h=>uvs h 4⟩
theorem ux1 {v:Nat} {M:Nat→Int}(hv:v<4)(hd:0≤M (at4 v v)):∀k,k≤16→∀f t,f<4→t<4→phN v M k (at4 f t)=if at4 f t<k then mn (M (at4 f t)) (M (at4 f v)+M (at4 v t))else M (at4 f t):=by
 intro k
 induction k with
 |zero=>intro _ f t _ _;rfl
 | succ k ih=>
  intro hk f t hf ht
  have ih:=ih (by omega)
  show stp v (phN v M k) k (at4 f t)=_
  unfold stp lst
  by_cases e:at4 f t=k
  ·rw [if_pos e,if_pos (by omega)]
   have e1:k/4=f:=by rw [←e];exact uiC ht
   have e2:k%4=t:=by rw [←e];exact uiy ht
   rw [e1,e2,ih f t hf ht,ih f v hf hv,ih v t hv ht,if_neg (by omega)]
   have a:(if at4 f v<k then mn (M (at4 f v)) (M (at4 f v)+M (at4 v v))else M (at4 f v))=M (at4 f v):=by
    split
    ·exact uuH (by omega)
    ·rfl
   have b:(if at4 v t<k then mn (M (at4 v t)) (M (at4 v v)+M (at4 v t))else M (at4 v t))=M (at4 v t):=by
    split
    ·exact uuH (by omega)
    ·rfl
   rw [a,b]
  ·rw [if_neg e,ih f t hf ht]
   by_cases q:at4 f t<k
   ·rw [if_pos q,if_pos (by omega)]
   ·rw [if_neg q,if_neg (by omega)]
def Clo (M:Nat→Int):Prop:=∀f v t,f<4→v<4→t<4→M (at4 f t)≤M (at4 f v)+M (at4 v t)
def Dg (M:Nat→Int):Prop:=∀n,n<4→0≤M (at4 n n)
theorem ugD {M:Nat→Int}:okD M=true↔Dg M:=by
 unfold okD
 rw [decide_eq_true_eq]
 constructor
 ·rintro⟨a,b,c,d⟩ n hn
  have:n=0∨n=1∨n=2∨n=3:=by omega
  rcases this with rfl|rfl|rfl|rfl
  ·exact a
  ·exact b
  ·exact c
  ·exact d
 ·intro h
  exact⟨h 0 (by omega),h 1 (by omega),h 2 (by omega),h 3 (by omega)⟩
theorem uhK {M:Nat→Int} {v:Nat}(hv:v<4)(hd:Dg (fwN M v)) {f t:Nat}(hf:f<4)(ht:t<4):fwN M (v+1) (at4 f t)=mn (fwN M v (at4 f t)) (fwN M v (at4 f v)+fwN M v (at4 v t)):=by
 show phN v (fwN M v) 16 (at4 f t)=_
 rw [ux1 hv (hd v hv) 16 (Nat.le_refl _) f t hf ht,if_pos (by unfold at4;omega)]
theorem uvj {M:Nat→Int}(hd:Dg (fw M)):∀w,w≤4→∀v,v<w→∀f t,f<4→t<4→fwN M w (at4 f t)≤fwN M w (at4 f v)+fwN M w (at4 v t):=by
 have hdw:∀w,w≤4→Dg (fwN M w):=by
  intro w hw n hn
  have key:∀d w,w+d=4→fwN M 4 (at4 n n)≤fwN M w (at4 n n):=by
   intro d
   induction d with
   |zero=>intro w e;rw [show w=4 by omega];exact Int.le_refl _
   |succ d ih=>intro w e;exact Int.le_trans (ih (w+1) (by omega)) (upR _ _ _ _)
  exact Int.le_trans (hd n hn) (key (4-w) w (by omega))
 intro w
 induction w with
 |zero=>intro _ v hv;omega
 | succ w ih=>
  intro hw v hv f t hf ht
  have ih:=ih (by omega)
  have hD:=hdw w (by omega)
  have hw4:w<4:=by omega
  rw [uhK hw4 hD hf ht,uhK hw4 hD hf (by omega:v<4),uhK hw4 hD (by omega:v<4) ht]
  have dw:=hD w hw4
  have m1:=uhz (fwN M w (at4 f t)) (fwN M w (at4 f w)+fwN M w (at4 w t))
  have m2:=ujY (fwN M w (at4 f t)) (fwN M w (at4 f w)+fwN M w (at4 w t))
  by_cases e:v=w
  ·subst e
   rcases upO (fwN M v (at4 f v)) (fwN M v (at4 f v)+fwN M v (at4 v v))with q|q<;>rcases upO (fwN M v (at4 v t)) (fwN M v (at4 v v)+fwN M v (at4 v t))with r|r<;>rw [q,r]<;>omega
  ·have c1:=ih v (by omega) f t hf ht
   have c2:=ih v (by omega) f w hf hw4
   have c3:=ih v (by omega) w t hw4 ht
   have c4:=ih v (by omega) w w hw4 hw4
   rcases upO (fwN M w (at4 f v)) (fwN M w (at4 f w)+fwN M w (at4 w v))with q|q<;>rcases upO (fwN M w (at4 v t)) (fwN M w (at4 v w)+fwN M w (at4 w t))with r|r<;>rw [q,r]<;>omega
theorem uws {M:Nat→Int}(hd:Dg (fw M)):Clo (fw M):=fun f v t hf hv ht=>uvj hd 4 (Nat.le_refl _) v hv f t hf ht
theorem urq {v:Nat} {M:Nat→Int}(hv:v<4)(hc:Clo M) {k:Nat}(hk:k<16) {i:Nat}(hi:i<16):stp v M k i=M i:=by
 unfold stp lst
 split
 ·rename_i e
  subst e
  refine uuH ?_
  have:=hc (i/4) v (i%4) (by omega) hv (by omega)
  rwa [show at4 (i/4) (i%4)=i by unfold at4;omega]at this
 ·rfl
def uka (A B:Nat→Int):Prop:=∀i,i<16→A i=B i
theorem ueP {f t:Nat}(hf:f<4)(ht:t<4):at4 f t<16:=by unfold at4;omega
theorem ueR {A B:Nat→Int}(h:uka A B)(hc:Clo B):Clo A:=fun f v t hf hv ht=>by
 rw [h _ (ueP hf ht),h _ (ueP hf hv),h _ (ueP hv ht)];exact hc f v t hf hv ht
theorem usI {v:Nat} {M:Nat→Int}(hv:v<4)(hc:Clo M):∀k,k≤16→uka (phN v M k) M:=by
 intro k
 induction k with
 |zero=>intro _ i _;rfl
 | succ k ih=>
  intro hk i hi
  have ih:=ih (by omega)
  show stp v (phN v M k) k i=_
  rw [urq hv (ueR ih hc) (by omega) hi]
  exact ih i hi
theorem urM {M:Nat→Int}(hc:Clo M):∀v,v≤4→uka (fwN M v) M:=by
 intro v
 induction v with
 |zero=>intro _ i _;rfl
 | succ v ih=>
  intro hv i hi
  have ih:=ih (by omega)
  show phN v (fwN M v) 16 i=_
  rw [usI (by omega) (ueR ih hc) 16 (Nat.le_refl _) i hi]
  exact ih i hi
theorem ukv {M:Nat→Int}(hc:Clo M):uka (fw M) M:=urM hc 4 (Nat.le_refl _)
theorem uvx {A B:Nat→Int}(h:∀i,A i≤B i)(hd:Dg A):Dg B:=fun n hn=>Int.le_trans (hd n hn) (h _)
theorem ukV {M:Nat→Int}(hd:Dg (clo M)):Clo (clo M):=by
 have h1:Dg (fw M):=uvx (fun i=>Int.le_trans (usf _ _) (Int.le_trans (usf _ _) (usf (fw M) i))) hd
 have c1:=uws h1
 have s2:=ukv c1
 have c2:=ueR s2 c1
 have s3:=ukv c2
 have c3:=ueR s3 c2
 exact ueR (ukv c3) c3
theorem upz {M:Nat→Int}(hc:Clo M)(hd:Dg M)(s:Nat)(hs:s<4):Sol M (fun t=>M (at4 s t)):=fun f t hf ht=>by
 have:=hc s f t hs hf ht
 show M (at4 s t)-M (at4 s f)≤_
 omega
theorem ux4 {M:Nat→Int} {x:Nat→Int}(h:Sol M x):Dg M:=fun n hn=>by
 have:=h n n hn hn
 omega
theorem uxE {M:Nat→Int}:okD (clo M)=true↔∃x,Sol M x:=by
 rw [ugD]
 constructor
 ·intro h
  exact⟨_,uez.1 (upz (ukV h) h 0 (by omega))⟩
 ·rintro⟨x,hx⟩
  exact ux4 (uez.2 hx)
theorem uqA {A B:Nat→Int}(h:uka A B):uka (fw A) (fw B):=by
 have hs:∀v k X Y,v<4→k<16→uka X Y→uka (stp v X k) (stp v Y k):=fun v k X Y hv hk hXY i hi=>by
  unfold stp lst
  rw [hXY _ (ueP (by omega:k/4<4) hv),hXY _ (ueP hv (by omega:k%4<4)),hXY i hi]
 have hp:∀v X Y,v<4→uka X Y→∀k,k≤16→uka (phN v X k) (phN v Y k):=fun v X Y hv hXY k=>by
  induction k with
  |zero=>exact fun _=>hXY
  |succ k ih=>exact fun hk=>hs v k _ _ hv (by omega) (ih (by omega))
 have hf:∀v,v≤4→uka (fwN A v) (fwN B v):=fun v=>by
  induction v with
  |zero=>exact fun _=>h
  |succ v ih=>exact fun hv=>hp v _ _ (by omega) (ih (by omega)) 16 (Nat.le_refl _)
 exact hf 4 (Nat.le_refl _)
theorem urG {M:Nat→Int} {n:Nat}(h:uka (fwP M (n+1)) (fwP M n)):∀k,uka (fwP M (n+1+k)) (fwP M (n+1)):=by
 intro k
 induction k with
 |zero=>intro i _;rfl
 | succ k ih=>
  intro i hi
  show fw (fwP M (n+1+k)) i=_
  rw [uqA ih i hi]
  exact uqA h i hi
def cf (v k i:Nat):Int:=if i<k then(if i=at4 v v then 2 else if i/4=v∨i%4=v then 3 else 6)else 1
theorem uzH {v:Nat} {M:Nat→Int} {b:Int}(hv:v<4)(hb:0≤b)(h:∀i,i<16→ -b≤M i):∀k,k≤16→∀i,i<16→ -(cf v k i*b)≤phN v M k i:=by
 intro k
 induction k with
 |zero=>intro _ i hi;have:=h i hi;unfold cf;simp only [Nat.not_lt_zero,if_false,phN];omega
 | succ k ih=>
  intro hk i hi
  have ih:=ih (by omega)
  show _≤stp v (phN v M k) k i
  unfold stp lst
  have c1:=ih i hi
  by_cases e:i=k
  ·subst e
   rw [if_pos rfl]
   have c2:=ih (at4 (i/4) v) (ueP (by omega) hv)
   have c3:=ih (at4 v (i%4)) (ueP hv (by omega))
   have key:cf v i (at4 (i/4) v)+cf v i (at4 v (i%4))≤cf v (i+1) i∧cf v i i=1∧1≤cf v (i+1) i:=by
    unfold cf at4
    have hv':v=0∨v=1∨v=2∨v=3:=by omega
    have hi':i=0∨i=1∨i=2∨i=3∨i=4∨i=5∨i=6∨i=7∨i=8∨i=9∨i=10∨i=11∨i=12∨i=13∨i=14∨i=15:=by omega
    rcases hv' with rfl|rfl|rfl|rfl<;>rcases hi' with rfl|rfl|rfl|rfl|rfl|rfl|rfl|rfl|rfl|rfl|rfl|rfl|rfl|rfl|rfl|rfl<;>decide
   obtain⟨k1,k2,k3⟩:=key
   have q1:(cf v i (at4 (i/4) v)+cf v i (at4 v (i%4)))*b≤cf v (i+1) i*b:=Int.mul_le_mul_of_nonneg_right k1 hb
   have q2:1*b≤cf v (i+1) i*b:=Int.mul_le_mul_of_nonneg_right k3 hb
   rw [Int.add_mul]at q1
   rw [k2]at c1
   generalize cf v (i+1) i*b=z at *
   generalize cf v i (at4 (i/4) v)*b=z1 at *
   generalize cf v i (at4 v (i%4))*b=z2 at *
   unfold mn
   split<;>omega
  ·rw [if_neg e]
   have:cf v (k+1) i=cf v k i:=by
    unfold cf
    by_cases q:i<k
    ·rw [if_pos q,if_pos (by omega)]
    ·rw [if_neg q,if_neg (by omega)]
   rw [this]
   exact c1
theorem utJ {v:Nat} {M:Nat→Int} {b:Int}(hv:v<4)(hb:0≤b)(h:∀i,i<16→ -b≤M i) {k:Nat}(hk:k≤16) {i:Nat}(hi:i<16): -(6*b)≤phN v M k i:=by
 have q:=uzH hv hb h k hk i hi
 have c:cf v k i≤6∧0≤cf v k i:=by
  unfold cf
  repeat' split
  all_goals omega
 have:=Int.mul_le_mul_of_nonneg_right c.1 hb
 omega
theorem utz {M:Nat→Int} {b:Int}(hb:0≤b)(h:∀i,i<16→ -b≤M i):∀v,v≤4→∀i,i<16→ -(6^v*b)≤fwN M v i:=by
 intro v
 induction v with
 |zero=>intro _ i hi;have:=h i hi;show -(6^0*b)≤M i;simpa using this
 | succ v ih=>
  intro hv i hi
  have hp:(0:Int)≤6^v*b:=Int.mul_nonneg (Int.pow_nonneg (by decide)) hb
  have:=utJ (by omega:v<4) hp (ih (by omega)) (Nat.le_refl 16) hi
  rw [Int.pow_succ,Int.mul_comm (6^v) 6,Int.mul_assoc]
  exact this
end Go.Eng.Dif

namespace Go.Eng.Dif
def mx (a b:Int):Int:=if b>a then b else a
theorem ubN {a b n:Int}:mx a b≤n↔a≤n∧b≤n:=by unfold mx;split<;>omega
theorem ucE {a b n:Int}:n≤mn a b↔n≤a∧n≤b:=by unfold mn;split<;>omega
structure Six where
 l0:Int
 h0:Int
 l1:Int
 h1:Int
 l2:Int
 h2:Int
 al:Int
 ah:Int
 bl:Int
 bh:Int
 cl:Int
 ch:Int
structure Fits (s:Six)(n p q:Int):Prop where
 n0:s.l0≤n
 n1:n≤s.h0
 p0:s.l1≤p
 p1:p≤s.h1
 q0:s.l2≤q
 q1:q≤s.h2
 a0:s.al≤p-n
 a1:p-n≤s.ah
 b0:s.bl≤q-n
 b1:q-n≤s.bh
 c0:s.cl≤q-p
 c1:q-p≤s.ch
section
variable (s:Six) (n:Int)
def bL :Int:=mx s.l1 (n+s.al)
def bH :Int:=mn s.h1 (n+s.ah)
def cL :Int:=mx s.l2 (n+s.bl)
def cH :Int:=mn s.h2 (n+s.bh)
def xL :Int:=mx (bL s n) (cL s n-s.ch)
def xH :Int:=mn (bH s n) (cH s n-s.cl)
def yL :Int:=mx (cL s n) (bL s n+s.cl)
def yH :Int:=mn (cH s n) (bH s n+s.ch)
def goB :Bool:=decide (bL s n≤bH s n∧cL s n≤cH s n)&&decide (s.cl≤s.ch∧xL s n≤xH s n∧yL s n≤yH s n)
end
theorem uq2 {s:Six} {n p q:Int}(h:Fits s n p q):goB s n=true∧xL s n≤p∧p≤xH s n∧yL s n≤q∧q≤yH s n:=by
 have b0:bL s n≤p:=ubN.2 ⟨h.p0,by have:=h.a0;omega⟩
 have b1:p≤bH s n:=ucE.2 ⟨h.p1,by have:=h.a1;omega⟩
 have c0:cL s n≤q:=ubN.2 ⟨h.q0,by have:=h.b0;omega⟩
 have c1:q≤cH s n:=ucE.2 ⟨h.q1,by have:=h.b1;omega⟩
 have d0:=h.c0
 have d1:=h.c1
 have x0:xL s n≤p:=ubN.2 ⟨b0,by omega⟩
 have x1:p≤xH s n:=ucE.2 ⟨b1,by omega⟩
 have y0:yL s n≤q:=ubN.2 ⟨c0,by omega⟩
 have y1:q≤yH s n:=ucE.2 ⟨c1,by omega⟩
 refine⟨?_,x0,x1,y0,y1⟩
 unfold goB
 rw [Bool.and_eq_true,decide_eq_true_eq,decide_eq_true_eq]
 omega
theorem uA2 {s:Six} {n p:Int}(h0:s.l0≤n)(h1:n≤s.h0)(hg:goB s n=true)(a:xL s n≤p)(b:p≤xH s n):∃q,Fits s n p q:=by
 unfold goB at hg
 rw [Bool.and_eq_true,decide_eq_true_eq,decide_eq_true_eq]at hg
 obtain⟨⟨g1,g2⟩,g3,_,_⟩:=hg
 have a1:=ubN.1 a
 have b1:=ucE.1 b
 have a2:=ubN.1 a1.1
 have b2:=ucE.1 b1.1
 refine⟨mx (cL s n) (p+s.cl),?_⟩
 have q0:=(ubN (a:=cL s n) (b:=p+s.cl)).1 (Int.le_refl _)
 have q1:mx (cL s n) (p+s.cl)≤cH s n:=ubN.2 ⟨g2,by omega⟩
 have q2:mx (cL s n) (p+s.cl)≤p+s.ch:=ubN.2 ⟨by omega,by omega⟩
 have e0:=ubN.1 q0.1
 have e1:=ucE.1 q1
 exact⟨h0,h1,a2.1,b2.1,e0.1,e1.1,by omega,by omega,by omega,by omega,by omega,by omega⟩
theorem uzW {s:Six} {n q:Int}(h0:s.l0≤n)(h1:n≤s.h0)(hg:goB s n=true)(a:yL s n≤q)(b:q≤yH s n):∃p,Fits s n p q:=by
 unfold goB at hg
 rw [Bool.and_eq_true,decide_eq_true_eq,decide_eq_true_eq]at hg
 obtain⟨⟨g1,g2⟩,g3,_,_⟩:=hg
 have a1:=ubN.1 a
 have b1:=ucE.1 b
 have a2:=ubN.1 a1.1
 have b2:=ucE.1 b1.1
 refine⟨mx (bL s n) (q-s.ch),?_⟩
 have q0:=(ubN (a:=bL s n) (b:=q-s.ch)).1 (Int.le_refl _)
 have q1:mx (bL s n) (q-s.ch)≤bH s n:=ubN.2 ⟨g1,by omega⟩
 have q2:mx (bL s n) (q-s.ch)≤q-s.cl:=ubN.2 ⟨by omega,by omega⟩
 have e0:=ubN.1 q0.1
 have e1:=ucE.1 q1
 exact⟨h0,h1,e0.1,e1.1,a2.1,b2.1,by omega,by omega,by omega,by omega,by omega,by omega⟩
structure Bnd where
 l0:Int
 h0:Int
 l1:Int
 h1:Int
 l2:Int
 h2:Int
def bd0 :Bnd:=⟨9999,-1,9999,-1,9999,-1⟩
def bdS (s:Six)(n:Int)(b:Bnd):Bnd:=if goB s n=true then⟨mn b.l0 n,mx b.h0 n,mn b.l1 (xL s n),mx b.h1 (xH s n),mn b.l2 (yL s n),mx b.h2 (yH s n)⟩else b
def bdN (s:Six):Nat→Bnd
 |0=>bd0
 |k+1=>bdS s (s.l0+(k:Int)) (bdN s k)
structure Sml (s:Six):Prop where
 l0:0≤s.l0
 h0:s.h0≤2000
 l1:0≤s.l1
 h1:s.h1≤2000
 l2:0≤s.l2
 h2:s.h2≤2000
structure urh (s:Six)(k:Nat)(b:Bnd):Prop where
 none:b.h0<0→b=bd0∧∀j:Nat,j<k→goB s (s.l0+(j:Int))=false
 le:∀n p q,Fits s n p q→n<s.l0+(k:Int)→(b.l0≤n∧n≤b.h0)∧(b.l1≤p∧p≤b.h1)∧(b.l2≤q∧q≤b.h2)
 e0:0≤b.h0→(∃p q,Fits s b.l0 p q)∧∃p q,Fits s b.h0 p q
 e1:0≤b.h0→(∃n q,Fits s n b.l1 q)∧∃n q,Fits s n b.h1 q
 e2:0≤b.h0→(∃n p,Fits s n p b.l2)∧∃n p,Fits s n p b.h2
theorem ukr {a b:Int} {P:Int→Prop}(ha:P a)(hb:P b):P (mn a b):=by rcases upO a b with h|h<;>rw [h]<;>assumption
theorem ulg {a b:Int} {P:Int→Prop}(ha:P a)(hb:P b):P (mx a b):=by unfold mx;split<;>assumption
theorem um4 (a b:Int):a≤mx a b:=by unfold mx;split<;>omega
theorem uma (a b:Int):b≤mx a b:=by unfold mx;split<;>omega
theorem uuu {s:Six}(hs:Sml s):∀{k:Nat},s.l0+(k:Int)≤s.h0+1∨k=0→urh s k (bdN s k):=by
 intro k
 induction k with
 | zero=>
  intro _
  refine⟨fun _=>⟨rfl,fun j hj=>by omega⟩,fun n p q h hn=> ?_,fun h=> ?_,fun h=> ?_,fun h=> ?_⟩
  ·have:=h.n0;omega
  all_goals (have:bdN s 0=bd0:=rfl);rw [this]at h;exact absurd h (by decide)
 | succ k ih=>
  intro hk
  have hk':s.l0+(k:Int)≤s.h0:=by omega
  have ih:=ih (by omega)
  have l0:=hs.l0
  have hn0:s.l0≤s.l0+(k:Int):=by omega
  obtain⟨n,hn⟩:∃n,n=s.l0+(k:Int):=⟨_,rfl⟩
  rw [←hn]at hk' hn0
  have hrec:bdN s (k+1)=bdS s n (bdN s k):=by rw [hn];rfl
  rw [hrec]
  generalize bdN s k=b at ih
  unfold bdS
  cases hg:goB s n with
  | false=>
   rw [if_neg (by simp)]
   refine⟨fun h=>⟨(ih.none h).1,fun j hj=> ?_⟩,fun m p q h hm=> ?_,ih.e0,ih.e1,ih.e2⟩
   ·rcases Nat.lt_succ_iff_lt_or_eq.1 hj with e|e
    ·exact(ih.none h).2 j e
    ·rw [e,←hn];exact hg
   ·by_cases e:m=n
    ·subst e;have:=(uq2 h).1;rw [hg]at this;cases this
    ·exact ih.le m p q h (by omega)
  | true=>
   rw [if_pos rfl]
   have g:=hg
   unfold goB at g
   rw [Bool.and_eq_true,decide_eq_true_eq,decide_eq_true_eq]at g
   obtain⟨_,_,gx,gy⟩:=g
   obtain⟨qx,fx0⟩:=uA2 hn0 hk' hg (Int.le_refl _) gx
   obtain⟨qx',fx1⟩:=uA2 hn0 hk' hg gx (Int.le_refl _)
   obtain⟨px,fy0⟩:=uzW hn0 hk' hg (Int.le_refl _) gy
   obtain⟨px',fy1⟩:=uzW hn0 hk' hg gy (Int.le_refl _)
   have hge:=uma b.h0 n
   have bs1:=fx0.p0;have bs2:=fx1.p1;have bs3:=fy0.q0;have bs4:=fy1.q1
   have sl1:=hs.l1;have sh1:=hs.h1;have sl2:=hs.l2;have sh2:=hs.h2;have sh0:=hs.h0
   refine⟨fun h=> ?_,fun m p q h hm=> ?_,fun _=> ?_,fun _=> ?_,fun _=> ?_⟩
   ·exact absurd h (by show ¬mx b.h0 n<0;omega)
   ·show(mn b.l0 n≤m∧m≤mx b.h0 n)∧(mn b.l1 (xL s n)≤p∧p≤mx b.h1 (xH s n))∧(mn b.l2 (yL s n)≤q∧q≤mx b.h2 (yH s n))
    by_cases e:m=n
    ·subst e
     have f:=(uq2 h).2
     exact⟨⟨ujY _ _,uma _ _⟩,⟨Int.le_trans (ujY _ _) f.1,Int.le_trans f.2.1 (uma _ _)⟩,⟨Int.le_trans (ujY _ _) f.2.2.1,Int.le_trans f.2.2.2 (uma _ _)⟩⟩
    ·have f:=ih.le m p q h (by omega)
     exact⟨⟨Int.le_trans (uhz _ _) f.1.1,Int.le_trans f.1.2 (um4 _ _)⟩,⟨Int.le_trans (uhz _ _) f.2.1.1,Int.le_trans f.2.1.2 (um4 _ _)⟩,⟨Int.le_trans (uhz _ _) f.2.2.1,Int.le_trans f.2.2.2 (um4 _ _)⟩⟩
   ·show(∃p q,Fits s (mn b.l0 n) p q)∧∃p q,Fits s (mx b.h0 n) p q
    by_cases hb:0≤b.h0
    ·exact⟨ukr (P:=fun z=>∃p q,Fits s z p q) (ih.e0 hb).1 ⟨_,_,fx0⟩,ulg (P:=fun z=>∃p q,Fits s z p q) (ih.e0 hb).2 ⟨_,_,fx0⟩⟩
    ·rw [(ih.none (by omega)).1]
     have a:mn bd0.l0 n=n:=by show mn 9999 n=n;unfold mn;rw [if_pos (by omega)]
     have a':mx bd0.h0 n=n:=by show mx (-1) n=n;unfold mx;rw [if_pos (by omega)]
     rw [a,a']
     exact⟨⟨_,_,fx0⟩,⟨_,_,fx0⟩⟩
   ·show(∃m q,Fits s m (mn b.l1 (xL s n)) q)∧∃m q,Fits s m (mx b.h1 (xH s n)) q
    by_cases hb:0≤b.h0
    ·exact⟨ukr (P:=fun z=>∃m q,Fits s m z q) (ih.e1 hb).1 ⟨_,_,fx0⟩,ulg (P:=fun z=>∃m q,Fits s m z q) (ih.e1 hb).2 ⟨_,_,fx1⟩⟩
    ·rw [(ih.none (by omega)).1]
     have a:mn bd0.l1 (xL s n)=xL s n:=by show mn 9999 _=_;unfold mn;rw [if_pos (by omega)]
     have a':mx bd0.h1 (xH s n)=xH s n:=by show mx (-1) _=_;unfold mx;rw [if_pos (by omega)]
     rw [a,a']
     exact⟨⟨_,_,fx0⟩,⟨_,_,fx1⟩⟩
   ·show(∃m p,Fits s m p (mn b.l2 (yL s n)))∧∃m p,Fits s m p (mx b.h2 (yH s n))
    by_cases hb:0≤b.h0
    ·exact⟨ukr (P:=fun z=>∃m p,Fits s m p z) (ih.e2 hb).1 ⟨_,_,fy0⟩,ulg (P:=fun z=>∃m p,Fits s m p z) (ih.e2 hb).2 ⟨_,_,fy1⟩⟩
    ·rw [(ih.none (by omega)).1]
     have a:mn bd0.l2 (yL s n)=yL s n:=by show mn 9999 _=_;unfold mn;rw [if_pos (by omega)]
     have a':mx bd0.h2 (yH s n)=yH s n:=by show mx (-1) _=_;unfold mx;rw [if_pos (by omega)]
     rw [a,a']
     exact⟨⟨_,_,fy0⟩,⟨_,_,fy1⟩⟩
end Go.Eng.Dif

namespace Go.Eng.Dif
structure Btw where
 f:Nat
 t:Nat
 lo:Int
 hi:Int
def M00 :Nat→Int:=fun i=>if i/4=i%4 then 0 else 2000
def un8 (M:Nat→Int)(b:Btw):Nat→Int:=lst (lst M (at4 b.f b.t) b.hi) (at4 b.t b.f) (-b.lo)
def uo3 (M:Nat→Int):List Btw→Nat→Int
 |[]=>M
 |b::l=>uo3 (un8 M b) l
def Btw.Is (b:Btw)(x:Nat→Int):Prop:=b.lo≤x b.t-x b.f∧x b.t-x b.f≤b.hi
theorem uuB {f t f' t':Nat}(ht:t<4)(ht':t'<4)(h:at4 f t=at4 f' t'):f=f'∧t=t':=by unfold at4 at h;omega
theorem uow {M:Nat→Int} {f t:Nat}(hf:f<4)(ht:t<4) {n:Int} {x:Nat→Int}:Sol (lst M (at4 f t) n) x↔Sol M x∧x t-x f≤n:=by
 constructor
 ·intro h
  refine⟨fun a b ha hb=>Int.le_trans (h a b ha hb) (ulM _ _ _ _),?_⟩
  have:=h f t hf ht
  unfold lst at this
  rw [if_pos rfl]at this
  exact Int.le_trans this (ujY _ _)
 ·rintro⟨h,hn⟩ a b ha hb
  unfold lst
  split
  ·rename_i e
   obtain⟨rfl,rfl⟩:=uuB hb ht e
   exact ucE.2 ⟨h _ _ ha hb,hn⟩
  ·exact h a b ha hb
theorem usH {M:Nat→Int} {b:Btw}(hf:b.f<4)(ht:b.t<4) {x:Nat→Int}:Sol (un8 M b) x↔Sol M x∧b.Is x:=by
 unfold un8 Btw.Is
 rw [uow ht hf,uow hf ht]
 constructor
 ·rintro⟨⟨h1,h2⟩,h3⟩;exact⟨h1,by omega,h2⟩
 ·rintro⟨h1,h2,h3⟩;exact⟨⟨h1,h3⟩,by omega⟩
theorem um9 {l:List Btw}:∀{M:Nat→Int} {x:Nat→Int},(∀b∈l,b.f<4∧b.t<4)→(Sol (uo3 M l) x↔Sol M x∧∀b∈l,b.Is x):=by
 induction l with
 |nil=>intro M x _;exact⟨fun h=>⟨h,fun b hb=>by cases hb⟩,fun h=>h.1⟩
 | cons b l ih=>
  intro M x hl
  have hb:=hl b (by simp)
  show Sol (uo3 (un8 M b) l) x↔_
  rw [ih fun c hc=>hl c (List.mem_cons_of_mem _ hc),usH hb.1 hb.2]
  constructor
  ·rintro⟨⟨h1,h2⟩,h3⟩
   refine⟨h1,fun c hc=> ?_⟩
   rcases List.mem_cons.1 hc with rfl|hc
   ·exact h2
   ·exact h3 c hc
  ·rintro⟨h1,h2⟩
   exact⟨⟨h1,h2 b (by simp)⟩,fun c hc=>h2 c (List.mem_cons_of_mem _ hc)⟩
theorem ueY {l m:List Btw}:∀{M:Nat→Int},uo3 M (l++m)=uo3 (uo3 M l) m:=by
 induction l with
 |nil=>intro M;rfl
 |cons b l ih=>intro M;exact ih
theorem uu4 (M:Nat→Int)(b:Btw)(i:Nat):un8 M b i≤M i:=Int.le_trans (ulM _ _ _ _) (ulM _ _ _ _)
theorem uqL {l:List Btw}:∀{M:Nat→Int} (i:Nat),uo3 M l i≤M i:=by
 induction l with
 |nil=>intro M i;exact Int.le_refl _
 |cons b l ih=>intro M i;exact Int.le_trans (ih i) (uu4 M b i)
theorem utA {M:Nat→Int} {p:Nat} {n c:Int}(hn:c≤n) {i:Nat}(h:c≤M i):c≤lst M p n i:=by
 unfold lst
 split
 ·exact ucE.2 ⟨h,hn⟩
 ·exact h
theorem uum {c:Int} {l:List Btw}:∀{M:Nat→Int} {i:Nat},c≤M i→(∀b∈l,c≤b.hi∧c≤ -b.lo)→c≤uo3 M l i:=by
 induction l with
 |nil=>intro M i h _;exact h
 | cons b l ih=>
  intro M i h hl
  have hb:=hl b (by simp)
  exact ih (utA hb.2 (utA hb.1 h)) fun c hc=>hl c (List.mem_cons_of_mem _ hc)
theorem uzG {M:Nat→Int}(hd:Dg (clo M))(h0:M 0≤0) {s:Nat}(hs:s<4):(∀x,Sol M x→x s-x 0≤clo M (at4 0 s))∧Sol M (fun t=>clo M (at4 0 t))∧clo M (at4 0 0)=0:=by
 refine⟨fun x hx=>(uez.2 hx) 0 s (by omega) hs,uez.1 (upz (ukV hd) hd 0 (by omega)),?_⟩
 have a:=hd 0 (by omega)
 have b:=ulE M (at4 0 0)
 have e:at4 0 0=0:=rfl
 rw [e]at a b⊢
 omega
theorem uyE {M:Nat→Int}(hd:Dg (clo M))(h0:∀n,n<4→M (at4 n n)≤0) {s:Nat}(hs:s<4):(∀x,Sol M x→ -clo M (at4 s 0)≤x s-x 0)∧Sol M (fun t=>clo M (at4 s t))∧clo M (at4 s s)=0:=by
 refine⟨fun x hx=>by have:=(uez.2 hx) s 0 hs (by omega);omega,uez.1 (upz (ukV hd) hd s hs),?_⟩
 have a:=hd s hs
 have b:=ulE M (at4 s s)
 have c:=h0 s hs
 omega
end Go.Eng.Dif

namespace Go.Eng.Dif
structure Lk where
 a:Nat
 b:Nat
 lo:Int
 hi:Int
structure Fa where
 s:Nat
 lo:Int
 hi:Int
structure Tr (S:Nat)(ls:List Lk)(fs:List Fa)(x:Nat→Int):Prop where
 r:∀s,s<S→0≤x s∧x s≤2000
 l:∀k∈ls,k.lo≤x k.b-x k.a∧x k.b-x k.a≤k.hi
 f:∀k∈fs,k.lo≤x k.s∧x k.s≤k.hi
structure Okk (S:Nat)(ls:List Lk)(fs:List Fa):Prop where
 s1:1≤S
 s3:S≤3
 l:∀k∈ls,k.a<S∧k.b<S∧k.a≠k.b
 f:∀k∈fs,k.s<S
def bS (n:Nat):List Btw:=(List.range n).map fun s=>⟨0,s+1,0,2000⟩
def bL_ (ls:List Lk):List Btw:=ls.map fun k=>⟨k.a+1,k.b+1,k.lo,k.hi⟩
def bF (fs:List Fa):List Btw:=fs.map fun k=>⟨0,k.s+1,k.lo,k.hi⟩
def ukF (S:Nat)(ls:List Lk)(fs:List Fa):Nat→Int:=uo3 M00 (bS S++bL_ ls++bF fs)
theorem uuI {x:Nat→Int}(h:∀s,s<4→0≤x s∧x s≤2000):Sol M00 x:=by
 intro f t hf ht
 unfold M00
 rw [uiC ht,uiy ht]
 have a:=h f hf
 have b:=h t ht
 split
 ·rename_i e;subst e;omega
 ·omega
theorem uty {S:Nat} {ls:List Lk} {fs:List Fa}(h:Okk S ls fs):∀b∈bS S++bL_ ls++bF fs,b.f<4∧b.t<4:=by
 intro b hb
 have s3:=h.s3
 rcases List.mem_append.1 hb with hb|hb
 ·rcases List.mem_append.1 hb with hb|hb
  ·obtain⟨s,hs,rfl⟩:=List.mem_map.1 hb
   have:=List.mem_range.1 hs
   exact⟨by show 0<4;omega,by show s+1<4;omega⟩
  ·obtain⟨k,hk,rfl⟩:=List.mem_map.1 hb
   have:=h.l k hk
   exact⟨by show k.a+1<4;omega,by show k.b+1<4;omega⟩
 ·obtain⟨k,hk,rfl⟩:=List.mem_map.1 hb
  have:=h.f k hk
  exact⟨by show 0<4;omega,by show k.s+1<4;omega⟩
theorem upg {S:Nat} {ls:List Lk} {fs:List Fa}(h:Okk S ls fs) {y:Nat→Int}(hy:Sol (ukF S ls fs) y):Tr S ls fs (fun s=>y (s+1)-y 0):=by
 have q:=((um9 (uty h)).1 hy).2
 refine⟨fun s hs=> ?_,fun k hk=> ?_,fun k hk=> ?_⟩
 ·exact q ⟨0,s+1,0,2000⟩ (List.mem_append_left _ (List.mem_append_left _ (List.mem_map.2 ⟨s,List.mem_range.2 hs,rfl⟩)))
 ·have:=q ⟨k.a+1,k.b+1,k.lo,k.hi⟩ (List.mem_append_left _ (List.mem_append_right _ (List.mem_map.2 ⟨k,hk,rfl⟩)))
  unfold Btw.Is at this
  simp only at this⊢
  omega
 ·exact q ⟨0,k.s+1,k.lo,k.hi⟩ (List.mem_append_right _ (List.mem_map.2 ⟨k,hk,rfl⟩))
def nod (S:Nat)(x:Nat→Int)(n:Nat):Int:=if n=0 then 0 else if n≤S then x (n-1)else 0
theorem unu {S:Nat} {x:Nat→Int} {s:Nat}(h:s<S):nod S x (s+1)=x s:=by
 unfold nod
 rw [if_neg (by omega),if_pos (by omega)];rfl
theorem umD {S:Nat} {ls:List Lk} {fs:List Fa}(h:Okk S ls fs) {x:Nat→Int}(hx:Tr S ls fs x):Sol (ukF S ls fs) (nod S x):=by
 refine(um9 (uty h)).2 ⟨uuI fun s hs=> ?_,fun b hb=> ?_⟩
 ·unfold nod
  split
  ·omega
  ·split
   ·exact hx.r _ (by omega)
   ·omega
 ·rcases List.mem_append.1 hb with hb|hb
  ·rcases List.mem_append.1 hb with hb|hb
   ·obtain⟨s,hs,rfl⟩:=List.mem_map.1 hb
    have hs:=List.mem_range.1 hs
    have:=hx.r s hs
    show 0≤nod S x (s+1)-nod S x 0∧nod S x (s+1)-nod S x 0≤2000
    rw [unu hs]
    show 0≤x s-0∧x s-0≤2000
    omega
   ·obtain⟨k,hk,rfl⟩:=List.mem_map.1 hb
    have o:=h.l k hk
    have:=hx.l k hk
    show k.lo≤nod S x (k.b+1)-nod S x (k.a+1)∧nod S x (k.b+1)-nod S x (k.a+1)≤k.hi
    rw [unu o.1,unu o.2.1]
    exact this
  ·obtain⟨k,hk,rfl⟩:=List.mem_map.1 hb
   have o:=h.f k hk
   have:=hx.f k hk
   show k.lo≤nod S x (k.s+1)-nod S x 0∧nod S x (k.s+1)-nod S x 0≤k.hi
   rw [unu o]
   show k.lo≤x k.s-0∧x k.s-0≤k.hi
   omega
theorem umG (S:Nat)(ls:List Lk)(fs:List Fa)(n:Nat)(hn:n<4):ukF S ls fs (at4 n n)≤0:=by
 have:=uqL (M:=M00) (l:=bS S++bL_ ls++bF fs) (at4 n n)
 have e:M00 (at4 n n)=0:=by unfold M00;rw [uiC hn,uiy hn,if_pos rfl]
 unfold ukF
 omega
def hiD (S:Nat)(ls:List Lk)(fs:List Fa)(s:Nat):Int:=clo (ukF S ls fs) (at4 0 (s+1))
def loD (S:Nat)(ls:List Lk)(fs:List Fa)(s:Nat):Int:= -clo (ukF S ls fs) (at4 (s+1) 0)
def udg (S:Nat)(ls:List Lk)(fs:List Fa):Bool:=okD (clo (ukF S ls fs))
theorem uaG {S:Nat} {ls:List Lk} {fs:List Fa}(h:Okk S ls fs):udg S ls fs=true↔∃x,Tr S ls fs x:=by
 unfold udg
 rw [uxE]
 exact⟨fun ⟨y,hy⟩=>⟨_,upg h hy⟩,fun ⟨x,hx⟩=>⟨_,umD h hx⟩⟩
theorem uok {S:Nat} {ls:List Lk} {fs:List Fa}(h:Okk S ls fs)(hc:udg S ls fs=true) {s:Nat}(hs:s<S):(∀x,Tr S ls fs x→x s≤hiD S ls fs s)∧∃x,Tr S ls fs x∧x s=hiD S ls fs s:=by
 have s3:=h.s3
 have q:=uzG (ugD.1 hc) (umG S ls fs 0 (by omega)) (s:=s+1) (by omega)
 refine⟨fun x hx=> ?_,_,upg h q.2.1,?_⟩
 ·have:=q.1 _ (umD h hx)
  rw [unu hs]at this
  show x s≤clo _ _
  have e:nod S x 0=0:=rfl
  omega
 ·show clo _ (at4 0 (s+1))-clo _ (at4 0 0)=clo _ (at4 0 (s+1))
  rw [q.2.2];omega
theorem uoy {S:Nat} {ls:List Lk} {fs:List Fa}(h:Okk S ls fs)(hc:udg S ls fs=true) {s:Nat}(hs:s<S):(∀x,Tr S ls fs x→loD S ls fs s≤x s)∧∃x,Tr S ls fs x∧x s=loD S ls fs s:=by
 have s3:=h.s3
 have q:=uyE (ugD.1 hc) (fun n hn=>umG S ls fs n hn) (s:=s+1) (by omega)
 refine⟨fun x hx=> ?_,_,upg h q.2.1,?_⟩
 ·have:=q.1 _ (umD h hx)
  rw [unu hs]at this
  show -clo _ _≤x s
  have e:nod S x 0=0:=rfl
  omega
 ·show clo _ (at4 (s+1) (s+1))-clo _ (at4 (s+1) 0) = -clo _ (at4 (s+1) 0)
  rw [q.2.2];omega
def usD (s:Nat):List Fa→Int×Int
 |[]=>(0,2000)
 |k::l=>if k.s=s then(mx (usD s l).1 k.lo,mn (usD s l).2 k.hi)else usD s l
def uvi (a b:Nat):List Lk→Int×Int
 |[]=>(-2000,2000)
 | k::l=>
  let r:=uvi a b l
  let r:=if k.a=a∧k.b=b then(mx r.1 k.lo,mn r.2 k.hi)else r
  if k.a=b∧k.b=a then(mx r.1 (-k.hi),mn r.2 (-k.lo))else r
def six (S:Nat)(ls:List Lk)(fs:List Fa):Six:=
 ⟨(usD 0 fs).1,(usD 0 fs).2,if 1<S then(usD 1 fs).1 else 0,if 1<S then(usD 1 fs).2 else 0,if 2<S then(usD 2 fs).1 else 0,if 2<S then(usD 2 fs).2 else 0,
  if 1<S then(uvi 0 1 ls).1 else -2000,if 1<S then(uvi 0 1 ls).2 else 2000,if 2<S then(uvi 0 2 ls).1 else -2000,if 2<S then(uvi 0 2 ls).2 else 2000,if 2<S then(uvi 1 2 ls).1 else -2000,if 2<S then(uvi 1 2 ls).2 else 2000⟩
def tri (n p q:Int)(s:Nat):Int:=if s=0 then n else if s=1 then p else q
def Bnd.lo (b:Bnd)(s:Nat):Int:=if s=0 then b.l0 else if s=1 then b.l1 else b.l2
def Bnd.hi (b:Bnd)(s:Nat):Int:=if s=0 then b.h0 else if s=1 then b.h1 else b.h2
end Go.Eng.Dif

namespace Go.Eng.Dif
open Go.Eng.Few
structure Rep (S:Nat)(ls:List Lk)(fs:List Fa)(s:Six):Prop where
 sml:Sml s
 tr:∀n p q,Fits s n p q→Tr S ls fs (tri n p q)
 fit:∀x,Tr S ls fs x→Fits s (x 0) (if 1<S then x 1 else 0) (if 2<S then x 2 else 0)
def uyR (s:Six):Bnd:=bdN s (s.h0-s.l0+1).toNat
theorem utU {S:Nat} {ls:List Lk} {fs:List Fa} {s:Six}(h:Okk S ls fs)(r:Rep S ls fs s):udg S ls fs=decide (0≤(uyR s).h0):=by
 have hs:urh s (s.h0-s.l0+1).toNat (uyR s):=uuu r.sml (by omega)
 have hl:=r.sml.l0
 apply Bool.eq_iff_iff.2
 rw [uaG h,decide_eq_true_eq]
 constructor
 ·rintro⟨x,hx⟩
  have f:=r.fit x hx
  have q:=hs.le _ _ _ f (by have:=f.n1;omega)
  have:=f.n0
  omega
 ·intro h0
  obtain⟨p,q,f⟩:=(hs.e0 h0).1
  exact⟨_,r.tr _ _ _ f⟩
def f0 :Fa:=⟨0,0,0⟩
def lk0 :Lk:=⟨0,0,0,0⟩
def ujK (fs:List Fa)(c:Nat→Bool)(s:Nat):Nat→Int×Int
 |0=>(0,2000)
 |i+1=>if(decide ((fs.getD i f0).s=s)&&c i)=true then(mx (ujK fs c s i).1 (fs.getD i f0).lo,mn (ujK fs c s i).2 (fs.getD i f0).hi)else ujK fs c s i
theorem ug0 {fs:List Fa} {c:Nat→Bool} {s:Nat} {x:Int}:∀{n:Nat},((ujK fs c s n).1≤x∧x≤(ujK fs c s n).2)↔((0≤x∧x≤2000)∧∀i,i<n→c i=true→(fs.getD i f0).s=s→(fs.getD i f0).lo≤x∧x≤(fs.getD i f0).hi):=by
 intro n
 induction n with
 |zero=>exact⟨fun h=>⟨h,fun i hi=>absurd hi (Nat.not_lt_zero _)⟩,fun h=>h.1⟩
 | succ n ih=>
  simp only [ujK]
  split
  ·rename_i e
   rw [Bool.and_eq_true,decide_eq_true_eq]at e
   simp only [ubN,ucE]
   constructor
   ·rintro⟨⟨h1,h2⟩,h3,h4⟩
    have:=ih.1 ⟨h1,h3⟩
    refine⟨this.1,fun i hi hc hs=> ?_⟩
    rcases Nat.lt_succ_iff_lt_or_eq.1 hi with q|q
    ·exact this.2 i q hc hs
    ·subst q;exact⟨h2,h4⟩
   ·rintro⟨h1,h2⟩
    have a:=h2 n (by omega) e.2 e.1
    have b:=ih.2 ⟨h1,fun i hi=>h2 i (by omega)⟩
    exact⟨⟨b.1,a.1⟩,b.2,a.2⟩
  ·rename_i e
   rw [Bool.and_eq_true,decide_eq_true_eq]at e
   rw [ih]
   constructor
   ·rintro⟨h1,h2⟩
    refine⟨h1,fun i hi hc hs=> ?_⟩
    rcases Nat.lt_succ_iff_lt_or_eq.1 hi with q|q
    ·exact h2 i q hc hs
    ·subst q;exact absurd ⟨hs,hc⟩ e
   ·rintro⟨h1,h2⟩
    exact⟨h1,fun i hi=>h2 i (by omega)⟩
theorem ukd (fs:List Fa)(c:Nat→Bool)(s:Nat):∀n,0≤(ujK fs c s n).1∧(ujK fs c s n).2≤2000:=by
 intro n
 induction n with
 |zero=>exact⟨Int.le_refl _,Int.le_refl _⟩
 | succ n ih=>
  simp only [ujK]
  split
  ·exact⟨Int.le_trans ih.1 (um4 _ _),Int.le_trans (uhz _ _) ih.2⟩
  ·exact ih
def uo4 (ls:List Lk)(a b:Nat):Nat→Int×Int
 |0=>(-2000,2000)
 | i+1=>
  let r:=uo4 ls a b i
  let k:=ls.getD i lk0
  let r:=if k.a=a∧k.b=b then(mx r.1 k.lo,mn r.2 k.hi)else r
  if k.a=b∧k.b=a then(mx r.1 (-k.hi),mn r.2 (-k.lo))else r
theorem ug1 {ls:List Lk} {a b:Nat}(hab:a≠b) {d:Int}:∀{n:Nat},((uo4 ls a b n).1≤d∧d≤(uo4 ls a b n).2)↔((-2000≤d∧d≤2000)∧∀i,i<n→((ls.getD i lk0).a=a→(ls.getD i lk0).b=b→(ls.getD i lk0).lo≤d∧d≤(ls.getD i lk0).hi)∧((ls.getD i lk0).a=b→(ls.getD i lk0).b=a→(ls.getD i lk0).lo≤ -d∧ -d≤(ls.getD i lk0).hi)):=by
 intro n
 induction n with
 |zero=>exact⟨fun h=>⟨h,fun i hi=>absurd hi (Nat.not_lt_zero _)⟩,fun h=>h.1⟩
 | succ n ih=>
  simp only [uo4]
  generalize hk:ls.getD n lk0=k
  have last:∀{P:Nat→Prop},(∀i,i<n→P i)→P n→∀i,i<n+1→P i:=fun h1 h2 i hi=>by
   rcases Nat.lt_succ_iff_lt_or_eq.1 hi with q|q
   ·exact h1 i q
   ·subst q;exact h2
  by_cases e1:k.a=a∧k.b=b
  ·have e2:¬(k.a=b∧k.b=a):=fun q=>hab (e1.1.symm.trans q.1)
   rw [if_neg e2,if_pos e1]
   simp only [ubN,ucE]
   constructor
   ·rintro⟨⟨h1,h2⟩,h3,h4⟩
    have:=ih.1 ⟨h1,h3⟩
    refine⟨this.1,last this.2 ?_⟩
    rw [hk]
    exact⟨fun _ _=>⟨h2,h4⟩,fun q1 q2=>absurd ⟨q1,q2⟩ e2⟩
   ·rintro⟨h1,h2⟩
    have c:=h2 n (by omega)
    rw [hk]at c
    have c:=c.1 e1.1 e1.2
    have d:=ih.2 ⟨h1,fun i hi=>h2 i (by omega)⟩
    exact⟨⟨d.1,c.1⟩,d.2,c.2⟩
  ·rw [if_neg e1]
   by_cases e2:k.a=b∧k.b=a
   ·rw [if_pos e2]
    simp only [ubN,ucE]
    constructor
    ·rintro⟨⟨h1,h2⟩,h3,h4⟩
     have:=ih.1 ⟨h1,h3⟩
     refine⟨this.1,last this.2 ?_⟩
     rw [hk]
     exact⟨fun q1 q2=>absurd ⟨q1,q2⟩ e1,fun _ _=>by omega⟩
    ·rintro⟨h1,h2⟩
     have c:=h2 n (by omega)
     rw [hk]at c
     have c:=c.2 e2.1 e2.2
     have d:=ih.2 ⟨h1,fun i hi=>h2 i (by omega)⟩
     exact⟨⟨d.1,by omega⟩,d.2,by omega⟩
   ·rw [if_neg e2,ih]
    constructor
    ·rintro⟨h1,h2⟩
     refine⟨h1,last h2 ?_⟩
     rw [hk]
     exact⟨fun q1 q2=>absurd ⟨q1,q2⟩ e1,fun q1 q2=>absurd ⟨q1,q2⟩ e2⟩
    ·rintro⟨h1,h2⟩
     exact⟨h1,fun i hi=>h2 i (by omega)⟩
def kpN (fs:List Fa)(c:Nat→Bool):Nat→List Fa
 |0=>[]
 |i+1=>if c i=true then kpN fs c i++[fs.getD i f0]else kpN fs c i
theorem ugW {fs:List Fa} {c:Nat→Bool} {n:Nat} {k:Fa}:k∈kpN fs c n↔∃i,i<n∧c i=true∧k=fs.getD i f0:=by
 induction n with
 |zero=>simp [kpN]
 | succ n ih=>
  simp only [kpN]
  split
  ·rename_i q
   rw [List.mem_append,ih,List.mem_singleton]
   constructor
   ·rintro(⟨i,hi,e⟩|e)
    ·exact⟨i,by omega,e⟩
    ·exact⟨n,by omega,q,e⟩
   ·rintro⟨i,hi,hc,e⟩
    by_cases w:i=n
    ·subst w;exact .inr e
    ·exact .inl ⟨i,by omega,hc,e⟩
  ·rename_i q
   rw [ih]
   constructor
   ·rintro⟨i,hi,e⟩;exact⟨i,by omega,e⟩
   ·rintro⟨i,hi,hc,e⟩
    by_cases w:i=n
    ·subst w;exact absurd hc q
    ·exact⟨i,by omega,hc,e⟩
theorem ure {fs:List Fa} {i:Nat}(h:i<fs.length):fs.getD i f0∈fs:=by
 rw [List.getD_eq_getElem?_getD,List.getElem?_eq_getElem h];exact List.getElem_mem h
theorem uun {ls:List Lk} {i:Nat}(h:i<ls.length):ls.getD i lk0∈ls:=by
 rw [List.getD_eq_getElem?_getD,List.getElem?_eq_getElem h];exact List.getElem_mem h
theorem ux5 {ls:List Lk} {k:Lk}(h:k∈ls):∃i,i<ls.length∧ls.getD i lk0=k:=by
 obtain⟨i,hi,e⟩:=List.getElem_of_mem h
 exact⟨i,hi,by rw [List.getD_eq_getElem?_getD,List.getElem?_eq_getElem hi];exact e⟩
theorem uxz {fs:List Fa} {k:Fa}(h:k∈fs):∃i,i<fs.length∧fs.getD i f0=k:=by
 obtain⟨i,hi,e⟩:=List.getElem_of_mem h
 exact⟨i,hi,by rw [List.getD_eq_getElem?_getD,List.getElem?_eq_getElem hi];exact e⟩
theorem usR {S:Nat} {ls:List Lk} {fs:List Fa}(h:Okk S ls fs)(c:Nat→Bool) {n:Nat}(hn:n≤fs.length):Okk S ls (kpN fs c n):=
 ⟨h.s1,h.s3,h.l,fun k hk=>by obtain⟨i,hi,_,e⟩:=ugW.1 hk;rw [e];exact h.f _ (ure (by omega))⟩
def uoL (S:Nat)(ls:List Lk)(fs:List Fa)(c:Nat→Bool):Six:=
 ⟨(ujK fs c 0 fs.length).1,(ujK fs c 0 fs.length).2,if 1<S then(ujK fs c 1 fs.length).1 else 0,if 1<S then(ujK fs c 1 fs.length).2 else 0,if 2<S then(ujK fs c 2 fs.length).1 else 0,if 2<S then(ujK fs c 2 fs.length).2 else 0,
  if 1<S then(uo4 ls 0 1 ls.length).1 else -2000,if 1<S then(uo4 ls 0 1 ls.length).2 else 2000,if 2<S then(uo4 ls 0 2 ls.length).1 else -2000,if 2<S then(uo4 ls 0 2 ls.length).2 else 2000,if 2<S then(uo4 ls 1 2 ls.length).1 else -2000,if 2<S then(uo4 ls 1 2 ls.length).2 else 2000⟩
theorem urr {S:Nat} {ls:List Lk} {fs:List Fa}(h:Okk S ls fs)(c:Nat→Bool):Rep S ls (kpN fs c fs.length) (uoL S ls fs c):=by
 have s1:=h.s1
 have s3:=h.s3
 refine⟨?_,fun n p q hf=> ?_,fun x hx=> ?_⟩
 ·have a:=ukd fs c 0 fs.length
  have b:=ukd fs c 1 fs.length
  have d:=ukd fs c 2 fs.length
  refine⟨a.1,a.2,?_,?_,?_,?_⟩<;>simp only [uoL]<;>split<;>omega
 ·have o0:=ug0.1 ⟨hf.n0,hf.n1⟩
  have g1:1<S→_:=fun hs=>by
   have a:=hf.p0;have b:=hf.p1
   simp only [uoL,if_pos hs]at a b
   exact ug0.1 ⟨a,b⟩
  have g2:2<S→_:=fun hs=>by
   have a:=hf.q0;have b:=hf.q1
   simp only [uoL,if_pos hs]at a b
   exact ug0.1 ⟨a,b⟩
  have d1:1<S→_:=fun hs=>by
   have a:=hf.a0;have b:=hf.a1
   simp only [uoL,if_pos hs]at a b
   exact(ug1 (by decide:(0:Nat)≠1)).1 ⟨a,b⟩
  have d2:2<S→_:=fun hs=>by
   have a:=hf.b0;have b:=hf.b1
   simp only [uoL,if_pos hs]at a b
   exact(ug1 (by decide:(0:Nat)≠2)).1 ⟨a,b⟩
  have d3:2<S→_:=fun hs=>by
   have a:=hf.c0;have b:=hf.c1
   simp only [uoL,if_pos hs]at a b
   exact(ug1 (by decide:(1:Nat)≠2)).1 ⟨a,b⟩
  refine⟨fun s hs=> ?_,fun k hk=> ?_,fun k hk=> ?_⟩
  ·have:s=0∨s=1∨s=2:=by omega
   rcases this with rfl|rfl|rfl
   ·exact o0.1
   ·exact(g1 hs).1
   ·exact(g2 hs).1
  ·obtain⟨ka,kb,kn⟩:=h.l k hk
   obtain⟨i,hi,ek⟩:=ux5 hk
   subst ek
   generalize hk2:ls.getD i lk0=k at ka kb kn
   have ha:k.a=0∨k.a=1∨k.a=2:=by omega
   have hb:k.b=0∨k.b=1∨k.b=2:=by omega
   rcases ha with e|e|e<;>rcases hb with e'|e'|e'<;>rw [e,e']<;>simp only [tri]<;>simp only [e,e']at kn ka kb
   ·exact absurd rfl kn
   ·have:=((d1 (by omega)).2 i hi).1;rw [hk2]at this;exact this e e'
   ·have:=((d2 (by omega)).2 i hi).1;rw [hk2]at this;exact this e e'
   ·have:=((d1 (by omega)).2 i hi).2;rw [hk2]at this;have:=this e e';simp at this⊢;omega
   ·exact absurd rfl kn
   ·have:=((d3 (by omega)).2 i hi).1;rw [hk2]at this;exact this e e'
   ·have:=((d2 (by omega)).2 i hi).2;rw [hk2]at this;have:=this e e';simp at this⊢;omega
   ·have:=((d3 (by omega)).2 i hi).2;rw [hk2]at this;have:=this e e';simp at this⊢;omega
   ·exact absurd rfl kn
  ·obtain⟨i,hi,hc,rfl⟩:=ugW.1 hk
   have ks:=h.f _ (ure hi)
   have:(fs.getD i f0).s=0∨(fs.getD i f0).s=1∨(fs.getD i f0).s=2:=by omega
   rcases this with e|e|e<;>rw [e]<;>simp only [tri]
   ·exact o0.2 i hi hc e
   ·exact(g1 (by omega)).2 i hi hc e
   ·exact(g2 (by omega)).2 i hi hc e
 ·have o:∀s,s<S→(ujK fs c s fs.length).1≤x s∧x s≤(ujK fs c s fs.length).2:=fun s hs=>ug0.2 ⟨hx.r s hs,fun i hi hc e=>by rw [←e];exact hx.f _ (ugW.2 ⟨i,hi,hc,rfl⟩)⟩
  have d:∀a b,a<S→b<S→a≠b→(uo4 ls a b ls.length).1≤x b-x a∧x b-x a≤(uo4 ls a b ls.length).2:=fun a b ha hb hab=>(ug1 hab).2 ⟨by have:=hx.r a ha;have:=hx.r b hb;omega,fun i hi=>⟨fun e1 e2=>by rw [←e1,←e2];exact hx.l _ (uun hi),fun e1 e2=>by have:=hx.l _ (uun hi);rw [e1,e2]at this;omega⟩⟩
  have o0:=o 0 (by omega)
  have r0:=hx.r 0 (by omega)
  by_cases h1:1<S
  ·have o1:=o 1 h1
   have d1:=d 0 1 (by omega) h1 (by decide)
   have r1:=hx.r 1 h1
   by_cases h2:2<S
   ·have o2:=o 2 h2
    have d2:=d 0 2 (by omega) h2 (by decide)
    have d3:=d 1 2 h1 h2 (by decide)
    refine⟨?_,?_,?_,?_,?_,?_,?_,?_,?_,?_,?_,?_⟩<;>simp only [uoL,if_pos h1,if_pos h2]<;>omega
   ·refine⟨?_,?_,?_,?_,?_,?_,?_,?_,?_,?_,?_,?_⟩<;>simp only [uoL,if_pos h1,if_neg h2]<;>omega
  ·have h2:¬2<S:=by omega
   refine⟨?_,?_,?_,?_,?_,?_,?_,?_,?_,?_,?_,?_⟩<;>simp only [uoL,if_neg h1,if_neg h2]<;>omega
end Go.Eng.Dif

namespace Go.Eng.Dif
open Go.Eng.Few
def uk5 (o:List Int)(i:Nat):Bool:= !(o.contains (i:Int))
def uvl (b:Nat)(i:Nat):Bool:= !(b.testBit i)
def ujT (S:Nat)(ls:List Lk)(fs:List Fa)(c:Nat→Bool):Bool:=udg S ls (kpN fs c fs.length)
theorem uwE {S:Nat} {ls:List Lk} {fs:List Fa} {c:Nat→Bool} {x:Nat→Int}:Tr S ls (kpN fs c fs.length) x↔Tr S ls [] x∧∀i,i<fs.length→c i=true→(fs.getD i f0).lo≤x (fs.getD i f0).s∧x (fs.getD i f0).s≤(fs.getD i f0).hi:=by
 constructor
 ·intro h
  exact⟨⟨h.r,h.l,fun k hk=>by cases hk⟩,fun i hi hc=>h.f _ (ugW.2 ⟨i,hi,hc,rfl⟩)⟩
 ·rintro⟨h1,h2⟩
  refine⟨h1.r,h1.l,fun k hk=> ?_⟩
  obtain⟨i,hi,hc,rfl⟩:=ugW.1 hk
  exact h2 i hi hc
theorem ueh {S:Nat} {ls:List Lk} {fs:List Fa}(h:Okk S ls fs) {c:Nat→Bool}:ujT S ls fs c=true↔∃x,Tr S ls [] x∧∀i,i<fs.length→c i=true→(fs.getD i f0).lo≤x (fs.getD i f0).s∧x (fs.getD i f0).s≤(fs.getD i f0).hi:=by
 unfold ujT
 rw [uaG (usR h c (Nat.le_refl _))]
 exact⟨fun ⟨x,hx⟩=>⟨x,uwE.1 hx⟩,fun ⟨x,hx⟩=>⟨x,uwE.2 hx⟩⟩
theorem ujW {S:Nat} {ls:List Lk} {fs:List Fa}(h:Okk S ls fs) {c d:Nat→Bool}(hcd:∀i,i<fs.length→d i=true→c i=true)(hc:ujT S ls fs c=true):ujT S ls fs d=true:=by
 rw [ueh h]at hc⊢
 obtain⟨x,h1,h2⟩:=hc
 exact⟨x,h1,fun i hi hd=>h2 i hi (hcd i hi hd)⟩
theorem ugi {S:Nat} {ls:List Lk} {fs:List Fa}(h:Okk S ls fs) {c d:Nat→Bool}(hcd:∀i,i<fs.length→d i=c i):ujT S ls fs c=ujT S ls fs d:=
 Bool.eq_iff_iff.2 ⟨ujW h fun i hi q=>by rw [←hcd i hi];exact q,ujW h fun i hi q=>by rw [hcd i hi];exact q⟩
theorem ulk {S:Nat} {ls:List Lk} {fs:List Fa}(h:Okk S ls fs):Okk S ls []:=⟨h.s1,h.s3,h.l,fun k hk=>by cases hk⟩
theorem uiH {S:Nat} {ls:List Lk} {fs:List Fa}(h:Okk S ls fs) {c:Nat→Bool}(hc:∀i,i<fs.length→c i=false):ujT S ls fs c=udg S ls []:=by
 apply Bool.eq_iff_iff.2
 rw [ueh h,uaG (ulk h)]
 exact⟨fun ⟨x,h1,_⟩=>⟨x,h1⟩,fun ⟨x,h1⟩=>⟨x,h1,fun i hi q=>by rw [hc i hi]at q;cases q⟩⟩
theorem uhO {S:Nat} {ls:List Lk} {fs:List Fa}(h:Okk S ls fs) {c:Nat→Bool}(hc:∀i,i<fs.length→c i=true):ujT S ls fs c=udg S ls fs:=by
 apply Bool.eq_iff_iff.2
 rw [ueh h,uaG h]
 constructor
 ·rintro⟨x,h1,h2⟩
  refine⟨x,h1.r,h1.l,fun k hk=> ?_⟩
  obtain⟨i,hi,e⟩:=uxz hk
  rw [←e]
  exact h2 i hi (hc i hi)
 ·rintro⟨x,hx⟩
  exact⟨x,⟨hx.r,hx.l,fun k hk=>by cases hk⟩,fun i hi _=>hx.f _ (ure hi)⟩
def okF (S:Nat)(ls:List Lk)(fs:List Fa)(o:List Int):Bool:=ujT S ls fs (uk5 o)
theorem ul3 {S:Nat} {ls:List Lk} {fs:List Fa}(h:Okk S ls fs):okF S ls fs (uaQ fs.length)=udg S ls []:=
 uiH h fun i hi=>by unfold uk5;rw [List.contains_iff_mem.2 (uiD hi)];rfl
theorem uqn {S:Nat} {ls:List Lk} {fs:List Fa}(h:Okk S ls fs):okF S ls fs []=udg S ls fs:=
 uhO h fun i _=>rfl
def uwu (pt:Nat→Int)(o:List Int)(i:Nat):Bool:= !(o.contains (pt i))
def okP (S:Nat)(ls:List Lk)(fs:List Fa)(pt:Nat→Int)(o:List Int):Bool:=ujT S ls fs (uwu pt o)
def ofN (pt:Nat→Int)(b:Nat):Nat→Nat
 |0=>0
 |i+1=>if b.testBit (pt i).toNat=true then ofN pt b i |||2^i else ofN pt b i
theorem uuO {pt:Nat→Int} {b n i:Nat}:(ofN pt b n).testBit i=(decide (i<n)&&b.testBit (pt i).toNat):=by
 induction n with
 |zero=>simp [ofN]
 | succ n ih=>
  simp only [ofN]
  split
  ·rename_i q
   rw [Nat.testBit_or,ih,Nat.testBit_two_pow]
   by_cases e:n=i
   ·subst e;simp [q]
   ·rw [decide_eq_false e,Bool.or_false]
    congr 1
    apply decide_eq_decide.2
    omega
  ·rename_i q
   rw [ih]
   by_cases e:i=n
   ·subst e;simp [q]
   ·congr 1
    apply decide_eq_decide.2
    omega
theorem uru {S:Nat} {ls:List Lk} {fs:List Fa}(h:Okk S ls fs) {pt:Nat→Int} {P:Nat}(hP:P≤16)(hpt:∀i,i<fs.length→0≤pt i∧pt i<(P:Int))(b:Nat):ujT S ls fs (uvl (ofN pt b fs.length))=okP S ls fs pt (ufU b 16):=
 ugi h fun i hi=>by
  unfold uwu uvl
  congr 1
  have hp:=hpt i hi
  rw [uuO,decide_eq_true hi,Bool.true_and]
  apply Bool.eq_iff_iff.2
  rw [List.contains_iff_mem]
  have e:(((pt i).toNat:Nat):Int)=pt i:=by omega
  have:=uxm (P:=16) (b:=b) (p:=(pt i).toNat) (Nat.le_refl _) (by omega)
  rw [e]at this
  exact this
theorem ukz {S:Nat} {ls:List Lk} {fs:List Fa}(h:Okk S ls fs) {pt:Nat→Int} {P:Nat}(hpt:∀i,i<fs.length→0≤pt i∧pt i<(P:Int)):okP S ls fs pt (uaQ P)=udg S ls []:=
 uiH h fun i hi=>by
  have hp:=hpt i hi
  have:=uiD (n:=P) (i:=(pt i).toNat) (by omega)
  rw [show(((pt i).toNat:Nat):Int)=pt i by omega]at this
  unfold uwu
  rw [List.contains_iff_mem.2 this];rfl
theorem uqB {S:Nat} {ls:List Lk} {fs:List Fa}(h:Okk S ls fs)(pt:Nat→Int):okP S ls fs pt []=udg S ls fs:=
 uhO h fun i _=>rfl
theorem ukC {S:Nat} {ls:List Lk} {fs:List Fa}(h:Okk S ls fs) {pt:Nat→Int} {P:Nat}(hP:P≤16)(hpt:∀i,i<fs.length→0≤pt i∧pt i<(P:Int))(hf:udg S ls []=true):Agree P (okP S ls fs pt) (fun b=>ujT S ls fs (uvl (ofN pt b fs.length))):=
 ⟨hP,by rw [ukz h hpt];exact hf,fun b _=>uru h hP hpt b⟩
def unN (S:Nat)(ls:List Lk)(fs:List Fa):Nat→Nat→Option Nat
 |0,_=>none
 |k+1,i=>if udg S ls (fs.take (i+1))=true then unN S ls fs k (i+1)else some i
theorem upC {S:Nat} {ls:List Lk} {fs:List Fa}:∀{k i r:Nat},unN S ls fs k i=some r→i≤r∧r<i+k∧udg S ls (fs.take (r+1))=false∧∀j,i≤j→j<r→udg S ls (fs.take (j+1))=true:=by
 intro k
 induction k with
 |zero=>intro i r h;cases h
 | succ k ih=>
  intro i r h
  simp only [unN]at h
  split at h
  ·rename_i q
   obtain⟨h1,h2,h3,h4⟩:=ih h
   refine⟨by omega,by omega,h3,fun j a b=> ?_⟩
   by_cases e:j=i
   ·subst e;exact q
   ·exact h4 j (by omega) b
  ·rename_i q
   cases h
   exact⟨Nat.le_refl _,by omega,by simpa using q,fun j a b=>by omega⟩
theorem upu {S:Nat} {ls:List Lk} {fs:List Fa}:∀{k i:Nat},unN S ls fs k i=none→∀j,i≤j→j<i+k→udg S ls (fs.take (j+1))=true:=by
 intro k
 induction k with
 |zero=>intro i _ j a b;omega
 | succ k ih=>
  intro i h j a b
  simp only [unN]at h
  split at h
  ·rename_i q
   by_cases e:j=i
   ·subst e;exact q
   ·exact ih h j (by omega) (by omega)
  ·cases h
theorem uqS {fs:List Fa} {n i:Nat}(h:i<n):(fs.take n).getD i f0=fs.getD i f0:=by
 simp only [List.getD_eq_getElem?_getD,List.getElem?_take,if_pos h]
theorem usA {S:Nat} {ls:List Lk} {fs:List Fa}(h:Okk S ls fs):udg S ls fs=true↔∃x,Tr S ls [] x∧∀i,i<fs.length→(fs.getD i f0).lo≤x (fs.getD i f0).s∧x (fs.getD i f0).s≤(fs.getD i f0).hi:=by
 rw [←uhO h (c:=fun _=>true) (fun _ _=>rfl),ueh h]
 exact⟨fun ⟨x,h1,h2⟩=>⟨x,h1,fun i hi=>h2 i hi rfl⟩,fun ⟨x,h1,h2⟩=>⟨x,h1,fun i hi _=>h2 i hi⟩⟩
theorem ulO {S:Nat} {ls:List Lk} {fs:List Fa}(h:Okk S ls fs)(n:Nat):Okk S ls (fs.take n):=⟨h.s1,h.s3,h.l,fun k hk=>h.f k (List.mem_of_mem_take hk)⟩
theorem us4 {S:Nat} {ls:List Lk} {fs:List Fa}(h:Okk S ls fs)(n:Nat):udg S ls (fs.take n)=ujT S ls fs (fun i=>decide (i<n)):=by
 apply Bool.eq_iff_iff.2
 rw [usA (ulO h n),ueh h]
 constructor
 ·rintro⟨x,h1,h2⟩
  refine⟨x,h1,fun i hi hn=> ?_⟩
  have hn:=of_decide_eq_true hn
  have:=h2 i (by rw [List.length_take];omega)
  rwa [uqS hn]at this
 ·rintro⟨x,h1,h2⟩
  refine⟨x,h1,fun i hi=> ?_⟩
  rw [List.length_take]at hi
  rw [uqS (by omega)]
  exact h2 i (by omega) (decide_eq_true (by omega))
end Go.Eng.Dif

namespace Go.Eng.Dif
open Go.Eng.Few
theorem upH {fs:List Fa} {f:Fa} {i:Nat}(h:i<fs.length):(fs++[f]).getD i f0=fs.getD i f0:=by
 simp only [List.getD_eq_getElem?_getD]
 rw [List.getElem?_append_left h]
theorem ul8 (fs:List Fa)(f:Fa):(fs++[f]).getD fs.length f0=f:=by simp [List.getD_eq_getElem?_getD]
end Go.Eng.Dif

namespace Go.Eng.Dif
open Go.Eng.Few
theorem uv8 {g:Nat→Bool} {x:Int}:∀{n:Nat},x∈ubT g n↔∃i,i<n∧g i=true∧x=(i:Int):=by
 intro n
 induction n with
 |zero=>simp [ubT]
 | succ n ih=>
  simp only [ubT]
  split
  ·rename_i q
   rw [List.mem_append,ih]
   constructor
   ·rintro(⟨i,hi,hg,e⟩|hx)
    ·exact⟨i,by omega,hg,e⟩
    ·rw [List.mem_singleton]at hx
     exact⟨n,by omega,q,hx⟩
   ·rintro⟨i,hi,hg,e⟩
    by_cases c:i=n
    ·right;rw [List.mem_singleton,e,c]
    ·left;exact⟨i,by omega,hg,e⟩
  ·rename_i q
   rw [ih]
   constructor
   ·rintro⟨i,hi,hg,e⟩;exact⟨i,by omega,hg,e⟩
   ·rintro⟨i,hi,hg,e⟩
    by_cases c:i=n
    ·subst c;exact absurd hg q
    ·exact⟨i,by omega,hg,e⟩
theorem ukI {g:Nat→Bool} {n:Nat}:Asc n 0 (ubT g n):=by
 have h:∀m,∃b:Nat,∀i,i<m→b.testBit i=g i:=by
  intro m
  induction m with
  |zero=>exact⟨0,fun i hi=>by omega⟩
  | succ m ih=>
   obtain⟨b,hb⟩:=ih
   by_cases c:b.testBit m=g m
   ·exact⟨b,fun i hi=>by
     by_cases e:i=m
     ·subst e;exact c
     ·exact hb i (by omega)⟩
   ·refine⟨b ^^^2^m,fun i hi=> ?_⟩
    rw [Nat.testBit_xor,Nat.testBit_two_pow]
    by_cases e:i=m
    ·subst e;revert c;cases b.testBit i<;>cases g i<;>simp
    ·rw [decide_eq_false (by omega),Bool.xor_false];exact hb i (by omega)
 obtain⟨b,hb⟩:=h n
 rw [←ur6 (b:=b) hb]
 exact usx b n
theorem few_nil {n:Nat} {ok:List Int→Bool}(h:ok (uaQ n)=true):(ud1 n ok).length=0↔ok []=true:=by
 have hs:=ucc h
 constructor
 ·intro q;have:=hs.2.1;rwa [List.length_eq_zero_iff.1 q]at this
 ·intro q;have:=(hs.2.2 [] trivial q).1;simpa using this
def uqV (pence n i:Nat):Nat:=pence/n+(if i<pence%n then 1 else 0)
def utR (pence n:Nat):Nat→Nat
 |0=>0
 |i+1=>utR pence n i+uqV pence n i
theorem uuq (pence n:Nat):∀i,utR pence n i=i*(pence/n)+(if i≤pence%n then i else pence%n):=by
 intro i
 induction i with
 |zero=>simp [utR]
 | succ i ih=>
  rw [utR,ih,uqV,Nat.succ_mul]
  split<;>split<;>split<;>omega
theorem us1 {pence n:Nat}(hn:0<n):utR pence n n=pence:=by
 rw [uuq]
 have h1:=Nat.mod_lt pence hn
 have h2:=Nat.div_add_mod pence n
 rw [if_neg (by omega)]
 exact h2
end Go.Eng.Dif

namespace Go.Eng.Dif
open Go.Eng.Few
theorem uwa {S:Nat} {ls:List Lk} {fs:List Fa}(h:Okk S ls fs) {x:Nat→Int}(hx:Tr S ls fs x) {s:Nat}(hs:s<S):loD S ls fs s≤x s∧x s≤hiD S ls fs s:=by
 have hc:=(uaG h).2 ⟨x,hx⟩
 exact⟨(uoy h hc hs).1 x hx,(uok h hc hs).1 x hx⟩
end Go.Eng.Dif

namespace Go.Eng.Dif
open Go.Eng.Few
theorem ulf {n:Nat} {ok:List Int→Bool}(h:ok (uaQ n)=true) {k:Nat}(hk:k<n)(h0:ok []=false)(hj:∀j:Nat,j<k→ok [(j:Int)]=false)(h1:ok [(k:Int)]=true):ud1 n ok=[(k:Int)]:=by
 have s:=ucc h
 have a:Asc n 0 [(k:Int)]:=⟨k,rfl,Nat.zero_le _,hk,trivial⟩
 have q:=s.2.2 _ a h1
 generalize ud1 n ok=F at s q⊢
 match F,s,q with
 |[],s,_=>rw [h0]at s;exact absurd s.2.1 (by decide)
 | [x],s,q=>
  rcases q.2 rfl with e|e
  ·exact e
  ·obtain⟨j,hx,_,_,_⟩:=s.1
   have:x<(k:Int):=by
    rcases e with e|e
    ·exact e
    ·exact absurd e.2 (by intro z;exact z)
   have t:=hj j (by omega)
   have u:=s.2.1
   rw [hx,t]at u;cases u
 |x::y::l,_,q=>exact absurd q.1 (by simp)
theorem uhV {n:Nat} {ok:List Int→Bool}(h:ok (uaQ n)=true)(h0:ok []=true):ud1 n ok=[]:=List.length_eq_zero_iff.1 ((few_nil h).2 h0)
theorem uoT {n:Nat} {ok:List Int→Bool}(h:ok (uaQ n)=true) {k:Nat}(hk:k<n)(h0:ok []=false)(hj:∀j:Nat,j<n→j≠k→ok [(j:Int)]=false)(h1:ok [(k:Int)]=true) {F:List Int}:F∈uaw n ok↔F=[(k:Int)]:=by
 have e:=ulf h hk h0 (fun j hj'=>hj j (by omega) (by omega)) h1
 rw [uda h,e]
 constructor
 ·rintro⟨a,b,c⟩
  match F,a,b,c with
  | [x],a,b,_=>
   obtain⟨j,hx,_,hj',_⟩:=a
   by_cases q:j=k
   ·rw [hx,q]
   ·rw [hx,hj j hj' q]at b;cases b
  |[],_,_,c=>cases c
  |_::_::_,_,_,c=>simp at c
 ·intro q;rw [q]
  exact⟨⟨k,rfl,Nat.zero_le _,hk,trivial⟩,h1,rfl⟩
theorem utZ {n:Nat} {ok:List Int→Bool}(h:ok (uaQ n)=true) {k:Nat}(hk:k<n)(h0:ok []=false)(hj:∀j:Nat,j<n→j≠k→ok [(j:Int)]=false)(h1:ok [(k:Int)]=true)(p:Nat):ukQ n ok p=decide (p=k)∧ukf n ok p=decide (p=k):=by
 have m:=fun F=>uoT h hk h0 hj h1 (F:=F)
 have c:∀F:List Int,F=[(k:Int)]→(F.contains (p:Int)=true↔p=k):=by
  intro F e
  rw [e,List.contains_iff_mem,List.mem_singleton]
  omega
 constructor
 ·apply Bool.eq_iff_iff.2
  rw [decide_eq_true_iff]
  unfold ukQ
  rw [List.all_eq_true]
  exact⟨fun q=>(c _ rfl).1 (q _ ((m _).2 rfl)),fun q F hF=>(c F ((m F).1 hF)).2 q⟩
 ·apply Bool.eq_iff_iff.2
  rw [decide_eq_true_iff]
  unfold ukf
  rw [List.any_eq_true]
  exact⟨fun ⟨F,hF,q⟩=>(c F ((m F).1 hF)).1 q,fun q=>⟨_,(m _).2 rfl,(c _ rfl).2 q⟩⟩
theorem uug {n:Nat} {ok:List Int→Bool}(h:ok (uaQ n)=true)(h0:ok []=true)(p:Nat):ukQ n ok p=false∧ukf n ok p=false:=by
 have m:∀F,F∈uaw n ok↔F=[]:=by
  intro F
  rw [uda h,uhV h h0]
  constructor
  ·rintro⟨_,_,c⟩;exact List.length_eq_zero_iff.1 c
  ·intro q;rw [q];exact⟨trivial,h0,rfl⟩
 constructor
 ·unfold ukQ
  rw [Bool.eq_false_iff]
  intro q
  have:=List.all_eq_true.1 q [] ((m _).2 rfl)
  simp at this
 ·unfold ukf
  rw [Bool.eq_false_iff]
  intro q
  obtain⟨F,hF,g⟩:=List.any_eq_true.1 q
  rw [(m F).1 hF]at g
  simp at g
theorem ut6 {S:Nat} {ls:List Lk} {fs:List Fa}(h:Okk S ls fs) {s:Nat}(hs:s<S) {n:Int} {x:Nat→Int}(hx:Tr S ls fs x)(hn:x s=n)(hm:∀y,Tr S ls fs y→y s≤n):hiD S ls fs s=n:=by
 have hc:=(uaG h).2 ⟨x,hx⟩
 obtain⟨a,y,hy,e⟩:=uok h hc hs
 have:=a x hx
 have:=hm y hy
 omega
theorem usY {S:Nat} {ls:List Lk} {fs:List Fa}(h:Okk S ls fs) {s:Nat}(hs:s<S) {n:Int} {x:Nat→Int}(hx:Tr S ls fs x)(hn:x s=n)(hm:∀y,Tr S ls fs y→n≤y s):loD S ls fs s=n:=by
 have hc:=(uaG h).2 ⟨x,hx⟩
 obtain⟨a,y,hy,e⟩:=uoy h hc hs
 have:=a x hx
 have:=hm y hy
 omega
end Go.Eng.Dif

namespace Go.Eng.Dif
open Go.Eng.Few
def xL3 :List Lk:=[⟨0,1,-3,0⟩]
def xF3 :List Fa:=[⟨0,115,119⟩,⟨0,98,102⟩,⟨1,116,116⟩]
def xF2 :List Fa:=[⟨0,115,119⟩,⟨1,116,116⟩]
def xP3 (i:Nat):Int:=(i:Int)
def xP2 (i:Nat):Int:=if i=0 then 0 else 2
def xT (a b:Int)(s:Nat):Int:=if s=0 then a else b
theorem usv {a b:Int}(ha:0≤a∧a≤2000)(hb:0≤b∧b≤2000)(hd: -3≤b-a∧b-a≤0):Tr 2 xL3 [] (xT a b):=by
 refine⟨fun s hs=> ?_,fun k hk=> ?_,fun k hk=>by cases hk⟩
 ·unfold xT;split<;>assumption
 ·rw [List.mem_singleton.1 hk];exact hd
theorem uy8 :Okk 2 xL3 xF3:=by
 refine⟨by decide,by decide,fun k hk=> ?_,fun k hk=> ?_⟩
 ·rw [List.mem_singleton.1 hk];exact⟨by decide,by decide,by decide⟩
 ·unfold xF3 at hk
  simp only [List.mem_cons,List.not_mem_nil,or_false]at hk
  rcases hk with e|e|e<;>rw [e]<;>decide
theorem ur2 :Okk 2 xL3 xF2:=by
 refine⟨by decide,by decide,fun k hk=> ?_,fun k hk=> ?_⟩
 ·rw [List.mem_singleton.1 hk];exact⟨by decide,by decide,by decide⟩
 ·unfold xF2 at hk
  simp only [List.mem_cons,List.not_mem_nil,or_false]at hk
  rcases hk with e|e<;>rw [e]<;>decide
theorem xc3 (c:Nat→Bool):ujT 2 xL3 xF3 c = !(c 1&&(c 0||c 2)):=by
 apply Bool.eq_iff_iff.2
 rw [ueh uy8]
 constructor
 ·rintro⟨x,t,hf⟩
  have hl: -3≤x 1-x 0∧x 1-x 0≤0:=t.l _ (List.mem_singleton.2 rfl)
  have f0:c 0=true→115≤x 0∧x 0≤119:=hf 0 (by decide)
  have f1:c 1=true→98≤x 0∧x 0≤102:=hf 1 (by decide)
  have f2:c 2=true→116≤x 1∧x 1≤116:=hf 2 (by decide)
  cases h1:c 1
  ·rfl
  ·have f1:=f1 h1
   cases h0:c 0
   ·cases h2:c 2
    ·rfl
    ·have f2:=f2 h2;omega
   ·have f0:=f0 h0;omega
 ·intro q
  cases h1:c 1
  ·refine⟨xT 117 116,usv (by decide) (by decide) (by decide),fun i hi hc=> ?_⟩
   have hi:i<3:=hi
   rcases(show i=0∨i=1∨i=2 by omega)with e|e|e<;>subst e
   ·exact⟨by decide,by decide⟩
   ·rw [h1]at hc;cases hc
   ·exact⟨by decide,by decide⟩
  ·rw [h1]at q
   cases h0:c 0
   ·cases h2:c 2
    ·refine⟨xT 100 100,usv (by decide) (by decide) (by decide),fun i hi hc=> ?_⟩
     have hi:i<3:=hi
     rcases(show i=0∨i=1∨i=2 by omega)with e|e|e<;>subst e
     ·rw [h0]at hc;cases hc
     ·exact⟨by decide,by decide⟩
     ·rw [h2]at hc;cases hc
    ·rw [h0,h2]at q;cases q
   ·rw [h0]at q;cases q
theorem urP :udg 2 xL3 []=true:=(uaG (ulk uy8)).2 ⟨_,usv (a:=117) (b:=116) (by decide) (by decide) (by decide)⟩
theorem uxZ (o:List Int):okF 2 xL3 xF3 o = !(!(o.contains 1)&&(!(o.contains 0)|| !(o.contains 2))):=xc3 _
theorem uvu (o:List Int):okP 2 xL3 xF3 xP3 o = !(!(o.contains 1)&&(!(o.contains 0)|| !(o.contains 2))):=xc3 _
theorem uyM :ud1 3 (okF 2 xL3 xF3)=[1]:=by
 have hj:∀j:Nat,j<1→okF 2 xL3 xF3 [(j:Int)]=false:=fun j hj=>by
  rw [uxZ]
  rcases(show j=0 by omega)with e
  subst e;decide
 exact ulf (n:=3) (k:=1) (by rw [uxZ];decide) (by decide) (by rw [uxZ];decide) hj (by rw [uxZ];decide)
theorem uuF :ud1 3 (okP 2 xL3 xF3 xP3)=[1]∧ubT (ukQ 3 (okP 2 xL3 xF3 xP3)) 3=[1]∧ubT (ukf 3 (okP 2 xL3 xF3 xP3)) 3=[1]:=by
 have hj:∀j:Nat,j<3→j≠1→okP 2 xL3 xF3 xP3 [(j:Int)]=false:=fun j hj h1=>by
  rw [uvu]
  rcases(show j=0∨j=2 by omega)with e|e<;>subst e<;>decide
 have a:=utZ (n:=3) (k:=1) (ok:=okP 2 xL3 xF3 xP3) (by rw [uvu];decide) (by decide) (by rw [uvu];decide) hj (by rw [uvu];decide)
 refine⟨ulf (n:=3) (k:=1) (by rw [uvu];decide) (by decide) (by rw [uvu];decide) (fun j q=>hj j (by omega) (by omega)) (by rw [uvu];decide),?_,?_⟩
 ·simp only [ubT,(a _).1];decide
 ·simp only [ubT,(a _).2];decide
theorem xt2 {a b:Int}(ha:116≤a∧a≤119)(hb:b=116):Tr 2 xL3 xF2 (xT a b):=by
 have t:=usv (a:=a) (b:=b) (by omega) (by omega) (by omega)
 refine⟨t.r,t.l,fun k hk=> ?_⟩
 unfold xF2 at hk
 simp only [List.mem_cons,List.not_mem_nil,or_false]at hk
 rcases hk with e|e<;>rw [e]
 ·show 115≤a∧a≤119;omega
 ·show 116≤b∧b≤116;omega
theorem xi2 {x:Nat→Int}(t:Tr 2 xL3 xF2 x):116≤x 0∧x 0≤119∧x 1=116:=by
 have hl: -3≤x 1-x 0∧x 1-x 0≤0:=t.l _ (List.mem_singleton.2 rfl)
 have h0:115≤x 0∧x 0≤119:=t.f ⟨0,115,119⟩ (by unfold xF2;exact List.mem_cons_self ..)
 have h1:116≤x 1∧x 1≤116:=t.f ⟨1,116,116⟩ (by unfold xF2;exact List.mem_cons_of_mem _ (List.mem_cons_self ..))
 omega
theorem usJ :udg 2 xL3 xF2=true∧loD 2 xL3 xF2 0=116∧hiD 2 xL3 xF2 0=119∧loD 2 xL3 xF2 1=116∧hiD 2 xL3 xF2 1=116:=
 ⟨(uaG ur2).2 ⟨_,xt2 (a:=117) (by decide) rfl⟩,
  usY ur2 (by decide) (xt2 (a:=116) (by decide) rfl) rfl fun y h=>(xi2 h).1,
  ut6 ur2 (by decide) (xt2 (a:=119) (by decide) rfl) rfl fun y h=>(xi2 h).2.1,
  usY ur2 (by decide) (xt2 (a:=116) (by decide) rfl) rfl fun y h=>Int.le_of_eq (xi2 h).2.2.symm,
  ut6 ur2 (by decide) (xt2 (a:=119) (by decide) rfl) rfl fun y h=>Int.le_of_eq (xi2 h).2.2⟩
theorem uzo :ud1 3 (okP 2 xL3 xF2 xP2)=[]∧ud1 2 (okF 2 xL3 xF2)=[]∧ubT (ukQ 3 (okP 2 xL3 xF2 xP2)) 3=[]∧ubT (ukf 3 (okP 2 xL3 xF2 xP2)) 3=[]:=by
 have hp:∀i,i<xF2.length→0≤xP2 i∧xP2 i<((3:Nat):Int):=fun i _=>by unfold xP2;split<;>decide
 have h:okP 2 xL3 xF2 xP2 (uaQ 3)=true:=by rw [ukz ur2 hp];exact urP
 have h0:okP 2 xL3 xF2 xP2 []=true:=by rw [uqB ur2];exact usJ.1
 have a:=uug h h0
 have hall:okF 2 xL3 xF2 (uaQ 2)=true:=(ul3 ur2).trans urP
 refine⟨uhV h h0,uhV (hall) (by rw [uqn ur2];exact usJ.1),?_,?_⟩
 ·simp only [ubT,(a _).1];decide
 ·simp only [ubT,(a _).2];decide
theorem uA6 (n:Nat):udg 2 xL3 (xF3.take n) = !(decide (1<n)&&(decide (0<n)||decide (2<n))):=by
 rw [us4 uy8,xc3]
theorem uyK :unN 2 xL3 xF3 3 0=some 1:=by
 have a:udg 2 xL3 (xF3.take 1)=true:=by rw [uA6];decide
 have b:udg 2 xL3 (xF3.take 2)=false:=by rw [uA6];decide
 simp [unN,a,b]
end Go.Eng.Dif

namespace Go.Eng.Dif
open Go.Eng.Few
def ubd (pence:Nat)(L:List Int)(n:Nat):Nat→Nat→Int
 |0,_=>0
 |k+1,p=>if(p:Int)=L.getD k 0 then(uqV pence n k:Int)else ubd pence L n k p
def uiS (f:Nat→Int):Nat→Int
 |0=>0
 |p+1=>uiS f p+f p
theorem uof {f g:Nat→Int} {P:Nat}(h:∀p,p<P→f p=g p):uiS f P=uiS g P:=by
 induction P with
 |zero=>rfl
 |succ P ih=>simp only [uiS,ih fun p hp=>h p (by omega),h P (by omega)]
theorem uu8 {f g:Nat→Int} {q:Nat} {v:Int}(h0:f q=0)(hg:∀p,g p=if p=q then v else f p):∀{P:Nat},q<P→uiS g P=uiS f P+v:=by
 intro P
 induction P with
 |zero=>intro h;omega
 | succ P ih=>
  intro h
  simp only [uiS]
  by_cases e:P=q
  ·subst e
   rw [uof (f:=g) (g:=f) (fun p hp=>by rw [hg,if_neg (by omega)]),hg,if_pos rfl,h0]
   omega
  ·rw [ih (by omega),hg P,if_neg e]
   omega
theorem uoO {n:Nat} {L:List Int} {s:Nat}(h:Asc n s L) {i:Nat}:∀{j:Nat},i<j→j<L.length→L.getD i 0<L.getD j 0:=by
 intro j
 induction j with
 |zero=>intro q;omega
 | succ j ih=>
  intro hi hj
  have a:=ux7 h (j+1) (by omega) hj
  rw [Nat.add_sub_cancel]at a
  by_cases e:i=j
  ·rw [e];exact a
  ·have:=ih (by omega) (by omega)
   omega
theorem uoN {pence:Nat} {L:List Int} {n k p:Nat}(h:∀i,i<k→(p:Int)≠L.getD i 0):ubd pence L n k p=0:=by
 induction k with
 |zero=>rfl
 |succ k ih=>rw [ubd,if_neg (h k (by omega)),ih fun i hi=>h i (by omega)]
theorem uv1 {pence P:Nat} {L:List Int}(h:Asc P 0 L) {n k i p:Nat}(hk:k≤L.length)(hi:i<k)(e:(p:Int)=L.getD i 0):ubd pence L n k p=(uqV pence n i:Int):=by
 induction k with
 |zero=>omega
 | succ k ih=>
  rw [ubd]
  by_cases c:i=k
  ·subst c;rw [if_pos e]
  ·have:=uoO h (i:=i) (j:=k) (by omega) (by omega)
   rw [if_neg (by omega),ih (by omega) (by omega)]
theorem urt {pence P:Nat} {L:List Int}(h:Asc P 0 L) {n:Nat}:∀{k:Nat},k≤L.length→uiS (ubd pence L n k) P=(utR pence n k:Int):=by
 intro k
 induction k with
 | zero=>
  intro _
  have:∀m,uiS (ubd pence L n 0) m=0:=by
   intro m
   induction m with
   |zero=>rfl
   |succ m ih=>rw [uiS,ih];rfl
  rw [this];rfl
 | succ k ih=>
  intro hk
  have b:=uqQ h k (by omega)
  have eq:(((L.getD k 0).toNat:Nat):Int)=L.getD k 0:=by omega
  rw [uu8 (f:=ubd pence L n k) (q:=(L.getD k 0).toNat) (v:=(uqV pence n k:Int)) ?_ ?_ (by omega),ih (by omega),utR]
  ·omega
  ·refine uoN fun i hi=> ?_
   have:=uoO h (i:=i) (j:=k) hi (by omega)
   omega
  ·intro p
   rw [ubd]
   by_cases c:(p:Int)=L.getD k 0
   ·rw [if_pos c,if_pos (by omega)]
   ·rw [if_neg c,if_neg (by omega)]
theorem urO {pence P:Nat} {L:List Int}(h:Asc P 0 L)(hL:0<L.length):uiS (ubd pence L L.length L.length) P=(pence:Int):=by
 rw [urt h (Nat.le_refl _),us1 hL]
theorem uvz {pence P:Nat} {L:List Int}(h:Asc P 0 L) {p:Nat}(hp:(p:Int)∈L):ubd pence L L.length L.length p=((pence/L.length:Nat):Int)∨ubd pence L L.length L.length p=((pence/L.length:Nat):Int)+1:=by
 obtain⟨i,hi,e⟩:=List.getElem_of_mem hp
 rw [uv1 h (Nat.le_refl _) hi (by rw [List.getD_eq_getElem?_getD,List.getElem?_eq_getElem hi];exact e.symm)]
 unfold uqV
 split
 ·right;omega
 ·left;omega
theorem urD (P:Nat):Asc P 0 (uaQ P):=by
 have:uaQ P=ubT (fun _=>true) P:=by
  induction P with
  |zero=>rfl
  |succ P ih=>simp only [ubT,uaQ,ih,if_true]
 rw [this]
 exact ukI
theorem ufY (P:Nat):(uaQ P).length=P:=by
 induction P with
 |zero=>rfl
 |succ P ih=>simp only [uaQ,List.length_append,List.length_singleton,ih]
def ukH (P:Nat)(must:List Int):List Int:=if must.length=0 then uaQ P else must
theorem ulK {P:Nat} {must:List Int}(hP:0<P)(h:Asc P 0 must):Asc P 0 (ukH P must)∧0<(ukH P must).length:=by
 unfold ukH
 split
 ·exact⟨urD P,by rw [ufY];exact hP⟩
 ·exact⟨h,by omega⟩
end Go.Eng.Dif

namespace Go.Eng.Dif
open Go.Eng.Few
theorem uwG {n:Nat} {ok:List Int→Bool}(h:ok (uaQ n)=true):ud1 n ok∈uaw n ok:=
 (uda h).2 ⟨(ucc h).1,(ucc h).2.1,rfl⟩
theorem uv6 {g:Nat→Bool} {n p:Nat}(hp:p<n):(ubT g n).contains (p:Int)=g p:=by
 apply Bool.eq_iff_iff.2
 rw [List.contains_iff_mem,uv8]
 constructor
 ·rintro⟨i,_,hg,e⟩
  have:p=i:=Int.ofNat.inj e
  rw [this];exact hg
 ·intro q;exact⟨p,hp,q,rfl⟩
theorem usd {S:Nat} {ls:List Lk} {fs:List Fa}(h:Okk S ls fs)(hf:udg S ls []=true)(hr:unN S ls fs fs.length 0=none):udg S ls fs=true∧ud1 fs.length (okF S ls fs)=[]:=by
 have hb:okF S ls fs (uaQ fs.length)=true:=by rw [ul3 h];exact hf
 have c:udg S ls fs=true:=by
  by_cases e:fs.length=0
  ·rw [List.length_eq_zero_iff.1 e];exact hf
  ·have:=upu hr (fs.length-1) (Nat.zero_le _) (by omega)
   rwa [show fs.length-1+1=fs.length by omega,List.take_length]at this
 exact⟨c,uhV hb (by rw [uqn h];exact c)⟩
end Go.Eng.Dif

namespace Go.Eng.Dif
open Go.Eng.Few
def umm (S:Nat)(ls:List Lk)(fs:List Fa)(out:Nat):Bool:=decide (0≤(uyR (uoL S ls fs (uvl out))).h0)
theorem upN {S:Nat} {ls:List Lk} {fs:List Fa}(h:Okk S ls fs)(out:Nat):umm S ls fs out=ujT S ls fs (uvl out):=
 (utU (usR h _ (Nat.le_refl _)) (urr h (uvl out))).symm
theorem uoW {S:Nat} {ls:List Lk} {fs:List Fa}(h:Okk S ls fs) {pt:Nat→Int} {P:Nat}(hP:P≤16)(hpt:∀i,i<fs.length→0≤pt i∧pt i<(P:Int))(hf:udg S ls []=true):Agree P (okP S ls fs pt) (fun b=>umm S ls fs (ofN pt b fs.length)):=by
 have a:=ukC h hP hpt hf
 have e:(fun b=>umm S ls fs (ofN pt b fs.length))=fun b=>ujT S ls fs (uvl (ofN pt b fs.length)):=funext fun b=>upN h _
 rw [e]
 exact a
end Go.Eng.Dif

namespace Go.Eng.Dif
open Go.Eng.Few
theorem uAo :kpN xF3 (uk5 [1]) 3=xF2:=by
 have a:uk5 [1] 0=true:=by decide
 have b:uk5 [1] 1=false:=by decide
 have c:uk5 [1] 2=true:=by decide
 simp only [kpN,a,b,c]
 rfl
theorem uwA :ubd 100 [1] 1 1 0=0∧ubd 100 [1] 1 1 1=100∧ubd 100 [1] 1 1 2=0:=by decide
theorem uxM :ubd 100 [0,1,2] 3 3 0=34∧ubd 100 [0,1,2] 3 3 1=33∧ubd 100 [0,1,2] 3 3 2=33:=by decide
end Go.Eng.Dif

namespace Go.Eng.Dif
theorem uwH {M:Nat→Int}(h:∀i,i<16→ -2000≤M i):∀n i,i<16→ -(6^(4*n)*2000)≤fwP M n i:=by
 intro n
 induction n with
 |zero=>intro i hi;simpa [fwP]using h i hi
 | succ n ih=>
  intro i hi
  have a:=utz (M:=fwP M n) (b:=6^(4*n)*2000) (Int.mul_nonneg (Int.pow_nonneg (by decide)) (by decide)) ih 4 (by omega) i hi
  have e:(6:Int)^4*(6^(4*n)*2000)=6^(4*(n+1))*2000:=by
   rw [show 4*(n+1)=4+4*n by omega,Int.pow_add,Int.mul_assoc]
  rw [e]at a
  exact a
theorem uww {M:Nat→Int}(h:∀i,i<16→ -2000≤M i)(h2:∀i,i<16→M i≤2000) {n v k i:Nat}(hn:n<4)(hv:v<4)(hk:k≤16)(hi:i<16): -5642219814912000≤phN v (fwN (fwP M n) v) k i∧phN v (fwN (fwP M n) v) k i≤2000:=by
 constructor
 ·have a:=uwH h n
  have p0:(0:Int)≤6^(4*n)*2000:=Int.mul_nonneg (Int.pow_nonneg (by decide)) (by decide)
  have b:=utz p0 a v (by omega)
  have p1:(0:Int)≤6^v*(6^(4*n)*2000):=Int.mul_nonneg (Int.pow_nonneg (by decide)) p0
  have c:=utJ hv p1 b hk hi
  have e:(6:Int)*(6^v*(6^(4*n)*2000))≤5642219814912000:=by
   rcases(show n=0∨n=1∨n=2∨n=3 by omega)with q|q|q|q<;>rcases(show v=0∨v=1∨v=2∨v=3 by omega)with r|r|r|r<;>subst q<;>subst r<;>decide
  omega
 ·exact Int.le_trans (upR _ _ _ _) (Int.le_trans (utm _ _ _) (Int.le_trans (usX _ _ _) (h2 i hi)))
theorem upU {S:Nat} {ls:List Lk} {fs:List Fa}(hl:∀k∈ls,-2000≤k.lo∧k.lo≤2000∧ -2000≤k.hi∧k.hi≤2000)(hf:∀k∈fs,-2000≤k.lo∧k.lo≤2000∧ -2000≤k.hi∧k.hi≤2000)(i:Nat): -2000≤ukF S ls fs i∧ukF S ls fs i≤2000:=by
 constructor
 ·refine uum ?_ fun b hb=> ?_
  ·unfold M00;split<;>decide
  ·rw [List.mem_append,List.mem_append]at hb
   rcases hb with(hb|hb)|hb
   ·unfold bS at hb
    obtain⟨s,_,e⟩:=List.mem_map.1 hb
    rw [←e];exact⟨show(-2000:Int)≤2000 by decide,show(-2000:Int)≤ -0 by decide⟩
   ·unfold bL_ at hb
    obtain⟨q,hq,e⟩:=List.mem_map.1 hb
    have:=hl q hq
    rw [←e]
    show -2000≤q.hi∧ -2000≤ -q.lo
    omega
   ·unfold bF at hb
    obtain⟨q,hq,e⟩:=List.mem_map.1 hb
    have:=hf q hq
    rw [←e]
    show -2000≤q.hi∧ -2000≤ -q.lo
    omega
 ·refine Int.le_trans (uqL i) ?_
  unfold M00;split<;>decide
theorem uoD {M:Nat→Int} {x:Nat→Int}(h:Sol M x)(hx:∀n,n<4→0≤x n∧x n≤2000) {i:Nat}(hi:i<16): -2000≤M i:=by
 have a:=h (i/4) (i%4) (by omega) (by omega)
 have e:at4 (i/4) (i%4)=i:=by unfold at4;omega
 rw [e]at a
 have:=hx (i/4) (by omega)
 have:=hx (i%4) (by omega)
 omega
theorem utN {S:Nat} {x:Nat→Int}(h:∀s,s<S→0≤x s∧x s≤2000)(n:Nat):0≤nod S x n∧nod S x n≤2000:=by
 unfold nod
 split
 ·decide
 ·split
  ·exact h _ (by omega)
  ·decide
theorem upv {S:Nat} {ls:List Lk} {fs:List Fa}(h:Okk S ls fs)(hc:udg S ls fs=true) {i:Nat}(hi:i<16): -2000≤clo (ukF S ls fs) i:=by
 obtain⟨x,t⟩:=(uaG h).1 hc
 exact uoD (uez.2 (umD h t)) (fun n _=>utN t.r n) hi
end Go.Eng.Dif

namespace Go.Proofs.YtkdggbfknlcdaaaGreat
open Go Go.Eng Go.Proofs
abbrev iv (f : Unit → Int) : SV := .int .i64 (.sym f)
abbrev bv (f : Unit → Bool) : SV := .bool (.sym f)
abbrev iS (l : List Int) : SV := .sl 1 (.sym fun _ => zi l.length) (fun ix => [.int .i64 (.sym fun _ => l.getD ix.den.toNat 0)])
def ti3 :TI:=⟨.int .i64,1,8,[.one (.int .i64)]⟩
def ti4 :TI:=⟨.bool,1,1,[.one .bool]⟩
def ti5 :TI:=⟨.int .u8,1,1,[.one (.int .u8)]⟩
def uAy :TI:=⟨.sli 3,1,24,[.one .sli]⟩
def uB3 :TI:=⟨.sli 22,1,24,[.one .sli]⟩
def uB6 :TI:=⟨.str [(0,22),(1,22),(2,23)],3,72,[.one .sli,.one .sli,.one .sli]⟩
def uB2 :TI:=⟨.sli 100,1,24,[.one .sli]⟩
def uAk :TI:=⟨.sli 104,1,24,[.one .sli]⟩
def uBI :TI:=⟨.str [(0,25),(3,3),(4,3),(5,26),(6,27)],7,136,[.one .sli,.one .sli,.one .sli,.one (.int .i64),.one (.int .i64),.one .sli,.one .sli]⟩
def uAc :TI:=⟨.int .i64,1,8,[.one (.int .i64)]⟩
def uBs :TI:=⟨.str [(0,22),(1,22),(2,23)],3,72,[.one .sli,.one .sli,.one .sli]⟩
def uBv :TI:=⟨.sli 102,1,24,[.one .sli]⟩
def uBJ :TI:=⟨.sli 106,1,24,[.one .sli]⟩
def uAO :TI:=⟨.str [(0,35),(3,3),(4,3),(5,36),(6,37)],7,136,[.one .sli,.one .sli,.one .sli,.one (.int .i64),.one (.int .i64),.one .sli,.one .sli]⟩
def uBd :TI:=⟨.sli 66,1,24,[.one .sli]⟩
def uAj :TI:=⟨.str [(0,3),(1,3)],2,16,[.one (.int .i64),.one (.int .i64)]⟩
def uBk :TI:=⟨.int .u64,1,8,[.one (.int .u64)]⟩
def uAq :TI:=⟨.str [(0,3),(1,3)],2,16,[.one (.int .i64),.one (.int .i64)]⟩
def uAH :TI:=⟨.sli 69,1,24,[.one .sli]⟩
def uAB :TI:=⟨.int .u16,1,2,[.one (.int .u16)]⟩
def uAt :TI:=⟨.sli 59,1,24,[.one .sli]⟩
def uAX :TI:=⟨.one,1,8,[.one .ptr]⟩
def uAr :TI:=⟨.one,1,8,[.one .mp]⟩
def uAi :TI:=⟨.str [(0,39),(7,90)],8,144,[.one .sli,.one .sli,.one .sli,.one (.int .i64),.one (.int .i64),.one .sli,.one .sli,.one .mp]⟩
def uAp :TI:=⟨.arr 4 3,4,32,[.rep 4 (.int .i64)]⟩
def uAC :TI:=⟨.arr 4 93,16,128,[.rep 16 (.int .i64)]⟩
def uzJ :TI:=⟨.str [(0,3),(1,3),(2,66)],4,32,[.one (.int .i64),.one (.int .i64),.one (.int .i64),.one (.int .i64)]⟩
def uzd :TI:=⟨.str [(0,3),(1,3),(2,59)],4,32,[.one (.int .i64),.one (.int .i64),.one (.int .i64),.one (.int .i64)]⟩
def uzb :TI:=⟨.str [(0,3),(1,3),(2,66),(4,66)],6,48,[.one (.int .i64),.one (.int .i64),.one (.int .i64),.one (.int .i64),.one (.int .i64),.one (.int .i64)]⟩
def uzC :TI:=⟨.str [(0,3),(1,3),(2,59),(4,59)],6,48,[.one (.int .i64),.one (.int .i64),.one (.int .i64),.one (.int .i64),.one (.int .i64),.one (.int .i64)]⟩
def uzz :TI:=⟨.one,1,8,[.one .fn]⟩
def uyA :TI:=⟨.one,1,8,[.one .fn]⟩
def uyf :TI:=⟨.str [(0,107),(1,108)],2,16,[.one .fn,.one .fn]⟩
def uyi :TI:=⟨.one,1,8,[.one .fn]⟩
def uyy :TI:=⟨.one,1,8,[.one .fn]⟩
def uz3 :TI:=⟨.arr 3 66,6,48,[.rep 6 (.int .i64)]⟩
def uyB :TI:=⟨.one,1,8,[.one .fn]⟩
def uyc :TI:=⟨.one,1,8,[.one .fn]⟩
def uzk :TI:=⟨.one,1,8,[.one .fn]⟩
def uyp :TI:=⟨.str [(0,3),(1,3)],2,16,[.one (.int .i64),.one (.int .i64)]⟩
def uz1 :TI:=⟨.str [(0,3),(1,3),(2,3)],3,24,[.one (.int .i64),.one (.int .i64),.one (.int .i64)]⟩
def uyY :TI:=⟨.sli 168,1,24,[.one .sli]⟩
def uzQ :List (Nat×TI):=[(3,ti3),(4,ti4),(5,ti5),(22,uAy),(23,uB3),(25,uB6),(26,uB2),(27,uAk),(29,uBI),(32,uAc),(35,uBs),(36,uBv),(37,uBJ),(39,uAO),(43,uBd),(59,uAj),(62,uBk),(66,uAq),(68,uAH),(69,uAB),(72,uAt),(87,uAX),(90,uAr),(92,uAi),(93,uAp),(95,uAC),(100,uzJ),(102,uzd),(104,uzb),(106,uzC),(107,uzz),(108,uyA),(110,uyf),(117,uyi),(121,uyy),(124,uz3),(133,uyB),(136,uyc),(144,uzk),(152,uyp),(168,uz1),(169,uyY)]
def tab :uav:=fun t=>lk uzQ t
def qr (n:Nat):List Nat:=List.range n
def qs (a n:Nat):List Nat:=List.range' a n
def qa (i:Nat)(p:List Nat):SE:=⟨i,false,p,false,0,none⟩
def qb (i:Nat)(p:List Nat):SE:=⟨i,true,p,false,0,none⟩
def sc9 :SC:=[]
def uAn :SC:=[(10,[qb 0 [],qb 1 [0],⟨2,true,[0,1],true,0,none⟩,qa 3 [0,1,2],qa 4 [0,1,2],qb 5 (qr 5),qb 6 (qr 6),⟨7,true,(qr 7),true,0,none⟩,qb 8 (qr 8),qb 9 (qr 9),qb 10 (qr 10),⟨11,true,(qr 11),true,0,none⟩,qb 12 (qr 12),qb 13 (qr 13),qb 14 (qr 14),⟨15,true,(qr 15),true,0,none⟩,qb 16 (qr 16),qb 17 (qr 17),qb 18 (qr 18),⟨19,true,(qr 19),true,0,none⟩,qa 20 (qr 20),qa 21 (qr 20),qb 22 (qr 22),qb 23 (qr 23),⟨24,true,(qr 24),true,0,none⟩,qb 25 (qr 25),qb 26 (qr 26),qb 27 (qr 27),⟨28,true,(qr 28),true,0,none⟩,qa 29 (qr 29),qa 30 (qr 29),qb 31 (qr 31),qb 32 (qr 32),⟨33,true,(qr 33),true,0,none⟩,qb 34 (qr 34),qb 35 (qr 35),qb 36 (qr 36),⟨37,true,(qr 37),true,0,none⟩,qa 38 (qr 38),qa 39 (qr 38),qb 40 (qr 40),qb 41 (qr 41),⟨42,true,(qr 42),true,0,none⟩,qa 43 (qr 43),qa 44 (qr 43),qb 45 (qr 45),qb 46 (qr 46),⟨47,true,(qr 47),true,0,none⟩,qb 48 (qr 48),qb 49 (qr 49),qb 50 (qr 50),⟨51,true,(qr 51),true,0,none⟩,qb 52 (qr 52),qb 53 (qr 53),qb 54 (qr 54),qb 55 (qr 55),⟨56,true,(qr 56),true,0,none⟩,qa 57 (qr 57),qa 58 (qr 58),qa 59 (qr 59),qa 60 (qr 57),qb 61 (qr 61),qb 62 (qr 62),⟨63,true,(qr 63),true,0,none⟩,qa 64 (qr 64),qa 65 (qr 65),qa 66 (qr 66),qa 67 (qr 64),qb 68 (qr 68),qb 69 (qr 69),⟨70,true,(qr 70),true,0,none⟩,qb 71 (qr 71),qb 72 (qr 72),qb 73 (qr 73),⟨74,true,(qr 74),true,0,none⟩,qa 75 (qr 75),qa 76 (qr 75),qb 77 (qr 77),qb 78 (qr 78),⟨79,true,(qr 79),true,0,none⟩,qb 80 (qr 80),qb 81 (qr 81),qb 82 (qr 82),⟨83,true,(qr 83),true,0,none⟩,qa 84 (qr 84),qa 85 (qr 84),qb 86 (qr 86),qb 87 (qr 87),⟨88,true,(qr 88),true,0,none⟩,qb 89 (qr 89),qb 90 (qr 90),qb 91 (qr 91),⟨92,true,(qr 92),true,0,none⟩,qa 93 (qr 93),qa 94 (qr 93),qb 95 (qr 95),qb 96 (qr 96),qb 97 (qr 97)])]
def uzX :SC:=[]
def uBK :SC:=[(1,[qa 0 [],qa 1 [0],qa 3 [],qa 4 [3],qa 5 [],qa 6 [5],qa 8 [],qa 2 [0,1],qa 7 (qr 7),qb 9 (qr 9)]),(5,[qa 0 [],qa 1 [0],qa 2 [],qa 3 [2],qa 4 [],qa 5 [2,3,4],qa 6 (qs 2 4),qa 7 (qs 2 5),qa 8 [],qa 9 [8],qa 10 [],qa 11 [8,9,10],qa 12 (qs 8 4),qa 13 (qs 8 5),qa 14 [],qa 15 [14],qa 16 [],qa 17 [14,15,16],qa 18 (qs 14 4),qa 19 (qs 14 5),qa 20 (qs 14 6),qa 21 (qs 2 19),qa 22 (qs 2 20),qb 23 (qr 23),qb 24 (qr 24),qb 25 (qr 25)]),(10,[qa 0 [],qa 1 [0],qa 2 [],qa 3 [2],qa 4 [],qa 5 [4],qa 6 [],qa 7 [6],qa 9 [],qa 10 [9],qa 8 [6,7],qa 11 (qs 6 5),qa 12 (qs 2 10),qa 13 (qs 2 11),qb 14 (qr 14),qb 15 (qr 15),qb 16 (qr 16)])]
def uAV :SC:=[(1,[qa 1 [],qa 0 [],qb 2 [0,1],qa 3 [0,1,2],qa 4 [0,1,2],qb 5 (qr 5),qb 6 (qr 6)])]
def uAT :SC:=[(6,[qa 0 [],qa 1 [],qa 2 [0,1],qa 3 [0,1,2],qa 4 [],qa 5 [],qa 6 [4,5],qa 7 [4,5,6],qb 8 (qr 8)])]
def uBH :SC:=[(1,[qa 1 [],qa 0 [],qb 2 [0,1],qa 3 [0,1,2],qa 4 [0,1,2],qb 5 (qr 5),qb 6 (qr 6)])]
def uyq :SC:=[]
def uzr :SC:=[]
def uAW :SC:=[]
def uBy :SC:=[]
def uBC :SC:=[]
def uAN :SC:=[]
def uzN :SC:=[]
def uAR :SC:=[]
def uBb :SC:=[]
def uBh :SC:=[]
def uAx :SC:=[]
def uAP :SC:=[(6,[qa 0 [],qa 2 [],qa 3 [2],qa 4 [],qa 5 [2,3,4],qa 6 (qs 2 4),qa 1 [0],qb 7 (qr 7),qb 8 (qr 8),qb 9 (qr 9)])]
def uzT :SC:=[]
def uAL :SC:=[(2,[qa 0 [],qa 1 [0],qa 2 [0,1],qa 3 [],qa 4 [3],qa 5 [3,4],qa 6 [3,4,5],qa 7 (qs 3 4),qb 8 (qr 8),qb 9 (qr 9),qb 10 (qr 10)])]
def uyO :SC:=[]
def uBA :SC:=[(23,[qa 0 [],qa 1 [0],qa 2 [0,1],qa 3 [],qa 4 [],qa 5 [3,4],qb 6 (qr 6)])]
def uBD :SC:=[(1,[qa 0 [],qa 1 [0],qa 3 [],qa 4 [3],qa 7 [],qa 2 [0,1],qa 5 (qr 5),qa 6 (qr 6),qb 8 (qr 8)]),(5,[qa 0 [],qa 1 [0],qa 2 [],qa 3 [2],qa 4 [],qa 5 [2,3,4],qa 6 (qs 2 4),qa 7 (qs 2 5),qa 8 (qs 2 6),qb 9 (qr 9),qb 10 (qr 10),qb 11 (qr 11)])]
def uBr :SC:=[]
def uxV :SC:=[]
def uB0 :SC:=[]
def uzU :SC:=[]
def uBl :SC:=[]
def uAg :SC:=[]
def uBo :SC:=[]
def uzi :SC:=[]
def uBc :SC:=[(4,[qa 0 [],qa 1 [0],qa 2 [],qa 3 [2],qa 4 [0,1],qb 5 (qr 5)])]
def uBF :SC:=[]
def uBt :SC:=[]
def uBE :SC:=[]
def uzY :SC:=[]
def uAY :SC:=[(1,[qa 0 [],qa 1 [],qa 2 [1],qa 3 [0],qa 4 (qr 4),qa 5 (qr 5),qa 6 (qr 6),qa 7 (qr 7),qa 8 [],qa 9 [],qa 10 [9],qa 11 [8],qa 12 [8,11],qa 13 (qs 8 5),qa 14 (qs 8 6),qb 15 (qr 15),qb 16 (qr 16)])]
def uAD :SC:=[]
def uBe :SC:=[]
def uAQ :SC:=[(1,[qa 0 [],qa 1 [0],qa 2 [0,1],qa 3 [0,1,2],qa 4 [],qa 5 [4],qa 6 [4,5],qa 7 [4,5,6],qa 8 (qr 4),qb 9 (qr 9)]),(6,[qa 0 [],qa 1 [],qa 2 [1],qa 3 [],qa 4 [1,2,3],qa 5 (qs 1 4),qa 6 (qr 6),qa 7 [],qa 8 [],qa 9 [8],qa 10 [],qa 11 [8,9,10],qa 12 (qs 8 4),qa 13 (qs 7 6),qa 14 (qr 7),qb 15 (qr 15)]),(7,[qa 0 [],qa 1 [0],qa 2 [],qa 3 [2],qa 4 (qr 4),qa 5 (qr 5),qa 6 [],qa 7 (qr 7),qa 8 [],qa 9 [8],qa 10 [],qa 11 [10],qa 12 (qs 8 4),qa 13 (qs 8 5),qa 14 [],qa 15 (qs 8 7),qa 16 (qr 8),qb 17 (qr 17)]),(8,[qa 0 [],qa 1 [0],qa 2 [],qa 3 [0,1,2],qa 4 (qr 4),qa 5 [],qa 6 (qr 6),qa 7 (qr 7),qa 8 [],qa 9 (qr 9),qa 10 [],qa 11 (qr 11),qa 12 [],qa 13 [12],qa 14 [],qa 15 [14],qa 16 (qs 12 4),qa 17 (qs 12 5),qa 18 [],qa 19 (qs 12 7),qa 20 (qs 12 8),qa 21 [],qa 22 (qs 12 10),qa 23 [],qa 24 (qs 12 12),qa 25 (qr 25),qa 26 [],qa 27 [26],qa 28 [],qa 29 [26,27,28],qa 30 (qs 26 4),qa 31 [],qa 32 [31],qa 33 (qs 26 7),qa 34 (qs 26 8),qa 35 [],qa 36 (qs 26 10),qa 37 [],qa 38 (qs 26 12),qa 39 (qr 39),qa 40 [],qa 41 [40],qa 42 [],qa 43 [42],qa 44 (qs 40 4),qa 45 (qs 40 5),qa 46 [],qa 47 [46],qa 48 (qs 40 8),qa 49 (qs 40 9),qa 50 [],qa 51 (qs 40 11),qa 52 [],qa 53 (qs 40 13),qb 54 (qr 54),qb 55 (qr 55)])]
def uAA :SC:=[]
def uAG :SC:=[]
def uA8 :SC:=[]
def uAh :SC:=[(1,[qa 0 [],qa 1 [0],qa 2 [],qa 3 [],qa 4 [3],qa 5 [2,3,4],qa 6 (qs 2 4),qa 7 [],qa 8 [],qa 9 [8],qa 10 [7,8,9],qa 11 (qs 7 4),qa 12 (qs 2 10),qb 13 (qr 13),qb 14 (qr 14)])]
def uzP :SC:=[]
def uAz :SC:=[(1,[qa 0 [],qa 1 [],qa 3 [],qa 4 [],qa 5 [4],qa 6 [3,4,5],qa 7 (qs 3 4),qa 2 [0,1],qb 8 (qr 8),qb 9 (qr 9)])]
def uAS :SC:=[(1,[qa 0 [],qa 1 [0],qa 2 [0,1],qa 3 [0,1,2],qa 4 [],qa 9 [],qa 5 (qr 5),qa 6 (qr 6),qa 7 (qr 7),qa 8 (qr 7),qb 10 (qs 0 8++qs 9 1),qb 11 (qr 11)]),(4,[qa 0 [],qa 1 [0],qa 2 [0,1],qa 3 [0,1,2],qa 4 (qr 4),qa 5 [],qa 6 [5],qa 7 [],qa 8 [7],qa 13 [],qa 9 (qr 9),qa 10 (qr 10),qa 11 (qr 11),qa 12 (qr 11),qb 14 (qs 0 12++qs 13 1),qb 15 (qr 15)]),(5,[qa 0 [],qa 1 [0],qa 2 [0,1],qa 3 [0,1,2],qa 4 [],qa 5 [],qb 6 (qr 6)])]
def uAU :SC:=[]
def uBg :SC:=[(13,[qa 0 [],qa 1 [],qa 2 [],qa 3 [],qa 4 [],qa 5 [],qa 6 [3],qa 7 [3,4,6],qa 8 (qs 3 5),qa 9 (qs 3 6),qa 10 [],qa 11 [],qa 12 [],qa 13 [10],qa 14 [10,11,13],qa 15 (qs 10 5),qa 16 (qs 10 6),qa 17 (qs 3 14),qb 18 (qr 18)]),(17,[qa 0 [],qa 1 [0],qa 2 [0,1],qa 3 [],qb 4 (qr 4)])]
def uAv :SC:=[]
def uAu :SC:=[]
def uAs :SC:=[]
def uBG :SC:=[]
def uB9 :SC:=[]
def uBw :SC:=[]
def uAI :SC:=[]
def uw0 :SC:=[(1,[qa 0 [],qa 1 [],qa 2 [1],qa 3 [],qa 4 [],qa 10 [],qa 5 (qs 1 4),qa 6 (qr 6),qa 7 (qr 7),qa 8 (qr 8),qa 9 (qr 8),qb 11 (qs 0 9++qs 10 1),qb 12 (qr 12)]),(7,[⟨0,false,[],false,4,none⟩,qa 1 [],qa 3 [],qa 4 [3],qa 6 [],qa 7 [6],qa 8 [],qa 9 [8],qa 2 [1],⟨5,true,(qs 1 4),false,3,none⟩,qb 10 (qr 10)])]
def uAK :SC:=[]
def uAM :SC:=[]
def uAe :SC:=[]
def uzE :SC:=[]
def uBi :SC:=[]
def uB8 :SC:=[]
def uBa :SC:=[]
def uB4 :SC:=[(8,[qa 0 [],qa 1 [0],qa 2 [],qa 3 [0,1,2],qa 4 (qr 4),qa 5 (qr 5),qa 6 [],qa 7 [6],qa 8 [6,7],qb 9 (qr 9)])]
def uAE :SC:=[(1,[qa 0 [],qa 1 [0],qa 2 [],qa 3 [2],qb 4 (qr 4),⟨5,true,(qr 5),true,0,none⟩,qa 6 (qr 6),qa 7 (qr 7),qa 8 (qr 6),qa 9 (qs 0 6++qs 8 1),qa 10 (qs 0 6++qs 8 2),qb 11 (qr 11),qb 12 (qr 12),⟨13,true,(qr 13),true,0,none⟩,qa 14 (qr 14),qa 15 (qr 15),qa 16 (qr 14),qa 17 (qs 0 14++qs 16 1),qb 18 (qr 18),qb 19 (qr 19),qb 20 (qr 20)])]
def uzL :SC:=[]
def uA9 :SC:=[]
def uwB :SC:=[]
def uxt :SC:=[]
def ux8 :SC:=[]
def uwr :SC:=[]
def uyo :SC:=[(4,[qa 0 [],qa 1 [0],qa 3 [],qa 2 [0,1],qb 4 (qr 4),qb 5 (qr 5),⟨6,true,(qr 6),true,0,none⟩,qa 7 (qr 7),qa 8 (qr 8),qa 10 (qr 7),qa 9 (qr 9),qb 11 (qr 11),qb 12 (qr 12),qb 13 (qr 13)]),(9,[qa 0 [],qa 1 [0],qa 2 [],qa 3 [0,1,2],qa 5 [],qa 6 [5],qa 7 [],qa 8 [5,6,7],qa 4 (qr 4),qb 9 (qr 9),qb 10 (qr 10)])]
def uyV :SC:=[(0,[qa 0 [],qa 1 [],qa 2 [],qa 3 [],qa 4 [],qa 5 [],qa 6 [3],qa 7 [3,4,6],qa 8 (qs 3 5),qa 9 (qs 3 6),qa 10 [],qa 11 (qs 3 8),qa 13 [0],qa 14 [0,1,13],qa 12 (qs 3 9),qb 15 (qr 15),qb 16 (qr 16)])]
def uyN :SC:=[]
def uyu :SC:=[]
def uyS :SC:=[]
def uyw :SC:=[]
def uz4 :SC:=[]
def uye :SC:=[(1,[qa 0 [],qa 1 [],qa 2 [1],qa 3 [1,2],qa 4 [],qa 5 [],qa 6 [5],qa 7 [5,6],qa 8 (qs 4 4),qa 9 (qs 4 5),qb 10 (qr 10),qb 11 (qr 11)])]
def uyj :SC:=[(4,[qa 0 [],qa 1 [],qa 2 [0,1],qa 3 [0,1,2],qa 4 [],qb 5 (qr 5),qb 6 (qr 6),⟨7,true,(qr 7),true,0,none⟩,qb 8 (qr 8),qb 9 (qr 9),⟨10,true,(qr 10),true,0,none⟩,qa 11 (qr 11),qa 12 (qr 11),qa 13 (qr 13),qa 14 (qr 14),qa 15 (qr 11),qa 16 (qr 11),qa 17 (qs 0 11++qs 16 1),qa 18 (qs 0 11++qs 15 3),qa 19 (qs 0 11++qs 15 4),qb 20 (qr 20),qb 21 (qr 21),qb 22 (qr 22)])]
def utS :SC:=[]
def uxi :SC:=[]
def uwQ :SC:=[]
def uzv :SC:=[(1,[qa 0 [],qa 1 [0],qa 2 [0,1],qa 3 [],qa 4 [],qa 5 [4],qa 6 [4,5],qa 7 (qs 3 4),qa 8 (qs 3 5),qb 9 (qr 9),qb 10 (qr 10)])]
def uzI :SC:=[]
def uzn :SC:=[]
def uzs :SC:=[]
def uzc :SC:=[]
def uxn :SC:=[]
def uzD :SC:=[]
def uyF :SC:=[]
def uyx :SC:=[]
def uyU :SC:=[]
def uz9 :SC:=[]
def uzy :SC:=[]
def uyQ :SC:=[(1,[qa 0 [],qa 1 [0],qa 2 [],qa 4 [],qa 5 [4],qa 6 [],qa 3 [0,1,2],qb 7 (qr 7),qb 8 (qr 8),qb 9 (qr 9)]),(2,[qa 0 [],qa 1 [],qa 2 [1],qa 3 [],qa 4 [1,2,3],qa 5 (qs 1 4),qa 6 (qr 6),qa 7 [],qa 8 [],qa 9 [8],qa 10 [],qa 11 [8,9,10],qa 12 (qs 8 4),qa 13 (qs 7 6),qa 14 (qr 7),qb 15 (qr 15)]),(3,[qa 0 [],qa 1 [0],qa 2 [],qa 3 [2],qa 4 (qr 4),qa 5 (qr 5),qa 6 [],qa 7 [6],qa 8 [],qa 9 [6,7,8],qa 10 (qs 6 4),qa 11 (qr 11),qa 12 [],qa 13 [12],qa 14 [],qa 15 [14],qa 16 (qs 12 4),qa 17 (qs 12 5),qa 18 [],qa 19 [18],qa 20 [],qa 21 [18,19,20],qa 22 (qs 18 4),qa 23 (qs 12 11),qa 24 (qr 12),qb 25 (qr 25)]),(8,[qa 0 [],qa 1 [],qa 2 [1],qa 3 [],qa 4 [3],qa 5 (qs 1 4),qa 6 (qs 1 5),qa 7 [],qa 8 [7],qa 9 (qs 1 8),qa 10 (qs 1 9),qa 11 [],qa 12 [11],qa 13 (qs 1 12),qb 14 (qr 14),qb 15 (qr 15)])]
def uyI :SC:=[]
def uxg :SC:=[]
def uzq :SC:=[]
theorem uan :ucj Tryz.prog tab:=uvK (l:=uzQ) (by kernel_rfl) (by kernel_rfl)
theorem mix :Tryz.prog.follows .mixedOrders=true:=by kernel_rfl
end Go.Proofs.YtkdggbfknlcdaaaGreat

namespace Go.Proofs.YtkdggbfknlcdaaaGreat
def ubH (l:List Int)(n:Int):Nat→Nat→Nat
 |0,i=>i
 |f+1,i=>if i+2<l.length∧l.getD (i+1) 0≤n then ubH l n f (i+1)else i
def ubl (l:List Int)(most:Int)(i:Nat):Prop:=0≤l.getD i 0∧l.getD i 0≤most∧(0<i→l.getD (i-1) 0<l.getD i 0)
instance (l:List Int) (most:Int) (i:Nat):Decidable (ubl l most i):=by unfold ubl;infer_instance
def ucq (l:List Int)(most:Int):Bool:=decide (∀i,i<l.length→ubl l most i)
theorem uak {l:List Int} {most:Int}(h:ucq l most=true):∀i,i<l.length→ubl l most i:=of_decide_eq_true h
theorem ue3 {l:List Int} {most:Int}(h:ucq l most=true):∀{i j:Nat},i<j→j<l.length→l.getD i 0<l.getD j 0:=by
 intro i j hij
 induction j with
 |zero=>omega
 | succ j ih=>
  intro hj
  have h1:=(uak h (j+1) hj).2.2 (by omega)
  rw [Nat.add_sub_cancel]at h1
  by_cases e:i=j
  ·subst e;exact h1
  ·have:=ih (by omega) (by omega);omega
structure InCell (l:List Int)(n:Int)(i:Nat):Prop where
 lt:i+2≤l.length
 lo:l.getD i 0≤n
 hi:i+2=l.length∨n<l.getD (i+1) 0
theorem usF {l:List Int} {n:Int}:∀(f i:Nat),i+2≤l.length→l.length≤f+i+1→l.getD i 0≤n→InCell l n (ubH l n f i):=by
 intro f
 induction f with
 |zero=>intro i h1 h2 h3;omega
 | succ f ih=>
  intro i h1 h2 h3
  unfold ubH
  split
  ·rename_i h
   exact ih (i+1) (by omega) (by omega) h.2
  ·rename_i h
   refine⟨h1,h3,?_⟩
   by_cases e:i+2=l.length
   ·exact .inl e
   ·right
    refine Int.not_le.1 fun q=>h ⟨by omega,q⟩
theorem uc6 {l:List Int} {n:Int}(h2:2≤l.length)(h0:l.getD 0 0≤n):InCell l n (ubH l n l.length 0):=usF l.length 0 (by omega) (by omega) h0
def uqp (a b c d v00 v10 v01 v11 w m:Int):Int:=
 (2*(0+(v00*((b-a-(w-a))*(d-c-(m-c))))+(v10*((w-a)*(d-c-(m-c))))+(v01*((b-a-(w-a))*(m-c)))+(v11*((w-a)*(m-c))))+(b-a)*(d-c)).tdiv (2*(b-a)*(d-c))
def atI (tw tm:List Int)(tv:List (List Int))(w m:Int)(i k:Nat):Int:=
 uqp (tw.getD i 0) (tw.getD (i+1) 0) (tm.getD k 0) (tm.getD (k+1) 0) ((tv.getD i []).getD k 0) ((tv.getD (i+1) []).getD k 0) ((tv.getD i []).getD (k+1) 0) ((tv.getD (i+1) []).getD (k+1) 0) w m
def atS (tw tm:List Int)(tv:List (List Int))(w m:Int):Int:=atI tw tm tv w m (ubH tw w tw.length 0) (ubH tm m tm.length 0)
def ubM (tw tm:List Int)(tv:List (List Int)):Int:=
 if 5<tw.length∨5<tm.length∨5<tv.length then 3
 else if tw.length<2∨tm.length<2∨ucq tw 40=false∨ucq tm 60=false∨tv.length≠tw.length then 1
 else if ∀i,i<tv.length→(tv.getD i []).length=tm.length∧∀k,k<tm.length→0≤(tv.getD i []).getD k 0∧(tv.getD i []).getD k 0≤2000 then 0 else 1
structure TOk (tw tm:List Int)(tv:List (List Int)):Prop where
 w5:tw.length≤5
 m5:tm.length≤5
 w2:2≤tw.length
 m2:2≤tm.length
 rw:ucq tw 40=true
 rm:ucq tm 60=true
 len:tv.length=tw.length
 row:∀i,i<tv.length→(tv.getD i []).length=tm.length
 val:∀i,i<tv.length→∀k,k<tm.length→0≤(tv.getD i []).getD k 0∧(tv.getD i []).getD k 0≤2000
theorem ujB {tw tm:List Int} {tv:List (List Int)}(h:TOk tw tm tv):ubM tw tm tv=0:=by
 unfold ubM
 have a:=h.w5;have b:=h.m5;have c:=h.w2;have d:=h.m2;have e:=h.len
 rw [if_neg (by omega),if_neg (by simp only [h.rw,h.rm];simp;omega),if_pos (fun i hi=>⟨h.row i hi,h.val i hi⟩)]
def ubJ (p:Nat→Bool):Nat→Nat→Int
 |0,_=> -1
 |n+1,i=>if p i=true then ubJ p n (i+1)else i
theorem ub9 {p:Nat→Bool} {n i:Nat}(hn:0<n)(h:p i=false):ubJ p n i=i:=by
 cases n with
 |zero=>omega
 |succ n=>simp [ubJ,h]
theorem ucl {p:Nat→Bool} {n i:Nat}(hn:0<n)(h:p i=true):ubJ p n i=ubJ p (n-1) (i+1):=by
 cases n with
 |zero=>omega
 |succ n=>simp [ubJ,h]
theorem uiq {p:Nat→Bool}:∀{n i:Nat},0≤ubJ p n i↔∃j,i≤j∧j<i+n∧p j=false:=by
 intro n
 induction n with
 | zero => intro i;simp only [ubJ];constructor
           ·intro h;omega
           ·rintro⟨j,h1,h2,_⟩;omega
 | succ n ih=>
  intro i
  cases h:p i with
  | true=>
   rw [ucl (by omega) h,Nat.add_sub_cancel,ih]
   constructor
   ·rintro⟨j,h1,h2,h3⟩;exact⟨j,by omega,by omega,h3⟩
   ·rintro⟨j,h1,h2,h3⟩
    refine⟨j,?_,by omega,h3⟩
    by_cases e:j=i
    ·subst e;rw [h]at h3;cases h3
    ·omega
  | false=>
   rw [ub9 (by omega) h]
   exact⟨fun _=>⟨i,by omega,by omega,h⟩,fun _=>by omega⟩
theorem ugh {p:Nat→Bool} {n:Nat}:(!(decide (0≤ubJ p n 0)))=decide (∀i,i<n→p i=true):=by
 rw [Bool.eq_iff_iff]
 simp only [Bool.not_eq_true',decide_eq_false_iff_not,decide_eq_true_eq,uiq]
 constructor
 ·intro h i hi
  cases hp:p i with
  |true=>rfl
  |false=>exact absurd ⟨i,by omega,by omega,hp⟩ h
 ·rintro h ⟨j,_,h2,h3⟩
  rw [h j (by omega)]at h3;cases h3
structure Pt (tw tm:List Int)(w m:Int):Prop where
 w0:tw.getD 0 0≤w
 w1:w≤tw.getD (tw.length-1) 0
 m0:tm.getD 0 0≤m
 m1:m≤tm.getD (tm.length-1) 0
theorem InCell.le_hi {l:List Int} {n:Int} {i:Nat}(h:InCell l n i)(h1:n≤l.getD (l.length-1) 0):n≤l.getD (i+1) 0:=by
 rcases h.hi with q|q
 ·rw [show i+1=l.length-1 by omega];exact h1
 ·omega
theorem utd (a b c d v00 v10 v01 v11 w m:Int):0+(v00*((b-a-(w-a))*(d-c-(m-c))))+(v10*((w-a)*(d-c-(m-c))))+(v01*((b-a-(w-a))*(m-c)))+(v11*((w-a)*(m-c))) =
 v00*(b-w)*(d-m)+v10*(w-a)*(d-m)+v01*(b-w)*(m-c)+v11*(w-a)*(m-c):=by
 rw [show b-a-(w-a)=b-w by omega,show d-c-(m-c)=d-m by omega,Int.zero_add]
 simp only [Int.mul_assoc]
end Go.Proofs.YtkdggbfknlcdaaaGreat

namespace Go.Proofs.YtkdggbfknlcdaaaGreat
open Go Go.Eng Go.Proofs
set_option maxRecDepth 10000
theorem ug8 (n lo hi:Int):ua0 Tryz.prog 125 [(iv fun _=>n),(iv fun _=>lo),(iv fun _=>hi)] [] (fun r _=>r=(bv fun _=>decide (lo≤n)&&decide (n≤hi))):=by
 refine ua0.is fun R hR=>qW (sc:=uyx) uan mix Tryz.func125 rfl Tryz.call125 (by kernel_rfl) (by kernel_rfl) ?_
 generalize Tryz.prog=P
 cbv
 repeat' (first|with_reducible refine And.intro ?_ ?_|(with_reducible intro _;try cbv))
 all_goals subst hR
 all_goals refine qF ?_
 all_goals simp only [IX.den,BX.den,uct,ucx,ucw,udx,udv,udw,udi,udp,udm]at *
 all_goals simp_all
 all_goals (try omega)
theorem ux2 (lo hi n:Int):ua0 Tryz.prog 127 [(.agg [(iv fun _=>lo),(iv fun _=>hi)]),(iv fun _=>n)] [] (fun r _=>r=(bv fun _=>decide (lo≤n)&&decide (n≤hi))):=by
 have c113:= @ug8
 refine ua0.is fun R hR=>qW (sc:=uz9) uan mix Tryz.func127 rfl Tryz.call127 (by kernel_rfl) (by kernel_rfl) ?_
 generalize Tryz.prog=P at c113⊢
 cbv
 repeat' (first|(refine ud9 (c113 _ _ _) (by(repeat' (first|exact qB|refine qD ?_ ?_|exact qE rfl|exact qF rfl|exact Fit.refl _|exact qA|refine qC ?_ rfl ?_))) ?_;try cbv))
 subst hR
 exact qF rfl
end Go.Proofs.YtkdggbfknlcdaaaGreat

namespace Go.Proofs.YtkdggbfknlcdaaaGreat
open Go Go.Eng Go.Proofs
set_option maxRecDepth 10000
theorem uu5 (l:List Int)(n:Int)(h:2≤l.length∧l.length≤1000):ua0 Tryz.prog 132 [(iS l),(iv fun _=>n)] [] (fun r _=>r = (iv fun _=>zi (ubH l n l.length 0))):=by
 refine ua0.is fun R hR=>qW (sc:=uzq) uan mix Tryz.func132 rfl Tryz.call132 (by kernel_rfl) (by kernel_rfl) ?_
 generalize Tryz.prog=P
 cbv
 refine⟨none,[],{i:Nat // i<l.length∧ubH l n l.length 0=ubH l n (l.length-i) i},fun i=>⟨[(5,(iv fun _=>zi i.1)),(0,(iS l)),(1,(iv fun _=>n))],[],1⟩,fun i=>l.length-i.1,?_,?_⟩
 ·refine⟨⟨0,by omega,rfl⟩,?_⟩
  cbv
  repeat' (first|with_reducible refine ua4 ?_ ?_|with_reducible refine And.intro ?_ ?_)
  all_goals first|trivial|exact qM (qE (by rfl))|exact qM (Fit.refl _)
 ·rintro⟨i,hi⟩
  have hf:∃f,l.length-i=f+1:=⟨l.length-i-1,by omega⟩
  obtain⟨f,hf⟩:=hf
  have hc:=hi.2
  rw [hf,ubH]at hc
  cbv
  repeat' (first|with_reducible refine ua4 ?_ ?_|with_reducible refine And.intro ?_ ?_|(with_reducible intro _;try cbv))
  all_goals simp only [uaa,ub7,den_lit,ubk,ubn,uct,ucx,ucw,udx,udv,udw,udi,udp,udm,decide_eq_true_eq,decide_eq_false_iff_not,Bool.not_true]at *
  all_goals first|(refine qN ?_;omega)|(simp only [uaq];omega)|skip
  ·rename_i h1 h2
   have e:(((i:Int)+1).toNat)=i+1:=by omega
   rw [e]at h2
   rw [if_pos ⟨by omega,h2⟩]at hc
   refine⟨⟨i+1,by omega,by rw [show l.length-(i+1)=f by omega];exact hc⟩,by simp only [];omega,?_⟩
   cbv
   repeat' (first|with_reducible refine ua4 ?_ ?_|with_reducible refine And.intro ?_ ?_)
   all_goals first|trivial|exact qM (qE (by rfl))|exact qM (Fit.refl _)
  ·rename_i h1 h2
   have e:(((i:Int)+1).toNat)=i+1:=by omega
   rw [e]at h2
   rw [if_neg (fun q=>by omega)]at hc
   subst hR
   exact qE (by rw [ub7,ub7,hc])
  ·rename_i h1
   rw [if_neg (fun q=>by omega)]at hc
   subst hR
   exact qE (by rw [ub7,ub7,hc])
end Go.Proofs.YtkdggbfknlcdaaaGreat

namespace Go.Proofs.YtkdggbfknlcdaaaGreat
open Go Go.Eng Go.Proofs
set_option maxRecDepth 10000
theorem uzf (n lo hi:Int):ua0 Tryz.prog 22 [(iv fun _=>n),(iv fun _=>lo),(iv fun _=>hi)] [] (fun r _=>r=(bv fun _=>decide (lo≤n)&&decide (n≤hi))):=by
 refine ua0.is fun R hR=>qW (sc:=uAW) uan mix Tryz.func22 rfl Tryz.call22 (by kernel_rfl) (by kernel_rfl) ?_
 generalize Tryz.prog=P
 cbv
 repeat' (first|with_reducible refine And.intro ?_ ?_|(with_reducible intro _;try cbv))
 all_goals (try subst hR)
 all_goals refine qF ?_
 all_goals (try simp only [uaa,ub7,den_lit,ubk,ubn,uct,ucx,ucw,udx,udv,udw,udi,udp,udm,decide_eq_true_eq,decide_eq_false_iff_not,Bool.not_true]at *)
 all_goals simp_all
 all_goals (try omega)
theorem urw (n:Int):ua0 Tryz.prog 123 [(iv fun _=>n)] [] (fun r _=>r=(bv fun _=>decide (0≤n)&&decide (n≤2000))):=by
 have c113:= @ug8
 refine ua0.is fun R hR=>qW (sc:=uzD) uan mix Tryz.func123 rfl Tryz.call123 (by kernel_rfl) (by kernel_rfl) ?_
 generalize Tryz.prog=P at c113⊢
 cbv
 repeat' (first|(refine ud9 (c113 _ _ _) (by(repeat' (first|exact qB|refine qD ?_ ?_|exact qE (by rfl)|exact qF (by rfl)|exact Fit.refl _|exact qA|refine qC ?_ rfl ?_))) ?_;try cbv))
 all_goals (try subst hR)
 all_goals (try simp only [uaa,ub7,den_lit,ubk,ubn,uct,ucx,ucw,udx,udv,udw,udi,udp,udm,decide_eq_true_eq,decide_eq_false_iff_not,Bool.not_true]at *)
 all_goals first|skip
 all_goals (repeat' (first|exact qA|exact qB|refine qC ?_ rfl ?_|refine qD ?_ ?_|exact qE (by rfl)|exact qF (by rfl)|exact Fit.refl _))
theorem uql (l:List Int)(h:1≤l.length∧l.length≤1000):ua0 Tryz.prog 68 [(iS l)] [] (fun r _=>r=(iv fun _=>l.getD (l.length-1) 0)):=by
 refine ua0.is fun R hR=>qW (sc:=uBe) uan mix Tryz.func68 rfl Tryz.call68 (by kernel_rfl) (by kernel_rfl) ?_
 generalize Tryz.prog=P
 cbv
 repeat' (first|with_reducible refine ua4 ?_ ?_|(with_reducible intro _;try cbv))
 all_goals (try subst hR)
 all_goals (try simp only [uaa,ub7,den_lit,ubk,ubn,uct,ucx,ucw,udx,udv,udw,udi,udp,udm,decide_eq_true_eq,decide_eq_false_iff_not,Bool.not_true]at *)
 all_goals first|(refine qN ?_;omega)|(simp only [uaq];omega)|skip
 ·refine qE ?_
  rw [ub7,ub7]
  congr 1
  omega
theorem uu3 (l:List Int)(h:1≤l.length∧l.length≤1000):ua0 Tryz.prog 117 [(iS l)] [] (fun r _=>r=(.agg [(iv fun _=>l.getD 0 0),(iv fun _=>l.getD (l.length-1) 0)])):=by
 refine ua0.is fun R hR=>qW (sc:=uzv) uan mix Tryz.func117 rfl Tryz.call117 (by kernel_rfl) (by kernel_rfl) ?_
 generalize Tryz.prog=P
 cbv
 repeat' (first|with_reducible refine ua4 ?_ ?_|(with_reducible intro _;try cbv))
 all_goals (try subst hR)
 all_goals (try simp only [uaa,ub7,den_lit,ubk,ubn,uct,ucx,ucw,udx,udv,udw,udi,udp,udm,decide_eq_true_eq,decide_eq_false_iff_not,Bool.not_true]at *)
 all_goals first|(refine qN ?_;omega)|(simp only [uaq];omega)|skip
 ·refine qC (qE (by rfl)) rfl (qC (qE ?_) rfl qA)
  rw [ub7,ub7]
  congr 1
  omega
theorem urA (a b c d:Int):ua0 Tryz.prog 118 [(.agg [(iv fun _=>a),(iv fun _=>b)]),(.agg [(iv fun _=>c),(iv fun _=>d)])] [] (fun r _=>r=(bv fun _=>decide (c≤d)&&(decide (a≤c)&&decide (c≤b))&&(decide (a≤d)&&decide (d≤b)))):=by
 have c124:= @ux2
 refine ua0.is fun R hR=>qW (sc:=uzI) uan mix Tryz.func118 rfl Tryz.call118 (by kernel_rfl) (by kernel_rfl) ?_
 generalize Tryz.prog=P at c124⊢
 cbv
 repeat' (first|with_reducible refine And.intro ?_ ?_|(with_reducible intro _;try cbv)|(refine ud9 (c124 _ _ _) (by(repeat' (first|exact qB|refine qD ?_ ?_|exact qE (by rfl)|exact qF (by rfl)|exact Fit.refl _|exact qA|refine qC ?_ rfl ?_))) ?_;try cbv))
 all_goals (try subst hR)
 all_goals refine qF ?_
 all_goals (try simp only [uaa,ub7,den_lit,ubk,ubn,uct,ucx,ucw,udx,udv,udw,udi,udp,udm,decide_eq_true_eq,decide_eq_false_iff_not,Bool.not_true]at *)
 all_goals simp_all
 all_goals (try omega)
theorem upK (l:List Int)(h:l.length≤1000):ua0 Tryz.prog 83 [(iS l)] [] (fun r _=>r=(iS l)):=by
 refine ua0.is fun R hR=>qW (sc:=uAs) uan mix Tryz.func83 rfl Tryz.call83 (by kernel_rfl) (by kernel_rfl) ?_
 generalize Tryz.prog=P
 cbv
 repeat' (first|with_reducible refine ua4 ?_ ?_|(with_reducible intro _;try cbv))
 all_goals (try subst hR)
 all_goals (try simp only [uaa,ub7,den_lit,ubk,ubn,uct,ucx,ucw,udx,udv,udw,udi,udp,udm,decide_eq_true_eq,decide_eq_false_iff_not,Bool.not_true]at *)
 all_goals first|(simp [uaq];omega)|skip
 all_goals (repeat' (first|exact qA|exact qB|refine qC ?_ rfl ?_|refine qD ?_ ?_|exact qE (by rfl)|exact qF (by rfl)|exact Fit.refl _))
end Go.Proofs.YtkdggbfknlcdaaaGreat

namespace Go.Proofs.YtkdggbfknlcdaaaGreat
open Go Go.Eng Go.Proofs
set_option maxRecDepth 10000
theorem uq5 (l:List Int)(most:Int)(h:l.length≤1000):ua0 Tryz.prog 113 [(iS l),(iv fun _=>most)] [] (fun r _=>r=(bv fun _=>ucq l most)):=by
 have c31:= @uzf
 refine ua0.is fun R hR=>qW (sc:=uyj) uan mix Tryz.func113 rfl Tryz.call113 (by kernel_rfl) (by kernel_rfl) ?_
 generalize Tryz.prog=P at c31⊢
 cbv
 refine⟨none,[],{i:Nat // i≤l.length∧∀j,j<i→ubl l most j},fun x=>⟨[(5,(iv fun _=>zi x.1)),(0,(iS l)),(1,(iv fun _=>most))],[],2⟩,fun x=>l.length-x.1,?_,?_⟩
 ·refine⟨⟨0,by omega,fun j hj=>by omega⟩,?_⟩
  cbv
  repeat' (first|with_reducible refine ua4 ?_ ?_|with_reducible refine And.intro ?_ ?_)
  all_goals first|trivial|exact qM (qE (by rfl))|exact qM (Fit.refl _)|skip
 ·rintro⟨i,hi,hr⟩
  cbv
  repeat' (first|with_reducible refine ua4 ?_ ?_|with_reducible refine And.intro ?_ ?_|(with_reducible intro _;try cbv)|(refine ud9 (c31 _ _ _) (by(repeat' (first|exact qB|refine qD ?_ ?_|exact qE (by rfl)|exact qF (by rfl)|exact Fit.refl _|exact qA|refine qC ?_ rfl ?_))) ?_;try cbv))
  all_goals simp only [uaa,ub7,den_lit,ubk,ubn,uct,ucx,ucw,udx,udv,udw,udi,udp,udm,decide_eq_true_eq,decide_eq_false_iff_not,Bool.not_true,Bool.not_eq_true',Bool.not_eq_false',Bool.and_eq_true,Bool.and_eq_false_iff]at *
  all_goals (have ei:((i:Int)).toNat=i:=by omega)
  all_goals (have ei1:((i:Int)-1).toNat=i-1:=by omega)
  all_goals simp only [ei,ei1]at *
  all_goals (try simp only [decide_eq_true_eq,decide_eq_false_iff_not]at *)
  all_goals clear ei ei1
  all_goals first
   |(refine qN ?_;omega)
   |(simp only [uaq];omega)
   | (subst hR
      refine qF ?_
      rw [ubn,ubk]
      refine(decide_eq_false ?_).symm
      intro hall
      have:=hall i (by omega)
      simp only [ubl]at this
      omega)
   | (subst hR
      refine qF ?_
      rw [ubn,ubk]
      exact(decide_eq_true (fun j hj=>hr j (by omega))).symm)
   |skip
  all_goals (have hnew:ubl l most i:=by simp only [ubl];omega)
  all_goals refine⟨⟨i+1,by omega,fun j hj=>(Nat.lt_or_ge j i).elim (hr j) (fun q=>by rw [show j=i by omega];exact hnew)⟩,by simp only [];omega,?_⟩
  all_goals cbv
  repeat' (first|with_reducible refine ua4 ?_ ?_|with_reducible refine And.intro ?_ ?_)
  all_goals first|trivial|exact qM (qE (by rfl))|exact qM (Fit.refl _)|skip
end Go.Proofs.YtkdggbfknlcdaaaGreat

namespace Go.Proofs.YtkdggbfknlcdaaaGreat
open Go Go.Eng Go.Proofs
set_option maxRecDepth 10000
theorem utI (a b:Int):ua0 Tryz.prog 130 [(.sl 1 (.lit 2) (fun ix=>uck [(iv fun _=>a),(iv fun _=>b)] (0+ix.den.toNat*1) 1))] [] (fun r _=>r=(iv fun _=>min a b)):=by
 refine ua0.is fun R hR=>qW (sc:=uyI) uan mix Tryz.func130 rfl Tryz.call130 (by kernel_rfl) (by kernel_rfl) ?_
 generalize Tryz.prog=P
 cbv
 repeat' (first|with_reducible refine ua4 ?_ ?_|fail)
 all_goals first|(refine⟨some 3,?_⟩;cbv)|skip
 repeat' (first|with_reducible refine ua4 ?_ ?_|fail)
 all_goals first|trivial|(subst hR;(refine qE ?_;simp only [zQ,zA,zB,zC,zD,zE,zF,zG,zH,zI,zJ,zK,zL,zM,zN,zO,zP,zR,zS];omega);done)|skip
theorem umL (a b:Int):ua0 Tryz.prog 120 [(.sl 1 (.lit 2) (fun ix=>uck [(iv fun _=>a),(iv fun _=>b)] (0+ix.den.toNat*1) 1))] [] (fun r _=>r=(iv fun _=>min a b)):=by
 have c127:= @utI
 refine ua0.is fun R hR=>qW (sc:=uzs) uan mix Tryz.func120 rfl Tryz.call120 (by kernel_rfl) (by kernel_rfl) ?_
 generalize Tryz.prog=P at c127⊢
 cbv
 repeat' (first|(refine qP ?_ (c127 _ _) (by(repeat' (first|exact qB|refine qD ?_ ?_|exact qE (by rfl)|exact qF (by rfl)|exact Fit.refl _|exact qA|refine qC ?_ rfl ?_)));try cbv)|fail)
 all_goals first|(subst hR;(repeat' (first|exact qA|exact qB|refine qC ?_ rfl ?_|refine qD ?_ ?_|exact qE (by rfl)|exact qF (by rfl)|exact Fit.refl _|exact qG _|(refine qE ?_;(try simp only [qV]at *);simp only [zQ,zA,zB,zC,zD,zE,zF,zG,zH,zI,zJ,zK,zL,zM,zN,zO,zP,zR,zS]at *;omega)));done)|skip
end Go.Proofs.YtkdggbfknlcdaaaGreat

namespace Go.Proofs.YtkdggbfknlcdaaaGreat
open Go Go.Eng Go.Proofs
set_option maxRecDepth 10000
theorem ubX {x y:Int}(A B:Int)(hx:0≤x∧x≤A)(hy:0≤y∧y≤B):0≤x*y∧x*y≤A*B:=
 ⟨Int.mul_nonneg hx.1 hy.1,Int.mul_le_mul hx.2 hy.2 hy.1 (Int.le_trans hx.1 hx.2)⟩
theorem uwK (tw tm:List Int)(tv:List (List Int))(w m a b c d v00 v10 v01 v11:Int)(i k:Nat)(hl:2≤tw.length∧tw.length≤1000∧2≤tm.length∧tm.length≤1000)(hi:ubH tw w tw.length 0=i)(hk:ubH tm m tm.length 0=k)(ha:tw.getD i 0=a)(hb:tw.getD (i+1) 0=b)(hc:tm.getD k 0=c)(hd:tm.getD (k+1) 0=d)(h00:(tv.getD i []).getD k 0=v00)(h10:(tv.getD (i+1) []).getD k 0=v10)(h01:(tv.getD i []).getD (k+1) 0=v01)(h11:(tv.getD (i+1) []).getD (k+1) 0=v11)(hil:i+1<tw.length∧k+1<tm.length∧i+1<tv.length∧k+1<(tv.getD i []).length∧k+1<(tv.getD (i+1) []).length)(hbd:0≤a∧a≤w∧w≤b∧a<b∧b≤40∧0≤c∧c≤m∧m≤d∧c<d∧d≤60)(hv:0≤v00∧v00≤2000∧0≤v10∧v10≤2000∧0≤v01∧v01≤2000∧0≤v11∧v11≤2000):ua0 Tryz.prog 129 [(.agg [(iS tw),(iS tm),(.sl 1 (.sym fun _=>zi (tv).length) (fun ix=>[(.sl 1 (.sym fun _=>zi ((tv).getD ix.den.toNat []).length) (fun jx=>[(iv fun _=>((tv).getD ix.den.toNat []).getD jx.den.toNat 0)]))]))]),(iv fun _=>w),(iv fun _=>m)] [] (fun r _=>r=(iv fun _=>((2*(0+(v00*((b-a-(w-a))*(d-c-(m-c))))+(v10*((w-a)*(d-c-(m-c))))+(v01*((b-a-(w-a))*(m-c)))+(v11*((w-a)*(m-c))))+(b-a)*(d-c)).tdiv (2*(b-a)*(d-c))))):=by
 have c128:= @uu5
 have p1:=ubX (x:=b-a-(w-a)) (y:=d-c-(m-c)) 40 60 (by omega) (by omega)
 have p2:=ubX (x:=w-a) (y:=d-c-(m-c)) 40 60 (by omega) (by omega)
 have p3:=ubX (x:=b-a-(w-a)) (y:=m-c) 40 60 (by omega) (by omega)
 have p4:=ubX (x:=w-a) (y:=m-c) 40 60 (by omega) (by omega)
 have p5:=ubX (x:=b-a) (y:=d-c) 40 60 (by omega) (by omega)
 have p6:1≤(b-a)*(d-c):=Int.mul_pos (by omega) (by omega)
 have q1:=ubX (x:=v00) 2000 2400 (by omega) p1
 have q2:=ubX (x:=v10) 2000 2400 (by omega) p2
 have q3:=ubX (x:=v01) 2000 2400 (by omega) p3
 have q4:=ubX (x:=v11) 2000 2400 (by omega) p4
 have p7:2*(b-a)*(d-c)=2*((b-a)*(d-c)):=Int.mul_assoc _ _ _
 have ei:((i:Int)+1).toNat=i+1:=by omega
 have ek:((k:Int)+1).toNat=k+1:=by omega
 have ei0:(i:Int).toNat=i:=by omega
 have ek0:(k:Int).toNat=k:=by omega
 refine ua0.is fun R hR=>qW (sc:=uyQ) uan mix Tryz.func129 rfl Tryz.call129 (by kernel_rfl) (by kernel_rfl) ?_
 generalize Tryz.prog=P at c128⊢
 cbv
 repeat' (first|with_reducible refine ua4 ?_ ?_|(refine qP ?_ (c128 _ _ (show uaq _ from ?_)) (by(repeat' (first|exact qB|refine qD ?_ ?_|exact qE (by rfl)|exact qF (by rfl)|exact Fit.refl _|exact qA|refine qC ?_ rfl ?_)));try cbv)|fail)
 all_goals try (refine⟨some 5,?_⟩;cbv)
 repeat' (first|with_reducible refine ua4 ?_ ?_|(with_reducible refine qS ?_ ?_ ?_;try cbv)|fail)
 all_goals (try simp only [zQ,zA,zB,zC,zD,zE,zF,zG,zH,zI,zJ,zK,zL,zM,zN,zO,zP,zR,zS,hi,hk,ei,ek,ei0,ek0,ha,hb,hc,hd,h00,h10,h01,h11])
 all_goals first|(refine qN ?_;omega)|(simp only [uaq];omega)|(refine qN ?_;rw [p7,Int.tdiv_eq_ediv_of_nonneg (by omega)];refine⟨?_,?_⟩;exact Int.le_trans (by omega) (Int.ediv_nonneg (by omega) (by omega));exact Int.le_trans (Int.ediv_le_self _ (by omega)) (by omega))|(subst hR;exact qE (by rfl))|(simp only [uaq];decide)|skip
 trace_state
end Go.Proofs.YtkdggbfknlcdaaaGreat

namespace Go.Proofs.YtkdggbfknlcdaaaGreat
open Go Go.Eng Go.Proofs
set_option maxRecDepth 10000
theorem uyd (tw tm:List Int)(tv:List (List Int))(w m:Int)(h:TOk tw tm tv∧Pt tw tm w m):ua0 Tryz.prog 129 [(.agg [(iS tw),(iS tm),(.sl 1 (.sym fun _=>zi (tv).length) (fun ix=>[(.sl 1 (.sym fun _=>zi ((tv).getD ix.den.toNat []).length) (fun jx=>[(iv fun _=>((tv).getD ix.den.toNat []).getD jx.den.toNat 0)]))]))]),(iv fun _=>w),(iv fun _=>m)] [] (fun r _=>r=(iv fun _=>atS tw tm tv w m)):=by
 obtain⟨h,hp⟩:=h
 have hi:=uc6 h.w2 hp.w0
 have hk:=uc6 h.m2 hp.m0
 have hr:=uak h.rw
 have hs:=uak h.rm
 have l1:=hi.lt
 have l2:=hk.lt
 have a1:=hr (ubH tw w tw.length 0) (by omega)
 have a2:=hr (ubH tw w tw.length 0+1) (by omega)
 have a3:=hs (ubH tm m tm.length 0) (by omega)
 have a4:=hs (ubH tm m tm.length 0+1) (by omega)
 simp only [ubl,Nat.add_sub_cancel]at a1 a2 a3 a4
 have e:=h.len
 have r1:=h.row (ubH tw w tw.length 0) (by omega)
 have r2:=h.row (ubH tw w tw.length 0+1) (by omega)
 have v1:=h.val (ubH tw w tw.length 0) (by omega) (ubH tm m tm.length 0) (by omega)
 have v2:=h.val (ubH tw w tw.length 0+1) (by omega) (ubH tm m tm.length 0) (by omega)
 have v3:=h.val (ubH tw w tw.length 0) (by omega) (ubH tm m tm.length 0+1) (by omega)
 have v4:=h.val (ubH tw w tw.length 0+1) (by omega) (ubH tm m tm.length 0+1) (by omega)
 have b1:=hi.le_hi hp.w1
 have b2:=hk.le_hi hp.m1
 have c1:=hi.lo
 have c2:=hk.lo
 have d1:=h.w5;have d2:=h.m5;have d3:=h.w2;have d4:=h.m2
 exact uwK tw tm tv w m _ _ _ _ _ _ _ _ _ _ (by omega) rfl rfl rfl rfl rfl rfl rfl rfl rfl rfl (by omega) (by omega) (by omega)
end Go.Proofs.YtkdggbfknlcdaaaGreat

namespace Go.Proofs.YtkdggbfknlcdaaaGreat
def ucp (l:List Int)(i:Nat):Int:=if i=0 then -1 else l.getD (i-1) 0
theorem ugv (l:List Int):ucp l 0 = -1:=rfl
theorem uex (l:List Int)(i:Nat):ucp l (i+1)=l.getD i 0:=by simp [ucp]
def uls (l:List Int)(most:Int)(i:Nat):Bool:=decide (ucp l i+1≤l.getD i 0)&&decide (l.getD i 0≤most)
theorem uq6 {l:List Int} {most:Int} {i:Nat}(h:∀j,j<i→uls l most j=true): -1≤ucp l i∧(ucp l i≤most∨ucp l i = -1):=by
 induction i with
 |zero=>rw [ugv];omega
 | succ i ih=>
  have:=ih fun j hj=>h j (by omega)
  have h2:=h i (by omega)
  simp only [uls,Bool.and_eq_true,decide_eq_true_eq]at h2
  rw [uex];omega
theorem unU (l:List Int)(most:Int):decide (∀i,i<l.length→uls l most i=true)=ucq l most:=by
 rw [Bool.eq_iff_iff]
 simp only [ucq,decide_eq_true_eq]
 constructor
 ·intro h i hi
  have h1:=h i hi
  simp only [uls,Bool.and_eq_true,decide_eq_true_eq]at h1
  have h2:=uq6 (i:=i) fun j hj=>h j (by omega)
  refine⟨by omega,by omega,fun h0=> ?_⟩
  obtain⟨k,rfl⟩:∃k,i=k+1:=⟨i-1,by omega⟩
  rw [uex]at h1
  rw [Nat.add_sub_cancel];omega
 ·intro h i hi
  have h1:=h i hi
  simp only [ubl]at h1
  simp only [uls,Bool.and_eq_true,decide_eq_true_eq]
  refine⟨?_,h1.2.1⟩
  by_cases e:i=0
  ·subst e;rw [ugv];omega
  ·have:=h1.2.2 (by omega)
   simp only [ucp,e,if_false];omega
def uuG (l:List Int):Bool:=decide (∀i,i<l.length→(decide (0≤l.getD i 0)&&decide (l.getD i 0≤2000))=true)
def ufr (n:Nat)(l:List Int):Bool:=decide (l.length=n)&&uuG l
def ugQ (tm:List Int)(tv:List (List Int)):Bool:=decide (∀i,i<tv.length→ufr tm.length (tv.getD i [])=true)
theorem ud8 (tm:List Int)(tv:List (List Int)):ugQ tm tv=true↔∀i,i<tv.length→(tv.getD i []).length=tm.length∧∀k,k<tm.length→0≤(tv.getD i []).getD k 0∧(tv.getD i []).getD k 0≤2000:=by
 simp only [ugQ,ufr,uuG,decide_eq_true_eq,Bool.and_eq_true]
 constructor
 ·intro h i hi
  obtain⟨h1,h2⟩:=h i hi
  exact⟨h1,fun k hk=>h2 k (by omega)⟩
 ·intro h i hi
  obtain⟨h1,h2⟩:=h i hi
  exact⟨h1,fun k hk=>h2 k (by omega)⟩
theorem udS (tw tm:List Int)(tv:List (List Int)):ubM tw tm tv=if 5<tw.length∨5<tm.length∨5<tv.length then 3
 else if tw.length<2∨tm.length<2∨ucq tw 40=false∨ucq tm 60=false∨tv.length≠tw.length∨ugQ tm tv=false then 1 else 0:=by
 unfold ubM
 split
 ·rfl
 ·by_cases h:ugQ tm tv=true
  ·have h':=(ud8 tm tv).1 h
   simp only [h,Bool.true_eq_false,or_false]
   split
   ·rfl
   ·first|rfl|rw [if_pos h']
  ·have h':=fun q=>h ((ud8 tm tv).2 q)
   have hf:ugQ tm tv=false:=by simpa using h
   simp only [hf,or_true,if_true]
   split
   ·rfl
   ·first|rfl|rw [if_neg h']
end Go.Proofs.YtkdggbfknlcdaaaGreat

namespace Go.Proofs.YtkdggbfknlcdaaaGreat
open Go Go.Eng Go.Proofs
set_option maxRecDepth 10000
theorem umK (l:List Int)(hfew:l.length≤1000)(i:Nat)(hi:i<l.length∧∀j,j<i→(decide (0≤l.getD (j) 0)&&decide (l.getD (j) 0≤2000))=true):ua0 Tryz.prog 131 [(iv fun _=>l.getD (i) 0),.own 0 0] [.cells [.clo 123 [] []] 121] (fun r bs=>r=(bv fun _=> !(decide (0≤l.getD (i) 0)&&decide (l.getD (i) 0≤2000)))∧bs=[.cells [.clo 123 [] []] 121]):=by
 have cf:=urw (l.getD i 0)
 refine ua0.isB rfl fun R B hR hB=>qW (sc:=uxg) uan mix Tryz.func131 rfl Tryz.call131 (by kernel_rfl) (by kernel_rfl) ?_
 generalize Tryz.prog=P at cf⊢
 cbv
 repeat' (first|with_reducible refine And.intro ?_ ?_|(refine qP ?_ (cf) (by(repeat' (first|exact qB|refine qD ?_ ?_|exact qE (by rfl)|exact qF (by rfl)|exact Fit.refl _|exact qA|refine qC ?_ rfl ?_)));try cbv)|fail)
 all_goals first|(subst hR;(repeat' (first|exact qA|exact qB|refine qC ?_ rfl ?_|refine qD ?_ ?_|exact qE (by rfl)|exact qF (by rfl)|exact Fit.refl _|exact qG _|(refine qE ?_;(try simp only [qV]at *);simp only [zQ,zA,zB,zC,zD,zE,zF,zG,zH,zI,zJ,zK,zL,zM,zN,zO,zP,zR,zS]at *;omega)));done)|(subst hB;(repeat' (first|exact qH|refine qI ?_ ?_|exact qK _|refine qJ ?_|exact qA|exact qE (by rfl)|exact qF (by rfl)|exact Fit.refl _|exact qG _|refine qC ?_ rfl ?_));done)|skip
theorem un3 (l:List Int)(hfew:l.length≤1000):ua0 Tryz.prog 114 [(iS l),.clo 131 [] [.own 0 0]] [.cells [.clo 123 [] []] 121] (fun r bs=>r=(iv fun _=>ubJ (fun i=>decide (0≤l.getD (i) 0)&&decide (l.getD (i) 0≤2000)) (l.length) 0)∧bs=[.cells [.clo 123 [] []] 121]):=by
 have cl:=umK l hfew
 refine ua0.isB rfl fun R B hR hB=>qW (sc:=utS) uan mix Tryz.func114 rfl Tryz.call114 (by kernel_rfl) (by kernel_rfl) ?_
 generalize Tryz.prog=P at cl⊢
 cbv
 repeat' (first|fail)
 all_goals first|skip
 refine⟨none,[],{i:Nat // i≤l.length∧ubJ (fun i=>decide (0≤l.getD (i) 0)&&decide (l.getD (i) 0≤2000)) (l.length) 0=ubJ (fun i=>decide (0≤l.getD (i) 0)&&decide (l.getD (i) 0≤2000)) (l.length-i) i∧∀j,j<i→(decide (0≤l.getD (j) 0)&&decide (l.getD (j) 0≤2000))=true},fun x=>⟨[(0,(iS l)),(1,.clo 131 [] [.own 0 0]),(7,(iv fun _=>zi (l.length))),(8,(iv fun _=>zi x.1))],[(0,.cells [.clo 123 [] []] 121)],20⟩,fun x=>l.length-x.1,?_,?_⟩
 ·refine⟨⟨0,by omega,rfl,fun j hj=>by omega⟩,?_⟩
  cbv
  repeat' (first|with_reducible refine ua4 ?_ ?_|with_reducible refine And.intro ?_ ?_)
  all_goals first|trivial|exact qM (qE (by rfl))|exact qM (Fit.refl _)|exact qL (qK _)|skip
 ·rintro ⟨i,hi,hr,hq⟩
  cbv
  repeat' (first
   |with_reducible refine ua4 ?_ ?_
   |with_reducible refine And.intro ?_ ?_
   |(with_reducible intro hcd;(try simp only [zA,zB,zC,zD,zE,zF,zG,zH,zI,zJ,zK,zL,zM,zN,zO,zP]at hcd);try cbv)
   | (refine⟨some [0],?_⟩
      cbv
      refine qQ ?_ (cl i ⟨by(try simp only [qV]at *);simp only [uaa]at *;omega,hq⟩) (by cbv;(repeat' (first|exact qB|refine qD ?_ ?_|exact qE (by rfl)|exact qF (by rfl)|exact Fit.refl _|exact qA|refine qC ?_ rfl ?_))) (by cbv;(repeat' (first|exact qH|refine qI ?_ ?_|exact qK _|refine qJ ?_|exact qA|exact qE (by rfl)|exact qF (by rfl)|exact Fit.refl _|exact qG _|refine qC ?_ rfl ?_)))
      try cbv)
   |fail)
  all_goals first|((try simp only [qV]at *);(try simp only [zQ,zA,zB,zC,zD,zE,zF,zG,zH,zI,zJ,zK,zL,zM,zN,zO,zP,zR,zS]at *);first|(refine qN ?_;omega)|(simp only [uaq];omega))|(subst hR;(refine qE ?_;simp only [zQ,zA,zB,zC,zD,zE,zF,zG,zH,zI,zJ,zK,zL,zM,zN,zO,zP,zR,zS]at *;rw [hr,ub9 (by omega) hcd]);done)|(subst hR;(refine qE ?_;simp only [zQ,zA,zB,zC,zD,zE,zF,zG,zH,zI,zJ,zK,zL,zM,zN,zO,zP,zR,zS]at *;rw [hr,show l.length-i=0 by omega];rfl);done)|(subst hB;(repeat' (first|exact qH|refine qI ?_ ?_|exact qK _|refine qJ ?_|exact qA|exact qE (by rfl)|exact qF (by rfl)|exact Fit.refl _|exact qG _|refine qC ?_ rfl ?_));done)|((try simp only [zQ,zA,zB,zC,zD,zE,zF,zG,zH,zI,zJ,zK,zL,zM,zN,zO,zP,zR,zS]at *);refine⟨⟨i+1,by omega,by rw [hr,ucl (by omega) hcd];(try congr 1)<;>omega,fun j hj=>(Nat.lt_or_ge j i).elim (hq j) (fun q=>by rw [show j=i by omega];exact hcd)⟩,by simp only [];omega,?_⟩;cbv;(repeat' (first|with_reducible refine ua4 ?_ ?_|with_reducible refine And.intro ?_ ?_));(all_goals first|trivial|exact qM (qE (by rfl))|exact qM (qF (by rfl))|exact qM (Fit.refl _)|exact qL (qK _)|(refine qM (qE ?_);(try simp only [qV]at *);simp only [zQ,zA,zB,zC,zD,zE,zF,zG,zH,zI,zJ,zK,zL,zM,zN,zO,zP,zR,zS]at *;omega)|(refine qL (qJ ?_);(repeat' (first|exact qA|exact qB|refine qC ?_ rfl ?_|refine qD ?_ ?_|exact qE (by rfl)|exact qF (by rfl)|exact Fit.refl _|exact qG _|(refine qE ?_;(try simp only [qV]at *);simp only [zQ,zA,zB,zC,zD,zE,zF,zG,zH,zI,zJ,zK,zL,zM,zN,zO,zP,zR,zS]at *;omega)));done)|skip))|skip
theorem ulm (l:List Int)(hfew:l.length≤1000):ua0 Tryz.prog 98 [(iS l),.clo 131 [] [.own 0 0]] [.cells [.clo 123 [] []] 121] (fun r bs=>r=(bv fun _=>decide (0≤ubJ (fun i=>decide (0≤l.getD (i) 0)&&decide (l.getD (i) 0≤2000)) (l.length) 0))∧bs=[.cells [.clo 123 [] []] 121]):=by
 have ci:=un3 l hfew
 refine ua0.isB rfl fun R B hR hB=>qW (sc:=uzL) uan mix Tryz.func98 rfl Tryz.call98 (by kernel_rfl) (by kernel_rfl) ?_
 generalize Tryz.prog=P at ci⊢
 cbv
 repeat' (first
  |with_reducible refine And.intro ?_ ?_
  | (refine⟨some [0],?_⟩
     cbv
     refine qQ ?_ (ci) (by cbv;(repeat' (first|exact qB|refine qD ?_ ?_|exact qE (by rfl)|exact qF (by rfl)|exact Fit.refl _|exact qA|refine qC ?_ rfl ?_))) (by cbv;(repeat' (first|exact qH|refine qI ?_ ?_|exact qK _|refine qJ ?_|exact qA|exact qE (by rfl)|exact qF (by rfl)|exact Fit.refl _|exact qG _|refine qC ?_ rfl ?_)))
     try cbv)
  |fail)
 all_goals first|(subst hR;(repeat' (first|exact qA|exact qB|refine qC ?_ rfl ?_|refine qD ?_ ?_|exact qE (by rfl)|exact qF (by rfl)|exact Fit.refl _|exact qG _|(refine qE ?_;(try simp only [qV]at *);simp only [zQ,zA,zB,zC,zD,zE,zF,zG,zH,zI,zJ,zK,zL,zM,zN,zO,zP,zR,zS]at *;omega)));done)|(subst hB;(repeat' (first|exact qH|refine qI ?_ ?_|exact qK _|refine qJ ?_|exact qA|exact qE (by rfl)|exact qF (by rfl)|exact Fit.refl _|exact qG _|refine qC ?_ rfl ?_));done)|skip
theorem unM (l:List Int)(hfew:l.length≤1000):ua0 Tryz.prog 122 [(iS l),.clo 123 [] []] [] (fun r _=>r=(bv fun _=> !(decide (0≤ubJ (fun i=>decide (0≤l.getD (i) 0)&&decide (l.getD (i) 0≤2000)) (l.length) 0)))):=by
 have cc:=ulm l hfew
 refine ua0.is fun R hR=>qW (sc:=uxn) uan mix Tryz.func122 rfl Tryz.call122 (by kernel_rfl) (by kernel_rfl) ?_
 generalize Tryz.prog=P at cc⊢
 cbv
 repeat' (first
  | (refine⟨some [0],?_⟩
     cbv
     refine qQ ?_ (cc) (by cbv;(repeat' (first|exact qB|refine qD ?_ ?_|exact qE (by rfl)|exact qF (by rfl)|exact Fit.refl _|exact qA|refine qC ?_ rfl ?_))) (by cbv;(repeat' (first|exact qH|refine qI ?_ ?_|exact qK _|refine qJ ?_|exact qA|exact qE (by rfl)|exact qF (by rfl)|exact Fit.refl _|exact qG _|refine qC ?_ rfl ?_)))
     try cbv)
  |fail)
 all_goals first|(subst hR;(repeat' (first|exact qA|exact qB|refine qC ?_ rfl ?_|refine qD ?_ ?_|exact qE (by rfl)|exact qF (by rfl)|exact Fit.refl _|exact qG _|(refine qE ?_;(try simp only [qV]at *);simp only [zQ,zA,zB,zC,zD,zE,zF,zG,zH,zI,zJ,zK,zL,zM,zN,zO,zP,zR,zS]at *;omega)));done)|skip
theorem usM (l:List Int)(most:Int)(i:Nat)(hm:0≤most∧most≤1000000)(hi:i<l.length∧∀j,j<i→uls l most j=true):ua0 Tryz.prog 124 [(iv fun _=>l.getD i 0),.own 0 0,.own 1 0] [.cells [(iv fun _=>ucp l i)] 3,.cells [(iv fun _=>most)] 3] (fun r bs=>r=(bv fun _=>uls l most i)∧bs=[.cells [(iv fun _=>ucp l (i+1))] 3,.cells [(iv fun _=>most)] 3]):=by
 have c113:= @ug8
 refine ua0.isB rfl fun R B hR hB=>qW (sc:=uyF) uan mix Tryz.func124 rfl Tryz.call124 (by kernel_rfl) (by kernel_rfl) ?_
 generalize Tryz.prog=P at c113⊢
 cbv
 have hb:=uq6 hi.2
 repeat' (first|with_reducible refine ua4 ?_ ?_|with_reducible refine And.intro ?_ ?_|(refine qP ?_ (c113 _ _ _) (by(repeat' (first|exact qB|refine qD ?_ ?_|exact qE (by rfl)|exact qF (by rfl)|exact Fit.refl _|exact qA|refine qC ?_ rfl ?_)));try cbv)|fail)
 all_goals first|((try simp only [qV]at *);(try simp only [zQ,zA,zB,zC,zD,zE,zF,zG,zH,zI,zJ,zK,zL,zM,zN,zO,zP,zR,zS]at *);first|(refine qN ?_;omega)|(simp only [uaq];omega))|(subst hR;(repeat' (first|exact qA|exact qB|refine qC ?_ rfl ?_|refine qD ?_ ?_|exact qE (by rfl)|exact qF (by rfl)|exact Fit.refl _|exact qG _|(refine qE ?_;(try simp only [qV]at *);simp only [zQ,zA,zB,zC,zD,zE,zF,zG,zH,zI,zJ,zK,zL,zM,zN,zO,zP,zR,zS]at *;omega)));done)|(subst hB;refine qI (qJ (qC (qE ?_) rfl qA)) (qI (qK _) qH);simp only [zQ,zA,zB,zC,zD,zE,zF,zG,zH,zI,zJ,zK,zL,zM,zN,zO,zP,zR,zS,uex];done)|skip
theorem umQ (l:List Int)(most:Int)(hm:0≤most∧most≤1000000)(hfew:l.length≤1000)(i:Nat)(hi:i<l.length∧∀j,j<i→(uls l most (j))=true):ua0 Tryz.prog 131 [(iv fun _=>l.getD (i) 0),.own 0 0] [.cells [.clo 124 [] [.own 1 0,.own 2 0]] 121,.cells [(iv fun _=>ucp l (i))] 3,.cells [(iv fun _=>most)] 3] (fun r bs=>r=(bv fun _=> !(uls l most (i)))∧bs=[.cells [.clo 124 [] [.own 1 0,.own 2 0]] 121,.cells [(iv fun _=>ucp l (i+1))] 3,.cells [(iv fun _=>most)] 3]):=by
 have cf:=usM l most i hm hi
 refine ua0.isB rfl fun R B hR hB=>qW (sc:=uxg) uan mix Tryz.func131 rfl Tryz.call131 (by kernel_rfl) (by kernel_rfl) ?_
 generalize Tryz.prog=P at cf⊢
 cbv
 repeat' (first
  |with_reducible refine And.intro ?_ ?_
  | (refine⟨some [1,2],?_⟩
     cbv
     refine qQ ?_ (cf) (by cbv;(repeat' (first|exact qB|refine qD ?_ ?_|exact qE (by rfl)|exact qF (by rfl)|exact Fit.refl _|exact qA|refine qC ?_ rfl ?_))) (by cbv;(repeat' (first|exact qH|refine qI ?_ ?_|exact qK _|refine qJ ?_|exact qA|exact qE (by rfl)|exact qF (by rfl)|exact Fit.refl _|exact qG _|refine qC ?_ rfl ?_)))
     try cbv)
  |fail)
 all_goals first|(subst hR;(repeat' (first|exact qA|exact qB|refine qC ?_ rfl ?_|refine qD ?_ ?_|exact qE (by rfl)|exact qF (by rfl)|exact Fit.refl _|exact qG _|(refine qE ?_;(try simp only [qV]at *);simp only [zQ,zA,zB,zC,zD,zE,zF,zG,zH,zI,zJ,zK,zL,zM,zN,zO,zP,zR,zS]at *;omega)));done)|(subst hB;(repeat' (first|exact qH|refine qI ?_ ?_|exact qK _|refine qJ ?_|exact qA|exact qE (by rfl)|exact qF (by rfl)|exact Fit.refl _|exact qG _|refine qC ?_ rfl ?_));done)|skip
theorem uno (l:List Int)(most:Int)(hm:0≤most∧most≤1000000)(hfew:l.length≤1000):ua0 Tryz.prog 114 [(iS l),.clo 131 [] [.own 0 0]] [.cells [.clo 124 [] [.own 1 0,.own 2 0]] 121,.cells [(iv fun _=>ucp l (0))] 3,.cells [(iv fun _=>most)] 3] (fun r bs=>r=(iv fun _=>ubJ (fun i=>uls l most (i)) (l.length) 0)∧bs=[.cells [.clo 124 [] [.own 1 0,.own 2 0]] 121,.cells [.any] 3,.cells [(iv fun _=>most)] 3]):=by
 have cl:=umQ l most hm hfew
 refine ua0.isB rfl fun R B hR hB=>qW (sc:=utS) uan mix Tryz.func114 rfl Tryz.call114 (by kernel_rfl) (by kernel_rfl) ?_
 generalize Tryz.prog=P at cl⊢
 cbv
 repeat' (first|fail)
 all_goals first|skip
 refine⟨none,[],{i:Nat // i≤l.length∧ubJ (fun i=>uls l most (i)) (l.length) 0=ubJ (fun i=>uls l most (i)) (l.length-i) i∧∀j,j<i→(uls l most (j))=true},fun x=>⟨[(0,(iS l)),(1,.clo 131 [] [.own 0 0]),(7,(iv fun _=>zi (l.length))),(8,(iv fun _=>zi x.1))],[(0,.cells [.clo 124 [] [.own 1 0,.own 2 0]] 121),(1,.cells [(iv fun _=>ucp l (x.1))] 3),(2,.cells [(iv fun _=>most)] 3)],20⟩,fun x=>l.length-x.1,?_,?_⟩
 ·refine⟨⟨0,by omega,rfl,fun j hj=>by omega⟩,?_⟩
  cbv
  repeat' (first|with_reducible refine ua4 ?_ ?_|with_reducible refine And.intro ?_ ?_)
  all_goals first|trivial|exact qM (qE (by rfl))|exact qM (Fit.refl _)|exact qL (qK _)|skip
 ·rintro ⟨i,hi,hr,hq⟩
  cbv
  repeat' (first
   |with_reducible refine ua4 ?_ ?_
   |with_reducible refine And.intro ?_ ?_
   |(with_reducible intro hcd;(try simp only [zA,zB,zC,zD,zE,zF,zG,zH,zI,zJ,zK,zL,zM,zN,zO,zP]at hcd);try cbv)
   | (refine⟨some [0,1,2],?_⟩
      cbv
      refine qQ ?_ (cl i ⟨by(try simp only [qV]at *);simp only [uaa]at *;omega,hq⟩) (by cbv;(repeat' (first|exact qB|refine qD ?_ ?_|exact qE (by rfl)|exact qF (by rfl)|exact Fit.refl _|exact qA|refine qC ?_ rfl ?_))) (by cbv;(repeat' (first|exact qH|refine qI ?_ ?_|exact qK _|refine qJ ?_|exact qA|exact qE (by rfl)|exact qF (by rfl)|exact Fit.refl _|exact qG _|refine qC ?_ rfl ?_)))
      try cbv)
   |fail)
  all_goals first|((try simp only [qV]at *);(try simp only [zQ,zA,zB,zC,zD,zE,zF,zG,zH,zI,zJ,zK,zL,zM,zN,zO,zP,zR,zS]at *);first|(refine qN ?_;omega)|(simp only [uaq];omega))|(subst hR;(refine qE ?_;simp only [zQ,zA,zB,zC,zD,zE,zF,zG,zH,zI,zJ,zK,zL,zM,zN,zO,zP,zR,zS]at *;rw [hr,ub9 (by omega) hcd]);done)|(subst hR;(refine qE ?_;simp only [zQ,zA,zB,zC,zD,zE,zF,zG,zH,zI,zJ,zK,zL,zM,zN,zO,zP,zR,zS]at *;rw [hr,show l.length-i=0 by omega];rfl);done)|(subst hB;(repeat' (first|exact qH|refine qI ?_ ?_|exact qK _|refine qJ ?_|exact qA|exact qE (by rfl)|exact qF (by rfl)|exact Fit.refl _|exact qG _|refine qC ?_ rfl ?_));done)|((try simp only [zQ,zA,zB,zC,zD,zE,zF,zG,zH,zI,zJ,zK,zL,zM,zN,zO,zP,zR,zS]at *);refine⟨⟨i+1,by omega,by rw [hr,ucl (by omega) hcd];(try congr 1)<;>omega,fun j hj=>(Nat.lt_or_ge j i).elim (hq j) (fun q=>by rw [show j=i by omega];exact hcd)⟩,by simp only [];omega,?_⟩;cbv;(repeat' (first|with_reducible refine ua4 ?_ ?_|with_reducible refine And.intro ?_ ?_));(all_goals first|trivial|exact qM (qE (by rfl))|exact qM (qF (by rfl))|exact qM (Fit.refl _)|exact qL (qK _)|(refine qM (qE ?_);(try simp only [qV]at *);simp only [zQ,zA,zB,zC,zD,zE,zF,zG,zH,zI,zJ,zK,zL,zM,zN,zO,zP,zR,zS]at *;omega)|(refine qL (qJ ?_);(repeat' (first|exact qA|exact qB|refine qC ?_ rfl ?_|refine qD ?_ ?_|exact qE (by rfl)|exact qF (by rfl)|exact Fit.refl _|exact qG _|(refine qE ?_;(try simp only [qV]at *);simp only [zQ,zA,zB,zC,zD,zE,zF,zG,zH,zI,zJ,zK,zL,zM,zN,zO,zP,zR,zS]at *;omega)));done)|skip))|skip
theorem ukE (l:List Int)(most:Int)(hm:0≤most∧most≤1000000)(hfew:l.length≤1000):ua0 Tryz.prog 98 [(iS l),.clo 131 [] [.own 0 0]] [.cells [.clo 124 [] [.own 1 0,.own 2 0]] 121,.cells [(iv fun _=>ucp l (0))] 3,.cells [(iv fun _=>most)] 3] (fun r bs=>r=(bv fun _=>decide (0≤ubJ (fun i=>uls l most (i)) (l.length) 0))∧bs=[.cells [.clo 124 [] [.own 1 0,.own 2 0]] 121,.cells [.any] 3,.cells [(iv fun _=>most)] 3]):=by
 have ci:=uno l most hm hfew
 refine ua0.isB rfl fun R B hR hB=>qW (sc:=uzL) uan mix Tryz.func98 rfl Tryz.call98 (by kernel_rfl) (by kernel_rfl) ?_
 generalize Tryz.prog=P at ci⊢
 cbv
 repeat' (first
  |with_reducible refine And.intro ?_ ?_
  | (refine⟨some [0,1,2],?_⟩
     cbv
     refine qQ ?_ (ci) (by cbv;(repeat' (first|exact qB|refine qD ?_ ?_|exact qE (by rfl)|exact qF (by rfl)|exact Fit.refl _|exact qA|refine qC ?_ rfl ?_))) (by cbv;(repeat' (first|exact qH|refine qI ?_ ?_|exact qK _|refine qJ ?_|exact qA|exact qE (by rfl)|exact qF (by rfl)|exact Fit.refl _|exact qG _|refine qC ?_ rfl ?_)))
     try cbv)
  |fail)
 all_goals first|(subst hR;(repeat' (first|exact qA|exact qB|refine qC ?_ rfl ?_|refine qD ?_ ?_|exact qE (by rfl)|exact qF (by rfl)|exact Fit.refl _|exact qG _|(refine qE ?_;(try simp only [qV]at *);simp only [zQ,zA,zB,zC,zD,zE,zF,zG,zH,zI,zJ,zK,zL,zM,zN,zO,zP,zR,zS]at *;omega)));done)|(subst hB;(repeat' (first|exact qH|refine qI ?_ ?_|exact qK _|refine qJ ?_|exact qA|exact qE (by rfl)|exact qF (by rfl)|exact Fit.refl _|exact qG _|refine qC ?_ rfl ?_));done)|skip
theorem un2 (l:List Int)(most:Int)(hm:0≤most∧most≤1000000)(hfew:l.length≤1000):ua0 Tryz.prog 122 [(iS l),.clo 124 [] [.own 0 0,.own 1 0]] [.cells [(iv fun _=>ucp l (0))] 3,.cells [(iv fun _=>most)] 3] (fun r bs=>r=(bv fun _=> !(decide (0≤ubJ (fun i=>uls l most (i)) (l.length) 0)))∧bs=[.cells [.any] 3,.cells [(iv fun _=>most)] 3]):=by
 have cc:=ukE l most hm hfew
 refine ua0.isB rfl fun R B hR hB=>qW (sc:=uxn) uan mix Tryz.func122 rfl Tryz.call122 (by kernel_rfl) (by kernel_rfl) ?_
 generalize Tryz.prog=P at cc⊢
 cbv
 repeat' (first
  |with_reducible refine And.intro ?_ ?_
  | (refine⟨some [2,0,1],?_⟩
     cbv
     refine qQ ?_ (cc) (by cbv;(repeat' (first|exact qB|refine qD ?_ ?_|exact qE (by rfl)|exact qF (by rfl)|exact Fit.refl _|exact qA|refine qC ?_ rfl ?_))) (by cbv;(repeat' (first|exact qH|refine qI ?_ ?_|exact qK _|refine qJ ?_|exact qA|exact qE (by rfl)|exact qF (by rfl)|exact Fit.refl _|exact qG _|refine qC ?_ rfl ?_)))
     try cbv)
  |fail)
 all_goals first|(subst hR;(repeat' (first|exact qA|exact qB|refine qC ?_ rfl ?_|refine qD ?_ ?_|exact qE (by rfl)|exact qF (by rfl)|exact Fit.refl _|exact qG _|(refine qE ?_;(try simp only [qV]at *);simp only [zQ,zA,zB,zC,zD,zE,zF,zG,zH,zI,zJ,zK,zL,zM,zN,zO,zP,zR,zS]at *;omega)));done)|(subst hB;(repeat' (first|exact qH|refine qI ?_ ?_|exact qK _|refine qJ ?_|exact qA|exact qE (by rfl)|exact qF (by rfl)|exact Fit.refl _|exact qG _|refine qC ?_ rfl ?_));done)|skip
theorem uqI (l:List Int)(most:Int)(h:l.length≤1000)(hm:0≤most∧most≤1000000):ua0 Tryz.prog 109 [(iS l),(iv fun _=>most)] [] (fun r _=>r=(bv fun _=>decide (2≤l.length)&&ucq l most)):=by
 have ca:=un2 l most hm h
 refine ua0.is fun R hR=>qW (sc:=uyS) uan mix Tryz.func109 rfl Tryz.call109 (by kernel_rfl) (by kernel_rfl) ?_
 generalize Tryz.prog=P at ca⊢
 cbv
 repeat' (first
  |with_reducible refine And.intro ?_ ?_
  |(with_reducible intro hcd;(try simp only [zA,zB,zC,zD,zE,zF,zG,zH,zI,zJ,zK,zL,zM,zN,zO,zP]at hcd);try cbv)
  | (refine⟨some [2,0],?_⟩
     cbv
     refine qQ ?_ (ca) (by cbv;(repeat' (first|exact qB|refine qD ?_ ?_|exact qE (by rfl)|exact qF (by rfl)|exact Fit.refl _|exact qA|refine qC ?_ rfl ?_))) (by cbv;(repeat' (first|exact qH|refine qI ?_ ?_|exact qK _|refine qJ ?_|exact qA|exact qE (by rfl)|exact qF (by rfl)|exact Fit.refl _|exact qG _|refine qC ?_ rfl ?_)))
     try cbv)
  |fail)
 all_goals first|(subst hR;(refine qF ?_;(try simp only [qV]at *);simp only [zQ,zA,zB,zC,zD,zE,zF,zG,zH,zI,zJ,zK,zL,zM,zN,zO,zP,zR,zS]at *;rw [ugh,unU];have h2:2≤l.length:=(by omega);simp [h2]);done)|(subst hR;(refine qF ?_;(try simp only [qV]at *);simp only [zQ,zA,zB,zC,zD,zE,zF,zG,zH,zI,zJ,zK,zL,zM,zN,zO,zP,zR,zS]at *;have h2:¬2≤l.length:=(by omega);simp [h2]);done)|skip
theorem uzl (tw tm l:List Int)(tv:List (List Int))(h:tm.length≤1000):ua0 Tryz.prog 108 [(.agg [(iS tw),(iS tm),(.sl 1 (.sym fun _=>zi (tv).length) (fun ix=>[(.sl 1 (.sym fun _=>zi ((tv).getD ix.den.toNat []).length) (fun jx=>[(iv fun _=>((tv).getD ix.den.toNat []).getD jx.den.toNat 0)]))]))]),(iS l)] [] (fun r _=>r=(bv fun _=>ufr tm.length l)):=by
 have ca:=unM l
 refine ua0.is fun R hR=>qW (sc:=uyu) uan mix Tryz.func108 rfl Tryz.call108 (by kernel_rfl) (by kernel_rfl) ?_
 generalize Tryz.prog=P at ca⊢
 cbv
 repeat' (first|with_reducible refine And.intro ?_ ?_|(with_reducible intro hcd;(try simp only [zA,zB,zC,zD,zE,zF,zG,zH,zI,zJ,zK,zL,zM,zN,zO,zP]at hcd);try cbv)|(refine qP ?_ (ca (show uaq _ from ?_)) (by(repeat' (first|exact qB|refine qD ?_ ?_|exact qE (by rfl)|exact qF (by rfl)|exact Fit.refl _|exact qA|refine qC ?_ rfl ?_)));try cbv)|fail)
 all_goals first|((try simp only [qV]at *);(try simp only [zQ,zA,zB,zC,zD,zE,zF,zG,zH,zI,zJ,zK,zL,zM,zN,zO,zP,zR,zS]at *);first|(refine qN ?_;omega)|(simp only [uaq];omega))|(subst hR;(refine qF ?_;(try simp only [qV]at *);simp only [zQ,zA,zB,zC,zD,zE,zF,zG,zH,zI,zJ,zK,zL,zM,zN,zO,zP,zR,zS]at *;rw [ugh,ufr,uuG];have h2:l.length=tm.length:=(by omega);simp only [h2,decide_true,Bool.true_and]);done)|(subst hR;(refine qF ?_;(try simp only [qV]at *);simp only [zQ,zA,zB,zC,zD,zE,zF,zG,zH,zI,zJ,zK,zL,zM,zN,zO,zP,zR,zS]at *;rw [ufr];have h2:¬l.length=tm.length:=(by omega);simp [h2]);done)|skip
end Go.Proofs.YtkdggbfknlcdaaaGreat

namespace Go.Proofs.YtkdggbfknlcdaaaGreat
open Go Go.Eng Go.Proofs
set_option maxRecDepth 10000
theorem ul5 (tw tm:List Int)(tv:List (List Int))(hm:tm.length≤1000)(hfew:tv.length≤1000)(i:Nat)(hi:i<tv.length∧∀j,j<i→(ufr tm.length (tv.getD (j) []))=true):ua0 Tryz.prog 126 [(.sl 1 (.sym fun _=>zi ((tv.getD (i) [])).length) (fun ix=>[(iv fun _=>((tv.getD (i) [])).getD ix.den.toNat 0)])),.own 0 0] [.cells [.clo 108 [(.agg [(iS tw),(iS tm),(.sl 1 (.sym fun _=>zi (tv).length) (fun ix=>[(.sl 1 (.sym fun _=>zi ((tv).getD ix.den.toNat []).length) (fun jx=>[(iv fun _=>((tv).getD ix.den.toNat []).getD jx.den.toNat 0)]))]))])] []] 117] (fun r bs=>r=(bv fun _=> !(ufr tm.length (tv.getD (i) [])))∧bs=[.cells [.clo 108 [(.agg [(iS tw),(iS tm),(.sl 1 (.sym fun _=>zi (tv).length) (fun ix=>[(.sl 1 (.sym fun _=>zi ((tv).getD ix.den.toNat []).length) (fun jx=>[(iv fun _=>((tv).getD ix.den.toNat []).getD jx.den.toNat 0)]))]))])] []] 117]):=by
 have cf:=uzl tw tm (tv.getD i []) tv hm
 refine ua0.isB rfl fun R B hR hB=>qW (sc:=uyU) uan mix Tryz.func126 rfl Tryz.call126 (by kernel_rfl) (by kernel_rfl) ?_
 generalize Tryz.prog=P at cf⊢
 cbv
 repeat' (first|with_reducible refine And.intro ?_ ?_|(refine qP ?_ (cf) (by(repeat' (first|exact qB|refine qD ?_ ?_|exact qE (by rfl)|exact qF (by rfl)|exact Fit.refl _|exact qA|refine qC ?_ rfl ?_)));try cbv)|fail)
 all_goals first|(subst hR;(repeat' (first|exact qA|exact qB|refine qC ?_ rfl ?_|refine qD ?_ ?_|exact qE (by rfl)|exact qF (by rfl)|exact Fit.refl _|exact qG _|(refine qE ?_;(try simp only [qV]at *);simp only [zQ,zA,zB,zC,zD,zE,zF,zG,zH,zI,zJ,zK,zL,zM,zN,zO,zP,zR,zS]at *;omega)));done)|(subst hB;(repeat' (first|exact qH|refine qI ?_ ?_|exact qK _|refine qJ ?_|exact qA|exact qE (by rfl)|exact qF (by rfl)|exact Fit.refl _|exact qG _|refine qC ?_ rfl ?_));done)|skip
theorem ukq (tw tm:List Int)(tv:List (List Int))(hm:tm.length≤1000)(hfew:tv.length≤1000):ua0 Tryz.prog 92 [(.sl 1 (.sym fun _=>zi (tv).length) (fun ix=>[(.sl 1 (.sym fun _=>zi ((tv).getD ix.den.toNat []).length) (fun jx=>[(iv fun _=>((tv).getD ix.den.toNat []).getD jx.den.toNat 0)]))])),.clo 126 [] [.own 0 0]] [.cells [.clo 108 [(.agg [(iS tw),(iS tm),(.sl 1 (.sym fun _=>zi (tv).length) (fun ix=>[(.sl 1 (.sym fun _=>zi ((tv).getD ix.den.toNat []).length) (fun jx=>[(iv fun _=>((tv).getD ix.den.toNat []).getD jx.den.toNat 0)]))]))])] []] 117] (fun r bs=>r=(iv fun _=>ubJ (fun i=>ufr tm.length (tv.getD (i) [])) (tv.length) 0)∧bs=[.cells [.clo 108 [(.agg [(iS tw),(iS tm),(.sl 1 (.sym fun _=>zi (tv).length) (fun ix=>[(.sl 1 (.sym fun _=>zi ((tv).getD ix.den.toNat []).length) (fun jx=>[(iv fun _=>((tv).getD ix.den.toNat []).getD jx.den.toNat 0)]))]))])] []] 117]):=by
 have cl:=ul5 tw tm tv hm hfew
 refine ua0.isB rfl fun R B hR hB=>qW (sc:=uzE) uan mix Tryz.func92 rfl Tryz.call92 (by kernel_rfl) (by kernel_rfl) ?_
 generalize Tryz.prog=P at cl⊢
 cbv
 repeat' (first|fail)
 all_goals first|skip
 refine⟨none,[],{i:Nat // i≤tv.length∧ubJ (fun i=>ufr tm.length (tv.getD (i) [])) (tv.length) 0=ubJ (fun i=>ufr tm.length (tv.getD (i) [])) (tv.length-i) i∧∀j,j<i→(ufr tm.length (tv.getD (j) []))=true},fun x=>⟨[(0,(.sl 1 (.sym fun _=>zi (tv).length) (fun ix=>[(.sl 1 (.sym fun _=>zi ((tv).getD ix.den.toNat []).length) (fun jx=>[(iv fun _=>((tv).getD ix.den.toNat []).getD jx.den.toNat 0)]))]))),(1,.clo 126 [] [.own 0 0]),(7,(iv fun _=>zi (tv.length))),(8,(iv fun _=>zi x.1))],[(0,.cells [.clo 108 [(.agg [(iS tw),(iS tm),(.sl 1 (.sym fun _=>zi (tv).length) (fun ix=>[(.sl 1 (.sym fun _=>zi ((tv).getD ix.den.toNat []).length) (fun jx=>[(iv fun _=>((tv).getD ix.den.toNat []).getD jx.den.toNat 0)]))]))])] []] 117)],20⟩,fun x=>tv.length-x.1,?_,?_⟩
 ·refine⟨⟨0,by omega,rfl,fun j hj=>by omega⟩,?_⟩
  cbv
  repeat' (first|with_reducible refine ua4 ?_ ?_|with_reducible refine And.intro ?_ ?_)
  all_goals first|trivial|exact qM (qE (by rfl))|exact qM (Fit.refl _)|exact qL (qK _)|skip
 ·rintro ⟨i,hi,hr,hq⟩
  cbv
  repeat' (first
   |with_reducible refine ua4 ?_ ?_
   |with_reducible refine And.intro ?_ ?_
   |(with_reducible intro hcd;(try simp only [zA,zB,zC,zD,zE,zF,zG,zH,zI,zJ,zK,zL,zM,zN,zO,zP]at hcd);try cbv)
   | (refine⟨some [0],?_⟩
      cbv
      refine qQ ?_ (cl i ⟨by(try simp only [qV]at *);simp only [uaa]at *;omega,hq⟩) (by cbv;(repeat' (first|exact qB|refine qD ?_ ?_|exact qE (by rfl)|exact qF (by rfl)|exact Fit.refl _|exact qA|refine qC ?_ rfl ?_))) (by cbv;(repeat' (first|exact qH|refine qI ?_ ?_|exact qK _|refine qJ ?_|exact qA|exact qE (by rfl)|exact qF (by rfl)|exact Fit.refl _|exact qG _|refine qC ?_ rfl ?_)))
      try cbv)
   |fail)
  all_goals first|((try simp only [qV]at *);(try simp only [zQ,zA,zB,zC,zD,zE,zF,zG,zH,zI,zJ,zK,zL,zM,zN,zO,zP,zR,zS]at *);first|(refine qN ?_;omega)|(simp only [uaq];omega))|(subst hR;(refine qE ?_;simp only [zQ,zA,zB,zC,zD,zE,zF,zG,zH,zI,zJ,zK,zL,zM,zN,zO,zP,zR,zS]at *;rw [hr,ub9 (by omega) hcd]);done)|(subst hR;(refine qE ?_;simp only [zQ,zA,zB,zC,zD,zE,zF,zG,zH,zI,zJ,zK,zL,zM,zN,zO,zP,zR,zS]at *;rw [hr,show tv.length-i=0 by omega];rfl);done)|(subst hB;(repeat' (first|exact qH|refine qI ?_ ?_|exact qK _|refine qJ ?_|exact qA|exact qE (by rfl)|exact qF (by rfl)|exact Fit.refl _|exact qG _|refine qC ?_ rfl ?_));done)|((try simp only [zQ,zA,zB,zC,zD,zE,zF,zG,zH,zI,zJ,zK,zL,zM,zN,zO,zP,zR,zS]at *);refine⟨⟨i+1,by omega,by rw [hr,ucl (by omega) hcd];(try congr 1)<;>omega,fun j hj=>(Nat.lt_or_ge j i).elim (hq j) (fun q=>by rw [show j=i by omega];exact hcd)⟩,by simp only [];omega,?_⟩;cbv;(repeat' (first|with_reducible refine ua4 ?_ ?_|with_reducible refine And.intro ?_ ?_));(all_goals first|trivial|exact qM (qE (by rfl))|exact qM (qF (by rfl))|exact qM (Fit.refl _)|exact qL (qK _)|(refine qM (qE ?_);(try simp only [qV]at *);simp only [zQ,zA,zB,zC,zD,zE,zF,zG,zH,zI,zJ,zK,zL,zM,zN,zO,zP,zR,zS]at *;omega)|(refine qL (qJ ?_);(repeat' (first|exact qA|exact qB|refine qC ?_ rfl ?_|refine qD ?_ ?_|exact qE (by rfl)|exact qF (by rfl)|exact Fit.refl _|exact qG _|(refine qE ?_;(try simp only [qV]at *);simp only [zQ,zA,zB,zC,zD,zE,zF,zG,zH,zI,zJ,zK,zL,zM,zN,zO,zP,zR,zS]at *;omega)));done)|skip))|skip
theorem ujp (tw tm:List Int)(tv:List (List Int))(hm:tm.length≤1000)(hfew:tv.length≤1000):ua0 Tryz.prog 55 [(.sl 1 (.sym fun _=>zi (tv).length) (fun ix=>[(.sl 1 (.sym fun _=>zi ((tv).getD ix.den.toNat []).length) (fun jx=>[(iv fun _=>((tv).getD ix.den.toNat []).getD jx.den.toNat 0)]))])),.clo 126 [] [.own 0 0]] [.cells [.clo 108 [(.agg [(iS tw),(iS tm),(.sl 1 (.sym fun _=>zi (tv).length) (fun ix=>[(.sl 1 (.sym fun _=>zi ((tv).getD ix.den.toNat []).length) (fun jx=>[(iv fun _=>((tv).getD ix.den.toNat []).getD jx.den.toNat 0)]))]))])] []] 117] (fun r bs=>r=(bv fun _=>decide (0≤ubJ (fun i=>ufr tm.length (tv.getD (i) [])) (tv.length) 0))∧bs=[.cells [.clo 108 [(.agg [(iS tw),(iS tm),(.sl 1 (.sym fun _=>zi (tv).length) (fun ix=>[(.sl 1 (.sym fun _=>zi ((tv).getD ix.den.toNat []).length) (fun jx=>[(iv fun _=>((tv).getD ix.den.toNat []).getD jx.den.toNat 0)]))]))])] []] 117]):=by
 have ci:=ukq tw tm tv hm hfew
 refine ua0.isB rfl fun R B hR hB=>qW (sc:=uzi) uan mix Tryz.func55 rfl Tryz.call55 (by kernel_rfl) (by kernel_rfl) ?_
 generalize Tryz.prog=P at ci⊢
 cbv
 repeat' (first
  |with_reducible refine And.intro ?_ ?_
  | (refine⟨some [0],?_⟩
     cbv
     refine qQ ?_ (ci) (by cbv;(repeat' (first|exact qB|refine qD ?_ ?_|exact qE (by rfl)|exact qF (by rfl)|exact Fit.refl _|exact qA|refine qC ?_ rfl ?_))) (by cbv;(repeat' (first|exact qH|refine qI ?_ ?_|exact qK _|refine qJ ?_|exact qA|exact qE (by rfl)|exact qF (by rfl)|exact Fit.refl _|exact qG _|refine qC ?_ rfl ?_)))
     try cbv)
  |fail)
 all_goals first|(subst hR;(repeat' (first|exact qA|exact qB|refine qC ?_ rfl ?_|refine qD ?_ ?_|exact qE (by rfl)|exact qF (by rfl)|exact Fit.refl _|exact qG _|(refine qE ?_;(try simp only [qV]at *);simp only [zQ,zA,zB,zC,zD,zE,zF,zG,zH,zI,zJ,zK,zL,zM,zN,zO,zP,zR,zS]at *;omega)));done)|(subst hB;(repeat' (first|exact qH|refine qI ?_ ?_|exact qK _|refine qJ ?_|exact qA|exact qE (by rfl)|exact qF (by rfl)|exact Fit.refl _|exact qG _|refine qC ?_ rfl ?_));done)|skip
theorem unP (tw tm:List Int)(tv:List (List Int))(hm:tm.length≤1000)(hfew:tv.length≤1000):ua0 Tryz.prog 110 [(.sl 1 (.sym fun _=>zi (tv).length) (fun ix=>[(.sl 1 (.sym fun _=>zi ((tv).getD ix.den.toNat []).length) (fun jx=>[(iv fun _=>((tv).getD ix.den.toNat []).getD jx.den.toNat 0)]))])),.clo 108 [(.agg [(iS tw),(iS tm),(.sl 1 (.sym fun _=>zi (tv).length) (fun ix=>[(.sl 1 (.sym fun _=>zi ((tv).getD ix.den.toNat []).length) (fun jx=>[(iv fun _=>((tv).getD ix.den.toNat []).getD jx.den.toNat 0)]))]))])] []] [] (fun r _=>r=(bv fun _=> !(decide (0≤ubJ (fun i=>ufr tm.length (tv.getD (i) [])) (tv.length) 0)))):=by
 have cc:=ujp tw tm tv hm hfew
 refine ua0.is fun R hR=>qW (sc:=uyw) uan mix Tryz.func110 rfl Tryz.call110 (by kernel_rfl) (by kernel_rfl) ?_
 generalize Tryz.prog=P at cc⊢
 cbv
 repeat' (first
  | (refine⟨some [0],?_⟩
     cbv
     refine qQ ?_ (cc) (by cbv;(repeat' (first|exact qB|refine qD ?_ ?_|exact qE (by rfl)|exact qF (by rfl)|exact Fit.refl _|exact qA|refine qC ?_ rfl ?_))) (by cbv;(repeat' (first|exact qH|refine qI ?_ ?_|exact qK _|refine qJ ?_|exact qA|exact qE (by rfl)|exact qF (by rfl)|exact Fit.refl _|exact qG _|refine qC ?_ rfl ?_)))
     try cbv)
  |fail)
 all_goals first|(subst hR;(repeat' (first|exact qA|exact qB|refine qC ?_ rfl ?_|refine qD ?_ ?_|exact qE (by rfl)|exact qF (by rfl)|exact Fit.refl _|exact qG _|(refine qE ?_;(try simp only [qV]at *);simp only [zQ,zA,zB,zC,zD,zE,zF,zG,zH,zI,zJ,zK,zL,zM,zN,zO,zP,zR,zS]at *;omega)));done)|skip
theorem uxe (tw tm:List Int)(tv:List (List Int))(h:tm.length≤1000∧tv.length≤1000):ua0 Tryz.prog 110 [(.sl 1 (.sym fun _=>zi (tv).length) (fun ix=>[(.sl 1 (.sym fun _=>zi ((tv).getD ix.den.toNat []).length) (fun jx=>[(iv fun _=>((tv).getD ix.den.toNat []).getD jx.den.toNat 0)]))])),.clo 108 [(.agg [(iS tw),(iS tm),(.sl 1 (.sym fun _=>zi (tv).length) (fun ix=>[(.sl 1 (.sym fun _=>zi ((tv).getD ix.den.toNat []).length) (fun jx=>[(iv fun _=>((tv).getD ix.den.toNat []).getD jx.den.toNat 0)]))]))])] []] [] (fun r _=>r=(bv fun _=>ugQ tm tv)):=by
 have:=unP tw tm tv h.1 h.2
 simp only [ugh]at this
 exact this
set_option maxHeartbeats 1000000 in
theorem uoB (tw tm:List Int)(tv:List (List Int)):ua0 Tryz.prog 93 [(.agg [(iS tw),(iS tm),(.sl 1 (.sym fun _=>zi (tv).length) (fun ix=>[(.sl 1 (.sym fun _=>zi ((tv).getD ix.den.toNat []).length) (fun jx=>[(iv fun _=>((tv).getD ix.den.toNat []).getD jx.den.toNat 0)]))]))])] [] (fun r _=>r=(iv fun _=>ubM tw tm tv)):=by
 have c97:= @uqI
 have c98:= @uxe
 refine ua0.is fun R hR=>qW (sc:=uBi) uan mix Tryz.func93 rfl Tryz.call93 (by kernel_rfl) (by kernel_rfl) ?_
 generalize Tryz.prog=P at c97 c98⊢
 cbv
 repeat' (first|with_reducible refine And.intro ?_ ?_|(with_reducible intro hcd;(try simp only [zA,zB,zC,zD,zE,zF,zG,zH,zI,zJ,zK,zL,zM,zN,zO,zP]at hcd);try cbv)|(refine qP ?_ (c97 _ _ (show uaq _ from ?_) (show uaq _ from ?_)) (by(repeat' (first|exact qB|refine qD ?_ ?_|exact qE (by rfl)|exact qF (by rfl)|exact Fit.refl _|exact qA|refine qC ?_ rfl ?_)));try cbv)|(refine qP ?_ (c98 _ _ _ (show uaq _ from ?_)) (by(repeat' (first|exact qB|refine qD ?_ ?_|exact qE (by rfl)|exact qF (by rfl)|exact Fit.refl _|exact qA|refine qC ?_ rfl ?_)));try cbv)|fail)
 all_goals first|trivial|((try simp only [qV]at *);(try simp only [zQ,zA,zB,zC,zD,zE,zF,zG,zH,zI,zJ,zK,zL,zM,zN,zO,zP,zR,zS]at *);first|(refine qN ?_;omega)|(simp only [uaq];omega))|(subst hR;(refine qE ?_;(try simp only [qV]at *);simp only [zQ,zA,zB,zC,zD,zE,zF,zG,zH,zI,zJ,zK,zL,zM,zN,zO,zP,zR,zS]at *;rw [udS];(repeat' split)<;>first|rfl|(exfalso;simp_all;done)|(exfalso;simp_all;omega)|(exfalso;omega));done)|skip
theorem uuQ (tw tm:List Int)(tv:List (List Int)):ua0 Tryz.prog 96 [(.agg [(iS tw),(iS tm),(.sl 1 (.sym fun _=>zi (tv).length) (fun ix=>[(.sl 1 (.sym fun _=>zi ((tv).getD ix.den.toNat []).length) (fun jx=>[(iv fun _=>((tv).getD ix.den.toNat []).getD jx.den.toNat 0)]))]))])] [] (fun r _=>r=(iv fun _=>ubM tw tm tv)):=by
 have c101:= @uq5
 have c31:= @uzf
 refine ua0.is fun R hR=>qW (sc:=uB4) uan mix Tryz.func96 rfl Tryz.call96 (by kernel_rfl) (by kernel_rfl) ?_
 generalize Tryz.prog=P at c101 c31⊢
 cbv
 repeat' (first|with_reducible refine And.intro ?_ ?_|(with_reducible intro hcd;(try simp only [zA,zB,zC,zD,zE,zF,zG,zH,zI,zJ,zK,zL,zM,zN,zO,zP]at hcd);try cbv)|(refine qP ?_ (c101 _ _ (show uaq _ from ?_)) (by(repeat' (first|exact qB|refine qD ?_ ?_|exact qE (by rfl)|exact qF (by rfl)|exact Fit.refl _|exact qA|refine qC ?_ rfl ?_)));try cbv)|fail)
 all_goals first|((try simp only [qV]at *);(try simp only [zQ,zA,zB,zC,zD,zE,zF,zG,zH,zI,zJ,zK,zL,zM,zN,zO,zP,zR,zS]at *);first|(refine qN ?_;omega)|(simp only [uaq];omega))|(subst hR;(refine qE ?_;(try simp only [qV]at *);simp only [zQ,zA,zB,zC,zD,zE,zF,zG,zH,zI,zJ,zK,zL,zM,zN,zO,zP,zR,zS]at *;rw [udS];(repeat' split)<;>first|rfl|(exfalso;simp_all;done)|(exfalso;simp_all;omega)|(exfalso;omega));done)|skip
 refine⟨none,[],{i:Nat // i≤tv.length∧∀j,j<i→(tv.getD j []).length=tm.length∧∀k,k<tm.length→0≤(tv.getD j []).getD k 0∧(tv.getD j []).getD k 0≤2000},fun x=>⟨[(1,.own 0 0),(3,(iv fun _=>zi x.1))],[(0,.cells [(iS tw),(iS tm),(.sl 1 (.sym fun _=>zi (tv).length) (fun ix=>[(.sl 1 (.sym fun _=>zi ((tv).getD ix.den.toNat []).length) (fun jx=>[(iv fun _=>((tv).getD ix.den.toNat []).getD jx.den.toNat 0)]))]))] 25)],20⟩,fun x=>tv.length-x.1,?_,?_⟩
 ·refine⟨⟨0,by omega,fun j hj=>by omega⟩,?_⟩
  cbv
  repeat' (first|with_reducible refine ua4 ?_ ?_|with_reducible refine And.intro ?_ ?_)
  all_goals first|trivial|exact qM (qE (by rfl))|exact qM (Fit.refl _)|exact qL (qK _)|skip
 ·rintro ⟨i,hi,hr⟩
  cbv
  repeat' (first|with_reducible refine ua4 ?_ ?_|with_reducible refine And.intro ?_ ?_|(with_reducible intro hcd;(try simp only [zA,zB,zC,zD,zE,zF,zG,zH,zI,zJ,zK,zL,zM,zN,zO,zP]at hcd);try cbv)|fail)
  all_goals first|((try simp only [qV]at *);(try simp only [zQ,zA,zB,zC,zD,zE,zF,zG,zH,zI,zJ,zK,zL,zM,zN,zO,zP,zR,zS]at *);first|(refine qN ?_;omega)|(simp only [uaq];omega))|(subst hR;(refine qE ?_;(try simp only [qV]at *);simp only [zQ,zA,zB,zC,zD,zE,zF,zG,zH,zI,zJ,zK,zL,zM,zN,zO,zP,zR,zS]at *;rw [udS,if_neg (by omega),if_pos];right;right;right;right;right;rw [←Bool.not_eq_true,ud8];intro hall;have:=(hall i (by omega)).1;omega);done)|(subst hR;(refine qE ?_;(try simp only [qV]at *);simp only [zQ,zA,zB,zC,zD,zE,zF,zG,zH,zI,zJ,zK,zL,zM,zN,zO,zP,zR,zS]at *;rw [udS,if_neg (by omega),if_neg];have hro:ugQ tm tv=true:=(ud8 _ _).2 (fun j hj=>hr j (by omega));simp_all;omega);done)|skip
  have hlen:(tv.getD i []).length=tm.length:=by((try simp only [qV]at *);simp only [zQ,zA,zB,zC,zD,zE,zF,zG,zH,zI,zJ,zK,zL,zM,zN,zO,zP,zR,zS]at *;omega)
  refine⟨none,[],{k:Nat // k≤tm.length∧∀j,j<k→0≤(tv.getD i []).getD j 0∧(tv.getD i []).getD j 0≤2000},fun x=>⟨[(1,.own 0 0),(3,(iv fun _=>zi i)),(4,(iv fun _=>zi x.1))],[(0,.cells [(iS tw),(iS tm),(.sl 1 (.sym fun _=>zi (tv).length) (fun ix=>[(.sl 1 (.sym fun _=>zi ((tv).getD ix.den.toNat []).length) (fun jx=>[(iv fun _=>((tv).getD ix.den.toNat []).getD jx.den.toNat 0)]))]))] 25)],20⟩,fun x=>tm.length-x.1,?_,?_⟩
  ·refine⟨⟨0,by omega,fun j hj=>by omega⟩,?_⟩
   cbv
   repeat' (first|with_reducible refine ua4 ?_ ?_|with_reducible refine And.intro ?_ ?_)
   all_goals first|trivial|exact qM (qE (by rfl))|exact qM (Fit.refl _)|exact qL (qK _)|skip
  ·rintro ⟨k,hk,hq⟩
   cbv
   repeat' (first|with_reducible refine ua4 ?_ ?_|with_reducible refine And.intro ?_ ?_|(with_reducible intro hcd;(try simp only [zA,zB,zC,zD,zE,zF,zG,zH,zI,zJ,zK,zL,zM,zN,zO,zP]at hcd);try cbv)|(refine qP ?_ (c31 _ _ _) (by(repeat' (first|exact qB|refine qD ?_ ?_|exact qE (by rfl)|exact qF (by rfl)|exact Fit.refl _|exact qA|refine qC ?_ rfl ?_)));try cbv)|fail)
   all_goals first|((try simp only [qV]at *);(try simp only [zQ,zA,zB,zC,zD,zE,zF,zG,zH,zI,zJ,zK,zL,zM,zN,zO,zP,zR,zS]at *);first|(refine qN ?_;omega)|(simp only [uaq];omega))|(subst hR;(refine qE ?_;(try simp only [qV]at *);simp only [zQ,zA,zB,zC,zD,zE,zF,zG,zH,zI,zJ,zK,zL,zM,zN,zO,zP,zR,zS]at *;rw [udS,if_neg (by omega),if_pos];right;right;right;right;right;rw [←Bool.not_eq_true,ud8];intro hall;have:=(hall i (by omega)).2 k (by omega);simp only [Bool.and_eq_false_iff]at hcd;rcases hcd with hcd|hcd<;>(have hz:=of_decide_eq_false hcd;omega));done)|((try simp only [zQ,zA,zB,zC,zD,zE,zF,zG,zH,zI,zJ,zK,zL,zM,zN,zO,zP,zR,zS]at *);refine⟨⟨k+1,by omega,fun j hj=>(Nat.lt_or_ge j k).elim (hq j) (fun q=>by rw [show j=k by omega];simp only [Bool.and_eq_true]at hcd;have hz:=of_decide_eq_true hcd.1;have hz2:=of_decide_eq_true hcd.2;omega)⟩,by simp only [];omega,?_⟩;cbv;(repeat' (first|with_reducible refine ua4 ?_ ?_|with_reducible refine And.intro ?_ ?_));(all_goals first|trivial|exact qM (qE (by rfl))|exact qM (qF (by rfl))|exact qM (Fit.refl _)|exact qL (qK _)|(refine qM (qE ?_);(try simp only [qV]at *);simp only [zQ,zA,zB,zC,zD,zE,zF,zG,zH,zI,zJ,zK,zL,zM,zN,zO,zP,zR,zS]at *;omega)|skip))|((try simp only [zQ,zA,zB,zC,zD,zE,zF,zG,zH,zI,zJ,zK,zL,zM,zN,zO,zP,zR,zS]at *);refine⟨⟨i+1,by omega,fun j hj=>(Nat.lt_or_ge j i).elim (hr j) (fun q=>by rw [show j=i by omega];exact⟨hlen,fun k2 hk2=>hq k2 (by omega)⟩)⟩,by simp only [];omega,?_⟩;cbv;(repeat' (first|with_reducible refine ua4 ?_ ?_|with_reducible refine And.intro ?_ ?_));(all_goals first|trivial|exact qM (qE (by rfl))|exact qM (qF (by rfl))|exact qM (Fit.refl _)|exact qL (qK _)|(refine qM (qE ?_);(try simp only [qV]at *);simp only [zQ,zA,zB,zC,zD,zE,zF,zG,zH,zI,zJ,zK,zL,zM,zN,zO,zP,zR,zS]at *;omega)|skip))|skip
end Go.Proofs.YtkdggbfknlcdaaaGreat

namespace Go.Proofs.YtkdggbfknlcdaaaGreat
theorem uxx {a b c d v00 v10 v01 v11 w m:Int}(h1:a≤w)(h2:w≤b)(h3:a<b)(h4:c≤m)(h5:m≤d)(h6:c<d)
 (v0:0≤v00∧v00≤2000) (v1:0≤v10∧v10≤2000) (v2:0≤v01∧v01≤2000) (v3:0≤v11∧v11≤2000):0≤uqp a b c d v00 v10 v01 v11 w m∧uqp a b c d v00 v10 v01 v11 w m≤2000:=by
 unfold uqp
 rw [utd]
 have p1:0≤(b-w)*(d-m):=Int.mul_nonneg (by omega) (by omega)
 have p2:0≤(w-a)*(d-m):=Int.mul_nonneg (by omega) (by omega)
 have p3:0≤(b-w)*(m-c):=Int.mul_nonneg (by omega) (by omega)
 have p4:0≤(w-a)*(m-c):=Int.mul_nonneg (by omega) (by omega)
 have e:(b-w)*(d-m)+(w-a)*(d-m)+(b-w)*(m-c)+(w-a)*(m-c)=(b-a)*(d-c):=by
  rw [←Int.add_mul,Int.add_assoc,←Int.add_mul]
  have e1:b-w+(w-a)=b-a:=by omega
  rw [e1,←Int.mul_add]
  congr 1;omega
 have q:0<(b-a)*(d-c):=Int.mul_pos (by omega) (by omega)
 have key:∀v p:Int,0≤v∧v≤2000→0≤p→0≤v*p∧v*p≤2000*p:=fun v p hv hp=>⟨Int.mul_nonneg hv.1 hp,Int.mul_le_mul_of_nonneg_right hv.2 hp⟩
 have k1:=key v00 _ v0 p1
 have k2:=key v10 _ v1 p2
 have k3:=key v01 _ v2 p3
 have k4:=key v11 _ v3 p4
 rw [Int.mul_assoc v00,Int.mul_assoc v10,Int.mul_assoc v01,Int.mul_assoc v11]
 generalize (b-w)*(d-m)=x1 at *
 generalize (w-a)*(d-m)=x2 at *
 generalize (b-w)*(m-c)=x3 at *
 generalize (w-a)*(m-c)=x4 at *
 rw [Int.mul_assoc 2 (b-a)]
 generalize (b-a)*(d-c)=y at *
 generalize v00*x1=y1 at *
 generalize v10*x2=y2 at *
 generalize v01*x3=y3 at *
 generalize v11*x4=y4 at *
 rw [Int.tdiv_eq_ediv_of_nonneg (by omega)]
 refine⟨Int.ediv_nonneg (by omega) (by omega),?_⟩
 have:2*(y1+y2+y3+y4)+y<(2000+1)*(2*y):=by omega
 have:=Int.ediv_lt_of_lt_mul (by omega) this
 omega
theorem ura {tw tm:List Int} {tv:List (List Int)} {w m:Int}(h:TOk tw tm tv)(hp:Pt tw tm w m):0≤atS tw tm tv w m∧atS tw tm tv w m≤2000:=by
 have hi:=uc6 h.w2 hp.w0
 have hk:=uc6 h.m2 hp.m0
 have l1:=hi.lt
 have l2:=hk.lt
 have e:=h.len
 have a2:=ue3 h.rw (i:=ubH tw w tw.length 0) (j:=ubH tw w tw.length 0+1) (by omega) (by omega)
 have a4:=ue3 h.rm (i:=ubH tm m tm.length 0) (j:=ubH tm m tm.length 0+1) (by omega) (by omega)
 exact uxx hi.lo (hi.le_hi hp.w1) a2 hk.lo (hk.le_hi hp.m1) a4 (h.val _ (by omega) _ (by omega)) (h.val _ (by omega) _ (by omega)) (h.val _ (by omega) _ (by omega)) (h.val _ (by omega) _ (by omega))
def vAt (tw tm:List Int)(tv:List (List Int))(wl ml:Int)(W n:Nat):Int:=atS tw tm tv (wl+((n%W:Nat):Int)) (ml+((n/W:Nat):Int))
def loN (v:Nat→Int):Nat→Int
 |0=>2000
 |n+1=>min (loN v n) (v n)
def hiN (v:Nat→Int):Nat→Int
 |0=>0
 |n+1=>max (hiN v n) (v n)
def wid (lo hi:Int):Nat:=(hi-lo+1).toNat
def bLo (tw tm:List Int)(tv:List (List Int))(wl wh ml mh:Int):Int:=loN (vAt tw tm tv wl ml (wid wl wh)) (wid ml mh*wid wl wh)
def bHi (tw tm:List Int)(tv:List (List Int))(wl wh ml mh:Int):Int:=hiN (vAt tw tm tv wl ml (wid wl wh)) (wid ml mh*wid wl wh)
theorem utl (v:Nat→Int):∀{n j:Nat},j<n→loN v n≤v j:=by
 intro n
 induction n with
 |zero=>intro j h;omega
 | succ n ih=>
  intro j h
  simp only [loN]
  by_cases e:j=n
  ·subst e;omega
  ·have:=ih (j:=j) (by omega);omega
theorem uw5 (v:Nat→Int):∀{n:Nat},loN v n=2000∨∃j,j<n∧loN v n=v j:=by
 intro n
 induction n with
 |zero=>exact .inl rfl
 | succ n ih=>
  simp only [loN]
  by_cases h:loN v n≤v n
  ·rw [Int.min_eq_left h]
   rcases ih with q|⟨j,h1,h2⟩
   ·exact .inl q
   ·exact .inr ⟨j,by omega,h2⟩
  ·rw [Int.min_eq_right (by omega)]
   exact .inr ⟨n,by omega,rfl⟩
theorem utB (v:Nat→Int):∀{n j:Nat},j<n→v j≤hiN v n:=by
 intro n
 induction n with
 |zero=>intro j h;omega
 | succ n ih=>
  intro j h
  simp only [hiN]
  by_cases e:j=n
  ·subst e;omega
  ·have:=ih (j:=j) (by omega);omega
theorem uwi (v:Nat→Int):∀{n:Nat},hiN v n=0∨∃j,j<n∧hiN v n=v j:=by
 intro n
 induction n with
 |zero=>exact .inl rfl
 | succ n ih=>
  simp only [hiN]
  by_cases h:v n≤hiN v n
  ·rw [Int.max_eq_left h]
   rcases ih with q|⟨j,h1,h2⟩
   ·exact .inl q
   ·exact .inr ⟨j,by omega,h2⟩
  ·rw [Int.max_eq_right (by omega)]
   exact .inr ⟨n,by omega,rfl⟩
structure Box (tw tm:List Int)(wl wh ml mh:Int):Prop where
 w:wl≤wh
 w0:tw.getD 0 0≤wl
 w1:wh≤tw.getD (tw.length-1) 0
 m:ml≤mh
 m0:tm.getD 0 0≤ml
 m1:mh≤tm.getD (tm.length-1) 0
theorem Box.pt {tw tm:List Int} {wl wh ml mh:Int}(h:Box tw tm wl wh ml mh) {w m:Int}(h1:wl≤w)(h2:w≤wh)(h3:ml≤m)(h4:m≤mh):Pt tw tm w m:=by
 have:=h.w0;have:=h.w1;have:=h.m0;have:=h.m1
 exact⟨by omega,by omega,by omega,by omega⟩
structure IsB (f:Int→Int→Int)(wl wh ml mh lo hi:Int):Prop where
 le:∀w m,wl≤w→w≤wh→ml≤m→m≤mh→lo≤f w m∧f w m≤hi
 lo:∃w m,wl≤w∧w≤wh∧ml≤m∧m≤mh∧lo=f w m
 hi:∃w m,wl≤w∧w≤wh∧ml≤m∧m≤mh∧hi=f w m
theorem uta {lo hi n:Int}(h:lo≤n)(h':n≤hi):(n-lo).toNat<wid lo hi:=by unfold wid;omega
theorem uxk {tw tm:List Int} {tv:List (List Int)} {wl wh ml mh:Int}(h:TOk tw tm tv)(hb:Box tw tm wl wh ml mh):IsB (atS tw tm tv) wl wh ml mh (bLo tw tm tv wl wh ml mh) (bHi tw tm tv wl wh ml mh):=by
 have hw:=hb.w
 have hm:=hb.m
 have hW:0<wid wl wh:=by unfold wid;omega
 have hM:0<wid ml mh:=by unfold wid;omega
 have hpt:∀n,n<wid ml mh*wid wl wh→wl≤wl+((n%wid wl wh:Nat):Int)∧wl+((n%wid wl wh:Nat):Int)≤wh∧ml≤ml+((n/wid wl wh:Nat):Int)∧ml+((n/wid wl wh:Nat):Int)≤mh:=fun n hn=>by
  have h1:=Nat.mod_lt n hW
  have h2:n/wid wl wh<wid ml mh:=Nat.div_lt_of_lt_mul (by rw [Nat.mul_comm];exact hn)
  generalize n%wid wl wh=x at *
  generalize n/wid wl wh=y at *
  unfold wid at h1 h2
  omega
 have hv:∀n,n<wid ml mh*wid wl wh→0≤vAt tw tm tv wl ml (wid wl wh) n∧vAt tw tm tv wl ml (wid wl wh) n≤2000:=fun n hn=>by
  have q:=hpt n hn
  exact ura h (hb.pt q.1 q.2.1 q.2.2.1 q.2.2.2)
 have h0:0<wid ml mh*wid wl wh:=Nat.mul_pos hM hW
 refine⟨fun w m a1 a2 a3 a4=> ?_,?_,?_⟩
 ·have b1:=uta a1 a2
  have b2:=uta a3 a4
  have hn:(m-ml).toNat*wid wl wh+(w-wl).toNat<wid ml mh*wid wl wh:=by
   have:((m-ml).toNat+1)*wid wl wh≤wid ml mh*wid wl wh:=Nat.mul_le_mul_right _ b2
   rw [Nat.add_mul,Nat.one_mul]at this
   omega
  have e:vAt tw tm tv wl ml (wid wl wh) ((m-ml).toNat*wid wl wh+(w-wl).toNat)=atS tw tm tv w m:=by
   unfold vAt
   rw [Nat.mul_comm,Nat.mul_add_mod,Nat.mod_eq_of_lt b1,Nat.mul_add_div hW,Nat.div_eq_of_lt b1]
   congr 1<;>omega
  rw [←e]
  exact⟨utl _ hn,utB _ hn⟩
 ·rcases uw5 (vAt tw tm tv wl ml (wid wl wh)) (n:=wid ml mh*wid wl wh)with q|⟨j,q1,q2⟩
  ·have q3:=utl (vAt tw tm tv wl ml (wid wl wh)) h0
   have q4:=hv 0 h0
   have q5:=hpt 0 h0
   exact⟨_,_,q5.1,q5.2.1,q5.2.2.1,q5.2.2.2,show bLo tw tm tv wl wh ml mh=vAt tw tm tv wl ml (wid wl wh) 0 by unfold bLo;omega⟩
  ·have q5:=hpt j q1
   exact⟨_,_,q5.1,q5.2.1,q5.2.2.1,q5.2.2.2,q2⟩
 ·rcases uwi (vAt tw tm tv wl ml (wid wl wh)) (n:=wid ml mh*wid wl wh)with q|⟨j,q1,q2⟩
  ·have q3:=utB (vAt tw tm tv wl ml (wid wl wh)) h0
   have q4:=hv 0 h0
   have q5:=hpt 0 h0
   exact⟨_,_,q5.1,q5.2.1,q5.2.2.1,q5.2.2.2,show bHi tw tm tv wl wh ml mh=vAt tw tm tv wl ml (wid wl wh) 0 by unfold bHi;omega⟩
  ·have q5:=hpt j q1
   exact⟨_,_,q5.1,q5.2.1,q5.2.2.1,q5.2.2.2,q2⟩
end Go.Proofs.YtkdggbfknlcdaaaGreat

namespace Go.Proofs.YtkdggbfknlcdaaaGreat
open Go Go.Eng Go.Proofs
set_option maxRecDepth 10000
theorem upl {n L:Nat}(h:uaq (n=L)):∀_:Unit,n=L:=fun _=>h
theorem uef {f g:Unit→Nat}(h:f ()=g ()):uaq (GEq (.atg f) (.atg g)):=h
theorem uhl {l L:Nat} {a b:SV} {n:Nat}(h:n<L)(hf:Fit a b):uaq (l=l∧n<L∧Le a b):=⟨rfl,h,hf.le⟩
theorem ujv (tw tm:List Int)(tv:List (List Int))(wl wh ml mh:Int)(h:TOk tw tm tv∧Box tw tm wl wh ml mh):ulv Tryz.prog 128 [.pp 0 [(iv fun _=>ml),(iv fun _=>mh)],.pp 0 [(iv fun _=>wl),(iv fun _=>wh)],.pp 0 [(iS tw),(iS tm),(.sl 1 (.sym fun _=>zi (tv).length) (fun ix=>[(.sl 1 (.sym fun _=>zi ((tv).getD ix.den.toNat []).length) (fun jx=>[(iv fun _=>((tv).getD ix.den.toNat []).getD jx.den.toNat 0)]))]))]] (wid ml mh*wid wl wh) (fun n=>[(iv fun _=>ml+zi (n/wid wl wh)),(iv fun _=>vAt tw tm tv wl ml (wid wl wh) n)]):=by
 have ca:=uyd tw tm tv
 obtain⟨hT,hB⟩:=h
 have b1:=hB.w0;have b2:=hB.w1;have b3:=hB.m0;have b4:=hB.m1;have b5:=hB.w;have b6:=hB.m
 have d1:=hT.w2;have d2:=hT.m2
 have e1:=uak hT.rw 0 (by omega)
 have e2:=uak hT.rm 0 (by omega)
 have e3:=uak hT.rw (tw.length-1) (by omega)
 have e4:=uak hT.rm (tm.length-1) (by omega)
 simp only [ubl]at e1 e2 e3 e4
 have hpt:∀a b:Nat,zi b≤wh-wl→zi a≤mh-ml→Pt tw tm (wl+zi b) (ml+zi a):=fun a b p q=>by
  simp only [uaa]at *
  exact hB.pt (by omega) (by omega) (by omega) (by omega)
 obtain⟨W,hW⟩:∃W,W=wid wl wh:=⟨_,rfl⟩
 obtain⟨M,hM⟩:∃M,M=wid ml mh:=⟨_,rfl⟩
 obtain⟨L,hL⟩:∃L,L=M*W:=⟨_,rfl⟩
 have hWz:zi W=wh-wl+1:=by rw [hW];simp only [wid,uaa];omega
 have hMz:zi M=mh-ml+1:=by rw [hM];simp only [wid,uaa];omega
 obtain⟨el,hel⟩:∃el:Nat→List SV,el=(fun n:Nat=>[(iv fun _=>ml+zi (n/W)),(iv fun _=>vAt tw tm tv wl ml W n)]):=⟨_,rfl⟩
 have help:∀a b:Nat,b<W→el (a*W+b)=[(iv fun _=>ml+zi a),(iv fun _=>atS tw tm tv (wl+zi b) (ml+zi a))]:=fun a b hb=>by
  rw [hel]
  simp only [vAt]
  rw [Nat.mul_comm,Nat.mul_add_div (by omega),Nat.mul_add_mod,Nat.div_eq_of_lt hb,Nat.mod_eq_of_lt hb,Nat.add_zero]
  rfl
 have hlt:∀a b:Nat,a<M→b<W→a*W+b<L:=fun a b ha hb=>by
  have:=Nat.mul_le_mul_right W (show a+1≤M by omega)
  rw [Nat.add_mul,Nat.one_mul]at this
  omega
 have hpl:∀i,ubf (.tup (el i))=true:=fun i=>by rw [hel];rfl
 rw [←hW,←hM,←hL,←hel]
 clear hel hW hM
 refine ug9 (sc:=uzy) uan mix Tryz.func128 rfl Tryz.call128 (by kernel_rfl) (by kernel_rfl) fun l=> ?_
 generalize Tryz.prog=P at ca⊢
 refine⟨rfl,rfl,hpl,?_⟩
 cbv
 refine⟨none,[],{a:Nat // a≤M},fun x=>.atg fun _=>x.1*W,fun x=>⟨[(0,.val (Value.func (Fn.yield l) ⟨[]⟩ ⟨[]⟩)),(1,.pp 0 [(iv fun _=>ml),(iv fun _=>mh)]),(2,.pp 0 [(iv fun _=>wl),(iv fun _=>wh)]),(3,.pp 0 [(iS tw),(iS tm),(.sl 1 (.sym fun _=>zi (tv).length) (fun ix=>[(.sl 1 (.sym fun _=>zi ((tv).getD ix.den.toNat []).length) (fun jx=>[(iv fun _=>((tv).getD ix.den.toNat []).getD jx.den.toNat 0)]))]))]),(5,(iv fun _=>ml+zi x.1))],[],3⟩,fun x=>M-x.1,?_,?_⟩
 ·refine⟨⟨0,by omega⟩,?_⟩
  cbv
  repeat' (first|with_reducible refine ua4 ?_ ?_|with_reducible refine And.intro ?_ ?_)
  all_goals first|trivial|exact qM (Fit.refl _)|(refine qM (qE ?_);(try simp only [qV]at *);simp only [zQ,zA,zB,zC,zD,zE,zF,zG,zH,zI,zJ,zK,zL,zM,zN,zO,zP,zR,zS]at *;omega)|(refine uef ?_;simp only [];omega)|skip
 ·rintro ⟨a,ha⟩
  cbv
  repeat' (first|with_reducible refine upl ?_|with_reducible refine And.intro ?_ ?_|(with_reducible intro hcd;(try simp only [zA,zB,zC,zD,zE,zF,zG,zH,zI,zJ,zK,zL,zM,zN,zO,zP]at hcd);try cbv)|fail)
  all_goals first|(show a*W=L;(try simp only [qV]at *);simp only [uaa]at *;rw [hL];congr 1;omega)|skip
  refine⟨none,[],{b:Nat // b≤W},fun x=>.atg fun _=>a*W+x.1,fun x=>⟨[(0,.val (Value.func (Fn.yield l) ⟨[]⟩ ⟨[]⟩)),(1,.pp 0 [(iv fun _=>ml),(iv fun _=>mh)]),(2,.pp 0 [(iv fun _=>wl),(iv fun _=>wh)]),(3,.pp 0 [(iS tw),(iS tm),(.sl 1 (.sym fun _=>zi (tv).length) (fun ix=>[(.sl 1 (.sym fun _=>zi ((tv).getD ix.den.toNat []).length) (fun jx=>[(iv fun _=>((tv).getD ix.den.toNat []).getD jx.den.toNat 0)]))]))]),(5,(iv fun _=>ml+zi a)),(6,(iv fun _=>wl+zi x.1))],[],3⟩,fun x=>W-x.1,?_,?_⟩
  ·refine⟨⟨0,by omega⟩,?_⟩
   cbv
   repeat' (first|with_reducible refine ua4 ?_ ?_|with_reducible refine And.intro ?_ ?_)
   all_goals first|trivial|exact qM (qE (by rfl))|exact qM (Fit.refl _)|(refine qM (qE ?_);(try simp only [qV]at *);simp only [zQ,zA,zB,zC,zD,zE,zF,zG,zH,zI,zJ,zK,zL,zM,zN,zO,zP,zR,zS]at *;omega)|skip
  ·rintro ⟨b,hb⟩
   cbv
   repeat' (first|with_reducible refine ua4 ?_ ?_|with_reducible refine And.intro ?_ ?_|(with_reducible intro hcd;(try simp only [zA,zB,zC,zD,zE,zF,zG,zH,zI,zJ,zK,zL,zM,zN,zO,zP]at hcd);try cbv)|(refine qP ?_ (ca _ _ (show uaq _ from ?_)) (by(repeat' (first|exact qB|refine qD ?_ ?_|exact qE (by rfl)|exact qF (by rfl)|exact Fit.refl _|exact qA|refine qC ?_ rfl ?_)));try cbv)|fail)
   all_goals first|trivial|((try simp only [qV]at *);(try simp only [zQ,zA,zB,zC,zD,zE,zF,zG,zH,zI,zJ,zK,zL,zM,zN,zO,zP,zR,zS]at *);first|(refine qN ?_;omega)|(simp only [uaq];omega))|(simp only [uaq];exact⟨hT,hpt _ _ (by omega) (by omega)⟩)|(refine uhl (hlt a b (by simp only [uaa]at *;omega) (by simp only [uaa]at *;omega)) ?_;rw [help a b (by simp only [uaa]at *;omega)];(repeat' (first|exact qA|exact qB|refine qC ?_ rfl ?_|refine qD ?_ ?_|exact qE (by rfl)|exact qF (by rfl)|exact Fit.refl _|exact qG _|(refine qE ?_;(try simp only [qV]at *);simp only [zQ,zA,zB,zC,zD,zE,zF,zG,zH,zI,zJ,zK,zL,zM,zN,zO,zP,zR,zS]at *;omega)));done)|((try simp only [zQ,zA,zB,zC,zD,zE,zF,zG,zH,zI,zJ,zK,zL,zM,zN,zO,zP,zR,zS]at *);refine⟨⟨b+1,by omega⟩,by simp only [];omega,?_⟩;cbv;(repeat' (first|with_reducible refine ua4 ?_ ?_|with_reducible refine And.intro ?_ ?_));(all_goals first|trivial|exact qM (qE (by rfl))|exact qM (qF (by rfl))|exact qM (Fit.refl _)|exact qL (qK _)|(refine qM (qE ?_);(try simp only [qV]at *);simp only [zQ,zA,zB,zC,zD,zE,zF,zG,zH,zI,zJ,zK,zL,zM,zN,zO,zP,zR,zS]at *;omega)|(refine uef ?_;simp only [];omega)|skip))|((try simp only [zQ,zA,zB,zC,zD,zE,zF,zG,zH,zI,zJ,zK,zL,zM,zN,zO,zP,zR,zS]at *);have hbW:b=W:=(by omega);refine⟨⟨a+1,by omega⟩,by simp only [];omega,?_⟩;cbv;(repeat' (first|with_reducible refine ua4 ?_ ?_|with_reducible refine And.intro ?_ ?_));(all_goals first|trivial|exact qM (qE (by rfl))|exact qM (qF (by rfl))|exact qM (Fit.refl _)|exact qL (qK _)|(refine qM (qE ?_);(try simp only [qV]at *);simp only [zQ,zA,zB,zC,zD,zE,zF,zG,zH,zI,zJ,zK,zL,zM,zN,zO,zP,zR,zS]at *;omega)|(refine uef ?_;simp only [Nat.add_mul,Nat.one_mul];omega)|skip))|skip
end Go.Proofs.YtkdggbfknlcdaaaGreat

namespace Go.Proofs.YtkdggbfknlcdaaaGreat
open Go Go.Eng Go.Proofs
set_option maxRecDepth 10000
theorem uk2 (tw tm:List Int)(tv:List (List Int))(wl wh ml mh:Int):ua0 Tryz.prog 119 [(.agg [(iS tw),(iS tm),(.sl 1 (.sym fun _=>zi (tv).length) (fun ix=>[(.sl 1 (.sym fun _=>zi ((tv).getD ix.den.toNat []).length) (fun jx=>[(iv fun _=>((tv).getD ix.den.toNat []).getD jx.den.toNat 0)]))]))]),(.agg [(iv fun _=>wl),(iv fun _=>wh)]),(.agg [(iv fun _=>ml),(iv fun _=>mh)])] [] (fun r _=>r = .clo 128 [] [.pp 0 [(iv fun _=>ml),(iv fun _=>mh)],.pp 0 [(iv fun _=>wl),(iv fun _=>wh)],.pp 0 [(iS tw),(iS tm),(.sl 1 (.sym fun _=>zi (tv).length) (fun ix=>[(.sl 1 (.sym fun _=>zi ((tv).getD ix.den.toNat []).length) (fun jx=>[(iv fun _=>((tv).getD ix.den.toNat []).getD jx.den.toNat 0)]))]))]]):=by
 refine ua0.is fun R hR=>qW (sc:=uzn) uan mix Tryz.func119 rfl Tryz.call119 (by kernel_rfl) (by kernel_rfl) ?_
 generalize Tryz.prog=P
 cbv
 repeat' (first|fail)
 all_goals first|(subst hR;(repeat' (first|exact qA|exact qB|refine qC ?_ rfl ?_|refine qD ?_ ?_|exact qE (by rfl)|exact qF (by rfl)|exact Fit.refl _|exact qG _|(refine qE ?_;(try simp only [qV]at *);simp only [zQ,zA,zB,zC,zD,zE,zF,zG,zH,zI,zJ,zK,zL,zM,zN,zO,zP,zR,zS]at *;omega)));done)|skip
theorem upy (tw tm:List Int)(tv:List (List Int))(wl wh ml mh:Int)(h:TOk tw tm tv∧Box tw tm wl wh ml mh):ua0 Tryz.prog 104 [(.agg [(iS tw),(iS tm),(.sl 1 (.sym fun _=>zi (tv).length) (fun ix=>[(.sl 1 (.sym fun _=>zi ((tv).getD ix.den.toNat []).length) (fun jx=>[(iv fun _=>((tv).getD ix.den.toNat []).getD jx.den.toNat 0)]))]))]),(.agg [(iv fun _=>wl),(iv fun _=>wh)]),(.agg [(iv fun _=>ml),(iv fun _=>mh)])] [] (fun r _=>r=(.tup [(.agg [(iv fun _=>bLo tw tm tv wl wh ml mh),(iv fun _=>bHi tw tm tv wl wh ml mh)]),(iv fun _=>0)])):=by
 have c79:= @uoB
 have c117:= @uu3
 have c118:= @urA
 have c119:= @uk2
 have c120:= @umL
 obtain⟨hT,hB⟩:=h
 have hf:=ujB hT
 have b1:=hB.w0;have b2:=hB.w1;have b3:=hB.m0;have b4:=hB.m1;have b5:=hB.w;have b6:=hB.m
 have d1:=hT.w2;have d2:=hT.m2;have d3:=hT.w5;have d4:=hT.m5
 obtain⟨W,hW⟩:∃W,W=wid wl wh:=⟨_,rfl⟩
 obtain⟨L,hL⟩:∃L,L=wid ml mh*W:=⟨_,rfl⟩
 obtain⟨v,hv⟩:∃v,v=vAt tw tm tv wl ml W:=⟨_,rfl⟩
 obtain⟨el,hel⟩:∃el:Nat→List SV,el=(fun n:Nat=>[(iv fun _=>ml+zi (n/W)),(iv fun _=>v n)]):=⟨_,rfl⟩
 have cI:ulv Tryz.prog 128 [.pp 0 [(iv fun _=>ml),(iv fun _=>mh)],.pp 0 [(iv fun _=>wl),(iv fun _=>wh)],.pp 0 [(iS tw),(iS tm),(.sl 1 (.sym fun _=>zi (tv).length) (fun ix=>[(.sl 1 (.sym fun _=>zi ((tv).getD ix.den.toNat []).length) (fun jx=>[(iv fun _=>((tv).getD ix.den.toNat []).getD jx.den.toNat 0)]))]))]] L el:=by rw [hel,hv,hL,hW];exact ujv tw tm tv wl wh ml mh ⟨hT,hB⟩
 have elen:∀i,(el i).length=2∧SV.idsL (el i)=[]:=fun i=>by rw [hel];exact⟨rfl,rfl⟩
 have ei:∀i,el i=[(iv fun _=>ml+zi (i/W)),(iv fun _=>v i)]:=fun i=>by rw [hel]
 have hlo:bLo tw tm tv wl wh ml mh=loN v L:=by rw [hv,hL,hW];rfl
 have hhi:bHi tw tm tv wl wh ml mh=hiN v L:=by rw [hv,hL,hW];rfl
 rw [hlo,hhi]
 clear hel hv hL hlo hhi hW
 refine ua0.is fun R hR=>qW (sc:=uyo) uan mix Tryz.func104 rfl Tryz.call104 (by kernel_rfl) (by kernel_rfl) ?_
 generalize Tryz.prog=P at c79 c117 c118 c119 c120 cI⊢
 cbv
 repeat' (first|with_reducible refine And.intro ?_ ?_|(with_reducible intro hcd;(try simp only [zA,zB,zC,zD,zE,zF,zG,zH,zI,zJ,zK,zL,zM,zN,zO,zP,hf]at hcd);try cbv)|(refine qP ?_ (c79 _ _ _) (by(repeat' (first|exact qB|refine qD ?_ ?_|exact qE (by rfl)|exact qF (by rfl)|exact Fit.refl _|exact qA|refine qC ?_ rfl ?_)));try cbv)|(refine qP ?_ (c117 _ (show uaq _ from ?_)) (by(repeat' (first|exact qB|refine qD ?_ ?_|exact qE (by rfl)|exact qF (by rfl)|exact Fit.refl _|exact qA|refine qC ?_ rfl ?_)));try cbv)|(refine qP ?_ (c118 _ _ _ _) (by(repeat' (first|exact qB|refine qD ?_ ?_|exact qE (by rfl)|exact qF (by rfl)|exact Fit.refl _|exact qA|refine qC ?_ rfl ?_)));try cbv)|(refine qP ?_ (c119 _ _ _ _ _ _ _) (by(repeat' (first|exact qB|refine qD ?_ ?_|exact qE (by rfl)|exact qF (by rfl)|exact Fit.refl _|exact qA|refine qC ?_ rfl ?_)));try cbv)|fail)
 all_goals first|trivial|((try simp only [qV]at *);(try simp only [zQ,zA,zB,zC,zD,zE,zF,zG,zH,zI,zJ,zK,zL,zM,zN,zO,zP,zR,zS]at *);first|(refine qN ?_;omega)|(simp only [uaq];omega))|(exfalso;simp_all;omega)|skip
 refine⟨[],L,el,fun _=>Unit,fun i _=>([(0,.cells [(iS tw),(iS tm),(.sl 1 (.sym fun _=>zi (tv).length) (fun ix=>[(.sl 1 (.sym fun _=>zi ((tv).getD ix.den.toNat []).length) (fun jx=>[(iv fun _=>((tv).getD ix.den.toNat []).getD jx.den.toNat 0)]))]))] 35),(1,.cells [(iv fun _=>wl),(iv fun _=>wh)] 152),(2,.cells [(iv fun _=>ml),(iv fun _=>mh)] 152),(3,.cells [.int .i64 (.lit 0),.int .i64 (.lit 0)] 152),(25,.cells [(iv fun _=>loN v i),(iv fun _=>hiN v i)] 152)],40),?_⟩
 cbv
 refine⟨fun _=>⟨cI,elen⟩,⟨(),?_⟩,?_,?_⟩
 ·cbv
  repeat' (first|with_reducible refine ua4 ?_ ?_|with_reducible refine And.intro ?_ ?_)
  all_goals first|trivial|exact qL (qK _)|(refine qL (qJ ?_);refine qC (qE ?_) rfl (qC (qE ?_) rfl qA)<;>first|rfl|((try simp only [qV]at *);simp only [zQ,zA,zB,zC,zD,zE,zF,zG,zH,zI,zJ,zK,zL,zM,zN,zO,zP,zR,zS,loN,hiN,uqP,upk];omega))|skip
 ·intro i _ hil
  simp only [ei]
  cbv
  repeat' (first
   | ((first|(refine qR ?_ (c120 _ _) rfl (by cbv;(repeat' (first|exact qB|refine qD ?_ ?_|exact qE (by rfl)|exact qF (by rfl)|exact Fit.refl _|exact qA|refine qC ?_ rfl ?_))))|(refine⟨none,?_⟩;refine qR ?_ (c120 _ _) rfl (by cbv;(repeat' (first|exact qB|refine qD ?_ ?_|exact qE (by rfl)|exact qF (by rfl)|exact Fit.refl _|exact qA|refine qC ?_ rfl ?_)))))
      try cbv)
   |fail)
  all_goals first|(refine⟨(),?_⟩;cbv;(repeat' (first|with_reducible refine ua4 ?_ ?_|with_reducible refine And.intro ?_ ?_));(all_goals first|trivial|exact qM (qE (by rfl))|exact qM (qF (by rfl))|exact qM (Fit.refl _)|exact qL (qK _)|(refine qM (qE ?_);(try simp only [qV]at *);simp only [zQ,zA,zB,zC,zD,zE,zF,zG,zH,zI,zJ,zK,zL,zM,zN,zO,zP,zR,zS]at *;omega)|(refine qL (qJ ?_);refine qC (qE ?_) rfl (qC (qE ?_) rfl qA)<;>first|rfl|((try simp only [qV]at *);simp only [zQ,zA,zB,zC,zD,zE,zF,zG,zH,zI,zJ,zK,zL,zM,zN,zO,zP,zR,zS,loN,hiN,uqP,upk];omega))|skip))|skip
  trace_state
 ·intro _
  cbv
  repeat' (first|fail)
  all_goals first|(subst hR;(repeat' (first|exact qA|exact qB|refine qC ?_ rfl ?_|refine qD ?_ ?_|exact qE (by rfl)|exact qF (by rfl)|exact Fit.refl _|exact qG _|(refine qE ?_;(try simp only [qV]at *);simp only [zQ,zA,zB,zC,zD,zE,zF,zG,zH,zI,zJ,zK,zL,zM,zN,zO,zP,zR,zS]at *;omega)));done)|skip
end Go.Proofs.YtkdggbfknlcdaaaGreat

namespace Go.Proofs.YtkdggbfknlcdaaaGreat
structure Csk where
 g:Int
 wl:Int
 wh:Int
 ml:Int
 mh:Int
def ck0 :Csk:=⟨0,0,0,0,0⟩
structure SOk (tw tm:List Int)(tv:List (List Int))(rate:Int)(cs:List Csk):Prop where
 t:TOk tw tm tv
 few:cs.length≤6
 rate:0≤rate∧rate≤200
 gal:∀i,i<cs.length→1≤(cs.getD i ck0).g∧(cs.getD i ck0).g≤99
 box:∀i,i<cs.length→Box tw tm (cs.getD i ck0).wl (cs.getD i ck0).wh (cs.getD i ck0).ml (cs.getD i ck0).mh
end Go.Proofs.YtkdggbfknlcdaaaGreat

namespace Go.Proofs.YtkdggbfknlcdaaaGreat
def ulJ (tv:List (List Int)):Bool:=decide (∀i,i<tv.length→(tv.getD i []).length≤8)
def ul0 (tw tm:List Int)(tv:List (List Int)):Bool:=decide (tw.length≤8)&&decide (tm.length≤8)&&decide (tv.length≤8)&&ulJ tv
structure ThinT (tw tm:List Int)(tv:List (List Int)):Prop where
 w:tw.length≤8
 m:tm.length≤8
 v:tv.length≤8
 r:∀i,i<tv.length→(tv.getD i []).length≤8
theorem ueU {tw tm:List Int} {tv:List (List Int)}:ul0 tw tm tv=true↔ThinT tw tm tv:=by
 simp only [ul0,ulJ,Bool.and_eq_true,decide_eq_true_eq]
 exact⟨fun h=>⟨h.1.1.1,h.1.1.2,h.1.2,h.2⟩,fun h=>⟨⟨⟨h.w,h.m⟩,h.v⟩,h.r⟩⟩
end Go.Proofs.YtkdggbfknlcdaaaGreat

namespace Go.Proofs.YtkdggbfknlcdaaaGreat
open Go Go.Eng Go.Proofs
set_option maxRecDepth 10000
theorem uwg (tw tm:List Int)(tv:List (List Int)):ua0 Tryz.prog 37 [(.agg [(iS tw),(iS tm),(.sl 1 (.sym fun _=>zi (tv).length) (fun ix=>[(.sl 1 (.sym fun _=>zi ((tv).getD ix.den.toNat []).length) (fun jx=>[(iv fun _=>((tv).getD ix.den.toNat []).getD jx.den.toNat 0)]))]))])] [] (fun r _=>r=(bv fun _=>ul0 tw tm tv)):=by
 refine ua0.is fun R hR=>qW (sc:=uAx) uan mix Tryz.func37 rfl Tryz.call37 (by kernel_rfl) (by kernel_rfl) ?_
 generalize Tryz.prog=P
 cbv
 repeat' (first|with_reducible refine And.intro ?_ ?_|(with_reducible intro hcd;(try simp only [zA,zB,zC,zD,zE,zF,zG,zH,zI,zJ,zK,zL,zM,zN,zO,zP]at hcd);try cbv)|fail)
 all_goals first|(subst hR;(refine qF ?_;simp only [ubk,ubn];symm;rw [←Bool.not_eq_true];intro hth0;have hth:=ueU.1 hth0;have q1:=hth.w;have q2:=hth.m;have q3:=hth.v;(try simp only [qV]at *);(try simp only [zQ,zA,zB,zC,zD,zE,zF,zG,zH,zI,zJ,zK,zL,zM,zN,zO,zP,zR,zS]at *);omega);done)|skip
 have hl:tw.length≤8∧tm.length≤8∧tv.length≤8:=by((try simp only [qV]at *);(try simp only [zQ,zA,zB,zC,zD,zE,zF,zG,zH,zI,zJ,zK,zL,zM,zN,zO,zP,zR,zS]at *);omega)
 refine⟨none,[],{i:Nat // i≤tv.length∧∀j,j<i→(tv.getD j []).length≤8},fun x=>⟨[(1,.own 0 0),(3,(iv fun _=>zi x.1))],[(0,.cells [(iS tw),(iS tm),(.sl 1 (.sym fun _=>zi (tv).length) (fun ix=>[(.sl 1 (.sym fun _=>zi ((tv).getD ix.den.toNat []).length) (fun jx=>[(iv fun _=>((tv).getD ix.den.toNat []).getD jx.den.toNat 0)]))]))] 25)],30⟩,fun x=>tv.length-x.1,?_,?_⟩
 ·refine⟨⟨0,by omega,fun j hj=>by omega⟩,?_⟩
  cbv
  repeat' (first|with_reducible refine ua4 ?_ ?_|with_reducible refine And.intro ?_ ?_)
  all_goals first|trivial|exact qM (qE (by rfl))|exact qM (Fit.refl _)|exact qL (qK _)|skip
 ·rintro⟨i,hi,hr⟩
  cbv
  repeat' (first|with_reducible refine ua4 ?_ ?_|with_reducible refine And.intro ?_ ?_|(with_reducible intro hcd;(try simp only [zA,zB,zC,zD,zE,zF,zG,zH,zI,zJ,zK,zL,zM,zN,zO,zP]at hcd);try cbv)|fail)
  all_goals (try have hlt:i<tv.length:=(by(try simp only [qV]at *);(try simp only [zQ,zA,zB,zC,zD,zE,zF,zG,zH,zI,zJ,zK,zL,zM,zN,zO,zP,zR,zS]at *);omega))
  all_goals first|((try simp only [qV]at *);(try simp only [zQ,zA,zB,zC,zD,zE,zF,zG,zH,zI,zJ,zK,zL,zM,zN,zO,zP,zR,zS]at *);first|(refine qN ?_;omega)|(simp only [uaq];omega))|(subst hR;(refine qF ?_;simp only [ubk,ubn];symm;rw [←Bool.not_eq_true];intro hth0;have hth:=(ueU.1 hth0).r i hlt;(try simp only [qV]at *);(try simp only [zQ,zA,zB,zC,zD,zE,zF,zG,zH,zI,zJ,zK,zL,zM,zN,zO,zP,zR,zS]at *);omega);done)|(subst hR;(refine qF ?_;simp only [ubk,ubn];symm;exact ueU.2 ⟨hl.1,hl.2.1,hl.2.2,fun j hj=>hr j (by(try simp only [qV]at *);(try simp only [zQ,zA,zB,zC,zD,zE,zF,zG,zH,zI,zJ,zK,zL,zM,zN,zO,zP,zR,zS]at *);omega)⟩);done)|((try simp only [zQ,zA,zB,zC,zD,zE,zF,zG,zH,zI,zJ,zK,zL,zM,zN,zO,zP,zR,zS]at *);refine⟨⟨i+1,by omega,fun j hj=>(Nat.lt_or_ge j i).elim (hr j) (fun q=>by rw [show j=i by omega];(try simp only [qV]at *);(try simp only [zQ,zA,zB,zC,zD,zE,zF,zG,zH,zI,zJ,zK,zL,zM,zN,zO,zP,zR,zS]at *);omega)⟩,by simp only [];omega,?_⟩;cbv;(repeat' (first|with_reducible refine ua4 ?_ ?_|with_reducible refine And.intro ?_ ?_));(all_goals first|trivial|exact qM (qE (by rfl))|exact qM (qF (by rfl))|exact qM (Fit.refl _)|exact qL (qK _)|(refine qM (qE ?_);(try simp only [qV]at *);simp only [zQ,zA,zB,zC,zD,zE,zF,zG,zH,zI,zJ,zK,zL,zM,zN,zO,zP,zR,zS]at *;omega)|skip))|skip
end Go.Proofs.YtkdggbfknlcdaaaGreat

namespace Go.Proofs.YtkdggbfknlcdaaaGreat
open Go.Eng.Dif
theorem udy {tw tm:List Int} {tv:List (List Int)}(h:ubM tw tm tv=0):TOk tw tm tv:=by
 unfold ubM at h
 split at h
 ·omega
 ·rename_i h1
  split at h
  ·omega
  ·rename_i h2
   split at h
   ·rename_i h3
    refine⟨by omega,by omega,by omega,by omega,?_,?_,by omega,fun i hi=>(h3 i hi).1,fun i hi=>(h3 i hi).2⟩
    ·cases hr:ucq tw 40 with
     |true=>rfl
     |false=>exact absurd (.inr (.inr (.inl hr))) h2
    ·cases hr:ucq tm 60 with
     |true=>rfl
     |false=>exact absurd (.inr (.inr (.inr (.inl hr)))) h2
   ·omega
def uh2 (p:Nat→Bool)(n:Nat):Bool:= !(decide (0≤ubJ p n 0))
theorem uaj (p:Nat→Bool)(n:Nat):(uh2 p n=true)=∀i,i<n→p i=true:=by rw [uh2,ugh];exact decide_eq_true_eq
theorem uau (p:Nat→Bool)(n:Nat):(uh2 p n=false)=¬∀i,i<n→p i=true:=by rw [uh2,ugh];simp only [decide_eq_false_iff_not]
def inB (lo n hi:Int):Bool:=decide (lo≤n∧n≤hi)
def ofB (lo a b hi:Int):Bool:=decide (lo≤a∧a≤b∧b≤hi)
theorem uaP (lo n hi:Int):(inB lo n hi=true)=(lo≤n∧n≤hi):=decide_eq_true_eq
theorem ub4 (lo n hi:Int):(inB lo n hi=false)=¬(lo≤n∧n≤hi):=by simp only [inB,decide_eq_false_iff_not]
theorem ub2 (lo a b hi:Int):(ofB lo a b hi=true)=(lo≤a∧a≤b∧b≤hi):=decide_eq_true_eq
theorem ub5 (lo a b hi:Int):(ofB lo a b hi=false)=¬(lo≤a∧a≤b∧b≤hi):=by simp only [ofB,decide_eq_false_iff_not]
def inL (out:List Int)(v:Int):Bool:=decide (0≤ubJ (fun j=> !(decide (out.getD j 0=v))) out.length 0)
theorem uz7 {out:List Int} {v:Int}:inL out v=true↔∃j,j<out.length∧out.getD j 0=v:=by
 unfold inL
 rw [decide_eq_true_eq,uiq]
 constructor
 ·rintro⟨j,_,h2,h3⟩;exact⟨j,by omega,of_decide_eq_true (by simpa using h3)⟩
 ·rintro⟨j,h1,h2⟩;exact⟨j,by omega,by omega,by rw [h2];simp⟩
theorem uhx (out:List Int)(v:Int):inL out v=out.contains v:=by
 rw [Bool.eq_iff_iff,uz7,List.contains_iff_mem]
 constructor
 ·rintro⟨j,h1,h2⟩
  rw [←h2,List.getD_eq_getElem?_getD,List.getElem?_eq_getElem h1];exact List.getElem_mem h1
 ·intro h
  obtain⟨j,h1,h2⟩:=List.getElem_of_mem h
  exact⟨j,h1,by rw [List.getD_eq_getElem?_getD,List.getElem?_eq_getElem h1];exact h2⟩
structure LkT where
 a:Int
 b:Int
 lo:Int
 hi:Int
structure FaT where
 p:Int
 s:Int
 wl:Int
 wh:Int
 ml:Int
 mh:Int
structure Dsp where
 tw:List Int
 tm:List Int
 tv:List (List Int)
 sn:Int
 pn:Int
 ls:List LkT
 fs:List FaT
def l0T :LkT:=⟨0,0,0,0⟩
def f0T :FaT:=⟨0,0,0,0,0,0⟩
def ucI (sn:Int)(x:LkT):Prop:=(0≤x.a∧x.a≤sn-1)∧(0≤x.b∧x.b≤sn-1)∧x.a≠x.b∧ -2000≤x.lo∧x.lo≤x.hi∧x.hi≤2000
instance (sn:Int) (x:LkT):Decidable (ucI sn x):=by unfold ucI;infer_instance
def uf4 (sn:Int)(x:LkT):Bool:=decide (ucI sn x)
theorem uae (sn:Int)(x:LkT):(uf4 sn x=true)=ucI sn x:=decide_eq_true_eq
theorem uaf (sn:Int)(x:LkT):(uf4 sn x=false)=¬ucI sn x:=by simp only [uf4,decide_eq_false_iff_not]
def uc8 (d:Dsp)(f:FaT):Prop:=(0≤f.p∧f.p≤d.pn-1)∧(0≤f.s∧f.s≤d.sn-1)∧(d.tw.getD 0 0≤f.wl∧f.wl≤f.wh∧f.wh≤d.tw.getD (d.tw.length-1) 0)∧d.tm.getD 0 0≤f.ml∧f.ml≤f.mh∧f.mh≤d.tm.getD (d.tm.length-1) 0
instance (d:Dsp) (f:FaT):Decidable (uc8 d f):=by unfold uc8;infer_instance
def ueE (d:Dsp)(f:FaT):Bool:=decide (uc8 d f)
theorem uad (d:Dsp)(f:FaT):(ueE d f=true)=uc8 d f:=decide_eq_true_eq
theorem uag (d:Dsp)(f:FaT):(ueE d f=false)=¬uc8 d f:=by simp only [ueE,decide_eq_false_iff_not]
structure DOk (d:Dsp):Prop where
 t:TOk d.tw d.tm d.tv
 s1:1≤d.sn
 s3:d.sn≤3
 p1:1≤d.pn
 p4:d.pn≤4
 l4:d.ls.length≤4
 f6:d.fs.length≤6
 l:∀i,i<d.ls.length→ucI d.sn (d.ls.getD i l0T)
 f:∀i,i<d.fs.length→uc8 d (d.fs.getD i f0T)
def ueo (d:Dsp):Prop:=3<d.sn∨4<d.pn∨4<d.ls.length∨6<d.fs.length
instance (d:Dsp):Decidable (ueo d):=by unfold ueo;infer_instance
def ujF (d:Dsp):Prop:=1≤d.sn∧1≤d.pn∧uh2 (fun i=>uf4 d.sn (d.ls.getD i l0T)) d.ls.length=true∧uh2 (fun i=>ueE d (d.fs.getD i f0T)) d.fs.length=true
instance (d:Dsp):Decidable (ujF d):=by unfold ujF;infer_instance
def ua7 (d:Dsp):Int:=if ubM d.tw d.tm d.tv=0 then(if ueo d then 3 else if ujF d then 0 else 1)else ubM d.tw d.tm d.tv
theorem ugb {d:Dsp}(h:¬ubM d.tw d.tm d.tv=0):ua7 d=ubM d.tw d.tm d.tv:=by unfold ua7;rw [if_neg h]
theorem ufp {d:Dsp}(h:ubM d.tw d.tm d.tv=0)(h':ueo d):ua7 d=3:=by unfold ua7;rw [if_pos h,if_pos h']
theorem ueW {d:Dsp}(h:ubM d.tw d.tm d.tv=0)(h':¬ueo d)(h'':¬ujF d):ua7 d=1:=by unfold ua7;rw [if_pos h,if_neg h',if_neg h'']
theorem ugH {d:Dsp}(h:ubM d.tw d.tm d.tv=0)(h':¬ueo d)(h'':ujF d):ua7 d=0:=by unfold ua7;rw [if_pos h,if_neg h',if_pos h'']
theorem ufa {d:Dsp}:ujF d↔1≤d.sn∧1≤d.pn∧(∀i,i<d.ls.length→ucI d.sn (d.ls.getD i l0T))∧∀i,i<d.fs.length→uc8 d (d.fs.getD i f0T):=by
 unfold ujF
 rw [uaj,uaj]
 simp only [uae,uad]
theorem ua3 {d:Dsp}:ua7 d=0↔DOk d:=by
 constructor
 ·intro h
  by_cases ht:ubM d.tw d.tm d.tv=0
  ·by_cases hm:ueo d
   ·rw [ufp ht hm]at h;omega
   ·by_cases hg:ujF d
    ·have g:=ufa.1 hg
     unfold ueo at hm
     exact⟨udy ht,g.1,by omega,g.2.1,by omega,by omega,by omega,g.2.2.1,g.2.2.2⟩
    ·rw [ueW ht hm hg]at h;omega
  ·rw [ugb ht]at h;exact absurd h ht
 ·intro h
  have h1:=h.s3
  have h2:=h.p4
  have h3:=h.l4
  have h4:=h.f6
  exact ugH (ujB h.t) (by unfold ueo;omega) (ufa.2 ⟨h.s1,h.p1,h.l,h.f⟩)
def mLo (d:Dsp)(f:FaT):Int:=bLo d.tw d.tm d.tv f.wl f.wh f.ml f.mh
def mHi (d:Dsp)(f:FaT):Int:=bHi d.tw d.tm d.tv f.wl f.wh f.ml f.mh
theorem uiw {d:Dsp} {f:FaT}(h:uc8 d f):Box d.tw d.tm f.wl f.wh f.ml f.mh:=by
 unfold uc8 at h
 exact⟨by omega,by omega,by omega,by omega,by omega,by omega⟩
theorem uq7 {d:Dsp} {f:FaT}(hT:TOk d.tw d.tm d.tv)(h:uc8 d f):0≤mLo d f∧mLo d f≤mHi d f∧mHi d f≤2000:=by
 have hb:=uiw h
 have hB:=uxk hT hb
 obtain⟨w,m,a1,a2,a3,a4,a5⟩:=hB.lo
 obtain⟨w',m',b1,b2,b3,b4,b5⟩:=hB.hi
 have q1:=ura hT (hb.pt a1 a2 a3 a4)
 have q2:=ura hT (hb.pt b1 b2 b3 b4)
 have q3:=hB.le w m a1 a2 a3 a4
 unfold mLo mHi
 omega
def lkO (x:LkT):Lk:=⟨x.a.toNat,x.b.toNat,x.lo,x.hi⟩
def faO (d:Dsp)(f:FaT):Fa:=⟨f.s.toNat,mLo d f,mHi d f⟩
def LO (d:Dsp):List Lk:=d.ls.map lkO
def FO (d:Dsp)(fs:List FaT):List Fa:=fs.map (faO d)
def SN (d:Dsp):Nat:=d.sn.toNat
def FOk (d:Dsp)(fs:List FaT):Prop:=∀i,i<fs.length→uc8 d (fs.getD i f0T)
theorem FOk.mem {d:Dsp} {fs:List FaT}(h:FOk d fs) {f:FaT}(hf:f∈fs):uc8 d f:=by
 obtain⟨i,h1,h2⟩:=List.getElem_of_mem hf
 have:=h i h1
 rw [List.getD_eq_getElem?_getD,List.getElem?_eq_getElem h1]at this
 rw [←h2];exact this
theorem FOk.of {d:Dsp} {fs:List FaT}(h:∀f∈fs,uc8 d f):FOk d fs:=fun i hi=>by
 rw [List.getD_eq_getElem?_getD,List.getElem?_eq_getElem hi];exact h _ (List.getElem_mem hi)
theorem uqr {d:Dsp}(h:∀i,i<d.ls.length→ucI d.sn (d.ls.getD i l0T)) {x:LkT}(hx:x∈d.ls):ucI d.sn x:=by
 obtain⟨i,h1,h2⟩:=List.getElem_of_mem hx
 have:=h i h1
 rw [List.getD_eq_getElem?_getD,List.getElem?_eq_getElem h1]at this
 rw [←h2];exact this
theorem okk {d:Dsp}(h:DOk d) {fs:List FaT}(hf:FOk d fs):Okk (SN d) (LO d) (FO d fs):=by
 have s1:=h.s1
 have s3:=h.s3
 refine⟨by unfold SN;omega,by unfold SN;omega,fun k hk=> ?_,fun k hk=> ?_⟩
 ·obtain⟨x,hx,rfl⟩:=List.mem_map.1 hk
  have:=uqr h.l hx
  unfold ucI at this
  unfold lkO SN
  simp only
  omega
 ·obtain⟨x,hx,rfl⟩:=List.mem_map.1 hk
  have:=hf.mem hx
  unfold uc8 at this
  unfold faO SN
  simp only
  omega
theorem ut7 {d:Dsp}(h:DOk d) {fs:List FaT}(hf:FOk d fs)(i:Nat): -2000≤ukF (SN d) (LO d) (FO d fs) i∧ukF (SN d) (LO d) (FO d fs) i≤2000:=by
 refine upU (fun k hk=> ?_) (fun k hk=> ?_) i
 ·obtain⟨x,hx,rfl⟩:=List.mem_map.1 hk
  have:=uqr h.l hx
  unfold ucI at this
  unfold lkO
  simp only
  omega
 ·obtain⟨x,hx,rfl⟩:=List.mem_map.1 hk
  have:=uq7 h.t (hf.mem hx)
  unfold faO
  simp only
  omega
def kpT (fs:List FaT)(c:Nat→Bool):Nat→List FaT
 |0=>[]
 |i+1=>if c i=true then kpT fs c i++[fs.getD i f0T]else kpT fs c i
theorem upa {fs:List FaT} {c:Nat→Bool} {i:Nat}(h:c i=true):kpT fs c (i+1)=kpT fs c i++[fs.getD i f0T]:=by simp only [kpT,h,if_true]
theorem uuZ {fs:List FaT} {c:Nat→Bool} {i:Nat}(h:c i=false):kpT fs c (i+1)=kpT fs c i:=by simp only [kpT,h,Bool.false_eq_true,if_false]
theorem uve (fs:List FaT)(c:Nat→Bool):∀{m n:Nat},m≤n→∃r,kpT fs c n=kpT fs c m++r:=by
 intro m n
 induction n with
 |zero=>intro h;exact⟨[],by rw [show m=0 by omega];simp [kpT]⟩
 | succ n ih=>
  intro h
  rcases Nat.lt_or_ge n m with q|q
  ·exact⟨[],by rw [show m=n+1 by omega];simp⟩
  ·obtain⟨r,e⟩:=ih q
   cases hc:c n with
   |true=>exact⟨r++[fs.getD n f0T],by rw [upa hc,e,List.append_assoc]⟩
   |false=>exact⟨r,by rw [uuZ hc,e]⟩
theorem uw3 {fs:List FaT} {c:Nat→Bool} {i n:Nat}(hi:i<n)(h:c i=true):(kpT fs c i).length<(kpT fs c n).length∧(kpT fs c n).getD (kpT fs c i).length f0T=fs.getD i f0T:=by
 obtain⟨r,e⟩:=uve fs c (show i+1≤n by omega)
 rw [e,upa h]
 constructor
 ·simp only [List.length_append,List.length_cons,List.length_nil];omega
 ·simp [List.getD_eq_getElem?_getD]
theorem utO {fs:List FaT} {c:Nat→Bool} {f:FaT}:∀{n:Nat},n≤fs.length→f∈kpT fs c n→f∈fs:=by
 intro n
 induction n with
 |zero=>intro _ h;simp [kpT]at h
 | succ n ih=>
  intro hn h
  simp only [kpT]at h
  split at h
  ·rcases List.mem_append.1 h with h|h
   ·exact ih (by omega) h
   ·rw [List.mem_singleton]at h
    rw [h,List.getD_eq_getElem?_getD,List.getElem?_eq_getElem (by omega)];exact List.getElem_mem _
  ·exact ih (by omega) h
theorem usn {d:Dsp} {fs:List FaT} {i:Nat}(h:i<fs.length):(FO d fs).getD i f0=faO d (fs.getD i f0T):=by
 unfold FO
 simp only [List.getD_eq_getElem?_getD,List.getElem?_map,List.getElem?_eq_getElem h,Option.map_some,Option.getD_some]
theorem udV (d:Dsp)(fs:List FaT):(FO d fs).length=fs.length:=List.length_map ..
theorem umf (d:Dsp):(LO d).length=d.ls.length:=List.length_map ..
theorem uvq {d:Dsp} {i:Nat}(h:i<d.ls.length):(LO d).getD i lk0=lkO (d.ls.getD i l0T):=by
 unfold LO
 simp only [List.getD_eq_getElem?_getD,List.getElem?_map,List.getElem?_eq_getElem h,Option.map_some,Option.getD_some]
theorem uwD {d:Dsp} {fs:List FaT} {c:Nat→Bool}:∀{n:Nat},n≤fs.length→FO d (kpT fs c n)=kpN (FO d fs) c n:=by
 intro n
 induction n with
 |zero=>intro _;rfl
 | succ n ih=>
  intro hn
  have e:=ih (by omega)
  cases hc:c n with
  | true=>
   rw [upa hc]
   simp only [kpN,hc,if_true]
   rw [←e,usn (by omega)]
   unfold FO
   rw [List.map_append];rfl
  | false=>
   rw [uuZ hc]
   simp only [kpN,hc,Bool.false_eq_true,if_false]
   exact e
def ubK (fs:List FaT)(o:List Int):List FaT:=kpT fs (uk5 o) fs.length
def uxW (o:List Int)(i:Nat):Bool:= !(inL o (i:Int))
theorem upj (o:List Int):uxW o=uk5 o:=funext fun i=>by unfold uxW uk5;rw [uhx]
theorem upX {d:Dsp} {fs:List FaT}(h:FOk d fs)(o:List Int):FOk d (ubK fs o):=FOk.of fun f hf=>h.mem (utO (Nat.le_refl _) hf)
def ui5 (d:Dsp)(fs:List FaT)(o:List Int):Nat→Int:=ukF (SN d) (LO d) (FO d (ubK fs o))
def ufd (d:Dsp)(fs:List FaT)(o:List Int):Bool:=okD (clo (ui5 d fs o))
theorem upF {d:Dsp} {fs:List FaT} {o:List Int}:ufd d fs o=okF (SN d) (LO d) (FO d fs) o:=by
 unfold ufd ui5 ubK okF ujT udg
 rw [uwD (Nat.le_refl _),udV]
end Go.Proofs.YtkdggbfknlcdaaaGreat
namespace Go.Proofs.YtkdggbfknlcdaaaGreat
open Go Go.Eng Go.Proofs
abbrev ubh (d:Dsp):SV:=(.agg [(iS d.tw),(iS d.tm),(.sl 1 (.sym fun _=>zi (d.tv).length) (fun ix=>[(.sl 1 (.sym fun _=>zi ((d.tv).getD ix.den.toNat []).length) (fun jx=>[(iv fun _=>((d.tv).getD ix.den.toNat []).getD jx.den.toNat 0)]))])),(iv fun _=>d.sn),(iv fun _=>d.pn),(.sl 4 (.sym fun _=>zi (d.ls).length) (fun ix=>[(iv fun _=>((d.ls).getD ix.den.toNat l0T).a),(iv fun _=>((d.ls).getD ix.den.toNat l0T).b),(iv fun _=>((d.ls).getD ix.den.toNat l0T).lo),(iv fun _=>((d.ls).getD ix.den.toNat l0T).hi)])),(.sl 6 (.sym fun _=>zi (d.fs).length) (fun ix=>[(iv fun _=>((d.fs).getD ix.den.toNat f0T).p),(iv fun _=>((d.fs).getD ix.den.toNat f0T).s),(iv fun _=>((d.fs).getD ix.den.toNat f0T).wl),(iv fun _=>((d.fs).getD ix.den.toNat f0T).wh),(iv fun _=>((d.fs).getD ix.den.toNat f0T).ml),(iv fun _=>((d.fs).getD ix.den.toNat f0T).mh)]))])
end Go.Proofs.YtkdggbfknlcdaaaGreat

namespace Go.Proofs.YtkdggbfknlcdaaaGreat
open Go.Eng.Dif
theorem uuE (n:Nat):bS (n+1)=bS n++[⟨0,n+1,0,2000⟩]:=by unfold bS;rw [List.range_succ,List.map_append];rfl
def mS (n:Nat):Nat→Int:=uo3 M00 (bS n)
theorem uB1 (n:Nat):mS (n+1)=un8 (mS n) ⟨0,n+1,0,2000⟩:=by unfold mS;rw [uuE,ueY];rfl
def mL (d:Dsp)(k:Nat):Nat→Int:=uo3 (mS (SN d)) (bL_ ((LO d).take k))
theorem uhU {α:Type} {l:List α} {k:Nat}(h:k<l.length):l.take (k+1)=l.take k++[l[k]]:=List.take_succ_eq_append_getElem h
theorem uBm {d:Dsp} {k:Nat}(h:k<d.ls.length)(h0:0≤(d.ls.getD k l0T).a)(h1:0≤(d.ls.getD k l0T).b):mL d (k+1)=un8 (mL d k) ⟨((d.ls.getD k l0T).a+1).toNat,((d.ls.getD k l0T).b+1).toNat,(d.ls.getD k l0T).lo,(d.ls.getD k l0T).hi⟩:=by
 have hk:k<(LO d).length:=by rw [umf];exact h
 unfold mL
 rw [uhU hk]
 unfold bL_
 rw [List.map_append,ueY]
 have e:(LO d)[k]=lkO (d.ls.getD k l0T):=by
  have:=uvq h
  rw [List.getD_eq_getElem?_getD,List.getElem?_eq_getElem hk]at this
  exact this
 rw [e,show((d.ls.getD k l0T).a+1).toNat=(d.ls.getD k l0T).a.toNat+1 by omega,show((d.ls.getD k l0T).b+1).toNat=(d.ls.getD k l0T).b.toNat+1 by omega]
 rfl
def mF (d:Dsp)(fs:List FaT)(k:Nat):Nat→Int:=uo3 (mL d d.ls.length) (bF ((FO d fs).take k))
theorem uB7 {d:Dsp} {fs:List FaT} {k:Nat}(h:k<fs.length)(h0:0≤(fs.getD k f0T).s):mF d fs (k+1)=un8 (mF d fs k) ⟨0,((fs.getD k f0T).s+1).toNat,mLo d (fs.getD k f0T),mHi d (fs.getD k f0T)⟩:=by
 have hk:k<(FO d fs).length:=by rw [udV];exact h
 unfold mF
 rw [uhU hk]
 unfold bF
 rw [List.map_append,ueY]
 have e:(FO d fs)[k]=faO d (fs.getD k f0T):=by
  have:=usn (d:=d) h
  rw [List.getD_eq_getElem?_getD,List.getElem?_eq_getElem hk]at this
  exact this
 rw [e,show((fs.getD k f0T).s+1).toNat=(fs.getD k f0T).s.toNat+1 by omega]
 rfl
theorem usZ (d:Dsp)(fs:List FaT):mF d fs fs.length=ukF (SN d) (LO d) (FO d fs):=by
 unfold mF mL mS ukF
 rw [ueY,ueY,List.take_of_length_le (by rw [umf];exact Nat.le_refl _),List.take_of_length_le (by rw [udV];exact Nat.le_refl _)]
def iN (k i:Nat):Int:=if i<k then M00 i else 0
theorem uAF (i:Nat):iN 0 i=0:=by unfold iN;rw [if_neg (by omega)]
theorem utk {k i:Nat}(h:i≠k):iN k i=iN (k+1) i:=by
 unfold iN
 by_cases q:i<k
 ·rw [if_pos q,if_pos (by omega)]
 ·rw [if_neg q,if_neg (by omega)]
theorem uxv {k i:Nat}(h:i=k)(hd:k/4≠k%4):2000=iN (k+1) i:=by
 subst h
 unfold iN M00
 rw [if_pos (by omega),if_neg hd]
theorem uwe {k i:Nat}(hd:k/4=k%4):iN k i=iN (k+1) i:=by
 by_cases q:i=k
 ·subst q
  unfold iN M00
  rw [if_neg (by omega),if_pos (by omega),if_pos hd]
 ·exact utk q
theorem uwM {i:Nat}(h:i<16):iN 16 i=M00 i:=by unfold iN;rw [if_pos h]
theorem uwN (a b:Int):min a b=mn a b:=by unfold mn;split<;>omega
theorem uvD {M:Nat→Int} {p i a:Nat} {n:Int}(ha:a=p)(h:i=p):min (M a) n=lst M p n i:=by
 unfold lst
 rw [if_pos h,uwN,ha,h]
theorem uvA {M:Nat→Int} {p i:Nat} {n:Int}(h:i≠p):M i=lst M p n i:=by
 unfold lst
 rw [if_neg h]
end Go.Proofs.YtkdggbfknlcdaaaGreat

namespace Go.Proofs.YtkdggbfknlcdaaaGreat
open Go Go.Eng Go.Proofs
set_option maxRecDepth 10000
theorem ucY (n lo hi:Int):ua0 Tryz.prog 57 [(iv fun _=>n),(iv fun _=>lo),(iv fun _=>hi)] [] (fun r _=>r=(bv fun _=>inB lo n hi)):=by
 refine ua0.is fun R hR=>qW (sc:=uBF) uan mix Tryz.func57 rfl Tryz.call57 (by kernel_rfl) (by kernel_rfl) ?_
 generalize Tryz.prog=P
 cbv
 repeat' (first|with_reducible refine And.intro ?_ ?_|(with_reducible intro hcd;(try simp only [zA,zB,zC,zD,zE,zF,zG,zH,zI,zJ,zK,zL,zM,zN,zO,zP]at hcd);try cbv)|fail)
 all_goals first|(subst hR;(refine qF ?_;(try simp only [qV]at *);(try simp only [zQ,zA,zB,zC,zD,zE,zF,zG,zH,zI,zJ,zK,zL,zM,zN,zO,zP,zR,zS]at *);apply Bool.eq_iff_iff.2;simp only [uaj,uau,uaP,ub4,ub2,ub5,uae,uaf,uad,uag,Bool.and_eq_true,Bool.or_eq_true,Bool.not_eq_true',decide_eq_true_eq,decide_eq_false_iff_not,Bool.false_eq_true,reduceCtorEq,Bool.true_and,Bool.and_true,Bool.false_and,Bool.and_false,iff_true,true_iff,Bool.not_true,Bool.not_false]at *;constructor<;>intro q<;>first|omega|(exact q.elim)|(exact absurd q (by omega)));done)|skip
theorem uu0 (lo hi n:Int):ua0 Tryz.prog 71 [(.agg [(iv fun _=>lo),(iv fun _=>hi)]),(iv fun _=>n)] [] (fun r _=>r=(bv fun _=>inB lo n hi)):=by
 have c43:= @ucY
 refine ua0.is fun R hR=>qW (sc:=uAG) uan mix Tryz.func71 rfl Tryz.call71 (by kernel_rfl) (by kernel_rfl) ?_
 generalize Tryz.prog=P at c43⊢
 cbv
 repeat' (first|(refine qP ?_ (c43 _ _ _) (by(repeat' (first|exact qB|refine qD ?_ ?_|exact qE (by rfl)|exact qF (by rfl)|exact Fit.refl _|exact qA|refine qC ?_ rfl ?_)));try cbv)|fail)
 all_goals first|(subst hR;(repeat' (first|exact qA|exact qB|refine qC ?_ rfl ?_|refine qD ?_ ?_|exact qE (by rfl)|exact qF (by rfl)|exact Fit.refl _|exact qG _|(refine qE ?_;(try simp only [qV]at *);simp only [zQ,zA,zB,zC,zD,zE,zF,zG,zH,zI,zJ,zK,zL,zM,zN,zO,zP,zR,zS]at *;omega)));done)|skip
theorem uA4 (a b lo hi:Int):ua0 Tryz.prog 111 [(.agg [(iv fun _=>a),(iv fun _=>b)]),(iv fun _=>lo),(iv fun _=>hi)] [] (fun r _=>r=(bv fun _=>ofB lo a b hi)):=by
 refine ua0.is fun R hR=>qW (sc:=uz4) uan mix Tryz.func111 rfl Tryz.call111 (by kernel_rfl) (by kernel_rfl) ?_
 generalize Tryz.prog=P
 cbv
 repeat' (first|with_reducible refine And.intro ?_ ?_|(with_reducible intro hcd;(try simp only [zA,zB,zC,zD,zE,zF,zG,zH,zI,zJ,zK,zL,zM,zN,zO,zP]at hcd);try cbv)|fail)
 all_goals first|(subst hR;(refine qF ?_;(try simp only [qV]at *);(try simp only [zQ,zA,zB,zC,zD,zE,zF,zG,zH,zI,zJ,zK,zL,zM,zN,zO,zP,zR,zS]at *);apply Bool.eq_iff_iff.2;simp only [uaj,uau,uaP,ub4,ub2,ub5,uae,uaf,uad,uag,Bool.and_eq_true,Bool.or_eq_true,Bool.not_eq_true',decide_eq_true_eq,decide_eq_false_iff_not,Bool.false_eq_true,reduceCtorEq,Bool.true_and,Bool.and_true,Bool.false_and,Bool.and_false,iff_true,true_iff,Bool.not_true,Bool.not_false]at *;constructor<;>intro q<;>first|omega|(exact q.elim)|(exact absurd q (by omega)));done)|skip
theorem uA5 (a b:Int)(l:List Int)(h:1≤l.length∧l.length≤1000):ua0 Tryz.prog 112 [(.agg [(iv fun _=>a),(iv fun _=>b)]),(iS l)] [] (fun r _=>r=(bv fun _=>ofB (l.getD 0 0) a b (l.getD (l.length-1) 0))):=by
 have c80:= @uA4
 refine ua0.is fun R hR=>qW (sc:=uye) uan mix Tryz.func112 rfl Tryz.call112 (by kernel_rfl) (by kernel_rfl) ?_
 generalize Tryz.prog=P at c80⊢
 cbv
 repeat' (first|with_reducible refine ua4 ?_ ?_|(refine qP ?_ (c80 _ _ _ _) (by(repeat' (first|exact qB|refine qD ?_ ?_|exact qE (by rfl)|exact qF (by rfl)|exact Fit.refl _|exact qA|refine qC ?_ rfl ?_)));try cbv)|fail)
 all_goals first|((try simp only [qV]at *);(try simp only [zQ,zA,zB,zC,zD,zE,zF,zG,zH,zI,zJ,zK,zL,zM,zN,zO,zP,zR,zS,uaj,uau,uaP,ub4,ub2,ub5,uae,uaf,uad,uag]at *);first|(refine qN ?_;omega)|(simp only [uaq];omega))|(subst hR;(refine qF ?_;simp only [zQ,zA,zB,zC,zD,zE,zF,zG,zH,zI,zJ,zK,zL,zM,zN,zO,zP,zR,zS];congr 2;omega);done)|skip
theorem uit (d:Dsp)(n:Int)(h:1≤d.sn∧d.sn≤1000):ua0 Tryz.prog 61 [(ubh d),(iv fun _=>n)] [] (fun r _=>r=(bv fun _=>inB 0 n (d.sn-1))):=by
 have c43:= @ucY
 refine ua0.is fun R hR=>qW (sc:=uBE) uan mix Tryz.func61 rfl Tryz.call61 (by kernel_rfl) (by kernel_rfl) ?_
 generalize Tryz.prog=P at c43⊢
 cbv
 repeat' (first|with_reducible refine ua4 ?_ ?_|(refine qP ?_ (c43 _ _ _) (by(repeat' (first|exact qB|refine qD ?_ ?_|exact qE (by rfl)|exact qF (by rfl)|exact Fit.refl _|exact qA|refine qC ?_ rfl ?_)));try cbv)|fail)
 all_goals first|((try simp only [qV]at *);(try simp only [zQ,zA,zB,zC,zD,zE,zF,zG,zH,zI,zJ,zK,zL,zM,zN,zO,zP,zR,zS,uaj,uau,uaP,ub4,ub2,ub5,uae,uaf,uad,uag]at *);first|(refine qN ?_;omega)|(simp only [uaq];omega))|(subst hR;(repeat' (first|exact qA|exact qB|refine qC ?_ rfl ?_|refine qD ?_ ?_|exact qE (by rfl)|exact qF (by rfl)|exact Fit.refl _|exact qG _|(refine qE ?_;(try simp only [qV]at *);simp only [zQ,zA,zB,zC,zD,zE,zF,zG,zH,zI,zJ,zK,zL,zM,zN,zO,zP,zR,zS]at *;omega)));done)|skip
theorem uxF (d:Dsp)(x:LkT)(h:1≤d.sn∧d.sn≤1000):ua0 Tryz.prog 94 [(ubh d),(.agg [(iv fun _=>x.a),(iv fun _=>x.b),(iv fun _=>x.lo),(iv fun _=>x.hi)])] [] (fun r _=>r=(bv fun _=>uf4 d.sn x)):=by
 have c66:=fun (n:Int)=>uit d n h
 have c80:= @uA4
 refine ua0.is fun R hR=>qW (sc:=uB8) uan mix Tryz.func94 rfl Tryz.call94 (by kernel_rfl) (by kernel_rfl) ?_
 generalize Tryz.prog=P at c66 c80⊢
 cbv
 repeat' (first|with_reducible refine And.intro ?_ ?_|(with_reducible intro hcd;(try simp only [zA,zB,zC,zD,zE,zF,zG,zH,zI,zJ,zK,zL,zM,zN,zO,zP]at hcd);try cbv)|(refine qP ?_ (c66 _) (by(repeat' (first|exact qB|refine qD ?_ ?_|exact qE (by rfl)|exact qF (by rfl)|exact Fit.refl _|exact qA|refine qC ?_ rfl ?_)));try cbv)|(refine qP ?_ (c80 _ _ _ _) (by(repeat' (first|exact qB|refine qD ?_ ?_|exact qE (by rfl)|exact qF (by rfl)|exact Fit.refl _|exact qA|refine qC ?_ rfl ?_)));try cbv)|fail)
 all_goals first|(subst hR;(refine qF ?_;(try simp only [qV]at *);(try simp only [zQ,zA,zB,zC,zD,zE,zF,zG,zH,zI,zJ,zK,zL,zM,zN,zO,zP,zR,zS]at *);apply Bool.eq_iff_iff.2;simp only [uf4,uaj,uau,uaP,ub4,ub2,ub5,uae,uaf,uad,uag,Bool.and_eq_true,Bool.or_eq_true,Bool.not_eq_true',decide_eq_true_eq,decide_eq_false_iff_not,Bool.false_eq_true,reduceCtorEq,Bool.true_and,Bool.and_true,Bool.false_and,Bool.and_false,iff_true,true_iff,Bool.not_true,Bool.not_false]at *;simp only [ucI]at *;constructor<;>intro q<;>first|omega|(exact q.elim)|(exact absurd q (by omega)));done)|skip
theorem uxD (d:Dsp)(f:FaT)(h:1≤d.sn∧d.sn≤1000∧1≤d.pn∧d.pn≤1000)(hw:1≤d.tw.length∧d.tw.length≤1000)(hm:1≤d.tm.length∧d.tm.length≤1000):ua0 Tryz.prog 95 [(ubh d),(.agg [(iv fun _=>f.p),(iv fun _=>f.s),(iv fun _=>f.wl),(iv fun _=>f.wh),(iv fun _=>f.ml),(iv fun _=>f.mh)])] [] (fun r _=>r=(bv fun _=>ueE d f)):=by
 have c66:=fun (n:Int)=>uit d n ⟨h.1,h.2.1⟩
 have c43:= @ucY
 have c81w:=fun (a b:Int)=>uA5 a b d.tw hw
 have c81m:=fun (a b:Int)=>uA5 a b d.tm hm
 refine ua0.is fun R hR=>qW (sc:=uBa) uan mix Tryz.func95 rfl Tryz.call95 (by kernel_rfl) (by kernel_rfl) ?_
 generalize Tryz.prog=P at c66 c43 c81w c81m⊢
 cbv
 repeat' (first|with_reducible refine ua4 ?_ ?_|with_reducible refine And.intro ?_ ?_|(with_reducible intro hcd;(try simp only [zA,zB,zC,zD,zE,zF,zG,zH,zI,zJ,zK,zL,zM,zN,zO,zP]at hcd);try cbv)|(refine qP ?_ (c66 _) (by(repeat' (first|exact qB|refine qD ?_ ?_|exact qE (by rfl)|exact qF (by rfl)|exact Fit.refl _|exact qA|refine qC ?_ rfl ?_)));try cbv)|(refine qP ?_ (c43 _ _ _) (by(repeat' (first|exact qB|refine qD ?_ ?_|exact qE (by rfl)|exact qF (by rfl)|exact Fit.refl _|exact qA|refine qC ?_ rfl ?_)));try cbv)|(refine qP ?_ (c81w f.wl f.wh) ?hfit;(case hfit=>((repeat' (first|exact qB|refine qD ?_ ?_|exact qE (by rfl)|exact qF (by rfl)|exact Fit.refl _|exact qA|refine qC ?_ rfl ?_));done));try cbv)|(refine qP ?_ (c81m f.ml f.mh) ?hfit;(case hfit=>((repeat' (first|exact qB|refine qD ?_ ?_|exact qE (by rfl)|exact qF (by rfl)|exact Fit.refl _|exact qA|refine qC ?_ rfl ?_));done));try cbv)|fail)
 all_goals first|((try simp only [qV]at *);(try simp only [zQ,zA,zB,zC,zD,zE,zF,zG,zH,zI,zJ,zK,zL,zM,zN,zO,zP,zR,zS,uaj,uau,uaP,ub4,ub2,ub5,uae,uaf,uad,uag]at *);first|(refine qN ?_;omega)|(simp only [uaq];omega))|(subst hR;(refine qF ?_;(try simp only [qV]at *);(try simp only [zQ,zA,zB,zC,zD,zE,zF,zG,zH,zI,zJ,zK,zL,zM,zN,zO,zP,zR,zS]at *);apply Bool.eq_iff_iff.2;simp only [ueE,uaj,uau,uaP,ub4,ub2,ub5,uae,uaf,uad,uag,Bool.and_eq_true,Bool.or_eq_true,Bool.not_eq_true',decide_eq_true_eq,decide_eq_false_iff_not,Bool.false_eq_true,reduceCtorEq,Bool.true_and,Bool.and_true,Bool.false_and,Bool.and_false,iff_true,true_iff,Bool.not_true,Bool.not_false]at *;simp only [uc8]at *;constructor<;>intro q<;>first|omega|(exact q.elim)|(exact absurd q (by omega)));done)|skip
end Go.Proofs.YtkdggbfknlcdaaaGreat

namespace Go.Proofs.YtkdggbfknlcdaaaGreat
open Go Go.Eng Go.Proofs
set_option maxRecDepth 10000
theorem unB (d:Dsp)(h1:1≤d.sn∧d.sn≤1000)(hfew:d.ls.length≤1000)(i:Nat)(hi:i<d.ls.length∧∀j,j<i→(uf4 d.sn (d.ls.getD (j) l0T))=true):ua0 Tryz.prog 101 [(.agg [(iv fun _=>(d.ls.getD (i) l0T).a),(iv fun _=>(d.ls.getD (i) l0T).b),(iv fun _=>(d.ls.getD (i) l0T).lo),(iv fun _=>(d.ls.getD (i) l0T).hi)]),.own 0 0] [.cells [.clo 94 [(ubh d)] []] 133] (fun r bs=>r=(bv fun _=> !(uf4 d.sn (d.ls.getD (i) l0T)))∧bs=[.cells [.clo 94 [(ubh d)] []] 133]):=by
 have cf:=uxF d (d.ls.getD i l0T) h1
 refine ua0.isB rfl fun R B hR hB=>qW (sc:=uxt) uan mix Tryz.func101 rfl Tryz.call101 (by kernel_rfl) (by kernel_rfl) ?_
 generalize Tryz.prog=P at cf⊢
 cbv
 repeat' (first|with_reducible refine And.intro ?_ ?_|(refine qP ?_ (cf) ?hfit;(case hfit=>((repeat' (first|exact qB|refine qD ?_ ?_|exact qE (by rfl)|exact qF (by rfl)|exact Fit.refl _|exact qA|refine qC ?_ rfl ?_));done));try cbv)|fail)
 all_goals first|(subst hR;(repeat' (first|exact qA|exact qB|refine qC ?_ rfl ?_|refine qD ?_ ?_|exact qE (by rfl)|exact qF (by rfl)|exact Fit.refl _|exact qG _|(refine qE ?_;(try simp only [qV]at *);simp only [zQ,zA,zB,zC,zD,zE,zF,zG,zH,zI,zJ,zK,zL,zM,zN,zO,zP,zR,zS]at *;omega)));done)|(subst hB;(repeat' (first|exact qH|refine qI ?_ ?_|exact qK _|refine qJ ?_|exact qA|exact qE (by rfl)|exact qF (by rfl)|exact Fit.refl _|exact qG _|refine qC ?_ rfl ?_));done)|skip
theorem ul7 (d:Dsp)(h1:1≤d.sn∧d.sn≤1000)(hfew:d.ls.length≤1000):ua0 Tryz.prog 115 [(.sl 4 (.sym fun _=>zi (d.ls).length) (fun ix=>[(iv fun _=>((d.ls).getD ix.den.toNat l0T).a),(iv fun _=>((d.ls).getD ix.den.toNat l0T).b),(iv fun _=>((d.ls).getD ix.den.toNat l0T).lo),(iv fun _=>((d.ls).getD ix.den.toNat l0T).hi)])),.clo 101 [] [.own 0 0]] [.cells [.clo 94 [(ubh d)] []] 133] (fun r bs=>r=(iv fun _=>ubJ (fun i=>uf4 d.sn (d.ls.getD (i) l0T)) (d.ls.length) 0)∧bs=[.cells [.clo 94 [(ubh d)] []] 133]):=by
 have cl:=unB d h1 hfew
 refine ua0.isB rfl fun R B hR hB=>qW (sc:=uxi) uan mix Tryz.func115 rfl Tryz.call115 (by kernel_rfl) (by kernel_rfl) ?_
 generalize Tryz.prog=P at cl⊢
 cbv
 repeat' (first|fail)
 all_goals first|skip
 refine⟨none,[],{i:Nat // i≤d.ls.length∧ubJ (fun i=>uf4 d.sn (d.ls.getD (i) l0T)) (d.ls.length) 0=ubJ (fun i=>uf4 d.sn (d.ls.getD (i) l0T)) (d.ls.length-i) i∧∀j,j<i→(uf4 d.sn (d.ls.getD (j) l0T))=true},fun x=>⟨[(0,(.sl 4 (.sym fun _=>zi (d.ls).length) (fun ix=>[(iv fun _=>((d.ls).getD ix.den.toNat l0T).a),(iv fun _=>((d.ls).getD ix.den.toNat l0T).b),(iv fun _=>((d.ls).getD ix.den.toNat l0T).lo),(iv fun _=>((d.ls).getD ix.den.toNat l0T).hi)]))),(1,.clo 101 [] [.own 0 0]),(7,(iv fun _=>zi (d.ls.length))),(8,(iv fun _=>zi x.1))],[(0,.cells [.clo 94 [(ubh d)] []] 133)],20⟩,fun x=>d.ls.length-x.1,?_,?_⟩
 ·refine⟨⟨0,by omega,rfl,fun j hj=>by omega⟩,?_⟩
  cbv
  repeat' (first|with_reducible refine ua4 ?_ ?_|with_reducible refine And.intro ?_ ?_)
  all_goals first|trivial|exact qM (qE (by rfl))|exact qM (Fit.refl _)|exact qL (qK _)|skip
 ·rintro ⟨i,hi,hr,hq⟩
  cbv
  repeat' (first
   |with_reducible refine ua4 ?_ ?_
   |with_reducible refine And.intro ?_ ?_
   |(with_reducible intro hcd;(try simp only [zA,zB,zC,zD,zE,zF,zG,zH,zI,zJ,zK,zL,zM,zN,zO,zP]at hcd);try cbv)
   | (refine⟨some [0],?_⟩
      cbv
      refine qQ ?_ (cl i ⟨by(try simp only [qV]at *);simp only [uaa]at *;omega,hq⟩) (by cbv;(repeat' (first|exact qB|refine qD ?_ ?_|exact qE (by rfl)|exact qF (by rfl)|exact Fit.refl _|exact qA|refine qC ?_ rfl ?_))) (by cbv;(repeat' (first|exact qH|refine qI ?_ ?_|exact qK _|refine qJ ?_|exact qA|exact qE (by rfl)|exact qF (by rfl)|exact Fit.refl _|exact qG _|refine qC ?_ rfl ?_)))
      try cbv)
   |fail)
  all_goals first|((try simp only [qV]at *);(try simp only [zQ,zA,zB,zC,zD,zE,zF,zG,zH,zI,zJ,zK,zL,zM,zN,zO,zP,zR,zS]at *);first|(refine qN ?_;omega)|(simp only [uaq];omega))|(subst hR;(refine qE ?_;simp only [zQ,zA,zB,zC,zD,zE,zF,zG,zH,zI,zJ,zK,zL,zM,zN,zO,zP,zR,zS]at *;rw [hr,ub9 (by omega) hcd]);done)|(subst hR;(refine qE ?_;simp only [zQ,zA,zB,zC,zD,zE,zF,zG,zH,zI,zJ,zK,zL,zM,zN,zO,zP,zR,zS]at *;rw [hr,show d.ls.length-i=0 by omega];rfl);done)|(subst hB;(repeat' (first|exact qH|refine qI ?_ ?_|exact qK _|refine qJ ?_|exact qA|exact qE (by rfl)|exact qF (by rfl)|exact Fit.refl _|exact qG _|refine qC ?_ rfl ?_));done)|((try simp only [zQ,zA,zB,zC,zD,zE,zF,zG,zH,zI,zJ,zK,zL,zM,zN,zO,zP,zR,zS]at *);refine⟨⟨i+1,by omega,by rw [hr,ucl (by omega) hcd];(try congr 1)<;>omega,fun j hj=>(Nat.lt_or_ge j i).elim (hq j) (fun q=>by rw [show j=i by omega];exact hcd)⟩,by simp only [];omega,?_⟩;cbv;(repeat' (first|with_reducible refine ua4 ?_ ?_|with_reducible refine And.intro ?_ ?_));(all_goals first|trivial|exact qM (qE (by rfl))|exact qM (qF (by rfl))|exact qM (Fit.refl _)|exact qL (qK _)|(refine qM (qE ?_);(try simp only [qV]at *);simp only [zQ,zA,zB,zC,zD,zE,zF,zG,zH,zI,zJ,zK,zL,zM,zN,zO,zP,zR,zS]at *;omega)|(refine qL (qJ ?_);(repeat' (first|exact qA|exact qB|refine qC ?_ rfl ?_|refine qD ?_ ?_|exact qE (by rfl)|exact qF (by rfl)|exact Fit.refl _|exact qG _|(refine qE ?_;(try simp only [qV]at *);simp only [zQ,zA,zB,zC,zD,zE,zF,zG,zH,zI,zJ,zK,zL,zM,zN,zO,zP,zR,zS]at *;omega)));done)|skip))|skip
theorem ulc (d:Dsp)(h1:1≤d.sn∧d.sn≤1000)(hfew:d.ls.length≤1000):ua0 Tryz.prog 100 [(.sl 4 (.sym fun _=>zi (d.ls).length) (fun ix=>[(iv fun _=>((d.ls).getD ix.den.toNat l0T).a),(iv fun _=>((d.ls).getD ix.den.toNat l0T).b),(iv fun _=>((d.ls).getD ix.den.toNat l0T).lo),(iv fun _=>((d.ls).getD ix.den.toNat l0T).hi)])),.clo 101 [] [.own 0 0]] [.cells [.clo 94 [(ubh d)] []] 133] (fun r bs=>r=(bv fun _=>decide (0≤ubJ (fun i=>uf4 d.sn (d.ls.getD (i) l0T)) (d.ls.length) 0))∧bs=[.cells [.clo 94 [(ubh d)] []] 133]):=by
 have ci:=ul7 d h1 hfew
 refine ua0.isB rfl fun R B hR hB=>qW (sc:=uwB) uan mix Tryz.func100 rfl Tryz.call100 (by kernel_rfl) (by kernel_rfl) ?_
 generalize Tryz.prog=P at ci⊢
 cbv
 repeat' (first
  |with_reducible refine And.intro ?_ ?_
  | (refine⟨some [0],?_⟩
     cbv
     refine qQ ?_ (ci) (by cbv;(repeat' (first|exact qB|refine qD ?_ ?_|exact qE (by rfl)|exact qF (by rfl)|exact Fit.refl _|exact qA|refine qC ?_ rfl ?_))) (by cbv;(repeat' (first|exact qH|refine qI ?_ ?_|exact qK _|refine qJ ?_|exact qA|exact qE (by rfl)|exact qF (by rfl)|exact Fit.refl _|exact qG _|refine qC ?_ rfl ?_)))
     try cbv)
  |fail)
 all_goals first|(subst hR;(repeat' (first|exact qA|exact qB|refine qC ?_ rfl ?_|refine qD ?_ ?_|exact qE (by rfl)|exact qF (by rfl)|exact Fit.refl _|exact qG _|(refine qE ?_;(try simp only [qV]at *);simp only [zQ,zA,zB,zC,zD,zE,zF,zG,zH,zI,zJ,zK,zL,zM,zN,zO,zP,zR,zS]at *;omega)));done)|(subst hB;(repeat' (first|exact qH|refine qI ?_ ?_|exact qK _|refine qJ ?_|exact qA|exact qE (by rfl)|exact qF (by rfl)|exact Fit.refl _|exact qG _|refine qC ?_ rfl ?_));done)|skip
theorem unv (d:Dsp)(h1:1≤d.sn∧d.sn≤1000)(hfew:d.ls.length≤1000):ua0 Tryz.prog 72 [(.sl 4 (.sym fun _=>zi (d.ls).length) (fun ix=>[(iv fun _=>((d.ls).getD ix.den.toNat l0T).a),(iv fun _=>((d.ls).getD ix.den.toNat l0T).b),(iv fun _=>((d.ls).getD ix.den.toNat l0T).lo),(iv fun _=>((d.ls).getD ix.den.toNat l0T).hi)])),.clo 94 [(ubh d)] []] [] (fun r _=>r=(bv fun _=>uh2 (fun i=>uf4 d.sn (d.ls.getD (i) l0T)) (d.ls.length))):=by
 have cc:=ulc d h1 hfew
 refine ua0.is fun R hR=>qW (sc:=uA8) uan mix Tryz.func72 rfl Tryz.call72 (by kernel_rfl) (by kernel_rfl) ?_
 generalize Tryz.prog=P at cc⊢
 cbv
 repeat' (first
  | (refine⟨some [0],?_⟩
     cbv
     refine qQ ?_ (cc) (by cbv;(repeat' (first|exact qB|refine qD ?_ ?_|exact qE (by rfl)|exact qF (by rfl)|exact Fit.refl _|exact qA|refine qC ?_ rfl ?_))) (by cbv;(repeat' (first|exact qH|refine qI ?_ ?_|exact qK _|refine qJ ?_|exact qA|exact qE (by rfl)|exact qF (by rfl)|exact Fit.refl _|exact qG _|refine qC ?_ rfl ?_)))
     try cbv)
  |fail)
 all_goals first|(subst hR;(repeat' (first|exact qA|exact qB|refine qC ?_ rfl ?_|refine qD ?_ ?_|exact qE (by rfl)|exact qF (by rfl)|exact Fit.refl _|exact qG _|(refine qE ?_;(try simp only [qV]at *);simp only [zQ,zA,zB,zC,zD,zE,zF,zG,zH,zI,zJ,zK,zL,zM,zN,zO,zP,zR,zS]at *;omega)));done)|skip
theorem unk (d:Dsp)(h1:1≤d.sn∧d.sn≤1000∧1≤d.pn∧d.pn≤1000)(hw:1≤d.tw.length∧d.tw.length≤1000)(hm:1≤d.tm.length∧d.tm.length≤1000)(hfew:d.fs.length≤1000)(i:Nat)(hi:i<d.fs.length∧∀j,j<i→(ueE d (d.fs.getD (j) f0T))=true):ua0 Tryz.prog 103 [(.agg [(iv fun _=>(d.fs.getD (i) f0T).p),(iv fun _=>(d.fs.getD (i) f0T).s),(iv fun _=>(d.fs.getD (i) f0T).wl),(iv fun _=>(d.fs.getD (i) f0T).wh),(iv fun _=>(d.fs.getD (i) f0T).ml),(iv fun _=>(d.fs.getD (i) f0T).mh)]),.own 0 0] [.cells [.clo 95 [(ubh d)] []] 136] (fun r bs=>r=(bv fun _=> !(ueE d (d.fs.getD (i) f0T)))∧bs=[.cells [.clo 95 [(ubh d)] []] 136]):=by
 have cf:=uxD d (d.fs.getD i f0T) h1 hw hm
 refine ua0.isB rfl fun R B hR hB=>qW (sc:=uwr) uan mix Tryz.func103 rfl Tryz.call103 (by kernel_rfl) (by kernel_rfl) ?_
 generalize Tryz.prog=P at cf⊢
 cbv
 repeat' (first|with_reducible refine And.intro ?_ ?_|(refine qP ?_ (cf) ?hfit;(case hfit=>((repeat' (first|exact qB|refine qD ?_ ?_|exact qE (by rfl)|exact qF (by rfl)|exact Fit.refl _|exact qA|refine qC ?_ rfl ?_));done));try cbv)|fail)
 all_goals first|(subst hR;(repeat' (first|exact qA|exact qB|refine qC ?_ rfl ?_|refine qD ?_ ?_|exact qE (by rfl)|exact qF (by rfl)|exact Fit.refl _|exact qG _|(refine qE ?_;(try simp only [qV]at *);simp only [zQ,zA,zB,zC,zD,zE,zF,zG,zH,zI,zJ,zK,zL,zM,zN,zO,zP,zR,zS]at *;omega)));done)|(subst hB;(repeat' (first|exact qH|refine qI ?_ ?_|exact qK _|refine qJ ?_|exact qA|exact qE (by rfl)|exact qF (by rfl)|exact Fit.refl _|exact qG _|refine qC ?_ rfl ?_));done)|skip
theorem ulA (d:Dsp)(h1:1≤d.sn∧d.sn≤1000∧1≤d.pn∧d.pn≤1000)(hw:1≤d.tw.length∧d.tw.length≤1000)(hm:1≤d.tm.length∧d.tm.length≤1000)(hfew:d.fs.length≤1000):ua0 Tryz.prog 116 [(.sl 6 (.sym fun _=>zi (d.fs).length) (fun ix=>[(iv fun _=>((d.fs).getD ix.den.toNat f0T).p),(iv fun _=>((d.fs).getD ix.den.toNat f0T).s),(iv fun _=>((d.fs).getD ix.den.toNat f0T).wl),(iv fun _=>((d.fs).getD ix.den.toNat f0T).wh),(iv fun _=>((d.fs).getD ix.den.toNat f0T).ml),(iv fun _=>((d.fs).getD ix.den.toNat f0T).mh)])),.clo 103 [] [.own 0 0]] [.cells [.clo 95 [(ubh d)] []] 136] (fun r bs=>r=(iv fun _=>ubJ (fun i=>ueE d (d.fs.getD (i) f0T)) (d.fs.length) 0)∧bs=[.cells [.clo 95 [(ubh d)] []] 136]):=by
 have cl:=unk d h1 hw hm hfew
 refine ua0.isB rfl fun R B hR hB=>qW (sc:=uwQ) uan mix Tryz.func116 rfl Tryz.call116 (by kernel_rfl) (by kernel_rfl) ?_
 generalize Tryz.prog=P at cl⊢
 cbv
 repeat' (first|fail)
 all_goals first|skip
 refine⟨none,[],{i:Nat // i≤d.fs.length∧ubJ (fun i=>ueE d (d.fs.getD (i) f0T)) (d.fs.length) 0=ubJ (fun i=>ueE d (d.fs.getD (i) f0T)) (d.fs.length-i) i∧∀j,j<i→(ueE d (d.fs.getD (j) f0T))=true},fun x=>⟨[(0,(.sl 6 (.sym fun _=>zi (d.fs).length) (fun ix=>[(iv fun _=>((d.fs).getD ix.den.toNat f0T).p),(iv fun _=>((d.fs).getD ix.den.toNat f0T).s),(iv fun _=>((d.fs).getD ix.den.toNat f0T).wl),(iv fun _=>((d.fs).getD ix.den.toNat f0T).wh),(iv fun _=>((d.fs).getD ix.den.toNat f0T).ml),(iv fun _=>((d.fs).getD ix.den.toNat f0T).mh)]))),(1,.clo 103 [] [.own 0 0]),(7,(iv fun _=>zi (d.fs.length))),(8,(iv fun _=>zi x.1))],[(0,.cells [.clo 95 [(ubh d)] []] 136)],20⟩,fun x=>d.fs.length-x.1,?_,?_⟩
 ·refine⟨⟨0,by omega,rfl,fun j hj=>by omega⟩,?_⟩
  cbv
  repeat' (first|with_reducible refine ua4 ?_ ?_|with_reducible refine And.intro ?_ ?_)
  all_goals first|trivial|exact qM (qE (by rfl))|exact qM (Fit.refl _)|exact qL (qK _)|skip
 ·rintro ⟨i,hi,hr,hq⟩
  cbv
  repeat' (first
   |with_reducible refine ua4 ?_ ?_
   |with_reducible refine And.intro ?_ ?_
   |(with_reducible intro hcd;(try simp only [zA,zB,zC,zD,zE,zF,zG,zH,zI,zJ,zK,zL,zM,zN,zO,zP]at hcd);try cbv)
   | (refine⟨some [0],?_⟩
      cbv
      refine qQ ?_ (cl i ⟨by(try simp only [qV]at *);simp only [uaa]at *;omega,hq⟩) (by cbv;(repeat' (first|exact qB|refine qD ?_ ?_|exact qE (by rfl)|exact qF (by rfl)|exact Fit.refl _|exact qA|refine qC ?_ rfl ?_))) (by cbv;(repeat' (first|exact qH|refine qI ?_ ?_|exact qK _|refine qJ ?_|exact qA|exact qE (by rfl)|exact qF (by rfl)|exact Fit.refl _|exact qG _|refine qC ?_ rfl ?_)))
      try cbv)
   |fail)
  all_goals first|((try simp only [qV]at *);(try simp only [zQ,zA,zB,zC,zD,zE,zF,zG,zH,zI,zJ,zK,zL,zM,zN,zO,zP,zR,zS]at *);first|(refine qN ?_;omega)|(simp only [uaq];omega))|(subst hR;(refine qE ?_;simp only [zQ,zA,zB,zC,zD,zE,zF,zG,zH,zI,zJ,zK,zL,zM,zN,zO,zP,zR,zS]at *;rw [hr,ub9 (by omega) hcd]);done)|(subst hR;(refine qE ?_;simp only [zQ,zA,zB,zC,zD,zE,zF,zG,zH,zI,zJ,zK,zL,zM,zN,zO,zP,zR,zS]at *;rw [hr,show d.fs.length-i=0 by omega];rfl);done)|(subst hB;(repeat' (first|exact qH|refine qI ?_ ?_|exact qK _|refine qJ ?_|exact qA|exact qE (by rfl)|exact qF (by rfl)|exact Fit.refl _|exact qG _|refine qC ?_ rfl ?_));done)|((try simp only [zQ,zA,zB,zC,zD,zE,zF,zG,zH,zI,zJ,zK,zL,zM,zN,zO,zP,zR,zS]at *);refine⟨⟨i+1,by omega,by rw [hr,ucl (by omega) hcd];(try congr 1)<;>omega,fun j hj=>(Nat.lt_or_ge j i).elim (hq j) (fun q=>by rw [show j=i by omega];exact hcd)⟩,by simp only [];omega,?_⟩;cbv;(repeat' (first|with_reducible refine ua4 ?_ ?_|with_reducible refine And.intro ?_ ?_));(all_goals first|trivial|exact qM (qE (by rfl))|exact qM (qF (by rfl))|exact qM (Fit.refl _)|exact qL (qK _)|(refine qM (qE ?_);(try simp only [qV]at *);simp only [zQ,zA,zB,zC,zD,zE,zF,zG,zH,zI,zJ,zK,zL,zM,zN,zO,zP,zR,zS]at *;omega)|(refine qL (qJ ?_);(repeat' (first|exact qA|exact qB|refine qC ?_ rfl ?_|refine qD ?_ ?_|exact qE (by rfl)|exact qF (by rfl)|exact Fit.refl _|exact qG _|(refine qE ?_;(try simp only [qV]at *);simp only [zQ,zA,zB,zC,zD,zE,zF,zG,zH,zI,zJ,zK,zL,zM,zN,zO,zP,zR,zS]at *;omega)));done)|skip))|skip
theorem ul1 (d:Dsp)(h1:1≤d.sn∧d.sn≤1000∧1≤d.pn∧d.pn≤1000)(hw:1≤d.tw.length∧d.tw.length≤1000)(hm:1≤d.tm.length∧d.tm.length≤1000)(hfew:d.fs.length≤1000):ua0 Tryz.prog 102 [(.sl 6 (.sym fun _=>zi (d.fs).length) (fun ix=>[(iv fun _=>((d.fs).getD ix.den.toNat f0T).p),(iv fun _=>((d.fs).getD ix.den.toNat f0T).s),(iv fun _=>((d.fs).getD ix.den.toNat f0T).wl),(iv fun _=>((d.fs).getD ix.den.toNat f0T).wh),(iv fun _=>((d.fs).getD ix.den.toNat f0T).ml),(iv fun _=>((d.fs).getD ix.den.toNat f0T).mh)])),.clo 103 [] [.own 0 0]] [.cells [.clo 95 [(ubh d)] []] 136] (fun r bs=>r=(bv fun _=>decide (0≤ubJ (fun i=>ueE d (d.fs.getD (i) f0T)) (d.fs.length) 0))∧bs=[.cells [.clo 95 [(ubh d)] []] 136]):=by
 have ci:=ulA d h1 hw hm hfew
 refine ua0.isB rfl fun R B hR hB=>qW (sc:=ux8) uan mix Tryz.func102 rfl Tryz.call102 (by kernel_rfl) (by kernel_rfl) ?_
 generalize Tryz.prog=P at ci⊢
 cbv
 repeat' (first
  |with_reducible refine And.intro ?_ ?_
  | (refine⟨some [0],?_⟩
     cbv
     refine qQ ?_ (ci) (by cbv;(repeat' (first|exact qB|refine qD ?_ ?_|exact qE (by rfl)|exact qF (by rfl)|exact Fit.refl _|exact qA|refine qC ?_ rfl ?_))) (by cbv;(repeat' (first|exact qH|refine qI ?_ ?_|exact qK _|refine qJ ?_|exact qA|exact qE (by rfl)|exact qF (by rfl)|exact Fit.refl _|exact qG _|refine qC ?_ rfl ?_)))
     try cbv)
  |fail)
 all_goals first|(subst hR;(repeat' (first|exact qA|exact qB|refine qC ?_ rfl ?_|refine qD ?_ ?_|exact qE (by rfl)|exact qF (by rfl)|exact Fit.refl _|exact qG _|(refine qE ?_;(try simp only [qV]at *);simp only [zQ,zA,zB,zC,zD,zE,zF,zG,zH,zI,zJ,zK,zL,zM,zN,zO,zP,zR,zS]at *;omega)));done)|(subst hB;(repeat' (first|exact qH|refine qI ?_ ?_|exact qK _|refine qJ ?_|exact qA|exact qE (by rfl)|exact qF (by rfl)|exact Fit.refl _|exact qG _|refine qC ?_ rfl ?_));done)|skip
theorem unO (d:Dsp)(h1:1≤d.sn∧d.sn≤1000∧1≤d.pn∧d.pn≤1000)(hw:1≤d.tw.length∧d.tw.length≤1000)(hm:1≤d.tm.length∧d.tm.length≤1000)(hfew:d.fs.length≤1000):ua0 Tryz.prog 74 [(.sl 6 (.sym fun _=>zi (d.fs).length) (fun ix=>[(iv fun _=>((d.fs).getD ix.den.toNat f0T).p),(iv fun _=>((d.fs).getD ix.den.toNat f0T).s),(iv fun _=>((d.fs).getD ix.den.toNat f0T).wl),(iv fun _=>((d.fs).getD ix.den.toNat f0T).wh),(iv fun _=>((d.fs).getD ix.den.toNat f0T).ml),(iv fun _=>((d.fs).getD ix.den.toNat f0T).mh)])),.clo 95 [(ubh d)] []] [] (fun r _=>r=(bv fun _=>uh2 (fun i=>ueE d (d.fs.getD (i) f0T)) (d.fs.length))):=by
 have cc:=ul1 d h1 hw hm hfew
 refine ua0.is fun R hR=>qW (sc:=uzP) uan mix Tryz.func74 rfl Tryz.call74 (by kernel_rfl) (by kernel_rfl) ?_
 generalize Tryz.prog=P at cc⊢
 cbv
 repeat' (first
  | (refine⟨some [0],?_⟩
     cbv
     refine qQ ?_ (cc) (by cbv;(repeat' (first|exact qB|refine qD ?_ ?_|exact qE (by rfl)|exact qF (by rfl)|exact Fit.refl _|exact qA|refine qC ?_ rfl ?_))) (by cbv;(repeat' (first|exact qH|refine qI ?_ ?_|exact qK _|refine qJ ?_|exact qA|exact qE (by rfl)|exact qF (by rfl)|exact Fit.refl _|exact qG _|refine qC ?_ rfl ?_)))
     try cbv)
  |fail)
 all_goals first|(subst hR;(repeat' (first|exact qA|exact qB|refine qC ?_ rfl ?_|refine qD ?_ ?_|exact qE (by rfl)|exact qF (by rfl)|exact Fit.refl _|exact qG _|(refine qE ?_;(try simp only [qV]at *);simp only [zQ,zA,zB,zC,zD,zE,zF,zG,zH,zI,zJ,zK,zL,zM,zN,zO,zP,zR,zS]at *;omega)));done)|skip
theorem ucM (d:Dsp):ua0 Tryz.prog 56 [(ubh d)] [] (fun r _=>r=(iv fun _=>ua7 d)):=by
 have c48:=uoB d.tw d.tm d.tv
 have cl:=fun h:(1≤d.sn∧d.sn≤1000)∧d.ls.length≤1000=>unv d h.1 h.2
 have cf:=fun h:((1≤d.sn∧d.sn≤1000∧1≤d.pn∧d.pn≤1000)∧ubM d.tw d.tm d.tv=0)∧d.fs.length≤1000=>unO d h.1.1 (by have:=udy h.1.2;have a:=this.w2;have b:=this.w5;omega) (by have:=udy h.1.2;have a:=this.m2;have b:=this.m5;omega) h.2
 refine ua0.is fun R hR=>qW (sc:=uBc) uan mix Tryz.func56 rfl Tryz.call56 (by kernel_rfl) (by kernel_rfl) ?_
 generalize Tryz.prog=P at c48 cl cf⊢
 cbv
 repeat' (first|with_reducible refine And.intro ?_ ?_|(with_reducible intro hcd;(try simp only [zA,zB,zC,zD,zE,zF,zG,zH,zI,zJ,zK,zL,zM,zN,zO,zP]at hcd);try cbv)|(refine qP ?_ (c48) ?hfit;(case hfit=>((repeat' (first|exact qB|refine qD ?_ ?_|exact qE (by rfl)|exact qF (by rfl)|exact Fit.refl _|exact qA|refine qC ?_ rfl ?_));done));try cbv)|(refine qP ?_ (cl (show uaq _ from ?_)) ?hfit;(case hfit=>((repeat' (first|exact qB|refine qD ?_ ?_|exact qE (by rfl)|exact qF (by rfl)|exact Fit.refl _|exact qA|refine qC ?_ rfl ?_));done));try cbv)|(refine qP ?_ (cf (show uaq _ from ?_)) ?hfit;(case hfit=>((repeat' (first|exact qB|refine qD ?_ ?_|exact qE (by rfl)|exact qF (by rfl)|exact Fit.refl _|exact qA|refine qC ?_ rfl ?_));done));try cbv)|fail)
 all_goals first|((try simp only [qV]at *);(try simp only [zQ,zA,zB,zC,zD,zE,zF,zG,zH,zI,zJ,zK,zL,zM,zN,zO,zP,zR,zS,uaj,uau,uaP,ub4,ub2,ub5,uae,uaf,uad,uag]at *);first|(refine qN ?_;omega)|(simp only [uaq];omega))|(subst hR;(refine qE ?_;(try simp only [qV]at *);(try simp only [zQ,zA,zB,zC,zD,zE,zF,zG,zH,zI,zJ,zK,zL,zM,zN,zO,zP,zR,zS]at *);exact(ugb (by first|assumption|omega)).symm);done)|(subst hR;(refine qE ?_;(try simp only [qV]at *);(try simp only [zQ,zA,zB,zC,zD,zE,zF,zG,zH,zI,zJ,zK,zL,zM,zN,zO,zP,zR,zS]at *);exact(ufp (by first|assumption|omega) (by unfold ueo;omega)).symm);done)|(subst hR;(refine qE ?_;(try simp only [qV]at *);(try simp only [zQ,zA,zB,zC,zD,zE,zF,zG,zH,zI,zJ,zK,zL,zM,zN,zO,zP,zR,zS]at *);exact(ueW (by first|assumption|omega) (by unfold ueo;omega) (fun g=>by have a1:=g.1;have a2:=g.2.1;have a3:=g.2.2.1;have a4:=g.2.2.2;first|omega|(simp_all;done))).symm);done)|(subst hR;(refine qE ?_;(try simp only [qV]at *);(try simp only [zQ,zA,zB,zC,zD,zE,zF,zG,zH,zI,zJ,zK,zL,zM,zN,zO,zP,zR,zS]at *);exact(ugH (by first|assumption|omega) (by unfold ueo;omega) ⟨by omega,by omega,by(first|assumption|(simp_all;done)),by(first|assumption|(simp_all;done))⟩).symm);done)|skip
end Go.Proofs.YtkdggbfknlcdaaaGreat

namespace Go.Proofs.YtkdggbfknlcdaaaGreat
open Go Go.Eng Go.Proofs
set_option maxRecDepth 10000
theorem uea :unw Tryz.prog 90 106 59:=by
 show Tryz.prog.underlying 90=some (.map 106 59)
 kernel_rfl
theorem uuT :ul4 Tryz.prog 106 false 6:=(uub (by kernel_rfl)).1
def kLo (d:Dsp)(ks:List Int):Int:=bLo d.tw d.tm d.tv (ks.getD 2 0) (ks.getD 3 0) (ks.getD 4 0) (ks.getD 5 0)
def kHi (d:Dsp)(ks:List Int):Int:=bHi d.tw d.tm d.tv (ks.getD 2 0) (ks.getD 3 0) (ks.getD 4 0) (ks.getD 5 0)
theorem udU (d:Dsp):ua0 Tryz.prog 62 [(ubh d)] [] (fun r _=>r=(.pp 0 [(iS d.tw),(iS d.tm),(.sl 1 (.sym fun _=>zi (d.tv).length) (fun ix=>[(.sl 1 (.sym fun _=>zi ((d.tv).getD ix.den.toNat []).length) (fun jx=>[(iv fun _=>((d.tv).getD ix.den.toNat []).getD jx.den.toNat 0)]))])),(iv fun _=>d.sn),(iv fun _=>d.pn),(.sl 4 (.sym fun _=>zi (d.ls).length) (fun ix=>[(iv fun _=>((d.ls).getD ix.den.toNat l0T).a),(iv fun _=>((d.ls).getD ix.den.toNat l0T).b),(iv fun _=>((d.ls).getD ix.den.toNat l0T).lo),(iv fun _=>((d.ls).getD ix.den.toNat l0T).hi)])),(.sl 6 (.sym fun _=>zi (d.fs).length) (fun ix=>[(iv fun _=>((d.fs).getD ix.den.toNat f0T).p),(iv fun _=>((d.fs).getD ix.den.toNat f0T).s),(iv fun _=>((d.fs).getD ix.den.toNat f0T).wl),(iv fun _=>((d.fs).getD ix.den.toNat f0T).wh),(iv fun _=>((d.fs).getD ix.den.toNat f0T).ml),(iv fun _=>((d.fs).getD ix.den.toNat f0T).mh)])),(.memo 106 59 false 6 (fun ks=>.agg [(iv fun _=>kLo d ks),(iv fun _=>kHi d ks)]))])):=by
 have hmt:=uea
 refine ua0.is fun R hR=>qW (sc:=uzY) uan mix Tryz.func62 rfl Tryz.call62 (by kernel_rfl) (by kernel_rfl) ?_
 generalize Tryz.prog=P at hmt⊢
 cbv
 repeat' (first
  | (refine⟨106,59,false,6,?_⟩
     cbv
     refine ua4 ⟨hmt,fun h=>by cases h⟩ ?_
     refine Or.inr ⟨(fun ks=>.agg [(iv fun _=>kLo d ks),(iv fun _=>kHi d ks)]),?_⟩
     cbv)
  |fail)
 all_goals first|(subst hR;(repeat' (first|exact qA|exact qB|refine qC ?_ rfl ?_|refine qD ?_ ?_|exact qE (by rfl)|exact qF (by rfl)|exact Fit.refl _|exact qG _|(refine qE ?_;(try simp only [qV]at *);simp only [zQ,zA,zB,zC,zD,zE,zF,zG,zH,zI,zJ,zK,zL,zM,zN,zO,zP,zR,zS]at *;omega)));done)|skip
theorem up4 (d:Dsp)(f:FaT)(hT:TOk d.tw d.tm d.tv)(hf:uc8 d f):ua0 Tryz.prog 76 [(.pp 0 [(iS d.tw),(iS d.tm),(.sl 1 (.sym fun _=>zi (d.tv).length) (fun ix=>[(.sl 1 (.sym fun _=>zi ((d.tv).getD ix.den.toNat []).length) (fun jx=>[(iv fun _=>((d.tv).getD ix.den.toNat []).getD jx.den.toNat 0)]))])),(iv fun _=>d.sn),(iv fun _=>d.pn),(.sl 4 (.sym fun _=>zi (d.ls).length) (fun ix=>[(iv fun _=>((d.ls).getD ix.den.toNat l0T).a),(iv fun _=>((d.ls).getD ix.den.toNat l0T).b),(iv fun _=>((d.ls).getD ix.den.toNat l0T).lo),(iv fun _=>((d.ls).getD ix.den.toNat l0T).hi)])),(.sl 6 (.sym fun _=>zi (d.fs).length) (fun ix=>[(iv fun _=>((d.fs).getD ix.den.toNat f0T).p),(iv fun _=>((d.fs).getD ix.den.toNat f0T).s),(iv fun _=>((d.fs).getD ix.den.toNat f0T).wl),(iv fun _=>((d.fs).getD ix.den.toNat f0T).wh),(iv fun _=>((d.fs).getD ix.den.toNat f0T).ml),(iv fun _=>((d.fs).getD ix.den.toNat f0T).mh)])),(.memo 106 59 false 6 (fun ks=>.agg [(iv fun _=>kLo d ks),(iv fun _=>kHi d ks)]))]),(.agg [(iv fun _=>f.p),(iv fun _=>f.s),(iv fun _=>f.wl),(iv fun _=>f.wh),(iv fun _=>f.ml),(iv fun _=>f.mh)])] [] (fun r _=>r=(.agg [(iv fun _=>mLo d f),(iv fun _=>mHi d f)])):=by
 have hmt:=uea
 have hko:=uuT
 have c73:=upy d.tw d.tm d.tv f.wl f.wh f.ml f.mh ⟨hT,uiw hf⟩
 refine ua0.is fun R hR=>qW (sc:=uAS) uan mix Tryz.func76 rfl Tryz.call76 (by kernel_rfl) (by kernel_rfl) ?_
 generalize Tryz.prog=P at hmt hko c73⊢
 cbv
 repeat' (first|with_reducible refine ua4 ?_ ?_|with_reducible refine And.intro ?_ ?_|(refine qP ?_ (c73) ?hfit;(case hfit=>((repeat' (first|exact qB|refine qD ?_ ?_|exact qE (by rfl)|exact qF (by rfl)|exact Fit.refl _|exact qA|refine qC ?_ rfl ?_));done));try cbv)|fail)
 all_goals first|trivial|(subst hR;(repeat' (first|exact qA|exact qB|refine qC ?_ rfl ?_|refine qD ?_ ?_|exact qE (by rfl)|exact qF (by rfl)|exact Fit.refl _|exact qG _|(refine qE ?_;(try simp only [qV]at *);simp only [zQ,zA,zB,zC,zD,zE,zF,zG,zH,zI,zJ,zK,zL,zM,zN,zO,zP,zR,zS]at *;omega)));done)|(unfold uaq;exact⟨rfl,rfl,hmt,hko,⟨rfl,rfl,trivial⟩,Fit.le (qC (qE rfl) rfl (qC (qE rfl) rfl qA))⟩)|skip
end Go.Proofs.YtkdggbfknlcdaaaGreat
namespace Go.Proofs.YtkdggbfknlcdaaaGreat
open Go Go.Eng Go.Proofs
abbrev wpS (d:Dsp):SV:=(.pp 0 [(iS d.tw),(iS d.tm),(.sl 1 (.sym fun _=>zi (d.tv).length) (fun ix=>[(.sl 1 (.sym fun _=>zi ((d.tv).getD ix.den.toNat []).length) (fun jx=>[(iv fun _=>((d.tv).getD ix.den.toNat []).getD jx.den.toNat 0)]))])),(iv fun _=>d.sn),(iv fun _=>d.pn),(.sl 4 (.sym fun _=>zi (d.ls).length) (fun ix=>[(iv fun _=>((d.ls).getD ix.den.toNat l0T).a),(iv fun _=>((d.ls).getD ix.den.toNat l0T).b),(iv fun _=>((d.ls).getD ix.den.toNat l0T).lo),(iv fun _=>((d.ls).getD ix.den.toNat l0T).hi)])),(.sl 6 (.sym fun _=>zi (d.fs).length) (fun ix=>[(iv fun _=>((d.fs).getD ix.den.toNat f0T).p),(iv fun _=>((d.fs).getD ix.den.toNat f0T).s),(iv fun _=>((d.fs).getD ix.den.toNat f0T).wl),(iv fun _=>((d.fs).getD ix.den.toNat f0T).wh),(iv fun _=>((d.fs).getD ix.den.toNat f0T).ml),(iv fun _=>((d.fs).getD ix.den.toNat f0T).mh)])),(.memo 106 59 false 6 (fun ks=>.agg [(iv fun _=>kLo d ks),(iv fun _=>kHi d ks)]))])
end Go.Proofs.YtkdggbfknlcdaaaGreat

namespace Go.Proofs.YtkdggbfknlcdaaaGreat
open Go Go.Eng Go.Proofs Go.Eng.Dif Go.Eng.Few
set_option maxRecDepth 10000
theorem uvw (o:List Int)(v:Int)(hfew:o.length≤1000):ua0 Tryz.prog 90 [(iS o),(iv fun _=>v)] [] (fun r _=>r=(iv fun _=>ubJ (fun j=> !(decide (o.getD j 0=v))) o.length 0)):=by
 refine ua0.is fun R hR=>qW (sc:=uAM) uan mix Tryz.func90 rfl Tryz.call90 (by kernel_rfl) (by kernel_rfl) ?_
 generalize Tryz.prog=P
 cbv
 repeat' (first|fail)
 all_goals first|skip
 refine⟨none,[],{i:Nat // i≤o.length∧ubJ (fun j=> !(decide (o.getD j 0=v))) o.length 0=ubJ (fun j=> !(decide (o.getD j 0=v))) (o.length-i) i},fun x=>⟨[(0,(iS o)),(1,(iv fun _=>v)),(7,(iv fun _=>zi o.length)),(8,(iv fun _=>zi x.1))],[],20⟩,fun x=>o.length-x.1,?_,?_⟩
 ·refine⟨⟨0,by omega,rfl⟩,?_⟩
  cbv
  repeat' (first|with_reducible refine ua4 ?_ ?_|with_reducible refine And.intro ?_ ?_)
  all_goals first|trivial|exact qM (qE (by rfl))|exact qM (Fit.refl _)|skip
 ·rintro⟨i,hi,hr⟩
  cbv
  repeat' (first|with_reducible refine ua4 ?_ ?_|with_reducible refine And.intro ?_ ?_|(with_reducible intro hcd;(try simp only [zA,zB,zC,zD,zE,zF,zG,zH,zI,zJ,zK,zL,zM,zN,zO,zP]at hcd);try cbv)|fail)
  all_goals first|((try simp only [qV]at *);(try simp only [zQ,zA,zB,zC,zD,zE,zF,zG,zH,zI,zJ,zK,zL,zM,zN,zO,zP,zR,zS]at *);first|(refine qN ?_;omega)|(simp only [uaq];omega))|(subst hR;(refine qE ?_;(try simp only [qV]at *);(try simp only [zQ,zA,zB,zC,zD,zE,zF,zG,zH,zI,zJ,zK,zL,zM,zN,zO,zP,zR,zS]at *);rw [hr,ub9 (by omega) (by simp only [Bool.not_eq_false',decide_eq_true_eq];omega)]);done)|(subst hR;(refine qE ?_;(try simp only [qV]at *);(try simp only [zQ,zA,zB,zC,zD,zE,zF,zG,zH,zI,zJ,zK,zL,zM,zN,zO,zP,zR,zS]at *);rw [hr,show o.length-i=0 by omega];rfl);done)|((try simp only [zQ,zA,zB,zC,zD,zE,zF,zG,zH,zI,zJ,zK,zL,zM,zN,zO,zP,zR,zS]at *);refine⟨⟨i+1,by omega,by rw [hr,ucl (by omega) (by simp only [Bool.not_eq_true',decide_eq_false_iff_not];omega)];(try congr 1)<;>omega⟩,by simp only [];omega,?_⟩;cbv;(repeat' (first|with_reducible refine ua4 ?_ ?_|with_reducible refine And.intro ?_ ?_));(all_goals first|trivial|exact qM (qE (by rfl))|exact qM (qF (by rfl))|exact qM (Fit.refl _)|exact qL (qK _)|(refine qM (qE ?_);(try simp only [qV]at *);simp only [zQ,zA,zB,zC,zD,zE,zF,zG,zH,zI,zJ,zK,zL,zM,zN,zO,zP,zR,zS]at *;omega)|skip))|skip
theorem ufh (o:List Int)(v:Int)(hfew:o.length≤1000):ua0 Tryz.prog 53 [(iS o),(iv fun _=>v)] [] (fun r _=>r=(bv fun _=>inL o v)):=by
 have c95:=uvw o v hfew
 refine ua0.is fun R hR=>qW (sc:=uAg) uan mix Tryz.func53 rfl Tryz.call53 (by kernel_rfl) (by kernel_rfl) ?_
 generalize Tryz.prog=P at c95⊢
 cbv
 repeat' (first|(refine qP ?_ (c95) ?hfit;(case hfit=>((repeat' (first|exact qB|refine qD ?_ ?_|exact qE (by rfl)|exact qF (by rfl)|exact Fit.refl _|exact qA|refine qC ?_ rfl ?_));done));try cbv)|fail)
 all_goals first|(subst hR;(repeat' (first|exact qA|exact qB|refine qC ?_ rfl ?_|refine qD ?_ ?_|exact qE (by rfl)|exact qF (by rfl)|exact Fit.refl _|exact qG _|(refine qE ?_;(try simp only [qV]at *);simp only [zQ,zA,zB,zC,zD,zE,zF,zG,zH,zI,zJ,zK,zL,zM,zN,zO,zP,zR,zS]at *;omega)));done)|skip
theorem unp (a b:Int):ua0 Tryz.prog 121 [(.sl 1 (.lit 2) (fun ix=>uck [(iv fun _=>a),(iv fun _=>b)] (0+ix.den.toNat*1) 1))] [] (fun r _=>r=(iv fun _=>min a b)):=by
 have c119:= @utI
 refine ua0.is fun R hR=>qW (sc:=uzc) uan mix Tryz.func121 rfl Tryz.call121 (by kernel_rfl) (by kernel_rfl) ?_
 generalize Tryz.prog=P at c119⊢
 cbv
 repeat' (first|(refine qP ?_ (c119 _ _) (by(repeat' (first|exact qB|refine qD ?_ ?_|exact qE (by rfl)|exact qF (by rfl)|exact Fit.refl _|exact qA|refine qC ?_ rfl ?_)));try cbv)|fail)
 all_goals first|(subst hR;(repeat' (first|exact qA|exact qB|refine qC ?_ rfl ?_|refine qD ?_ ?_|exact qE (by rfl)|exact qF (by rfl)|exact Fit.refl _|exact qG _|(refine qE ?_;(try simp only [qV]at *);simp only [zQ,zA,zB,zC,zD,zE,zF,zG,zH,zI,zJ,zK,zL,zM,zN,zO,zP,zR,zS]at *;omega)));done)|skip
theorem uqa (M:Nat→Int)(f t n:Int)(hf:0≤f∧f<4)(ht:0≤t∧t<4):ua0 Tryz.prog 105 [.own 0 0,(iv fun _=>f),(iv fun _=>t),(iv fun _=>n)] [.cells [(.arr 16 (fun ix=>(iv fun _=>M ix.den.toNat)))] 95] (fun r bs=>r = .tup []∧bs=[.cells [(.arr 16 (fun ix=>(iv fun _=>(lst M (at4 f.toNat t.toNat) n) ix.den.toNat)))] 95]):=by
 have c114:= @unp
 refine ua0.isB rfl fun R B hR hB=>qW (sc:=uyV) uan mix Tryz.func105 rfl Tryz.call105 (by kernel_rfl) (by kernel_rfl) ?_
 generalize Tryz.prog=P at c114⊢
 cbv
 repeat' (first
  |with_reducible refine ua4 ?_ ?_
  |with_reducible refine And.intro ?_ ?_
  | (refine⟨fun ix=>(iv fun _=>lst M (at4 f.toNat t.toNat) n ix.den.toNat),?_⟩
     cbv
     refine ua4 (ugP (by intro jx h0 h1 h2;refine qE ?_;(try simp only [qV]at *);(try simp only [zQ,zA,zB,zC,zD,zE,zF,zG,zH,zI,zJ,zK,zL,zM,zN,zO,zP,zR,zS]at *);exact uvD (M:=M) (by unfold at4;omega) (by unfold at4;omega)) (by intro jx h0 h1 h2;refine qE ?_;(try simp only [qV]at *);(try simp only [zQ,zA,zB,zC,zD,zE,zF,zG,zH,zI,zJ,zK,zL,zM,zN,zO,zP,zR,zS]at *);exact uvA (by unfold at4;omega))) ?_
     try cbv)
  | ((first|(refine qR ?_ (c114 _ _) rfl (by cbv;(repeat' (first|exact qB|refine qD ?_ ?_|exact qE (by rfl)|exact qF (by rfl)|exact Fit.refl _|exact qA|refine qC ?_ rfl ?_))))|(refine⟨none,?_⟩;refine qR ?_ (c114 _ _) rfl (by cbv;(repeat' (first|exact qB|refine qD ?_ ?_|exact qE (by rfl)|exact qF (by rfl)|exact Fit.refl _|exact qA|refine qC ?_ rfl ?_)))))
     try cbv)
  |fail)
 all_goals first|trivial|(subst hR;exact Fit.refl _;done)|(subst hB;(repeat' (first|exact qH|refine qI ?_ ?_|exact qK _|refine qJ ?_|exact qA|exact qE (by rfl)|exact qF (by rfl)|exact Fit.refl _|exact qG _|refine qC ?_ rfl ?_));done)|skip
theorem urp {M:Nat→Int}(hM:∀i,i<16→ -1000000≤M i∧M i≤1000000) {i:Nat}(hi:i<16):uaq (inR .i64 (utb (IX.lit 0).den (IX.sym fun _=>M i).den)):=by
 have:=hM i hi
 refine qN ?_
 simp only [zQ,zA,zB,zC,zD,zE,zF,zG,zH,zI,zJ,zK,zL,zM,zN,zO,zP,zR,zS]
 omega
theorem uxy {M:Nat→Int} {a b:Nat}(h:a=b):0-M a = -M b:=by subst h;exact Int.zero_sub _
theorem uyZ {M:Nat→Int} {a b:Nat}(h:a=b):M a=M b:=by subst h;rfl
theorem uup (M:Nat→Int)(f t:Nat)(lo hi:Int)(i:Nat):lst (lst M (at4 f t) hi) (at4 t f) (0-lo) i=un8 M ⟨f,t,lo,hi⟩ i:=by
 rw [Int.zero_sub];rfl
theorem uqg (M:Nat→Int)(f t lo hi:Int)(hf:0≤f∧f<4)(ht:0≤t∧t<4)(hb: -1000000≤lo∧lo≤1000000):ua0 Tryz.prog 77 [.own 0 0,(iv fun _=>f),(iv fun _=>t),(.agg [(iv fun _=>lo),(iv fun _=>hi)])] [.cells [(.arr 16 (fun ix=>(iv fun _=>M ix.den.toNat)))] 95] (fun r bs=>r = .tup []∧bs=[.cells [(.arr 16 (fun ix=>(iv fun _=>(un8 M ⟨f.toNat,t.toNat,lo,hi⟩) ix.den.toNat)))] 95]):=by
 have c98:= @uqa
 refine ua0.isB rfl fun R B hR hB=>qW (sc:=uAU) uan mix Tryz.func77 rfl Tryz.call77 (by kernel_rfl) (by kernel_rfl) ?_
 generalize Tryz.prog=P at c98⊢
 cbv
 repeat' (first
  |with_reducible refine ua4 ?_ ?_
  |with_reducible refine And.intro ?_ ?_
  | (refine⟨some [0],?_⟩
     cbv
     refine qQ ?_ (c98 M f t hi hf ht) ?hfit ?hbo
     case hfit=>(cbv;(repeat' (first|exact qB|refine qD ?_ ?_|exact qE (by rfl)|exact qF (by rfl)|exact Fit.refl _|exact qA|refine qC ?_ rfl ?_));done)
     case hbo=>(cbv;(repeat' (first|exact qH|refine qI ?_ ?_|exact qK _|refine qJ ?_|exact qA|exact qE (by rfl)|exact qF (by rfl)|exact Fit.refl _|exact qG _|refine qC ?_ rfl ?_));done)
     try cbv)
  | (refine⟨some [0],?_⟩
     cbv
     refine qQ ?_ (c98 (lst M (at4 f.toNat t.toNat) (hi)) t f (0-lo) ht hf) ?hfit ?hbo
     case hfit=>(cbv;(repeat' (first|exact qB|refine qD ?_ ?_|exact qE (by rfl)|exact qF (by rfl)|exact Fit.refl _|exact qA|refine qC ?_ rfl ?_));done)
     case hbo=>(cbv;(repeat' (first|exact qH|refine qI ?_ ?_|exact qK _|refine qJ ?_|exact qA|exact qE (by rfl)|exact qF (by rfl)|exact Fit.refl _|exact qG _|refine qC ?_ rfl ?_));done)
     try cbv)
  |fail)
 all_goals first|((try simp only [qV]at *);(try simp only [zQ,zA,zB,zC,zD,zE,zF,zG,zH,zI,zJ,zK,zL,zM,zN,zO,zP,zR,zS]at *);first|(refine qN ?_;omega)|(simp only [uaq];omega))|(subst hR;exact Fit.refl _;done)|(subst hB;exact qI (qJ (uaZ (fun ix h0 h1=>qE (uup _ _ _ _ _ _)) qA)) qH)|skip
theorem ulC (M:Nat→Int)(s:Int)(hs:0≤s∧s<3)(hM:∀i,i<16→ -1000000≤M i∧M i≤1000000):ua0 Tryz.prog 63 [.own 0 0,(iv fun _=>s)] [.cells [(.arr 16 (fun ix=>(iv fun _=>M ix.den.toNat)))] 95] (fun r bs=>r=(.agg [(iv fun _=> -M (at4 (s.toNat+1) 0)),(iv fun _=>M (at4 0 (s.toNat+1)))])∧bs=[.cells [(.arr 16 (fun ix=>(iv fun _=>M ix.den.toNat)))] 95]):=by
 refine ua0.isB rfl fun R B hR hB=>qW (sc:=uAY) uan mix Tryz.func63 rfl Tryz.call63 (by kernel_rfl) (by kernel_rfl) ?_
 generalize Tryz.prog=P
 cbv
 repeat' (first|with_reducible refine ua4 ?_ ?_|with_reducible refine And.intro ?_ ?_|fail)
 all_goals first|trivial|((try simp only [qV]at *);(try simp only [zQ,zA,zB,zC,zD,zE,zF,zG,zH,zI,zJ,zK,zL,zM,zN,zO,zP,zR,zS]at *);first|(refine qN ?_;omega)|(simp only [uaq];omega))|(subst hR;(refine qC (qE ?_) rfl (qC (qE ?_) rfl qA)<;>((try simp only [qV]at *);(try simp only [zQ,zA,zB,zC,zD,zE,zF,zG,zH,zI,zJ,zK,zL,zM,zN,zO,zP,zR,zS]at *);first|exact uxy (by unfold at4;omega)|exact uyZ (by unfold at4;omega)));done)|(subst hB;(repeat' (first|exact qH|refine qI ?_ ?_|exact qK _|refine qJ ?_|exact qA|exact qE (by rfl)|exact qF (by rfl)|exact Fit.refl _|exact qG _|refine qC ?_ rfl ?_));done)|(refine urp hM ?_;(try simp only [qV]at *);(try simp only [zQ,zA,zB,zC,zD,zE,zF,zG,zH,zI,zJ,zK,zL,zM,zN,zO,zP,zR,zS]at *);omega)|skip
end Go.Proofs.YtkdggbfknlcdaaaGreat
