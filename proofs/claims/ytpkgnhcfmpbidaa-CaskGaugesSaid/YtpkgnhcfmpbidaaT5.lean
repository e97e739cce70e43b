/- Contracts of the functions that the laws come to. No condition. -/
import Derived.Test.YtpkgnhcfmpbidaaE4
import Derived.Test.YtpkgnhcfmpbidaaProg
set_option linter.unusedVariables false
set_option linter.unusedSimpArgs false
set_option linter.deprecated false

namespace Go.Eng.Few
open Go Go.Eng
def ubL (f:Nat→Option (List Int)):Nat→Nat→Option (List Int)
 |0,_=>none
 | k+1,i=>match f i with
  |some r=>some r
  |none=>ubL f k (i+1)
theorem uct {f:Nat→Option (List Int)} {k i:Nat} {r:List Int}(hk:0<k)(h:f i=some r):ubL f k i=some r:=by
 cases k with
 |zero=>omega
 |succ k=>simp only [ubL,h]
theorem udZ {f:Nat→Option (List Int)} {k i:Nat}(hk:0<k)(h:f i=none):ubL f k i=ubL f (k-1) (i+1):=by
 cases k with
 |zero=>omega
 |succ k=>simp only [ubL,h,Nat.add_sub_cancel]
def uay (n:Nat)(ok:List Int→Bool):Nat→List Int→Nat→Option (List Int)
 |0,l,_=>if ok l=true then some l else none
 |m+1,l,i=>ubL (fun j=>uay n ok m (l++[(j:Int)]) (j+1)) (n-m-i) i
def uhn :Nat→List Int
 |0=>[]
 |n+1=>uhn n++[(n:Int)]
theorem ujY {n:Nat} {ok:List Int→Bool}(h:ok (uhn n)=true):∀m,m≤n→uay n ok m (uhn (n-m)) (n-m)=some (uhn n):=by
 intro m
 induction m with
 |zero=>intro _;simp only [uay,Nat.sub_zero,h,if_true]
 | succ m ih=>
  intro hm
  have:=ih (by omega)
  simp only [uay]
  rw [show n-m-(n-(m+1))=1 by omega]
  refine uct (by omega) ?_
  rw [show n-(m+1)+1=n-m by omega]
  rw [show n-m=n-(m+1)+1 by omega]at this⊢
  exact this
theorem uia {f:Nat→Option (List Int)} {j:Nat} {r:List Int}(h:f j=some r):∀k i,i≤j→j<i+k→∃r',ubL f k i=some r':=by
 intro k
 induction k with
 |zero=>intro i h1 h2;omega
 | succ k ih=>
  intro i h1 h2
  cases hf:f i with
  |some r'=>exact⟨r',uct (by omega) hf⟩
  | none=>
   rw [udZ (by omega) hf,Nat.add_sub_cancel]
   by_cases e:i=j
   ·rw [e,h]at hf;cases hf
   ·exact ih (i+1) (by omega) (by omega)
theorem uql {n i:Nat}(h:i<n):(i:Int)∈uhn n:=by
 induction n with
 |zero=>omega
 | succ n ih=>
  simp only [uhn,List.mem_append,List.mem_singleton]
  by_cases e:i=n
  ·exact Or.inr (by rw [e])
  ·exact Or.inl (ih (by omega))
theorem ugr {L l:List Int} {x:Int}(h:L=l++[x]):zi l.length+1=zi L.length:=by
 subst h
 simp only [uaw,List.length_append,List.length_cons,List.length_nil]
 omega
def ulL (b:Nat):Nat→List Int
 |0=>[]
 |p+1=>if b.testBit p=true then ulL b p++[(p:Int)]else ulL b p
def uwr (a b:List Int):Bool:=if a.length=b.length then lexB a b else decide (a.length<b.length)
where lexB:List Int→List Int→Bool
 |x::s,y::t=>if x=y then lexB s t else decide (x<y)
 |_,_=>false
def utJ (n:Nat)(ok:List Int→Bool):Option (List Int):=ubL (fun m=>uay n ok m [] 0) (n+1) 0
def uwE (n:Nat)(ok:List Int→Bool):List Int:=(utJ n ok).getD []
theorem uqC {n:Nat} {ok:List Int→Bool}(h:ok (uhn n)=true):utJ n ok=some (uwE n ok):=by
 have:=ujY h n (Nat.le_refl _)
 rw [Nat.sub_self]at this
 obtain⟨F,hF⟩:=uia (f:=fun m=>uay n ok m [] 0) (j:=n) this (n+1) 0 (by omega) (by omega)
 unfold uwE
 rw [show utJ n ok=some F from hF];rfl
end Go.Eng.Few

namespace Go.Eng.Few
structure Agree (P:Nat)(ok:List Int→Bool)(h:Nat→Bool):Prop where
 p:P≤16
 all:ok (uhn P)=true
 h:∀b,b<2^P→h b=ok (ulL b 16)
def bsN (sh:Int)(L:List Nat):Nat→Option Nat
 |0=>none
 | i+1=>if((ulL (L.getD i 0) 16).length:Int)>sh then bsN sh L i else match bsN sh L i with
  |none=>some (L.getD i 0)
  |some b=>if uwr.lexB (ulL (L.getD i 0) 16) (ulL b 16)=true then some (L.getD i 0)else some b
end Go.Eng.Few

namespace Go.Eng.Ck
def m0 :Int×Int:=(0,0)
def mD (ms:List (Int×Int))(i:Nat):Int:=(ms.getD i m0).1
def mC (ms:List (Int×Int))(i:Nat):Int:=(ms.getD i m0).2
def tpD (ms:List (Int×Int)):Int:=mD ms (ms.length-1)
def tpC (ms:List (Int×Int)):Int:=mC ms (ms.length-1)
structure MOk (ms:List (Int×Int)):Prop where
 two:2≤ms.length
 few:ms.length≤5
 d0:mD ms 0=0
 c0:mC ms 0=0
 up:∀i,i+1<ms.length→mD ms i<mD ms (i+1)∧mC ms i<mC ms (i+1)
 most:∀i,i<ms.length→mD ms i≤100∧mC ms i≤1000
theorem MOk.lt {ms:List (Int×Int)}(h:MOk ms) {i:Nat}:∀{j:Nat},i<j→j<ms.length→mD ms i<mD ms j∧mC ms i<mC ms j:=by
 intro j
 induction j with
 |zero=>intro h1;omega
 | succ j ih=>
  intro h1 h2
  have hu:=h.up j h2
  rcases Nat.lt_or_ge i j with q|q
  ·have:=ih q (by omega);omega
  ·have:i=j:=by omega
   subst this;exact hu
theorem MOk.le {ms:List (Int×Int)}(h:MOk ms) {i j:Nat}(hij:i≤j)(hj:j<ms.length):mD ms i≤mD ms j∧mC ms i≤mC ms j:=by
 rcases Nat.lt_or_ge i j with q|q
 ·have:=h.lt q hj;omega
 ·have:i=j:=by omega
  subst this;exact⟨Int.le_refl _,Int.le_refl _⟩
theorem MOk.bd {ms:List (Int×Int)}(h:MOk ms) {i:Nat}(hi:i<ms.length):0≤mD ms i∧mD ms i≤100∧0≤mC ms i∧mC ms i≤1000:=by
 have h1:=h.le (Nat.zero_le i) hi
 have h2:=h.most i hi
 have h3:=h.d0
 have h4:=h.c0
 omega
theorem MOk.top {ms:List (Int×Int)}(h:MOk ms):0<tpD ms∧tpD ms≤100∧0<tpC ms∧tpC ms≤1000:=by
 have h2:=h.two
 have h1:=h.lt (i:=0) (j:=ms.length-1) (by omega) (by omega)
 have h3:=h.d0
 have h4:=h.c0
 have:=h.most (ms.length-1) (by omega)
 unfold tpD tpC
 omega
structure IsSeg (ms:List (Int×Int))(d:Int)(i:Nat):Prop where
 one:1≤i
 len:i<ms.length
 lo:∀j,1≤j→j<i→mD ms j<d
 hi:d≤mD ms i
def uvC (ms:List (Int×Int))(d:Int):Nat→Nat→Nat
 |0,i=>i
 |n+1,i=>if mD ms i<d then uvC ms d n (i+1)else i
def seg (ms:List (Int×Int))(d:Int):Nat:=uvC ms d ms.length 1
theorem us0 {ms:List (Int×Int)} {d:Int}(ht:d≤tpD ms):∀{n i:Nat},1≤i→i<ms.length→ms.length≤n+i→(∀j,1≤j→j<i→mD ms j<d)→IsSeg ms d (uvC ms d n i):=by
 intro n
 induction n with
 |zero=>intro i h1 h2 h3 h4;omega
 | succ n ih=>
  intro i h1 h2 h3 h4
  unfold uvC
  split
  ·rename_i hd
   rcases Nat.lt_or_ge (i+1) ms.length with q|q
   ·refine ih (by omega) q (by omega) fun j j1 j2=> ?_
    rcases Nat.lt_or_ge j i with r|r
    ·exact h4 j j1 r
    ·have:j=i:=by omega
     subst this;exact hd
   ·exfalso
    unfold tpD at ht
    have:ms.length-1=i:=by omega
    rw [this]at ht
    omega
  ·exact⟨h1,h2,h4,by omega⟩
theorem ukz {ms:List (Int×Int)}(h:MOk ms) {d:Int}(ht:d≤tpD ms):IsSeg ms d (seg ms d):=
 us0 ht (by omega) (by have:=h.two;omega) (by omega) fun j h1 h2=>by omega
theorem IsSeg.eq {ms:List (Int×Int)} {d:Int} {i j:Nat}(h:IsSeg ms d i)(h':IsSeg ms d j):i=j:=by
 rcases Nat.lt_trichotomy i j with q|q|q
 ·have:=h'.lo i h.one q;have:=h.hi;omega
 ·exact q
 ·have:=h.lo j h'.one q;have:=h'.hi;omega
theorem ura {ms:List (Int×Int)}(h:MOk ms) {d:Int} {i:Nat}(hi:IsSeg ms d i)(ht:d≤tpD ms):seg ms d=i:=(ukz h ht).eq hi
def upw (a b e f d:Int):Int:=((f-e)*(d-a)).tdiv (b-a)
def ctI (ms:List (Int×Int))(d:Int)(i:Nat):Int:=mC ms (i-1)+upw (mD ms (i-1)) (mD ms i) (mC ms (i-1)) (mC ms i) d
def ct (ms:List (Int×Int))(d:Int):Int:=ctI ms d (seg ms d)
theorem umY {a b e f d:Int}(hab:a<b)(hef:e≤f)(h0:a≤d)(h1:d≤b):0≤upw a b e f d∧upw a b e f d≤f-e:=by
 unfold upw
 have h2:0≤(f-e)*(d-a):=Int.mul_nonneg (by omega) (by omega)
 have h3:(f-e)*(d-a)≤(f-e)*(b-a):=Int.mul_le_mul_of_nonneg_left (by omega) (by omega)
 rw [Int.tdiv_eq_ediv_of_nonneg h2]
 refine⟨Int.ediv_nonneg h2 (by omega),?_⟩
 have:=Int.ediv_le_ediv (c:=b-a) (by omega) h3
 rw [Int.mul_ediv_cancel _ (by omega)]at this
 exact this
theorem upt {a b e f d d':Int}(hab:a<b)(hef:e≤f)(h0:a≤d)(h1:d≤d'):upw a b e f d≤upw a b e f d':=by
 unfold upw
 have h2:0≤(f-e)*(d-a):=Int.mul_nonneg (by omega) (by omega)
 have h3:(f-e)*(d-a)≤(f-e)*(d'-a):=Int.mul_le_mul_of_nonneg_left (by omega) (by omega)
 rw [Int.tdiv_eq_ediv_of_nonneg h2,Int.tdiv_eq_ediv_of_nonneg (by omega)]
 exact Int.ediv_le_ediv (by omega) h3
theorem uml {a b e f:Int}:upw a b e f a=0:=by
 unfold upw
 rw [Int.sub_self,Int.mul_zero]
 simp
theorem IsSeg.lo' {ms:List (Int×Int)}(h:MOk ms) {d:Int}(h0:0≤d) {i:Nat}(hi:IsSeg ms d i):mD ms (i-1)≤d:=by
 by_cases e:i=1
 ·subst e;have:=h.d0;simp only [Nat.sub_self];omega
 ·have:=hi.lo (i-1) (by have:=hi.one;omega) (by have:=hi.one;omega);omega
theorem uoL {ms:List (Int×Int)}(h:MOk ms) {d:Int}(h0:0≤d) {i:Nat}(hi:IsSeg ms d i):mC ms (i-1)≤ctI ms d i∧ctI ms d i≤mC ms i:=by
 have h1:=hi.one
 have h2:=hi.len
 have h3:=h.lt (i:=i-1) (j:=i) (by omega) h2
 have:=umY (e:=mC ms (i-1)) (f:=mC ms i) h3.1 (by omega) (hi.lo' h h0) hi.hi
 unfold ctI
 omega
theorem utP {ms:List (Int×Int)}(h:MOk ms) {d:Int}(h0:0≤d)(h1:d≤tpD ms):0≤ct ms d∧ct ms d≤tpC ms:=by
 have hs:=ukz h h1
 have hb:=uoL h h0 hs
 have h2:=h.bd (i:=seg ms d-1) (by have:=hs.len;omega)
 have h3:=h.le (i:=seg ms d) (j:=ms.length-1) (by have:=hs.len;omega) (by have:=hs.len;omega)
 unfold ct tpC
 omega
theorem ute {ms:List (Int×Int)}(h:MOk ms) {d d':Int}(h0:0≤d)(h1:d≤d')(h2:d'≤tpD ms):ct ms d≤ct ms d':=by
 have hs:=ukz h (show d≤tpD ms by omega)
 have hs':=ukz h h2
 have hle:seg ms d≤seg ms d':=by
  rcases Nat.lt_or_ge (seg ms d') (seg ms d)with q|q
  ·have:=hs.lo _ hs'.one q;have:=hs'.hi;omega
  ·exact q
 have o1:=hs.one
 have l1:=hs.len
 have l2:=hs'.len
 rcases Nat.lt_or_ge (seg ms d) (seg ms d')with q|q
 ·have a:=uoL h h0 hs
  have b:=uoL h (show 0≤d' by omega) hs'
  have c:=h.le (i:=seg ms d) (j:=seg ms d'-1) (by omega) (by omega)
  unfold ct
  omega
 ·have e:seg ms d'=seg ms d:=by omega
  unfold ct
  rw [e]
  have h3:=h.lt (i:=seg ms d-1) (j:=seg ms d) (by omega) l1
  have:=upt (e:=mC ms (seg ms d-1)) (f:=mC ms (seg ms d)) h3.1 (by omega) (hs.lo' h h0) h1
  unfold ctI
  omega
theorem uhp {ms:List (Int×Int)}(h:MOk ms):ct ms 0=0:=by
 have ht:=h.top
 have h2:=h.two
 have h1:=h.lt (i:=0) (j:=1) (by omega) (by omega)
 have hs:IsSeg ms 0 1:=⟨by omega,by omega,fun j a b=>by omega,by have:=h.d0;omega⟩
 unfold ct
 rw [ura h hs (by omega)]
 unfold ctI
 simp only [Nat.sub_self]
 rw [h.d0,h.c0,uml]
 rfl
def uju (ms:List (Int×Int))(n:Int):Nat→Int
 |0=>0
 |d+1=>if ct ms ((d:Int)+1)≤n then(d:Int)+1 else uju ms n d
structure IsDip (ms:List (Int×Int))(n d:Int):Prop where
 lo:0≤d
 hi:d≤tpD ms
 at':ct ms d≤n
 next:∀e,d<e→e≤tpD ms→n<ct ms e
def dip (ms:List (Int×Int))(n:Int):Int:=uju ms n (tpD ms).toNat
theorem urT {ms:List (Int×Int)}(h:MOk ms) {n:Int}(hn:0≤n):∀{d:Nat},0≤uju ms n d∧uju ms n d≤d∧ct ms (uju ms n d)≤n∧∀e,uju ms n d<e→e≤d→n<ct ms e:=by
 intro d
 induction d with
 |zero=>refine⟨Int.le_refl _,by simp [uju],by simp only [uju];rw [uhp h];exact hn,fun e h1 h2=> ?_⟩;simp only [uju]at h1;omega
 | succ d ih=>
  simp only [uju]
  split
  ·rename_i hc
   exact⟨by omega,by omega,hc,fun e h1 h2=>by omega⟩
  ·rename_i hc
   refine⟨ih.1,by omega,ih.2.2.1,fun e h1 h2=> ?_⟩
   rcases Int.lt_or_le (d:Int) e with q|q
   ·have:e=(d:Int)+1:=by omega
    subst this;omega
   ·exact ih.2.2.2 e h1 q
theorem uuT {ms:List (Int×Int)}(h:MOk ms) {n:Int}(hn:0≤n):IsDip ms n (dip ms n):=by
 have ht:=h.top
 have:=urT h hn (d:=(tpD ms).toNat)
 unfold dip
 exact⟨this.1,by omega,this.2.2.1,fun e h1 h2=>this.2.2.2 e h1 (by omega)⟩
theorem IsDip.eq {ms:List (Int×Int)} {n d e:Int}(h:IsDip ms n d)(h':IsDip ms n e):d=e:=by
 rcases Int.lt_trichotomy d e with q|q|q
 ·have:=h.next e q h'.hi;have:=h'.at';omega
 ·exact q
 ·have:=h'.next d q h.hi;have:=h.at';omega
theorem ukE {ms:List (Int×Int)}(h:MOk ms) {n:Int}(hn:0≤n) {d:Nat}(hd:(d:Int)≤tpD ms):(ct ms d≤n→uju ms n d=d)∧(¬ct ms d≤n→uju ms n d=uju ms n (d-1)):=by
 cases d with
 |zero=>exact⟨fun _=>rfl,fun q=>by exfalso;apply q;rw [show((0:Nat):Int)=0 from rfl,uhp h];exact hn⟩
 | succ d=>
  simp only [uju,Nat.add_sub_cancel]
  rw [show((d+1:Nat):Int)=(d:Int)+1 by omega]
  exact⟨fun q=>by rw [if_pos q],fun q=>by rw [if_neg q]⟩
end Go.Eng.Ck

namespace Go.Eng.Ck
structure Csk where
 ms:List (Int×Int)
 sl:Int
 sh:Int
 kl:Int
 kh:Int
structure Mov where
 f:Int
 t:Int
 ql:Int
 qh:Int
structure Gau where
 c:Int
 a:Int
 dl:Int
 dh:Int
 dry:Bool
structure Clr where
 cs:List Csk
 mv:List Mov
 gs:List Gau
def k0 :Csk:=⟨[],0,0,0,0⟩
def v0 :Mov:=⟨0,0,0,0⟩
def g0 :Gau:=⟨0,0,0,0,false⟩
structure KOk (k:Csk):Prop where
 m:MOk k.ms
 s0:0≤k.sl
 s1:k.sl≤k.sh
 s2:k.sh≤tpC k.ms
 l0:0≤k.kl
 l1:k.kl≤k.kh
 l2:k.kh≤4
structure VOk (n:Nat)(m:Mov):Prop where
 f0: -1≤m.f
 f1:m.f<(n:Int)
 t0: -1≤m.t
 t1:m.t<(n:Int)
 ne:m.f≠m.t
 q0:1≤m.ql
 q1:m.ql≤m.qh
 q2:m.qh≤1000
 w:m.qh-m.ql≤8
structure GOk (cs:List Csk)(M:Nat)(g:Gau):Prop where
 c0:0≤g.c
 c1:g.c<(cs.length:Int)
 a0:0≤g.a
 a1:g.a≤(M:Int)
 d0:0≤g.dl
 d1:g.dl≤g.dh
 d2:g.dh≤tpD (cs.getD g.c.toNat k0).ms
structure COk (c:Clr):Prop where
 c1:1≤c.cs.length
 c3:c.cs.length≤3
 m4:c.mv.length≤4
 g6:c.gs.length≤6
 k:∀i,i<c.cs.length→KOk (c.cs.getD i k0)
 v:∀i,i<c.mv.length→VOk c.cs.length (c.mv.getD i v0)
 g:∀i,i<c.gs.length→GOk c.cs c.mv.length (c.gs.getD i g0)
def dLo (ms:List (Int×Int))(g:Gau):Int:=if g.dry=true then tpD ms-g.dh else g.dl
def dHi (ms:List (Int×Int))(g:Gau):Int:=if g.dry=true then tpD ms-g.dl else g.dh
def mLo (cs:List Csk)(g:Gau):Int:=ct (cs.getD g.c.toNat k0).ms (dLo (cs.getD g.c.toNat k0).ms g)
def mHi (cs:List Csk)(g:Gau):Int:=ct (cs.getD g.c.toNat k0).ms (dHi (cs.getD g.c.toNat k0).ms g)
theorem uyq {cs:List Csk} {M:Nat} {g:Gau}(h:GOk cs M g):0≤dLo (cs.getD g.c.toNat k0).ms g∧dLo (cs.getD g.c.toNat k0).ms g≤dHi (cs.getD g.c.toNat k0).ms g∧dHi (cs.getD g.c.toNat k0).ms g≤tpD (cs.getD g.c.toNat k0).ms:=by
 have h0:=h.d0
 have h1:=h.d1
 have h2:=h.d2
 unfold dLo dHi
 split<;>omega
theorem uyY {cs:List Csk} {M:Nat} {g:Gau}(h:GOk cs M g)(hm:MOk (cs.getD g.c.toNat k0).ms):0≤mLo cs g∧mLo cs g≤mHi cs g∧mHi cs g≤tpC (cs.getD g.c.toNat k0).ms:=by
 have hd:=uyq h
 have h1:=utP hm hd.1 (by omega)
 have h2:=utP hm (show 0≤dHi (cs.getD g.c.toNat k0).ms g by omega) hd.2.2
 have h3:=ute hm hd.1 hd.2.1 hd.2.2
 unfold mLo mHi
 omega
def stp (m:Mov)(c q:Int):Int:=if m.t=c then q else if m.f=c then -q else 0
def gN (mv:List Mov)(q:Nat→Int)(c lk:Int):Nat→Int
 |0=>0
 |i+1=>gN mv q c lk i-lk+stp (mv.getD i v0) c (q i)
theorem uvj {m:Mov} {c q:Int}(h0:0≤q)(h1:q≤1000): -1000≤stp m c q∧stp m c q≤1000:=by
 unfold stp;split
 ·omega
 ·split<;>omega
theorem uww {mv:List Mov} {q:Nat→Int} {c lk:Int}(hq:∀j,0≤q j∧q j≤1000)(h0:0≤lk)(h1:lk≤4):∀n:Nat,-(1004*(n:Int))≤gN mv q c lk n∧gN mv q c lk n≤1004*(n:Int):=by
 intro n
 induction n with
 |zero=>simp [gN]
 | succ n ih=>
  have:=uvj (m:=mv.getD n v0) (c:=c) (hq n).1 (hq n).2
  simp only [gN]
  omega
theorem upm {mv:List Mov} {q q':Nat→Int} {c lk:Int}:∀{n:Nat},(∀j,j<n→q j=q' j)→gN mv q c lk n=gN mv q' c lk n:=by
 intro n
 induction n with
 |zero=>intro _;rfl
 |succ n ih=>intro h;simp only [gN];rw [ih fun j hj=>h j (by omega),h n (by omega)]
theorem uwq {m:Mov} {c q:Int}(h:m.t=c):stp m c q=q:=by unfold stp;rw [if_pos h]
theorem uwn {m:Mov} {c q:Int}(h:¬m.t=c)(h':m.f=c):stp m c q = -q:=by unfold stp;rw [if_neg h,if_pos h']
theorem uxr {m:Mov} {c q:Int}(h:¬m.t=c)(h':¬m.f=c):stp m c q=0:=by unfold stp;rw [if_neg h,if_neg h']
def mn (a b:Int):Int:=if b<a then b else a
def mx (a b:Int):Int:=if b>a then b else a
theorem ulS {a b x:Int}:x≤mn a b↔x≤a∧x≤b:=by unfold mn;split<;>omega
theorem ulA {a b x:Int}:mx a b≤x↔a≤x∧b≤x:=by unfold mx;split<;>omega
theorem uo2 {a b:Int}:mn a b≤a∧mn a b≤b∧(mn a b=a∨mn a b=b):=by unfold mn;split<;>omega
theorem uoa {a b:Int}:a≤mx a b∧b≤mx a b∧(mx a b=a∨mx a b=b):=by unfold mx;split<;>omega
def loG (mv:List Mov)(q:Nat→Int)(k:Csk)(c lk:Int):Nat→Int
 |0=>k.sl
 |i+1=>mx (loG mv q k c lk i) (-gN mv q c lk i)
def hiG (mv:List Mov)(q:Nat→Int)(k:Csk)(c lk:Int):Nat→Int
 |0=>k.sh
 |i+1=>mn (hiG mv q k c lk i) (tpC k.ms-gN mv q c lk i)
theorem uv8 {mv:List Mov} {q:Nat→Int} {k:Csk} {c lk s:Int}:∀{n:Nat},loG mv q k c lk n≤s↔k.sl≤s∧∀i,i<n→0≤s+gN mv q c lk i:=by
 intro n
 induction n with
 |zero=>exact⟨fun h=>⟨h,fun i hi=>by omega⟩,fun h=>h.1⟩
 | succ n ih=>
  simp only [loG]
  rw [ulA,ih]
  constructor
  ·rintro⟨⟨h1,h2⟩,h3⟩
   refine⟨h1,fun i hi=> ?_⟩
   rcases Nat.lt_or_ge i n with r|r
   ·exact h2 i r
   ·have:i=n:=by omega
    subst this;omega
  ·rintro⟨h1,h2⟩
   exact⟨⟨h1,fun i hi=>h2 i (by omega)⟩,by have:=h2 n (by omega);omega⟩
theorem uv1 {mv:List Mov} {q:Nat→Int} {k:Csk} {c lk s:Int}:∀{n:Nat},s≤hiG mv q k c lk n↔s≤k.sh∧∀i,i<n→s+gN mv q c lk i≤tpC k.ms:=by
 intro n
 induction n with
 |zero=>exact⟨fun h=>⟨h,fun i hi=>by omega⟩,fun h=>h.1⟩
 | succ n ih=>
  simp only [hiG]
  rw [ulS,ih]
  constructor
  ·rintro⟨⟨h1,h2⟩,h3⟩
   refine⟨h1,fun i hi=> ?_⟩
   rcases Nat.lt_or_ge i n with r|r
   ·exact h2 i r
   ·have:i=n:=by omega
    subst this;omega
  ·rintro⟨h1,h2⟩
   exact⟨⟨h1,fun i hi=>h2 i (by omega)⟩,by have:=h2 n (by omega);omega⟩
def loQ (c:Clr)(q:Nat→Int)(x lk:Int):Nat→Int
 |0=>loG c.mv q (c.cs.getD x.toNat k0) x lk (c.mv.length+1)
 |i+1=>if(c.gs.getD i g0).c=x then mx (loQ c q x lk i) (mLo c.cs (c.gs.getD i g0)-gN c.mv q x lk (c.gs.getD i g0).a.toNat)else loQ c q x lk i
def hiQ (c:Clr)(q:Nat→Int)(x lk:Int):Nat→Int
 |0=>hiG c.mv q (c.cs.getD x.toNat k0) x lk (c.mv.length+1)
 |i+1=>if(c.gs.getD i g0).c=x then mn (hiQ c q x lk i) (mHi c.cs (c.gs.getD i g0)-gN c.mv q x lk (c.gs.getD i g0).a.toNat)else hiQ c q x lk i
theorem uuL {c:Clr} {q:Nat→Int} {x lk:Int} {i:Nat}(h:(c.gs.getD i g0).c=x):loQ c q x lk (i+1)=mx (loQ c q x lk i) (mLo c.cs (c.gs.getD i g0)-gN c.mv q x lk (c.gs.getD i g0).a.toNat):=by simp only [loQ,h,if_true]
theorem utQ {c:Clr} {q:Nat→Int} {x lk:Int} {i:Nat}(h:¬(c.gs.getD i g0).c=x):loQ c q x lk (i+1)=loQ c q x lk i:=by simp only [loQ,h,if_false]
theorem uuO {c:Clr} {q:Nat→Int} {x lk:Int} {i:Nat}(h:(c.gs.getD i g0).c=x):hiQ c q x lk (i+1)=mn (hiQ c q x lk i) (mHi c.cs (c.gs.getD i g0)-gN c.mv q x lk (c.gs.getD i g0).a.toNat):=by simp only [hiQ,h,if_true]
theorem uug {c:Clr} {q:Nat→Int} {x lk:Int} {i:Nat}(h:¬(c.gs.getD i g0).c=x):hiQ c q x lk (i+1)=hiQ c q x lk i:=by simp only [hiQ,h,if_false]
theorem uuA {c:Clr} {q:Nat→Int} {x lk s:Int}:∀{n:Nat},loQ c q x lk n≤s↔((c.cs.getD x.toNat k0).sl≤s∧∀i,i<c.mv.length+1→0≤s+gN c.mv q x lk i)∧∀i,i<n→(c.gs.getD i g0).c=x→mLo c.cs (c.gs.getD i g0)≤s+gN c.mv q x lk (c.gs.getD i g0).a.toNat:=by
 intro n
 induction n with
 |zero=>simp only [loQ];rw [uv8];exact⟨fun h=>⟨h,fun i hi=>by omega⟩,fun h=>h.1⟩
 | succ n ih=>
  have key:∀(A:Prop),(loQ c q x lk n≤s∧((c.gs.getD n g0).c=x→mLo c.cs (c.gs.getD n g0)≤s+gN c.mv q x lk (c.gs.getD n g0).a.toNat))↔(((c.cs.getD x.toNat k0).sl≤s∧∀i,i<c.mv.length+1→0≤s+gN c.mv q x lk i)∧∀i,i<n+1→(c.gs.getD i g0).c=x→mLo c.cs (c.gs.getD i g0)≤s+gN c.mv q x lk (c.gs.getD i g0).a.toNat):=fun _=>by
   rw [ih]
   constructor
   ·rintro⟨⟨h1,h2⟩,h3⟩
    refine⟨h1,fun i hi hx=> ?_⟩
    rcases Nat.lt_or_ge i n with r|r
    ·exact h2 i r hx
    ·have:i=n:=by omega
     subst this;exact h3 hx
   ·rintro⟨h1,h2⟩
    exact⟨⟨h1,fun i hi=>h2 i (by omega)⟩,h2 n (by omega)⟩
  rw [←key True]
  by_cases hx:(c.gs.getD n g0).c=x
  ·rw [uuL hx,ulA]
   exact⟨fun h=>⟨h.1,fun _=>by omega⟩,fun h=>⟨h.1,by have:=h.2 hx;omega⟩⟩
  ·rw [utQ hx]
   exact⟨fun h=>⟨h,fun q=>absurd q hx⟩,fun h=>h.1⟩
theorem utK {c:Clr} {q:Nat→Int} {x lk s:Int}:∀{n:Nat},s≤hiQ c q x lk n↔(s≤(c.cs.getD x.toNat k0).sh∧∀i,i<c.mv.length+1→s+gN c.mv q x lk i≤tpC (c.cs.getD x.toNat k0).ms)∧∀i,i<n→(c.gs.getD i g0).c=x→s+gN c.mv q x lk (c.gs.getD i g0).a.toNat≤mHi c.cs (c.gs.getD i g0):=by
 intro n
 induction n with
 |zero=>simp only [hiQ];rw [uv1];exact⟨fun h=>⟨h,fun i hi=>by omega⟩,fun h=>h.1⟩
 | succ n ih=>
  have key:∀(A:Prop),(s≤hiQ c q x lk n∧((c.gs.getD n g0).c=x→s+gN c.mv q x lk (c.gs.getD n g0).a.toNat≤mHi c.cs (c.gs.getD n g0)))↔((s≤(c.cs.getD x.toNat k0).sh∧∀i,i<c.mv.length+1→s+gN c.mv q x lk i≤tpC (c.cs.getD x.toNat k0).ms)∧∀i,i<n+1→(c.gs.getD i g0).c=x→s+gN c.mv q x lk (c.gs.getD i g0).a.toNat≤mHi c.cs (c.gs.getD i g0)):=fun _=>by
   rw [ih]
   constructor
   ·rintro⟨⟨h1,h2⟩,h3⟩
    refine⟨h1,fun i hi hx=> ?_⟩
    rcases Nat.lt_or_ge i n with r|r
    ·exact h2 i r hx
    ·have:i=n:=by omega
     subst this;exact h3 hx
   ·rintro⟨h1,h2⟩
    exact⟨⟨h1,fun i hi=>h2 i (by omega)⟩,h2 n (by omega)⟩
  rw [←key True]
  by_cases hx:(c.gs.getD n g0).c=x
  ·rw [uuO hx,ulS]
   exact⟨fun h=>⟨h.1,fun _=>by omega⟩,fun h=>⟨h.1,by have:=h.2 hx;omega⟩⟩
  ·rw [uug hx]
   exact⟨fun h=>⟨h,fun q=>absurd q hx⟩,fun h=>h.1⟩
def rLo (c:Clr)(q:Nat→Int)(x lk:Int):Int:=loQ c q x lk c.gs.length
def rHi (c:Clr)(q:Nat→Int)(x lk:Int):Int:=hiQ c q x lk c.gs.length
structure Fits (c:Clr)(q:Nat→Int)(x lk s:Int):Prop where
 st:(c.cs.getD x.toNat k0).sl≤s∧s≤(c.cs.getD x.toNat k0).sh
 all:∀i,i<c.mv.length+1→0≤s+gN c.mv q x lk i∧s+gN c.mv q x lk i≤tpC (c.cs.getD x.toNat k0).ms
 gs:∀i,i<c.gs.length→(c.gs.getD i g0).c=x→mLo c.cs (c.gs.getD i g0)≤s+gN c.mv q x lk (c.gs.getD i g0).a.toNat∧s+gN c.mv q x lk (c.gs.getD i g0).a.toNat≤mHi c.cs (c.gs.getD i g0)
theorem ubd {c:Clr} {q:Nat→Int} {x lk s:Int}:Fits c q x lk s↔rLo c q x lk≤s∧s≤rHi c q x lk:=by
 unfold rLo rHi
 rw [uuA,utK]
 constructor
 ·intro h
  exact⟨⟨⟨h.st.1,fun i hi=>(h.all i hi).1⟩,fun i hi hx=>(h.gs i hi hx).1⟩,⟨h.st.2,fun i hi=>(h.all i hi).2⟩,fun i hi hx=>(h.gs i hi hx).2⟩
 ·rintro⟨⟨⟨h1,h2⟩,h3⟩,⟨h4,h5⟩,h6⟩
  exact⟨⟨h1,h4⟩,fun i hi=>⟨h2 i hi,h5 i hi⟩,fun i hi hx=>⟨h3 i hi hx,h6 i hi hx⟩⟩
theorem Fits.cong {c:Clr} {q q':Nat→Int} {x lk s:Int}(h:Fits c q x lk s)(e:∀j,j<c.mv.length→q j=q' j)(ha:∀i,i<c.gs.length→(c.gs.getD i g0).a.toNat≤c.mv.length):Fits c q' x lk s:=by
 refine⟨h.st,fun i hi=> ?_,fun i hi hx=> ?_⟩
 ·rw [←upm (q:=q) fun j hj=>e j (by omega)];exact h.all i hi
 ·rw [←upm (q:=q) fun j hj=>e j (by have:=ha i hi;omega)];exact h.gs i hi hx
end Go.Eng.Ck

namespace Go.Eng.Ck
def uuC (p:Nat→Bool):Nat→Bool
 |0=>false
 |n+1=>uuC p n||p n
def uvJ (p:Nat→Bool):Nat→Bool
 |0=>true
 |n+1=>uvJ p n&&p n
theorem uky {p:Nat→Bool}:∀{n:Nat},uuC p n=true↔∃i,i<n∧p i=true
 |0=>⟨fun h=>by simp [uuC]at h,fun ⟨i,h,_⟩=>by omega⟩
 | n + 1=>by
  simp only [uuC,Bool.or_eq_true,uky (n:=n)]
  constructor
  ·rintro(⟨i,h1,h2⟩|h)
   ·exact⟨i,by omega,h2⟩
   ·exact⟨n,by omega,h⟩
  ·rintro⟨i,h1,h2⟩
   rcases Nat.lt_or_ge i n with r|r
   ·exact .inl ⟨i,r,h2⟩
   ·have:i=n:=by omega
    subst this;exact .inr h2
theorem uj6 {p:Nat→Bool}:∀{n:Nat},uvJ p n=true↔∀i,i<n→p i=true
 |0=>⟨fun _ i hi=>by omega,fun _=>rfl⟩
 | n + 1=>by
  simp only [uvJ,Bool.and_eq_true,uj6 (n:=n)]
  constructor
  ·rintro⟨h1,h2⟩ i hi
   rcases Nat.lt_or_ge i n with r|r
   ·exact h1 i r
   ·have:i=n:=by omega
    subst this;exact h2
  ·exact fun h=>⟨fun i hi=>h i (by omega),h n (by omega)⟩
def utz (q:Nat→Int)(i:Nat)(v:Int):Nat→Int:=fun j=>if j=i then v else q j
theorem ukm {q:Nat→Int} {i:Nat} {v:Int}:utz q i v i=v:=by simp [utz]
theorem uhL {q:Nat→Int} {i j:Nat} {v:Int}(h:j≠i):utz q i v j=q j:=by simp [utz,h]
def cnt (m:Mov):Nat:=(m.qh-m.ql+1).toNat
def ud2 (mv:List Mov):Nat→Nat→(Nat→Int)→List (Nat→Int)
 |0,_,q=>[q]
 |n+1,i,q=>(List.range (cnt (mv.getD i v0))).flatMap fun (j:Nat)=>ud2 mv n (i+1) (utz q i ((mv.getD i v0).ql+(j:Int)))
theorem ulg {mv:List Mov}:∀{n i:Nat} {q q':Nat→Int},q'∈ud2 mv n i q↔(∀j,i≤j→j<i+n→(mv.getD j v0).ql≤q' j∧q' j≤(mv.getD j v0).qh)∧∀j,(j<i∨i+n≤j)→q' j=q j:=by
 intro n
 induction n with
 | zero=>
  intro i q q'
  simp only [ud2,List.mem_singleton]
  constructor
  ·rintro rfl;exact⟨fun j h1 h2=>by omega,fun _ _=>rfl⟩
  ·rintro⟨_,h⟩
   funext j
   exact h j (by omega)
 | succ n ih=>
  intro i q q'
  simp only [ud2,List.mem_flatMap,List.mem_range]
  constructor
  ·rintro⟨j0,h0,h⟩
   obtain⟨h1,h2⟩:=ih.1 h
   have h3:=h2 i (by omega)
   rw [ukm]at h3
   unfold cnt at h0
   refine⟨fun j a b=> ?_,fun j a=> ?_⟩
   ·by_cases e:j=i
    ·subst e;rw [h3];omega
    ·exact h1 j (by omega) (by omega)
   ·rw [h2 j (by omega),uhL (by omega)]
  ·rintro⟨h1,h2⟩
   have h3:=h1 i (by omega) (by omega)
   refine⟨(q' i-(mv.getD i v0).ql).toNat,by unfold cnt;omega,ih.2 ⟨fun j a b=>h1 j (by omega) (by omega),fun j a=> ?_⟩⟩
   by_cases e:j=i
   ·subst e;rw [ukm];omega
   ·rw [uhL e];exact h2 j (by omega)
def q0 :Nat→Int:=fun _=>0
def qsC (c:Clr):List (Nat→Int):=ud2 c.mv c.mv.length 0 q0
def uuS (M:Nat)(q:Nat→Int):Nat→Int:=fun j=>if j<M then q j else 0
theorem upD {c:Clr} {q:Nat→Int}(h:∀j,j<c.mv.length→(c.mv.getD j v0).ql≤q j∧q j≤(c.mv.getD j v0).qh):uuS c.mv.length q∈qsC c:=by
 refine ulg.2 ⟨fun j a b=> ?_,fun j a=> ?_⟩
 ·unfold uuS;rw [if_pos (by omega)];exact h j (by omega)
 ·unfold uuS;rw [if_neg (by omega)];rfl
theorem us8 {M j:Nat} {q:Nat→Int}(h:j<M):uuS M q j=q j:=by unfold uuS;rw [if_pos h]
def lkN (k:Csk):Nat:=(k.kh-k.kl+1).toNat
def okL (c:Clr)(q:Nat→Int)(x j:Nat):Bool:=decide (rLo c q x ((c.cs.getD x k0).kl+(j:Int))≤rHi c q x ((c.cs.getD x k0).kl+(j:Int)))
def okK (c:Clr)(q:Nat→Int)(x:Nat):Bool:=uuC (okL c q x) (lkN (c.cs.getD x k0))
def okQ (c:Clr)(q:Nat→Int):Bool:=uvJ (okK c q) c.cs.length
structure Tr (c:Clr)(st lk q:Nat→Int):Prop where
 qr:∀j,j<c.mv.length→(c.mv.getD j v0).ql≤q j∧q j≤(c.mv.getD j v0).qh
 l:∀x,x<c.cs.length→(c.cs.getD x k0).kl≤lk x∧lk x≤(c.cs.getD x k0).kh
 f:∀x,x<c.cs.length→Fits c q x (lk x) (st x)
def ui0 (c:Clr):Prop:=∀i,i<c.gs.length→(c.gs.getD i g0).a.toNat≤c.mv.length
theorem utU {c:Clr} {q:Nat→Int} {x j:Nat}:okL c q x j=true↔∃s,Fits c q x ((c.cs.getD x k0).kl+(j:Int)) s:=by
 unfold okL
 rw [decide_eq_true_eq]
 exact⟨fun h=>⟨_,ubd.2 ⟨Int.le_refl _,h⟩⟩,fun ⟨s,h⟩=>by have:=ubd.1 h;omega⟩
theorem uqu {c:Clr} {q:Nat→Int}:okQ c q=true↔∀x,x<c.cs.length→∃l s,((c.cs.getD x k0).kl≤l∧l≤(c.cs.getD x k0).kh)∧Fits c q x l s:=by
 unfold okQ okK
 rw [uj6]
 refine forall_congr' fun x=>forall_congr' fun hx=> ?_
 rw [uky]
 constructor
 ·rintro⟨j,h1,h2⟩
  obtain⟨s,h3⟩:=utU.1 h2
  unfold lkN at h1
  exact⟨_,s,by omega,h3⟩
 ·rintro⟨l,s,h1,h2⟩
  refine⟨(l-(c.cs.getD x k0).kl).toNat,by unfold lkN;omega,utU.2 ⟨s,?_⟩⟩
  rw [show(c.cs.getD x k0).kl+((l-(c.cs.getD x k0).kl).toNat:Int)=l by omega]
  exact h2
theorem uqX {c:Clr}(hg:ui0 c) {q q':Nat→Int}(e:∀j,j<c.mv.length→q j=q' j):okQ c q=okQ c q':=by
 rw [Bool.eq_iff_iff,uqu,uqu]
 exact⟨fun h x hx=>let ⟨l,s,h1,h2⟩:=h x hx;⟨l,s,h1,h2.cong e hg⟩,fun h x hx=>let ⟨l,s,h1,h2⟩:=h x hx;⟨l,s,h1,h2.cong (fun j hj=>(e j hj).symm) hg⟩⟩
def uxZ (c:Clr):Option (Nat→Int):=(qsC c).find? (okQ c)
def udN (c:Clr):Bool:=(uxZ c).isSome
theorem upL {c:Clr}:udN c=true↔∃q∈qsC c,okQ c q=true:=by
 unfold udN uxZ
 rw [List.find?_isSome]
theorem usK {c:Clr}(hg:ui0 c):udN c=true↔∃st lk q,Tr c st lk q:=by
 rw [upL]
 constructor
 ·rintro⟨q,h1,h2⟩
  have h3:=uqu.1 h2
  refine⟨fun x=>if h:x<c.cs.length then Classical.choose (Classical.choose_spec (h3 x h))else 0,fun x=>if h:x<c.cs.length then Classical.choose (h3 x h)else 0,q,⟨fun j hj=>(ulg.1 h1).1 j (by omega) (by omega),fun x hx=> ?_,fun x hx=> ?_⟩⟩
  ·simp only [hx,dif_pos]
   exact(Classical.choose_spec (Classical.choose_spec (h3 x hx))).1
  ·simp only [hx,dif_pos]
   exact(Classical.choose_spec (Classical.choose_spec (h3 x hx))).2
 ·rintro⟨st,lk,q,h⟩
  refine⟨_,upD h.qr,?_⟩
  rw [uqX hg (q':=q) fun j hj=>us8 hj]
  exact uqu.2 fun x hx=>⟨lk x,st x,h.l x hx,h.f x hx⟩
def loK (z:Int)(p:Nat→Bool)(f:Nat→Int):Nat→Int
 |0=>z
 |n+1=>if p n=true then mn (loK z p f n) (f n)else loK z p f n
def hiK (z:Int)(p:Nat→Bool)(f:Nat→Int):Nat→Int
 |0=>z
 |n+1=>if p n=true then mx (hiK z p f n) (f n)else hiK z p f n
theorem urw {z:Int} {p:Nat→Bool} {f:Nat→Int} {b:Int}:∀{n:Nat},b≤loK z p f n↔b≤z∧∀i,i<n→p i=true→b≤f i:=by
 intro n
 induction n with
 |zero=>exact⟨fun h=>⟨h,fun i hi=>by omega⟩,fun h=>h.1⟩
 | succ n ih=>
  simp only [loK]
  split
  ·rename_i hp
   rw [ulS,ih]
   constructor
   ·rintro⟨⟨h1,h2⟩,h3⟩
    refine⟨h1,fun i hi q=> ?_⟩
    rcases Nat.lt_or_ge i n with r|r
    ·exact h2 i r q
    ·have:i=n:=by omega
     subst this;exact h3
   ·exact fun ⟨h1,h2⟩=>⟨⟨h1,fun i hi=>h2 i (by omega)⟩,h2 n (by omega) hp⟩
  ·rename_i hp
   rw [ih]
   refine⟨fun ⟨h1,h2⟩=>⟨h1,fun i hi q=> ?_⟩,fun ⟨h1,h2⟩=>⟨h1,fun i hi=>h2 i (by omega)⟩⟩
   rcases Nat.lt_or_ge i n with r|r
   ·exact h2 i r q
   ·have:i=n:=by omega
    subst this;exact absurd q hp
theorem urb {z:Int} {p:Nat→Bool} {f:Nat→Int} {b:Int}:∀{n:Nat},hiK z p f n≤b↔z≤b∧∀i,i<n→p i=true→f i≤b:=by
 intro n
 induction n with
 |zero=>exact⟨fun h=>⟨h,fun i hi=>by omega⟩,fun h=>h.1⟩
 | succ n ih=>
  simp only [hiK]
  split
  ·rename_i hp
   rw [ulA,ih]
   constructor
   ·rintro⟨⟨h1,h2⟩,h3⟩
    refine⟨h1,fun i hi q=> ?_⟩
    rcases Nat.lt_or_ge i n with r|r
    ·exact h2 i r q
    ·have:i=n:=by omega
     subst this;exact h3
   ·exact fun ⟨h1,h2⟩=>⟨⟨h1,fun i hi=>h2 i (by omega)⟩,h2 n (by omega) hp⟩
  ·rename_i hp
   rw [ih]
   refine⟨fun ⟨h1,h2⟩=>⟨h1,fun i hi q=> ?_⟩,fun ⟨h1,h2⟩=>⟨h1,fun i hi=>h2 i (by omega)⟩⟩
   rcases Nat.lt_or_ge i n with r|r
   ·exact h2 i r q
   ·have:i=n:=by omega
    subst this;exact absurd q hp
theorem uus {z:Int} {p:Nat→Bool} {f:Nat→Int}:∀{n:Nat},loK z p f n=z∨∃i,i<n∧p i=true∧loK z p f n=f i:=by
 intro n
 induction n with
 |zero=>exact .inl rfl
 | succ n ih=>
  simp only [loK]
  split
  ·rename_i hp
   rcases(uo2 (a:=loK z p f n) (b:=f n)).2.2 with e|e
   ·rw [e];exact ih.imp id fun ⟨i,a,b⟩=>⟨i,by omega,b⟩
   ·exact .inr ⟨n,by omega,hp,e⟩
  ·exact ih.imp id fun ⟨i,a,b⟩=>⟨i,by omega,b⟩
theorem utW {z:Int} {p:Nat→Bool} {f:Nat→Int}:∀{n:Nat},hiK z p f n=z∨∃i,i<n∧p i=true∧hiK z p f n=f i:=by
 intro n
 induction n with
 |zero=>exact .inl rfl
 | succ n ih=>
  simp only [hiK]
  split
  ·rename_i hp
   rcases(uoa (a:=hiK z p f n) (b:=f n)).2.2 with e|e
   ·rw [e];exact ih.imp id fun ⟨i,a,b⟩=>⟨i,by omega,b⟩
   ·exact .inr ⟨n,by omega,hp,e⟩
  ·exact ih.imp id fun ⟨i,a,b⟩=>⟨i,by omega,b⟩
structure IsMin (P:Int→Prop)(v:Int):Prop where
 le:∀x,P x→v≤x
 at':P v
structure IsMax (P:Int→Prop)(v:Int):Prop where
 ge:∀x,P x→x≤v
 at':P v
theorem IsMin.eq {P:Int→Prop} {v w:Int}(h:IsMin P v)(h':IsMin P w):v=w:=by
 have:=h.le w h'.at';have:=h'.le v h.at';omega
theorem IsMax.eq {P:Int→Prop} {v w:Int}(h:IsMax P v)(h':IsMax P w):v=w:=by
 have:=h.ge w h'.at';have:=h'.ge v h.at';omega
theorem uhC {z:Int} {p:Nat→Bool} {f:Nat→Int} {n:Nat}(hs:∃i,i<n∧p i=true)(hz:∀i,i<n→p i=true→f i≤z):IsMin (fun v=>∃i,i<n∧p i=true∧f i=v) (loK z p f n):=by
 refine⟨fun x ⟨i,h1,h2,h3⟩=>h3▸(urw.1 (Int.le_refl _)).2 i h1 h2,?_⟩
 rcases uus (z:=z) (p:=p) (f:=f) (n:=n)with e|⟨i,a,b,e⟩
 ·obtain⟨i,h1,h2⟩:=hs
  have h3:=hz i h1 h2
  have h4:=(urw (z:=z) (p:=p) (f:=f) (b:=loK z p f n) (n:=n)).1 (Int.le_refl _)
  have h5:=h4.2 i h1 h2
  exact⟨i,h1,h2,by omega⟩
 ·exact⟨i,a,b,e.symm⟩
theorem uhO {z:Int} {p:Nat→Bool} {f:Nat→Int} {n:Nat}(hs:∃i,i<n∧p i=true)(hz:∀i,i<n→p i=true→z≤f i):IsMax (fun v=>∃i,i<n∧p i=true∧f i=v) (hiK z p f n):=by
 refine⟨fun x ⟨i,h1,h2,h3⟩=>h3▸(urb.1 (Int.le_refl _)).2 i h1 h2,?_⟩
 rcases utW (z:=z) (p:=p) (f:=f) (n:=n)with e|⟨i,a,b,e⟩
 ·obtain⟨i,h1,h2⟩:=hs
  have h3:=hz i h1 h2
  have h4:=(urb (z:=z) (p:=p) (f:=f) (b:=hiK z p f n) (n:=n)).1 (Int.le_refl _)
  have h5:=h4.2 i h1 h2
  exact⟨i,h1,h2,by omega⟩
 ·exact⟨i,a,b,e.symm⟩
end Go.Eng.Ck

namespace Go.Eng.Ck
def loF (c:Clr)(f:(Nat→Int)→Int):Int→List (Nat→Int)→Int
 |z,[]=>z
 |z,q::l=>loF c f (if okQ c q=true then mn z (f q)else z) l
def hiF (c:Clr)(f:(Nat→Int)→Int):Int→List (Nat→Int)→Int
 |z,[]=>z
 |z,q::l=>hiF c f (if okQ c q=true then mx z (f q)else z) l
theorem unR {c:Clr} {f:(Nat→Int)→Int} {m:List (Nat→Int)}:∀{l:List (Nat→Int)} {z:Int},loF c f z (l++m)=loF c f (loF c f z l) m
 |[],_=>rfl
 |q::l,z=>by simp only [List.cons_append,loF];exact unR
theorem uox {c:Clr} {f:(Nat→Int)→Int} {m:List (Nat→Int)}:∀{l:List (Nat→Int)} {z:Int},hiF c f z (l++m)=hiF c f (hiF c f z l) m
 |[],_=>rfl
 |q::l,z=>by simp only [List.cons_append,hiF];exact uox
theorem uot {c:Clr} {f:(Nat→Int)→Int} {b:Int}:∀{l:List (Nat→Int)} {z:Int},b≤loF c f z l↔b≤z∧∀q∈l,okQ c q=true→b≤f q
 |[],z=>⟨fun h=>⟨h,fun q hq=>by cases hq⟩,fun h=>h.1⟩
 | q ::l,z=>by
  simp only [loF]
  rw [uot]
  constructor
  ·rintro⟨h1,h2⟩
   refine⟨?_,fun q' hq' ho=> ?_⟩
   ·split at h1
    ·exact(ulS.1 h1).1
    ·exact h1
   ·rcases List.mem_cons.1 hq' with e|e
    ·subst e;rw [if_pos ho]at h1;exact(ulS.1 h1).2
    ·exact h2 q' e ho
  ·rintro⟨h1,h2⟩
   refine⟨?_,fun q' hq' ho=>h2 q' (List.mem_cons_of_mem _ hq') ho⟩
   split
   ·rename_i ho;exact ulS.2 ⟨h1,h2 q (by simp) ho⟩
   ·exact h1
theorem uoG {c:Clr} {f:(Nat→Int)→Int} {b:Int}:∀{l:List (Nat→Int)} {z:Int},hiF c f z l≤b↔z≤b∧∀q∈l,okQ c q=true→f q≤b
 |[],z=>⟨fun h=>⟨h,fun q hq=>by cases hq⟩,fun h=>h.1⟩
 | q ::l,z=>by
  simp only [hiF]
  rw [uoG]
  constructor
  ·rintro⟨h1,h2⟩
   refine⟨?_,fun q' hq' ho=> ?_⟩
   ·split at h1
    ·exact(ulA.1 h1).1
    ·exact h1
   ·rcases List.mem_cons.1 hq' with e|e
    ·subst e;rw [if_pos ho]at h1;exact(ulA.1 h1).2
    ·exact h2 q' e ho
  ·rintro⟨h1,h2⟩
   refine⟨?_,fun q' hq' ho=>h2 q' (List.mem_cons_of_mem _ hq') ho⟩
   split
   ·rename_i ho;exact ulA.2 ⟨h1,h2 q (by simp) ho⟩
   ·exact h1
theorem up2 {c:Clr} {f:(Nat→Int)→Int}:∀{l:List (Nat→Int)} {z:Int},loF c f z l=z∨∃q∈l,okQ c q=true∧loF c f z l=f q
 |[],z=>.inl rfl
 | q ::l,z=>by
  simp only [loF]
  rcases up2 (c:=c) (f:=f) (l:=l) (z:=if okQ c q=true then mn z (f q)else z)with e|⟨q',h1,h2,h3⟩
  ·rw [e]
   split
   ·rename_i ho
    rcases(uo2 (a:=z) (b:=f q)).2.2 with e|e
    ·exact .inl e
    ·exact .inr ⟨q,by simp,ho,e⟩
   ·exact .inl rfl
  ·exact .inr ⟨q',List.mem_cons_of_mem _ h1,h2,h3⟩
theorem uod {c:Clr} {f:(Nat→Int)→Int}:∀{l:List (Nat→Int)} {z:Int},hiF c f z l=z∨∃q∈l,okQ c q=true∧hiF c f z l=f q
 |[],z=>.inl rfl
 | q ::l,z=>by
  simp only [hiF]
  rcases uod (c:=c) (f:=f) (l:=l) (z:=if okQ c q=true then mx z (f q)else z)with e|⟨q',h1,h2,h3⟩
  ·rw [e]
   split
   ·rename_i ho
    rcases(uoa (a:=z) (b:=f q)).2.2 with e|e
    ·exact .inl e
    ·exact .inr ⟨q,by simp,ho,e⟩
   ·exact .inl rfl
  ·exact .inr ⟨q',List.mem_cons_of_mem _ h1,h2,h3⟩
theorem uo7 {c:Clr} {f:(Nat→Int)→Int} {l:List (Nat→Int)} {z:Int}(hs:∃q∈l,okQ c q=true)(hz:∀q∈l,okQ c q=true→f q≤z):IsMin (fun v=>∃q∈l,okQ c q=true∧f q=v) (loF c f z l):=by
 have h0:=(uot (c:=c) (f:=f) (l:=l) (z:=z) (b:=loF c f z l)).1 (Int.le_refl _)
 refine⟨fun x ⟨q,h1,h2,h3⟩=>h3▸h0.2 q h1 h2,?_⟩
 rcases up2 (c:=c) (f:=f) (l:=l) (z:=z)with e|⟨q,a,b,e⟩
 ·obtain⟨q,h1,h2⟩:=hs
  have:=hz q h1 h2
  have:=h0.2 q h1 h2
  exact⟨q,h1,h2,by omega⟩
 ·exact⟨q,a,b,e.symm⟩
theorem umO {c:Clr} {f:(Nat→Int)→Int} {l:List (Nat→Int)} {z:Int}(hs:∃q∈l,okQ c q=true)(hz:∀q∈l,okQ c q=true→z≤f q):IsMax (fun v=>∃q∈l,okQ c q=true∧f q=v) (hiF c f z l):=by
 have h0:=(uoG (c:=c) (f:=f) (l:=l) (z:=z) (b:=hiF c f z l)).1 (Int.le_refl _)
 refine⟨fun x ⟨q,h1,h2,h3⟩=>h3▸h0.2 q h1 h2,?_⟩
 rcases uod (c:=c) (f:=f) (l:=l) (z:=z)with e|⟨q,a,b,e⟩
 ·obtain⟨q,h1,h2⟩:=hs
  have:=hz q h1 h2
  have:=h0.2 q h1 h2
  exact⟨q,h1,h2,by omega⟩
 ·exact⟨q,a,b,e.symm⟩
def cnL (c:Clr)(q:Nat→Int)(x n j:Nat):Int:=rLo c q x ((c.cs.getD x k0).kl+(j:Int))+gN c.mv q x ((c.cs.getD x k0).kl+(j:Int)) n
def cnH (c:Clr)(q:Nat→Int)(x n j:Nat):Int:=rHi c q x ((c.cs.getD x k0).kl+(j:Int))+gN c.mv q x ((c.cs.getD x k0).kl+(j:Int)) n
def cLo (c:Clr)(q:Nat→Int)(x n:Nat):Int:=loK 9999 (okL c q x) (cnL c q x n) (lkN (c.cs.getD x k0))
def cHi (c:Clr)(q:Nat→Int)(x n:Nat):Int:=hiK (-1) (okL c q x) (cnH c q x n) (lkN (c.cs.getD x k0))
def bLo (c:Clr)(x n:Nat):Int:=loF c (fun q=>cLo c q x n) 9999 (qsC c)
def bHi (c:Clr)(x n:Nat):Int:=hiF c (fun q=>cHi c q x n) (-1) (qsC c)
theorem ugU {c:Clr} {q:Nat→Int} {x j:Nat}(h:okL c q x j=true):rLo c q x ((c.cs.getD x k0).kl+(j:Int))≤rHi c q x ((c.cs.getD x k0).kl+(j:Int)):=of_decide_eq_true h
theorem umo {c:Clr} {x:Nat} {l:Int}(h:(c.cs.getD x k0).kl≤l∧l≤(c.cs.getD x k0).kh):∃j,j<lkN (c.cs.getD x k0)∧(c.cs.getD x k0).kl+(j:Int)=l:=⟨(l-(c.cs.getD x k0).kl).toNat,by unfold lkN;omega,by omega⟩
theorem uj2 {c:Clr} {x j:Nat}(h:j<lkN (c.cs.getD x k0)):(c.cs.getD x k0).kl≤(c.cs.getD x k0).kl+(j:Int)∧(c.cs.getD x k0).kl+(j:Int)≤(c.cs.getD x k0).kh:=by
 unfold lkN at h;omega
theorem uh5 {c:Clr}(hc:COk c) {q:Nat→Int} {x:Nat}(hx:x<c.cs.length) {l s:Int}(h:Fits c q x l s) {n:Nat}(hn:n≤c.mv.length):0≤s+gN c.mv q x l n∧s+gN c.mv q x l n≤1000:=by
 have h1:=h.all n (by omega)
 have h2:=(hc.k x hx).m.top
 rw [Int.toNat_natCast]at h1
 omega
theorem upR {c:Clr}(hc:COk c) {q:Nat→Int} {x:Nat}(hx:x<c.cs.length) {n j:Nat}(hn:n≤c.mv.length)(h:okL c q x j=true):0≤cnL c q x n j∧cnL c q x n j≤cnH c q x n j∧cnH c q x n j≤1000:=by
 have h0:=ugU h
 have h1:=uh5 hc hx (ubd.2 ⟨Int.le_refl _,h0⟩) hn
 have h2:=uh5 hc hx (ubd.2 ⟨h0,Int.le_refl _⟩) hn
 unfold cnL cnH
 omega
theorem ueb {c:Clr} {q:Nat→Int}(ho:okQ c q=true) {x:Nat}(hx:x<c.cs.length):∃j,j<lkN (c.cs.getD x k0)∧okL c q x j=true:=uky.1 (uj6.1 ho x hx)
theorem uub {c:Clr}(hc:COk c) {q:Nat→Int}(ho:okQ c q=true) {x:Nat}(hx:x<c.cs.length) {n:Nat}(hn:n≤c.mv.length):IsMin (fun v=>∃l s,((c.cs.getD x k0).kl≤l∧l≤(c.cs.getD x k0).kh)∧Fits c q x l s∧s+gN c.mv q x l n=v) (cLo c q x n):=by
 have h:=uhC (z:=9999) (f:=cnL c q x n) (ueb ho hx) fun i _ hi=>by have:=upR hc hx hn hi;omega
 refine⟨fun v ⟨l,s,h1,h2,h3⟩=> ?_,?_⟩
 ·obtain⟨j,hj,e⟩:=umo h1
  subst e
  have h4:=ubd.1 h2
  have h5:okL c q x j=true:=decide_eq_true (by omega)
  have:=h.le _ ⟨j,hj,h5,rfl⟩
  unfold cLo
  unfold cnL at this⊢
  omega
 ·obtain⟨j,hj,h5,e⟩:=h.at'
  exact⟨_,_,uj2 hj,ubd.2 ⟨Int.le_refl _,ugU h5⟩,e⟩
theorem utN {c:Clr}(hc:COk c) {q:Nat→Int}(ho:okQ c q=true) {x:Nat}(hx:x<c.cs.length) {n:Nat}(hn:n≤c.mv.length):IsMax (fun v=>∃l s,((c.cs.getD x k0).kl≤l∧l≤(c.cs.getD x k0).kh)∧Fits c q x l s∧s+gN c.mv q x l n=v) (cHi c q x n):=by
 have h:=uhO (z:= -1) (f:=cnH c q x n) (ueb ho hx) fun i _ hi=>by have:=upR hc hx hn hi;omega
 refine⟨fun v ⟨l,s,h1,h2,h3⟩=> ?_,?_⟩
 ·obtain⟨j,hj,e⟩:=umo h1
  subst e
  have h4:=ubd.1 h2
  have h5:okL c q x j=true:=decide_eq_true (by omega)
  have:=h.ge _ ⟨j,hj,h5,rfl⟩
  unfold cHi
  unfold cnH at this⊢
  omega
 ·obtain⟨j,hj,h5,e⟩:=h.at'
  exact⟨_,_,uj2 hj,ubd.2 ⟨ugU h5,Int.le_refl _⟩,e⟩
theorem uxX {c:Clr}(hc:COk c) {q:Nat→Int}(ho:okQ c q=true) {x:Nat}(hx:x<c.cs.length) {n:Nat}(hn:n≤c.mv.length):0≤cLo c q x n∧cLo c q x n≤cHi c q x n∧cHi c q x n≤1000:=by
 have h1:=uub hc ho hx hn
 have h2:=utN hc ho hx hn
 have h3:=h1.le _ h2.at'
 obtain⟨l,s,a,b,e⟩:=h1.at'
 obtain⟨l',s',a',b',e'⟩:=h2.at'
 have q1:=uh5 hc hx b hn
 have q2:=uh5 hc hx b' hn
 omega
def lkV (c:Clr)(x j:Nat):Int:=(c.mv.length:Int)*((c.cs.getD x k0).kl+(j:Int))
def eLo (c:Clr)(q:Nat→Int)(x:Nat):Int:=loK 9999 (okL c q x) (lkV c x) (lkN (c.cs.getD x k0))
def eHi (c:Clr)(q:Nat→Int)(x:Nat):Int:=hiK (-1) (okL c q x) (lkV c x) (lkN (c.cs.getD x k0))
def lLo (c:Clr)(x:Nat):Int:=loF c (fun q=>eLo c q x) 9999 (qsC c)
def lHi (c:Clr)(x:Nat):Int:=hiF c (fun q=>eHi c q x) (-1) (qsC c)
theorem uvn {m:Nat} {l:Int}(hm:m≤4)(h0:0≤l)(h1:l≤4):0≤(m:Int)*l∧(m:Int)*l≤16:=by
 have a:=Int.mul_nonneg (show(0:Int)≤m by omega) h0
 have b:=Int.mul_le_mul_of_nonneg_right (show(m:Int)≤4 by omega) h0
 omega
theorem ujf {c:Clr}(hc:COk c) {x:Nat}(hx:x<c.cs.length) {j:Nat}(hj:j<lkN (c.cs.getD x k0)):0≤lkV c x j∧lkV c x j≤16:=by
 have h:=uj2 hj
 have h1:=(hc.k x hx).l0
 have h2:=(hc.k x hx).l2
 exact uvn hc.m4 (by omega) (by omega)
theorem utD {c:Clr}(hc:COk c) {q:Nat→Int}(ho:okQ c q=true) {x:Nat}(hx:x<c.cs.length):IsMin (fun v=>∃l s,((c.cs.getD x k0).kl≤l∧l≤(c.cs.getD x k0).kh)∧Fits c q x l s∧(c.mv.length:Int)*l=v) (eLo c q x):=by
 have h:=uhC (z:=9999) (f:=lkV c x) (ueb ho hx) fun i hi _=>by have:=ujf hc hx hi;omega
 refine⟨fun v ⟨l,s,h1,h2,h3⟩=> ?_,?_⟩
 ·obtain⟨j,hj,e⟩:=umo h1
  subst e
  have h4:=ubd.1 h2
  exact h3▸h.le _ ⟨j,hj,decide_eq_true (by omega),rfl⟩
 ·obtain⟨j,hj,h5,e⟩:=h.at'
  exact⟨_,_,uj2 hj,ubd.2 ⟨Int.le_refl _,ugU h5⟩,e⟩
theorem utZ {c:Clr}(hc:COk c) {q:Nat→Int}(ho:okQ c q=true) {x:Nat}(hx:x<c.cs.length):IsMax (fun v=>∃l s,((c.cs.getD x k0).kl≤l∧l≤(c.cs.getD x k0).kh)∧Fits c q x l s∧(c.mv.length:Int)*l=v) (eHi c q x):=by
 have h:=uhO (z:= -1) (f:=lkV c x) (ueb ho hx) fun i hi _=>by have:=ujf hc hx hi;omega
 refine⟨fun v ⟨l,s,h1,h2,h3⟩=> ?_,?_⟩
 ·obtain⟨j,hj,e⟩:=umo h1
  subst e
  have h4:=ubd.1 h2
  exact h3▸h.ge _ ⟨j,hj,decide_eq_true (by omega),rfl⟩
 ·obtain⟨j,hj,h5,e⟩:=h.at'
  exact⟨_,_,uj2 hj,ubd.2 ⟨Int.le_refl _,ugU h5⟩,e⟩
theorem uxO {c:Clr}(hc:COk c) {q:Nat→Int}(ho:okQ c q=true) {x:Nat}(hx:x<c.cs.length):0≤eLo c q x∧eLo c q x≤eHi c q x∧eHi c q x≤16:=by
 have h1:=utD hc ho hx
 have h2:=utZ hc ho hx
 have h3:=h1.le _ h2.at'
 obtain⟨l,s,a,b,e⟩:=h1.at'
 obtain⟨l',s',a',b',e'⟩:=h2.at'
 have k1:=(hc.k x hx).l0
 have k2:=(hc.k x hx).l2
 have q1:=uvn hc.m4 (l:=l) (by omega) (by omega)
 have q2:=uvn hc.m4 (l:=l') (by omega) (by omega)
 omega
end Go.Eng.Ck

namespace Go.Eng.Ck
open Go Go.Eng Go.Eng.Few
def ubh (c:Clr)(gs:List Gau):Clr:=⟨c.cs,c.mv,gs⟩
theorem uvo {gs:List Gau} {i:Nat}(h:i<gs.length):gs.getD i g0∈gs:=by
 rw [List.getD_eq_getElem?_getD,List.getElem?_eq_getElem h];exact List.getElem_mem h
theorem uxQ {gs:List Gau} {g:Gau}(h:g∈gs):∃i,i<gs.length∧gs.getD i g0=g:=by
 obtain⟨i,h1,h2⟩:=List.getElem_of_mem h
 exact⟨i,h1,by rw [List.getD_eq_getElem?_getD,List.getElem?_eq_getElem h1];exact h2⟩
theorem ufQ {c:Clr}(h:COk c) {gs:List Gau}(hl:gs.length≤6)(hg:∀g∈gs,GOk c.cs c.mv.length g):COk (ubh c gs):=
 ⟨h.c1,h.c3,h.m4,hl,h.k,h.v,fun i hi=>hg _ (uvo hi)⟩
theorem COk.gm {c:Clr}(h:COk c):∀g∈c.gs,GOk c.cs c.mv.length g:=fun g hg=>by
 obtain⟨i,h1,h2⟩:=uxQ hg
 rw [←h2];exact h.g i h1
theorem ury {c:Clr}(h:COk c):COk (ubh c []):=ufQ h (by simp) (fun g hg=>by cases hg)
structure Rt (c:Clr)(g:Gau)(st lk q:Nat→Int):Prop where
 lo:mLo c.cs g≤st g.c.toNat+gN c.mv q g.c (lk g.c.toNat) g.a.toNat
 hi:st g.c.toNat+gN c.mv q g.c (lk g.c.toNat) g.a.toNat≤mHi c.cs g
theorem uoV {c:Clr} {gs:List Gau}(hg:∀g∈gs,0≤g.c∧g.c<(c.cs.length:Int)) {st lk q:Nat→Int}:Tr (ubh c gs) st lk q↔Tr (ubh c []) st lk q∧∀g∈gs,Rt c g st lk q:=by
 constructor
 ·intro h
  refine⟨⟨h.qr,h.l,fun x hx=>⟨(h.f x hx).st,(h.f x hx).all,fun i hi=>absurd hi (Nat.not_lt_zero _)⟩⟩,fun g hm=> ?_⟩
  obtain⟨i,h1,h2⟩:=uxQ hm
  have hb:=hg g hm
  have hf:=(h.f g.c.toNat (show g.c.toNat<c.cs.length by omega)).gs i h1
  rw [show((g.c.toNat:Nat):Int)=g.c by omega,show(ubh c gs).gs.getD i g0=g from h2]at hf
  have:=hf rfl
  exact⟨this.1,this.2⟩
 ·rintro⟨h,hr⟩
  refine⟨h.qr,h.l,fun x hx=>⟨(h.f x hx).st,(h.f x hx).all,fun i hi hxi=> ?_⟩⟩
  have hm:(ubh c gs).gs.getD i g0∈gs:=uvo hi
  have:=hr _ hm
  generalize (ubh c gs).gs.getD i g0=g at *
  have e:g.c.toNat=x:=by omega
  have h1:=this.lo
  have h2:=this.hi
  rw [e,hxi]at h1 h2
  exact⟨h1,h2⟩
theorem uuf {cs:List Csk} {M:Nat} {g:Gau}(h:GOk cs M g):0≤g.c∧g.c<(cs.length:Int):=⟨h.c0,h.c1⟩
theorem ukW {c:Clr} {gs:List Gau}(hg:∀g∈gs,GOk c.cs c.mv.length g):udN (ubh c gs)=true↔∃st lk q,Tr (ubh c []) st lk q∧∀g∈gs,Rt c g st lk q:=by
 have hi:ui0 (ubh c gs):=fun i (hi:i<gs.length)=>by
  have h:=hg _ (uvo hi)
  have h1:=h.a1
  have h0:=h.a0
  show(gs.getD i g0).a.toNat≤c.mv.length
  omega
 rw [usK hi]
 exact⟨fun ⟨st,lk,q,h⟩=>⟨st,lk,q,(uoV fun g hm=>uuf (hg g hm)).1 h⟩,fun ⟨st,lk,q,h⟩=>⟨st,lk,q,(uoV fun g hm=>uuf (hg g hm)).2 h⟩⟩
def kpG (gs:List Gau)(p:Nat→Bool):Nat→List Gau
 |0=>[]
 |n+1=>if p n=true then kpG gs p n++[gs.getD n g0]else kpG gs p n
theorem uhU {gs:List Gau} {p:Nat→Bool} {g:Gau}:∀{n:Nat},g∈kpG gs p n↔∃i,i<n∧p i=true∧gs.getD i g0=g
 |0=>⟨fun h=>(by cases h),fun ⟨i,h,_⟩=>by omega⟩
 | n + 1 =>by
  simp only [kpG]
  have ih:=uhU (gs:=gs) (p:=p) (g:=g) (n:=n)
  split
  ·rename_i hp
   rw [List.mem_append,ih,List.mem_singleton]
   constructor
   ·rintro(⟨i,h1,h2⟩|h)
    ·exact⟨i,by omega,h2⟩
    ·exact⟨n,by omega,hp,h.symm⟩
   ·rintro⟨i,h1,h2,h3⟩
    rcases Nat.lt_or_ge i n with r|r
    ·exact .inl ⟨i,r,h2,h3⟩
    ·have:i=n:=by omega
     subst this;exact .inr h3.symm
  ·rename_i hp
   rw [ih]
   constructor
   ·rintro⟨i,h1,h2⟩;exact⟨i,by omega,h2⟩
   ·rintro⟨i,h1,h2,h3⟩
    rcases Nat.lt_or_ge i n with r|r
    ·exact⟨i,r,h2,h3⟩
    ·have:i=n:=by omega
     subst this;exact absurd h2 hp
theorem ugz {gs:List Gau} {p:Nat→Bool}:∀n,(kpG gs p n).length≤n
 |0=>Nat.le_refl _
 | n+1=>by
  have:=ugz (gs:=gs) (p:=p) n
  simp only [kpG];split
  ·rw [List.length_append];simp;omega
  ·omega
theorem uu1 {gs:List Gau} {p:Nat→Bool} {n:Nat}(h:p n=true):kpG gs p (n+1)=kpG gs p n++[gs.getD n g0]:=by simp only [kpG,h,if_true]
theorem uu7 {gs:List Gau} {p:Nat→Bool} {n:Nat}(h:p n=false):kpG gs p (n+1)=kpG gs p n:=by simp only [kpG,h,Bool.false_eq_true,if_false]
theorem umN {gs:List Gau} {p:Nat→Bool} {g:Gau} {n:Nat}(hn:n≤gs.length)(h:g∈kpG gs p n):g∈gs:=by
 obtain⟨i,h1,_,h3⟩:=uhU.1 h
 rw [←h3];exact uvo (by omega)
def uvB (c:Clr)(p:Nat→Bool):Bool:=udN (ubh c (kpG c.gs p c.gs.length))
theorem upT {c:Clr}(h:COk c) {p:Nat→Bool}:uvB c p=true↔∃st lk q,Tr (ubh c []) st lk q∧∀i,i<c.gs.length→p i=true→Rt c (c.gs.getD i g0) st lk q:=by
 unfold uvB
 rw [ukW fun g hg=>h.gm g (umN (Nat.le_refl _) hg)]
 constructor
 ·rintro⟨st,lk,q,h1,h2⟩
  exact⟨st,lk,q,h1,fun i hi hp=>h2 _ (uhU.2 ⟨i,hi,hp,rfl⟩)⟩
 ·rintro⟨st,lk,q,h1,h2⟩
  refine⟨st,lk,q,h1,fun g hg=> ?_⟩
  obtain⟨i,a,b,e⟩:=uhU.1 hg
  rw [←e];exact h2 i a b
theorem unf {c:Clr}(h:COk c) {p:Nat→Bool}(hp:∀i,i<c.gs.length→p i=false):uvB c p=udN (ubh c []):=by
 rw [Bool.eq_iff_iff,upT h,ukW (gs:=[]) fun g hg=>by cases hg]
 constructor
 ·rintro⟨st,lk,q,h1,_⟩
  exact⟨st,lk,q,h1,fun g hg=>by cases hg⟩
 ·rintro⟨st,lk,q,h1,_⟩
  exact⟨st,lk,q,h1,fun i hi e=>by rw [hp i hi]at e;cases e⟩
theorem urW {c:Clr}(h:COk c)(n:Nat):COk (ubh c (c.gs.take n)):=ufQ h (by rw [List.length_take];have:=h.g6;omega) fun g hg=>h.gm g (List.mem_of_mem_take hg)
def upv (o:List Int)(i:Nat):Bool:= !(o.contains (i:Int))
def okG (c:Clr)(o:List Int):Bool:=uvB c (upv o)
theorem usO {c:Clr}(h:COk c):okG c (uhn c.gs.length)=udN (ubh c []):=unf h fun i hi=>by
 unfold upv
 rw [List.contains_iff_mem.2 (uql hi)];rfl
def uvp (c:Clr):List Int:=uwE c.gs.length (okG c)
def upx (c:Clr):Nat→Nat→Option Nat
 |0,_=>none
 |n+1,i=>if udN (ubh c (c.gs.take (i+1)))=true then upx c n (i+1)else some i
theorem usr {c:Clr} {n i:Nat}(hn:0<n)(h:udN (ubh c (c.gs.take (i+1)))=true):upx c n i=upx c (n-1) (i+1):=by
 cases n with
 |zero=>omega
 |succ n=>simp only [upx,h,if_true,Nat.add_sub_cancel]
theorem uoY {c:Clr} {n i:Nat}(hn:0<n)(h:udN (ubh c (c.gs.take (i+1)))=false):upx c n i=some i:=by
 cases n with
 |zero=>omega
 |succ n=>simp only [upx,h,Bool.false_eq_true,if_false]
end Go.Eng.Ck

namespace Go.Eng.Ck
structure Rgs (P:Nat)(lo hi:Nat→Int):Prop where
 le:∀i,i<P→lo i≤hi i
end Go.Eng.Ck

namespace Go.Proofs.Ytpkgnhcfmpbidaa
open Go Go.Eng Go.Proofs
abbrev iv (f : Unit → Int) : SV := .int .i64 (.sym f)
abbrev bv (f : Unit → Bool) : SV := .bool (.sym f)
abbrev iS (l : List Int) : SV := .sl 1 (.sym fun _ => zi l.length) (fun ix => [.int .i64 (.sym fun _ => l.getD ix.den.toNat 0)])
def ti3 :TI:=⟨.int .i64,1,8,[.one (.int .i64)]⟩
def ti4 :TI:=⟨.bool,1,1,[.one .bool]⟩
def ti5 :TI:=⟨.int .u8,1,1,[.one (.int .u8)]⟩
def uyh :TI:=⟨.sli 52,1,24,[.one .sli]⟩
def uzj :TI:=⟨.sli 82,1,24,[.one .sli]⟩
def uye :TI:=⟨.sli 49,1,24,[.one .sli]⟩
def uy7 :TI:=⟨.str [(0,22),(1,23),(2,24)],3,72,[.one .sli,.one .sli,.one .sli]⟩
def uzg :TI:=⟨.int .i64,1,8,[.one (.int .i64)]⟩
def uyM :TI:=⟨.sli 115,1,24,[.one .sli]⟩
def uyH :TI:=⟨.sli 119,1,24,[.one .sli]⟩
def uy5 :TI:=⟨.sli 111,1,24,[.one .sli]⟩
def uyL :TI:=⟨.str [(0,32),(1,33),(2,34)],3,72,[.one .sli,.one .sli,.one .sli]⟩
def uz3 :TI:=⟨.str [(0,3),(1,3)],2,16,[.one (.int .i64),.one (.int .i64)]⟩
def uyk :TI:=⟨.str [(0,3),(1,3)],2,16,[.one (.int .i64),.one (.int .i64)]⟩
def uyu :TI:=⟨.str [(0,3),(1,3),(2,46),(4,4)],5,40,[.one (.int .i64),.one (.int .i64),.one (.int .i64),.one (.int .i64),.one .bool]⟩
def uyV :TI:=⟨.sli 126,1,24,[.one .sli]⟩
def uzh :TI:=⟨.str [(0,50),(1,46),(3,46)],5,56,[.one .sli,.one (.int .i64),.one (.int .i64),.one (.int .i64),.one (.int .i64)]⟩
def uyQ :TI:=⟨.sli 59,1,24,[.one .sli]⟩
def uze :TI:=⟨.sli 39,1,24,[.one .sli]⟩
def uyb :TI:=⟨.sli 3,1,24,[.one .sli]⟩
def uyv :TI:=⟨.sli 146,1,24,[.one .sli]⟩
def uyi :TI:=⟨.int .u16,1,2,[.one (.int .u16)]⟩
def uyO :TI:=⟨.str [(0,3),(1,3),(2,46)],4,32,[.one (.int .i64),.one (.int .i64),.one (.int .i64),.one (.int .i64)]⟩
def uzf :TI:=⟨.str [(0,62),(1,62),(2,62)],3,72,[.one .sli,.one .sli,.one .sli]⟩
def uyp :TI:=⟨.sli 62,1,24,[.one .sli]⟩
def uyK :TI:=⟨.str [(0,62),(1,62),(2,62)],3,72,[.one .sli,.one .sli,.one .sli]⟩
def uzk :TI:=⟨.sli 72,1,24,[.one .sli]⟩
def uxD :TI:=⟨.str [(0,3),(1,3),(2,39),(4,4)],5,40,[.one (.int .i64),.one (.int .i64),.one (.int .i64),.one (.int .i64),.one .bool]⟩
def uw3 :TI:=⟨.sli 117,1,24,[.one .sli]⟩
def uwX :TI:=⟨.str [(0,113),(1,39),(3,39)],5,56,[.one .sli,.one (.int .i64),.one (.int .i64),.one (.int .i64),.one (.int .i64)]⟩
def uwK :TI:=⟨.str [(0,3),(1,3)],2,16,[.one (.int .i64),.one (.int .i64)]⟩
def uwc :TI:=⟨.str [(0,3),(1,3),(2,39)],4,32,[.one (.int .i64),.one (.int .i64),.one (.int .i64),.one (.int .i64)]⟩
def ux8 :TI:=⟨.int .u64,1,8,[.one (.int .u64)]⟩
def uwI :TI:=⟨.str [(0,3),(1,3)],2,16,[.one (.int .i64),.one (.int .i64)]⟩
def uwD :TI:=⟨.one,1,8,[.one .fn]⟩
def uwT :TI:=⟨.one,1,8,[.one .fn]⟩
def uvZ :TI:=⟨.one,1,8,[.one .fn]⟩
def uvT :TI:=⟨.one,1,8,[.one .fn]⟩
def uwH :TI:=⟨.one,1,8,[.one .ptr]⟩
def uws :TI:=⟨.str [(0,134)],1,8,[.one .fn]⟩
def uwg :TI:=⟨.str [(0,90),(1,62),(2,3)],3,56,[.one .sli,.one .sli,.one (.int .i64)]⟩
def uxy :TI:=⟨.one,1,8,[.one .fn]⟩
def uw1 :TI:=⟨.arr 4 3,4,32,[.rep 4 (.int .i64)]⟩
def uvV :TI:=⟨.one,1,8,[.one .mp]⟩
def uxw :TI:=⟨.str [(0,36),(3,154),(7,163)],8,112,[.one .sli,.one .sli,.one .sli,.rep 4 (.int .i64),.one .mp]⟩
def uxu :TI:=⟨.one,1,8,[.one .fn]⟩
def uwo :TI:=⟨.sli 4,1,24,[.one .sli]⟩
def uxc :TI:=⟨.str [(0,3),(1,3)],2,16,[.one (.int .i64),.one (.int .i64)]⟩
def uxd :TI:=⟨.one,1,8,[.one .fn]⟩
def uwM :TI:=⟨.one,1,8,[.one .fn]⟩
def uxU :List (Nat×TI):=[(3,ti3),(4,ti4),(5,ti5),(22,uyh),(23,uzj),(24,uye),(26,uy7),(29,uzg),(32,uyM),(33,uyH),(34,uy5),(36,uyL),(39,uz3),(46,uyk),(49,uyu),(50,uyV),(52,uzh),(56,uyQ),(59,uze),(62,uyb),(65,uyv),(72,uyi),(82,uyO),(88,uzf),(90,uyp),(93,uyK),(99,uzk),(111,uxD),(113,uw3),(115,uwX),(117,uwK),(119,uwc),(120,ux8),(126,uwI),(128,uwD),(129,uwT),(130,uvZ),(134,uvT),(136,uwH),(138,uws),(146,uwg),(148,uxy),(154,uw1),(163,uvV),(165,uxw),(166,uxu),(168,uwo),(170,uxc),(177,uxd),(184,uwM)]
def tab :uar:=fun t=>lk uxU t
def qr (n:Nat):List Nat:=List.range n
def qs (a n:Nat):List Nat:=List.range' a n
def qa (i:Nat)(p:List Nat):SE:=⟨i,false,p,false,0,none⟩
def qb (i:Nat)(p:List Nat):SE:=⟨i,true,p,false,0,none⟩
def sc3 :SC:=[(14,[qb 0 [],qb 1 [0],⟨2,true,[0,1],true,0,none⟩,qa 3 [0,1,2],qa 4 [0,1,2],qa 5 [0,1,2],qa 6 (qs 0 3++qs 5 1),qa 7 [0,1,2],qa 8 (qs 0 3++qs 5 3),qa 9 (qs 0 3++qs 5 4),qa 10 (qs 0 3++qs 4 6),qa 11 (qs 0 3++qs 4 7),qb 12 (qr 12),qb 13 (qr 13)])]
def uyy :SC:=[]
def uw6 :SC:=[]
def uvY :SC:=[]
def uvW :SC:=[(6,[qa 0 [],qa 1 [],qa 2 [1],qa 3 [],qa 4 [1,2,3],qa 5 (qs 1 4),qb 6 (qr 6),qb 7 (qr 7),qb 8 (qr 8)])]
def uyJ :SC:=[]
def uzi :SC:=[(1,[qa 0 [],qa 1 [0],qa 2 [],qa 3 [2],qa 4 [0,1],qb 5 (qr 5)])]
def uy4 :SC:=[]
def uzb :SC:=[]
def uym :SC:=[(3,[qa 0 [],qa 1 [],qa 3 [],qa 4 [3],qa 5 [3,4],qa 8 [],qa 9 [],qa 11 [],qa 12 [11],qa 13 [11,12],qa 2 [1],qa 6 (qs 1 5),qa 7 (qr 7),qa 10 (qs 0 8++qs 9 1),qa 14 (qs 0 8++qs 9 5),qb 15 (qr 15),qb 16 (qr 16),qb 17 (qr 17)]),(4,[qa 0 [],qa 1 [],qa 2 [1],qa 3 [1,2],qa 5 [],qa 6 [],qa 7 [6],qa 8 [6,7],qa 4 (qr 4),qb 9 (qr 9),qb 10 (qr 10),qb 11 (qr 11)])]
def uyF :SC:=[]
def uzc :SC:=[(4,[qa 0 [],qa 1 [0],qa 2 [],qa 3 [2],qa 4 (qr 4),qa 5 (qr 5),qa 6 [],⟨7,false,[6],false,4,none⟩,qa 8 [],⟨9,false,[6,7,8],false,4,none⟩,⟨10,false,(qs 6 4),false,4,none⟩,qa 11 [],qa 12 [],⟨13,true,(qs 0 6++qs 11 2),false,3,none⟩,qb 14 (qr 14)]),(6,[qa 0 [],qa 1 [0],qa 2 [],qa 3 [2],qa 4 [],qa 5 [4],qa 6 (qs 2 4),qa 7 [],qa 8 [],qa 9 [8],qa 10 [7,8,9],qa 11 (qs 2 9),qa 12 [],qa 13 [12],qa 14 [],qa 15 [14],qa 16 (qs 12 4),qa 17 (qs 2 15),qb 18 (qr 18),qb 19 (qr 19)])]
def uyd :SC:=[]
def uyj :SC:=[(7,[qa 0 [],qa 1 [],qa 2 [1],qa 3 [1,2],qb 4 (qr 4),qb 5 (qr 5)])]
def uz2 :SC:=[]
def uyS :SC:=[]
def uyC :SC:=[(6,[qa 0 [],qa 1 [],qa 2 [0,1],qa 3 [0,1,2],qa 4 [],qa 5 [],qa 6 [4,5],qa 7 [4,5,6],qb 8 (qr 8)])]
def uyB :SC:=[]
def uyt :SC:=[]
def uyZ :SC:=[(19,[qa 0 [],qa 1 [0],qa 2 [],qa 3 [0,1,2],qa 4 (qr 4),qa 5 (qr 5),qa 6 [],qa 7 [6],qa 8 [],qa 9 [8],qa 10 (qs 6 4),qa 11 (qs 6 5),qa 12 (qs 6 6),qa 13 (qs 6 7),qb 14 (qr 14),qb 15 (qr 15),⟨16,true,(qr 16),true,0,none⟩,qa 17 (qr 17),qa 18 (qr 18),qa 19 (qr 17),qa 20 (qr 20),qa 21 (qr 21),qa 22 (qr 22),qa 23 (qr 17),qa 24 (qs 0 17++qs 23 1),qa 25 (qr 17),qa 26 (qs 0 17++qs 25 1),qa 27 (qs 0 17++qs 23 4),qa 28 (qs 0 17++qs 23 5),qa 29 (qs 0 17++qs 23 6),qa 30 (qs 0 17++qs 23 7),qb 31 (qr 31),qb 32 (qr 32),qb 33 (qr 33)]),(21,[qa 0 [],qa 1 [0],qa 2 [],qa 3 [2],qb 4 (qr 4),qb 5 (qr 5),⟨6,true,(qr 6),true,0,none⟩,qb 7 (qr 7),qb 8 (qr 8),qb 9 (qr 9),qb 10 (qr 10),qb 11 (qr 11)]),(33,[qa 0 [],qa 1 [0],qa 2 [],qa 3 [2],qa 4 [2,3],qa 5 [2,3,4],qb 6 (qr 6),qb 7 (qr 7),⟨8,true,(qr 8),true,0,none⟩,qa 9 (qr 9),qa 10 (qr 10),qa 11 (qr 9),qa 12 (qs 0 9++qs 11 1),qa 13 (qs 0 9++qs 11 2),qb 14 (qr 14),qb 15 (qr 15),qb 16 (qr 16),⟨17,true,(qr 17),true,0,none⟩,qa 18 (qr 18),qa 19 (qr 19),qa 20 (qr 18),qa 21 (qs 0 18++qs 20 1),qa 22 (qr 18),qa 23 (qs 0 18++qs 22 1),qa 24 (qs 0 18++qs 20 4),qa 25 (qs 0 18++qs 20 5),qa 26 (qs 0 18++qs 20 6),qb 27 (qr 27),qb 28 (qr 28),qb 29 (qr 29)])]
def uyo :SC:=[(7,[qa 0 [],qa 1 [],qa 2 [1],qa 3 [],qa 4 [3],qa 5 (qs 1 4),qb 6 (qr 6),qb 7 (qr 7),qb 8 (qr 8)])]
def uxK :SC:=[]
def uza :SC:=[]
def uyn :SC:=[(6,[qa 0 [],qa 1 [],qa 2 [0,1],qa 3 [0,1,2],qa 4 [],qa 5 [],qa 6 [4,5],qa 7 [4,5,6],qb 8 (qr 8)])]
def uyc :SC:=[]
def uys :SC:=[]
def uz8 :SC:=[(4,[qa 0 [],qa 1 [0],qa 2 [],qa 3 [2],qa 4 (qr 4),qa 5 (qr 5),qa 6 [],⟨7,false,[6],false,4,none⟩,qa 8 [],⟨9,false,[6,7,8],false,4,none⟩,⟨10,false,(qs 6 4),false,4,none⟩,qa 11 [],qa 12 [],⟨13,true,(qs 0 6++qs 11 2),false,3,none⟩,qb 14 (qr 14)]),(5,[qa 0 [],qa 1 [0],qa 2 [],qa 3 [2],qa 4 [],qa 5 [4],qa 6 (qs 2 4),qa 7 [],qa 8 [],qa 9 [8],qa 10 [7,8,9],qa 11 (qs 2 9),qa 12 [],qa 13 [12],qa 14 [],qa 15 [14],qa 16 (qs 12 4),qa 17 (qs 2 15),qb 18 (qr 18),qb 19 (qr 19)])]
def uyP :SC:=[(4,[qa 0 [],qa 3 [],qa 4 [3],qa 5 [3,4],qa 7 [],qa 10 [],qa 11 [10],qa 12 [10,11],qa 1 [0],qa 2 [0,1],qa 6 (qr 6),qa 8 [0,1,7],qa 9 (qs 0 2++qs 7 2),qa 13 (qs 0 2++qs 7 6),qb 14 (qr 14),qb 15 (qr 15)]),(5,[qa 0 [],qa 1 [],qa 2 [1],qa 4 [],qa 5 [],qa 6 [5],qa 3 [0,1,2],qb 7 (qr 7),qb 8 (qr 8),qb 9 (qr 9)])]
def uy6 :SC:=[]
def uyf :SC:=[(1,[qa 0 [],qa 1 [0],qa 2 [],qa 3 [2],qa 4 [2,3],qa 5 [2,3,4],qb 6 (qr 6),⟨7,true,(qr 7),true,0,none⟩,qa 8 (qr 8),qa 9 (qr 9),qa 10 (qr 8),qa 11 (qs 0 8++qs 10 1),qa 12 (qs 0 8++qs 10 2),qb 13 (qr 13),qb 14 (qr 14),⟨15,true,(qr 15),true,0,none⟩,qa 16 (qr 16),qa 17 (qr 17),qa 18 (qr 16),qa 19 (qs 0 16++qs 18 1),qa 20 (qr 16),qa 21 (qs 0 16++qs 20 1),qa 22 (qs 0 16++qs 18 4),qa 23 (qs 0 16++qs 18 5),qa 24 (qs 0 16++qs 18 6),qa 25 (qs 0 16++qs 18 7),qb 26 (qr 26),qb 27 (qr 27),qb 28 (qr 28)])]
def uyD :SC:=[]
def uxS :SC:=[]
def uz9 :SC:=[(1,[qb 0 [],qb 1 [0],⟨2,true,[0,1],true,0,none⟩,qa 3 [0,1,2],qa 4 (qr 4),qa 5 [0,1,2],qa 6 (qs 0 3++qs 5 1),qa 7 (qs 0 3++qs 5 2),qb 8 (qr 8),qb 9 (qr 9),⟨10,true,(qr 10),true,0,none⟩,qb 11 (qr 11),qb 12 (qr 12),qb 13 (qr 13),qb 14 (qr 14),qb 15 (qr 15)])]
def uyx :SC:=[]
def uyl :SC:=[]
def uyg :SC:=[(7,[qa 0 [],qa 1 [0],qa 2 [0,1],qa 3 [0,1,2],qa 4 [],qa 5 [4],qa 6 [],qa 7 [6],qa 8 [],qa 9 [8],qa 10 [8,9],qa 11 [8,9,10],qa 14 [],qa 12 (qr 12),qa 13 (qr 13)]),(13,[qa 0 [],qa 1 [],qa 2 [0,1],qa 3 [0,1,2],qa 4 (qr 4),qa 5 [],qa 6 [5],qa 7 (qr 7),qa 9 [],qa 10 [],qa 11 [9,10],qa 12 [9,10,11],qa 13 (qs 9 4),qa 14 [],qa 15 [14],qa 16 (qs 9 7),qa 8 (qr 8),qb 17 (qr 17),qb 18 (qr 18)])]
def uxW :SC:=[]
def uyU :SC:=[]
def uy8 :SC:=[]
def uz0 :SC:=[(12,[qa 0 [],qa 1 [],qa 2 [1],qa 3 [1,2],qa 4 [1,2,3],qa 5 [],qa 6 [],qa 7 [6],qa 8 [5,6,7],qa 9 (qs 1 8),qa 11 [],qa 12 [11],qa 13 [11,12],qa 14 [11,12,13],qa 15 [],qa 16 [],qa 17 [16],qa 18 [15,16,17],qa 19 (qs 11 8),qa 10 (qs 1 9),qa 20 (qs 1 19),qb 21 (qr 21),qb 22 (qr 22)])]
def uwm :SC:=[]
def uvK :SC:=[(14,[⟨0,false,[],false,4,none⟩,qa 1 [],qa 3 [],qa 4 [3],qa 6 [],qa 7 [6],qa 8 [],qa 9 [8],qa 2 [1],⟨5,true,(qs 1 4),false,3,none⟩,qb 10 (qr 10)])]
def uyX :SC:=[]
def uyw :SC:=[]
def uyI :SC:=[]
def uyA :SC:=[]
def uz4 :SC:=[]
def uz7 :SC:=[(6,[qa 0 [],qa 1 [0],qa 2 [],qa 3 [2],qa 4 [],qa 5 [2,3,4],qa 6 (qs 2 4),qb 7 (qr 7),qb 8 (qr 8),⟨9,true,(qr 9),true,0,none⟩,qa 10 (qr 10),qa 11 (qr 11),qa 12 (qr 10),qa 13 (qs 0 10++qs 12 1),qa 14 (qr 10),qa 15 (qs 0 10++qs 12 3),qa 16 (qs 0 10++qs 12 4),qb 17 (qr 17),qb 18 (qr 18),qb 19 (qr 19)]),(12,[qa 0 [],qa 1 [0],qa 2 [],qa 3 [2],qa 4 [],qa 5 [2,3,4],qa 6 (qs 2 4),qb 7 (qr 7),qb 8 (qr 8)])]
def uxJ :SC:=[]
def uz1 :SC:=[]
def ux9 :SC:=[]
def uyG :SC:=[]
def uyr :SC:=[]
def uxP :SC:=[]
def uuh :SC:=[]
def uw4 :SC:=[]
def uxe :SC:=[]
def uwb :SC:=[]
def uxA :SC:=[]
def uwS :SC:=[]
def uwt :SC:=[]
def uvR :SC:=[(2,[qa 0 [],⟨1,false,[],false,1,none⟩,⟨2,true,[0],false,2,none⟩,qb 3 [0,1,2]])]
def uxi :SC:=[(3,[qa 0 [],qa 1 [],qa 2 [],qa 3 [1,2],qa 4 [1,2,3],qb 5 (qr 5),qb 6 (qr 6)])]
def uvQ :SC:=[]
def uxG :SC:=[]
def uwu :SC:=[(9,[qa 0 [],qa 1 [],qa 2 [1],qa 3 [],qa 6 [],qa 4 [3],qa 5 [3,4],qa 7 (qs 3 4),qa 8 (qs 1 7),qb 9 (qr 9),qb 10 (qr 10)]),(15,[qa 0 [],qa 1 [],qa 3 [],qa 4 [],⟨5,false,[4],false,4,none⟩,⟨6,false,[3,4,5],false,4,none⟩,⟨7,false,(qs 3 4),false,4,none⟩,qa 8 [],qa 2 [0,1],⟨9,true,(qs 0 3++qs 8 1),false,3,none⟩,qb 10 (qr 10)])]
def uw2 :SC:=[(1,[qa 0 [],qa 1 [0],qa 2 [],qa 3 [2],qa 4 (qr 4),qa 5 [],qa 6 [5],qa 7 [],qa 8 [7],qa 9 (qs 5 4),qa 10 (qs 5 5),qb 11 (qr 11),qb 12 (qr 12)])]
def uwA :SC:=[]
def uvi :SC:=[]
def uxs :SC:=[]
def uwW :SC:=[]
def ux3 :SC:=[]
def uw7 :SC:=[]
def uxn :SC:=[]
def uxj :SC:=[]
def uwV :SC:=[]
def uwe :SC:=[]
theorem uas :uc5 Try.prog tab:=us2 (l:=uxU) (by kernel_rfl) (by kernel_rfl)
theorem mix :Try.prog.follows .mixedOrders=true:=by kernel_rfl
end Go.Proofs.Ytpkgnhcfmpbidaa

namespace Go.Proofs.Ytpkgnhcfmpbidaa
open Go.Eng.Ck
def ue6 (p:Nat→Bool):Nat→Nat→Int
 |0,_=> -1
 |n+1,i=>if p i=true then ue6 p n (i+1)else i
theorem ucr {p:Nat→Bool} {n i:Nat}(hn:0<n)(h:p i=false):ue6 p n i=i:=by
 cases n with
 |zero=>omega
 |succ n=>simp [ue6,h]
theorem uet {p:Nat→Bool} {n i:Nat}(hn:0<n)(h:p i=true):ue6 p n i=ue6 p (n-1) (i+1):=by
 cases n with
 |zero=>omega
 |succ n=>simp [ue6,h]
theorem ulp {p:Nat→Bool}:∀{n i:Nat},0≤ue6 p n i↔∃j,i≤j∧j<i+n∧p j=false:=by
 intro n
 induction n with
 | zero => intro i;simp only [ue6];constructor
           ·intro h;omega
           ·rintro⟨j,h1,h2,_⟩;omega
 | succ n ih=>
  intro i
  cases h:p i with
  | true=>
   rw [uet (by omega) h,Nat.add_sub_cancel,ih]
   constructor
   ·rintro⟨j,h1,h2,h3⟩;exact⟨j,by omega,by omega,h3⟩
   ·rintro⟨j,h1,h2,h3⟩
    refine⟨j,?_,by omega,h3⟩
    by_cases e:j=i
    ·subst e;rw [h]at h3;cases h3
    ·omega
  | false=>
   rw [ucr (by omega) h]
   exact⟨fun _=>⟨i,by omega,by omega,h⟩,fun _=>by omega⟩
theorem uoA {p:Nat→Bool} {n:Nat}:(!(decide (0≤ue6 p n 0)))=decide (∀i,i<n→p i=true):=by
 rw [Bool.eq_iff_iff]
 simp only [Bool.not_eq_true',decide_eq_false_iff_not,decide_eq_true_eq,ulp]
 constructor
 ·intro h i hi
  cases hp:p i with
  |true=>rfl
  |false=>exact absurd ⟨i,by omega,by omega,hp⟩ h
 ·rintro h ⟨j,_,h2,h3⟩
  rw [h j (by omega)]at h3;cases h3
def ufV (p:Nat→Bool)(n:Nat):Bool:= !(decide (0≤ue6 p n 0))
theorem uab (p:Nat→Bool)(n:Nat):(ufV p n=true)=∀i,i<n→p i=true:=by rw [ufV,uoA];exact decide_eq_true_eq
theorem uai (p:Nat→Bool)(n:Nat):(ufV p n=false)=¬∀i,i<n→p i=true:=by rw [ufV,uoA];simp only [decide_eq_false_iff_not]
def inB (lo n hi:Int):Bool:=decide (lo≤n∧n≤hi)
def ofB (lo a b hi:Int):Bool:=decide (lo≤a∧a≤b∧b≤hi)
theorem uah (lo n hi:Int):(inB lo n hi=true)=(lo≤n∧n≤hi):=decide_eq_true_eq
theorem uaq (lo n hi:Int):(inB lo n hi=false)=¬(lo≤n∧n≤hi):=by simp only [inB,decide_eq_false_iff_not]
theorem uaM (lo a b hi:Int):(ofB lo a b hi=true)=(lo≤a∧a≤b∧b≤hi):=decide_eq_true_eq
theorem uaO (lo a b hi:Int):(ofB lo a b hi=false)=¬(lo≤a∧a≤b∧b≤hi):=by simp only [ofB,decide_eq_false_iff_not]
def lD (ms:List (Int×Int))(i:Nat):Int:=if i=0 then 0 else mD ms i
def lC (ms:List (Int×Int))(i:Nat):Int:=if i=0 then 0 else mC ms i
def ujm (ms:List (Int×Int))(i:Nat):Prop:=(lD ms i+1≤mD ms (i+1)∧mD ms (i+1)≤100)∧lC ms i+1≤mC ms (i+1)∧mC ms (i+1)≤1000
instance (ms:List (Int×Int)) (i:Nat):Decidable (ujm ms i):=by unfold ujm;infer_instance
def ui9 (ms:List (Int×Int))(i:Nat):Bool:=decide (ujm ms i)
theorem uaf (ms:List (Int×Int))(i:Nat):(ui9 ms i=true)=ujm ms i:=decide_eq_true_eq
theorem uak (ms:List (Int×Int))(i:Nat):(ui9 ms i=false)=¬ujm ms i:=by simp only [ui9,decide_eq_false_iff_not]
theorem uuH {ms:List (Int×Int)} {i:Nat}(h:∀j,j<i→ui9 ms j=true):(0≤lD ms i∧lD ms i≤100)∧0≤lC ms i∧lC ms i≤1000:=by
 induction i with
 |zero=>simp [lD,lC]
 | succ i ih=>
  have h1:=ih fun j hj=>h j (by omega)
  have h2:=h i (by omega)
  rw [uaf]at h2
  unfold ujm at h2
  simp only [lD,lC]at *
  rw [if_neg (by omega),if_neg (by omega)]
  omega
def mkP (ms:List (Int×Int)):Prop:=2≤ms.length∧mD ms 0=0∧mC ms 0=0∧ufV (ui9 ms) (ms.length-1)=true
instance (ms:List (Int×Int)):Decidable (mkP ms):=by unfold mkP;infer_instance
def mkB (ms:List (Int×Int)):Bool:=decide (mkP ms)
theorem uaB (ms:List (Int×Int)):(mkB ms=true)=mkP ms:=decide_eq_true_eq
theorem uaL (ms:List (Int×Int)):(mkB ms=false)=¬mkP ms:=by simp only [mkB,decide_eq_false_iff_not]
def kP (k:Csk):Prop:=mkB k.ms=true∧(0≤k.sl∧k.sl≤k.sh∧k.sh≤tpC k.ms)∧0≤k.kl∧k.kl≤k.kh∧k.kh≤4
instance (k:Csk):Decidable (kP k):=by unfold kP;infer_instance
def kB (k:Csk):Bool:=decide (kP k)
theorem uc4 (k:Csk):(kB k=true)=kP k:=decide_eq_true_eq
theorem ucd (k:Csk):(kB k=false)=¬kP k:=by simp only [kB,decide_eq_false_iff_not]
def vP (n:Int)(m:Mov):Prop:=(-1≤m.f∧m.f≤n-1)∧(-1≤m.t∧m.t≤n-1)∧m.f≠m.t∧(1≤m.ql∧m.ql≤m.qh∧m.qh≤1000)∧m.qh-m.ql≤8
instance (n:Int) (m:Mov):Decidable (vP n m):=by unfold vP;infer_instance
def vB (n:Int)(m:Mov):Bool:=decide (vP n m)
theorem ucb (n:Int)(m:Mov):(vB n m=true)=vP n m:=decide_eq_true_eq
theorem ucj (n:Int)(m:Mov):(vB n m=false)=¬vP n m:=by simp only [vB,decide_eq_false_iff_not]
def gP (c:Clr)(g:Gau):Prop:=(0≤g.c∧g.c≤(c.cs.length:Int)-1)∧(0≤g.a∧g.a≤(c.mv.length:Int))∧0≤g.dl∧g.dl≤g.dh∧g.dh≤tpD (c.cs.getD g.c.toNat k0).ms
instance (c:Clr) (g:Gau):Decidable (gP c g):=by unfold gP;infer_instance
def gB (c:Clr)(g:Gau):Bool:=decide (gP c g)
theorem uc9 (c:Clr)(g:Gau):(gB c g=true)=gP c g:=decide_eq_true_eq
theorem uci (c:Clr)(g:Gau):(gB c g=false)=¬gP c g:=by simp only [gB,decide_eq_false_iff_not]
def fwB (k:Csk):Bool:=decide (k.ms.length≤5)
theorem uaG (k:Csk):(fwB k=true)=(k.ms.length≤5):=decide_eq_true_eq
theorem uaR (k:Csk):(fwB k=false)=¬(k.ms.length≤5):=by simp only [fwB,decide_eq_false_iff_not]
def uiY (c:Clr):Prop:=3<c.cs.length∨4<c.mv.length∨6<c.gs.length∨¬(ufV (fun i=>fwB (c.cs.getD i k0)) c.cs.length=true)
instance (c:Clr):Decidable (uiY c):=by unfold uiY;infer_instance
def gdP (c:Clr):Prop:=c.cs.length≠0∧ufV (fun i=>kB (c.cs.getD i k0)) c.cs.length=true∧ufV (fun i=>vB (c.cs.length:Int) (c.mv.getD i v0)) c.mv.length=true∧ufV (fun i=>gB c (c.gs.getD i g0)) c.gs.length=true
instance (c:Clr):Decidable (gdP c):=by unfold gdP;infer_instance
def ua6 (c:Clr):Int:=if uiY c then 3 else if gdP c then 0 else 1
theorem udi {c:Clr}(h:uiY c):ua6 c=3:=by unfold ua6;rw [if_pos h]
theorem udt {c:Clr}(h:¬uiY c)(h':¬gdP c):ua6 c=1:=by unfold ua6;rw [if_neg h,if_neg h']
theorem uki {c:Clr}(h:¬uiY c)(h':gdP c):ua6 c=0:=by unfold ua6;rw [if_neg h,if_pos h']
theorem ux7 {ms:List (Int×Int)}(h5:ms.length≤5):mkP ms↔MOk ms:=by
 unfold mkP
 rw [uab]
 simp only [uaf]
 constructor
 ·rintro⟨h1,h2,h3,h4⟩
  have l0:∀i,lD ms i=mD ms i∧lC ms i=mC ms i:=fun i=>by
   unfold lD lC
   by_cases e:i=0
   ·subst e;rw [if_pos rfl,if_pos rfl];exact⟨h2.symm,h3.symm⟩
   ·rw [if_neg e,if_neg e];exact⟨rfl,rfl⟩
  refine⟨h1,h5,h2,h3,fun i hi=> ?_,fun i hi=> ?_⟩
  ·have:=h4 i (by omega)
   unfold ujm at this
   rw [(l0 i).1,(l0 i).2]at this
   omega
  ·by_cases e:i=0
   ·subst e;omega
   ·have:=h4 (i-1) (by omega)
    unfold ujm at this
    rw [show i-1+1=i by omega]at this
    omega
 ·intro h
  refine⟨h.two,h.d0,h.c0,fun i hi=> ?_⟩
  have l0:lD ms i=mD ms i∧lC ms i=mC ms i:=by
   unfold lD lC
   by_cases e:i=0
   ·subst e;rw [if_pos rfl,if_pos rfl];exact⟨h.d0.symm,h.c0.symm⟩
   ·rw [if_neg e,if_neg e];exact⟨rfl,rfl⟩
  have h1:=h.up i (by omega)
  have h2:=h.most (i+1) (by omega)
  unfold ujm
  rw [l0.1,l0.2]
  omega
theorem uxI {k:Csk}(h5:k.ms.length≤5):kP k↔KOk k:=by
 unfold kP
 rw [uaB,ux7 h5]
 exact⟨fun h=>⟨h.1,h.2.1.1,h.2.1.2.1,h.2.1.2.2,h.2.2.1,h.2.2.2.1,h.2.2.2.2⟩,fun h=>⟨h.m,⟨h.s0,h.s1,h.s2⟩,h.l0,h.l1,h.l2⟩⟩
theorem uxN {n:Nat} {m:Mov}:vP (n:Int) m↔VOk n m:=by
 unfold vP
 exact⟨fun h=>⟨h.1.1,by omega,h.2.1.1,by omega,h.2.2.1,h.2.2.2.1.1,h.2.2.2.1.2.1,h.2.2.2.1.2.2,h.2.2.2.2⟩,fun h=>⟨⟨h.f0,by have:=h.f1;omega⟩,⟨h.t0,by have:=h.t1;omega⟩,h.ne,⟨h.q0,h.q1,h.q2⟩,h.w⟩⟩
theorem uy2 {c:Clr} {g:Gau}:gP c g↔GOk c.cs c.mv.length g:=by
 unfold gP
 exact⟨fun h=>⟨h.1.1,by omega,h.2.1.1,h.2.1.2,h.2.2.1,h.2.2.2.1,h.2.2.2.2⟩,fun h=>⟨⟨h.c0,by have:=h.c1;omega⟩,⟨h.a0,h.a1⟩,h.d0,h.d1,h.d2⟩⟩
theorem uaa {c:Clr}:ua6 c=0↔COk c:=by
 have key:(¬uiY c∧gdP c)↔COk c:=by
  unfold uiY gdP
  rw [uab,uab,uab,uab]
  simp only [uaG,uc4,ucb,uc9]
  constructor
  ·rintro⟨h1,h2,h3,h4,h5⟩
   have hf:∀i,i<c.cs.length→(c.cs.getD i k0).ms.length≤5:=Classical.byContradiction fun q=>h1 (.inr (.inr (.inr q)))
   exact⟨by omega,by omega,by omega,by omega,fun i hi=>(uxI (hf i hi)).1 (h3 i hi),fun i hi=>uxN.1 (h4 i hi),fun i hi=>uy2.1 (h5 i hi)⟩
  ·intro h
   have h1:=h.c1
   have h2:=h.c3
   have h3:=h.m4
   have h4:=h.g6
   refine⟨?_,by omega,fun i hi=>(uxI (h.k i hi).m.few).2 (h.k i hi),fun i hi=>uxN.2 (h.v i hi),fun i hi=>uy2.2 (h.g i hi)⟩
   rintro(q|q|q|q)
   ·omega
   ·omega
   ·omega
   ·exact q fun i hi=>(h.k i hi).m.few
 rw [←key]
 constructor
 ·intro h
  by_cases h1:uiY c
  ·rw [udi h1]at h;omega
  ·by_cases h2:gdP c
   ·exact⟨h1,h2⟩
   ·rw [udt h1 h2]at h;omega
 ·exact fun h=>uki h.1 h.2
end Go.Proofs.Ytpkgnhcfmpbidaa
namespace Go.Proofs.Ytpkgnhcfmpbidaa
open Go Go.Eng Go.Proofs Go.Eng.Ck
abbrev caS (l:List Csk):SV:=(.sl 5 (.sym fun _=>zi (l).length) (fun ix=>[(.sl 2 (.sym fun _=>zi (((l).getD ix.den.toNat k0).ms).length) (fun jx=>[(iv fun _=>mD (((l).getD ix.den.toNat k0).ms) jx.den.toNat),(iv fun _=>mC (((l).getD ix.den.toNat k0).ms) jx.den.toNat)])),(iv fun _=>((l).getD ix.den.toNat k0).sl),(iv fun _=>((l).getD ix.den.toNat k0).sh),(iv fun _=>((l).getD ix.den.toNat k0).kl),(iv fun _=>((l).getD ix.den.toNat k0).kh)]))
abbrev mvS (l:List Mov):SV:=(.sl 4 (.sym fun _=>zi (l).length) (fun ix=>[(iv fun _=>((l).getD ix.den.toNat v0).f),(iv fun _=>((l).getD ix.den.toNat v0).t),(iv fun _=>((l).getD ix.den.toNat v0).ql),(iv fun _=>((l).getD ix.den.toNat v0).qh)]))
abbrev gaS (l:List Gau):SV:=(.sl 5 (.sym fun _=>zi (l).length) (fun ix=>[(iv fun _=>((l).getD ix.den.toNat g0).c),(iv fun _=>((l).getD ix.den.toNat g0).a),(iv fun _=>((l).getD ix.den.toNat g0).dl),(iv fun _=>((l).getD ix.den.toNat g0).dh),(bv fun _=>((l).getD ix.den.toNat g0).dry)]))
abbrev kcS (k:Csk):List SV:=[(.sl 2 (.sym fun _=>zi (k.ms).length) (fun ix=>[(iv fun _=>mD (k.ms) ix.den.toNat),(iv fun _=>mC (k.ms) ix.den.toNat)])),(iv fun _=>k.sl),(iv fun _=>k.sh),(iv fun _=>k.kl),(iv fun _=>k.kh)]
abbrev vcS (m:Mov):List SV:=[(iv fun _=>m.f),(iv fun _=>m.t),(iv fun _=>m.ql),(iv fun _=>m.qh)]
abbrev gcS (g:Gau):List SV:=[(iv fun _=>g.c),(iv fun _=>g.a),(iv fun _=>g.dl),(iv fun _=>g.dh),(bv fun _=>g.dry)]
end Go.Proofs.Ytpkgnhcfmpbidaa

namespace Go.Proofs.Ytpkgnhcfmpbidaa
open Go Go.Eng Go.Proofs Go.Eng.Ck Go.Eng.Few
set_option maxRecDepth 10000
theorem ube (n lo hi:Int):ua0 Try.prog 62 [(iv fun _=>n),(iv fun _=>lo),(iv fun _=>hi)] [] (fun r _=>r=(bv fun _=>inB lo n hi)):=by
 refine ua0.is fun R hR=>qY (sc:=uyc) uas mix Try.func62 rfl Try.call62 (by kernel_rfl) (by kernel_rfl) ?_
 generalize Try.prog=P
 cbv
 repeat' (first|with_reducible refine And.intro ?_ ?_|(with_reducible intro hcd;(try simp only [zA,zB,zC,zD,zE,zF,zG,zH,zI,zJ,zK,zL,zM,zN,zO,zP]at hcd);try cbv)|fail)
 all_goals first|(subst hR;(refine qF ?_;(try simp only [qX]at *);(try simp only [zQ,zA,zB,zC,zD,zE,zF,zG,zH,zI,zJ,zK,zL,zM,zN,zO,zP,zR,zS]at *);apply Bool.eq_iff_iff.2;simp only [uab,uai,uah,uaq,uaM,uaO,uaf,uak,uaB,uaL,uc4,ucd,ucb,ucj,uc9,uci,uaG,uaR,Bool.and_eq_true,Bool.or_eq_true,Bool.not_eq_true',decide_eq_true_eq,decide_eq_false_iff_not,Bool.false_eq_true,reduceCtorEq,Bool.true_and,Bool.and_true,Bool.false_and,Bool.and_false,iff_true,true_iff,Bool.not_true,Bool.not_false]at *;constructor<;>intro q<;>first|omega|(exact q.elim)|(exact absurd q (by omega)));done)|skip
theorem ums (n lo hi:Int):ua0 Try.prog 23 [(iv fun _=>n),(iv fun _=>lo),(iv fun _=>hi)] [] (fun r _=>r=(bv fun _=>inB lo n hi)):=by
 refine ua0.is fun R hR=>qY (sc:=uy4) uas mix Try.func23 rfl Try.call23 (by kernel_rfl) (by kernel_rfl) ?_
 generalize Try.prog=P
 cbv
 repeat' (first|with_reducible refine And.intro ?_ ?_|(with_reducible intro hcd;(try simp only [zA,zB,zC,zD,zE,zF,zG,zH,zI,zJ,zK,zL,zM,zN,zO,zP]at hcd);try cbv)|fail)
 all_goals first|(subst hR;(refine qF ?_;(try simp only [qX]at *);(try simp only [zQ,zA,zB,zC,zD,zE,zF,zG,zH,zI,zJ,zK,zL,zM,zN,zO,zP,zR,zS]at *);apply Bool.eq_iff_iff.2;simp only [uab,uai,uah,uaq,uaM,uaO,uaf,uak,uaB,uaL,uc4,ucd,ucb,ucj,uc9,uci,uaG,uaR,Bool.and_eq_true,Bool.or_eq_true,Bool.not_eq_true',decide_eq_true_eq,decide_eq_false_iff_not,Bool.false_eq_true,reduceCtorEq,Bool.true_and,Bool.and_true,Bool.false_and,Bool.and_false,iff_true,true_iff,Bool.not_true,Bool.not_false]at *;constructor<;>intro q<;>first|omega|(exact q.elim)|(exact absurd q (by omega)));done)|skip
theorem uwy (lo hi n:Int):ua0 Try.prog 92 [(.agg [(iv fun _=>lo),(iv fun _=>hi)]),(iv fun _=>n)] [] (fun r _=>r=(bv fun _=>inB lo n hi)):=by
 have c62:= @ube
 refine ua0.is fun R hR=>qY (sc:=uz1) uas mix Try.func92 rfl Try.call92 (by kernel_rfl) (by kernel_rfl) ?_
 generalize Try.prog=P at c62⊢
 cbv
 repeat' (first|(refine uaj ?_ (c62 _ _ _);try cbv)|fail)
 all_goals first|(subst hR;(repeat' (first|exact qA|exact qB|refine qC ?_ rfl ?_|refine qD ?_ ?_|exact qE (by rfl)|exact qF (by rfl)|exact Fit.refl _|exact qG _|(refine qE ?_;(try simp only [qX]at *);simp only [zQ,zA,zB,zC,zD,zE,zF,zG,zH,zI,zJ,zK,zL,zM,zN,zO,zP,zR,zS]at *;omega)));done)|skip
theorem uxg (a b lo hi:Int):ua0 Try.prog 98 [(.agg [(iv fun _=>a),(iv fun _=>b)]),(iv fun _=>lo),(iv fun _=>hi)] [] (fun r _=>r=(bv fun _=>ofB lo a b hi)):=by
 refine ua0.is fun R hR=>qY (sc:=uyr) uas mix Try.func98 rfl Try.call98 (by kernel_rfl) (by kernel_rfl) ?_
 generalize Try.prog=P
 cbv
 repeat' (first|with_reducible refine And.intro ?_ ?_|(with_reducible intro hcd;(try simp only [zA,zB,zC,zD,zE,zF,zG,zH,zI,zJ,zK,zL,zM,zN,zO,zP]at hcd);try cbv)|fail)
 all_goals first|(subst hR;(refine qF ?_;(try simp only [qX]at *);(try simp only [zQ,zA,zB,zC,zD,zE,zF,zG,zH,zI,zJ,zK,zL,zM,zN,zO,zP,zR,zS]at *);apply Bool.eq_iff_iff.2;simp only [uab,uai,uah,uaq,uaM,uaO,uaf,uak,uaB,uaL,uc4,ucd,ucb,ucj,uc9,uci,uaG,uaR,Bool.and_eq_true,Bool.or_eq_true,Bool.not_eq_true',decide_eq_true_eq,decide_eq_false_iff_not,Bool.false_eq_true,reduceCtorEq,Bool.true_and,Bool.and_true,Bool.false_and,Bool.and_false,iff_true,true_iff,Bool.not_true,Bool.not_false]at *;constructor<;>intro q<;>first|omega|(exact q.elim)|(exact absurd q (by omega)));done)|skip
theorem utE (a b lo hi:Int):ua0 Try.prog 87 [(.agg [(iv fun _=>a),(iv fun _=>b)]),(iv fun _=>lo),(iv fun _=>hi)] [] (fun r _=>r=(bv fun _=>ofB lo a b hi)):=by
 have c23:= @ums
 refine ua0.is fun R hR=>qY (sc:=uz4) uas mix Try.func87 rfl Try.call87 (by kernel_rfl) (by kernel_rfl) ?_
 generalize Try.prog=P at c23⊢
 cbv
 repeat' (first|with_reducible refine And.intro ?_ ?_|(with_reducible intro hcd;(try simp only [zA,zB,zC,zD,zE,zF,zG,zH,zI,zJ,zK,zL,zM,zN,zO,zP]at hcd);try cbv)|(refine uaj ?_ (c23 _ _ _);try cbv)|fail)
 all_goals first|(subst hR;(refine qF ?_;(try simp only [qX]at *);(try simp only [zQ,zA,zB,zC,zD,zE,zF,zG,zH,zI,zJ,zK,zL,zM,zN,zO,zP,zR,zS]at *);apply Bool.eq_iff_iff.2;simp only [uab,uai,uah,uaq,uaM,uaO,uaf,uak,uaB,uaL,uc4,ucd,ucb,ucj,uc9,uci,uaG,uaR,Bool.and_eq_true,Bool.or_eq_true,Bool.not_eq_true',decide_eq_true_eq,decide_eq_false_iff_not,Bool.false_eq_true,reduceCtorEq,Bool.true_and,Bool.and_true,Bool.false_and,Bool.and_false,iff_true,true_iff,Bool.not_true,Bool.not_false]at *;constructor<;>intro q<;>first|omega|(exact q.elim)|(exact absurd q (by omega)));done)|skip
theorem uf7 (a b:Int):ua0 Try.prog 39 [(iv fun _=>a),(iv fun _=>b)] [] (fun r _=>r=(.agg [(iv fun _=>a),(iv fun _=>b)])):=by
 refine ua0.is fun R hR=>qY (sc:=uyB) uas mix Try.func39 rfl Try.call39 (by kernel_rfl) (by kernel_rfl) ?_
 generalize Try.prog=P
 cbv
 repeat' (first|fail)
 all_goals first|(subst hR;(repeat' (first|exact qA|exact qB|refine qC ?_ rfl ?_|refine qD ?_ ?_|exact qE (by rfl)|exact qF (by rfl)|exact Fit.refl _|exact qG _|(refine qE ?_;(try simp only [qX]at *);simp only [zQ,zA,zB,zC,zD,zE,zF,zG,zH,zI,zJ,zK,zL,zM,zN,zO,zP,zR,zS]at *;omega)));done)|skip
theorem umL (a b:Int):ua0 Try.prog 24 [(.agg [(iv fun _=>a),(iv fun _=>b)])] [] (fun r _=>r=(.agg [(iv fun _=>a),(iv fun _=>b)])):=by
 refine ua0.is fun R hR=>qY (sc:=uzb) uas mix Try.func24 rfl Try.call24 (by kernel_rfl) (by kernel_rfl) ?_
 generalize Try.prog=P
 cbv
 repeat' (first|fail)
 all_goals first|(subst hR;(repeat' (first|exact qA|exact qB|refine qC ?_ rfl ?_|refine qD ?_ ?_|exact qE (by rfl)|exact qF (by rfl)|exact Fit.refl _|exact qG _|(refine qE ?_;(try simp only [qX]at *);simp only [zQ,zA,zB,zC,zD,zE,zF,zG,zH,zI,zJ,zK,zL,zM,zN,zO,zP,zR,zS]at *;omega)));done)|skip
theorem uq2 (a b:Int):ua0 Try.prog 115 [(.agg [(iv fun _=>a),(iv fun _=>b)])] [] (fun r _=>r=(bv fun _=>decide (b<a))):=by
 refine ua0.is fun R hR=>qY (sc:=uwA) uas mix Try.func115 rfl Try.call115 (by kernel_rfl) (by kernel_rfl) ?_
 generalize Try.prog=P
 cbv
 repeat' (first|fail)
 all_goals first|(subst hR;(repeat' (first|exact qA|exact qB|refine qC ?_ rfl ?_|refine qD ?_ ?_|exact qE (by rfl)|exact qF (by rfl)|exact Fit.refl _|exact qG _|(refine qE ?_;(try simp only [qX]at *);simp only [zQ,zA,zB,zC,zD,zE,zF,zG,zH,zI,zJ,zK,zL,zM,zN,zO,zP,zR,zS]at *;omega)));done)|skip
theorem uuz (a b:Int):ua0 Try.prog 121 [(.sl 1 (.lit 2) (fun ix=>ucu [(iv fun _=>a),(iv fun _=>b)] (0+ix.den.toNat*1) 1))] [] (fun r _=>r=(iv fun _=>mn a b)):=by
 refine ua0.is fun R hR=>qY (sc:=uxn) uas mix Try.func121 rfl Try.call121 (by kernel_rfl) (by kernel_rfl) ?_
 generalize Try.prog=P
 cbv
 repeat' (first|with_reducible refine ua3 ?_ ?_|fail)
 all_goals first|(refine⟨some 3,?_⟩;cbv)|skip
 repeat' (first|with_reducible refine ua3 ?_ ?_|fail)
 all_goals first|trivial|(subst hR;(refine qE ?_;simp only [zQ,zA,zB,zC,zD,zE,zF,zG,zH,zI,zJ,zK,zL,zM,zN,zO,zP,zR,zS];unfold mn;rfl);done)|skip
theorem udf (a b:Int):ua0 Try.prog 106 [(.sl 1 (.lit 2) (fun ix=>ucu [(iv fun _=>a),(iv fun _=>b)] (0+ix.den.toNat*1) 1))] [] (fun r _=>r=(iv fun _=>mn a b)):=by
 have c121:= @uuz
 refine ua0.is fun R hR=>qY (sc:=uwt) uas mix Try.func106 rfl Try.call106 (by kernel_rfl) (by kernel_rfl) ?_
 generalize Try.prog=P at c121⊢
 cbv
 repeat' (first|(refine uaj ?_ (c121 _ _);try cbv)|fail)
 all_goals first|(subst hR;(repeat' (first|exact qA|exact qB|refine qC ?_ rfl ?_|refine qD ?_ ?_|exact qE (by rfl)|exact qF (by rfl)|exact Fit.refl _|exact qG _|(refine qE ?_;(try simp only [qX]at *);simp only [zQ,zA,zB,zC,zD,zE,zF,zG,zH,zI,zJ,zK,zL,zM,zN,zO,zP,zR,zS]at *;omega)));done)|skip
theorem uto (a b e f:Int):ua0 Try.prog 114 [(.agg [(iv fun _=>a),(iv fun _=>b)]),(.agg [(iv fun _=>e),(iv fun _=>f)])] [] (fun r _=>r=(.agg [(iv fun _=>mx a e),(iv fun _=>mn b f)])):=by
 have c106:= @udf
 refine ua0.is fun R hR=>qY (sc:=uw2) uas mix Try.func114 rfl Try.call114 (by kernel_rfl) (by kernel_rfl) ?_
 generalize Try.prog=P at c106⊢
 cbv
 repeat' (first
  | ((first|(refine qS ?_ (c106 _ _) rfl (by cbv;(repeat' (first|exact qB|refine qD ?_ ?_|exact qE (by rfl)|exact qF (by rfl)|exact Fit.refl _|exact qA|refine qC ?_ rfl ?_))))|(refine⟨none,?_⟩;refine qS ?_ (c106 _ _) rfl (by cbv;(repeat' (first|exact qB|refine qD ?_ ?_|exact qE (by rfl)|exact qF (by rfl)|exact Fit.refl _|exact qA|refine qC ?_ rfl ?_)))))
     try cbv)
  |fail)
 all_goals first|(subst hR;(repeat' (first|exact qA|exact qB|refine qC ?_ rfl ?_|refine qD ?_ ?_|exact qE (by rfl)|exact qF (by rfl)|exact Fit.refl _|exact qG _|(refine qE ?_;(try simp only [qX]at *);simp only [zQ,zA,zB,zC,zD,zE,zF,zG,zH,zI,zJ,zK,zL,zM,zN,zO,zP,zR,zS]at *;omega)));done)|skip
theorem uhM (k:Csk)(h:1≤k.ms.length)(h5:k.ms.length≤1000):ua0 Try.prog 63 [(.agg (kcS k))] [] (fun r _=>r=(.agg [(iv fun _=>tpD k.ms),(iv fun _=>tpC k.ms)])):=by
 refine ua0.is fun R hR=>qY (sc:=uys) uas mix Try.func63 rfl Try.call63 (by kernel_rfl) (by kernel_rfl) ?_
 generalize Try.prog=P
 cbv
 repeat' (first|with_reducible refine ua3 ?_ ?_|fail)
 all_goals first|((try simp only [qX]at *);(try simp only [zQ,zA,zB,zC,zD,zE,zF,zG,zH,zI,zJ,zK,zL,zM,zN,zO,zP,zR,zS,uab,uai,uah,uaq,uaM,uaO,uaf,uak,uaB,uaL,uc4,ucd,ucb,ucj,uc9,uci,uaG,uaR]at *);first|(refine qO ?_;omega)|(simp only [uap];omega))|(subst hR;(refine qC (qE ?_) rfl (qC (qE ?_) rfl qA)<;>(simp only [zQ,zA,zB,zC,zD,zE,zF,zG,zH,zI,zJ,zK,zL,zM,zN,zO,zP,zR,zS,tpD,tpC];first|rfl|(congr 1;omega)));done)|skip
theorem ud0 (k:Csk)(h:1≤k.ms.length)(h5:k.ms.length≤1000):ua0 Try.prog 26 [(.agg (kcS k))] [] (fun r _=>r=(iv fun _=>tpD k.ms)):=by
 refine ua0.is fun R hR=>qY (sc:=uyF) uas mix Try.func26 rfl Try.call26 (by kernel_rfl) (by kernel_rfl) ?_
 generalize Try.prog=P
 cbv
 repeat' (first|with_reducible refine ua3 ?_ ?_|fail)
 all_goals first|((try simp only [qX]at *);(try simp only [zQ,zA,zB,zC,zD,zE,zF,zG,zH,zI,zJ,zK,zL,zM,zN,zO,zP,zR,zS,uab,uai,uah,uaq,uaM,uaO,uaf,uak,uaB,uaL,uc4,ucd,ucb,ucj,uc9,uci,uaG,uaR]at *);first|(refine qO ?_;omega)|(simp only [uap];omega))|(subst hR;(refine qE ?_;simp only [zQ,zA,zB,zC,zD,zE,zF,zG,zH,zI,zJ,zK,zL,zM,zN,zO,zP,zR,zS];unfold tpD;first|rfl|(congr 1;omega));done)|skip
theorem udj (k:Csk)(h:1≤k.ms.length)(h5:k.ms.length≤1000):ua0 Try.prog 28 [(.agg (kcS k))] [] (fun r _=>r=(iv fun _=>tpC k.ms)):=by
 refine ua0.is fun R hR=>qY (sc:=uyd) uas mix Try.func28 rfl Try.call28 (by kernel_rfl) (by kernel_rfl) ?_
 generalize Try.prog=P
 cbv
 repeat' (first|with_reducible refine ua3 ?_ ?_|fail)
 all_goals first|((try simp only [qX]at *);(try simp only [zQ,zA,zB,zC,zD,zE,zF,zG,zH,zI,zJ,zK,zL,zM,zN,zO,zP,zR,zS,uab,uai,uah,uaq,uaM,uaO,uaf,uak,uaB,uaL,uc4,ucd,ucb,ucj,uc9,uci,uaG,uaR]at *);first|(refine qO ?_;omega)|(simp only [uap];omega))|(subst hR;(refine qE ?_;simp only [zQ,zA,zB,zC,zD,zE,zF,zG,zH,zI,zJ,zK,zL,zM,zN,zO,zP,zR,zS];unfold tpC;first|rfl|(congr 1;omega));done)|skip
theorem uwY (k:Csk):ua0 Try.prog 68 [(.agg (kcS k))] [] (fun r _=>r=(bv fun _=>fwB k)):=by
 refine ua0.is fun R hR=>qY (sc:=uyD) uas mix Try.func68 rfl Try.call68 (by kernel_rfl) (by kernel_rfl) ?_
 generalize Try.prog=P
 cbv
 repeat' (first|fail)
 all_goals first|(subst hR;(refine qF ?_;(try simp only [qX]at *);(try simp only [zQ,zA,zB,zC,zD,zE,zF,zG,zH,zI,zJ,zK,zL,zM,zN,zO,zP,zR,zS]at *);apply Bool.eq_iff_iff.2;simp only [uab,uai,uah,uaq,uaM,uaO,uaf,uak,uaB,uaL,uc4,ucd,ucb,ucj,uc9,uci,uaG,uaR,Bool.and_eq_true,Bool.or_eq_true,Bool.not_eq_true',decide_eq_true_eq,decide_eq_false_iff_not,Bool.false_eq_true,reduceCtorEq,Bool.true_and,Bool.and_true,Bool.false_and,Bool.and_false,iff_true,true_iff,Bool.not_true,Bool.not_false]at *;constructor<;>intro q<;>first|omega|(exact q.elim)|(exact absurd q (by omega)));done)|skip
end Go.Proofs.Ytpkgnhcfmpbidaa

namespace Go.Proofs.Ytpkgnhcfmpbidaa
open Go Go.Eng Go.Proofs Go.Eng.Ck Go.Eng.Few
set_option maxRecDepth 10000
theorem usb :umK Try.prog 117 2:=ueZ (by kernel_rfl)
theorem upi {a b c d:Int}(h:decide (uaS [.sym fun _=>a,.sym fun _=>b]=uaS [.sym fun _=>c,.sym fun _=>d])=true):a=c∧b=d:=by
 have:=of_decide_eq_true h
 simp only [uaS,List.cons.injEq,and_true]at this
 exact this
theorem utc {a b c d:Int}(h:decide (uaS [.sym fun _=>a,.sym fun _=>b]=uaS [.sym fun _=>c,.sym fun _=>d])=false):¬(a=c∧b=d):=by
 have:=of_decide_eq_false h
 simp only [uaS,List.cons.injEq,and_true]at this
 exact this
theorem uuc (ms:List (Int×Int))(i:Nat)(hi:i<ms.length-1∧∀j,j<i→ui9 ms j=true):ua0 Try.prog 118 [(.agg [(iv fun _=>mD ms (i+1)),(iv fun _=>mC ms (i+1))]),.own 0 0] [.cells [(iv fun _=>lD ms (i)),(iv fun _=>lC ms (i))] 117] (fun r bs=>r=(bv fun _=>ui9 ms i)∧bs=[.cells [(iv fun _=>lD ms (i+1)),(iv fun _=>lC ms (i+1))] 117]):=by
 have c62:= @ube
 refine ua0.isB rfl fun R B hR hB=>qY (sc:=uwW) uas mix Try.func118 rfl Try.call118 (by kernel_rfl) (by kernel_rfl) ?_
 generalize Try.prog=P at c62⊢
 cbv
 have hb:=uuH hi.2
 repeat' (first|with_reducible refine ua3 ?_ ?_|with_reducible refine And.intro ?_ ?_|(with_reducible intro hcd;(try simp only [zA,zB,zC,zD,zE,zF,zG,zH,zI,zJ,zK,zL,zM,zN,zO,zP]at hcd);try cbv)|(refine uaj ?_ (c62 _ _ _);try cbv)|fail)
 all_goals first|((try simp only [qX]at *);(try simp only [zQ,zA,zB,zC,zD,zE,zF,zG,zH,zI,zJ,zK,zL,zM,zN,zO,zP,zR,zS]at *);first|(refine qO ?_;omega)|(simp only [uap];omega))|(subst hR;(refine qF ?_;(try simp only [qX]at *);(try simp only [zQ,zA,zB,zC,zD,zE,zF,zG,zH,zI,zJ,zK,zL,zM,zN,zO,zP,zR,zS]at *);apply Bool.eq_iff_iff.2;simp only [ui9,uab,uai,uah,uaq,uaM,uaO,uaf,uak,uaB,uaL,uc4,ucd,ucb,ucj,uc9,uci,uaG,uaR,Bool.and_eq_true,Bool.or_eq_true,Bool.not_eq_true',decide_eq_true_eq,decide_eq_false_iff_not,Bool.false_eq_true,reduceCtorEq,Bool.true_and,Bool.and_true,Bool.false_and,Bool.and_false,iff_true,true_iff,Bool.not_true,Bool.not_false]at *;simp only [ujm]at *;constructor<;>intro q<;>first|omega|(exact q.elim)|(exact absurd q (by omega)));done)|(subst hB;(repeat' (first|exact qH|refine qI ?_ ?_|exact qK _|refine qJ ?_|exact qA|exact qE (by rfl)|exact qF (by rfl)|exact Fit.refl _|exact qG _|refine qC ?_ rfl ?_));done)|skip
theorem ulT (ms:List (Int×Int))(hfew:ms.length-1≤1000)(i:Nat)(hi:i<ms.length-1∧∀j,j<i→(ui9 ms (j))=true):ua0 Try.prog 124 [(.agg [(iv fun _=>mD ms (i+1)),(iv fun _=>mC ms (i+1))]),.own 0 0] [.cells [.clo 118 [] [.own 1 0]] 184,.cells [(iv fun _=>lD ms (i)),(iv fun _=>lC ms (i))] 117] (fun r bs=>r=(bv fun _=> !(ui9 ms (i)))∧bs=[.cells [.clo 118 [] [.own 1 0]] 184,.cells [(iv fun _=>lD ms (i+1)),(iv fun _=>lC ms (i+1))] 117]):=by
 have cf:=uuc ms i hi
 refine ua0.isB rfl fun R B hR hB=>qY (sc:=uwV) uas mix Try.func124 rfl Try.call124 (by kernel_rfl) (by kernel_rfl) ?_
 generalize Try.prog=P at cf⊢
 cbv
 repeat' (first
  |with_reducible refine And.intro ?_ ?_
  | (refine⟨some [1],?_⟩
     cbv
     refine qR ?_ (cf) (by cbv;(repeat' (first|exact qB|refine qD ?_ ?_|exact qE (by rfl)|exact qF (by rfl)|exact Fit.refl _|exact qA|refine qC ?_ rfl ?_))) (by cbv;(repeat' (first|exact qH|refine qI ?_ ?_|exact qK _|refine qJ ?_|exact qA|exact qE (by rfl)|exact qF (by rfl)|exact Fit.refl _|exact qG _|refine qC ?_ rfl ?_)))
     try cbv)
  |fail)
 all_goals first|(subst hR;(repeat' (first|exact qA|exact qB|refine qC ?_ rfl ?_|refine qD ?_ ?_|exact qE (by rfl)|exact qF (by rfl)|exact Fit.refl _|exact qG _|(refine qE ?_;(try simp only [qX]at *);simp only [zQ,zA,zB,zC,zD,zE,zF,zG,zH,zI,zJ,zK,zL,zM,zN,zO,zP,zR,zS]at *;omega)));done)|(subst hB;(repeat' (first|exact qH|refine qI ?_ ?_|exact qK _|refine qJ ?_|exact qA|exact qE (by rfl)|exact qF (by rfl)|exact Fit.refl _|exact qG _|refine qC ?_ rfl ?_));done)|skip
theorem ulY (ms:List (Int×Int))(hfew:ms.length-1≤1000):ua0 Try.prog 125 [(.sl 2 (.sym fun _=>zi (ms.length-1)) (fun ix=>[(iv fun _=>mD ms (ix.den.toNat+1)),(iv fun _=>mC ms (ix.den.toNat+1))])),.clo 124 [] [.own 0 0]] [.cells [.clo 118 [] [.own 1 0]] 184,.cells [(iv fun _=>lD ms (0)),(iv fun _=>lC ms (0))] 117] (fun r bs=>r=(iv fun _=>ue6 (fun i=>ui9 ms (i)) (ms.length-1) 0)∧bs=[.cells [.clo 118 [] [.own 1 0]] 184,.cells [.any,.any] 117]):=by
 have cl:=ulT ms hfew
 refine ua0.isB rfl fun R B hR hB=>qY (sc:=uwe) uas mix Try.func125 rfl Try.call125 (by kernel_rfl) (by kernel_rfl) ?_
 generalize Try.prog=P at cl⊢
 cbv
 repeat' (first|fail)
 all_goals first|skip
 refine⟨none,[],{i:Nat // i≤ms.length-1∧ue6 (fun i=>ui9 ms (i)) (ms.length-1) 0=ue6 (fun i=>ui9 ms (i)) (ms.length-1-i) i∧∀j,j<i→(ui9 ms (j))=true},fun x=>⟨[(0,(.sl 2 (.sym fun _=>zi (ms.length-1)) (fun ix=>[(iv fun _=>mD ms (ix.den.toNat+1)),(iv fun _=>mC ms (ix.den.toNat+1))]))),(1,.clo 124 [] [.own 0 0]),(7,(iv fun _=>zi (ms.length-1))),(8,(iv fun _=>zi x.1))],[(0,.cells [.clo 118 [] [.own 1 0]] 184),(1,.cells [(iv fun _=>lD ms (x.1)),(iv fun _=>lC ms (x.1))] 117)],20⟩,fun x=>ms.length-1-x.1,?_,?_⟩
 ·refine⟨⟨0,by omega,rfl,fun j hj=>by omega⟩,?_⟩
  cbv
  repeat' (first|with_reducible refine ua3 ?_ ?_|with_reducible refine And.intro ?_ ?_)
  all_goals first|trivial|exact qN (qE (by rfl))|exact qN (Fit.refl _)|exact qL (qK _)|skip
 ·rintro ⟨i,hi,hr,hq⟩
  cbv
  repeat' (first
   |with_reducible refine ua3 ?_ ?_
   |with_reducible refine And.intro ?_ ?_
   |(with_reducible intro hcd;(try simp only [zA,zB,zC,zD,zE,zF,zG,zH,zI,zJ,zK,zL,zM,zN,zO,zP]at hcd);try cbv)
   | (refine⟨some [0,1],?_⟩
      cbv
      refine qR ?_ (cl i ⟨by(try simp only [qX]at *);simp only [uaw]at *;omega,hq⟩) (by cbv;(repeat' (first|exact qB|refine qD ?_ ?_|exact qE (by rfl)|exact qF (by rfl)|exact Fit.refl _|exact qA|refine qC ?_ rfl ?_))) (by cbv;(repeat' (first|exact qH|refine qI ?_ ?_|exact qK _|refine qJ ?_|exact qA|exact qE (by rfl)|exact qF (by rfl)|exact Fit.refl _|exact qG _|refine qC ?_ rfl ?_)))
      try cbv)
   |fail)
  all_goals first|((try simp only [qX]at *);(try simp only [zQ,zA,zB,zC,zD,zE,zF,zG,zH,zI,zJ,zK,zL,zM,zN,zO,zP,zR,zS]at *);first|(refine qO ?_;omega)|(simp only [uap];omega))|(subst hR;(refine qE ?_;simp only [zQ,zA,zB,zC,zD,zE,zF,zG,zH,zI,zJ,zK,zL,zM,zN,zO,zP,zR,zS]at *;rw [hr,ucr (by omega) hcd]);done)|(subst hR;(refine qE ?_;simp only [zQ,zA,zB,zC,zD,zE,zF,zG,zH,zI,zJ,zK,zL,zM,zN,zO,zP,zR,zS]at *;rw [hr,show ms.length-1-i=0 by omega];rfl);done)|(subst hB;(repeat' (first|exact qH|refine qI ?_ ?_|exact qK _|refine qJ ?_|exact qA|exact qE (by rfl)|exact qF (by rfl)|exact Fit.refl _|exact qG _|refine qC ?_ rfl ?_));done)|((try simp only [zQ,zA,zB,zC,zD,zE,zF,zG,zH,zI,zJ,zK,zL,zM,zN,zO,zP,zR,zS]at *);refine⟨⟨i+1,by omega,by rw [hr,uet (by omega) hcd];(try congr 1)<;>omega,fun j hj=>(Nat.lt_or_ge j i).elim (hq j) (fun q=>by rw [show j=i by omega];exact hcd)⟩,by simp only [];omega,?_⟩;cbv;(repeat' (first|with_reducible refine ua3 ?_ ?_|with_reducible refine And.intro ?_ ?_));(all_goals first|trivial|exact qN (qE (by rfl))|exact qN (qF (by rfl))|exact qN (Fit.refl _)|exact qL (qK _)|(refine qN (qE ?_);(try simp only [qX]at *);simp only [zQ,zA,zB,zC,zD,zE,zF,zG,zH,zI,zJ,zK,zL,zM,zN,zO,zP,zR,zS]at *;omega)|(refine qL (qJ ?_);(repeat' (first|exact qA|exact qB|refine qC ?_ rfl ?_|refine qD ?_ ?_|exact qE (by rfl)|exact qF (by rfl)|exact Fit.refl _|exact qG _|(refine qE ?_;(try simp only [qX]at *);simp only [zQ,zA,zB,zC,zD,zE,zF,zG,zH,zI,zJ,zK,zL,zM,zN,zO,zP,zR,zS]at *;omega)));done)|skip))|skip
theorem ujX (ms:List (Int×Int))(hfew:ms.length-1≤1000):ua0 Try.prog 123 [(.sl 2 (.sym fun _=>zi (ms.length-1)) (fun ix=>[(iv fun _=>mD ms (ix.den.toNat+1)),(iv fun _=>mC ms (ix.den.toNat+1))])),.clo 124 [] [.own 0 0]] [.cells [.clo 118 [] [.own 1 0]] 184,.cells [(iv fun _=>lD ms (0)),(iv fun _=>lC ms (0))] 117] (fun r bs=>r=(bv fun _=>decide (0≤ue6 (fun i=>ui9 ms (i)) (ms.length-1) 0))∧bs=[.cells [.clo 118 [] [.own 1 0]] 184,.cells [.any,.any] 117]):=by
 have ci:=ulY ms hfew
 refine ua0.isB rfl fun R B hR hB=>qY (sc:=uxj) uas mix Try.func123 rfl Try.call123 (by kernel_rfl) (by kernel_rfl) ?_
 generalize Try.prog=P at ci⊢
 cbv
 repeat' (first
  |with_reducible refine And.intro ?_ ?_
  | (refine⟨some [0,1],?_⟩
     cbv
     refine qR ?_ (ci) (by cbv;(repeat' (first|exact qB|refine qD ?_ ?_|exact qE (by rfl)|exact qF (by rfl)|exact Fit.refl _|exact qA|refine qC ?_ rfl ?_))) (by cbv;(repeat' (first|exact qH|refine qI ?_ ?_|exact qK _|refine qJ ?_|exact qA|exact qE (by rfl)|exact qF (by rfl)|exact Fit.refl _|exact qG _|refine qC ?_ rfl ?_)))
     try cbv)
  |fail)
 all_goals first|(subst hR;(repeat' (first|exact qA|exact qB|refine qC ?_ rfl ?_|refine qD ?_ ?_|exact qE (by rfl)|exact qF (by rfl)|exact Fit.refl _|exact qG _|(refine qE ?_;(try simp only [qX]at *);simp only [zQ,zA,zB,zC,zD,zE,zF,zG,zH,zI,zJ,zK,zL,zM,zN,zO,zP,zR,zS]at *;omega)));done)|(subst hB;(repeat' (first|exact qH|refine qI ?_ ?_|exact qK _|refine qJ ?_|exact qA|exact qE (by rfl)|exact qF (by rfl)|exact Fit.refl _|exact qG _|refine qC ?_ rfl ?_));done)|skip
theorem ulQ (ms:List (Int×Int))(hfew:ms.length-1≤1000):ua0 Try.prog 117 [(.sl 2 (.sym fun _=>zi (ms.length-1)) (fun ix=>[(iv fun _=>mD ms (ix.den.toNat+1)),(iv fun _=>mC ms (ix.den.toNat+1))])),.clo 118 [] [.own 0 0]] [.cells [(iv fun _=>lD ms (0)),(iv fun _=>lC ms (0))] 117] (fun r bs=>r=(bv fun _=>ufV (fun i=>ui9 ms (i)) (ms.length-1))∧bs=[.cells [.any,.any] 117]):=by
 have cc:=ujX ms hfew
 refine ua0.isB rfl fun R B hR hB=>qY (sc:=uxs) uas mix Try.func117 rfl Try.call117 (by kernel_rfl) (by kernel_rfl) ?_
 generalize Try.prog=P at cc⊢
 cbv
 repeat' (first
  |with_reducible refine And.intro ?_ ?_
  | (refine⟨some [1,0],?_⟩
     cbv
     refine qR ?_ (cc) (by cbv;(repeat' (first|exact qB|refine qD ?_ ?_|exact qE (by rfl)|exact qF (by rfl)|exact Fit.refl _|exact qA|refine qC ?_ rfl ?_))) (by cbv;(repeat' (first|exact qH|refine qI ?_ ?_|exact qK _|refine qJ ?_|exact qA|exact qE (by rfl)|exact qF (by rfl)|exact Fit.refl _|exact qG _|refine qC ?_ rfl ?_)))
     try cbv)
  |fail)
 all_goals first|(subst hR;(repeat' (first|exact qA|exact qB|refine qC ?_ rfl ?_|refine qD ?_ ?_|exact qE (by rfl)|exact qF (by rfl)|exact Fit.refl _|exact qG _|(refine qE ?_;(try simp only [qX]at *);simp only [zQ,zA,zB,zC,zD,zE,zF,zG,zH,zI,zJ,zK,zL,zM,zN,zO,zP,zR,zS]at *;omega)));done)|(subst hB;(repeat' (first|exact qH|refine qI ?_ ?_|exact qK _|refine qJ ?_|exact qA|exact qE (by rfl)|exact qF (by rfl)|exact Fit.refl _|exact qG _|refine qC ?_ rfl ?_));done)|skip
theorem ulk {a b:Int}(h:a=0∧b=0):uaS [.sym fun _=>a,.sym fun _=>b]=uaS [.lit 0,.lit 0]:=by simp [uaS,IX.den,h.1,h.2]
theorem ukF {a b:Int}(h:uaS [.sym fun _=>a,.sym fun _=>b]=uaS [.lit 0,.lit 0]):a=0∧b=0:=by
 simp only [uaS,List.cons.injEq,and_true]at h
 exact h
theorem uu0 {ms:List (Int×Int)}(h:¬2≤ms.length):mkB ms=false:=by rw [uaL];exact fun q=>h q.1
theorem uxz {ms:List (Int×Int)}(h:¬(mD ms 0=0∧mC ms 0=0)):mkB ms=false:=by rw [uaL];exact fun q=>h ⟨q.2.1,q.2.2.1⟩
theorem uu4 {ms:List (Int×Int)}(h:2≤ms.length)(h':mD ms 0=0∧mC ms 0=0):mkB ms=ufV (fun i=>ui9 ms i) (ms.length-1):=by
 rw [Bool.eq_iff_iff,uaB]
 exact⟨fun q=>q.2.2.2,fun q=>⟨h,h'.1,h'.2,q⟩⟩
theorem ul5 {ms:List (Int×Int)}(h:mkB ms=true):2≤ms.length:=by rw [uaB]at h;exact h.1
theorem uuF {k:Csk}(h:mkB k.ms=false):kB k=false:=by rw [ucd];exact fun q=>by have:=q.1;rw [h]at this;cases this
theorem uuN {k:Csk}(h:ofB 0 k.sl k.sh (tpC k.ms)=false):kB k=false:=by rw [ucd];rw [uaO]at h;exact fun q=>h q.2.1
theorem uum {k:Csk}(h:mkB k.ms=true)(h':ofB 0 k.sl k.sh (tpC k.ms)=true):kB k=ofB 0 k.kl k.kh 4:=by
 rw [Bool.eq_iff_iff,uc4,uaM]
 rw [uaM]at h'
 exact⟨fun q=>q.2.2,fun q=>⟨h,h',q⟩⟩
theorem uoh (k:Csk)(h5:k.ms.length≤1000):ua0 Try.prog 101 [(.agg (kcS k))] [] (fun r _=>r=(bv fun _=>mkB k.ms)):=by
 have h117:=usb
 have ca:=fun h:k.ms.length-1≤1000=>ulQ k.ms h
 refine ua0.is fun R hR=>qY (sc:=uw4) uas mix Try.func101 rfl Try.call101 (by kernel_rfl) (by kernel_rfl) ?_
 generalize Try.prog=P at h117 ca⊢
 cbv
 repeat' (first
  |with_reducible refine ua3 ?_ ?_
  |with_reducible refine And.intro ?_ ?_
  |(with_reducible intro hcd;(try simp only [zA,zB,zC,zD,zE,zF,zG,zH,zI,zJ,zK,zL,zM,zN,zO,zP]at hcd);try cbv)
  | (refine⟨some [14],?_⟩
     cbv
     refine qR ?_ ((ca  om)) ?hfit ?hbo
     case hfit=>(cbv;(refine qD (ua1 ?_ (fun ix h0 h1=> ?_)) (qD (Fit.refl _) qB)<;>first|((try simp only [qX]at *);(try simp only [zQ,zA,zB,zC,zD,zE,zF,zG,zH,zI,zJ,zK,zL,zM,zN,zO,zP,zR,zS]at *);omega)|(refine qC (qE ?_) rfl (qC (qE ?_) rfl qA)<;>((try simp only [qX]at *);(try simp only [zQ,zA,zB,zC,zD,zE,zF,zG,zH,zI,zJ,zK,zL,zM,zN,zO,zP,zR,zS]at *);congr 1;omega)));done)
     case hbo=>(cbv;(repeat' (first|exact qH|refine qI ?_ ?_|exact qK _|refine qJ ?_|exact qA|exact qE (by rfl)|exact qF (by rfl)|exact Fit.refl _|exact qG _|refine qC ?_ rfl ?_));done)
     try cbv)
  |fail)
 all_goals first|trivial|((try simp only [qX]at *);(try simp only [zQ,zA,zB,zC,zD,zE,zF,zG,zH,zI,zJ,zK,zL,zM,zN,zO,zP,zR,zS,uab,uai,uah,uaq,uaM,uaO,uaf,uak,uaB,uaL,uc4,ucd,ucb,ucj,uc9,uci,uaG,uaR]at *);first|(refine qO ?_;omega)|(simp only [uap];omega))|(subst hR;(refine qF ?_;(try simp only [qX]at *);(try simp only [zQ,zA,zB,zC,zD,zE,zF,zG,zH,zI,zJ,zK,zL,zM,zN,zO,zP,zR,zS]at *);exact(uu0 (by omega)).symm);done)|(subst hR;(refine qF ?_;exact(uxz (fun h9=>of_decide_eq_false hcd (ulk h9))).symm);done)|(subst hR;(refine qF ?_;(have h9:=ukF (of_decide_eq_true hcd));(try simp only [qX]at *);(try simp only [zQ,zA,zB,zC,zD,zE,zF,zG,zH,zI,zJ,zK,zL,zM,zN,zO,zP,zR,zS]at *);exact(uu4 (by omega) h9).symm);done)|skip
theorem urY (k:Csk)(h5:k.ms.length≤1000):ua0 Try.prog 70 [(.agg (kcS k))] [] (fun r _=>r=(bv fun _=>kB k)):=by
 have c101:=uoh k h5
 have c98:= @uxg
 have c63:=fun h:1≤k.ms.length∧k.ms.length≤1000=>uhM k h.1 h.2
 refine ua0.is fun R hR=>qY (sc:=uz9) uas mix Try.func70 rfl Try.call70 (by kernel_rfl) (by kernel_rfl) ?_
 generalize Try.prog=P at c101 c98 c63⊢
 cbv
 repeat' (first|with_reducible refine And.intro ?_ ?_|(with_reducible intro hcd;(try simp only [zA,zB,zC,zD,zE,zF,zG,zH,zI,zJ,zK,zL,zM,zN,zO,zP]at hcd);try cbv)|(refine qQ ?_ (c101) ?hfit;(case hfit=>((repeat' (first|exact qB|refine qD ?_ ?_|exact qE (by rfl)|exact qF (by rfl)|exact Fit.refl _|exact qA|refine qC ?_ rfl ?_));done));try cbv)|(refine uaj ?_ (c98 _ _ _ _);try cbv)|(refine qQ ?_ ((c63 ⟨by have:=ul5 (by assumption);omega,h5⟩)) ?hfit;(case hfit=>((repeat' (first|exact qB|refine qD ?_ ?_|exact qE (by rfl)|exact qF (by rfl)|exact Fit.refl _|exact qA|refine qC ?_ rfl ?_));done));try cbv)|fail)
 all_goals first|(subst hR;(refine qF ?_;exact(uuF (by assumption)).symm);done)|(subst hR;(refine qF ?_;exact(uuN (by assumption)).symm);done)|(subst hR;(refine qF ?_;exact(uum (by assumption) (by assumption)).symm);done)|skip
theorem uuo (c:Clr)(m:Mov)(hn:c.cs.length≤1000):ua0 Try.prog 66 [(.agg [(caS c.cs),(mvS c.mv),(gaS c.gs)]),(.agg (vcS m))] [] (fun r _=>r=(bv fun _=>vB (c.cs.length:Int) m)):=by
 have c62:= @ube
 have c98:= @uxg
 refine ua0.is fun R hR=>qY (sc:=uy6) uas mix Try.func66 rfl Try.call66 (by kernel_rfl) (by kernel_rfl) ?_
 generalize Try.prog=P at c62 c98⊢
 cbv
 repeat' (first|with_reducible refine ua3 ?_ ?_|with_reducible refine And.intro ?_ ?_|(with_reducible intro hcd;(try simp only [zA,zB,zC,zD,zE,zF,zG,zH,zI,zJ,zK,zL,zM,zN,zO,zP]at hcd);try cbv)|(refine uaj ?_ (c62 _ _ _);try cbv)|(refine uaj ?_ (c98 _ _ _ _);try cbv)|fail)
 all_goals first|((try simp only [qX]at *);(try simp only [zQ,zA,zB,zC,zD,zE,zF,zG,zH,zI,zJ,zK,zL,zM,zN,zO,zP,zR,zS,uab,uai,uah,uaq,uaM,uaO,uaf,uak,uaB,uaL,uc4,ucd,ucb,ucj,uc9,uci,uaG,uaR]at *);first|(refine qO ?_;omega)|(simp only [uap];omega))|(subst hR;(refine qF ?_;(try simp only [qX]at *);(try simp only [zQ,zA,zB,zC,zD,zE,zF,zG,zH,zI,zJ,zK,zL,zM,zN,zO,zP,zR,zS]at *);apply Bool.eq_iff_iff.2;simp only [vP,uab,uai,uah,uaq,uaM,uaO,uaf,uak,uaB,uaL,uc4,ucd,ucb,ucj,uc9,uci,uaG,uaR,Bool.and_eq_true,Bool.or_eq_true,Bool.not_eq_true',decide_eq_true_eq,decide_eq_false_iff_not,Bool.false_eq_true,reduceCtorEq,Bool.true_and,Bool.and_true,Bool.false_and,Bool.and_false,iff_true,true_iff,Bool.not_true,Bool.not_false]at *;constructor<;>intro q<;>first|omega|(exact q.elim)|(exact absurd q (by omega)));done)|skip
theorem usZ (c:Clr)(g:Gau)(hn:c.cs.length≤1000)(hm:c.mv.length≤1000)(hk:∀i,i<c.cs.length→1≤(c.cs.getD i k0).ms.length∧(c.cs.getD i k0).ms.length≤1000):ua0 Try.prog 67 [(.agg [(caS c.cs),(mvS c.mv),(gaS c.gs)]),(.agg (gcS g))] [] (fun r _=>r=(bv fun _=>gB c g)):=by
 have c62:= @ube
 have c98:= @uxg
 have c63:=fun (i:Nat) (h:1≤(c.cs.getD i k0).ms.length∧(c.cs.getD i k0).ms.length≤1000)=>uhM (c.cs.getD i k0) h.1 h.2
 refine ua0.is fun R hR=>qY (sc:=uyf) uas mix Try.func67 rfl Try.call67 (by kernel_rfl) (by kernel_rfl) ?_
 generalize Try.prog=P at c62 c98 c63⊢
 cbv
 repeat' (first|with_reducible refine ua3 ?_ ?_|with_reducible refine And.intro ?_ ?_|(with_reducible intro hcd;(try simp only [zA,zB,zC,zD,zE,zF,zG,zH,zI,zJ,zK,zL,zM,zN,zO,zP]at hcd);try cbv)|(refine uaj ?_ (c62 _ _ _);try cbv)|(refine uaj ?_ (c98 _ _ _ _);try cbv)|(refine qQ ?_ ((c63 g.c.toNat (hk _ (by((try simp only [qX]at *);(try simp only [zQ,zA,zB,zC,zD,zE,zF,zG,zH,zI,zJ,zK,zL,zM,zN,zO,zP,zR,zS]at *);(try simp only [uab,uai,uah,uaq,uaM,uaO,uaf,uak,uaB,uaL,uc4,ucd,ucb,ucj,uc9,uci,uaG,uaR]at *);omega))))) ?hfit;(case hfit=>((repeat' (first|exact qB|refine qD ?_ ?_|exact qE (by rfl)|exact qF (by rfl)|exact Fit.refl _|exact qA|refine qC ?_ rfl ?_));done));try cbv)|fail)
 all_goals first|((try simp only [qX]at *);(try simp only [zQ,zA,zB,zC,zD,zE,zF,zG,zH,zI,zJ,zK,zL,zM,zN,zO,zP,zR,zS,uab,uai,uah,uaq,uaM,uaO,uaf,uak,uaB,uaL,uc4,ucd,ucb,ucj,uc9,uci,uaG,uaR]at *);first|(refine qO ?_;omega)|(simp only [uap];omega))|(subst hR;(refine qF ?_;(try simp only [qX]at *);(try simp only [zQ,zA,zB,zC,zD,zE,zF,zG,zH,zI,zJ,zK,zL,zM,zN,zO,zP,zR,zS]at *);apply Bool.eq_iff_iff.2;simp only [gP,uab,uai,uah,uaq,uaM,uaO,uaf,uak,uaB,uaL,uc4,ucd,ucb,ucj,uc9,uci,uaG,uaR,Bool.and_eq_true,Bool.or_eq_true,Bool.not_eq_true',decide_eq_true_eq,decide_eq_false_iff_not,Bool.false_eq_true,reduceCtorEq,Bool.true_and,Bool.and_true,Bool.false_and,Bool.and_false,iff_true,true_iff,Bool.not_true,Bool.not_false]at *;constructor<;>intro q<;>first|omega|(exact q.elim)|(exact absurd q (by omega)));done)|skip
theorem ulx (c:Clr)(hfew:c.cs.length≤1000)(i:Nat)(hi:i<c.cs.length∧∀j,j<i→(fwB (c.cs.getD (j) k0))=true):ua0 Try.prog 100 [(.agg (kcS ((c.cs).getD (i) k0))),.own 0 0] [.cells [.clo 68 [] []] 130] (fun r bs=>r=(bv fun _=> !(fwB (c.cs.getD (i) k0)))∧bs=[.cells [.clo 68 [] []] 130]):=by
 have cf:=uwY (c.cs.getD i k0)
 refine ua0.isB rfl fun R B hR hB=>qY (sc:=uuh) uas mix Try.func100 rfl Try.call100 (by kernel_rfl) (by kernel_rfl) ?_
 generalize Try.prog=P at cf⊢
 cbv
 repeat' (first|with_reducible refine And.intro ?_ ?_|(refine qQ ?_ (cf) ?hfit;(case hfit=>((repeat' (first|exact qB|refine qD ?_ ?_|exact qE (by rfl)|exact qF (by rfl)|exact Fit.refl _|exact qA|refine qC ?_ rfl ?_));done));try cbv)|fail)
 all_goals first|(subst hR;(repeat' (first|exact qA|exact qB|refine qC ?_ rfl ?_|refine qD ?_ ?_|exact qE (by rfl)|exact qF (by rfl)|exact Fit.refl _|exact qG _|(refine qE ?_;(try simp only [qX]at *);simp only [zQ,zA,zB,zC,zD,zE,zF,zG,zH,zI,zJ,zK,zL,zM,zN,zO,zP,zR,zS]at *;omega)));done)|(subst hB;(repeat' (first|exact qH|refine qI ?_ ?_|exact qK _|refine qJ ?_|exact qA|exact qE (by rfl)|exact qF (by rfl)|exact Fit.refl _|exact qG _|refine qC ?_ rfl ?_));done)|skip
theorem ulP (c:Clr)(hfew:c.cs.length≤1000):ua0 Try.prog 116 [(caS c.cs),.clo 100 [] [.own 0 0]] [.cells [.clo 68 [] []] 130] (fun r bs=>r=(iv fun _=>ue6 (fun i=>fwB (c.cs.getD (i) k0)) (c.cs.length) 0)∧bs=[.cells [.clo 68 [] []] 130]):=by
 have cl:=ulx c hfew
 refine ua0.isB rfl fun R B hR hB=>qY (sc:=uvi) uas mix Try.func116 rfl Try.call116 (by kernel_rfl) (by kernel_rfl) ?_
 generalize Try.prog=P at cl⊢
 cbv
 repeat' (first|fail)
 all_goals first|skip
 refine⟨none,[],{i:Nat // i≤c.cs.length∧ue6 (fun i=>fwB (c.cs.getD (i) k0)) (c.cs.length) 0=ue6 (fun i=>fwB (c.cs.getD (i) k0)) (c.cs.length-i) i∧∀j,j<i→(fwB (c.cs.getD (j) k0))=true},fun x=>⟨[(0,(caS c.cs)),(1,.clo 100 [] [.own 0 0]),(7,(iv fun _=>zi (c.cs.length))),(8,(iv fun _=>zi x.1))],[(0,.cells [.clo 68 [] []] 130)],20⟩,fun x=>c.cs.length-x.1,?_,?_⟩
 ·refine⟨⟨0,by omega,rfl,fun j hj=>by omega⟩,?_⟩
  cbv
  repeat' (first|with_reducible refine ua3 ?_ ?_|with_reducible refine And.intro ?_ ?_)
  all_goals first|trivial|exact qN (qE (by rfl))|exact qN (Fit.refl _)|exact qL (qK _)|skip
 ·rintro ⟨i,hi,hr,hq⟩
  cbv
  repeat' (first
   |with_reducible refine ua3 ?_ ?_
   |with_reducible refine And.intro ?_ ?_
   |(with_reducible intro hcd;(try simp only [zA,zB,zC,zD,zE,zF,zG,zH,zI,zJ,zK,zL,zM,zN,zO,zP]at hcd);try cbv)
   | (refine⟨some [0],?_⟩
      cbv
      refine qR ?_ (cl i ⟨by(try simp only [qX]at *);simp only [uaw]at *;omega,hq⟩) (by cbv;(repeat' (first|exact qB|refine qD ?_ ?_|exact qE (by rfl)|exact qF (by rfl)|exact Fit.refl _|exact qA|refine qC ?_ rfl ?_))) (by cbv;(repeat' (first|exact qH|refine qI ?_ ?_|exact qK _|refine qJ ?_|exact qA|exact qE (by rfl)|exact qF (by rfl)|exact Fit.refl _|exact qG _|refine qC ?_ rfl ?_)))
      try cbv)
   |fail)
  all_goals first|((try simp only [qX]at *);(try simp only [zQ,zA,zB,zC,zD,zE,zF,zG,zH,zI,zJ,zK,zL,zM,zN,zO,zP,zR,zS]at *);first|(refine qO ?_;omega)|(simp only [uap];omega))|(subst hR;(refine qE ?_;simp only [zQ,zA,zB,zC,zD,zE,zF,zG,zH,zI,zJ,zK,zL,zM,zN,zO,zP,zR,zS]at *;rw [hr,ucr (by omega) hcd]);done)|(subst hR;(refine qE ?_;simp only [zQ,zA,zB,zC,zD,zE,zF,zG,zH,zI,zJ,zK,zL,zM,zN,zO,zP,zR,zS]at *;rw [hr,show c.cs.length-i=0 by omega];rfl);done)|(subst hB;(repeat' (first|exact qH|refine qI ?_ ?_|exact qK _|refine qJ ?_|exact qA|exact qE (by rfl)|exact qF (by rfl)|exact Fit.refl _|exact qG _|refine qC ?_ rfl ?_));done)|((try simp only [zQ,zA,zB,zC,zD,zE,zF,zG,zH,zI,zJ,zK,zL,zM,zN,zO,zP,zR,zS]at *);refine⟨⟨i+1,by omega,by rw [hr,uet (by omega) hcd];(try congr 1)<;>omega,fun j hj=>(Nat.lt_or_ge j i).elim (hq j) (fun q=>by rw [show j=i by omega];exact hcd)⟩,by simp only [];omega,?_⟩;cbv;(repeat' (first|with_reducible refine ua3 ?_ ?_|with_reducible refine And.intro ?_ ?_));(all_goals first|trivial|exact qN (qE (by rfl))|exact qN (qF (by rfl))|exact qN (Fit.refl _)|exact qL (qK _)|(refine qN (qE ?_);(try simp only [qX]at *);simp only [zQ,zA,zB,zC,zD,zE,zF,zG,zH,zI,zJ,zK,zL,zM,zN,zO,zP,zR,zS]at *;omega)|(refine qL (qJ ?_);(repeat' (first|exact qA|exact qB|refine qC ?_ rfl ?_|refine qD ?_ ?_|exact qE (by rfl)|exact qF (by rfl)|exact Fit.refl _|exact qG _|(refine qE ?_;(try simp only [qX]at *);simp only [zQ,zA,zB,zC,zD,zE,zF,zG,zH,zI,zJ,zK,zL,zM,zN,zO,zP,zR,zS]at *;omega)));done)|skip))|skip
theorem umB (c:Clr)(hfew:c.cs.length≤1000):ua0 Try.prog 99 [(caS c.cs),.clo 100 [] [.own 0 0]] [.cells [.clo 68 [] []] 130] (fun r bs=>r=(bv fun _=>decide (0≤ue6 (fun i=>fwB (c.cs.getD (i) k0)) (c.cs.length) 0))∧bs=[.cells [.clo 68 [] []] 130]):=by
 have ci:=ulP c hfew
 refine ua0.isB rfl fun R B hR hB=>qY (sc:=uxP) uas mix Try.func99 rfl Try.call99 (by kernel_rfl) (by kernel_rfl) ?_
 generalize Try.prog=P at ci⊢
 cbv
 repeat' (first
  |with_reducible refine And.intro ?_ ?_
  | (refine⟨some [0],?_⟩
     cbv
     refine qR ?_ (ci) (by cbv;(repeat' (first|exact qB|refine qD ?_ ?_|exact qE (by rfl)|exact qF (by rfl)|exact Fit.refl _|exact qA|refine qC ?_ rfl ?_))) (by cbv;(repeat' (first|exact qH|refine qI ?_ ?_|exact qK _|refine qJ ?_|exact qA|exact qE (by rfl)|exact qF (by rfl)|exact Fit.refl _|exact qG _|refine qC ?_ rfl ?_)))
     try cbv)
  |fail)
 all_goals first|(subst hR;(repeat' (first|exact qA|exact qB|refine qC ?_ rfl ?_|refine qD ?_ ?_|exact qE (by rfl)|exact qF (by rfl)|exact Fit.refl _|exact qG _|(refine qE ?_;(try simp only [qX]at *);simp only [zQ,zA,zB,zC,zD,zE,zF,zG,zH,zI,zJ,zK,zL,zM,zN,zO,zP,zR,zS]at *;omega)));done)|(subst hB;(repeat' (first|exact qH|refine qI ?_ ?_|exact qK _|refine qJ ?_|exact qA|exact qE (by rfl)|exact qF (by rfl)|exact Fit.refl _|exact qG _|refine qC ?_ rfl ?_));done)|skip
theorem unL (c:Clr)(hfew:c.cs.length≤1000):ua0 Try.prog 69 [(caS c.cs),.clo 68 [] []] [] (fun r _=>r=(bv fun _=>ufV (fun i=>fwB (c.cs.getD (i) k0)) (c.cs.length))):=by
 have cc:=umB c hfew
 refine ua0.is fun R hR=>qY (sc:=uxS) uas mix Try.func69 rfl Try.call69 (by kernel_rfl) (by kernel_rfl) ?_
 generalize Try.prog=P at cc⊢
 cbv
 repeat' (first
  | (refine⟨some [0],?_⟩
     cbv
     refine qR ?_ (cc) (by cbv;(repeat' (first|exact qB|refine qD ?_ ?_|exact qE (by rfl)|exact qF (by rfl)|exact Fit.refl _|exact qA|refine qC ?_ rfl ?_))) (by cbv;(repeat' (first|exact qH|refine qI ?_ ?_|exact qK _|refine qJ ?_|exact qA|exact qE (by rfl)|exact qF (by rfl)|exact Fit.refl _|exact qG _|refine qC ?_ rfl ?_)))
     try cbv)
  |fail)
 all_goals first|(subst hR;(repeat' (first|exact qA|exact qB|refine qC ?_ rfl ?_|refine qD ?_ ?_|exact qE (by rfl)|exact qF (by rfl)|exact Fit.refl _|exact qG _|(refine qE ?_;(try simp only [qX]at *);simp only [zQ,zA,zB,zC,zD,zE,zF,zG,zH,zI,zJ,zK,zL,zM,zN,zO,zP,zR,zS]at *;omega)));done)|skip
theorem ulC (c:Clr)(h5:∀i,i<c.cs.length→(c.cs.getD i k0).ms.length≤1000)(hfew:c.cs.length≤1000)(i:Nat)(hi:i<c.cs.length∧∀j,j<i→(kB (c.cs.getD (j) k0))=true):ua0 Try.prog 100 [(.agg (kcS ((c.cs).getD (i) k0))),.own 0 0] [.cells [.clo 70 [] []] 130] (fun r bs=>r=(bv fun _=> !(kB (c.cs.getD (i) k0)))∧bs=[.cells [.clo 70 [] []] 130]):=by
 have cf:=urY (c.cs.getD i k0) (h5 i hi.1)
 refine ua0.isB rfl fun R B hR hB=>qY (sc:=uuh) uas mix Try.func100 rfl Try.call100 (by kernel_rfl) (by kernel_rfl) ?_
 generalize Try.prog=P at cf⊢
 cbv
 repeat' (first|with_reducible refine And.intro ?_ ?_|(refine qQ ?_ (cf) ?hfit;(case hfit=>((repeat' (first|exact qB|refine qD ?_ ?_|exact qE (by rfl)|exact qF (by rfl)|exact Fit.refl _|exact qA|refine qC ?_ rfl ?_));done));try cbv)|fail)
 all_goals first|(subst hR;(repeat' (first|exact qA|exact qB|refine qC ?_ rfl ?_|refine qD ?_ ?_|exact qE (by rfl)|exact qF (by rfl)|exact Fit.refl _|exact qG _|(refine qE ?_;(try simp only [qX]at *);simp only [zQ,zA,zB,zC,zD,zE,zF,zG,zH,zI,zJ,zK,zL,zM,zN,zO,zP,zR,zS]at *;omega)));done)|(subst hB;(repeat' (first|exact qH|refine qI ?_ ?_|exact qK _|refine qJ ?_|exact qA|exact qE (by rfl)|exact qF (by rfl)|exact Fit.refl _|exact qG _|refine qC ?_ rfl ?_));done)|skip
theorem um3 (c:Clr)(h5:∀i,i<c.cs.length→(c.cs.getD i k0).ms.length≤1000)(hfew:c.cs.length≤1000):ua0 Try.prog 116 [(caS c.cs),.clo 100 [] [.own 0 0]] [.cells [.clo 70 [] []] 130] (fun r bs=>r=(iv fun _=>ue6 (fun i=>kB (c.cs.getD (i) k0)) (c.cs.length) 0)∧bs=[.cells [.clo 70 [] []] 130]):=by
 have cl:=ulC c h5 hfew
 refine ua0.isB rfl fun R B hR hB=>qY (sc:=uvi) uas mix Try.func116 rfl Try.call116 (by kernel_rfl) (by kernel_rfl) ?_
 generalize Try.prog=P at cl⊢
 cbv
 repeat' (first|fail)
 all_goals first|skip
 refine⟨none,[],{i:Nat // i≤c.cs.length∧ue6 (fun i=>kB (c.cs.getD (i) k0)) (c.cs.length) 0=ue6 (fun i=>kB (c.cs.getD (i) k0)) (c.cs.length-i) i∧∀j,j<i→(kB (c.cs.getD (j) k0))=true},fun x=>⟨[(0,(caS c.cs)),(1,.clo 100 [] [.own 0 0]),(7,(iv fun _=>zi (c.cs.length))),(8,(iv fun _=>zi x.1))],[(0,.cells [.clo 70 [] []] 130)],20⟩,fun x=>c.cs.length-x.1,?_,?_⟩
 ·refine⟨⟨0,by omega,rfl,fun j hj=>by omega⟩,?_⟩
  cbv
  repeat' (first|with_reducible refine ua3 ?_ ?_|with_reducible refine And.intro ?_ ?_)
  all_goals first|trivial|exact qN (qE (by rfl))|exact qN (Fit.refl _)|exact qL (qK _)|skip
 ·rintro ⟨i,hi,hr,hq⟩
  cbv
  repeat' (first
   |with_reducible refine ua3 ?_ ?_
   |with_reducible refine And.intro ?_ ?_
   |(with_reducible intro hcd;(try simp only [zA,zB,zC,zD,zE,zF,zG,zH,zI,zJ,zK,zL,zM,zN,zO,zP]at hcd);try cbv)
   | (refine⟨some [0],?_⟩
      cbv
      refine qR ?_ (cl i ⟨by(try simp only [qX]at *);simp only [uaw]at *;omega,hq⟩) (by cbv;(repeat' (first|exact qB|refine qD ?_ ?_|exact qE (by rfl)|exact qF (by rfl)|exact Fit.refl _|exact qA|refine qC ?_ rfl ?_))) (by cbv;(repeat' (first|exact qH|refine qI ?_ ?_|exact qK _|refine qJ ?_|exact qA|exact qE (by rfl)|exact qF (by rfl)|exact Fit.refl _|exact qG _|refine qC ?_ rfl ?_)))
      try cbv)
   |fail)
  all_goals first|((try simp only [qX]at *);(try simp only [zQ,zA,zB,zC,zD,zE,zF,zG,zH,zI,zJ,zK,zL,zM,zN,zO,zP,zR,zS]at *);first|(refine qO ?_;omega)|(simp only [uap];omega))|(subst hR;(refine qE ?_;simp only [zQ,zA,zB,zC,zD,zE,zF,zG,zH,zI,zJ,zK,zL,zM,zN,zO,zP,zR,zS]at *;rw [hr,ucr (by omega) hcd]);done)|(subst hR;(refine qE ?_;simp only [zQ,zA,zB,zC,zD,zE,zF,zG,zH,zI,zJ,zK,zL,zM,zN,zO,zP,zR,zS]at *;rw [hr,show c.cs.length-i=0 by omega];rfl);done)|(subst hB;(repeat' (first|exact qH|refine qI ?_ ?_|exact qK _|refine qJ ?_|exact qA|exact qE (by rfl)|exact qF (by rfl)|exact Fit.refl _|exact qG _|refine qC ?_ rfl ?_));done)|((try simp only [zQ,zA,zB,zC,zD,zE,zF,zG,zH,zI,zJ,zK,zL,zM,zN,zO,zP,zR,zS]at *);refine⟨⟨i+1,by omega,by rw [hr,uet (by omega) hcd];(try congr 1)<;>omega,fun j hj=>(Nat.lt_or_ge j i).elim (hq j) (fun q=>by rw [show j=i by omega];exact hcd)⟩,by simp only [];omega,?_⟩;cbv;(repeat' (first|with_reducible refine ua3 ?_ ?_|with_reducible refine And.intro ?_ ?_));(all_goals first|trivial|exact qN (qE (by rfl))|exact qN (qF (by rfl))|exact qN (Fit.refl _)|exact qL (qK _)|(refine qN (qE ?_);(try simp only [qX]at *);simp only [zQ,zA,zB,zC,zD,zE,zF,zG,zH,zI,zJ,zK,zL,zM,zN,zO,zP,zR,zS]at *;omega)|(refine qL (qJ ?_);(repeat' (first|exact qA|exact qB|refine qC ?_ rfl ?_|refine qD ?_ ?_|exact qE (by rfl)|exact qF (by rfl)|exact Fit.refl _|exact qG _|(refine qE ?_;(try simp only [qX]at *);simp only [zQ,zA,zB,zC,zD,zE,zF,zG,zH,zI,zJ,zK,zL,zM,zN,zO,zP,zR,zS]at *;omega)));done)|skip))|skip
theorem umk (c:Clr)(h5:∀i,i<c.cs.length→(c.cs.getD i k0).ms.length≤1000)(hfew:c.cs.length≤1000):ua0 Try.prog 99 [(caS c.cs),.clo 100 [] [.own 0 0]] [.cells [.clo 70 [] []] 130] (fun r bs=>r=(bv fun _=>decide (0≤ue6 (fun i=>kB (c.cs.getD (i) k0)) (c.cs.length) 0))∧bs=[.cells [.clo 70 [] []] 130]):=by
 have ci:=um3 c h5 hfew
 refine ua0.isB rfl fun R B hR hB=>qY (sc:=uxP) uas mix Try.func99 rfl Try.call99 (by kernel_rfl) (by kernel_rfl) ?_
 generalize Try.prog=P at ci⊢
 cbv
 repeat' (first
  |with_reducible refine And.intro ?_ ?_
  | (refine⟨some [0],?_⟩
     cbv
     refine qR ?_ (ci) (by cbv;(repeat' (first|exact qB|refine qD ?_ ?_|exact qE (by rfl)|exact qF (by rfl)|exact Fit.refl _|exact qA|refine qC ?_ rfl ?_))) (by cbv;(repeat' (first|exact qH|refine qI ?_ ?_|exact qK _|refine qJ ?_|exact qA|exact qE (by rfl)|exact qF (by rfl)|exact Fit.refl _|exact qG _|refine qC ?_ rfl ?_)))
     try cbv)
  |fail)
 all_goals first|(subst hR;(repeat' (first|exact qA|exact qB|refine qC ?_ rfl ?_|refine qD ?_ ?_|exact qE (by rfl)|exact qF (by rfl)|exact Fit.refl _|exact qG _|(refine qE ?_;(try simp only [qX]at *);simp only [zQ,zA,zB,zC,zD,zE,zF,zG,zH,zI,zJ,zK,zL,zM,zN,zO,zP,zR,zS]at *;omega)));done)|(subst hB;(repeat' (first|exact qH|refine qI ?_ ?_|exact qK _|refine qJ ?_|exact qA|exact qE (by rfl)|exact qF (by rfl)|exact Fit.refl _|exact qG _|refine qC ?_ rfl ?_));done)|skip
theorem un0 (c:Clr)(h5:∀i,i<c.cs.length→(c.cs.getD i k0).ms.length≤1000)(hfew:c.cs.length≤1000):ua0 Try.prog 69 [(caS c.cs),.clo 70 [] []] [] (fun r _=>r=(bv fun _=>ufV (fun i=>kB (c.cs.getD (i) k0)) (c.cs.length))):=by
 have cc:=umk c h5 hfew
 refine ua0.is fun R hR=>qY (sc:=uxS) uas mix Try.func69 rfl Try.call69 (by kernel_rfl) (by kernel_rfl) ?_
 generalize Try.prog=P at cc⊢
 cbv
 repeat' (first
  | (refine⟨some [0],?_⟩
     cbv
     refine qR ?_ (cc) (by cbv;(repeat' (first|exact qB|refine qD ?_ ?_|exact qE (by rfl)|exact qF (by rfl)|exact Fit.refl _|exact qA|refine qC ?_ rfl ?_))) (by cbv;(repeat' (first|exact qH|refine qI ?_ ?_|exact qK _|refine qJ ?_|exact qA|exact qE (by rfl)|exact qF (by rfl)|exact Fit.refl _|exact qG _|refine qC ?_ rfl ?_)))
     try cbv)
  |fail)
 all_goals first|(subst hR;(repeat' (first|exact qA|exact qB|refine qC ?_ rfl ?_|refine qD ?_ ?_|exact qE (by rfl)|exact qF (by rfl)|exact Fit.refl _|exact qG _|(refine qE ?_;(try simp only [qX]at *);simp only [zQ,zA,zB,zC,zD,zE,zF,zG,zH,zI,zJ,zK,zL,zM,zN,zO,zP,zR,zS]at *;omega)));done)|skip
theorem ulR (c:Clr)(hn:c.cs.length≤1000)(hfew:c.mv.length≤1000)(i:Nat)(hi:i<c.mv.length∧∀j,j<i→(vB (c.cs.length:Int) (c.mv.getD (j) v0))=true):ua0 Try.prog 103 [(.agg (vcS ((c.mv).getD (i) v0))),.own 0 0] [.cells [.clo 66 [(.agg [(caS c.cs),(mvS c.mv),(gaS c.gs)])] []] 128] (fun r bs=>r=(bv fun _=> !(vB (c.cs.length:Int) (c.mv.getD (i) v0)))∧bs=[.cells [.clo 66 [(.agg [(caS c.cs),(mvS c.mv),(gaS c.gs)])] []] 128]):=by
 have cf:=uuo c (c.mv.getD i v0) hn
 refine ua0.isB rfl fun R B hR hB=>qY (sc:=uwb) uas mix Try.func103 rfl Try.call103 (by kernel_rfl) (by kernel_rfl) ?_
 generalize Try.prog=P at cf⊢
 cbv
 repeat' (first|with_reducible refine And.intro ?_ ?_|(refine qQ ?_ (cf) ?hfit;(case hfit=>((repeat' (first|exact qB|refine qD ?_ ?_|exact qE (by rfl)|exact qF (by rfl)|exact Fit.refl _|exact qA|refine qC ?_ rfl ?_));done));try cbv)|fail)
 all_goals first|(subst hR;(repeat' (first|exact qA|exact qB|refine qC ?_ rfl ?_|refine qD ?_ ?_|exact qE (by rfl)|exact qF (by rfl)|exact Fit.refl _|exact qG _|(refine qE ?_;(try simp only [qX]at *);simp only [zQ,zA,zB,zC,zD,zE,zF,zG,zH,zI,zJ,zK,zL,zM,zN,zO,zP,zR,zS]at *;omega)));done)|(subst hB;(repeat' (first|exact qH|refine qI ?_ ?_|exact qK _|refine qJ ?_|exact qA|exact qE (by rfl)|exact qF (by rfl)|exact Fit.refl _|exact qG _|refine qC ?_ rfl ?_));done)|skip
theorem ulN (c:Clr)(hn:c.cs.length≤1000)(hfew:c.mv.length≤1000):ua0 Try.prog 119 [(mvS c.mv),.clo 103 [] [.own 0 0]] [.cells [.clo 66 [(.agg [(caS c.cs),(mvS c.mv),(gaS c.gs)])] []] 128] (fun r bs=>r=(iv fun _=>ue6 (fun i=>vB (c.cs.length:Int) (c.mv.getD (i) v0)) (c.mv.length) 0)∧bs=[.cells [.clo 66 [(.agg [(caS c.cs),(mvS c.mv),(gaS c.gs)])] []] 128]):=by
 have cl:=ulR c hn hfew
 refine ua0.isB rfl fun R B hR hB=>qY (sc:=ux3) uas mix Try.func119 rfl Try.call119 (by kernel_rfl) (by kernel_rfl) ?_
 generalize Try.prog=P at cl⊢
 cbv
 repeat' (first|fail)
 all_goals first|skip
 refine⟨none,[],{i:Nat // i≤c.mv.length∧ue6 (fun i=>vB (c.cs.length:Int) (c.mv.getD (i) v0)) (c.mv.length) 0=ue6 (fun i=>vB (c.cs.length:Int) (c.mv.getD (i) v0)) (c.mv.length-i) i∧∀j,j<i→(vB (c.cs.length:Int) (c.mv.getD (j) v0))=true},fun x=>⟨[(0,(mvS c.mv)),(1,.clo 103 [] [.own 0 0]),(7,(iv fun _=>zi (c.mv.length))),(8,(iv fun _=>zi x.1))],[(0,.cells [.clo 66 [(.agg [(caS c.cs),(mvS c.mv),(gaS c.gs)])] []] 128)],20⟩,fun x=>c.mv.length-x.1,?_,?_⟩
 ·refine⟨⟨0,by omega,rfl,fun j hj=>by omega⟩,?_⟩
  cbv
  repeat' (first|with_reducible refine ua3 ?_ ?_|with_reducible refine And.intro ?_ ?_)
  all_goals first|trivial|exact qN (qE (by rfl))|exact qN (Fit.refl _)|exact qL (qK _)|skip
 ·rintro ⟨i,hi,hr,hq⟩
  cbv
  repeat' (first
   |with_reducible refine ua3 ?_ ?_
   |with_reducible refine And.intro ?_ ?_
   |(with_reducible intro hcd;(try simp only [zA,zB,zC,zD,zE,zF,zG,zH,zI,zJ,zK,zL,zM,zN,zO,zP]at hcd);try cbv)
   | (refine⟨some [0],?_⟩
      cbv
      refine qR ?_ (cl i ⟨by(try simp only [qX]at *);simp only [uaw]at *;omega,hq⟩) (by cbv;(repeat' (first|exact qB|refine qD ?_ ?_|exact qE (by rfl)|exact qF (by rfl)|exact Fit.refl _|exact qA|refine qC ?_ rfl ?_))) (by cbv;(repeat' (first|exact qH|refine qI ?_ ?_|exact qK _|refine qJ ?_|exact qA|exact qE (by rfl)|exact qF (by rfl)|exact Fit.refl _|exact qG _|refine qC ?_ rfl ?_)))
      try cbv)
   |fail)
  all_goals first|((try simp only [qX]at *);(try simp only [zQ,zA,zB,zC,zD,zE,zF,zG,zH,zI,zJ,zK,zL,zM,zN,zO,zP,zR,zS]at *);first|(refine qO ?_;omega)|(simp only [uap];omega))|(subst hR;(refine qE ?_;simp only [zQ,zA,zB,zC,zD,zE,zF,zG,zH,zI,zJ,zK,zL,zM,zN,zO,zP,zR,zS]at *;rw [hr,ucr (by omega) hcd]);done)|(subst hR;(refine qE ?_;simp only [zQ,zA,zB,zC,zD,zE,zF,zG,zH,zI,zJ,zK,zL,zM,zN,zO,zP,zR,zS]at *;rw [hr,show c.mv.length-i=0 by omega];rfl);done)|(subst hB;(repeat' (first|exact qH|refine qI ?_ ?_|exact qK _|refine qJ ?_|exact qA|exact qE (by rfl)|exact qF (by rfl)|exact Fit.refl _|exact qG _|refine qC ?_ rfl ?_));done)|((try simp only [zQ,zA,zB,zC,zD,zE,zF,zG,zH,zI,zJ,zK,zL,zM,zN,zO,zP,zR,zS]at *);refine⟨⟨i+1,by omega,by rw [hr,uet (by omega) hcd];(try congr 1)<;>omega,fun j hj=>(Nat.lt_or_ge j i).elim (hq j) (fun q=>by rw [show j=i by omega];exact hcd)⟩,by simp only [];omega,?_⟩;cbv;(repeat' (first|with_reducible refine ua3 ?_ ?_|with_reducible refine And.intro ?_ ?_));(all_goals first|trivial|exact qN (qE (by rfl))|exact qN (qF (by rfl))|exact qN (Fit.refl _)|exact qL (qK _)|(refine qN (qE ?_);(try simp only [qX]at *);simp only [zQ,zA,zB,zC,zD,zE,zF,zG,zH,zI,zJ,zK,zL,zM,zN,zO,zP,zR,zS]at *;omega)|(refine qL (qJ ?_);(repeat' (first|exact qA|exact qB|refine qC ?_ rfl ?_|refine qD ?_ ?_|exact qE (by rfl)|exact qF (by rfl)|exact Fit.refl _|exact qG _|(refine qE ?_;(try simp only [qX]at *);simp only [zQ,zA,zB,zC,zD,zE,zF,zG,zH,zI,zJ,zK,zL,zM,zN,zO,zP,zR,zS]at *;omega)));done)|skip))|skip
theorem ujB (c:Clr)(hn:c.cs.length≤1000)(hfew:c.mv.length≤1000):ua0 Try.prog 102 [(mvS c.mv),.clo 103 [] [.own 0 0]] [.cells [.clo 66 [(.agg [(caS c.cs),(mvS c.mv),(gaS c.gs)])] []] 128] (fun r bs=>r=(bv fun _=>decide (0≤ue6 (fun i=>vB (c.cs.length:Int) (c.mv.getD (i) v0)) (c.mv.length) 0))∧bs=[.cells [.clo 66 [(.agg [(caS c.cs),(mvS c.mv),(gaS c.gs)])] []] 128]):=by
 have ci:=ulN c hn hfew
 refine ua0.isB rfl fun R B hR hB=>qY (sc:=uxe) uas mix Try.func102 rfl Try.call102 (by kernel_rfl) (by kernel_rfl) ?_
 generalize Try.prog=P at ci⊢
 cbv
 repeat' (first
  |with_reducible refine And.intro ?_ ?_
  | (refine⟨some [0],?_⟩
     cbv
     refine qR ?_ (ci) (by cbv;(repeat' (first|exact qB|refine qD ?_ ?_|exact qE (by rfl)|exact qF (by rfl)|exact Fit.refl _|exact qA|refine qC ?_ rfl ?_))) (by cbv;(repeat' (first|exact qH|refine qI ?_ ?_|exact qK _|refine qJ ?_|exact qA|exact qE (by rfl)|exact qF (by rfl)|exact Fit.refl _|exact qG _|refine qC ?_ rfl ?_)))
     try cbv)
  |fail)
 all_goals first|(subst hR;(repeat' (first|exact qA|exact qB|refine qC ?_ rfl ?_|refine qD ?_ ?_|exact qE (by rfl)|exact qF (by rfl)|exact Fit.refl _|exact qG _|(refine qE ?_;(try simp only [qX]at *);simp only [zQ,zA,zB,zC,zD,zE,zF,zG,zH,zI,zJ,zK,zL,zM,zN,zO,zP,zR,zS]at *;omega)));done)|(subst hB;(repeat' (first|exact qH|refine qI ?_ ?_|exact qK _|refine qJ ?_|exact qA|exact qE (by rfl)|exact qF (by rfl)|exact Fit.refl _|exact qG _|refine qC ?_ rfl ?_));done)|skip
theorem unq (c:Clr)(hn:c.cs.length≤1000)(hfew:c.mv.length≤1000):ua0 Try.prog 71 [(mvS c.mv),.clo 66 [(.agg [(caS c.cs),(mvS c.mv),(gaS c.gs)])] []] [] (fun r _=>r=(bv fun _=>ufV (fun i=>vB (c.cs.length:Int) (c.mv.getD (i) v0)) (c.mv.length))):=by
 have cc:=ujB c hn hfew
 refine ua0.is fun R hR=>qY (sc:=uyx) uas mix Try.func71 rfl Try.call71 (by kernel_rfl) (by kernel_rfl) ?_
 generalize Try.prog=P at cc⊢
 cbv
 repeat' (first
  | (refine⟨some [0],?_⟩
     cbv
     refine qR ?_ (cc) (by cbv;(repeat' (first|exact qB|refine qD ?_ ?_|exact qE (by rfl)|exact qF (by rfl)|exact Fit.refl _|exact qA|refine qC ?_ rfl ?_))) (by cbv;(repeat' (first|exact qH|refine qI ?_ ?_|exact qK _|refine qJ ?_|exact qA|exact qE (by rfl)|exact qF (by rfl)|exact Fit.refl _|exact qG _|refine qC ?_ rfl ?_)))
     try cbv)
  |fail)
 all_goals first|(subst hR;(repeat' (first|exact qA|exact qB|refine qC ?_ rfl ?_|refine qD ?_ ?_|exact qE (by rfl)|exact qF (by rfl)|exact Fit.refl _|exact qG _|(refine qE ?_;(try simp only [qX]at *);simp only [zQ,zA,zB,zC,zD,zE,zF,zG,zH,zI,zJ,zK,zL,zM,zN,zO,zP,zR,zS]at *;omega)));done)|skip
theorem ulG (c:Clr)(hn:c.cs.length≤1000)(hm:c.mv.length≤1000)(hk:∀i,i<c.cs.length→1≤(c.cs.getD i k0).ms.length∧(c.cs.getD i k0).ms.length≤1000)(hfew:c.gs.length≤1000)(i:Nat)(hi:i<c.gs.length∧∀j,j<i→(gB c (c.gs.getD (j) g0))=true):ua0 Try.prog 105 [(.agg (gcS ((c.gs).getD (i) g0))),.own 0 0] [.cells [.clo 67 [(.agg [(caS c.cs),(mvS c.mv),(gaS c.gs)])] []] 129] (fun r bs=>r=(bv fun _=> !(gB c (c.gs.getD (i) g0)))∧bs=[.cells [.clo 67 [(.agg [(caS c.cs),(mvS c.mv),(gaS c.gs)])] []] 129]):=by
 have cf:=usZ c (c.gs.getD i g0) hn hm hk
 refine ua0.isB rfl fun R B hR hB=>qY (sc:=uwS) uas mix Try.func105 rfl Try.call105 (by kernel_rfl) (by kernel_rfl) ?_
 generalize Try.prog=P at cf⊢
 cbv
 repeat' (first|with_reducible refine And.intro ?_ ?_|(refine qQ ?_ (cf) ?hfit;(case hfit=>((repeat' (first|exact qB|refine qD ?_ ?_|exact qE (by rfl)|exact qF (by rfl)|exact Fit.refl _|exact qA|refine qC ?_ rfl ?_));done));try cbv)|fail)
 all_goals first|(subst hR;(repeat' (first|exact qA|exact qB|refine qC ?_ rfl ?_|refine qD ?_ ?_|exact qE (by rfl)|exact qF (by rfl)|exact Fit.refl _|exact qG _|(refine qE ?_;(try simp only [qX]at *);simp only [zQ,zA,zB,zC,zD,zE,zF,zG,zH,zI,zJ,zK,zL,zM,zN,zO,zP,zR,zS]at *;omega)));done)|(subst hB;(repeat' (first|exact qH|refine qI ?_ ?_|exact qK _|refine qJ ?_|exact qA|exact qE (by rfl)|exact qF (by rfl)|exact Fit.refl _|exact qG _|refine qC ?_ rfl ?_));done)|skip
theorem umr (c:Clr)(hn:c.cs.length≤1000)(hm:c.mv.length≤1000)(hk:∀i,i<c.cs.length→1≤(c.cs.getD i k0).ms.length∧(c.cs.getD i k0).ms.length≤1000)(hfew:c.gs.length≤1000):ua0 Try.prog 120 [(gaS c.gs),.clo 105 [] [.own 0 0]] [.cells [.clo 67 [(.agg [(caS c.cs),(mvS c.mv),(gaS c.gs)])] []] 129] (fun r bs=>r=(iv fun _=>ue6 (fun i=>gB c (c.gs.getD (i) g0)) (c.gs.length) 0)∧bs=[.cells [.clo 67 [(.agg [(caS c.cs),(mvS c.mv),(gaS c.gs)])] []] 129]):=by
 have cl:=ulG c hn hm hk hfew
 refine ua0.isB rfl fun R B hR hB=>qY (sc:=uw7) uas mix Try.func120 rfl Try.call120 (by kernel_rfl) (by kernel_rfl) ?_
 generalize Try.prog=P at cl⊢
 cbv
 repeat' (first|fail)
 all_goals first|skip
 refine⟨none,[],{i:Nat // i≤c.gs.length∧ue6 (fun i=>gB c (c.gs.getD (i) g0)) (c.gs.length) 0=ue6 (fun i=>gB c (c.gs.getD (i) g0)) (c.gs.length-i) i∧∀j,j<i→(gB c (c.gs.getD (j) g0))=true},fun x=>⟨[(0,(gaS c.gs)),(1,.clo 105 [] [.own 0 0]),(7,(iv fun _=>zi (c.gs.length))),(8,(iv fun _=>zi x.1))],[(0,.cells [.clo 67 [(.agg [(caS c.cs),(mvS c.mv),(gaS c.gs)])] []] 129)],20⟩,fun x=>c.gs.length-x.1,?_,?_⟩
 ·refine⟨⟨0,by omega,rfl,fun j hj=>by omega⟩,?_⟩
  cbv
  repeat' (first|with_reducible refine ua3 ?_ ?_|with_reducible refine And.intro ?_ ?_)
  all_goals first|trivial|exact qN (qE (by rfl))|exact qN (Fit.refl _)|exact qL (qK _)|skip
 ·rintro ⟨i,hi,hr,hq⟩
  cbv
  repeat' (first
   |with_reducible refine ua3 ?_ ?_
   |with_reducible refine And.intro ?_ ?_
   |(with_reducible intro hcd;(try simp only [zA,zB,zC,zD,zE,zF,zG,zH,zI,zJ,zK,zL,zM,zN,zO,zP]at hcd);try cbv)
   | (refine⟨some [0],?_⟩
      cbv
      refine qR ?_ (cl i ⟨by(try simp only [qX]at *);simp only [uaw]at *;omega,hq⟩) (by cbv;(repeat' (first|exact qB|refine qD ?_ ?_|exact qE (by rfl)|exact qF (by rfl)|exact Fit.refl _|exact qA|refine qC ?_ rfl ?_))) (by cbv;(repeat' (first|exact qH|refine qI ?_ ?_|exact qK _|refine qJ ?_|exact qA|exact qE (by rfl)|exact qF (by rfl)|exact Fit.refl _|exact qG _|refine qC ?_ rfl ?_)))
      try cbv)
   |fail)
  all_goals first|((try simp only [qX]at *);(try simp only [zQ,zA,zB,zC,zD,zE,zF,zG,zH,zI,zJ,zK,zL,zM,zN,zO,zP,zR,zS]at *);first|(refine qO ?_;omega)|(simp only [uap];omega))|(subst hR;(refine qE ?_;simp only [zQ,zA,zB,zC,zD,zE,zF,zG,zH,zI,zJ,zK,zL,zM,zN,zO,zP,zR,zS]at *;rw [hr,ucr (by omega) hcd]);done)|(subst hR;(refine qE ?_;simp only [zQ,zA,zB,zC,zD,zE,zF,zG,zH,zI,zJ,zK,zL,zM,zN,zO,zP,zR,zS]at *;rw [hr,show c.gs.length-i=0 by omega];rfl);done)|(subst hB;(repeat' (first|exact qH|refine qI ?_ ?_|exact qK _|refine qJ ?_|exact qA|exact qE (by rfl)|exact qF (by rfl)|exact Fit.refl _|exact qG _|refine qC ?_ rfl ?_));done)|((try simp only [zQ,zA,zB,zC,zD,zE,zF,zG,zH,zI,zJ,zK,zL,zM,zN,zO,zP,zR,zS]at *);refine⟨⟨i+1,by omega,by rw [hr,uet (by omega) hcd];(try congr 1)<;>omega,fun j hj=>(Nat.lt_or_ge j i).elim (hq j) (fun q=>by rw [show j=i by omega];exact hcd)⟩,by simp only [];omega,?_⟩;cbv;(repeat' (first|with_reducible refine ua3 ?_ ?_|with_reducible refine And.intro ?_ ?_));(all_goals first|trivial|exact qN (qE (by rfl))|exact qN (qF (by rfl))|exact qN (Fit.refl _)|exact qL (qK _)|(refine qN (qE ?_);(try simp only [qX]at *);simp only [zQ,zA,zB,zC,zD,zE,zF,zG,zH,zI,zJ,zK,zL,zM,zN,zO,zP,zR,zS]at *;omega)|(refine qL (qJ ?_);(repeat' (first|exact qA|exact qB|refine qC ?_ rfl ?_|refine qD ?_ ?_|exact qE (by rfl)|exact qF (by rfl)|exact Fit.refl _|exact qG _|(refine qE ?_;(try simp only [qX]at *);simp only [zQ,zA,zB,zC,zD,zE,zF,zG,zH,zI,zJ,zK,zL,zM,zN,zO,zP,zR,zS]at *;omega)));done)|skip))|skip
theorem ukj (c:Clr)(hn:c.cs.length≤1000)(hm:c.mv.length≤1000)(hk:∀i,i<c.cs.length→1≤(c.cs.getD i k0).ms.length∧(c.cs.getD i k0).ms.length≤1000)(hfew:c.gs.length≤1000):ua0 Try.prog 104 [(gaS c.gs),.clo 105 [] [.own 0 0]] [.cells [.clo 67 [(.agg [(caS c.cs),(mvS c.mv),(gaS c.gs)])] []] 129] (fun r bs=>r=(bv fun _=>decide (0≤ue6 (fun i=>gB c (c.gs.getD (i) g0)) (c.gs.length) 0))∧bs=[.cells [.clo 67 [(.agg [(caS c.cs),(mvS c.mv),(gaS c.gs)])] []] 129]):=by
 have ci:=umr c hn hm hk hfew
 refine ua0.isB rfl fun R B hR hB=>qY (sc:=uxA) uas mix Try.func104 rfl Try.call104 (by kernel_rfl) (by kernel_rfl) ?_
 generalize Try.prog=P at ci⊢
 cbv
 repeat' (first
  |with_reducible refine And.intro ?_ ?_
  | (refine⟨some [0],?_⟩
     cbv
     refine qR ?_ (ci) (by cbv;(repeat' (first|exact qB|refine qD ?_ ?_|exact qE (by rfl)|exact qF (by rfl)|exact Fit.refl _|exact qA|refine qC ?_ rfl ?_))) (by cbv;(repeat' (first|exact qH|refine qI ?_ ?_|exact qK _|refine qJ ?_|exact qA|exact qE (by rfl)|exact qF (by rfl)|exact Fit.refl _|exact qG _|refine qC ?_ rfl ?_)))
     try cbv)
  |fail)
 all_goals first|(subst hR;(repeat' (first|exact qA|exact qB|refine qC ?_ rfl ?_|refine qD ?_ ?_|exact qE (by rfl)|exact qF (by rfl)|exact Fit.refl _|exact qG _|(refine qE ?_;(try simp only [qX]at *);simp only [zQ,zA,zB,zC,zD,zE,zF,zG,zH,zI,zJ,zK,zL,zM,zN,zO,zP,zR,zS]at *;omega)));done)|(subst hB;(repeat' (first|exact qH|refine qI ?_ ?_|exact qK _|refine qJ ?_|exact qA|exact qE (by rfl)|exact qF (by rfl)|exact Fit.refl _|exact qG _|refine qC ?_ rfl ?_));done)|skip
theorem uoC (c:Clr)(hn:c.cs.length≤1000)(hm:c.mv.length≤1000)(hk:∀i,i<c.cs.length→1≤(c.cs.getD i k0).ms.length∧(c.cs.getD i k0).ms.length≤1000)(hfew:c.gs.length≤1000):ua0 Try.prog 72 [(gaS c.gs),.clo 67 [(.agg [(caS c.cs),(mvS c.mv),(gaS c.gs)])] []] [] (fun r _=>r=(bv fun _=>ufV (fun i=>gB c (c.gs.getD (i) g0)) (c.gs.length))):=by
 have cc:=ukj c hn hm hk hfew
 refine ua0.is fun R hR=>qY (sc:=uyl) uas mix Try.func72 rfl Try.call72 (by kernel_rfl) (by kernel_rfl) ?_
 generalize Try.prog=P at cc⊢
 cbv
 repeat' (first
  | (refine⟨some [0],?_⟩
     cbv
     refine qR ?_ (cc) (by cbv;(repeat' (first|exact qB|refine qD ?_ ?_|exact qE (by rfl)|exact qF (by rfl)|exact Fit.refl _|exact qA|refine qC ?_ rfl ?_))) (by cbv;(repeat' (first|exact qH|refine qI ?_ ?_|exact qK _|refine qJ ?_|exact qA|exact qE (by rfl)|exact qF (by rfl)|exact Fit.refl _|exact qG _|refine qC ?_ rfl ?_)))
     try cbv)
  |fail)
 all_goals first|(subst hR;(repeat' (first|exact qA|exact qB|refine qC ?_ rfl ?_|refine qD ?_ ?_|exact qE (by rfl)|exact qF (by rfl)|exact Fit.refl _|exact qG _|(refine qE ?_;(try simp only [qX]at *);simp only [zQ,zA,zB,zC,zD,zE,zF,zG,zH,zI,zJ,zK,zL,zM,zN,zO,zP,zR,zS]at *;omega)));done)|skip
end Go.Proofs.Ytpkgnhcfmpbidaa

namespace Go.Proofs.Ytpkgnhcfmpbidaa
open Go Go.Eng Go.Proofs Go.Eng.Ck Go.Eng.Few
set_option maxRecDepth 10000
theorem utY {c:Clr}(h:ufV (fun i=>fwB (c.cs.getD i k0)) c.cs.length=true):∀i,i<c.cs.length→(c.cs.getD i k0).ms.length≤1000:=fun i hi=>by
 rw [uab]at h
 have:=h i hi
 rw [uaG]at this
 omega
theorem uwP {c:Clr}(hf:ufV (fun i=>fwB (c.cs.getD i k0)) c.cs.length=true)(h:ufV (fun i=>kB (c.cs.getD i k0)) c.cs.length=true):∀i,i<c.cs.length→1≤(c.cs.getD i k0).ms.length∧(c.cs.getD i k0).ms.length≤1000:=fun i hi=>by
 refine⟨?_,utY hf i hi⟩
 rw [uab]at h
 have:=h i hi
 rw [uc4]at this
 have:=ul5 this.1
 omega
theorem ugN {c:Clr}(h1:c.cs.length≤3)(h2:c.mv.length≤4)(h3:c.gs.length≤6)(hf:ufV (fun i=>fwB (c.cs.getD i k0)) c.cs.length=true):¬uiY c:=by
 rintro(q|q|q|q)
 ·omega
 ·omega
 ·omega
 ·exact q hf
theorem uaC (c:Clr):ua0 Try.prog 22 [(.agg [(caS c.cs),(mvS c.mv),(gaS c.gs)])] [] (fun r _=>r=(iv fun _=>ua6 c)):=by
 have cf:=unL c
 have cv:=un0 c
 have cm:=unq c
 have cg:=uoC c
 refine ua0.is fun R hR=>qY (sc:=uzi) uas mix Try.func22 rfl Try.call22 (by kernel_rfl) (by kernel_rfl) ?_
 generalize Try.prog=P at cf cv cm cg⊢
 cbv
 repeat' (first|with_reducible refine And.intro ?_ ?_|(with_reducible intro hcd;(try simp only [zA,zB,zC,zD,zE,zF,zG,zH,zI,zJ,zK,zL,zM,zN,zO,zP]at hcd);try cbv)|(refine qQ ?_ ((cf  om)) ?hfit;(case hfit=>((repeat' (first|exact qB|refine qD ?_ ?_|exact qE (by rfl)|exact qF (by rfl)|exact Fit.refl _|exact qA|refine qC ?_ rfl ?_));done));try cbv)|(refine qQ ?_ ((cv (utY (by assumption))  om)) ?hfit;(case hfit=>((repeat' (first|exact qB|refine qD ?_ ?_|exact qE (by rfl)|exact qF (by rfl)|exact Fit.refl _|exact qA|refine qC ?_ rfl ?_));done));try cbv)|(refine qQ ?_ ((cm  om  om)) ?hfit;(case hfit=>((repeat' (first|exact qB|refine qD ?_ ?_|exact qE (by rfl)|exact qF (by rfl)|exact Fit.refl _|exact qA|refine qC ?_ rfl ?_));done));try cbv)|(refine qQ ?_ ((cg  om  om (uwP (by assumption) (by assumption))  om)) ?hfit;(case hfit=>((repeat' (first|exact qB|refine qD ?_ ?_|exact qE (by rfl)|exact qF (by rfl)|exact Fit.refl _|exact qA|refine qC ?_ rfl ?_));done));try cbv)|fail)
 all_goals first|(subst hR;(refine qE ?_;(try simp only [qX]at *);(try simp only [zQ,zA,zB,zC,zD,zE,zF,zG,zH,zI,zJ,zK,zL,zM,zN,zO,zP,zR,zS]at *);exact(udi (.inl (by omega))).symm);done)|(subst hR;(refine qE ?_;(try simp only [qX]at *);(try simp only [zQ,zA,zB,zC,zD,zE,zF,zG,zH,zI,zJ,zK,zL,zM,zN,zO,zP,zR,zS]at *);exact(udi (.inr (.inl (by omega)))).symm);done)|(subst hR;(refine qE ?_;(try simp only [qX]at *);(try simp only [zQ,zA,zB,zC,zD,zE,zF,zG,zH,zI,zJ,zK,zL,zM,zN,zO,zP,zR,zS]at *);exact(udi (.inr (.inr (.inl (by omega))))).symm);done)|(subst hR;(refine qE ?_;(try simp only [qX]at *);(try simp only [zQ,zA,zB,zC,zD,zE,zF,zG,zH,zI,zJ,zK,zL,zM,zN,zO,zP,zR,zS]at *);exact(udi (.inr (.inr (.inr (by rw [(by assumption:ufV (fun i=>fwB (c.cs.getD i k0)) c.cs.length=false)];simp))))).symm);done)|(subst hR;(refine qE ?_;(try simp only [qX]at *);(try simp only [zQ,zA,zB,zC,zD,zE,zF,zG,zH,zI,zJ,zK,zL,zM,zN,zO,zP,zR,zS]at *);exact(udt (ugN (by omega) (by omega) (by omega) (by assumption)) (fun q=>by have:=q.1;omega)).symm);done)|(subst hR;(refine qE ?_;(try simp only [qX]at *);(try simp only [zQ,zA,zB,zC,zD,zE,zF,zG,zH,zI,zJ,zK,zL,zM,zN,zO,zP,zR,zS]at *);exact(udt (ugN (by omega) (by omega) (by omega) (by assumption)) (fun q=>Bool.noConfusion (q.2.1.symm.trans (by assumption)))).symm);done)|(subst hR;(refine qE ?_;(try simp only [qX]at *);(try simp only [zQ,zA,zB,zC,zD,zE,zF,zG,zH,zI,zJ,zK,zL,zM,zN,zO,zP,zR,zS]at *);exact(udt (ugN (by omega) (by omega) (by omega) (by assumption)) (fun q=>Bool.noConfusion (q.2.2.1.symm.trans (by assumption)))).symm);done)|(subst hR;(refine qE ?_;(try simp only [qX]at *);(try simp only [zQ,zA,zB,zC,zD,zE,zF,zG,zH,zI,zJ,zK,zL,zM,zN,zO,zP,zR,zS]at *);exact(udt (ugN (by omega) (by omega) (by omega) (by assumption)) (fun q=>Bool.noConfusion (q.2.2.2.symm.trans (by assumption)))).symm);done)|(subst hR;(refine qE ?_;(try simp only [qX]at *);(try simp only [zQ,zA,zB,zC,zD,zE,zF,zG,zH,zI,zJ,zK,zL,zM,zN,zO,zP,zR,zS]at *);exact(uki (ugN (by omega) (by omega) (by omega) (by assumption)) ⟨by omega,by assumption,by assumption,by assumption⟩).symm);done)|skip
theorem upY {ms:List (Int×Int)} {d:Int} {i:Nat}(ht:d≤tpD ms)(hi:i<ms.length)(h:mD ms i<d):i+1<ms.length:=by
 rcases Nat.lt_or_ge (i+1) ms.length with q|q
 ·exact q
 ·exfalso
  unfold tpD at ht
  rw [show ms.length-1=i by omega]at ht
  omega
theorem utT {ms:List (Int×Int)} {d:Int} {i:Nat}(h:MOk ms)(ht:d≤tpD ms)(hs:IsSeg ms d i):mC ms (i-1)+((mC ms i-mC ms (i-1))*(d-mD ms (i-1))).tdiv (mD ms i-mD ms (i-1))=ct ms d:=by
 unfold ct
 rw [ura h hs ht]
 rfl
theorem ut3 {a b x y:Int}(h0:0≤a)(h1:a≤x)(h2:0≤b)(h3:b≤y):0≤a*b∧a*b≤x*y:=
 ⟨Int.mul_nonneg h0 h2,Int.le_trans (Int.mul_le_mul_of_nonneg_right h1 h2) (Int.mul_le_mul_of_nonneg_left h3 (by omega))⟩
theorem ug5 {ms:List (Int×Int)} {d:Int} {i:Nat}(h:MOk ms)(h0:0≤d)(ht:d≤tpD ms)(i1:1≤i)(il:i<ms.length)(hq:∀j,1≤j→j<i→mD ms j<d):(mD ms (i-1)≤d∧d≤100)∧(mD ms (i-1)<mD ms i∧0≤mD ms (i-1)∧mD ms i≤100)∧(mC ms (i-1)<mC ms i∧0≤mC ms (i-1)∧mC ms i≤1000)∧(0≤(mC ms i-mC ms (i-1))*(d-mD ms (i-1))∧(mC ms i-mC ms (i-1))*(d-mD ms (i-1))≤100000):=by
 have h1:=h.lt (i:=i-1) (j:=i) (by omega) il
 have h2:=h.bd il
 have h3:=h.bd (i:=i-1) (by omega)
 have h4:=h.top
 have h5:mD ms (i-1)≤d:=by
  by_cases e:i=1
  ·subst e;have:=h.d0;simp only [Nat.sub_self];omega
  ·have:=hq (i-1) (by omega) (by omega);omega
 have h6:=ut3 (a:=mC ms i-mC ms (i-1)) (x:=1000) (b:=d-mD ms (i-1)) (y:=100) (by omega) (by omega) (by omega) (by omega)
 omega
theorem ur4 {ms:List (Int×Int)} {d:Int} {i:Nat}(h:MOk ms)(h0:0≤d)(hs:IsSeg ms d i):0≤((mC ms i-mC ms (i-1))*(d-mD ms (i-1))).tdiv (mD ms i-mD ms (i-1))∧((mC ms i-mC ms (i-1))*(d-mD ms (i-1))).tdiv (mD ms i-mD ms (i-1))≤1000:=by
 have h1:=hs.one
 have h2:=hs.len
 have h3:=h.lt (i:=i-1) (j:=i) (by omega) h2
 have h4:=h.bd h2
 have h5:=h.bd (i:=i-1) (by omega)
 have:=umY (e:=mC ms (i-1)) (f:=mC ms i) h3.1 (by omega) (hs.lo' h h0) hs.hi
 unfold upw at this
 omega
theorem ugv (k:Csk)(d:Int)(hm:MOk k.ms)(hd:0≤d∧d≤tpD k.ms):ua0 Try.prog 64 [(.agg (kcS k)),(iv fun _=>d)] [] (fun r _=>r=(iv fun _=>ct k.ms d)):=by
 refine ua0.is fun R hR=>qY (sc:=uz8) uas mix Try.func64 rfl Try.call64 (by kernel_rfl) (by kernel_rfl) ?_
 generalize Try.prog=P
 cbv
 have h2:=hm.two
 have h5:=hm.few
 repeat' (first|fail)
 all_goals first|skip
 refine⟨none,[],{i:Nat // 1≤i∧i<k.ms.length∧∀j,1≤j→j<i→mD k.ms j<d},fun x=>⟨[(1,(iv fun _=>d)),(2,.own 0 0),(5,(iv fun _=>zi x.1))],[(0,.cells (kcS k) 115)],60⟩,fun x=>k.ms.length-x.1,?_,?_⟩
 ·refine⟨⟨1,by omega,by omega,fun j j1 j2=>by omega⟩,?_⟩
  cbv
  repeat' (first|with_reducible refine ua3 ?_ ?_|with_reducible refine And.intro ?_ ?_)
  all_goals first|trivial|exact qN (qE (by rfl))|exact qN (Fit.refl _)|exact qL (qK _)|skip
 ·rintro ⟨i,i1,il,hq⟩
  cbv
  have hf:=ug5 hm hd.1 hd.2 i1 il hq
  have h5:=hm.few
  have e1:((i:Int)-1).toNat=i-1:=by omega
  repeat' (first|with_reducible refine ua3 ?_ ?_|with_reducible refine And.intro ?_ ?_|(with_reducible refine qT ?_ ?_ ?_;try cbv)|(with_reducible intro hcd;(try simp only [zA,zB,zC,zD,zE,zF,zG,zH,zI,zJ,zK,zL,zM,zN,zO,zP]at hcd);try cbv)|fail)
  all_goals first|((try simp only [qX]at *);(try simp only [zQ,zA,zB,zC,zD,zE,zF,zG,zH,zI,zJ,zK,zL,zM,zN,zO,zP,zR,zS]at *);first|(refine qO ?_;omega)|(simp only [uap];omega))|(subst hR;(refine qE ?_;(try simp only [qX]at *);(try simp only [zQ,zA,zB,zC,zD,zE,zF,zG,zH,zI,zJ,zK,zL,zM,zN,zO,zP,zR,zS]at *);(try simp only [e1]at *);exact utT hm hd.2 ⟨i1,il,hq,by omega⟩);done)|((try simp only [qX]at *);(try simp only [zQ,zA,zB,zC,zD,zE,zF,zG,zH,zI,zJ,zK,zL,zM,zN,zO,zP,zR,zS]at *);(try simp only [e1]at *);first|(refine qO ?_;omega)|(simp only [uap];first|omega|exact⟨by omega,by omega⟩))|((try simp only [qX]at *);(try simp only [zQ,zA,zB,zC,zD,zE,zF,zG,zH,zI,zJ,zK,zL,zM,zN,zO,zP,zR,zS]at *);(try simp only [e1]at *);simp only [uap];(have hs:IsSeg k.ms d i:=⟨i1,il,hq,by omega⟩);(have ha:=ur4 hm hd.1 hs);first|(refine qO ?_;omega)|omega|exact⟨by omega,by omega⟩)|((try simp only [zQ,zA,zB,zC,zD,zE,zF,zG,zH,zI,zJ,zK,zL,zM,zN,zO,zP,zR,zS]at *);refine⟨⟨i+1,by omega,upY hd.2 il  om,fun j j1 j2=>(Nat.lt_or_ge j i).elim (hq j j1) (fun q=>by rw [show j=i by omega];((try simp only [qX]at *);(try simp only [zQ,zA,zB,zC,zD,zE,zF,zG,zH,zI,zJ,zK,zL,zM,zN,zO,zP,zR,zS]at *);omega))⟩,by simp only [];omega,?_⟩;cbv;(repeat' (first|with_reducible refine ua3 ?_ ?_|with_reducible refine And.intro ?_ ?_));(all_goals first|trivial|exact qN (qE (by rfl))|exact qN (qF (by rfl))|exact qN (Fit.refl _)|exact qL (qK _)|(refine qN (qE ?_);(try simp only [qX]at *);simp only [zQ,zA,zB,zC,zD,zE,zF,zG,zH,zI,zJ,zK,zL,zM,zN,zO,zP,zR,zS]at *;omega)|(refine qL (qJ ?_);(repeat' (first|exact qA|exact qB|refine qC ?_ rfl ?_|refine qD ?_ ?_|exact qE (by rfl)|exact qF (by rfl)|exact Fit.refl _|exact qG _|(refine qE ?_;(try simp only [qX]at *);simp only [zQ,zA,zB,zC,zD,zE,zF,zG,zH,zI,zJ,zK,zL,zM,zN,zO,zP,zR,zS]at *;omega)));done)|skip))|skip
end Go.Proofs.Ytpkgnhcfmpbidaa

namespace Go.Proofs.Ytpkgnhcfmpbidaa
open Go Go.Eng Go.Proofs Go.Eng.Ck Go.Eng.Few
set_option maxRecDepth 10000
theorem ucA (k:Csk)(d:Int)(hm:MOk k.ms)(hd:0≤d∧d≤tpD k.ms):ua0 Try.prog 27 [(.agg (kcS k)),(iv fun _=>d)] [] (fun r _=>r=(iv fun _=>ct k.ms d)):=by
 refine ua0.is fun R hR=>qY (sc:=uzc) uas mix Try.func27 rfl Try.call27 (by kernel_rfl) (by kernel_rfl) ?_
 generalize Try.prog=P
 cbv
 have h2:=hm.two
 have h5:=hm.few
 repeat' (first|fail)
 all_goals first|skip
 refine⟨none,[],{i:Nat // 1≤i∧i≤k.ms.length∧∀j,1≤j→j<i→mD k.ms j<d},fun x=>⟨[(1,(iv fun _=>d)),(2,.own 0 0),(5,(iv fun _=>zi x.1))],[(0,.cells (kcS k) 52)],60⟩,fun x=>k.ms.length-x.1,?_,?_⟩
 ·refine⟨⟨1,by omega,by omega,fun j j1 j2=>by omega⟩,?_⟩
  cbv
  repeat' (first|with_reducible refine ua3 ?_ ?_|with_reducible refine And.intro ?_ ?_)
  all_goals first|trivial|exact qN (qE (by rfl))|exact qN (Fit.refl _)|exact qL (qK _)|skip
 ·rintro ⟨i,i1,il,hq⟩
  cbv
  have h5:=hm.few
  have e1:((i:Int)-1).toNat=i-1:=by omega
  repeat' (first|with_reducible refine ua3 ?_ ?_|with_reducible refine And.intro ?_ ?_|(with_reducible refine qT ?_ ?_ ?_;try cbv)|(with_reducible intro hcd;(try simp only [zA,zB,zC,zD,zE,zF,zG,zH,zI,zJ,zK,zL,zM,zN,zO,zP]at hcd);try cbv)|fail)
  all_goals first|((try simp only [qX]at *);(try simp only [zQ,zA,zB,zC,zD,zE,zF,zG,zH,zI,zJ,zK,zL,zM,zN,zO,zP,zR,zS]at *);first|(refine qO ?_;omega)|(simp only [uap];omega))|(subst hR;(refine qE ?_;(try simp only [qX]at *);(try simp only [zQ,zA,zB,zC,zD,zE,zF,zG,zH,zI,zJ,zK,zL,zM,zN,zO,zP,zR,zS]at *);(try simp only [e1]at *);exact utT hm hd.2 ⟨i1,(by omega),hq,by omega⟩);done)|((try simp only [qX]at *);(try simp only [zQ,zA,zB,zC,zD,zE,zF,zG,zH,zI,zJ,zK,zL,zM,zN,zO,zP,zR,zS]at *);(try simp only [e1]at *);(have hf:=ug5 hm hd.1 hd.2 i1 (by omega) hq);first|(refine qO ?_;omega)|(simp only [uap];first|omega|exact⟨by omega,by omega⟩))|((try simp only [qX]at *);(try simp only [zQ,zA,zB,zC,zD,zE,zF,zG,zH,zI,zJ,zK,zL,zM,zN,zO,zP,zR,zS]at *);(try simp only [e1]at *);simp only [uap];(have hf:=ug5 hm hd.1 hd.2 i1 (by omega) hq);(have hs:IsSeg k.ms d i:=⟨i1,(by omega),hq,by omega⟩);(have ha:=ur4 hm hd.1 hs);first|(refine qO ?_;omega)|omega|exact⟨by omega,by omega⟩)|(exfalso;(have hl:=hq (k.ms.length-1) (by omega)  om);(have h9:=hd.2);unfold tpD at h9;omega)|((try simp only [zQ,zA,zB,zC,zD,zE,zF,zG,zH,zI,zJ,zK,zL,zM,zN,zO,zP,zR,zS]at *);refine⟨⟨i+1,by omega, om,fun j j1 j2=>(Nat.lt_or_ge j i).elim (hq j j1) (fun q=>by rw [show j=i by omega];((try simp only [qX]at *);(try simp only [zQ,zA,zB,zC,zD,zE,zF,zG,zH,zI,zJ,zK,zL,zM,zN,zO,zP,zR,zS]at *);omega))⟩,by simp only [];omega,?_⟩;cbv;(repeat' (first|with_reducible refine ua3 ?_ ?_|with_reducible refine And.intro ?_ ?_));(all_goals first|trivial|exact qN (qE (by rfl))|exact qN (qF (by rfl))|exact qN (Fit.refl _)|exact qL (qK _)|(refine qN (qE ?_);(try simp only [qX]at *);simp only [zQ,zA,zB,zC,zD,zE,zF,zG,zH,zI,zJ,zK,zL,zM,zN,zO,zP,zR,zS]at *;omega)|(refine qL (qJ ?_);(repeat' (first|exact qA|exact qB|refine qC ?_ rfl ?_|refine qD ?_ ?_|exact qE (by rfl)|exact qF (by rfl)|exact Fit.refl _|exact qG _|(refine qE ?_;(try simp only [qX]at *);simp only [zQ,zA,zB,zC,zD,zE,zF,zG,zH,zI,zJ,zK,zL,zM,zN,zO,zP,zR,zS]at *;omega)));done)|skip))|skip
theorem utG {cs:List Csk} {M:Nat} {g:Gau}(h:GOk cs M g):(0≤g.dl∧g.dl≤tpD (cs.getD g.c.toNat k0).ms)∧(0≤g.dh∧g.dh≤tpD (cs.getD g.c.toNat k0).ms)∧(0≤tpD (cs.getD g.c.toNat k0).ms-g.dl∧tpD (cs.getD g.c.toNat k0).ms-g.dl≤tpD (cs.getD g.c.toNat k0).ms)∧0≤tpD (cs.getD g.c.toNat k0).ms-g.dh∧tpD (cs.getD g.c.toNat k0).ms-g.dh≤tpD (cs.getD g.c.toNat k0).ms:=by
 have h0:=h.d0
 have h1:=h.d1
 have h2:=h.d2
 omega
theorem ur2 {cs:List Csk} {g:Gau}(h:g.dry=false):mLo cs g=ct (cs.getD g.c.toNat k0).ms g.dl∧mHi cs g=ct (cs.getD g.c.toNat k0).ms g.dh:=by
 unfold mLo mHi dLo dHi
 rw [h]
 exact⟨rfl,rfl⟩
theorem uqv {cs:List Csk} {g:Gau}(h:g.dry=true):mLo cs g=ct (cs.getD g.c.toNat k0).ms (tpD (cs.getD g.c.toNat k0).ms-g.dh)∧mHi cs g=ct (cs.getD g.c.toNat k0).ms (tpD (cs.getD g.c.toNat k0).ms-g.dl):=by
 unfold mLo mHi dLo dHi
 rw [if_pos h,if_pos h]
 exact⟨rfl,rfl⟩
theorem url (c:Clr)(g:Gau)(hn:c.cs.length≤1000)(hg:GOk c.cs c.mv.length g)(hm:MOk (c.cs.getD g.c.toNat k0).ms):ua0 Try.prog 65 [(.agg [(caS c.cs),(mvS c.mv),(gaS c.gs)]),(.agg (gcS g))] [] (fun r _=>r=(.agg [(iv fun _=>mLo c.cs g),(iv fun _=>mHi c.cs g)])):=by
 have c64:=fun (d:Int) hd=>ugv (c.cs.getD g.c.toNat k0) d hm hd
 have c63:=uhM (c.cs.getD g.c.toNat k0) (by have:=hm.two;omega) (by have:=hm.few;omega)
 have h0:=hg.c0
 have h1:=hg.c1
 have hb:=utG hg
 have ht:=hm.top
 have h2:=hm.two
 have h5:=hm.few
 refine ua0.is fun R hR=>qY (sc:=uyP) uas mix Try.func65 rfl Try.call65 (by kernel_rfl) (by kernel_rfl) ?_
 generalize Try.prog=P at c64 c63⊢
 cbv
 repeat' (first|with_reducible refine ua3 ?_ ?_|with_reducible refine And.intro ?_ ?_|(with_reducible intro hcd;(try simp only [zA,zB,zC,zD,zE,zF,zG,zH,zI,zJ,zK,zL,zM,zN,zO,zP]at hcd);try cbv)|(refine qQ ?_ ((c64 g.dl hb.1)) ?hfit;(case hfit=>((repeat' (first|exact qB|refine qD ?_ ?_|exact qE (by rfl)|exact qF (by rfl)|exact Fit.refl _|exact qA|refine qC ?_ rfl ?_));done));try cbv)|(refine qQ ?_ ((c64 g.dh hb.2.1)) ?hfit;(case hfit=>((repeat' (first|exact qB|refine qD ?_ ?_|exact qE (by rfl)|exact qF (by rfl)|exact Fit.refl _|exact qA|refine qC ?_ rfl ?_));done));try cbv)|(refine qQ ?_ ((c64 (tpD (c.cs.getD g.c.toNat k0).ms-g.dl) hb.2.2.1)) ?hfit;(case hfit=>((repeat' (first|exact qB|refine qD ?_ ?_|exact qE (by rfl)|exact qF (by rfl)|exact Fit.refl _|exact qA|refine qC ?_ rfl ?_));done));try cbv)|(refine qQ ?_ ((c64 (tpD (c.cs.getD g.c.toNat k0).ms-g.dh) hb.2.2.2)) ?hfit;(case hfit=>((repeat' (first|exact qB|refine qD ?_ ?_|exact qE (by rfl)|exact qF (by rfl)|exact Fit.refl _|exact qA|refine qC ?_ rfl ?_));done));try cbv)|(refine qQ ?_ (c63) ?hfit;(case hfit=>((repeat' (first|exact qB|refine qD ?_ ?_|exact qE (by rfl)|exact qF (by rfl)|exact Fit.refl _|exact qA|refine qC ?_ rfl ?_));done));try cbv)|fail)
 all_goals first|trivial|((try simp only [qX]at *);(try simp only [zQ,zA,zB,zC,zD,zE,zF,zG,zH,zI,zJ,zK,zL,zM,zN,zO,zP,zR,zS]at *);first|(refine qO ?_;omega)|(simp only [uap];omega))|(subst hR;(refine qC (qE ?_) rfl (qC (qE ?_) rfl qA)<;>first|exact(ur2 (by assumption)).1.symm|exact(ur2 (by assumption)).2.symm|exact(uqv (by assumption)).1.symm|exact(uqv (by assumption)).2.symm);done)|skip
theorem uiv (c:Clr)(g:Gau)(hn:c.cs.length≤1000)(hg:GOk c.cs c.mv.length g)(hm:MOk (c.cs.getD g.c.toNat k0).ms):ua0 Try.prog 25 [(.agg [(caS c.cs),(mvS c.mv),(gaS c.gs)]),(.agg (gcS g))] [] (fun r _=>r=(.agg [(iv fun _=>mLo c.cs g),(iv fun _=>mHi c.cs g)])):=by
 have c64:=fun (d:Int) hd=>ucA (c.cs.getD g.c.toNat k0) d hm hd
 have c63:=ud0 (c.cs.getD g.c.toNat k0) (by have:=hm.two;omega) (by have:=hm.few;omega)
 have h0:=hg.c0
 have h1:=hg.c1
 have hb:=utG hg
 have ht:=hm.top
 have h2:=hm.two
 have h5:=hm.few
 refine ua0.is fun R hR=>qY (sc:=uym) uas mix Try.func25 rfl Try.call25 (by kernel_rfl) (by kernel_rfl) ?_
 generalize Try.prog=P at c64 c63⊢
 cbv
 repeat' (first|with_reducible refine ua3 ?_ ?_|with_reducible refine And.intro ?_ ?_|(with_reducible intro hcd;(try simp only [zA,zB,zC,zD,zE,zF,zG,zH,zI,zJ,zK,zL,zM,zN,zO,zP]at hcd);try cbv)|(refine qQ ?_ ((c64 g.dl hb.1)) ?hfit;(case hfit=>((repeat' (first|exact qB|refine qD ?_ ?_|exact qE (by rfl)|exact qF (by rfl)|exact Fit.refl _|exact qA|refine qC ?_ rfl ?_));done));try cbv)|(refine qQ ?_ ((c64 g.dh hb.2.1)) ?hfit;(case hfit=>((repeat' (first|exact qB|refine qD ?_ ?_|exact qE (by rfl)|exact qF (by rfl)|exact Fit.refl _|exact qA|refine qC ?_ rfl ?_));done));try cbv)|(refine qQ ?_ ((c64 (tpD (c.cs.getD g.c.toNat k0).ms-g.dl) hb.2.2.1)) ?hfit;(case hfit=>((repeat' (first|exact qB|refine qD ?_ ?_|exact qE (by rfl)|exact qF (by rfl)|exact Fit.refl _|exact qA|refine qC ?_ rfl ?_));done));try cbv)|(refine qQ ?_ ((c64 (tpD (c.cs.getD g.c.toNat k0).ms-g.dh) hb.2.2.2)) ?hfit;(case hfit=>((repeat' (first|exact qB|refine qD ?_ ?_|exact qE (by rfl)|exact qF (by rfl)|exact Fit.refl _|exact qA|refine qC ?_ rfl ?_));done));try cbv)|(refine qQ ?_ (c63) ?hfit;(case hfit=>((repeat' (first|exact qB|refine qD ?_ ?_|exact qE (by rfl)|exact qF (by rfl)|exact Fit.refl _|exact qA|refine qC ?_ rfl ?_));done));try cbv)|fail)
 all_goals first|trivial|((try simp only [qX]at *);(try simp only [zQ,zA,zB,zC,zD,zE,zF,zG,zH,zI,zJ,zK,zL,zM,zN,zO,zP,zR,zS]at *);first|(refine qO ?_;omega)|(simp only [uap];omega))|(subst hR;(refine qC (qE ?_) rfl (qC (qE ?_) rfl qA)<;>first|exact(ur2 (by assumption)).1.symm|exact(ur2 (by assumption)).2.symm|exact(uqv (by assumption)).1.symm|exact(uqv (by assumption)).2.symm);done)|skip
end Go.Proofs.Ytpkgnhcfmpbidaa

namespace Go.Proofs.Ytpkgnhcfmpbidaa
open Go.Eng.Ck
def kAt (c:Clr)(x:Int):Csk:=c.cs.getD x.toNat k0
def upu (c:Clr)(x d:Int):Prop:=(0≤x∧x≤(c.cs.length:Int)-1)∧0≤d∧d≤tpD (kAt c x).ms
instance (c:Clr) (x d:Int):Decidable (upu c x d):=by unfold upu;infer_instance
def ctE (c:Clr)(x d:Int):Int:=if ua6 c=0 then(if upu c x d then 0 else 2)else ua6 c
def ctV (c:Clr)(x d:Int):Int:=if ctE c x d=0 then ct (kAt c x).ms d else 0
theorem uos {c:Clr} {x d:Int}(h:¬ua6 c=0):ctE c x d=ua6 c∧ctV c x d=0:=by
 have e:ctE c x d=ua6 c:=by unfold ctE;rw [if_neg h]
 exact⟨e,by unfold ctV;rw [if_neg (by rw [e];exact h)]⟩
theorem ugm {c:Clr} {x d:Int}(h:ua6 c=0)(h':¬upu c x d):ctE c x d=2∧ctV c x d=0:=by
 have e:ctE c x d=2:=by unfold ctE;rw [if_pos h,if_neg h']
 exact⟨e,by unfold ctV;rw [if_neg (by rw [e];decide)]⟩
theorem ufs {c:Clr} {x d:Int}(h:ua6 c=0)(h':upu c x d):ctE c x d=0∧ctV c x d=ct (kAt c x).ms d:=by
 have e:ctE c x d=0:=by unfold ctE;rw [if_pos h,if_pos h']
 exact⟨e,by unfold ctV;rw [if_pos e]⟩
def upA (c:Clr)(x n:Int):Prop:=(0≤x∧x≤(c.cs.length:Int)-1)∧0≤n∧n≤tpC (kAt c x).ms
instance (c:Clr) (x n:Int):Decidable (upA c x n):=by unfold upA;infer_instance
def dpE (c:Clr)(x n:Int):Int:=if ua6 c=0 then(if upA c x n then 0 else 2)else ua6 c
def dpV (c:Clr)(x n:Int):Int:=if dpE c x n=0 then dip (kAt c x).ms n else 0
theorem unW {c:Clr} {x n:Int}(h:¬ua6 c=0):dpE c x n=ua6 c∧dpV c x n=0:=by
 have e:dpE c x n=ua6 c:=by unfold dpE;rw [if_neg h]
 exact⟨e,by unfold dpV;rw [if_neg (by rw [e];exact h)]⟩
theorem ugy {c:Clr} {x n:Int}(h:ua6 c=0)(h':¬upA c x n):dpE c x n=2∧dpV c x n=0:=by
 have e:dpE c x n=2:=by unfold dpE;rw [if_pos h,if_neg h']
 exact⟨e,by unfold dpV;rw [if_neg (by rw [e];decide)]⟩
theorem ufg {c:Clr} {x n:Int}(h:ua6 c=0)(h':upA c x n):dpE c x n=0∧dpV c x n=dip (kAt c x).ms n:=by
 have e:dpE c x n=0:=by unfold dpE;rw [if_pos h,if_pos h']
 exact⟨e,by unfold dpV;rw [if_pos e]⟩
def upy (c:Clr)(g:Int):Prop:=0≤g∧g≤(c.gs.length:Int)-1
instance (c:Clr) (g:Int):Decidable (upy c g):=by unfold upy;infer_instance
def gAt (c:Clr)(g:Int):Gau:=c.gs.getD g.toNat g0
def meE (c:Clr)(g:Int):Int:=if ua6 c=0 then(if upy c g then 0 else 2)else ua6 c
def meL (c:Clr)(g:Int):Int:=if meE c g=0 then mLo c.cs (gAt c g)else 0
def meH (c:Clr)(g:Int):Int:=if meE c g=0 then mHi c.cs (gAt c g)else 0
theorem uoZ {c:Clr} {g:Int}(h:¬ua6 c=0):meE c g=ua6 c∧meL c g=0∧meH c g=0:=by
 have e:meE c g=ua6 c:=by unfold meE;rw [if_neg h]
 exact⟨e,by unfold meL;rw [if_neg (by rw [e];exact h)],by unfold meH;rw [if_neg (by rw [e];exact h)]⟩
theorem uh2 {c:Clr} {g:Int}(h:ua6 c=0)(h':¬upy c g):meE c g=2∧meL c g=0∧meH c g=0:=by
 have e:meE c g=2:=by unfold meE;rw [if_pos h,if_neg h']
 exact⟨e,by unfold meL;rw [if_neg (by rw [e];decide)],by unfold meH;rw [if_neg (by rw [e];decide)]⟩
theorem uer {c:Clr} {g:Int}(h:ua6 c=0)(h':upy c g):meE c g=0∧meL c g=mLo c.cs (gAt c g)∧meH c g=mHi c.cs (gAt c g):=by
 have e:meE c g=0:=by unfold meE;rw [if_pos h,if_pos h']
 exact⟨e,by unfold meL;rw [if_pos e],by unfold meH;rw [if_pos e]⟩
theorem uv2 {ms:List (Int×Int)}(h:MOk ms) {n d:Int}(hn:0≤n)(h0:0≤d)(h1:d≤tpD ms)(h2:ct ms d≤n)(hq:∀e,d<e→e≤tpD ms→n<ct ms e):d=dip ms n:=IsDip.eq ⟨h0,h1,h2,hq⟩ (uuT h hn)
end Go.Proofs.Ytpkgnhcfmpbidaa

namespace Go.Proofs.Ytpkgnhcfmpbidaa
open Go Go.Eng Go.Proofs Go.Eng.Ck Go.Eng.Few
set_option maxRecDepth 10000
theorem umC (c:Clr)(w d:Int)(hF:¬ua6 c=0):ua0 Try.prog 17 [(.agg [(caS c.cs),(mvS c.mv),(gaS c.gs)]),(iv fun _=>w),(iv fun _=>d)] [] (fun r _=>r=(.tup [(iv fun _=>ctV c w d),(iv fun _=>ctE c w d)])):=by
 have hz:=uos (x:=w) (d:=d) hF
 rw [hz.1,hz.2]
 have c22:=uaC c
 have c62:= @ube
 refine ua0.is fun R hR=>qY (sc:=uw6) uas mix Try.func17 rfl Try.call17 (by kernel_rfl) (by kernel_rfl) ?_
 generalize Try.prog=P at c22 c62⊢
 cbv
 repeat' (first|with_reducible refine ua3 ?_ ?_|with_reducible refine And.intro ?_ ?_|(with_reducible intro hcd;(try simp only [zA,zB,zC,zD,zE,zF,zG,zH,zI,zJ,zK,zL,zM,zN,zO,zP]at hcd);try cbv)|(refine qQ ?_ (c22) ?hfit;(case hfit=>((repeat' (first|exact qB|refine qD ?_ ?_|exact qE (by rfl)|exact qF (by rfl)|exact Fit.refl _|exact qA|refine qC ?_ rfl ?_));done));try cbv)|(refine uaj ?_ (c62 _ _ _);try cbv)|fail)
 all_goals first|trivial|(subst hR;(repeat' (first|exact qA|exact qB|refine qC ?_ rfl ?_|refine qD ?_ ?_|exact qE (by rfl)|exact qF (by rfl)|exact Fit.refl _|exact qG _|(refine qE ?_;(try simp only [qX]at *);simp only [zQ,zA,zB,zC,zD,zE,zF,zG,zH,zI,zJ,zK,zL,zM,zN,zO,zP,zR,zS]at *;omega)));done)|skip
theorem umA (c:Clr)(w d:Int)(hF:ua6 c=0)(ho:¬upu c w d):ua0 Try.prog 17 [(.agg [(caS c.cs),(mvS c.mv),(gaS c.gs)]),(iv fun _=>w),(iv fun _=>d)] [] (fun r _=>r=(.tup [(iv fun _=>ctV c w d),(iv fun _=>ctE c w d)])):=by
 have hz:=ugm hF ho
 rw [hz.1,hz.2]
 have hC:=uaa.1 hF
 have h3:=hC.c3
 have c22:=uaC c
 have c62:= @ube
 have c63:=fun (h:0≤w∧w≤(c.cs.length:Int)-1)=>uhM (c.cs.getD w.toNat k0) (by have:=(hC.k w.toNat (by omega)).m.two;omega) (by have:=(hC.k w.toNat (by omega)).m.few;omega)
 refine ua0.is fun R hR=>qY (sc:=uw6) uas mix Try.func17 rfl Try.call17 (by kernel_rfl) (by kernel_rfl) ?_
 generalize Try.prog=P at c22 c62 c63⊢
 cbv
 repeat' (first|with_reducible refine ua3 ?_ ?_|with_reducible refine And.intro ?_ ?_|(with_reducible intro hcd;(try simp only [zA,zB,zC,zD,zE,zF,zG,zH,zI,zJ,zK,zL,zM,zN,zO,zP]at hcd);try cbv)|(refine qQ ?_ (c22) ?hfit;(case hfit=>((repeat' (first|exact qB|refine qD ?_ ?_|exact qE (by rfl)|exact qF (by rfl)|exact Fit.refl _|exact qA|refine qC ?_ rfl ?_));done));try cbv)|(refine uaj ?_ (c62 _ _ _);try cbv)|(refine qQ ?_ ((c63 (by((try simp only [qX]at *);(try simp only [zQ,zA,zB,zC,zD,zE,zF,zG,zH,zI,zJ,zK,zL,zM,zN,zO,zP,zR,zS]at *);(try simp only [uab,uai,uah,uaq,uaM,uaO,uaf,uak,uaB,uaL,uc4,ucd,ucb,ucj,uc9,uci,uaG,uaR]at *);omega)))) ?hfit;(case hfit=>((repeat' (first|exact qB|refine qD ?_ ?_|exact qE (by rfl)|exact qF (by rfl)|exact Fit.refl _|exact qA|refine qC ?_ rfl ?_));done));try cbv)|fail)
 all_goals first|trivial|((try simp only [qX]at *);(try simp only [zQ,zA,zB,zC,zD,zE,zF,zG,zH,zI,zJ,zK,zL,zM,zN,zO,zP,zR,zS]at *);first|(refine qO ?_;omega)|(simp only [uap];omega))|(subst hR;(repeat' (first|exact qA|exact qB|refine qC ?_ rfl ?_|refine qD ?_ ?_|exact qE (by rfl)|exact qF (by rfl)|exact Fit.refl _|exact qG _|(refine qE ?_;(try simp only [qX]at *);simp only [zQ,zA,zB,zC,zD,zE,zF,zG,zH,zI,zJ,zK,zL,zM,zN,zO,zP,zR,zS]at *;omega)));done)|(exfalso;apply ho;unfold upu kAt;(try simp only [qX]at *);(try simp only [zQ,zA,zB,zC,zD,zE,zF,zG,zH,zI,zJ,zK,zL,zM,zN,zO,zP,zR,zS]at *);(try simp only [uab,uai,uah,uaq,uaM,uaO,uaf,uak,uaB,uaL,uc4,ucd,ucb,ucj,uc9,uci,uaG,uaR]at *);omega)|((try simp only [qX]at *);(try simp only [zQ,zA,zB,zC,zD,zE,zF,zG,zH,zI,zJ,zK,zL,zM,zN,zO,zP,zR,zS]at *);(try simp only [uab,uai,uah,uaq,uaM,uaO,uaf,uak,uaB,uaL,uc4,ucd,ucb,ucj,uc9,uci,uaG,uaR]at *);simp only [uap];first|omega|assumption|exact⟨by omega,by omega⟩)|skip
theorem um2 (c:Clr)(w d:Int)(hF:ua6 c=0)(ho:upu c w d):ua0 Try.prog 17 [(.agg [(caS c.cs),(mvS c.mv),(gaS c.gs)]),(iv fun _=>w),(iv fun _=>d)] [] (fun r _=>r=(.tup [(iv fun _=>ctV c w d),(iv fun _=>ctE c w d)])):=by
 have hz:=ufs hF ho
 rw [hz.1,hz.2]
 have hC:=uaa.1 hF
 have h3:=hC.c3
 unfold upu kAt at ho
 unfold kAt
 have hm:=(hC.k w.toNat (by omega)).m
 have ht:=hm.top
 have h2:=hm.two
 have h5:=hm.few
 have c22:=uaC c
 have c62:= @ube
 have c63:=uhM (c.cs.getD w.toNat k0) (by omega) (by omega)
 have c64:=ugv (c.cs.getD w.toNat k0) d hm ho.2
 refine ua0.is fun R hR=>qY (sc:=uw6) uas mix Try.func17 rfl Try.call17 (by kernel_rfl) (by kernel_rfl) ?_
 generalize Try.prog=P at c22 c62 c63 c64⊢
 cbv
 repeat' (first|with_reducible refine ua3 ?_ ?_|with_reducible refine And.intro ?_ ?_|(with_reducible intro hcd;(try simp only [zA,zB,zC,zD,zE,zF,zG,zH,zI,zJ,zK,zL,zM,zN,zO,zP]at hcd);try cbv)|(refine qQ ?_ (c22) ?hfit;(case hfit=>((repeat' (first|exact qB|refine qD ?_ ?_|exact qE (by rfl)|exact qF (by rfl)|exact Fit.refl _|exact qA|refine qC ?_ rfl ?_));done));try cbv)|(refine uaj ?_ (c62 _ _ _);try cbv)|(refine qQ ?_ (c63) ?hfit;(case hfit=>((repeat' (first|exact qB|refine qD ?_ ?_|exact qE (by rfl)|exact qF (by rfl)|exact Fit.refl _|exact qA|refine qC ?_ rfl ?_));done));try cbv)|(refine qQ ?_ (c64) ?hfit;(case hfit=>((repeat' (first|exact qB|refine qD ?_ ?_|exact qE (by rfl)|exact qF (by rfl)|exact Fit.refl _|exact qA|refine qC ?_ rfl ?_));done));try cbv)|fail)
 all_goals first|trivial|((try simp only [qX]at *);(try simp only [zQ,zA,zB,zC,zD,zE,zF,zG,zH,zI,zJ,zK,zL,zM,zN,zO,zP,zR,zS]at *);first|(refine qO ?_;omega)|(simp only [uap];omega))|(subst hR;(repeat' (first|exact qA|exact qB|refine qC ?_ rfl ?_|refine qD ?_ ?_|exact qE (by rfl)|exact qF (by rfl)|exact Fit.refl _|exact qG _|(refine qE ?_;(try simp only [qX]at *);simp only [zQ,zA,zB,zC,zD,zE,zF,zG,zH,zI,zJ,zK,zL,zM,zN,zO,zP,zR,zS]at *;omega)));done)|(exfalso;(try simp only [qX]at *);(try simp only [zQ,zA,zB,zC,zD,zE,zF,zG,zH,zI,zJ,zK,zL,zM,zN,zO,zP,zR,zS]at *);(try simp only [uab,uai,uah,uaq,uaM,uaO,uaf,uak,uaB,uaL,uc4,ucd,ucb,ucj,uc9,uci,uaG,uaR]at *);omega)|skip
theorem uba (c:Clr)(w d:Int):ua0 Try.prog 17 [(.agg [(caS c.cs),(mvS c.mv),(gaS c.gs)]),(iv fun _=>w),(iv fun _=>d)] [] (fun r _=>r=(.tup [(iv fun _=>ctV c w d),(iv fun _=>ctE c w d)])):=by
 by_cases hF:ua6 c=0
 ·by_cases ho:upu c w d
  ·exact um2 c w d hF ho
  ·exact umA c w d hF ho
 ·exact umC c w d hF
theorem uuu (c:Clr)(w n:Int)(hF:¬ua6 c=0):ua0 Try.prog 19 [(.agg [(caS c.cs),(mvS c.mv),(gaS c.gs)]),(iv fun _=>w),(iv fun _=>n)] [] (fun r _=>r=(.tup [(iv fun _=>dpV c w n),(iv fun _=>dpE c w n)])):=by
 have hz:=unW (x:=w) (n:=n) hF
 rw [hz.1,hz.2]
 have c22:=uaC c
 have c62:= @ube
 refine ua0.is fun R hR=>qY (sc:=uvY) uas mix Try.func19 rfl Try.call19 (by kernel_rfl) (by kernel_rfl) ?_
 generalize Try.prog=P at c22 c62⊢
 cbv
 repeat' (first|with_reducible refine ua3 ?_ ?_|with_reducible refine And.intro ?_ ?_|(with_reducible intro hcd;(try simp only [zA,zB,zC,zD,zE,zF,zG,zH,zI,zJ,zK,zL,zM,zN,zO,zP]at hcd);try cbv)|(refine qQ ?_ (c22) ?hfit;(case hfit=>((repeat' (first|exact qB|refine qD ?_ ?_|exact qE (by rfl)|exact qF (by rfl)|exact Fit.refl _|exact qA|refine qC ?_ rfl ?_));done));try cbv)|(refine uaj ?_ (c62 _ _ _);try cbv)|fail)
 all_goals first|trivial|(subst hR;(repeat' (first|exact qA|exact qB|refine qC ?_ rfl ?_|refine qD ?_ ?_|exact qE (by rfl)|exact qF (by rfl)|exact Fit.refl _|exact qG _|(refine qE ?_;(try simp only [qX]at *);simp only [zQ,zA,zB,zC,zD,zE,zF,zG,zH,zI,zJ,zK,zL,zM,zN,zO,zP,zR,zS]at *;omega)));done)|skip
theorem uuE (c:Clr)(w n:Int)(hF:ua6 c=0)(ho:¬upA c w n):ua0 Try.prog 19 [(.agg [(caS c.cs),(mvS c.mv),(gaS c.gs)]),(iv fun _=>w),(iv fun _=>n)] [] (fun r _=>r=(.tup [(iv fun _=>dpV c w n),(iv fun _=>dpE c w n)])):=by
 have hz:=ugy hF ho
 rw [hz.1,hz.2]
 have hC:=uaa.1 hF
 have h3:=hC.c3
 have c22:=uaC c
 have c62:= @ube
 have c63:=fun (h:0≤w∧w≤(c.cs.length:Int)-1)=>uhM (c.cs.getD w.toNat k0) (by have:=(hC.k w.toNat (by omega)).m.two;omega) (by have:=(hC.k w.toNat (by omega)).m.few;omega)
 refine ua0.is fun R hR=>qY (sc:=uvY) uas mix Try.func19 rfl Try.call19 (by kernel_rfl) (by kernel_rfl) ?_
 generalize Try.prog=P at c22 c62 c63⊢
 cbv
 repeat' (first|with_reducible refine ua3 ?_ ?_|with_reducible refine And.intro ?_ ?_|(with_reducible intro hcd;(try simp only [zA,zB,zC,zD,zE,zF,zG,zH,zI,zJ,zK,zL,zM,zN,zO,zP]at hcd);try cbv)|(refine qQ ?_ (c22) ?hfit;(case hfit=>((repeat' (first|exact qB|refine qD ?_ ?_|exact qE (by rfl)|exact qF (by rfl)|exact Fit.refl _|exact qA|refine qC ?_ rfl ?_));done));try cbv)|(refine uaj ?_ (c62 _ _ _);try cbv)|(refine qQ ?_ ((c63 (by((try simp only [qX]at *);(try simp only [zQ,zA,zB,zC,zD,zE,zF,zG,zH,zI,zJ,zK,zL,zM,zN,zO,zP,zR,zS]at *);(try simp only [uab,uai,uah,uaq,uaM,uaO,uaf,uak,uaB,uaL,uc4,ucd,ucb,ucj,uc9,uci,uaG,uaR]at *);omega)))) ?hfit;(case hfit=>((repeat' (first|exact qB|refine qD ?_ ?_|exact qE (by rfl)|exact qF (by rfl)|exact Fit.refl _|exact qA|refine qC ?_ rfl ?_));done));try cbv)|fail)
 all_goals first|trivial|((try simp only [qX]at *);(try simp only [zQ,zA,zB,zC,zD,zE,zF,zG,zH,zI,zJ,zK,zL,zM,zN,zO,zP,zR,zS]at *);first|(refine qO ?_;omega)|(simp only [uap];omega))|(subst hR;(repeat' (first|exact qA|exact qB|refine qC ?_ rfl ?_|refine qD ?_ ?_|exact qE (by rfl)|exact qF (by rfl)|exact Fit.refl _|exact qG _|(refine qE ?_;(try simp only [qX]at *);simp only [zQ,zA,zB,zC,zD,zE,zF,zG,zH,zI,zJ,zK,zL,zM,zN,zO,zP,zR,zS]at *;omega)));done)|(exfalso;apply ho;unfold upA kAt;(try simp only [qX]at *);(try simp only [zQ,zA,zB,zC,zD,zE,zF,zG,zH,zI,zJ,zK,zL,zM,zN,zO,zP,zR,zS]at *);(try simp only [uab,uai,uah,uaq,uaM,uaO,uaf,uak,uaB,uaL,uc4,ucd,ucb,ucj,uc9,uci,uaG,uaR]at *);omega)|((try simp only [qX]at *);(try simp only [zQ,zA,zB,zC,zD,zE,zF,zG,zH,zI,zJ,zK,zL,zM,zN,zO,zP,zR,zS]at *);(try simp only [uab,uai,uah,uaq,uaM,uaO,uaf,uak,uaB,uaL,uc4,ucd,ucb,ucj,uc9,uci,uaG,uaR]at *);simp only [uap];first|omega|assumption|exact⟨by omega,by omega⟩)|skip
theorem uuX (c:Clr)(w n:Int)(hF:ua6 c=0)(ho:upA c w n):ua0 Try.prog 19 [(.agg [(caS c.cs),(mvS c.mv),(gaS c.gs)]),(iv fun _=>w),(iv fun _=>n)] [] (fun r _=>r=(.tup [(iv fun _=>dpV c w n),(iv fun _=>dpE c w n)])):=by
 have hz:=ufg hF ho
 rw [hz.1,hz.2]
 have hC:=uaa.1 hF
 have h3:=hC.c3
 unfold upA kAt at ho
 unfold kAt
 have hm:=(hC.k w.toNat (by omega)).m
 have ht:=hm.top
 have h2:=hm.two
 have h5:=hm.few
 have c22:=uaC c
 have c62:= @ube
 have c63:=uhM (c.cs.getD w.toNat k0) (by omega) (by omega)
 have c64:=fun (d:Int) hd=>ugv (c.cs.getD w.toNat k0) d hm hd
 refine ua0.is fun R hR=>qY (sc:=uvY) uas mix Try.func19 rfl Try.call19 (by kernel_rfl) (by kernel_rfl) ?_
 generalize Try.prog=P at c22 c62 c63 c64⊢
 cbv
 repeat' (first|with_reducible refine ua3 ?_ ?_|with_reducible refine And.intro ?_ ?_|(with_reducible intro hcd;(try simp only [zA,zB,zC,zD,zE,zF,zG,zH,zI,zJ,zK,zL,zM,zN,zO,zP]at hcd);try cbv)|(refine qQ ?_ (c22) ?hfit;(case hfit=>((repeat' (first|exact qB|refine qD ?_ ?_|exact qE (by rfl)|exact qF (by rfl)|exact Fit.refl _|exact qA|refine qC ?_ rfl ?_));done));try cbv)|(refine uaj ?_ (c62 _ _ _);try cbv)|(refine qQ ?_ (c63) ?hfit;(case hfit=>((repeat' (first|exact qB|refine qD ?_ ?_|exact qE (by rfl)|exact qF (by rfl)|exact Fit.refl _|exact qA|refine qC ?_ rfl ?_));done));try cbv)|fail)
 all_goals first|trivial|((try simp only [qX]at *);(try simp only [zQ,zA,zB,zC,zD,zE,zF,zG,zH,zI,zJ,zK,zL,zM,zN,zO,zP,zR,zS]at *);first|(refine qO ?_;omega)|(simp only [uap];omega))|(exfalso;(try simp only [qX]at *);(try simp only [zQ,zA,zB,zC,zD,zE,zF,zG,zH,zI,zJ,zK,zL,zM,zN,zO,zP,zR,zS]at *);(try simp only [uab,uai,uah,uaq,uaM,uaO,uaf,uak,uaB,uaL,uc4,ucd,ucb,ucj,uc9,uci,uaG,uaR]at *);omega)|skip
 refine⟨none,[],{d:Int // 0≤d∧d≤tpD (c.cs.getD w.toNat k0).ms∧∀e,d<e→e≤tpD (c.cs.getD w.toNat k0).ms→n<ct (c.cs.getD w.toNat k0).ms e},fun x=>⟨[(2,(iv fun _=>n)),(3,.own 0 0),(9,.own 32 0),(10,(iv fun _=>x.1))],[(0,.cells [(caS c.cs),(mvS c.mv),(gaS c.gs)] 36),(32,.cells (kcS (c.cs.getD w.toNat k0)) 115)],90⟩,fun x=>x.1.toNat,?_,?_⟩
 ·obtain⟨T,eT⟩:∃T,T=tpD (c.cs.getD w.toNat k0).ms:=⟨_,rfl⟩
  refine⟨⟨T,by omega,by omega,fun e e1 e2=>by omega⟩,?_⟩
  cbv
  repeat' (first|with_reducible refine ua3 ?_ ?_|with_reducible refine And.intro ?_ ?_)
  all_goals first|trivial|exact qN (qE (by rfl))|exact qN (Fit.refl _)|exact qL (qK _)|(refine qN (qE ?_);(try simp only [qX]at *);simp only [zQ,zA,zB,zC,zD,zE,zF,zG,zH,zI,zJ,zK,zL,zM,zN,zO,zP,zR,zS]at *;omega)|skip
 ·rintro ⟨d,h0,h1,hq⟩
  cbv
  repeat' (first|with_reducible refine ua3 ?_ ?_|with_reducible refine And.intro ?_ ?_|(with_reducible intro hcd;(try simp only [zA,zB,zC,zD,zE,zF,zG,zH,zI,zJ,zK,zL,zM,zN,zO,zP]at hcd);try cbv)|(refine qQ ?_ ((c64 d ⟨h0,h1⟩)) ?hfit;(case hfit=>((repeat' (first|exact qB|refine qD ?_ ?_|exact qE (by rfl)|exact qF (by rfl)|exact Fit.refl _|exact qA|refine qC ?_ rfl ?_));done));try cbv)|fail)
  all_goals first|((try simp only [qX]at *);(try simp only [zQ,zA,zB,zC,zD,zE,zF,zG,zH,zI,zJ,zK,zL,zM,zN,zO,zP,zR,zS]at *);first|(refine qO ?_;omega)|(simp only [uap];omega))|(subst hR;(refine qD (qE ?_) (qD (qE (by rfl)) qB);(try simp only [qX]at *);(try simp only [zQ,zA,zB,zC,zD,zE,zF,zG,zH,zI,zJ,zK,zL,zM,zN,zO,zP,zR,zS]at *);exact uv2 hm ho.2.1 h0 h1 (by omega) hq);done)|((try simp only [zQ,zA,zB,zC,zD,zE,zF,zG,zH,zI,zJ,zK,zL,zM,zN,zO,zP,zR,zS]at *);(have hp0:0<d:=(by have h9:=uhp hm;exact(Int.lt_or_le 0 d).elim id (fun q=>by exfalso;rw [show d=0 by omega]at hcd;omega)));obtain⟨p,ep⟩:∃p,p=d-1:=⟨_,rfl⟩;refine⟨⟨p,by omega,by omega,fun e e1 e2=>(Int.lt_or_le d e).elim (fun q=>hq e q e2) (fun q=>by rw [show e=d by omega];omega)⟩,by simp only [];omega,?_⟩;cbv;(repeat' (first|with_reducible refine ua3 ?_ ?_|with_reducible refine And.intro ?_ ?_));(all_goals first|trivial|exact qN (qE (by rfl))|exact qN (qF (by rfl))|exact qN (Fit.refl _)|exact qL (qK _)|(refine qN (qE ?_);(try simp only [qX]at *);simp only [zQ,zA,zB,zC,zD,zE,zF,zG,zH,zI,zJ,zK,zL,zM,zN,zO,zP,zR,zS]at *;omega)|(refine qL (qJ ?_);(repeat' (first|exact qA|exact qB|refine qC ?_ rfl ?_|refine qD ?_ ?_|exact qE (by rfl)|exact qF (by rfl)|exact Fit.refl _|exact qG _|(refine qE ?_;(try simp only [qX]at *);simp only [zQ,zA,zB,zC,zD,zE,zF,zG,zH,zI,zJ,zK,zL,zM,zN,zO,zP,zR,zS]at *;omega)));done)|skip))|skip
theorem ufJ (c:Clr)(w n:Int):ua0 Try.prog 19 [(.agg [(caS c.cs),(mvS c.mv),(gaS c.gs)]),(iv fun _=>w),(iv fun _=>n)] [] (fun r _=>r=(.tup [(iv fun _=>dpV c w n),(iv fun _=>dpE c w n)])):=by
 by_cases hF:ua6 c=0
 ·by_cases ho:upA c w n
  ·exact uuX c w n hF ho
  ·exact uuE c w n hF ho
 ·exact uuu c w n hF
theorem usA (c:Clr)(g:Int)(hF:¬ua6 c=0):ua0 Try.prog 20 [(.agg [(caS c.cs),(mvS c.mv),(gaS c.gs)]),(iv fun _=>g)] [] (fun r _=>r=(.tup [(.agg [(iv fun _=>meL c g),(iv fun _=>meH c g)]),(iv fun _=>meE c g)])):=by
 have hz:=uoZ (g:=g) hF
 rw [hz.1,hz.2.1,hz.2.2]
 have c22:=uaC c
 have c62:= @ube
 refine ua0.is fun R hR=>qY (sc:=uvW) uas mix Try.func20 rfl Try.call20 (by kernel_rfl) (by kernel_rfl) ?_
 generalize Try.prog=P at c22 c62⊢
 cbv
 repeat' (first|with_reducible refine ua3 ?_ ?_|with_reducible refine And.intro ?_ ?_|(with_reducible intro hcd;(try simp only [zA,zB,zC,zD,zE,zF,zG,zH,zI,zJ,zK,zL,zM,zN,zO,zP]at hcd);try cbv)|(refine qQ ?_ (c22) ?hfit;(case hfit=>((repeat' (first|exact qB|refine qD ?_ ?_|exact qE (by rfl)|exact qF (by rfl)|exact Fit.refl _|exact qA|refine qC ?_ rfl ?_));done));try cbv)|(refine uaj ?_ (c62 _ _ _);try cbv)|fail)
 all_goals first|trivial|(subst hR;(repeat' (first|exact qA|exact qB|refine qC ?_ rfl ?_|refine qD ?_ ?_|exact qE (by rfl)|exact qF (by rfl)|exact Fit.refl _|exact qG _|(refine qE ?_;(try simp only [qX]at *);simp only [zQ,zA,zB,zC,zD,zE,zF,zG,zH,zI,zJ,zK,zL,zM,zN,zO,zP,zR,zS]at *;omega)));done)|skip
theorem urZ (c:Clr)(g:Int)(hF:ua6 c=0)(ho:¬upy c g):ua0 Try.prog 20 [(.agg [(caS c.cs),(mvS c.mv),(gaS c.gs)]),(iv fun _=>g)] [] (fun r _=>r=(.tup [(.agg [(iv fun _=>meL c g),(iv fun _=>meH c g)]),(iv fun _=>meE c g)])):=by
 have hz:=uh2 hF ho
 rw [hz.1,hz.2.1,hz.2.2]
 have hC:=uaa.1 hF
 have h3:=hC.g6
 have c22:=uaC c
 have c62:= @ube
 refine ua0.is fun R hR=>qY (sc:=uvW) uas mix Try.func20 rfl Try.call20 (by kernel_rfl) (by kernel_rfl) ?_
 generalize Try.prog=P at c22 c62⊢
 cbv
 repeat' (first|with_reducible refine ua3 ?_ ?_|with_reducible refine And.intro ?_ ?_|(with_reducible intro hcd;(try simp only [zA,zB,zC,zD,zE,zF,zG,zH,zI,zJ,zK,zL,zM,zN,zO,zP]at hcd);try cbv)|(refine qQ ?_ (c22) ?hfit;(case hfit=>((repeat' (first|exact qB|refine qD ?_ ?_|exact qE (by rfl)|exact qF (by rfl)|exact Fit.refl _|exact qA|refine qC ?_ rfl ?_));done));try cbv)|(refine uaj ?_ (c62 _ _ _);try cbv)|fail)
 all_goals first|trivial|((try simp only [qX]at *);(try simp only [zQ,zA,zB,zC,zD,zE,zF,zG,zH,zI,zJ,zK,zL,zM,zN,zO,zP,zR,zS]at *);first|(refine qO ?_;omega)|(simp only [uap];omega))|(subst hR;(repeat' (first|exact qA|exact qB|refine qC ?_ rfl ?_|refine qD ?_ ?_|exact qE (by rfl)|exact qF (by rfl)|exact Fit.refl _|exact qG _|(refine qE ?_;(try simp only [qX]at *);simp only [zQ,zA,zB,zC,zD,zE,zF,zG,zH,zI,zJ,zK,zL,zM,zN,zO,zP,zR,zS]at *;omega)));done)|(exfalso;apply ho;unfold upy;(try simp only [qX]at *);(try simp only [zQ,zA,zB,zC,zD,zE,zF,zG,zH,zI,zJ,zK,zL,zM,zN,zO,zP,zR,zS]at *);(try simp only [uab,uai,uah,uaq,uaM,uaO,uaf,uak,uaB,uaL,uc4,ucd,ucb,ucj,uc9,uci,uaG,uaR]at *);omega)|skip
theorem usc (c:Clr)(g:Int)(hF:ua6 c=0)(ho:upy c g):ua0 Try.prog 20 [(.agg [(caS c.cs),(mvS c.mv),(gaS c.gs)]),(iv fun _=>g)] [] (fun r _=>r=(.tup [(.agg [(iv fun _=>meL c g),(iv fun _=>meH c g)]),(iv fun _=>meE c g)])):=by
 have hz:=uer hF ho
 rw [hz.1,hz.2.1,hz.2.2]
 have hC:=uaa.1 hF
 have h3:=hC.g6
 have h4:=hC.c3
 unfold upy at ho
 unfold gAt
 have hG:=hC.g g.toNat (by omega)
 have hg0:=hG.c0
 have hg1:=hG.c1
 have hM:=hC.k (c.gs.getD g.toNat g0).c.toNat (by omega)
 have c22:=uaC c
 have c62:= @ube
 have c65:=url c (c.gs.getD g.toNat g0) (by omega) hG hM.m
 refine ua0.is fun R hR=>qY (sc:=uvW) uas mix Try.func20 rfl Try.call20 (by kernel_rfl) (by kernel_rfl) ?_
 generalize Try.prog=P at c22 c62 c65⊢
 cbv
 repeat' (first|with_reducible refine ua3 ?_ ?_|with_reducible refine And.intro ?_ ?_|(with_reducible intro hcd;(try simp only [zA,zB,zC,zD,zE,zF,zG,zH,zI,zJ,zK,zL,zM,zN,zO,zP]at hcd);try cbv)|(refine qQ ?_ (c22) ?hfit;(case hfit=>((repeat' (first|exact qB|refine qD ?_ ?_|exact qE (by rfl)|exact qF (by rfl)|exact Fit.refl _|exact qA|refine qC ?_ rfl ?_));done));try cbv)|(refine uaj ?_ (c62 _ _ _);try cbv)|(refine qQ ?_ (c65) ?hfit;(case hfit=>((repeat' (first|exact qB|refine qD ?_ ?_|exact qE (by rfl)|exact qF (by rfl)|exact Fit.refl _|exact qA|refine qC ?_ rfl ?_));done));try cbv)|fail)
 all_goals first|trivial|((try simp only [qX]at *);(try simp only [zQ,zA,zB,zC,zD,zE,zF,zG,zH,zI,zJ,zK,zL,zM,zN,zO,zP,zR,zS]at *);first|(refine qO ?_;omega)|(simp only [uap];omega))|(subst hR;(repeat' (first|exact qA|exact qB|refine qC ?_ rfl ?_|refine qD ?_ ?_|exact qE (by rfl)|exact qF (by rfl)|exact Fit.refl _|exact qG _|(refine qE ?_;(try simp only [qX]at *);simp only [zQ,zA,zB,zC,zD,zE,zF,zG,zH,zI,zJ,zK,zL,zM,zN,zO,zP,zR,zS]at *;omega)));done)|(exfalso;(try simp only [qX]at *);(try simp only [zQ,zA,zB,zC,zD,zE,zF,zG,zH,zI,zJ,zK,zL,zM,zN,zO,zP,zR,zS]at *);(try simp only [uab,uai,uah,uaq,uaM,uaO,uaf,uak,uaB,uaL,uc4,ucd,ucb,ucj,uc9,uci,uaG,uaR]at *);omega)|skip
theorem udA (c:Clr)(g:Int):ua0 Try.prog 20 [(.agg [(caS c.cs),(mvS c.mv),(gaS c.gs)]),(iv fun _=>g)] [] (fun r _=>r=(.tup [(.agg [(iv fun _=>meL c g),(iv fun _=>meH c g)]),(iv fun _=>meE c g)])):=by
 by_cases hF:ua6 c=0
 ·by_cases ho:upy c g
  ·exact usc c g hF ho
  ·exact urZ c g hF ho
 ·exact usA c g hF
end Go.Proofs.Ytpkgnhcfmpbidaa

namespace Go.Proofs.Ytpkgnhcfmpbidaa
open Go Go.Eng Go.Proofs Go.Eng.Ck Go.Eng.Few
set_option maxRecDepth 10000
theorem usH :umK Try.prog 126 2:=ueZ (by kernel_rfl)
theorem uxf {c:Clr}(hm:¬uiY c)(h:c.cs.length=0):ua6 c=1:=udt hm fun q=>q.1 h
theorem uq3 {c:Clr} {i:Nat}(hm:¬uiY c)(hi:i<c.cs.length)(h:¬kP (c.cs.getD i k0)):ua6 c=1:=udt hm fun q=>h (by
 have:=q.2.1
 rw [uab]at this
 have:=this i hi
 rw [uc4]at this
 exact this)
theorem uwz {c:Clr} {i:Nat}(hm:¬uiY c)(hi:i<c.mv.length)(h:¬vP (c.cs.length:Int) (c.mv.getD i v0)):ua6 c=1:=udt hm fun q=>h (by
 have:=q.2.2.1
 rw [uab]at this
 have:=this i hi
 rw [ucb]at this
 exact this)
theorem uwd {c:Clr} {i:Nat}(hm:¬uiY c)(hi:i<c.gs.length)(h:¬gP c (c.gs.getD i g0)):ua6 c=1:=udt hm fun q=>h (by
 have:=q.2.2.2
 rw [uab]at this
 have:=this i hi
 rw [uc9]at this
 exact this)
theorem uv3 {c:Clr}(hm:¬uiY c)(h:c.cs.length≠0)(hk:∀i,i<c.cs.length→kP (c.cs.getD i k0))(hv:∀i,i<c.mv.length→vP (c.cs.length:Int) (c.mv.getD i v0))(hg:∀i,i<c.gs.length→gP c (c.gs.getD i g0)):ua6 c=0:=by
 refine uki hm ⟨h,?_,?_,?_⟩<;>rw [uab]<;>intro i hi
 ·rw [uc4];exact hk i hi
 ·rw [ucb];exact hv i hi
 ·rw [uc9];exact hg i hi
theorem urn {c:Clr}(h1:c.cs.length≤3)(h2:c.mv.length≤4)(h3:c.gs.length≤6)(hf:∀i,i<c.cs.length→(c.cs.getD i k0).ms.length≤5):¬uiY c:=ugN h1 h2 h3 (by
 rw [uab];intro i hi;rw [uaG];exact hf i hi)
theorem uwF {c:Clr} {i:Nat}(hi:i<c.cs.length)(h:¬(c.cs.getD i k0).ms.length≤5):ua6 c=3:=udi (.inr (.inr (.inr fun q=>h (by
 rw [uab]at q
 have:=q i hi
 rw [uaG]at this
 exact this))))
theorem ure {ms:List (Int×Int)}(h0:mD ms 0=0∧mC ms 0=0) {m:Nat}(hm:1≤m):ujm ms (m-1)↔(mD ms (m-1)+1≤mD ms m∧mD ms m≤100)∧mC ms (m-1)+1≤mC ms m∧mC ms m≤1000:=by
 have l0:lD ms (m-1)=mD ms (m-1)∧lC ms (m-1)=mC ms (m-1):=by
  unfold lD lC
  by_cases e:m-1=0
  ·rw [if_pos e,if_pos e,e];exact⟨h0.1.symm,h0.2.symm⟩
  ·rw [if_neg e,if_neg e];exact⟨rfl,rfl⟩
 unfold ujm
 rw [l0.1,l0.2,show m-1+1=m by omega]
theorem uu3 {ms:List (Int×Int)}(h0:mD ms 0=0∧mC ms 0=0) {m:Nat}(hq:∀j,1≤j→j<m→ujm ms (j-1))(hm:1≤m):(0≤mD ms (m-1)∧mD ms (m-1)≤100)∧0≤mC ms (m-1)∧mC ms (m-1)≤1000:=by
 have:=uuH (ms:=ms) (i:=m-1) fun j hj=>by rw [uaf];have:=hq (j+1) (by omega) (by omega);exact this
 have l0:lD ms (m-1)=mD ms (m-1)∧lC ms (m-1)=mC ms (m-1):=by
  unfold lD lC
  by_cases e:m-1=0
  ·rw [if_pos e,if_pos e,e];exact⟨h0.1.symm,h0.2.symm⟩
  ·rw [if_neg e,if_neg e];exact⟨rfl,rfl⟩
 rw [l0.1,l0.2]at this
 exact this
theorem uxt {ms:List (Int×Int)}(h2:2≤ms.length)(h0:mD ms 0=0∧mC ms 0=0)(hq:∀j,1≤j→j<ms.length→ujm ms (j-1)):mkB ms=true:=by
 rw [uaB]
 refine⟨h2,h0.1,h0.2,?_⟩
 rw [uab]
 intro i hi
 rw [uaf]
 exact hq (i+1) (by omega) (by omega)
theorem uul {ms:List (Int×Int)}(h:mkB ms=true) {m:Nat}(h1:1≤m)(h2:m<ms.length):ujm ms (m-1):=by
 rw [uaB]at h
 have:=h.2.2.2
 rw [uab]at this
 have:=this (m-1) (by omega)
 rw [uaf]at this
 exact this
set_option maxHeartbeats 4000000 in
theorem uth (c :Clr):ua0 Try.prog 42 [(.agg [(caS c.cs),(mvS c.mv),(gaS c.gs)])] [] (fun r _=>r=(iv fun _=>ua6 c)):=by
 have c23:= @ums
 have c87:= @utE
 have c28:=fun (k:Csk) (h:1≤k.ms.length∧k.ms.length≤1000)=>udj k h.1 h.2
 have c26:=fun (k:Csk) (h:1≤k.ms.length∧k.ms.length≤1000)=>ud0 k h.1 h.2
 have h126:=usH
 refine ua0.is fun R hR=>qY (sc:=uyZ) uas mix Try.func42 rfl Try.call42 (by kernel_rfl) (by kernel_rfl) ?_
 generalize Try.prog=P at c23 c87 c28 c26 h126⊢
 cbv
 repeat' (first|with_reducible refine And.intro ?_ ?_|(with_reducible intro hcd;(try simp only [zA,zB,zC,zD,zE,zF,zG,zH,zI,zJ,zK,zL,zM,zN,zO,zP]at hcd);try cbv)|fail)
 all_goals first|(subst hR;(refine qE ?_;(try simp only [qX]at *);(try simp only [zQ,zA,zB,zC,zD,zE,zF,zG,zH,zI,zJ,zK,zL,zM,zN,zO,zP,zR,zS]at *);exact(udi (.inl (by omega))).symm);done)|(subst hR;(refine qE ?_;(try simp only [qX]at *);(try simp only [zQ,zA,zB,zC,zD,zE,zF,zG,zH,zI,zJ,zK,zL,zM,zN,zO,zP,zR,zS]at *);exact(udi (.inr (.inl (by omega)))).symm);done)|(subst hR;(refine qE ?_;(try simp only [qX]at *);(try simp only [zQ,zA,zB,zC,zD,zE,zF,zG,zH,zI,zJ,zK,zL,zM,zN,zO,zP,zR,zS]at *);exact(udi (.inr (.inr (.inl (by omega))))).symm);done)|skip
 refine⟨none,[],{i:Nat // i≤c.cs.length∧∀j,j<i→(c.cs.getD j k0).ms.length≤5},fun x=>⟨[(1,.own 0 0),(3,(iv fun _=>zi x.1))],[(0,.cells [(caS c.cs),(mvS c.mv),(gaS c.gs)] 26)],4⟩,fun x=>c.cs.length-x.1,?_,?_⟩
 ·refine⟨⟨0,by omega,fun j hj=>by omega⟩,?_⟩
  cbv
  repeat' (first|with_reducible refine ua3 ?_ ?_|with_reducible refine And.intro ?_ ?_)
  all_goals first|trivial|exact qN (qE (by rfl))|exact qN (Fit.refl _)|exact qL (qK _)|skip
 ·rintro ⟨i, hi, hq⟩
  cbv
  repeat' (first|with_reducible refine ua3 ?_ ?_|with_reducible refine And.intro ?_ ?_|(with_reducible intro hcd;(try simp only [zA,zB,zC,zD,zE,zF,zG,zH,zI,zJ,zK,zL,zM,zN,zO,zP]at hcd);try cbv)|fail)
  all_goals first|((try clear c23);(try clear c87);(try clear c28);(try clear c26);((try simp only [qX]at *);(try simp only [zQ,zA,zB,zC,zD,zE,zF,zG,zH,zI,zJ,zK,zL,zM,zN,zO,zP,zR,zS,uab,uai,uah,uaq,uaM,uaO,uaf,uak,uaB,uaL,uc4,ucd,ucb,ucj,uc9,uci,uaG,uaR]at *);first|(refine qO ?_;omega)|(simp only [uap];omega)))|((try clear c23);(try clear c87);(try clear c28);(try clear c26);(subst hR;(refine qE ?_;(try simp only [qX]at *);(try simp only [zQ,zA,zB,zC,zD,zE,zF,zG,zH,zI,zJ,zK,zL,zM,zN,zO,zP,zR,zS]at *);exact(uwF (i:=i) (by omega) (by omega)).symm);done))|((try clear c23);(try clear c87);(try clear c28);(try clear c26);(subst hR;(refine qE ?_;(try simp only [qX]at *);(try simp only [zQ,zA,zB,zC,zD,zE,zF,zG,zH,zI,zJ,zK,zL,zM,zN,zO,zP,zR,zS]at *);exact(uxf (urn (by omega) (by omega) (by omega) (fun j hj=>hq j (by omega))) (by omega)).symm);done))|((try clear c23);(try clear c87);(try clear c28);(try clear c26);((try simp only [zQ,zA,zB,zC,zD,zE,zF,zG,zH,zI,zJ,zK,zL,zM,zN,zO,zP,zR,zS]at *);refine⟨⟨i+1,by omega,fun j hj=>(Nat.lt_or_ge j i).elim (hq j) (fun q=>by rw [show j=i by omega];((try simp only [qX]at *);(try simp only [zQ,zA,zB,zC,zD,zE,zF,zG,zH,zI,zJ,zK,zL,zM,zN,zO,zP,zR,zS]at *);omega))⟩,by simp only [];omega,?_⟩;cbv;(repeat' (first|with_reducible refine ua3 ?_ ?_|with_reducible refine And.intro ?_ ?_));(all_goals first|trivial|exact qN (qE (by rfl))|exact qN (qF (by rfl))|exact qN (Fit.refl _)|exact qL (qK _)|(refine qN (qE ?_);(try simp only [qX]at *);simp only [zQ,zA,zB,zC,zD,zE,zF,zG,zH,zI,zJ,zK,zL,zM,zN,zO,zP,zR,zS]at *;omega)|(refine qL (qJ ?_);(repeat' (first|exact qA|exact qB|refine qC ?_ rfl ?_|refine qD ?_ ?_|exact qE (by rfl)|exact qF (by rfl)|exact Fit.refl _|exact qG _|(refine qE ?_;(try simp only [qX]at *);simp only [zQ,zA,zB,zC,zD,zE,zF,zG,zH,zI,zJ,zK,zL,zM,zN,zO,zP,zR,zS]at *;omega)));done)|skip)))|skip
  have hf:∀j,j<c.cs.length→(c.cs.getD j k0).ms.length≤5:=fun j hj=>hq j  om
  have hn:c.cs.length≠0:=by((try simp only [qX]at *);(try simp only [zQ,zA,zB,zC,zD,zE,zF,zG,zH,zI,zJ,zK,zL,zM,zN,zO,zP,zR,zS]at *);omega)
  have hm:¬uiY c:=urn  om  om  om hf
  refine⟨none,[],{i:Nat // i≤c.cs.length∧∀j,j<i→kP (c.cs.getD j k0)},fun x=>⟨[(1,.own 0 0),(4,(iv fun _=>zi x.1))],[(0,.cells [(caS c.cs),(mvS c.mv),(gaS c.gs)] 26)],6⟩,fun x=>c.cs.length-x.1,?_,?_⟩
  ·refine⟨⟨0,by omega,fun j hj=>by omega⟩,?_⟩
   cbv
   repeat' (first|with_reducible refine ua3 ?_ ?_|with_reducible refine And.intro ?_ ?_)
   all_goals first|trivial|exact qN (qE (by rfl))|exact qN (Fit.refl _)|exact qL (qK _)|skip
  ·rintro ⟨i, hi,hk⟩
   cbv
   repeat' (first|with_reducible refine ua3 ?_ ?_|with_reducible refine And.intro ?_ ?_|(with_reducible intro hcd;(try simp only [zA,zB,zC,zD,zE,zF,zG,zH,zI,zJ,zK,zL,zM,zN,zO,zP]at hcd);try cbv)|fail)
   all_goals first|trivial|((try clear c23);(try clear c87);(try clear c28);(try clear c26);((try simp only [qX]at *);(try simp only [zQ,zA,zB,zC,zD,zE,zF,zG,zH,zI,zJ,zK,zL,zM,zN,zO,zP,zR,zS,uab,uai,uah,uaq,uaM,uaO,uaf,uak,uaB,uaL,uc4,ucd,ucb,ucj,uc9,uci,uaG,uaR]at *);first|(refine qO ?_;omega)|(simp only [uap];omega)))|((try clear c23);(try clear c87);(try clear c28);(try clear c26);(subst hR;(refine qE ?_;(try simp only [qX]at *);(try simp only [zQ,zA,zB,zC,zD,zE,zF,zG,zH,zI,zJ,zK,zL,zM,zN,zO,zP,zR,zS]at *);(try simp only [uab,uai,uah,uaq,uaM,uaO,uaf,uak,uaB,uaL,uc4,ucd,ucb,ucj,uc9,uci,uaG,uaR]at *);exact(uq3 hm (i:=i) (by omega) (fun q=>by have q1:=ul5 q.1;omega)).symm);done))|((try clear c23);(try clear c87);(try clear c28);(try clear c26);(subst hR;(refine qE ?_;(have hil:i<c.cs.length:=(by(try simp only [qX]at *);(try simp only [zQ,zA,zB,zC,zD,zE,zF,zG,zH,zI,zJ,zK,zL,zM,zN,zO,zP,zR,zS]at *);(try simp only [uab,uai,uah,uaq,uaM,uaO,uaf,uak,uaB,uaL,uc4,ucd,ucb,ucj,uc9,uci,uaG,uaR]at *);omega));exact(uq3 hm hil (fun q=>of_decide_eq_false hcd (ulk (by have q1:=q.1;rw [uaB]at q1;exact⟨q1.2.1,q1.2.2.1⟩)))).symm);done))|skip
   ·have hil :i<c.cs.length:=by((try simp only [qX]at *);(try simp only [zQ,zA,zB,zC,zD,zE,zF,zG,zH,zI,zJ,zK,zL,zM,zN,zO,zP,zR,zS]at *);omega)
    have h5:=hf i hil
    have h2:2≤(c.cs.getD i k0).ms.length:=by((try simp only [qX]at *);(try simp only [zQ,zA,zB,zC,zD,zE,zF,zG,zH,zI,zJ,zK,zL,zM,zN,zO,zP,zR,zS]at *);omega)
    have hz:=ukF (of_decide_eq_true hcd)
    refine⟨none,[],{m:Nat // 1≤m∧m≤(c.cs.getD i k0).ms.length∧∀j,1≤j→j<m→ujm (c.cs.getD i k0).ms (j-1)},fun x=>⟨[(1,.own 0 0),(4,(iv fun _=>zi i)),(5,.own 16 0),(6,(iv fun _=>zi x.1))],[(0,.cells [(caS c.cs),(mvS c.mv),(gaS c.gs)] 26),(16,.cells (kcS (c.cs.getD i k0)) 52)],80⟩,fun x=>(c.cs.getD i k0).ms.length-x.1,?_,?_⟩
    ·refine⟨⟨1,by omega,by omega,fun j j1 j2=>by omega⟩,?_⟩
     cbv
     repeat' (first|with_reducible refine ua3 ?_ ?_|with_reducible refine And.intro ?_ ?_)
     all_goals first|trivial|exact qN (qE (by rfl))|exact qN (Fit.refl _)|exact qL (qK _)|skip
    ·rintro ⟨m,m1,ml,mq⟩
     cbv
     have hb:=uu3 hz mq m1
     have e1:((m:Int)-1).toNat=m-1:=by omega
     repeat' (first|with_reducible refine ua3 ?_ ?_|with_reducible refine And.intro ?_ ?_|(with_reducible intro hcd;(try simp only [zA,zB,zC,zD,zE,zF,zG,zH,zI,zJ,zK,zL,zM,zN,zO,zP]at hcd);try cbv)|(refine uaj ?_ (c23 _ _ _);try cbv)|(refine uaj ?_ (c87 _ _ _ _);try cbv)|(refine qQ ?_ ((c28 (c.cs.getD i k0) ⟨by omega,by omega⟩)) ?hfit;(case hfit=>((repeat' (first|exact qB|refine qD ?_ ?_|exact qE (by rfl)|exact qF (by rfl)|exact Fit.refl _|exact qA|refine qC ?_ rfl ?_));done));try cbv)|fail)
     all_goals first|((try clear c23);(try clear c87);(try clear c28);(try clear c26);((try simp only [qX]at *);(try simp only [zQ,zA,zB,zC,zD,zE,zF,zG,zH,zI,zJ,zK,zL,zM,zN,zO,zP,zR,zS,uab,uai,uah,uaq,uaM,uaO,uaf,uak,uaB,uaL,uc4,ucd,ucb,ucj,uc9,uci,uaG,uaR]at *);first|(refine qO ?_;omega)|(simp only [uap];omega)))|((try clear c23);(try clear c87);(try clear c28);(try clear c26);(subst hR;(refine qE ?_;(try simp only [qX]at *);(try simp only [zQ,zA,zB,zC,zD,zE,zF,zG,zH,zI,zJ,zK,zL,zM,zN,zO,zP,zR,zS]at *);(try simp only [uab,uai,uah,uaq,uaM,uaO,uaf,uak,uaB,uaL,uc4,ucd,ucb,ucj,uc9,uci,uaG,uaR]at *);(try simp only [e1]at *);exact(uq3 hm hil (fun q=>by have q1:=(ure hz m1).1 (uul q.1 m1 (by omega));omega)).symm);done))|((try clear c23);(try clear c87);(try clear c28);(try clear c26);(subst hR;(refine qE ?_;(try simp only [qX]at *);(try simp only [zQ,zA,zB,zC,zD,zE,zF,zG,zH,zI,zJ,zK,zL,zM,zN,zO,zP,zR,zS]at *);(try simp only [uab,uai,uah,uaq,uaM,uaO,uaf,uak,uaB,uaL,uc4,ucd,ucb,ucj,uc9,uci,uaG,uaR]at *);(try simp only [e1]at *);exact(uq3 hm hil (fun q=>by have q1:=q.2;omega)).symm);done))|((try clear c23);(try clear c87);(try clear c28);(try clear c26);((try simp only [qX]at *);(try simp only [zQ,zA,zB,zC,zD,zE,zF,zG,zH,zI,zJ,zK,zL,zM,zN,zO,zP,zR,zS]at *);(try simp only [uab,uai,uah,uaq,uaM,uaO,uaf,uak,uaB,uaL,uc4,ucd,ucb,ucj,uc9,uci,uaG,uaR]at *);(try simp only [e1]at *);first|(refine qO ?_;omega)|(simp only [uap];first|omega|exact⟨by omega,by omega⟩)))|((try clear c23);(try clear c87);(try clear c28);(try clear c26);((try simp only [zQ,zA,zB,zC,zD,zE,zF,zG,zH,zI,zJ,zK,zL,zM,zN,zO,zP,zR,zS,uab,uai,uah,uaq,uaM,uaO,uaf,uak,uaB,uaL,uc4,ucd,ucb,ucj,uc9,uci,uaG,uaR]at *);refine⟨⟨m+1,by omega,(by((try simp only [qX]at *);(try simp only [zQ,zA,zB,zC,zD,zE,zF,zG,zH,zI,zJ,zK,zL,zM,zN,zO,zP,zR,zS]at *);(try simp only [uab,uai,uah,uaq,uaM,uaO,uaf,uak,uaB,uaL,uc4,ucd,ucb,ucj,uc9,uci,uaG,uaR]at *);(try simp only [e1]at *);omega)),fun j j1 j2=>(Nat.lt_or_ge j m).elim (mq j j1) (fun q=>by rw [show j=m by omega];((try simp only [qX]at *);(try simp only [zQ,zA,zB,zC,zD,zE,zF,zG,zH,zI,zJ,zK,zL,zM,zN,zO,zP,zR,zS]at *);(try simp only [uab,uai,uah,uaq,uaM,uaO,uaf,uak,uaB,uaL,uc4,ucd,ucb,ucj,uc9,uci,uaG,uaR]at *);(try simp only [e1]at *);exact(ure hz m1).2 (by omega)))⟩,by simp only [];omega,?_⟩;cbv;(repeat' (first|with_reducible refine ua3 ?_ ?_|with_reducible refine And.intro ?_ ?_));(all_goals first|trivial|exact qN (qE (by rfl))|exact qN (qF (by rfl))|exact qN (Fit.refl _)|exact qL (qK _)|(refine qN (qE ?_);(try simp only [qX]at *);simp only [zQ,zA,zB,zC,zD,zE,zF,zG,zH,zI,zJ,zK,zL,zM,zN,zO,zP,zR,zS]at *;omega)|(refine qL (qJ ?_);(repeat' (first|exact qA|exact qB|refine qC ?_ rfl ?_|refine qD ?_ ?_|exact qE (by rfl)|exact qF (by rfl)|exact Fit.refl _|exact qG _|(refine qE ?_;(try simp only [qX]at *);simp only [zQ,zA,zB,zC,zD,zE,zF,zG,zH,zI,zJ,zK,zL,zM,zN,zO,zP,zR,zS]at *;omega)));done)|skip)))|((try clear c23);(try clear c87);(try clear c28);(try clear c26);((try simp only [zQ,zA,zB,zC,zD,zE,zF,zG,zH,zI,zJ,zK,zL,zM,zN,zO,zP,zR,zS,uab,uai,uah,uaq,uaM,uaO,uaf,uak,uaB,uaL,uc4,ucd,ucb,ucj,uc9,uci,uaG,uaR]at *);refine⟨⟨i+1,by omega,fun j hj=>(Nat.lt_or_ge j i).elim (hk j) (fun q=>by rw [show j=i by omega];((try simp only [qX]at *);(try simp only [zQ,zA,zB,zC,zD,zE,zF,zG,zH,zI,zJ,zK,zL,zM,zN,zO,zP,zR,zS]at *);(try simp only [uab,uai,uah,uaq,uaM,uaO,uaf,uak,uaB,uaL,uc4,ucd,ucb,ucj,uc9,uci,uaG,uaR]at *);(try simp only [e1]at *);exact⟨uxt h2 hz (fun j a b=>mq j a (by omega)),by omega,by omega⟩))⟩,by simp only [];omega,?_⟩;cbv;(repeat' (first|with_reducible refine ua3 ?_ ?_|with_reducible refine And.intro ?_ ?_));(all_goals first|trivial|exact qN (qE (by rfl))|exact qN (qF (by rfl))|exact qN (Fit.refl _)|exact qL (qK _)|(refine qN (qE ?_);(try simp only [qX]at *);simp only [zQ,zA,zB,zC,zD,zE,zF,zG,zH,zI,zJ,zK,zL,zM,zN,zO,zP,zR,zS]at *;omega)|(refine qL (qJ ?_);(repeat' (first|exact qA|exact qB|refine qC ?_ rfl ?_|refine qD ?_ ?_|exact qE (by rfl)|exact qF (by rfl)|exact Fit.refl _|exact qG _|(refine qE ?_;(try simp only [qX]at *);simp only [zQ,zA,zB,zC,zD,zE,zF,zG,zH,zI,zJ,zK,zL,zM,zN,zO,zP,zR,zS]at *;omega)));done)|skip)))|skip
   ·have hk :∀j,j<c.cs.length→kP (c.cs.getD j k0):=fun j hj=>hk j  om
    refine⟨none,[],{i:Nat // i≤c.mv.length∧∀j,j<i→vP (c.cs.length:Int) (c.mv.getD j v0)},fun x=>⟨[(1,.own 0 0),(7,(iv fun _=>zi x.1))],[(0,.cells [(caS c.cs),(mvS c.mv),(gaS c.gs)] 26)],50⟩,fun x=>c.mv.length-x.1,?_,?_⟩
    ·refine⟨⟨0,by omega,fun j hj=>by omega⟩,?_⟩
     cbv
     repeat' (first|with_reducible refine ua3 ?_ ?_|with_reducible refine And.intro ?_ ?_)
     all_goals first|trivial|exact qN (qE (by rfl))|exact qN (Fit.refl _)|exact qL (qK _)|skip
    ·rintro ⟨i,hi,hq⟩
     cbv
     repeat' (first|with_reducible refine ua3 ?_ ?_|with_reducible refine And.intro ?_ ?_|(with_reducible intro hcd;(try simp only [zA,zB,zC,zD,zE,zF,zG,zH,zI,zJ,zK,zL,zM,zN,zO,zP]at hcd);try cbv)|(refine uaj ?_ (c23 _ _ _);try cbv)|(refine uaj ?_ (c87 _ _ _ _);try cbv)|fail)
     all_goals first|((try clear c23);(try clear c87);(try clear c28);(try clear c26);((try simp only [qX]at *);(try simp only [zQ,zA,zB,zC,zD,zE,zF,zG,zH,zI,zJ,zK,zL,zM,zN,zO,zP,zR,zS,uab,uai,uah,uaq,uaM,uaO,uaf,uak,uaB,uaL,uc4,ucd,ucb,ucj,uc9,uci,uaG,uaR]at *);first|(refine qO ?_;omega)|(simp only [uap];omega)))|((try clear c23);(try clear c87);(try clear c28);(try clear c26);(subst hR;(refine qE ?_;(try simp only [qX]at *);(try simp only [zQ,zA,zB,zC,zD,zE,zF,zG,zH,zI,zJ,zK,zL,zM,zN,zO,zP,zR,zS]at *);(try simp only [uab,uai,uah,uaq,uaM,uaO,uaf,uak,uaB,uaL,uc4,ucd,ucb,ucj,uc9,uci,uaG,uaR]at *);exact(uwz hm (i:=i) (by omega) (fun q=>by unfold vP at q;omega)).symm);done))|((try clear c23);(try clear c87);(try clear c28);(try clear c26);((try simp only [zQ,zA,zB,zC,zD,zE,zF,zG,zH,zI,zJ,zK,zL,zM,zN,zO,zP,zR,zS,uab,uai,uah,uaq,uaM,uaO,uaf,uak,uaB,uaL,uc4,ucd,ucb,ucj,uc9,uci,uaG,uaR]at *);refine⟨⟨i+1,by omega,fun j hj=>(Nat.lt_or_ge j i).elim (hq j) (fun q=>by rw [show j=i by omega];unfold vP;((try simp only [qX]at *);(try simp only [zQ,zA,zB,zC,zD,zE,zF,zG,zH,zI,zJ,zK,zL,zM,zN,zO,zP,zR,zS]at *);(try simp only [uab,uai,uah,uaq,uaM,uaO,uaf,uak,uaB,uaL,uc4,ucd,ucb,ucj,uc9,uci,uaG,uaR]at *);omega))⟩,by simp only [];omega,?_⟩;cbv;(repeat' (first|with_reducible refine ua3 ?_ ?_|with_reducible refine And.intro ?_ ?_));(all_goals first|trivial|exact qN (qE (by rfl))|exact qN (qF (by rfl))|exact qN (Fit.refl _)|exact qL (qK _)|(refine qN (qE ?_);(try simp only [qX]at *);simp only [zQ,zA,zB,zC,zD,zE,zF,zG,zH,zI,zJ,zK,zL,zM,zN,zO,zP,zR,zS]at *;omega)|(refine qL (qJ ?_);(repeat' (first|exact qA|exact qB|refine qC ?_ rfl ?_|refine qD ?_ ?_|exact qE (by rfl)|exact qF (by rfl)|exact Fit.refl _|exact qG _|(refine qE ?_;(try simp only [qX]at *);simp only [zQ,zA,zB,zC,zD,zE,zF,zG,zH,zI,zJ,zK,zL,zM,zN,zO,zP,zR,zS]at *;omega)));done)|skip)))|skip
     have hv:∀j,j<c.mv.length→vP (c.cs.length:Int) (c.mv.getD j v0):=fun j hj=>hq j  om
     have hms:∀j,j<c.cs.length→1≤(c.cs.getD j k0).ms.length∧(c.cs.getD j k0).ms.length≤1000:=fun j hj=>⟨by have q1:=ul5 (hk j hj).1;omega,by have q1:=hf j hj;omega⟩
     refine⟨none,[],{i:Nat // i≤c.gs.length∧∀j,j<i→gP c (c.gs.getD j g0)},fun x=>⟨[(1,.own 0 0),(9,(iv fun _=>zi x.1))],[(0,.cells [(caS c.cs),(mvS c.mv),(gaS c.gs)] 26)],50⟩,fun x=>c.gs.length-x.1,?_,?_⟩
     ·refine⟨⟨0,by omega,fun j hj=>by omega⟩,?_⟩
      cbv
      repeat' (first|with_reducible refine ua3 ?_ ?_|with_reducible refine And.intro ?_ ?_)
      all_goals first|trivial|exact qN (qE (by rfl))|exact qN (Fit.refl _)|exact qL (qK _)|skip
     ·rintro ⟨i,hi,hq⟩
      cbv
      repeat' (first|with_reducible refine ua3 ?_ ?_|with_reducible refine And.intro ?_ ?_|(with_reducible intro hcd;(try simp only [zA,zB,zC,zD,zE,zF,zG,zH,zI,zJ,zK,zL,zM,zN,zO,zP]at hcd);try cbv)|(refine uaj ?_ (c23 _ _ _);try cbv)|(refine uaj ?_ (c87 _ _ _ _);try cbv)|(refine qQ ?_ ((c26 (c.cs.getD ((c.gs.getD i g0).c).toNat k0) (hms _ (by((try simp only [qX]at *);(try simp only [zQ,zA,zB,zC,zD,zE,zF,zG,zH,zI,zJ,zK,zL,zM,zN,zO,zP,zR,zS]at *);(try simp only [uab,uai,uah,uaq,uaM,uaO,uaf,uak,uaB,uaL,uc4,ucd,ucb,ucj,uc9,uci,uaG,uaR]at *);omega))))) ?hfit;(case hfit=>((repeat' (first|exact qB|refine qD ?_ ?_|exact qE (by rfl)|exact qF (by rfl)|exact Fit.refl _|exact qA|refine qC ?_ rfl ?_));done));try cbv)|fail)
      all_goals first|((try clear c23);(try clear c87);(try clear c28);(try clear c26);((try simp only [qX]at *);(try simp only [zQ,zA,zB,zC,zD,zE,zF,zG,zH,zI,zJ,zK,zL,zM,zN,zO,zP,zR,zS,uab,uai,uah,uaq,uaM,uaO,uaf,uak,uaB,uaL,uc4,ucd,ucb,ucj,uc9,uci,uaG,uaR]at *);first|(refine qO ?_;omega)|(simp only [uap];omega)))|((try clear c23);(try clear c87);(try clear c28);(try clear c26);(subst hR;(refine qE ?_;(try simp only [qX]at *);(try simp only [zQ,zA,zB,zC,zD,zE,zF,zG,zH,zI,zJ,zK,zL,zM,zN,zO,zP,zR,zS]at *);(try simp only [uab,uai,uah,uaq,uaM,uaO,uaf,uak,uaB,uaL,uc4,ucd,ucb,ucj,uc9,uci,uaG,uaR]at *);exact(uv3 hm hn hk hv (fun j hj=>hq j (by omega))).symm);done))|((try clear c23);(try clear c87);(try clear c28);(try clear c26);(subst hR;(refine qE ?_;(try simp only [qX]at *);(try simp only [zQ,zA,zB,zC,zD,zE,zF,zG,zH,zI,zJ,zK,zL,zM,zN,zO,zP,zR,zS]at *);(try simp only [uab,uai,uah,uaq,uaM,uaO,uaf,uak,uaB,uaL,uc4,ucd,ucb,ucj,uc9,uci,uaG,uaR]at *);exact(uwd hm (i:=i) (by omega) (fun q=>by unfold gP at q;omega)).symm);done))|((try clear c23);(try clear c87);(try clear c28);(try clear c26);((try simp only [zQ,zA,zB,zC,zD,zE,zF,zG,zH,zI,zJ,zK,zL,zM,zN,zO,zP,zR,zS,uab,uai,uah,uaq,uaM,uaO,uaf,uak,uaB,uaL,uc4,ucd,ucb,ucj,uc9,uci,uaG,uaR]at *);refine⟨⟨i+1,by omega,fun j hj=>(Nat.lt_or_ge j i).elim (hq j) (fun q=>by rw [show j=i by omega];unfold gP;((try simp only [qX]at *);(try simp only [zQ,zA,zB,zC,zD,zE,zF,zG,zH,zI,zJ,zK,zL,zM,zN,zO,zP,zR,zS]at *);(try simp only [uab,uai,uah,uaq,uaM,uaO,uaf,uak,uaB,uaL,uc4,ucd,ucb,ucj,uc9,uci,uaG,uaR]at *);omega))⟩,by simp only [];omega,?_⟩;cbv;(repeat' (first|with_reducible refine ua3 ?_ ?_|with_reducible refine And.intro ?_ ?_));(all_goals first|trivial|exact qN (qE (by rfl))|exact qN (qF (by rfl))|exact qN (Fit.refl _)|exact qL (qK _)|(refine qN (qE ?_);(try simp only [qX]at *);simp only [zQ,zA,zB,zC,zD,zE,zF,zG,zH,zI,zJ,zK,zL,zM,zN,zO,zP,zR,zS]at *;omega)|(refine qL (qJ ?_);(repeat' (first|exact qA|exact qB|refine qC ?_ rfl ?_|refine qD ?_ ?_|exact qE (by rfl)|exact qF (by rfl)|exact Fit.refl _|exact qG _|(refine qE ?_;(try simp only [qX]at *);simp only [zQ,zA,zB,zC,zD,zE,zF,zG,zH,zI,zJ,zK,zL,zM,zN,zO,zP,zR,zS]at *;omega)));done)|skip)))|skip
end Go.Proofs.Ytpkgnhcfmpbidaa

namespace Go.Proofs.Ytpkgnhcfmpbidaa
open Go Go.Eng Go.Proofs Go.Eng.Ck Go.Eng.Few
set_option maxRecDepth 10000
theorem uy3 {mv:List Mov} {q:Nat→Int} {c lk:Int} {i:Nat}(h:(mv.getD i v0).t=c):gN mv q c lk i-lk+q i=gN mv q c lk (i+1):=by simp only [gN];rw [uwq h]
theorem uxR {mv:List Mov} {q:Nat→Int} {c lk:Int} {i:Nat}(h:¬(mv.getD i v0).t=c)(h':(mv.getD i v0).f=c):gN mv q c lk i-lk-q i=gN mv q c lk (i+1):=by simp only [gN];rw [uwn h h'];omega
theorem uxV {mv:List Mov} {q:Nat→Int} {c lk:Int} {i:Nat}(h:¬(mv.getD i v0).t=c)(h':¬(mv.getD i v0).f=c):gN mv q c lk i-lk=gN mv q c lk (i+1):=by simp only [gN];rw [uxr h h'];omega
theorem utu (i:Nat):(zi i*((1:Nat):Int)+((0:Nat):Int)).toNat=i:=by simp only [uaw];omega
theorem utx (i:Nat):((i:Int)*((1:Nat):Int)+((0:Nat):Int)).toNat=i:=by omega
theorem uts (i:Nat):((i:Int)*1+0).toNat=i:=by omega
theorem utw {mv:List Mov} {q:Nat→Int} {c lk:Int}(hq:∀j,0≤q j∧q j≤1000)(hl:0≤lk∧lk≤4) {n:Nat}(hn:n≤4): -5000≤gN mv q c lk n∧gN mv q c lk n≤5000:=by
 have:=uww (mv:=mv) (c:=c) hq hl.1 hl.2 n
 omega
theorem uno (c:Clr)(w lk:Int)(q:Nat→Int)(hm:c.mv.length≤4)(hq:∀j,0≤q j∧q j≤1000)(hl:0≤lk∧lk≤4):ua0 Try.prog 89 [(.agg [(caS c.cs),(mvS c.mv),(gaS c.gs)]),(iv fun _=>w),(iv fun _=>lk),(.agg [(.arr 4 (fun ix=>(iv fun _=>q ix.den.toNat)))])] [] (fun r _=>r=(.sl 1 (.sym fun _=>zi (c.mv.length+1)) (fun ix=>[(iv fun _=>gN c.mv q w lk ix.den.toNat)]))):=by
 refine ua0.is fun R hR=>qY (sc:=uxJ) uas mix Try.func89 rfl Try.call89 (by kernel_rfl) (by kernel_rfl) ?_
 generalize Try.prog=P
 cbv
 repeat' (first|fail)
 all_goals first|skip
 refine⟨none,[],{i:Nat // i≤c.mv.length},fun x=>⟨[(1,(iv fun _=>w)),(2,(iv fun _=>lk)),(4,.own 0 0),(7,.own 1 0),(9,.row 3),(15,(mvS c.mv)),(16,(iv fun _=>zi c.mv.length)),(17,(iv fun _=>zi x.1))],[(0,.cells [(caS c.cs),(mvS c.mv),(gaS c.gs)] 36),(1,.cells [(.arr 4 (fun ix=>(iv fun _=>q ix.den.toNat)))] 154),(3,.row 3 1 (.sym fun _=>zi (x.1+1)) (fun ix=>[(iv fun _=>gN c.mv q w lk ix.den.toNat)]))],60⟩,fun x=>c.mv.length-x.1,?_,?_⟩
 ·refine⟨⟨0,by omega⟩,?_⟩
  cbv
  repeat' (first|with_reducible refine ua3 ?_ ?_|with_reducible refine And.intro ?_ ?_)
  all_goals first|trivial|exact qN (qE (by rfl))|exact qN (Fit.refl _)|exact qL (qK _)|(refine qL (ua8 ?_ ?_)<;>first|rfl|((try simp only [qX]at *);(try simp only [zQ,zA,zB,zC,zD,zE,zF,zG,zH,zI,zJ,zK,zL,zM,zN,zO,zP,zR,zS]at *);omega)|(intro ix h0 h1;refine qC (qE ?_) rfl qA;(have h3:ix.den.toNat=0:= om);simp only [h3];rfl))|skip
 ·rintro ⟨i,hi⟩
  cbv
  have hg:=utw (mv:=c.mv) (c:=w) hq hl (n:=i) (by omega)
  have hg2:=utw (mv:=c.mv) (c:=w) hq hl (n:=i+1)
  have hqi:=hq i
  repeat' (first
   |with_reducible refine ua3 ?_ ?_
   |with_reducible refine And.intro ?_ ?_
   |(with_reducible intro hcd;(try simp only [zA,zB,zC,zD,zE,zF,zG,zH,zI,zJ,zK,zL,zM,zN,zO,zP]at hcd);try cbv)
   | (refine⟨fun ix=>[(iv fun _=>gN c.mv q w lk ix.den.toNat)],?_⟩
      cbv
      refine ua3 (uaH (by intro ix jx h0 h1 h2;simp only [h2];exact Fit.refl _) (by intro ix jx h0 h1 h2;(have h3:jx.den.toNat=(i+1):=by((try simp only [qX]at *);(try simp only [zQ,zA,zB,zC,zD,zE,zF,zG,zH,zI,zJ,zK,zL,zM,zN,zO,zP,zR,zS]at *);omega));simp only [h3];(refine qC (qE ?_) rfl qA;(try simp only [qX]at *);simp only [zQ,zA,zB,zC,zD,zE,zF,zG,zH,zI,zJ,zK,zL,zM,zN,zO,zP,zR,zS]at *;(try simp only [utu,utx,uts,Int.toNat_natCast]at *);first|rfl|exact uy3 (by omega)|exact uxR (by omega) (by omega)|exact uxV (by omega) (by omega)))  om) (Or.inl ?_)
      try cbv)
   |fail)
  all_goals first|((try simp only [qX]at *);(try simp only [zQ,zA,zB,zC,zD,zE,zF,zG,zH,zI,zJ,zK,zL,zM,zN,zO,zP,zR,zS]at *);first|(refine qO ?_;omega)|(simp only [uap];omega))|(subst hR;(refine ua1 ?_ (fun ix h0 h1=>Fit.refl _);(try simp only [qX]at *);(try simp only [zQ,zA,zB,zC,zD,zE,zF,zG,zH,zI,zJ,zK,zL,zM,zN,zO,zP,zR,zS]at *);omega);done)|((try simp only [utu,utx,uts]at *);(try simp only [qX]at *);(try simp only [zQ,zA,zB,zC,zD,zE,zF,zG,zH,zI,zJ,zK,zL,zM,zN,zO,zP,zR,zS]at *);(try simp only [utu,utx,uts,Int.toNat_natCast]at *);first|(refine qO ?_;omega)|(simp only [uap];first|omega|exact⟨by omega,by omega⟩))|((try simp only [zQ,zA,zB,zC,zD,zE,zF,zG,zH,zI,zJ,zK,zL,zM,zN,zO,zP,zR,zS]at *);refine⟨⟨i+1,by omega⟩,by simp only [];omega,?_⟩;cbv;(repeat' (first|with_reducible refine ua3 ?_ ?_|with_reducible refine And.intro ?_ ?_));(all_goals first|trivial|exact qN (qE (by rfl))|exact qN (qF (by rfl))|exact qN (Fit.refl _)|exact qL (qK _)|(refine qN (qE ?_);(try simp only [qX]at *);simp only [zQ,zA,zB,zC,zD,zE,zF,zG,zH,zI,zJ,zK,zL,zM,zN,zO,zP,zR,zS]at *;omega)|(refine qL (qJ ?_);(repeat' (first|exact qA|exact qB|refine qC ?_ rfl ?_|refine qD ?_ ?_|exact qE (by rfl)|exact qF (by rfl)|exact Fit.refl _|exact qG _|(refine qE ?_;(try simp only [qX]at *);simp only [zQ,zA,zB,zC,zD,zE,zF,zG,zH,zI,zJ,zK,zL,zM,zN,zO,zP,zR,zS]at *;omega)));done)|(refine qL (ua8 ?_ ?_)<;>first|rfl|((try simp only [qX]at *);(try simp only [zQ,zA,zB,zC,zD,zE,zF,zG,zH,zI,zJ,zK,zL,zM,zN,zO,zP,zR,zS]at *);omega)|(intro ix h0 h1;exact Fit.refl _))|skip))|skip
end Go.Proofs.Ytpkgnhcfmpbidaa

namespace Go.Proofs.Ytpkgnhcfmpbidaa
open Go.Eng Go.Eng.Ck
def uf0 (c:Clr)(q:Nat→Int)(x:Nat):Nat→List Nat
 |0=>[]
 |n+1=>if okL c q x n=true then uf0 c q x n++[n]else uf0 c q x n
theorem uns {c:Clr} {q:Nat→Int} {x n:Nat}(h:okL c q x n=true):uf0 c q x (n+1)=uf0 c q x n++[n]:=by simp only [uf0,h,if_true]
theorem upP {c:Clr} {q:Nat→Int} {x n:Nat}(h:okL c q x n=false):uf0 c q x (n+1)=uf0 c q x n:=by simp only [uf0,h,Bool.false_eq_true,if_false]
theorem ut8 {c:Clr} {q:Nat→Int} {x i:Nat}:∀{n:Nat},i≤n→∃r,uf0 c q x n=uf0 c q x i++r:=by
 intro n
 induction n with
 |zero=>intro h;exact⟨[],by rw [show i=0 by omega];simp⟩
 | succ n ih=>
  intro h
  by_cases e:i=n+1
  ·exact⟨[],by rw [e];simp⟩
  ·obtain⟨r,hr⟩:=ih (by omega)
   cases ho:okL c q x n with
   |true=>exact⟨r++[n],by rw [uns ho,hr,List.append_assoc]⟩
   |false=>exact⟨r,by rw [upP ho,hr]⟩
theorem uuv {c:Clr} {q:Nat→Int} {x i n:Nat}(hi:i<n)(h:okL c q x i=true):(uf0 c q x i).length<(uf0 c q x n).length∧(uf0 c q x n).getD (uf0 c q x i).length 0=i:=by
 obtain⟨r,hr⟩:=ut8 (c:=c) (q:=q) (x:=x) (show i+1≤n by omega)
 rw [uns h]at hr
 refine⟨by rw [hr];simp,?_⟩
 rw [hr,List.append_assoc,List.getD_eq_getElem?_getD,List.getElem?_append_right (Nat.le_refl _),Nat.sub_self]
 rfl
theorem uev {c:Clr} {q:Nat→Int} {x j:Nat}:∀{n:Nat},j∈uf0 c q x n↔j<n∧okL c q x j=true
 |0=>⟨fun h=>(by cases h),fun h=>by omega⟩
 | n + 1 =>by
  cases ho:okL c q x n with
  | true=>
   rw [uns ho,List.mem_append,List.mem_singleton,uev]
   constructor
   ·rintro(h|h)
    ·exact⟨by omega,h.2⟩
    ·subst h;exact⟨by omega,ho⟩
   ·rintro⟨h1,h2⟩
    rcases Nat.lt_or_ge j n with r|r
    ·exact .inl ⟨r,h2⟩
    ·exact .inr (by omega)
  | false=>
   rw [upP ho,uev]
   constructor
   ·rintro⟨h1,h2⟩;exact⟨by omega,h2⟩
   ·rintro⟨h1,h2⟩
    refine⟨?_,h2⟩
    rcases Nat.lt_or_ge j n with r|r
    ·exact r
    ·have:j=n:=by omega
     subst this;rw [ho]at h2;cases h2
theorem uwU {mv:List Mov} {q:Nat→Int} {k:Csk} {c lk:Int} {i:Nat}:mx (loG mv q k c lk i) (0-gN mv q c lk i)=loG mv q k c lk (i+1):=by simp only [loG,Int.zero_sub]
theorem uvS {mv:List Mov} {q:Nat→Int} {k:Csk} {c lk:Int} {i:Nat}:mn (hiG mv q k c lk i) (tpC k.ms-gN mv q c lk i)=hiG mv q k c lk (i+1):=rfl
theorem uwh {c:Clr} {q:Nat→Int} {x j:Nat} {lk:Int}(h:lk=(c.cs.getD x k0).kl+zi j)(h':¬rHi c q (zi x) lk<rLo c q (zi x) lk):okL c q x j=true:=by
 subst h
 exact decide_eq_true (Int.not_lt.1 h')
theorem uxb {c:Clr} {q:Nat→Int} {x j:Nat} {lk:Int}(h:lk=(c.cs.getD x k0).kl+zi j)(h':rHi c q (zi x) lk<rLo c q (zi x) lk):okL c q x j=false:=by
 subst h
 exact decide_eq_false (Int.not_le.2 h')
end Go.Proofs.Ytpkgnhcfmpbidaa

namespace Go.Proofs.Ytpkgnhcfmpbidaa
open Go Go.Eng Go.Proofs Go.Eng.Ck Go.Eng.Few
set_option maxRecDepth 10000
theorem un2 {n L:Nat}(h:uap (n=L)):∀_:Unit,n=L:=fun _=>h
theorem ueD {f g:Unit→Nat}(h:f ()=g ()):uap (GEq (.atg f) (.atg g)):=h
theorem umG {l L:Nat} {a b:SV} {n:Nat}(h:n<L)(hf:Fit a b):uap (l=l∧n<L∧Le a b):=⟨rfl,h,hf.le⟩
theorem unp {rt rl:Int} {i:Nat}(h:rt=rl+zi i):rt+1=rl+zi (i+1):=by
 rw [h];simp only [uaw];omega
theorem uim (c:Clr)(q:Nat→Int)(u:Nat):ua0 Try.prog 97 [(.agg [(caS c.cs),(mvS c.mv),(gaS c.gs)]),(iv fun _=>zi u),(.agg [(.arr 4 (fun ix=>(iv fun _=>q ix.den.toNat)))])] [] (fun r _=>r = .clo 113 [] [.pp 0 [(caS c.cs),(mvS c.mv),(gaS c.gs)],.pp 0 [(iv fun _=>zi u)],.pp 0 [(.arr 4 (fun ix=>(iv fun _=>q ix.den.toNat)))]]):=by
 refine ua0.is fun R hR=>qY (sc:=uyG) uas mix Try.func97 rfl Try.call97 (by kernel_rfl) (by kernel_rfl) ?_
 generalize Try.prog=P
 cbv
 repeat' (first|fail)
 all_goals first|(subst hR;(repeat' (first|exact qA|exact qB|refine qC ?_ rfl ?_|refine qD ?_ ?_|exact qE (by rfl)|exact qF (by rfl)|exact Fit.refl _|exact qG _|(refine qE ?_;(try simp only [qX]at *);simp only [zQ,zA,zB,zC,zD,zE,zF,zG,zH,zI,zJ,zK,zL,zM,zN,zO,zP,zR,zS]at *;omega)));done)|skip
theorem uuG {c:Clr}(h:COk c) {j:Nat}(hj:j<c.gs.length):(0≤(c.gs.getD j g0).a∧(c.gs.getD j g0).a≤(c.mv.length:Int))∧(0≤mLo c.cs (c.gs.getD j g0)∧mLo c.cs (c.gs.getD j g0)≤1000)∧0≤mHi c.cs (c.gs.getD j g0)∧mHi c.cs (c.gs.getD j g0)≤1000:=by
 have hg:=h.g j hj
 have h0:=hg.a0
 have h1:=hg.a1
 have c0:=hg.c0
 have c1:=hg.c1
 have hm:=(h.k _ (show(c.gs.getD j g0).c.toNat<c.cs.length by omega)).m
 have hb:=uyY hg hm
 have ht:=hm.top
 omega
set_option maxHeartbeats 4000000 in
theorem uut (c:Clr)(q:Nat→Int)(u:Nat)(hC:COk c)(hx:u<c.cs.length)(hq:∀j,0≤q j∧q j≤1000):ugj Try.prog 113 [.pp 0 [(caS c.cs),(mvS c.mv),(gaS c.gs)],.pp 0 [(iv fun _=>zi u)],.pp 0 [(.arr 4 (fun ix=>(iv fun _=>q ix.den.toNat)))]] (uf0 c q u (lkN (c.cs.getD u k0))).length (fun n:Nat=>[(iv fun _=>(c.cs.getD u k0).kl+zi ((uf0 c q u (lkN (c.cs.getD u k0))).getD n 0)),(.agg [(iv fun _=>rLo c q (zi u) ((c.cs.getD u k0).kl+zi ((uf0 c q u (lkN (c.cs.getD u k0))).getD n 0))),(iv fun _=>rHi c q (zi u) ((c.cs.getD u k0).kl+zi ((uf0 c q u (lkN (c.cs.getD u k0))).getD n 0)))])]):=by
 have hK:=hC.k u hx
 have m4:=hC.m4
 have g6:=hC.g6
 have h3:=hC.c3
 obtain⟨el,hel⟩:∃el:Nat→List SV,el=(fun n:Nat=>[(iv fun _=>(c.cs.getD u k0).kl+zi ((uf0 c q u (lkN (c.cs.getD u k0))).getD n 0)),(.agg [(iv fun _=>rLo c q (zi u) ((c.cs.getD u k0).kl+zi ((uf0 c q u (lkN (c.cs.getD u k0))).getD n 0))),(iv fun _=>rHi c q (zi u) ((c.cs.getD u k0).kl+zi ((uf0 c q u (lkN (c.cs.getD u k0))).getD n 0)))])]):=⟨_,rfl⟩
 have hpl:∀i,ubf (.tup (el i))=true:=fun i=>by rw [hel];rfl
 have help:∀n,el n=[(iv fun _=>(c.cs.getD u k0).kl+zi ((uf0 c q u (lkN (c.cs.getD u k0))).getD n 0)),(.agg [(iv fun _=>rLo c q (zi u) ((c.cs.getD u k0).kl+zi ((uf0 c q u (lkN (c.cs.getD u k0))).getD n 0))),(iv fun _=>rHi c q (zi u) ((c.cs.getD u k0).kl+zi ((uf0 c q u (lkN (c.cs.getD u k0))).getD n 0)))])]:=fun n=>by rw [hel]
 rw [←hel]
 clear hel
 have c89:=fun (lk:Int) (h:0≤lk∧lk≤4)=>uno c (zi u) lk q m4 hq h
 have c65:=fun (j:Nat) (hj:j<c.gs.length)=>url c (c.gs.getD j g0) (by omega) (hC.g j hj) (hC.k _ (by have:=(hC.g j hj).c0;have:=(hC.g j hj).c1;omega)).m
 have c114:= @uto
 have c115:= @uq2
 have hg0:=fun (j:Nat) (hj:j<c.gs.length)=>uuG hC hj
 obtain⟨k,hk⟩:∃k,k=(c.cs.getD u k0):=⟨_,rfl⟩
 have hoT:∀(j:Nat) (lk:Int),lk=k.kl+zi j→¬rHi c q (zi u) lk<rLo c q (zi u) lk→okL c q u j=true:=fun j lk h h'=>uwh (by rw [←hk];exact h) h'
 have hoF:∀(j:Nat) (lk:Int),lk=k.kl+zi j→rHi c q (zi u) lk<rLo c q (zi u) lk→okL c q u j=false:=fun j lk h h'=>uxb (by rw [←hk];exact h) h'
 have lo0:∀lk:Int,loQ c q (zi u) lk 0=loG c.mv q k (zi u) lk (c.mv.length+1)∧hiQ c q (zi u) lk 0=hiG c.mv q k (zi u) lk (c.mv.length+1):=fun lk=>by rw [hk];exact⟨rfl,rfl⟩
 rw [←hk]at hK help⊢
 have c63:=uhM k (by have:=hK.m.two;omega) (by have:=hK.m.few;omega)
 have ht:=hK.m.top
 obtain⟨N,hN⟩:∃N,N=lkN k:=⟨_,rfl⟩
 have hN2:zi N=k.kh-k.kl+1:=by have:=hK.l1;rw [hN,uaw];unfold lkN;omega
 rw [←hN]at help⊢
 obtain⟨W,hW⟩:∃W,W=uf0 c q u N:=⟨_,rfl⟩
 obtain⟨w,hw⟩:∃w:Nat→Nat,w=fun i=>(uf0 c q u i).length:=⟨_,rfl⟩
 have w0:w 0=0:=by rw [hw];rfl
 have wL:w N=W.length:=by rw [hw,hW]
 have wA:∀i:Nat,i<N→okL c q u i=true→(w i<W.length∧W.getD (w i) 0=i)∧w (i+1)=w i+1:=fun i hi h=>by
  rw [hw,hW];exact⟨uuv hi h,by simp only [uns h,List.length_append,List.length_cons,List.length_nil]⟩
 have wB:∀i:Nat,okL c q u i=false→w (i+1)=w i:=fun i h=>by rw [hw];simp only [upP h]
 rw [←hW]at help⊢
 have l0:=hK.l0
 have l2:=hK.l2
 obtain⟨L,hL⟩:∃L,L=W.length:=⟨_,rfl⟩
 rw [←hL]at wL wA⊢
 have hgn:=fun (lk:Int) (h:0≤lk∧lk≤4) (n:Nat) (hn:n≤4)=>utw (mv:=c.mv) (c:=zi u) hq h hn
 clear hw hC hN hW hL hK
 refine ufX (sc:=uwu) uas mix Try.func113 rfl Try.call113 (by kernel_rfl) (by kernel_rfl) fun y=> ?_
 generalize Try.prog=P at c89 c65 c114 c115 c63⊢
 refine⟨rfl,rfl,hpl,?_⟩
 cbv
 repeat' (first|with_reducible refine ua3 ?_ ?_|fail)
 all_goals first|((try simp only [qX]at *);(try simp only [zQ,zA,zB,zC,zD,zE,zF,zG,zH,zI,zJ,zK,zL,zM,zN,zO,zP,zR,zS]at *);first|(refine qO ?_;omega)|(simp only [uap];omega))|skip
 refine⟨none,[],{i:Nat // i≤N},fun x=>.atg fun _=>w x.1,fun x=>⟨[(0,.val (Value.func (Fn.yield y) ⟨[]⟩ ⟨[]⟩)),(1,.pp 0 [(caS c.cs),(mvS c.mv),(gaS c.gs)]),(2,.pp 0 [(iv fun _=>zi u)]),(3,.pp 0 [(.arr 4 (fun ix=>(iv fun _=>q ix.den.toNat)))]),(5,.own 5 0),(6,(iv fun _=>k.kl+zi x.1))],[(5,.cells (kcS k) 115)],40⟩,fun x=>N-x.1,?_,?_⟩
 ·refine⟨⟨0,by omega⟩,?_⟩
  cbv
  repeat' (first|with_reducible refine ua3 ?_ ?_|with_reducible refine And.intro ?_ ?_)
  all_goals first|trivial|exact qN (Fit.refl _)|(refine ueD ?_;simp only [];omega)|(refine qN (qE ?_);(try simp only [qX]at *);(try simp only [zQ,zA,zB,zC,zD,zE,zF,zG,zH,zI,zJ,zK,zL,zM,zN,zO,zP,zR,zS]at *);(try simp only [Int.toNat_natCast,←hk]at *);omega)|(refine qL (qJ ?_);rw [hk];exact Fit.refl _)|skip
 ·rintro ⟨i, hi⟩
  cbv
  repeat' (first|with_reducible refine And.intro ?_ ?_|(with_reducible intro hcd;(try simp only [zA,zB,zC,zD,zE,zF,zG,zH,zI,zJ,zK,zL,zM,zN,zO,zP]at hcd);try cbv)|(refine qQ ?_ ((c89 (k.kl+zi i)  om)) ?hfit;(case hfit=>((repeat' (first|exact qB|refine qD ?_ ?_|exact qE (by rfl)|exact qF (by rfl)|exact Fit.refl _|exact qA|refine qC ?_ rfl ?_));done));try cbv)|fail)
  all_goals first|(show w i=L;rw [←wL];congr 1;((try simp only [qX]at *);(try simp only [zQ,zA,zB,zC,zD,zE,zF,zG,zH,zI,zJ,zK,zL,zM,zN,zO,zP,zR,zS]at *);omega))|skip
  obtain⟨lk,hlk⟩:∃r,r=k.kl+zi i:=⟨_,rfl⟩
  have hlb:0≤lk∧lk≤4:=by rw [hlk];((try simp only [qX]at *);(try simp only [zQ,zA,zB,zC,zD,zE,zF,zG,zH,zI,zJ,zK,zL,zM,zN,zO,zP,zR,zS]at *);omega)
  refine⟨none,[],{m:Nat // m≤c.mv.length+1},fun x=>.atg fun _=>w i,fun x=>⟨[(0,.val (Value.func (Fn.yield y) ⟨[]⟩ ⟨[]⟩)),(1,.pp 0 [(caS c.cs),(mvS c.mv),(gaS c.gs)]),(2,.pp 0 [(iv fun _=>zi u)]),(3,.pp 0 [(.arr 4 (fun ix=>(iv fun _=>q ix.den.toNat)))]),(5,.own 5 0),(6,(iv fun _=>lk)),(7,.own 47 0),(8,(.sl 1 (.sym fun _=>zi (c.mv.length+1)) (fun ix=>[(iv fun _=>gN c.mv q (zi u) lk ix.den.toNat)]))),(37,(.sl 1 (.sym fun _=>zi (c.mv.length+1)) (fun ix=>[(iv fun _=>gN c.mv q (zi u) lk ix.den.toNat)]))),(38,(iv fun _=>zi (c.mv.length+1))),(39,(iv fun _=>zi x.1))],[(5,.cells (kcS k) 115),(47,.cells [(iv fun _=>loG c.mv q k (zi u) lk x.1),(iv fun _=>hiG c.mv q k (zi u) lk x.1)] 39)],60⟩,fun x=>c.mv.length+1-x.1,?_,?_⟩
  ·refine⟨⟨0,by omega⟩,?_⟩
   cbv
   repeat' (first|with_reducible refine ua3 ?_ ?_|with_reducible refine And.intro ?_ ?_)
   all_goals first|trivial|exact qN (qE (by rfl))|exact qN (Fit.refl _)|exact qL (qK _)|(refine qN (qE ?_);(try simp only [qX]at *);simp only [zQ,zA,zB,zC,zD,zE,zF,zG,zH,zI,zJ,zK,zL,zM,zN,zO,zP,zR,zS]at *;omega)|(rw [hlk];exact qN (Fit.refl _))|skip
  ·rintro ⟨m,hm⟩
   cbv
   repeat' (first|with_reducible refine ua3 ?_ ?_|with_reducible refine And.intro ?_ ?_|(with_reducible intro hcd;(try simp only [zA,zB,zC,zD,zE,zF,zG,zH,zI,zJ,zK,zL,zM,zN,zO,zP]at hcd);try cbv)|(refine qQ ?_ (c63) ?hfit;(case hfit=>((repeat' (first|exact qB|refine qD ?_ ?_|exact qE (by rfl)|exact qF (by rfl)|exact Fit.refl _|exact qA|refine qC ?_ rfl ?_));done));try cbv)|(refine qQ ?_ (c114 (loG c.mv q k (zi u) lk m) (hiG c.mv q k (zi u) lk m) (0-gN c.mv q (zi u) lk m) (tpC k.ms-gN c.mv q (zi u) lk m)) ?hfit;(case hfit=>((repeat' (first|exact qB|refine qD ?_ ?_|exact qE (by rfl)|exact qF (by rfl)|exact Fit.refl _|exact qA|refine qC ?_ rfl ?_));done));try cbv)|fail)
   all_goals first|((try simp only [qX]at *);(try simp only [zQ,zA,zB,zC,zD,zE,zF,zG,zH,zI,zJ,zK,zL,zM,zN,zO,zP,zR,zS]at *);first|(refine qO ?_;omega)|(simp only [uap];omega))|((try simp only [qX]at *);(try simp only [zQ,zA,zB,zC,zD,zE,zF,zG,zH,zI,zJ,zK,zL,zM,zN,zO,zP,zR,zS]at *);(have h9:=hgn lk hlb m (by omega));first|(refine qO ?_;omega)|(simp only [uap];first|omega|exact⟨by omega,by omega⟩))|((try simp only [zQ,zA,zB,zC,zD,zE,zF,zG,zH,zI,zJ,zK,zL,zM,zN,zO,zP,zR,zS]at *);refine⟨⟨m+1,by omega⟩,by simp only [];omega,?_⟩;cbv;(repeat' (first|with_reducible refine ua3 ?_ ?_|with_reducible refine And.intro ?_ ?_));(all_goals first|trivial|exact qN (qE (by rfl))|exact qN (qF (by rfl))|exact qN (Fit.refl _)|exact qL (qK _)|(refine qN (qE ?_);(try simp only [qX]at *);simp only [zQ,zA,zB,zC,zD,zE,zF,zG,zH,zI,zJ,zK,zL,zM,zN,zO,zP,zR,zS]at *;omega)|(refine qL (qJ ?_);(repeat' (first|exact qA|exact qB|refine qC ?_ rfl ?_|refine qD ?_ ?_|exact qE (by rfl)|exact qF (by rfl)|exact Fit.refl _|exact qG _|(refine qE ?_;(try simp only [qX]at *);simp only [zQ,zA,zB,zC,zD,zE,zF,zG,zH,zI,zJ,zK,zL,zM,zN,zO,zP,zR,zS]at *;omega)));done)|(refine qN (qE ?_);(try simp only [qX]at *);(try simp only [zQ,zA,zB,zC,zD,zE,zF,zG,zH,zI,zJ,zK,zL,zM,zN,zO,zP,zR,zS]at *);(try simp only [Int.toNat_natCast,←hk]at *);omega)|(refine ueD ?_;simp only [];omega)|(refine qL (qJ (qC (qE ?_) rfl (qC (qE ?_) rfl qA)))<;>first|exact uwU|exact uvS)|skip))|skip
   refine⟨none,[],{j:Nat // j≤c.gs.length},fun x=>.atg fun _=>w i,fun x=>⟨[(0,.val (Value.func (Fn.yield y) ⟨[]⟩ ⟨[]⟩)),(1,.pp 0 [(caS c.cs),(mvS c.mv),(gaS c.gs)]),(2,.pp 0 [(iv fun _=>zi u)]),(3,.pp 0 [(.arr 4 (fun ix=>(iv fun _=>q ix.den.toNat)))]),(5,.own 5 0),(6,(iv fun _=>lk)),(7,.own 47 0),(8,(.sl 1 (.sym fun _=>zi (c.mv.length+1)) (fun ix=>[(iv fun _=>gN c.mv q (zi u) lk ix.den.toNat)]))),(55,(gaS c.gs)),(56,(iv fun _=>zi c.gs.length)),(57,(iv fun _=>zi x.1))],[(5,.cells (kcS k) 115),(47,.cells [(iv fun _=>loQ c q (zi u) lk x.1),(iv fun _=>hiQ c q (zi u) lk x.1)] 39)],90⟩,fun x=>c.gs.length-x.1,?_,?_⟩
   ·refine⟨⟨0,by omega⟩,?_⟩
    cbv
    repeat' (first|with_reducible refine ua3 ?_ ?_|with_reducible refine And.intro ?_ ?_)
    all_goals first|trivial|exact qN (qE (by rfl))|exact qN (Fit.refl _)|exact qL (qK _)|(refine qL (qJ (qC (qE ?_) rfl (qC (qE ?_) rfl qA)))<;>((have hmm:m=c.mv.length+1:= om);subst hmm;first|exact(lo0 lk).1.symm|exact(lo0 lk).2.symm))|skip
   ·rintro ⟨j,hj⟩
    cbv
    repeat' (first|with_reducible refine ua3 ?_ ?_|with_reducible refine And.intro ?_ ?_|(with_reducible intro hcd;(try simp only [zA,zB,zC,zD,zE,zF,zG,zH,zI,zJ,zK,zL,zM,zN,zO,zP]at hcd);try cbv)|(refine qQ ?_ ((c65 j (show j<c.gs.length by((try simp only [qX]at *);(try simp only [zQ,zA,zB,zC,zD,zE,zF,zG,zH,zI,zJ,zK,zL,zM,zN,zO,zP,zR,zS]at *);omega)))) ?hfit;(case hfit=>((repeat' (first|exact qB|refine qD ?_ ?_|exact qE (by rfl)|exact qF (by rfl)|exact Fit.refl _|exact qA|refine qC ?_ rfl ?_));done));try cbv)|(refine qQ ?_ (c114 (loQ c q (zi u) lk j) (hiQ c q (zi u) lk j) (mLo c.cs (c.gs.getD j g0)-gN c.mv q (zi u) lk (c.gs.getD j g0).a.toNat) (mHi c.cs (c.gs.getD j g0)-gN c.mv q (zi u) lk (c.gs.getD j g0).a.toNat)) ?hfit;(case hfit=>((repeat' (first|exact qB|refine qD ?_ ?_|exact qE (by rfl)|exact qF (by rfl)|exact Fit.refl _|exact qA|refine qC ?_ rfl ?_));done));try cbv)|(refine qQ ?_ (c115 (loQ c q (zi u) lk j) (hiQ c q (zi u) lk j)) ?hfit;(case hfit=>((repeat' (first|exact qB|refine qD ?_ ?_|exact qE (by rfl)|exact qF (by rfl)|exact Fit.refl _|exact qA|refine qC ?_ rfl ?_));done));try cbv)|fail)
    all_goals first|trivial|((try simp only [qX]at *);(try simp only [zQ,zA,zB,zC,zD,zE,zF,zG,zH,zI,zJ,zK,zL,zM,zN,zO,zP,zR,zS]at *);first|(refine qO ?_;omega)|(simp only [uap];omega))|((try simp only [qX]at *);(try simp only [zQ,zA,zB,zC,zD,zE,zF,zG,zH,zI,zJ,zK,zL,zM,zN,zO,zP,zR,zS]at *);(have h8:=hg0 j (by omega));(have h9:=hgn lk hlb (c.gs.getD j g0).a.toNat (by omega));first|(refine qO ?_;omega)|(simp only [uap];first|omega|exact⟨by omega,by omega⟩))|((have hjl:j=c.gs.length:= om;subst hjl);(have h9:=(wA i  om (hoT i lk hlk (by assumption))).1);refine umG h9.1 ?_;rw [help,h9.2,←hlk];exact Fit.refl _)|((try simp only [zQ,zA,zB,zC,zD,zE,zF,zG,zH,zI,zJ,zK,zL,zM,zN,zO,zP,zR,zS]at *);refine⟨⟨j+1,by omega⟩,by simp only [];omega,?_⟩;cbv;(repeat' (first|with_reducible refine ua3 ?_ ?_|with_reducible refine And.intro ?_ ?_));(all_goals first|trivial|exact qN (qE (by rfl))|exact qN (qF (by rfl))|exact qN (Fit.refl _)|exact qL (qK _)|(refine qN (qE ?_);(try simp only [qX]at *);simp only [zQ,zA,zB,zC,zD,zE,zF,zG,zH,zI,zJ,zK,zL,zM,zN,zO,zP,zR,zS]at *;omega)|(refine qL (qJ ?_);(repeat' (first|exact qA|exact qB|refine qC ?_ rfl ?_|refine qD ?_ ?_|exact qE (by rfl)|exact qF (by rfl)|exact Fit.refl _|exact qG _|(refine qE ?_;(try simp only [qX]at *);simp only [zQ,zA,zB,zC,zD,zE,zF,zG,zH,zI,zJ,zK,zL,zM,zN,zO,zP,zR,zS]at *;omega)));done)|(refine qN (qE ?_);(try simp only [qX]at *);(try simp only [zQ,zA,zB,zC,zD,zE,zF,zG,zH,zI,zJ,zK,zL,zM,zN,zO,zP,zR,zS]at *);(try simp only [Int.toNat_natCast,←hk]at *);omega)|(refine ueD ?_;simp only [];omega)|(refine qL (qJ (qC (qE ?_) rfl (qC (qE ?_) rfl qA)))<;>((try simp only [qX]at *);(try simp only [zQ,zA,zB,zC,zD,zE,zF,zG,zH,zI,zJ,zK,zL,zM,zN,zO,zP,zR,zS]at *);first|rfl|exact(uuL (by omega)).symm|exact(uuO (by omega)).symm))|(refine qL (qJ (qC (qE ?_) rfl (qC (qE ?_) rfl qA)))<;>((try simp only [qX]at *);(try simp only [zQ,zA,zB,zC,zD,zE,zF,zG,zH,zI,zJ,zK,zL,zM,zN,zO,zP,zR,zS]at *);first|rfl|exact(utQ (by omega)).symm|exact(uug (by omega)).symm))|skip))|((try simp only [zQ,zA,zB,zC,zD,zE,zF,zG,zH,zI,zJ,zK,zL,zM,zN,zO,zP,zR,zS]at *);(have hjl:j=c.gs.length:= om;subst hjl);(have ho:okL c q u i=true:=hoT i lk hlk (by assumption));refine⟨⟨i+1,by omega⟩,by simp only [];omega,?_⟩;cbv;(repeat' (first|with_reducible refine ua3 ?_ ?_|with_reducible refine And.intro ?_ ?_));(all_goals first|trivial|exact qN (qE (by rfl))|exact qN (qF (by rfl))|exact qN (Fit.refl _)|exact qL (qK _)|(refine qN (qE ?_);(try simp only [qX]at *);simp only [zQ,zA,zB,zC,zD,zE,zF,zG,zH,zI,zJ,zK,zL,zM,zN,zO,zP,zR,zS]at *;omega)|(refine qL (qJ ?_);(repeat' (first|exact qA|exact qB|refine qC ?_ rfl ?_|refine qD ?_ ?_|exact qE (by rfl)|exact qF (by rfl)|exact Fit.refl _|exact qG _|(refine qE ?_;(try simp only [qX]at *);simp only [zQ,zA,zB,zC,zD,zE,zF,zG,zH,zI,zJ,zK,zL,zM,zN,zO,zP,zR,zS]at *;omega)));done)|(exact qN (qE (unp hlk)))|(refine qN (qE ?_);(try simp only [qX]at *);(try simp only [zQ,zA,zB,zC,zD,zE,zF,zG,zH,zI,zJ,zK,zL,zM,zN,zO,zP,zR,zS]at *);(try simp only [Int.toNat_natCast,←hk]at *);omega)|(refine ueD ?_;exact((wA i  om ho).2).symm)|skip))|((try simp only [zQ,zA,zB,zC,zD,zE,zF,zG,zH,zI,zJ,zK,zL,zM,zN,zO,zP,zR,zS]at *);(have hjl:j=c.gs.length:= om;subst hjl);(have ho:okL c q u i=false:=hoF i lk hlk (by assumption));refine⟨⟨i+1,by omega⟩,by simp only [];omega,?_⟩;cbv;(repeat' (first|with_reducible refine ua3 ?_ ?_|with_reducible refine And.intro ?_ ?_));(all_goals first|trivial|exact qN (qE (by rfl))|exact qN (qF (by rfl))|exact qN (Fit.refl _)|exact qL (qK _)|(refine qN (qE ?_);(try simp only [qX]at *);simp only [zQ,zA,zB,zC,zD,zE,zF,zG,zH,zI,zJ,zK,zL,zM,zN,zO,zP,zR,zS]at *;omega)|(refine qL (qJ ?_);(repeat' (first|exact qA|exact qB|refine qC ?_ rfl ?_|refine qD ?_ ?_|exact qE (by rfl)|exact qF (by rfl)|exact Fit.refl _|exact qG _|(refine qE ?_;(try simp only [qX]at *);simp only [zQ,zA,zB,zC,zD,zE,zF,zG,zH,zI,zJ,zK,zL,zM,zN,zO,zP,zR,zS]at *;omega)));done)|(exact qN (qE (unp hlk)))|(refine qN (qE ?_);(try simp only [qX]at *);(try simp only [zQ,zA,zB,zC,zD,zE,zF,zG,zH,zI,zJ,zK,zL,zM,zN,zO,zP,zR,zS]at *);(try simp only [Int.toNat_natCast,←hk]at *);omega)|(refine ueD ?_;exact(wB i ho).symm)|skip))|skip
end Go.Proofs.Ytpkgnhcfmpbidaa

namespace Go.Proofs.Ytpkgnhcfmpbidaa
open Go.Eng Go.Eng.Ck
def okB (c:Clr)(q:Nat→Int)(a b:Int):Bool:=decide (((c.cs.getD a.toNat k0).kl≤b∧b≤(c.cs.getD a.toNat k0).kh)∧rLo c q a b≤rHi c q a b)
def tkN (c:Clr)(q:Nat→Int)(u:Nat):List Nat:=uf0 c q u (lkN (c.cs.getD u k0))
def bI (c:Clr)(q:Nat→Int)(u i:Nat):Int:=(c.cs.getD u k0).kl+zi ((tkN c q u).getD i 0)
def tkI (c:Clr)(q:Nat→Int)(u i:Nat):List Int:=((tkN c q u).take i).map fun (j:Nat)=>(c.cs.getD u k0).kl+(j:Int)
def inD (c:Clr)(q:Nat→Int)(n i:Nat)(ks:List Int):Bool:=
 decide (0≤ks.getD 0 0)&&((decide (ks.getD 0 0<(n:Int))&&okB c q (ks.getD 0 0) (ks.getD 1 0))||(decide (ks.getD 0 0=(n:Int))&&(tkI c q n i).contains (ks.getD 1 0)))
def stS (c:Clr)(q:Nat→Int)(ks:List Int):SV:=.agg [(iv fun _=>rLo c q (ks.getD 0 0) (ks.getD 1 0)),(iv fun _=>rHi c q (ks.getD 0 0) (ks.getD 1 0))]
def mpF (c:Clr)(q:Nat→Int)(n i:Nat):List Int→Option SV:=fun ks=>if inD c q n i ks=true then some (stS c q ks)else none
theorem ueR {c:Clr} {q:Nat→Int} {n i:Nat} {ks:List Int}(h:inD c q n i ks=true):mpF c q n i ks=some (stS c q ks):=by unfold mpF;rw [if_pos h]
theorem ufS {c:Clr} {q:Nat→Int} {n i:Nat} {ks:List Int}(h:inD c q n i ks=false):mpF c q n i ks=none:=by unfold mpF;rw [if_neg (by rw [h];simp)]
theorem uh6 (c:Clr)(q:Nat→Int)(n i:Nat)(ks:List Int):(mpF c q n i ks).isSome=inD c q n i ks:=by
 cases h:inD c q n i ks with
 |true=>rw [ueR h];rfl
 |false=>rw [ufS h];rfl
theorem ufO (c:Clr)(q:Nat→Int)(u:Nat):tkI c q u 0=[]:=rfl
theorem uqI (c:Clr)(q:Nat→Int)(ks:List Int):inD c q 0 0 ks=false:=by
 unfold inD
 rw [ufO]
 by_cases h:0≤ks.getD 0 0
 ·rw [decide_eq_false (show ¬ks.getD 0 0<((0:Nat):Int) by omega)]
  simp
 ·rw [decide_eq_false h];rfl
theorem ukG (c:Clr)(q:Nat→Int):(fun _=>none)=mpF c q 0 0:=funext fun ks=>(ufS (uqI c q ks)).symm
theorem uke {c:Clr} {q:Nat→Int} {u i:Nat} {b:Int}:b∈tkI c q u i↔∃k,k<i∧k<(tkN c q u).length∧b=bI c q u k:=by
 unfold tkI bI
 simp only [List.mem_map,uaw]
 constructor
 ·rintro⟨j,h,rfl⟩
  obtain⟨k,hk,e⟩:=List.getElem_of_mem h
  have hk':=hk
  rw [List.length_take]at hk'
  rw [List.getElem_take]at e
  have e3:(tkN c q u).getD k 0=j:=by rw [List.getD_eq_getElem?_getD,List.getElem?_eq_getElem (show k<(tkN c q u).length by omega),e];rfl
  exact⟨k,by omega,by omega,by rw [e3]⟩
 ·rintro⟨k,h1,h2,rfl⟩
  refine⟨(tkN c q u).getD k 0,?_,rfl⟩
  rw [List.getD_eq_getElem?_getD,List.getElem?_eq_getElem h2]
  exact List.mem_iff_getElem.2 ⟨k,by rw [List.length_take];omega,by rw [List.getElem_take];rfl⟩
theorem ufv {c:Clr} {q:Nat→Int} {n i:Nat} {a b:Int}:inD c q n i [a,b]=true↔0≤a∧((a<(n:Int)∧okB c q a b=true)∨(a=(n:Int)∧b∈tkI c q n i)):=by
 unfold inD
 simp only [List.getD_cons_zero,List.getD_cons_succ,Bool.and_eq_true,Bool.or_eq_true,decide_eq_true_eq,List.contains_iff_mem]
theorem unn {ks:List Int}(h:ks.length=2):∃a b,ks=[a,b]:=by
 match ks with
 |[a,b]=>exact⟨a,b,rfl⟩
theorem uo1 {c:Clr} {q:Nat→Int} {n i:Nat} {f f':List Int→Option SV}(hf:f=mpF c q n i)(hf':f'=mpF c q n (i+1))(hi:i<(tkN c q n).length) {k:List Int} {s:SV}(hk:k=[(n:Int),bI c q n i])(hs:Le s (stS c q [(n:Int),bI c q n i])):uiZ 2 f k s f':=by
 subst hf hf' hk
 intro ks hks
 obtain⟨a,b,rfl⟩:=unn hks
 constructor
 ·intro e
  simp only [List.cons.injEq,and_true]at e
  obtain⟨rfl,rfl⟩:=e
  rw [ueR (ufv.2 ⟨by omega,.inr ⟨rfl,uke.2 ⟨i,by omega,hi,rfl⟩⟩⟩)]
  exact hs
 ·intro e
  have key:inD c q n (i+1) [a,b]=inD c q n i [a,b]:=by
   rw [Bool.eq_iff_iff,ufv,ufv]
   refine and_congr_right fun h0=>or_congr_right (and_congr_right fun h1=> ?_)
   rw [uke,uke]
   constructor
   ·rintro⟨k,k1,k2,k3⟩
    refine⟨k,?_,k2,k3⟩
    rcases Nat.lt_or_ge k i with r|r
    ·exact r
    ·exfalso;apply e
     have:k=i:=by omega
     subst this;rw [h1,k3]
   ·rintro⟨k,k1,k2,k3⟩;exact⟨k,by omega,k2,k3⟩
  cases h:inD c q n i [a,b]with
  |true=>rw [ueR h,ueR (key.trans h)];exact fun _ _ _ h=>h
  |false=>rw [ufS h,ufS (key.trans h)];trivial
theorem uqg {c:Clr} {q:Nat→Int} {u:Nat} {b:Int}:okB c q (u:Int) b=true↔b∈tkI c q u (tkN c q u).length:=by
 unfold okB tkI
 rw [List.take_length,decide_eq_true_eq,List.mem_map,Int.toNat_natCast]
 constructor
 ·rintro⟨h1,h2⟩
  obtain⟨j,hj,e⟩:=umo h1
  exact⟨j,uev.2 ⟨hj,by subst e;exact decide_eq_true h2⟩,e⟩
 ·rintro⟨j,h,rfl⟩
  obtain⟨h1,h2⟩:=uev.1 h
  exact⟨uj2 h1,of_decide_eq_true h2⟩
theorem uhD {c:Clr} {q:Nat→Int} {u:Nat}:okK c q u=true↔0<(tkN c q u).length:=by
 unfold okK tkN
 rw [uky]
 constructor
 ·rintro⟨j,h1,h2⟩;exact List.length_pos_of_mem (uev.2 ⟨h1,h2⟩)
 ·intro h
  obtain⟨j,hj⟩:=List.exists_mem_of_length_pos h
  exact⟨j,uev.1 hj⟩
def kyA (c:Clr)(q:Nat→Int):Nat→List (List Int)
 |0=>[]
 |n+1=>kyA c q n++(tkI c q n (tkN c q n).length).map fun b=>[(n:Int),b]
def kyL (c:Clr)(q:Nat→Int)(n i:Nat):List (List Int):=kyA c q n++(tkI c q n i).map fun b=>[(n:Int),b]
theorem ur5 {c:Clr} {q:Nat→Int} {n i:Nat}(hi:i≤(tkN c q n).length):(kyL c q n i).length=(kyL c q n 0).length+i:=by
 unfold kyL tkI
 simp only [List.length_append,List.length_map,List.length_take]
 omega
theorem ug9 {c:Clr} {q:Nat→Int} {ks:List Int}:∀{n:Nat},ks∈kyA c q n↔∃m b,m<n∧ks=[(m:Int),b]∧b∈tkI c q m (tkN c q m).length
 |0=>⟨fun h=>(by cases h),fun ⟨m,_,h,_⟩=>by omega⟩
 | n + 1=>by
  simp only [kyA,List.mem_append,List.mem_map]
  rw [ug9]
  constructor
  ·rintro(⟨m,b,h1,h2,h3⟩|⟨b,h1,rfl⟩)
   ·exact⟨m,b,by omega,h2,h3⟩
   ·exact⟨n,b,by omega,rfl,h1⟩
  ·rintro⟨m,b,h1,h2,h3⟩
   rcases Nat.lt_or_ge m n with r|r
   ·exact .inl ⟨m,b,r,h2,h3⟩
   ·have:m=n:=by omega
    subst this;exact .inr ⟨b,h3,h2.symm⟩
theorem unI {c:Clr} {q:Nat→Int} {n i:Nat} {a b:Int}:[a,b]∈kyL c q n i↔inD c q n i [a,b]=true:=by
 unfold kyL
 rw [List.mem_append,ug9,List.mem_map,ufv]
 constructor
 ·rintro(⟨m,b',h1,h2,h3⟩|⟨b',h1,h2⟩)
  ·simp only [List.cons.injEq,and_true]at h2
   obtain⟨rfl,rfl⟩:=h2
   exact⟨by omega,.inl ⟨by omega,uqg.2 h3⟩⟩
  ·simp only [List.cons.injEq,and_true]at h2
   obtain⟨rfl,rfl⟩:=h2
   exact⟨by omega,.inr ⟨rfl,h1⟩⟩
 ·rintro⟨h0,⟨h1,h2⟩|⟨h1,h2⟩⟩
  ·refine .inl ⟨a.toNat,b,by omega,by rw [show((a.toNat:Nat):Int)=a by omega],uqg.1 ?_⟩
   rw [show((a.toNat:Nat):Int)=a by omega];exact h2
  ·exact .inr ⟨b,h2,by rw [h1]⟩
theorem uol {c:Clr} {q:Nat→Int} {x:Nat}:∀{n:Nat},(uf0 c q x n).Pairwise (· < ·)
 |0=>.nil
 | n +1=>by
  cases ho:okL c q x n with
  | true=>
   rw [uns ho]
   refine List.pairwise_append.2 ⟨uol,by simp,fun a ha b hb=> ?_⟩
   rw [List.mem_singleton]at hb
   have:=(uev.1 ha).1
   omega
  |false=>rw [upP ho];exact uol
theorem uiy {c:Clr} {q:Nat→Int} {u i:Nat}:(tkI c q u i).Nodup:=by
 unfold tkI
 refine List.nodup_iff_pairwise_ne.2 (List.pairwise_map.2 ?_)
 exact((uol (c:=c) (q:=q) (x:=u)).sublist (List.take_sublist _ _)).imp fun h e=>by omega
theorem uiT {c:Clr} {q:Nat→Int}:∀{n:Nat},(kyA c q n).Nodup
 |0=>List.nodup_nil
 | n +1=>by
  simp only [kyA]
  refine List.nodup_append.2 ⟨uiT,?_,fun a ha b hb=> ?_⟩
  ·exact List.nodup_iff_pairwise_ne.2 (List.pairwise_map.2 ((List.nodup_iff_pairwise_ne.1 uiy).imp fun h e=>h (by simpa using e)))
  ·obtain⟨m,x,h1,h2,_⟩:=ug9.1 ha
   obtain⟨y,_,rfl⟩:=List.mem_map.1 hb
   rintro rfl
   simp only [List.cons.injEq]at h2
   omega
theorem unC {c:Clr} {q:Nat→Int} {n i:Nat}:(kyL c q n i).Nodup:=by
 unfold kyL
 refine List.nodup_append.2 ⟨uiT,?_,fun a ha b hb=> ?_⟩
 ·exact List.nodup_iff_pairwise_ne.2 (List.pairwise_map.2 ((List.nodup_iff_pairwise_ne.1 uiy).imp fun h e=>h (by simpa using e)))
 ·obtain⟨m,x,h1,h2,_⟩:=ug9.1 ha
  obtain⟨y,_,rfl⟩:=List.mem_map.1 hb
  rintro rfl
  simp only [List.cons.injEq]at h2
  omega
theorem upI {c:Clr} {q:Nat→Int} {n i:Nat} {f:List Int→Option SV}(hf:f=mpF c q n i):LenOk 2 (fun ks=>(f ks).isSome) (kyL c q n i):=by
 subst hf
 refine⟨unC,fun ks hk=> ?_,fun ks h2 hD=> ?_⟩
 ·have h2:ks.length=2:=by
   unfold kyL at hk
   rcases List.mem_append.1 hk with h|h
   ·obtain⟨m,b,_,rfl,_⟩:=ug9.1 h;rfl
   ·obtain⟨b,_,rfl⟩:=List.mem_map.1 h;rfl
  obtain⟨a,b,rfl⟩:=unn h2
  exact⟨rfl,by rw [uh6];exact unI.1 hk⟩
 ·obtain⟨a,b,rfl⟩:=unn h2
  rw [uh6]at hD
  exact unI.2 hD
end Go.Proofs.Ytpkgnhcfmpbidaa

namespace Go.Proofs.Ytpkgnhcfmpbidaa
open Go Go.Eng Go.Proofs Go.Eng.Ck Go.Eng.Few
set_option maxRecDepth 10000
def urx :SC:=[(156,kpS [2,3,6,7,8,17,18,19]),(9,[qa 0 [],qa 1 [0],qa 2 [0,1],qa 3 [0,1,2],qa 4 [],qa 5 [],qa 6 [4,5],qa 7 [],qb 8 (qr 8)])]
theorem ufR :ufI Try.prog 163 170 39:=by
 show Try.prog.underlying 163=some (.map 170 39)
 kernel_rfl
theorem ulr :ujT Try.prog 170 false 2:=ulv (by kernel_rfl)
theorem ukZ {c:Clr} {q:Nat→Int} {n i:Nat} {ks:List Int}:inD c q n i ks=true↔0≤ks.getD 0 0∧((ks.getD 0 0<(n:Int)∧okB c q (ks.getD 0 0) (ks.getD 1 0)=true)∨(ks.getD 0 0=(n:Int)∧ks.getD 1 0∈tkI c q n i)):=by
 unfold inD
 simp only [Bool.and_eq_true,Bool.or_eq_true,decide_eq_true_eq,List.contains_iff_mem]
theorem ulm (c:Clr)(q:Nat→Int)(n:Nat):mpF c q n (tkN c q n).length=mpF c q (n+1) 0:=by
 funext ks
 have h:inD c q n (tkN c q n).length ks=inD c q (n+1) 0 ks:=by
  rw [Bool.eq_iff_iff,ukZ,ukZ,ufO]
  refine and_congr_right fun h0=> ?_
  constructor
  ·rintro(⟨h1,h2⟩|⟨h1,h2⟩)
   ·exact .inl ⟨by omega,h2⟩
   ·exact .inl ⟨by omega,by rw [h1];exact uqg.2 h2⟩
  ·rintro(⟨h1,h2⟩|⟨h1,h2⟩)
   ·by_cases e:ks.getD 0 0=(n:Int)
    ·exact .inr ⟨e,uqg.1 (by rw [←e];exact h2)⟩
    ·exact .inl ⟨by omega,h2⟩
   ·cases h2
 unfold mpF
 rw [h]
theorem ukA {a:SV} {l m:List SV}(h':Fit (.agg l) (.agg m)):Fit (.agg (a::l)) (.agg (a::m)):=⟨fun μ ν v q=>by
 cases q with
 |arr _ n f _ cs rest h1 h2 h3 h4=>exact .arr ν n f m cs rest h1 h2 h3 (h'.le _ _ _ h4)
 |cons _ _ _ c rest h1 h2 h3=>exact .cons ν _ _ c rest h1 h2 (h'.le _ _ _ h3)⟩
set_option maxHeartbeats 4000000 in
theorem unu (c:Clr)(q:Nat→Int)(hC:COk c)(hq:∀j,0≤q j∧q j≤1000)(ho:okQ c q=false):ua0 Try.prog 112 [(.agg [(caS c.cs),(mvS c.mv),(gaS c.gs)]),(.agg [(.arr 4 (fun ix=>(iv fun _=>q ix.den.toNat)))])] [] (fun r _=>r=(.tup [.val (.pointer none),(.bool (.lit false))])):=by
 have hc3:=hC.c3
 have hm4:=hC.m4
 obtain⟨F,hF⟩:∃F,F=mpF c q:=⟨_,rfl⟩
 obtain⟨Ln,hLn⟩:∃Ln:Nat→Nat,Ln=fun u=>(tkN c q u).length:=⟨_,rfl⟩
 obtain⟨ky,hky⟩:∃ky:Nat→Nat→List (List Int),ky=kyL c q:=⟨_,rfl⟩
 obtain⟨bi,hbi⟩:∃bi,bi=bI c q:=⟨_,rfl⟩
 obtain⟨el,hel⟩:∃el:Nat→Nat→List SV,el=fun u n=>[(iv fun _=>bI c q u n),(.agg [(iv fun _=>rLo c q (zi u) (bI c q u n)),(iv fun _=>rHi c q (zi u) (bI c q u n))])]:=⟨_,rfl⟩
 have ei:∀u n,el u n=[(iv fun _=>bi u n),(.agg [(iv fun _=>rLo c q (zi u) (bi u n)),(iv fun _=>rHi c q (zi u) (bi u n))])]:=fun u n=>by rw [hel,hbi]
 have elen:∀u i,(el u i).length=2∧SV.idsL (el u i)=[]:=fun u i=>by rw [hel];exact⟨rfl,rfl⟩
 have cI:∀u,u<c.cs.length→ugj Try.prog 113 [.pp 0 [(caS c.cs),(mvS c.mv),(gaS c.gs)],.pp 0 [(iv fun _=>zi u)],.pp 0 [(.arr 4 (fun ix=>(iv fun _=>q ix.den.toNat)))]] (Ln u) (el u):=fun u hu=>by rw [hel,hLn];exact uut c q u hC hu hq
 have hF0:(fun _=>none)=F 0 0:=by rw [hF];exact ukG c q
 have hlk:∀u i f,f=F u i→LenOk 2 (fun ks=>(f ks).isSome) (ky u i):=fun u i f h=>by rw [hky];exact upI (by rw [h,hF])
 have hkl:∀u i,i≤Ln u→(ky u i).length=(ky u 0).length+i:=fun u i h=>by rw [hky];rw [hLn]at h;exact ur5 h
 have hup:∀(u i:Nat) (f f':List Int→Option SV),i<Ln u→f=F u i→f'=F u (i+1)→uiZ 2 f [zi u,bi u i] (.agg [(iv fun _=>rLo c q (zi u) (bi u i)),(iv fun _=>rHi c q (zi u) (bi u i))]) f':=fun u i f f' h h1 h2=>by
  rw [hLn]at h
  rw [hbi]
  exact uo1 (by rw [h1,hF]) (by rw [h2,hF]) h rfl (fun _ _ _ h=>h)
 have hfull:∀(u:Nat) (f:List Int→Option SV),f=F u (Ln u)→f=F (u+1) 0:=fun u f h=>by
  rw [h,hF,hLn]
  exact ulm c q u
 have hok0:∀u,u<c.cs.length→0<Ln u→okK c q u=true:=fun u _ h=>by rw [hLn]at h;exact uhD.2 h
 have hnot:¬(∀u,u<c.cs.length→0<Ln u):=fun h=>by
  have:okQ c q=true:=uj6.2 fun u hu=>by rw [hLn]at h;exact uhD.2 (h u hu)
  rw [ho]at this;cases this
 have c97:=uim c q
 have hmt:=ufR
 have hko:=ulr
 refine ua0.is fun R hR=>qY (sc:=urx) uas mix Try.func112 rfl Try.call112 (by kernel_rfl) (by kernel_rfl) ?_
 generalize Try.prog=P at c97 hmt hko cI⊢
 clear hF hLn hky hbi hel ho
 cbv
 repeat' (first
  | (refine⟨170,39,false,2,?_⟩
     cbv
     refine ua3 ⟨hmt,fun h=>by cases h⟩ ?_
     refine Or.inl ?_
     try cbv)
  |fail)
 all_goals first|skip
 refine⟨none,[],{x:Nat×(List Int→Option SV) // x.1≤c.cs.length∧(∀y,y<x.1→0<Ln y)∧x.2=F x.1 0},fun x=>⟨[(2,.own 0 0),(3,.own 1 0),(6,.own 9 0),(17,(caS c.cs)),(18,(iv fun _=>zi c.cs.length)),(19,(iv fun _=>zi x.1.1))],[(6,.map 170 39 false 2 x.1.2),(0,.cells [(caS c.cs),(mvS c.mv),(gaS c.gs)] 36),(1,.cells [(.arr 4 (fun ix=>(iv fun _=>q ix.den.toNat)))] 154),(8,.cells [(caS c.cs),(mvS c.mv),(gaS c.gs),(.arr 4 (fun ix=>(iv fun _=>q ix.den.toNat))),.mp 6] 165),(9,.cells [.own 8 0] 136)],40⟩,fun x=>c.cs.length-x.1.1,?_,?_⟩
 ·refine⟨⟨(0,fun _=>none),by simp only [];omega,fun y hy=>by simp only []at hy;omega,hF0⟩,?_⟩
  cbv
  repeat' (first|with_reducible refine ua3 ?_ ?_|with_reducible refine And.intro ?_ ?_)
  all_goals first|trivial|exact qN (qE (by rfl))|exact qN (Fit.refl _)|exact qL (qK _)|skip
 ·rintro ⟨⟨u,f⟩,hu,hok,hf⟩
  cbv
  dsimp only at hu hok hf
  repeat' (first
   |with_reducible refine And.intro ?_ ?_
   |(with_reducible intro hcd;(try simp only [zA,zB,zC,zD,zE,zF,zG,zH,zI,zJ,zK,zL,zM,zN,zO,zP]at hcd);try cbv)
   |(refine qQ ?_ ((c97 u)) ?hfit;(case hfit=>((repeat' (first|exact qB|refine qD ?_ ?_|exact qE (by rfl)|exact qF (by rfl)|exact Fit.refl _|exact qA|refine qC ?_ rfl ?_));done));try cbv)
   | (refine⟨ky u 0,?_⟩
      cbv
      refine ua3 ⟨hmt,hlk u 0 f hf⟩ ?_
      try cbv)
   |fail)
  all_goals first|(exfalso;(have hu':u=c.cs.length:= om);exact hnot (fun y hy=>hok y (by rw [hu'];exact hy)))|skip
  have hul:u<c.cs.length:=by((try simp only [qX]at *);(try simp only [zQ,zA,zB,zC,zD,zE,zF,zG,zH,zI,zJ,zK,zL,zM,zN,zO,zP,zR,zS]at *);omega)
  have cIu:=cI u hul
  have eu:=ei u
  have elu:=elen u
  obtain⟨L,hL⟩:∃L,L=Ln u:=⟨_,rfl⟩
  obtain⟨e,he⟩:∃e,e=el u:=⟨_,rfl⟩
  rw [←hL,←he]at cIu
  rw [←he]at eu elu
  refine⟨[],L,e,fun i=>{f // f=F u i},fun i x=>([(6,.map 170 39 false 2 x.val),(0,.cells [(caS c.cs),(mvS c.mv),(gaS c.gs)] 36),(1,.cells [(.arr 4 (fun ix=>(iv fun _=>q ix.den.toNat)))] 154),(8,.cells [(caS c.cs),(mvS c.mv),(gaS c.gs),(.arr 4 (fun ix=>(iv fun _=>q ix.den.toNat))),.mp 6] 165),(9,.cells [.own 8 0] 136),(42,.cells [(iv fun _=>zi u)] 3)],90),?_⟩
  cbv
  refine⟨fun _=>⟨cIu,elu⟩,⟨⟨f,hf⟩,?_⟩,?_,?_⟩
  ·cbv
   repeat' (first|with_reducible refine ua3 ?_ ?_|with_reducible refine And.intro ?_ ?_)
   all_goals first|trivial|exact qL (qK _)|skip
  ·rintro j ⟨f2,hf2⟩ hj
   have hj':j<L:=hj
   simp only [eu]
   cbv
   repeat' (first
    | (refine⟨F u (j+1),?_⟩
       cbv
       refine ua3 ⟨rfl,rfl,hmt,hko,hup u j f2 _ (by rw [←hL];exact hj') hf2 rfl⟩ ?_
       try cbv)
    |fail)
   all_goals first|(refine⟨⟨F u (j+1),rfl⟩,?_⟩;cbv;(repeat' (first|with_reducible refine ua3 ?_ ?_|with_reducible refine And.intro ?_ ?_));(all_goals first|trivial|exact qN (qE (by rfl))|exact qN (qF (by rfl))|exact qN (Fit.refl _)|exact qL (qK _)|(refine qN (qE ?_);(try simp only [qX]at *);simp only [zQ,zA,zB,zC,zD,zE,zF,zG,zH,zI,zJ,zK,zL,zM,zN,zO,zP,zR,zS]at *;omega)|(refine qL (qJ ?_);(repeat' (first|exact qA|exact qB|refine qC ?_ rfl ?_|refine qD ?_ ?_|exact qE (by rfl)|exact qF (by rfl)|exact Fit.refl _|exact qG _|(refine qE ?_;(try simp only [qX]at *);simp only [zQ,zA,zB,zC,zD,zE,zF,zG,zH,zI,zJ,zK,zL,zM,zN,zO,zP,zR,zS]at *;omega)));done)|(refine qL ?_;first|exact qK _)|skip))|skip
  ·rintro ⟨f2,hf2⟩
   cbv
   repeat' (first
    |with_reducible refine ua3 ?_ ?_
    |with_reducible refine And.intro ?_ ?_
    |(with_reducible intro hcd;(try simp only [zA,zB,zC,zD,zE,zF,zG,zH,zI,zJ,zK,zL,zM,zN,zO,zP]at hcd);try cbv)
    | (refine⟨ky u L,?_⟩
       cbv
       refine ua3 ⟨hmt,hlk u L f2 hf2⟩ ?_
       try cbv)
    |fail)
   all_goals first|((try simp only [qX]at *);(try simp only [zQ,zA,zB,zC,zD,zE,zF,zG,zH,zI,zJ,zK,zL,zM,zN,zO,zP,zR,zS]at *);first|(refine qO ?_;omega)|(simp only [uap];omega))|(subst hR;exact Fit.refl _;done)|((have hk1:=hkl u L (by rw [hL];exact Nat.le_refl _));(have hk2:=hkl u 0 (Nat.zero_le _));(try simp only [qX]at *);(try simp only [zQ,zA,zB,zC,zD,zE,zF,zG,zH,zI,zJ,zK,zL,zM,zN,zO,zP,zR,zS]at *);(have hlp:0<Ln u:=(by rw [←hL];omega));refine⟨⟨(u+1,f2),by(show u+1≤c.cs.length;omega),fun y hy=>by(have hy':y<u+1:=hy;rcases Nat.lt_or_ge y u with r|r;exact hok y r;exact(show y=u by omega)▸hlp),hfull u f2 (by rw [←hL];exact hf2)⟩,by simp only [];omega,?_⟩;cbv;(repeat' (first|with_reducible refine ua3 ?_ ?_|with_reducible refine And.intro ?_ ?_));(all_goals first|trivial|exact qN (qE (by rfl))|exact qN (qF (by rfl))|exact qN (Fit.refl _)|exact qL (qK _)|(refine qN (qE ?_);(try simp only [qX]at *);simp only [zQ,zA,zB,zC,zD,zE,zF,zG,zH,zI,zJ,zK,zL,zM,zN,zO,zP,zR,zS]at *;omega)|(refine qL (qJ ?_);(repeat' (first|exact qA|exact qB|refine qC ?_ rfl ?_|refine qD ?_ ?_|exact qE (by rfl)|exact qF (by rfl)|exact Fit.refl _|exact qG _|(refine qE ?_;(try simp only [qX]at *);simp only [zQ,zA,zB,zC,zD,zE,zF,zG,zH,zI,zJ,zK,zL,zM,zN,zO,zP,zR,zS]at *;omega)));done)|(refine qL ?_;first|exact qK _)|skip))|skip
set_option maxHeartbeats 4000000 in
theorem uoH (c:Clr)(q:Nat→Int)(hC:COk c)(hq:∀j,0≤q j∧q j≤1000)(ho:okQ c q=true):ua0 Try.prog 112 [(.agg [(caS c.cs),(mvS c.mv),(gaS c.gs)]),(.agg [(.arr 4 (fun ix=>(iv fun _=>q ix.den.toNat)))])] [] (fun r _=>r=(.tup [(.pp 0 [(caS c.cs),(mvS c.mv),(gaS c.gs),(.arr 4 (fun ix=>(iv fun _=>q ix.den.toNat))),(.mapx 170 39 false 2 (inD c q c.cs.length 0) (stS c q))]),(.bool (.lit true))])):=by
 have hc3:=hC.c3
 have hm4:=hC.m4
 obtain⟨F,hF⟩:∃F,F=mpF c q:=⟨_,rfl⟩
 obtain⟨Ln,hLn⟩:∃Ln:Nat→Nat,Ln=fun u=>(tkN c q u).length:=⟨_,rfl⟩
 obtain⟨ky,hky⟩:∃ky:Nat→Nat→List (List Int),ky=kyL c q:=⟨_,rfl⟩
 obtain⟨bi,hbi⟩:∃bi,bi=bI c q:=⟨_,rfl⟩
 obtain⟨el,hel⟩:∃el:Nat→Nat→List SV,el=fun u n=>[(iv fun _=>bI c q u n),(.agg [(iv fun _=>rLo c q (zi u) (bI c q u n)),(iv fun _=>rHi c q (zi u) (bI c q u n))])]:=⟨_,rfl⟩
 have ei:∀u n,el u n=[(iv fun _=>bi u n),(.agg [(iv fun _=>rLo c q (zi u) (bi u n)),(iv fun _=>rHi c q (zi u) (bi u n))])]:=fun u n=>by rw [hel,hbi]
 have elen:∀u i,(el u i).length=2∧SV.idsL (el u i)=[]:=fun u i=>by rw [hel];exact⟨rfl,rfl⟩
 have cI:∀u,u<c.cs.length→ugj Try.prog 113 [.pp 0 [(caS c.cs),(mvS c.mv),(gaS c.gs)],.pp 0 [(iv fun _=>zi u)],.pp 0 [(.arr 4 (fun ix=>(iv fun _=>q ix.den.toNat)))]] (Ln u) (el u):=fun u hu=>by rw [hel,hLn];exact uut c q u hC hu hq
 have hF0:(fun _=>none)=F 0 0:=by rw [hF];exact ukG c q
 have hlk:∀u i f,f=F u i→LenOk 2 (fun ks=>(f ks).isSome) (ky u i):=fun u i f h=>by rw [hky];exact upI (by rw [h,hF])
 have hkl:∀u i,i≤Ln u→(ky u i).length=(ky u 0).length+i:=fun u i h=>by rw [hky];rw [hLn]at h;exact ur5 h
 have hup:∀(u i:Nat) (f f':List Int→Option SV),i<Ln u→f=F u i→f'=F u (i+1)→uiZ 2 f [zi u,bi u i] (.agg [(iv fun _=>rLo c q (zi u) (bi u i)),(iv fun _=>rHi c q (zi u) (bi u i))]) f':=fun u i f f' h h1 h2=>by
  rw [hLn]at h
  rw [hbi]
  exact uo1 (by rw [h1,hF]) (by rw [h2,hF]) h rfl (fun _ _ _ h=>h)
 have hfull:∀(u:Nat) (f:List Int→Option SV),f=F u (Ln u)→f=F (u+1) 0:=fun u f h=>by
  rw [h,hF,hLn]
  exact ulm c q u
 have hok0:∀u,u<c.cs.length→0<Ln u→okK c q u=true:=fun u _ h=>by rw [hLn]at h;exact uhD.2 h
 have hall:∀u,u<c.cs.length→0<Ln u:=fun u h=>by rw [hLn];exact uhD.1 (uj6.1 ho u h)
 have hmx:∀(u:Nat) (f:List Int→Option SV),u=c.cs.length→f=F u 0→Fit (.mapx 170 39 false 2 (fun ks=>(f ks).isSome) (fun ks=>(f ks).getD .any)) (.mapx 170 39 false 2 (inD c q c.cs.length 0) (stS c q)):=fun u f hu h=>by
  subst hu
  rw [h,hF]
  refine upX (fun ks _=>uh6 c q c.cs.length 0 ks) fun ks _ hD=> ?_
  rw [uh6]at hD
  rw [ueR hD]
  exact Fit.refl _
 have c97:=uim c q
 have hmt:=ufR
 have hko:=ulr
 refine ua0.is fun R hR=>qY (sc:=urx) uas mix Try.func112 rfl Try.call112 (by kernel_rfl) (by kernel_rfl) ?_
 generalize Try.prog=P at c97 hmt hko cI⊢
 clear hF hLn hky hbi hel ho
 cbv
 repeat' (first
  | (refine⟨170,39,false,2,?_⟩
     cbv
     refine ua3 ⟨hmt,fun h=>by cases h⟩ ?_
     refine Or.inl ?_
     try cbv)
  |fail)
 all_goals first|skip
 refine⟨none,[],{x:Nat×(List Int→Option SV) // x.1≤c.cs.length∧(∀y,y<x.1→0<Ln y)∧x.2=F x.1 0},fun x=>⟨[(2,.own 0 0),(3,.own 1 0),(6,.own 9 0),(17,(caS c.cs)),(18,(iv fun _=>zi c.cs.length)),(19,(iv fun _=>zi x.1.1))],[(6,.map 170 39 false 2 x.1.2),(0,.cells [(caS c.cs),(mvS c.mv),(gaS c.gs)] 36),(1,.cells [(.arr 4 (fun ix=>(iv fun _=>q ix.den.toNat)))] 154),(8,.cells [(caS c.cs),(mvS c.mv),(gaS c.gs),(.arr 4 (fun ix=>(iv fun _=>q ix.den.toNat))),.mp 6] 165),(9,.cells [.own 8 0] 136)],40⟩,fun x=>c.cs.length-x.1.1,?_,?_⟩
 ·refine⟨⟨(0,fun _=>none),by simp only [];omega,fun y hy=>by simp only []at hy;omega,hF0⟩,?_⟩
  cbv
  repeat' (first|with_reducible refine ua3 ?_ ?_|with_reducible refine And.intro ?_ ?_)
  all_goals first|trivial|exact qN (qE (by rfl))|exact qN (Fit.refl _)|exact qL (qK _)|skip
 ·rintro ⟨⟨u,f⟩,hu,hok,hf⟩
  cbv
  dsimp only at hu hok hf
  repeat' (first
   |with_reducible refine And.intro ?_ ?_
   |(with_reducible intro hcd;(try simp only [zA,zB,zC,zD,zE,zF,zG,zH,zI,zJ,zK,zL,zM,zN,zO,zP]at hcd);try cbv)
   |(refine qQ ?_ ((c97 u)) ?hfit;(case hfit=>((repeat' (first|exact qB|refine qD ?_ ?_|exact qE (by rfl)|exact qF (by rfl)|exact Fit.refl _|exact qA|refine qC ?_ rfl ?_));done));try cbv)
   | (refine⟨ky u 0,?_⟩
      cbv
      refine ua3 ⟨hmt,hlk u 0 f hf⟩ ?_
      try cbv)
   |fail)
  all_goals first|(subst hR;((have hu':u=c.cs.length:= om);(exact qD (uv0 (ukA (ukA (ukA (ukA (qC (hmx u f hu' hf) rfl qA)))))) (qD (qF (by rfl)) qB)));done)|skip
  have hul:u<c.cs.length:=by((try simp only [qX]at *);(try simp only [zQ,zA,zB,zC,zD,zE,zF,zG,zH,zI,zJ,zK,zL,zM,zN,zO,zP,zR,zS]at *);omega)
  have cIu:=cI u hul
  have eu:=ei u
  have elu:=elen u
  obtain⟨L,hL⟩:∃L,L=Ln u:=⟨_,rfl⟩
  obtain⟨e,he⟩:∃e,e=el u:=⟨_,rfl⟩
  rw [←hL,←he]at cIu
  rw [←he]at eu elu
  refine⟨[],L,e,fun i=>{f // f=F u i},fun i x=>([(6,.map 170 39 false 2 x.val),(0,.cells [(caS c.cs),(mvS c.mv),(gaS c.gs)] 36),(1,.cells [(.arr 4 (fun ix=>(iv fun _=>q ix.den.toNat)))] 154),(8,.cells [(caS c.cs),(mvS c.mv),(gaS c.gs),(.arr 4 (fun ix=>(iv fun _=>q ix.den.toNat))),.mp 6] 165),(9,.cells [.own 8 0] 136),(42,.cells [(iv fun _=>zi u)] 3)],90),?_⟩
  cbv
  refine⟨fun _=>⟨cIu,elu⟩,⟨⟨f,hf⟩,?_⟩,?_,?_⟩
  ·cbv
   repeat' (first|with_reducible refine ua3 ?_ ?_|with_reducible refine And.intro ?_ ?_)
   all_goals first|trivial|exact qL (qK _)|skip
  ·rintro j ⟨f2,hf2⟩ hj
   have hj':j<L:=hj
   simp only [eu]
   cbv
   repeat' (first
    | (refine⟨F u (j+1),?_⟩
       cbv
       refine ua3 ⟨rfl,rfl,hmt,hko,hup u j f2 _ (by rw [←hL];exact hj') hf2 rfl⟩ ?_
       try cbv)
    |fail)
   all_goals first|(refine⟨⟨F u (j+1),rfl⟩,?_⟩;cbv;(repeat' (first|with_reducible refine ua3 ?_ ?_|with_reducible refine And.intro ?_ ?_));(all_goals first|trivial|exact qN (qE (by rfl))|exact qN (qF (by rfl))|exact qN (Fit.refl _)|exact qL (qK _)|(refine qN (qE ?_);(try simp only [qX]at *);simp only [zQ,zA,zB,zC,zD,zE,zF,zG,zH,zI,zJ,zK,zL,zM,zN,zO,zP,zR,zS]at *;omega)|(refine qL (qJ ?_);(repeat' (first|exact qA|exact qB|refine qC ?_ rfl ?_|refine qD ?_ ?_|exact qE (by rfl)|exact qF (by rfl)|exact Fit.refl _|exact qG _|(refine qE ?_;(try simp only [qX]at *);simp only [zQ,zA,zB,zC,zD,zE,zF,zG,zH,zI,zJ,zK,zL,zM,zN,zO,zP,zR,zS]at *;omega)));done)|(refine qL ?_;first|exact qK _)|skip))|skip
  ·rintro ⟨f2,hf2⟩
   cbv
   repeat' (first
    |with_reducible refine ua3 ?_ ?_
    |with_reducible refine And.intro ?_ ?_
    |(with_reducible intro hcd;(try simp only [zA,zB,zC,zD,zE,zF,zG,zH,zI,zJ,zK,zL,zM,zN,zO,zP]at hcd);try cbv)
    | (refine⟨ky u L,?_⟩
       cbv
       refine ua3 ⟨hmt,hlk u L f2 hf2⟩ ?_
       try cbv)
    |fail)
   all_goals first|((try simp only [qX]at *);(try simp only [zQ,zA,zB,zC,zD,zE,zF,zG,zH,zI,zJ,zK,zL,zM,zN,zO,zP,zR,zS]at *);first|(refine qO ?_;omega)|(simp only [uap];omega))|((have hk1:=hkl u L (by rw [hL];exact Nat.le_refl _));(have hk2:=hkl u 0 (Nat.zero_le _));(try simp only [qX]at *);(try simp only [zQ,zA,zB,zC,zD,zE,zF,zG,zH,zI,zJ,zK,zL,zM,zN,zO,zP,zR,zS]at *);(have hlp:0<Ln u:=(by rw [←hL];omega));refine⟨⟨(u+1,f2),by(show u+1≤c.cs.length;omega),fun y hy=>by(have hy':y<u+1:=hy;rcases Nat.lt_or_ge y u with r|r;exact hok y r;exact(show y=u by omega)▸hlp),hfull u f2 (by rw [←hL];exact hf2)⟩,by simp only [];omega,?_⟩;cbv;(repeat' (first|with_reducible refine ua3 ?_ ?_|with_reducible refine And.intro ?_ ?_));(all_goals first|trivial|exact qN (qE (by rfl))|exact qN (qF (by rfl))|exact qN (Fit.refl _)|exact qL (qK _)|(refine qN (qE ?_);(try simp only [qX]at *);simp only [zQ,zA,zB,zC,zD,zE,zF,zG,zH,zI,zJ,zK,zL,zM,zN,zO,zP,zR,zS]at *;omega)|(refine qL (qJ ?_);(repeat' (first|exact qA|exact qB|refine qC ?_ rfl ?_|refine qD ?_ ?_|exact qE (by rfl)|exact qF (by rfl)|exact Fit.refl _|exact qG _|(refine qE ?_;(try simp only [qX]at *);simp only [zQ,zA,zB,zC,zD,zE,zF,zG,zH,zI,zJ,zK,zL,zM,zN,zO,zP,zR,zS]at *;omega)));done)|(refine qL ?_;first|exact qK _)|skip))|(exfalso;(have hk1:=hkl u L (by rw [hL];exact Nat.le_refl _));(have hk2:=hkl u 0 (Nat.zero_le _));(try simp only [qX]at *);(try simp only [zQ,zA,zB,zC,zD,zE,zF,zG,zH,zI,zJ,zK,zL,zM,zN,zO,zP,zR,zS]at *);(have h9:=hall u hul);(have h10:L=Ln u:=hL);omega)|skip
end Go.Proofs.Ytpkgnhcfmpbidaa

namespace Go.Proofs.Ytpkgnhcfmpbidaa
open Go.Eng Go.Eng.Ck
structure MinD (S:Int→Prop)(z v:Int):Prop where
 st:v≤z
 le:∀w,S w→v≤w
 at':v=z∨S v
structure MaxD (S:Int→Prop)(z v:Int):Prop where
 st:z≤v
 ge:∀w,S w→w≤v
 at':v=z∨S v
theorem MinD.none {S:Int→Prop} {z:Int}(h:∀w,¬S w):MinD S z z:=⟨Int.le_refl _,fun w q=>absurd q (h w),.inl rfl⟩
theorem MaxD.none {S:Int→Prop} {z:Int}(h:∀w,¬S w):MaxD S z z:=⟨Int.le_refl _,fun w q=>absurd q (h w),.inl rfl⟩
theorem MinD.same {S S':Int→Prop} {z v:Int}(h:MinD S z v)(e:∀w,S' w↔S w):MinD S' z v:=⟨h.st,fun w q=>h.le w ((e w).1 q),h.at'.imp id (e v).2⟩
theorem MaxD.same {S S':Int→Prop} {z v:Int}(h:MaxD S z v)(e:∀w,S' w↔S w):MaxD S' z v:=⟨h.st,fun w q=>h.ge w ((e w).1 q),h.at'.imp id (e v).2⟩
theorem MinD.ins {S S':Int→Prop} {z v u:Int}(h:MinD S z v)(e:∀w,S' w↔S w∨w=u):MinD S' z (mn v u):=by
 have hm:=uo2 (a:=v) (b:=u)
 have hz:=h.st
 refine⟨by omega,fun w q=> ?_,?_⟩
 ·rcases(e w).1 q with q|q
  ·have:=h.le w q;omega
  ·omega
 ·rcases hm.2.2 with q|q
  ·rw [q];exact h.at'.imp id fun r=>(e _).2 (.inl r)
  ·rw [q];exact .inr ((e _).2 (.inr rfl))
theorem MaxD.ins {S S':Int→Prop} {z v u:Int}(h:MaxD S z v)(e:∀w,S' w↔S w∨w=u):MaxD S' z (mx v u):=by
 have hm:=uoa (a:=v) (b:=u)
 have hz:=h.st
 refine⟨by omega,fun w q=> ?_,?_⟩
 ·rcases(e w).1 q with q|q
  ·have:=h.ge w q;omega
  ·omega
 ·rcases hm.2.2 with q|q
  ·rw [q];exact h.at'.imp id fun r=>(e _).2 (.inl r)
  ·rw [q];exact .inr ((e _).2 (.inr rfl))
theorem MinD.is {S:Int→Prop} {z v:Int}(h:MinD S z v)(hs:∃w,S w)(hz:∀w,S w→w≤z):IsMin S v:=⟨h.le,by
 rcases h.at' with e|e
 ·obtain⟨w,q⟩:=hs
  have h1:=h.le w q
  have h2:=hz w q
  have h3:v=w:=by omega
  rw [h3];exact q
 ·exact e⟩
theorem MaxD.is {S:Int→Prop} {z v:Int}(h:MaxD S z v)(hs:∃w,S w)(hz:∀w,S w→z≤w):IsMax S v:=⟨h.ge,by
 rcases h.at' with e|e
 ·obtain⟨w,q⟩:=hs
  have h1:=h.ge w q
  have h2:=hz w q
  have h3:v=w:=by omega
  rw [h3];exact q
 ·exact e⟩
theorem _root_.Go.Eng.Ck.IsMin.ins {S S':Int→Prop} {v u:Int}(h:IsMin S v)(e:∀w,S' w↔S w∨w=u):IsMin S' (mn v u):=by
 have hm:=uo2 (a:=v) (b:=u)
 refine⟨fun w q=> ?_,?_⟩
 ·rcases(e w).1 q with q|q
  ·have:=h.le w q;omega
  ·omega
 ·rcases hm.2.2 with q|q
  ·rw [q];exact(e _).2 (.inl h.at')
  ·rw [q];exact(e _).2 (.inr rfl)
theorem _root_.Go.Eng.Ck.IsMax.ins {S S':Int→Prop} {v u:Int}(h:IsMax S v)(e:∀w,S' w↔S w∨w=u):IsMax S' (mx v u):=by
 have hm:=uoa (a:=v) (b:=u)
 refine⟨fun w q=> ?_,?_⟩
 ·rcases(e w).1 q with q|q
  ·have:=h.ge w q;omega
  ·omega
 ·rcases hm.2.2 with q|q
  ·rw [q];exact(e _).2 (.inl h.at')
  ·rw [q];exact(e _).2 (.inr rfl)
theorem _root_.Go.Eng.Ck.IsMin.one {S:Int→Prop} {u:Int}(e:∀w,S w↔w=u):IsMin S u:=⟨fun w q=>by have:=(e w).1 q;omega,(e u).2 rfl⟩
theorem _root_.Go.Eng.Ck.IsMax.one {S:Int→Prop} {u:Int}(e:∀w,S w↔w=u):IsMax S u:=⟨fun w q=>by have:=(e w).1 q;omega,(e u).2 rfl⟩
theorem _root_.Go.Eng.Ck.IsMin.same {S S':Int→Prop} {v:Int}(h:IsMin S v)(e:∀w,S' w↔S w):IsMin S' v:=⟨fun w q=>h.le w ((e w).1 q),(e v).2 h.at'⟩
theorem _root_.Go.Eng.Ck.IsMax.same {S S':Int→Prop} {v:Int}(h:IsMax S v)(e:∀w,S' w↔S w):IsMax S' v:=⟨fun w q=>h.ge w ((e w).1 q),(e v).2 h.at'⟩
def Dn (D R:List Int→Bool)(x b:Int):Prop:=D [x,b]=true∧R [x,b]=false
structure LkI (n:Nat)(m:Int)(D R:List Int→Bool)(A B:Nat→Int):Prop where
 sub:∀ks:List Int,ks.length=2→R ks=true→D ks=true
 lo:∀x,x<n→MinD (fun w=>∃b,Dn D R (x:Int) b∧w=m*b) (m*5) (A x)
 hi:∀x,x<n→MaxD (fun w=>∃b,Dn D R (x:Int) b∧w=m*b) (-1) (B x)
theorem uqR (n:Nat)(m:Int)(D:List Int→Bool):LkI n m D D (fun _=>m*5) (fun _=> -1):=
 ⟨fun _ _ h=>h,fun x _=>.none fun w ⟨b,⟨h,h'⟩,_⟩=>(by rw [h]at h';cases h'),fun x _=>.none fun w ⟨b,⟨h,h'⟩,_⟩=>(by rw [h]at h';cases h')⟩
theorem ufU {D R R':List Int→Bool} {a b:Int}(hs:∀ks:List Int,ks.length=2→R ks=true→D ks=true)(hr:R [a,b]=true)(h:Go.Eng.Rest 2 R [a,b] R'):(∀ks:List Int,ks.length=2→R' ks=true→D ks=true)∧(∀x y,Dn D R' x y↔Dn D R x y∨(x=a∧y=b)):=by
 refine⟨fun ks hk q=>hs ks hk ?_,fun x y=> ?_⟩
 ·rw [h ks hk]at q
  exact(Bool.and_eq_true_iff.1 q).1
 ·have h1:=h [x,y] rfl
  unfold Dn
  rw [h1]
  by_cases e:[x,y]=[a,b]
  ·simp only [List.cons.injEq,and_true]at e
   obtain⟨rfl,rfl⟩:=e
   simp [hs _ rfl hr]
  ·rw [decide_eq_false e]
   simp only [List.cons.injEq,and_true]at e
   simp [e]
theorem uqK {n:Nat} {m:Int} {D R R':List Int→Bool} {A B A' B':Nat→Int} {a b:Int}(h:LkI n m D R A B)(hr:R [a,b]=true)(h':Go.Eng.Rest 2 R [a,b] R')(ha:0≤a)
 (hA:A' a.toNat=mn (A a.toNat) (m*b)) (hB:B' a.toNat=mx (B a.toNat) (m*b)) (ho:∀x,x≠a.toNat→A' x=A x∧B' x=B x):LkI n m D R' A' B':=by
 have hd:=ufU h.sub hr h'
 refine⟨hd.1,fun x hx=> ?_,fun x hx=> ?_⟩
 ·by_cases e:x=a.toNat
  ·subst e
   rw [hA]
   refine(h.lo _ hx).ins fun w=> ?_
   constructor
   ·rintro⟨b',q,rfl⟩
    rcases(hd.2 _ _).1 q with q|⟨_,rfl⟩
    ·exact .inl ⟨b',q,rfl⟩
    ·exact .inr rfl
   ·rintro(⟨b',q,rfl⟩|rfl)
    ·exact⟨b',(hd.2 _ _).2 (.inl q),rfl⟩
    ·exact⟨b,(hd.2 _ _).2 (.inr ⟨by omega,rfl⟩),rfl⟩
  ·rw [(ho x e).1]
   refine(h.lo x hx).same fun w=> ?_
   constructor
   ·rintro⟨b',q,rfl⟩
    rcases(hd.2 _ _).1 q with q|⟨q,_⟩
    ·exact⟨b',q,rfl⟩
    ·exfalso;omega
   ·rintro⟨b',q,rfl⟩;exact⟨b',(hd.2 _ _).2 (.inl q),rfl⟩
 ·by_cases e:x=a.toNat
  ·subst e
   rw [hB]
   refine(h.hi _ hx).ins fun w=> ?_
   constructor
   ·rintro⟨b',q,rfl⟩
    rcases(hd.2 _ _).1 q with q|⟨_,rfl⟩
    ·exact .inl ⟨b',q,rfl⟩
    ·exact .inr rfl
   ·rintro(⟨b',q,rfl⟩|rfl)
    ·exact⟨b',(hd.2 _ _).2 (.inl q),rfl⟩
    ·exact⟨b,(hd.2 _ _).2 (.inr ⟨by omega,rfl⟩),rfl⟩
  ·rw [(ho x e).2]
   refine(h.hi x hx).same fun w=> ?_
   constructor
   ·rintro⟨b',q,rfl⟩
    rcases(hd.2 _ _).1 q with q|⟨q,_⟩
    ·exact⟨b',q,rfl⟩
    ·exfalso;omega
   ·rintro⟨b',q,rfl⟩;exact⟨b',(hd.2 _ _).2 (.inl q),rfl⟩
theorem umX {c:Clr} {q:Nat→Int} {x:Nat} {b:Int}:okB c q (x:Int) b=true↔∃j,j<lkN (c.cs.getD x k0)∧okL c q x j=true∧b=(c.cs.getD x k0).kl+(j:Int):=by
 unfold okB
 rw [decide_eq_true_eq,Int.toNat_natCast]
 constructor
 ·rintro⟨h1,h2⟩
  obtain⟨j,hj,rfl⟩:=umo h1
  exact⟨j,hj,decide_eq_true h2,rfl⟩
 ·rintro⟨j,h1,h2,rfl⟩
  exact⟨uj2 h1,ugU h2⟩
theorem unZ {c:Clr} {q:Nat→Int} {x:Nat}(hx:x<c.cs.length) {b:Int}:inD c q c.cs.length 0 [(x:Int),b]=true↔okB c q (x:Int) b=true:=by
 rw [ufv,ufO]
 constructor
 ·rintro⟨_,⟨_,h⟩|⟨_,h⟩⟩
  ·exact h
  ·cases h
 ·exact fun h=>⟨by omega,.inl ⟨by omega,h⟩⟩
theorem uoz {c:Clr} {q:Nat→Int} {a b:Int}(h:inD c q c.cs.length 0 [a,b]=true):(0≤a∧a<(c.cs.length:Int))∧okB c q a b=true:=by
 rw [ufv,ufO]at h
 obtain⟨h0,⟨h1,h2⟩|⟨_,h2⟩⟩:=h
 ·exact⟨⟨h0,h1⟩,h2⟩
 ·cases h2
theorem urA {c:Clr}(hc:COk c) {q:Nat→Int}(ho:okQ c q=true) {R:List Int→Bool} {A B:Nat→Int}(h:LkI c.cs.length (c.mv.length:Int) (inD c q c.cs.length 0) R A B)(hr:∀ks:List Int,ks.length=2→R ks=false) {x:Nat}(hx:x<c.cs.length):A x=eLo c q x∧B x=eHi c q x:=by
 have hS:∀w,(∃b,Dn (inD c q c.cs.length 0) R (x:Int) b∧w=(c.mv.length:Int)*b)↔∃j,j<lkN (c.cs.getD x k0)∧okL c q x j=true∧lkV c x j=w:=fun w=>by
  unfold Dn
  constructor
  ·rintro⟨b,⟨h1,_⟩,rfl⟩
   obtain⟨j,h2,h3,rfl⟩:=umX.1 ((unZ hx).1 h1)
   exact⟨j,h2,h3,rfl⟩
  ·rintro⟨j,h2,h3,rfl⟩
   exact⟨_,⟨(unZ hx).2 (umX.2 ⟨j,h2,h3,rfl⟩),hr _ rfl⟩,rfl⟩
 have hs:=ueb ho hx
 obtain⟨j0,hj0,hj1⟩:=hs
 have hm:∀j,j<lkN (c.cs.getD x k0)→lkV c x j≤(c.mv.length:Int)*5:=fun j hj=>by
  have h2:=(hc.k x hx).l2
  have h3:=uj2 hj
  exact Int.mul_le_mul_of_nonneg_left (by omega) (by omega)
 constructor
 ·have h1:=((h.lo x hx).same (S':=fun w=>∃j,j<lkN (c.cs.getD x k0)∧okL c q x j=true∧lkV c x j=w) fun w=>(hS w).symm).is ⟨_,j0,hj0,hj1,rfl⟩ fun w ⟨j,a,_,e⟩=>e▸hm j a
  exact h1.eq (uhC (z:=9999) ⟨j0,hj0,hj1⟩ fun i hi _=>by have:=ujf hc hx hi;omega)
 ·have h1:=((h.hi x hx).same (S':=fun w=>∃j,j<lkN (c.cs.getD x k0)∧okL c q x j=true∧lkV c x j=w) fun w=>(hS w).symm).is ⟨_,j0,hj0,hj1,rfl⟩ fun w ⟨j,a,_,e⟩=>by have:=ujf hc hx a;omega
  exact h1.eq (uhO (z:= -1) ⟨j0,hj0,hj1⟩ fun i hi _=>by have:=ujf hc hx hi;omega)
structure CnI (c:Clr)(q:Nat→Int)(P:Int→Prop)(x i:Nat)(A B:Int)(z:Bool):Prop where
 no:z=false→∀b,¬P b
 some:z=true→∃b,P b
 lo:z=true→IsMin (fun w=>∃b,P b∧w=rLo c q x b+gN c.mv q x b i) A
 hi:z=true→IsMax (fun w=>∃b,P b∧w=rHi c q x b+gN c.mv q x b i) B
theorem uq8 (c:Clr)(q:Nat→Int) {P:Int→Prop}(x i:Nat)(A B:Int)(h:∀b,¬P b):CnI c q P x i A B false:=⟨fun _=>h,fun h=>(by cases h),fun h=>(by cases h),fun h=>(by cases h)⟩
theorem CnI.same {c:Clr} {q:Nat→Int} {P P':Int→Prop} {x i:Nat} {A B:Int} {z:Bool}(h:CnI c q P x i A B z)(e:∀b,P' b↔P b):CnI c q P' x i A B z:=
 ⟨fun hz b q=>h.no hz b ((e b).1 q),fun hz=>let ⟨b,q⟩:=h.some hz;⟨b,(e b).2 q⟩,fun hz=>(h.lo hz).same fun w=>by simp only [e],fun hz=>(h.hi hz).same fun w=>by simp only [e]⟩
theorem CnI.new {c:Clr} {q:Nat→Int} {P P':Int→Prop} {x i:Nat} {A B:Int}(h:CnI c q P x i A B false) {b:Int}(e:∀y,P' y↔P y∨y=b):CnI c q P' x i (rLo c q x b+gN c.mv q x b i) (rHi c q x b+gN c.mv q x b i) true:=by
 have hn:∀y,P' y↔y=b:=fun y=>by rw [e];exact⟨fun r=>r.elim (fun r=>absurd r (h.no rfl y)) id,.inr⟩
 refine⟨fun h=>(by cases h),fun _=>⟨b,(hn b).2 rfl⟩,fun _=>.one fun w=> ?_,fun _=>.one fun w=> ?_⟩
 ·exact⟨fun ⟨y,r,s⟩=>by rw [(hn y).1 r]at s;exact s,fun r=>⟨b,(hn b).2 rfl,r⟩⟩
 ·exact⟨fun ⟨y,r,s⟩=>by rw [(hn y).1 r]at s;exact s,fun r=>⟨b,(hn b).2 rfl,r⟩⟩
theorem CnI.ins {c:Clr} {q:Nat→Int} {P P':Int→Prop} {x i:Nat} {A B:Int}(h:CnI c q P x i A B true) {b:Int}(e:∀y,P' y↔P y∨y=b):CnI c q P' x i (mn A (rLo c q x b+gN c.mv q x b i)) (mx B (rHi c q x b+gN c.mv q x b i)) true:=by
 refine⟨fun h=>(by cases h),fun _=>let ⟨y,r⟩:=h.some rfl;⟨y,(e y).2 (.inl r)⟩,fun _=>(h.lo rfl).ins fun w=> ?_,fun _=>(h.hi rfl).ins fun w=> ?_⟩
 ·constructor
  ·rintro⟨y,r,rfl⟩
   rcases(e y).1 r with r|rfl
   ·exact .inl ⟨y,r,rfl⟩
   ·exact .inr rfl
  ·rintro(⟨y,r,rfl⟩|rfl)
   ·exact⟨y,(e y).2 (.inl r),rfl⟩
   ·exact⟨b,(e b).2 (.inr rfl),rfl⟩
 ·constructor
  ·rintro⟨y,r,rfl⟩
   rcases(e y).1 r with r|rfl
   ·exact .inl ⟨y,r,rfl⟩
   ·exact .inr rfl
  ·rintro(⟨y,r,rfl⟩|rfl)
   ·exact⟨y,(e y).2 (.inl r),rfl⟩
   ·exact⟨b,(e b).2 (.inr rfl),rfl⟩
theorem urP {c:Clr}(hc:COk c) {q:Nat→Int}(ho:okQ c q=true) {R:List Int→Bool} {A B:Int} {z:Bool} {x i:Nat}(hx:x<c.cs.length)(hi:i≤c.mv.length)(h:CnI c q (Dn (inD c q c.cs.length 0) R (x:Int)) x i A B z)(hr:∀ks:List Int,ks.length=2→R ks=false):A=cLo c q x i∧B=cHi c q x i:=by
 have hP:∀b,Dn (inD c q c.cs.length 0) R (x:Int) b↔∃j,j<lkN (c.cs.getD x k0)∧okL c q x j=true∧b=(c.cs.getD x k0).kl+(j:Int):=fun b=>by
  unfold Dn
  rw [unZ hx,umX]
  exact⟨fun r=>r.1,fun r=>⟨r,hr _ rfl⟩⟩
 obtain⟨j0,hj0,hj1⟩:=ueb ho hx
 have hz:z=true:=by
  cases z with
  |true=>rfl
  |false=>exact absurd ((hP _).2 ⟨j0,hj0,hj1,rfl⟩) (h.no rfl _)
 constructor
 ·have h1:=(h.lo hz).same (S':=fun w=>∃j,j<lkN (c.cs.getD x k0)∧okL c q x j=true∧cnL c q x i j=w) fun w=>by
   constructor
   ·rintro⟨j,a,b,rfl⟩;exact⟨_,(hP _).2 ⟨j,a,b,rfl⟩,rfl⟩
   ·rintro⟨b,r,rfl⟩
    obtain⟨j,a1,a2,rfl⟩:=(hP b).1 r
    exact⟨j,a1,a2,rfl⟩
  exact h1.eq (uhC (z:=9999) ⟨j0,hj0,hj1⟩ fun j hj r=>by have:=upR hc hx hi r;omega)
 ·have h1:=(h.hi hz).same (S':=fun w=>∃j,j<lkN (c.cs.getD x k0)∧okL c q x j=true∧cnH c q x i j=w) fun w=>by
   constructor
   ·rintro⟨j,a,b,rfl⟩;exact⟨_,(hP _).2 ⟨j,a,b,rfl⟩,rfl⟩
   ·rintro⟨b,r,rfl⟩
    obtain⟨j,a1,a2,rfl⟩:=(hP b).1 r
    exact⟨j,a1,a2,rfl⟩
  exact h1.eq (uhO (z:= -1) ⟨j0,hj0,hj1⟩ fun j hj r=>by have:=upR hc hx hi r;omega)
end Go.Proofs.Ytpkgnhcfmpbidaa
