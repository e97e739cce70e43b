/- The engine by which contracts are proved. No condition. -/
import Derived.Test.YtkdggbfknlcdaaaGreatE2
import Derived.Scope
import Derived.RangeFuncRecord
import Derived.DeepKeys
import Derived.WideKeyRuns
import Derived.ChangeSame
import Derived.ChangeSlices
import Derived.JoinedOf
import Derived.JoinedAt
import Derived.RowKit3
import Derived.ReadAgain
import Derived.ChangeStays
import Derived.SizedLaws
import Derived.Shelf.Slices.CompactI
set_option linter.unusedVariables false
set_option linter.unusedSimpArgs false
set_option linter.deprecated false

namespace Go.Eng
open Go
structure Alike (N0:Nat)(W W':World):Prop where
 os:W'.os=W.os
 tape:W'.tape=W.tape
 output:W'.output=W.output
 size:W'.heap.size=W.heap.size
 low:∀b,b<N0→W'.heap[b]? =W.heap[b]?
 data:∀(b:Nat) (o:Obj),W.heap[b]? =some o→uhp o=true→W'.heap[b]? =some o
theorem Alike.refl (N0:Nat)(W:World):Alike N0 W W:=⟨rfl,rfl,rfl,rfl,fun _ _=>rfl,fun _ _ h _=>h⟩
theorem Alike.trans {N0:Nat} {W W' W'':World}(h:Alike N0 W W')(h':Alike N0 W' W''):Alike N0 W W'':=
 ⟨h'.os.trans h.os,h'.tape.trans h.tape,h'.output.trans h.output,h'.size.trans h.size,fun b hb=>(h'.low b hb).trans (h.low b hb),fun b o hb ho=>h'.data b o (h.data b o hb ho) ho⟩
theorem Alike.putObj {N0 k:Nat} {W:World} {o o':Obj}(hk:W.heap[k]? =some o)(hc:uhp o=false)(hn:N0≤k):Alike N0 W (W.putObj k o'):=
 ⟨rfl,rfl,rfl,by simp [World.putObj],fun b hb=>World.putObj_heap_other (by omega),fun b o2 hb ho=>by
  have:b≠k:=fun e=>by
   rw [e,hk]at hb
   rw [Option.some.inj hb,ho]at hc;cases hc
  rw [World.putObj_heap_other this];exact hb⟩
section
variable {P:Program} {T:uav} {W0:World} {B0:Nat→Prop} {R0:Bor} {N:Nat} {D:List Deferred} {t t':Sta} {μ μ':Mem} {ν ν':Vl} {a a':Act} {W W':World}
variable {N0:Nat} {F:Fence} {n:Nat} {Q:Exit→Act→World→Prop} {sc:SC} {kp:List Nat}
theorem Sat.alike (h:Sat W0 B0 R0 N D t μ ν a W)(hh:Alike W0.heap.size W W'):Sat W0 B0 R0 N D t μ ν a W':=by
 have hfr:=h.ms.frm
 refine⟨h.size,h.defers,h.env,h.wf,⟨fun b c hb=> ?_,⟨fun id blk hb=>(h.ms.own.holds id blk hb).mono (fun _ _ h=>h) (fun _ _=>⟨rfl,rfl⟩) (fun b hb'=> ?_),h.ms.own.inj,h.ms.own.out,h.ms.own.place⟩,
  ⟨hh.os.trans hfr.os,hh.tape.trans hfr.tape,hh.output.trans hfr.output,by rw [hh.size];exact hfr.size,fun b hb hB=>(hh.low b hb).trans (hfr.block b hb hB)⟩,h.ms.wf⟩,h.mle,h.bor,h.mm⟩
 ·have:=h.ms.mem b c hb
  cases c with
  |arr c=>obtain⟨t,fr,h1⟩:=this;exact⟨t,fr,hh.data b _ h1 rfl⟩
  |memo kt vt sc nk F=>obtain⟨es,clock,h1,h2⟩:=this;exact⟨es,clock,hh.data b _ h1 rfl,h2⟩
 ·obtain⟨o,h1,h2⟩:=(h.ms.own.holds id blk hb).block hb'
  rw [h1];exact hh.data b o h1 h2
def uyh (ro:Option Nat)(W0:World)(B0:Nat→Prop)(R0:Bor)(N N0:Nat)(Qs:Exit→LS→Prop)(Q:Exit→Act→World→Prop):Prop:=
 ∀D e s μ ν a W,Qs e s→s.Fresh→Sat W0 B0 R0 N D s.fs μ ν a W→ujd ro N0 D W→Q e a W
def uha (F:Fence)(n:Nat)(P:Program)(T:uav)(W0:World)(B0:Nat→Prop)(R0:Bor)(N N0:Nat)(sc:SC)(kp:List Nat)(c:Code):Prop:=
 ∀(s:LS) (Qs:Exit→LS→Prop) (Q:Exit→Act→World→Prop) D μ ν a W,vcC T P sc kp c s Qs→s.Fresh→Sat W0 B0 R0 N D s.fs μ ν a W→ujd F.round N0 D W→uyh F.round W0 B0 R0 N N0 Qs Q→c.wpIn F n P Q a W
def upq (P:Program)(T:uav)(N:Nat)(sc:SC)(c:Code):Prop:=
 ∀F n W0 B0 R0 N0 kp,FenceOk F P→N0≤W0.heap.size→(∀id,(R0 id).isSome=true→id∈kp)→uha F n P T W0 B0 R0 N N0 sc kp c
def ufX (W W':World):Prop:=∀(k:Nat) (o:Obj),W.heap[k]? =some o→uhp o=false→W'.heap[k]? =some o
theorem ufX.trans {W1 W2 W3:World}(h:ufX W1 W2)(h':ufX W2 W3):ufX W1 W3:=fun k o hk hc=>h' k o (h k o hk hc) hc
theorem Sat.still {D1:List Deferred}(h:Sat W0 B0 R0 N D t μ ν a W)(h':Sat W (uks t ν μ) ⟨R0.tab,μ⟩ N D1 t' μ' ν' a' W'):ufX W W':=fun k o hk hc=>by
 refine(h'.ms.frm.block k (uao hk) ?_).trans hk
 rintro(⟨id,hs,hb⟩|⟨kt,vt,sc,nk,F,hm⟩)
 ·obtain⟨blk,hblk⟩:=Option.isSome_iff_exists.1 hs
  obtain⟨o',h1,h2⟩:=(h.ms.own.holds id blk hblk).block hb
  rw [hk]at h1
  rw [←Option.some.inj h1,hc]at h2;cases h2
 ·obtain⟨es,clock,h1,_⟩:=h.ms.mem k _ hm
  rw [hk]at h1
  rw [Option.some.inj h1]at hc;cases hc
theorem uju {k:Nat} {o:Obj}(hk:W.heap.size≤k)(h:ufX W W'):ufX W (W'.putObj k o):=fun j o' hj hc=>by
 have:=uao hj
 rw [World.putObj_heap_other (by omega)]
 exact h j o' hj hc
theorem uhu {kp:List Nat} {s:LS} {H:List (Nat×Blk)} {nxt:Nat}(he:uy3 kp s.H ⟨s.env,H,nxt⟩)(hR:∀id,(R0 id).isSome=true→id∈kp)(h:Sat W0 B0 R0 N D s.fs μ ν a W):
 Sat W0 B0 R0 N D (⟨s.env,H,nxt⟩:LS).fs μ ν a W∧(⟨s.env,H,nxt⟩:LS).Fresh∧∀id,(lk H id).isSome=true→(lk s.H id).isSome=true:=by
 obtain⟨hw,hk,hH⟩:=he
 unfold wfB at hw
 split at hw
 ·rename_i w1 w2 w3
  have hdom:∀id,(lk H id).isSome=true→(lk s.H id).isSome=true:=fun id hs=>by
   obtain⟨x,hx⟩:=Option.isSome_iff_exists.1 hs
   obtain⟨b,hb,_⟩:=ude hH hx
   exact ua1 hb
  have hms:=h.ms
  refine⟨⟨h.size,h.defers,fun k=>h.env k,fun k id hid=> ?_,⟨hms.mem,⟨fun id x hx=> ?_,fun id id' b hs hs'=>hms.own.inj id id' b (hdom id hs) (hdom id' hs'),fun id b hs=>hms.own.out id b (hdom id hs),fun id b hs=>hms.own.place id b (hdom id hs)⟩,hms.frm,fun i b hb id hid=> ?_⟩,h.mle,fun id r b hr=> ?_,h.mm⟩,fun id hid=> ?_,hdom⟩
  ·have hid':id∈(ue1 (lk s.env k)).ids:=hid
   cases hl:lk s.env k with
   |none=>rw [hl]at hid';simp [ue1,SV.ids]at hid'
   | some x=>
    rw [hl]at hid'
    exact ufH.1 (uaB w3 id (ukk hl id hid'))
  ·obtain⟨b,hb,hle⟩:=ude hH hx
   exact hle.holds (hms.own.holds id b hb)
  ·exact ufH.1 (uaB hw id (up8 hb id hid))
  ·obtain⟨blk,q1,q2,q3⟩:=h.bor id r b hr
   have hd:=ufH.1 (uaB hk id (hR id (ua1 hr)))
   obtain⟨x,hx⟩:=Option.isSome_iff_exists.1 hd
   obtain⟨b',hb',hle⟩:=ude hH hx
   have:b'=blk:=Option.some.inj (hb'.symm.trans q1)
   subst this
   exact⟨x,hx,hle.isRow.trans q2,q3⟩
  ·show lk H id=none
   cases hl:lk H id with
   |none=>rfl
   | some x=>
    have:=uft w1 id (ufH.2 (ua1 hl))
    have hid':nxt≤id:=hid
    have this':id<nxt:=this
    omega
 ·cases hw
theorem Frm.mono {B B':Nat→Prop} {W W':World}(h:Frm B W W')(hb:∀b,B b→B' b):Frm B' W W':=⟨h.os,h.tape,h.output,h.size,fun b h1 h2=>h.block b h1 fun q=>h2 (hb b q)⟩
def usO (K:Nat→Prop)(μ:Mem)(ν:Vl)(H:Nat→Option Blk):Prop:=(∀b,K b→μ b=none)∧∀id b,(H id).isSome=true→ν.b id=some b→¬K b
theorem Sat.frm {K:Nat→Prop} {μ0:Mem}(h:Sat W0 B0 R0 N D t μ ν a W)(hf:Frm (fun b=>K b∨uaA μ0 b) W W')(h0:∀b c,μ0 b=some c→μ b=some c)(hm0:uca μ0 W')(hap:usO K μ ν t.H)(hk:∀b,K b→W0.heap.size≤b):Sat W0 B0 R0 N D t μ ν a W':=by
 have hfr:=h.ms.frm
 refine⟨h.size,h.defers,h.env,h.wf,⟨fun b c hb=> ?_,⟨fun id blk hb=>(h.ms.own.holds id blk hb).mono (fun _ _ h=>h) (fun _ _=>⟨rfl,rfl⟩) (fun b hb'=> ?_),h.ms.own.inj,h.ms.own.out,h.ms.own.place⟩,
  ⟨hf.os.trans hfr.os,hf.tape.trans hfr.tape,hf.output.trans hfr.output,Nat.le_trans hfr.size hf.size,fun b hb hB=> ?_⟩,h.ms.wf⟩,h.mle,h.bor,h.mm⟩
 ·by_cases hm:uaA μ0 b
  ·obtain⟨kt,vt,sc,nk,F,q⟩:=hm
   have:=h0 _ _ q
   rw [hb]at this
   cases this
   exact hm0 _ _ q
  ·refine(h.ms.mem b c hb).same (hf.block b (h.ms.mem b c hb).lt fun q=> ?_)
   rcases q with q|q
   ·rw [hap.1 b q]at hb;cases hb
   ·exact hm q
 ·exact hf.block b (h.ms.own.lt (ua1 hb) hb') fun q=>q.elim (hap.2 id b (ua1 hb) hb') fun q=>(q.mono h0).no (h.ms.own.out id b (ua1 hb) hb')
 ·exact(hf.block b (by have:=hfr.size;omega) fun q=>q.elim (fun q=>by have:=hk b q;omega) fun q=>(h.memoB (q.mono h0)).elim (fun q=>by omega) hB).trans (hfr.block b hb hB)
theorem Sat.marks (h:Sat W0 B0 R0 N D t μ ν a W)(D':List Deferred):Sat W0 B0 R0 N D' t μ ν {a with defers:=D'} W:=⟨h.size,rfl,h.env,h.wf,h.ms,h.mle,h.bor,h.mm⟩
theorem urf {H:List (Nat×Blk)} {nxt:Nat}:∀(ps:List Nat) (xs:List SV) (vs:List Value) (env:List (Nat×SV)) (tmps:Array Value),(∀p∈ps,p<N)→ps.length=xs.length→Rel μ Vl.nil (.tup xs) (.tuple ⟨vs⟩) →
 Sat W0 B0 R0 N D (⟨env,H,nxt⟩:LS).fs μ ν {tmps:=tmps,defers:=D} W →
 Sat W0 B0 R0 N D (⟨un1 ps xs env,H,nxt⟩:LS).fs μ ν {tmps:=(ps.zip vs).foldl (fun t (pv:Nat×Value)=>t.setIfInBounds pv.1 pv.2) tmps,defers:=D} W:=by
 intro ps
 induction ps with
 |nil=>intro xs vs env tmps _ _ _ h;cases xs<;>exact h
 | cons p ps ih=>
  intro xs vs env tmps hp hl hr h
  cases xs with
  |nil=>cases hl
  | cons x xs=>
   cases hr with
   | tcons _ _ _ c rest h1 h2=>
    simp only [un1,List.zip_cons_cons,List.foldl_cons]
    refine ih xs rest _ _ (fun q hq=>hp q (List.mem_cons_of_mem _ hq)) (by simpa using hl) h2 ?_
    have hpN:=hp p (by simp)
    have hsz:tmps.size=N:=h.size
    have hget:∀k,(tmps.setIfInBounds p c).getD k undef=if k=p then c else tmps.getD k undef:=fun k=>
     um5 {tmps:=tmps,defers:=D} p c k (by show p<tmps.size;omega)
    have hE:∀k,ubZ ⟨udb env (some p) x,H,nxt⟩ k=if k=p then x else ubZ ⟨env,H,nxt⟩ k:=fun k=>by
     rw [ucA ⟨env,H,nxt⟩];rfl
    have hxi:x.ids=[]:=Rel.no_ids h1 rfl
    refine⟨by simp [hsz],rfl,fun k=> ?_,fun k id hid=> ?_,h.ms,h.mle,h.bor,h.mm⟩
    ·show Rel μ ν (ubZ _ k) _
     simp only []at hget⊢
     rw [hE,hget]
     by_cases e:k=p
     ·simp only [e,if_true];exact Rel.closed h1 rfl ν
     ·simp only [e,if_false];exact h.env k
    ·have hid':id∈(ubZ ⟨udb env (some p) x,H,nxt⟩ k).ids:=hid
     rw [hE]at hid'
     by_cases e:k=p
     ·simp only [e,if_true]at hid';rw [hxi]at hid';cases hid'
     ·simp only [e,if_false]at hid';exact h.wf k id hid'
theorem uh0 {H:List (Nat×Blk)} {l:List Nat}(h:uf3 H l=true):∀id∈l,∃c t,lk H id=some (.cells c t):=by
 induction l with
 |nil=>intro id hid;cases hid
 | cons x l ih=>
  simp only [uf3]at h
  split at h
  ·rename_i c t hx
   intro id hid
   rcases List.mem_cons.1 hid with rfl|hid
   ·exact⟨c,t,hx⟩
   ·exact ih h id hid
  ·cases h
theorem ugo (hF:FenceOk F P)(hN:N0≤W0.heap.size)(hR:∀id,(R0 id).isSome=true→id∈kp) {g:Operand} {ps:Array Tmp} {assign body:Code}(hps:uip ps.toList N=true)
 (hassign:upq P T N sc assign) (hbody:upq P T N sc body):uha F n P T W0 B0 R0 N N0 sc kp (.rangeFunc g ps assign body):=by
 intro s Qs Q D μ ν00 a W h hf hS hD hE
 simp only [vcC]at h
 obtain⟨seeds,L,el,σ,I,h⟩:=h
 split at h
 ·rename_i s0 hs0
  obtain⟨ν,hS0,hf0⟩:=ucr seeds hs0 hf hS
  split at h
  ·rename_i fn caps hg hco
   split at h
   ·rename_i hcaps
    obtain⟨hIE,⟨x0,hent0⟩,hrd,hdone⟩:=h
    obtain⟨hI,hel⟩:=hIE ()
    have hcell:=uh0 hco
    have hgv:=uai hS0 g
    rw [show s0.fs.E=ubZ s0 from rfl,hg]at hgv
    obtain⟨fs,cs,hgv1,hgv2,hgv3⟩:=uhY hgv
    have hfs:fs = #[]:=by
     obtain⟨l,e,hl⟩:=ugF hgv2
     injection e with e
     subst e
     cases l with
     |nil=>rfl
     |cons=>cases hl
    rw [hfs]at hgv1
    have hcs:Rel μ Vl.nil (.tup caps) (.tuple cs):=hgv3.strip (by simpa [SV.ids]using hcaps)
    obtain⟨R1,hR1d⟩:∃R1:Bor,R1=⟨fun id=>if id∈uhE s0.env then some (false,ν.b id,ν.r id)else R0 id,R0.mu⟩:=⟨_,rfl⟩
    have hR1:∀id,(R1 id).isSome=true→id∈kp++uhE s0.env:=fun id hs=>by
     subst hR1d
     simp only at hs
     by_cases e:id∈uhE s0.env
     ·exact List.mem_append_right _ e
     ·simp only [e,if_false]at hs
      exact List.mem_append_left _ (hR id hs)
    have hR1e:∀id,id∈uhE s0.env→R1 id=some (false,ν.b id,ν.r id):=fun id hid=>by subst hR1d;simp only [hid,if_true]
    have hmu:R1.mu=R0.mu:=by subst hR1d;rfl
    have hS1:Sat W0 B0 R1 N D s0.fs μ ν a W:=⟨hS0.size,hS0.defers,hS0.env,hS0.wf,hS0.ms,by rw [hmu];exact hS0.mle,fun id r b hr=>by
     by_cases e:id∈uhE s0.env
     ·rw [hR1e id e]at hr
      cases hr
      obtain⟨c,t,hc⟩:=hcell id e
      exact⟨_,hc,rfl,fun _=>rfl⟩
     ·subst hR1d
      simp only [e,if_false]at hr
      exact hS0.bor id r b hr,by rw [hmu];exact hS0.mm⟩
    have hext:∀{D' t μ' ν' a' W'},Sat W0 B0 R1 N D' t μ' ν' a' W'→Sat W0 B0 R0 N D' t μ' ν' a' W':=fun {D' t μ' ν' a' W'} h=>⟨h.size,h.defers,h.env,h.wf,h.ms,by rw [←hmu];exact h.mle,fun id r b hr=>by
     by_cases e:id∈uhE s0.env
     ·obtain⟨blk,q1,q2,q3⟩:=h.bor id _ _ (hR1e id e)
      obtain⟨blk0,p1,p2,p3⟩:=hS0.bor id r b hr
      obtain⟨c,t,hc⟩:=hcell id e
      have:blk0 = .cells c t:=Option.some.inj (p1.symm.trans hc)
      subst this
      have hrf:r=false:=p2.symm
      subst hrf
      exact⟨blk,q1,q2,fun _=>(q3 rfl).trans (p3 rfl)⟩
     ·exact h.bor id r b (by subst hR1d;simp only [e,if_false];exact hr),by rw [←hmu];exact h.mm⟩
    have hturn:∀{D2:List Deferred} {s2:LS} {μ2 ν2 a2 W2},Sat W0 B0 R1 N D2 s2.fs μ2 ν2 a2 W2→(∀b c,μ b=some c→μ2 b=some c)→Sat W0 B0 R1 N D (⟨s0.env,s2.H,s2.nxt⟩:LS).fs μ2 ν2 a W2:=fun {D2 s2 μ2 ν2 a2 W2} h2 hm=>by
     have hag:∀id∈uhE s0.env,∃blk,lk s2.H id=some blk∧ν2.b id=ν.b id∧ν2.r id=ν.r id:=fun id hid=>by
      obtain⟨blk,q1,q2,q3⟩:=h2.bor id _ _ (hR1e id hid)
      have:=q3 rfl
      simp only [Prod.mk.injEq]at this
      exact⟨blk,q1,this.1,this.2⟩
     have hidk:∀k,∀id∈(ue1 (lk s0.env k)).ids,id∈uhE s0.env:=fun k id hid=>by
      cases hl:lk s0.env k with
      |none=>rw [hl]at hid;simp [ue1,SV.ids]at hid
      |some x=>rw [hl]at hid;exact ukk hl id hid
     refine⟨hS1.size,hS1.defers,fun k=> ?_,fun k id hid=> ?_,h2.ms,h2.mle,h2.bor,h2.mm⟩
     ·exact Rel.mono hm (hS1.env k) ν2 fun id hid=>by
       obtain⟨_,_,q1,q2⟩:=hag id (hidk k id hid)
       exact⟨q1,q2⟩
     ·obtain⟨blk,q,_⟩:=hag id (hidk k id hid)
      exact ua1 q
    let St:LS→(Nat→Prop)→World→Prop:=fun s' K W'=>∃μ' ν',Sat W0 B0 R1 N D s'.fs μ' ν' a W'∧s'.Fresh∧ufX W W'∧(∀b c,μ b=some c→μ' b=some c)∧usO K μ' ν' (lk s'.H)
    have hStx:∀s' K W1 W2,St s' K W1→Frm (fun b=>K b∨uaA μ b) W1 W2→uca μ W2→(∀b,K b→b<W1.heap.size∧W.heap.size≤b)→St s' (fun b=>K b∨(W1.heap.size≤b∧b<W2.heap.size)) W2:=by
     rintro s' K W1 W2 ⟨μ',ν',q1,q2,q3,q4,q5⟩ hfr hmm hK
     refine⟨μ',ν',q1.frm hfr q4 hmm q5 (fun b hb=>by have:=hS.ms.frm.size;have:=hK b hb;omega),q2,fun k o hk hc=> ?_,q4,fun b hb=> ?_,fun id b hs hb=> ?_⟩
     ·have h1:=q3 k o hk hc
      have h2:=uao hk
      refine(hfr.block k (uao h1) fun q=> ?_).trans h1
      rcases q with q|⟨kt,vt,sc,nk,F,q⟩
      ·have:=hK k q;omega
      ·obtain⟨es,clock,h3,_⟩:=hS.ms.mem k _ q
       rw [hk]at h3
       rw [Option.some.inj h3]at hc;cases hc
     ·rcases hb with hb|hb
      ·exact q5.1 b hb
      ·cases hc:μ' b with
       |none=>rfl
       |some c=>have:=q1.ms.mem.lt hc;omega
     ·rintro(q|q)
      ·exact q5.2 id b hs hb q
      ·have:=q1.ms.own.lt hs hb;omega
    have hDef:∀{mark:List Deferred} {l:Nat} {W2:World} {o:Obj},W.heap.size≤l→ucU W.heap.size l mark W2→ufX W W2→ujd F.round N0 (mark++D) (W2.putObj l o):=fun {mark l W2 o} hl hm hst=>by
     have hst':=uju (o:=o) hl hst
     have ua4:∀d∈D,∃k,d={target:=.collected k,args:= #[]}∧N0≤k∧k<W.heap.size∧(W2.putObj l o).heap[k]? =some (.deferred (some [])):=fun d hd=>by
      obtain⟨k,e,h1,h2⟩:=hD.2.1 d hd
      exact⟨k,e,h1,uao h2,hst' k _ h2 rfl⟩
     have hrec:∀l0,F.round=some l0→∃r,(W2.putObj l o).heap[l0]? =some (.loop r):=fun l0 h0=>by
      obtain⟨r,hr⟩:=hD.2.2 l0 h0
      exact⟨r,hst' l0 _ hr rfl⟩
     rcases hm with rfl|⟨k,rfl,k1,k2,k3⟩
     ·exact⟨hD.1,fun d hd=>by obtain⟨k,e,h1,h2,h3⟩:=ua4 d hd;exact⟨k,e,h1,h3⟩,hrec⟩
     ·refine⟨List.pairwise_cons.2 ⟨fun d hd e=> ?_,hD.1⟩,fun d hd=> ?_,hrec⟩
      ·obtain⟨k',e',h1,h2,h3⟩:=ua4 d hd
       rw [e']at e
       have:k=k':=by injection e with e1;injection e1
       omega
      ·rcases List.mem_cons.1 hd with rfl|hd
       ·have:=hS.ms.frm.size
        exact⟨k,rfl,by omega,by rw [World.putObj_heap_other (by omega)];exact k3⟩
       ·obtain⟨k,e,h1,h2,h3⟩:=ua4 d hd;exact⟨k,e,h1,h3⟩
    have hWl:∀{l:Nat},W.heap.size≤l→W0.heap.size≤l:=fun hl=>by have:=hS.ms.frm.size;omega
    refine uhL (μ:=μ) (cs:=cs) (caps:=caps) (L:=L) (el:=el) hF hD.2.2 hgv1 hI hS.ms.mem hcs (fun i x hx=> ?_)
     (fun i K W'=>∃x,St ⟨s0.env,(I i x).1,(I i x).2⟩ K W')
     (fun c K W'=>∃e s2,((c = .ret∧e = .ret)∨∃j,c = .exit j∧e = .exit j)∧Qs e s2∧St s2 K W') ?_ ?_ ?_ ?_ ?_ ?_
    ·obtain⟨l,e,hl⟩:=ugF hx
     injection e with e
     subst e
     rw [←(hel i).1];exact hl
    ·rintro i K W1 W2 ⟨x,hx⟩ hfr hmm hK
     exact⟨x,hStx _ K W1 W2 hx hfr hmm hK⟩
    ·rintro c K W1 W2 ⟨e,s2,he,hq,hx⟩ hfr hmm hK
     exact⟨e,s2,he,hq,hStx _ K W1 W2 hx hfr hmm hK⟩
    ·intro W1 hfr
     obtain⟨q1,q2,q3⟩:=uhu hent0 hR1 hS1
     refine⟨x0,μ,ν,q1.frm (μ0:=fun _=>none) (hfr.mono fun _ h=>h.elim) (fun b c h=>by cases h) (fun b c h=>by cases h) ⟨fun b hb=>hb.elim,fun _ _ _ _ h=>h⟩ (fun b hb=>hb.elim),q2,fun k o hk _=>(hfr.block k (uao hk) id).trans hk,fun _ _ h=>h,fun b hb=>hb.elim,fun _ _ _ _ h=>h⟩
    ·rintro fn' l mark D0 i xs K W' hl hi hxs ⟨x,μ',ν',hS',hfr',hst',hmu',hap'⟩ hK hrec hmark
     have hvc:=hrd i x hi
     obtain⟨vs,hvs⟩:∃vs:List Value,xs=⟨vs⟩:=⟨xs.toList,rfl⟩
     subst hvs
     have hxs':Rel μ' Vl.nil (.tup (el i)) (.tuple ⟨vs⟩):=hxs.mono hmu' _ fun _ _=>⟨rfl,rfl⟩
     have hSb:=urf (ν:=ν') ps.toList (el i) vs s0.env a.tmps (uft hps) (by rw [(hel i).1];simp) hxs' (hS'.marks [])
     have hfold:(ps.zip ⟨vs⟩).foldl (fun t (pv:Nat×Value)=>t.setIfInBounds pv.1 pv.2) a.tmps=(ps.toList.zip vs).foldl (fun t (pv:Nat×Value)=>t.setIfInBounds pv.1 pv.2) a.tmps:=by
      rw [←Array.foldl_toList];simp
     have hgoal:({tmps:=(ps.zip ⟨vs⟩).foldl (fun t (p,v)=>t.setIfInBounds p v) a.tmps,defers:=[]}:Act)={tmps:=(ps.toList.zip vs).foldl (fun t (pv:Nat×Value)=>t.setIfInBounds pv.1 pv.2) a.tmps,defers:=[]}:=by
      rw [←hfold]
     rw [hgoal]
     have hown':∀b,uks (⟨un1 ps.toList (el i) s0.env,(I i x).1,(I i x).2⟩:LS).fs ν' μ' b→¬K b:=fun b q hk=>q.elim (fun ⟨id,hs,hb⟩=>hap'.2 id b hs hb hk) fun q=>q.no (hap'.1 b hk)
     refine hassign (F.inRound l) (n-1) W' (uks (⟨un1 ps.toList (el i) s0.env,(I i x).1,(I i x).2⟩:LS).fs ν' μ') ⟨R1.tab,μ'⟩ N0 (kp++uhE s0.env) (ums hF l)
      (by have:=hS'.ms.frm.size;omega) hR1 _ _ _ [] μ' ν' _ W' hvc hfr' hSb.rebase ⟨.nil,⟨fun d hd=>(by cases hd),fun l0 e=> ?_⟩⟩ ?_
     ·have:l=l0:=by injection e
      subst this
      exact⟨_,hrec⟩
     intro D1 e s1 μ1 ν1 a1 w1 hq hf1 hS1' hD1
     cases e with
     | normal=>
      simp only at hq
      have hst1:ufX W' w1:=hSb.still hS1'
      have hl1:w1.heap[l]? =some (.loop (ubO fn' a ps assign body D0 .ready none)):=hst1 l _ hrec rfl
      refine⟨hl1,?_⟩
      have hSu:=(hSb.unbase hS1').alike (Alike.putObj (o':=.loop (ubO fn' a ps assign body D0 .busy none)) hl1 rfl (hWl hl))
      obtain⟨w1',hw1'⟩:∃w1',w1.putObj l (.loop (ubO fn' a ps assign body D0 .busy none))=w1':=⟨_,rfl⟩
      rw [hw1']at hSu⊢
      have hl1':w1'.heap[l]? =some (.loop (ubO fn' a ps assign body D0 .busy none)):=by
       rw [←hw1'];exact World.putObj_heap_same (uao hl1)
      have hsz1:w1'.heap.size=w1.heap.size:=by rw [←hw1'];simp
      have hoth:∀k,k≠l→w1'.heap[k]? =w1.heap[k]? :=fun k hk=>by rw [←hw1'];exact World.putObj_heap_other hk
      have hW1:W'.heap.size≤w1.heap.size:=hS1'.ms.frm.size
      have hlt:l<W'.heap.size:=uao hrec
      refine hbody (F.inRound l) (n-1) w1' (uks s1.fs ν1 μ1) ⟨R1.tab,μ1⟩ N0 (kp++uhE s0.env) (ums hF l)
       (by have:=hSu.ms.frm.size;omega) hR1 s1 _ _ D1 μ1 ν1 a1 w1' hq hf1 hSu.rebase ⟨hD1.1,fun d hd=> ?_,fun l0 e=> ?_⟩ ?_
      ·obtain⟨k,e,h1,h2⟩:=hD1.2.1 d hd
       refine⟨k,e,h1,(hoth k ?_).trans h2⟩
       rintro rfl
       rw [hl1]at h2;cases h2
      ·have:l=l0:=by injection e
       subst this
       exact⟨_,hl1'⟩
      intro D2 e s2 μ2 ν2 a2 w hq2 hf2 hS2 hD2
      have hst2:ufX w1' w:=hSu.still hS2
      have hSw:=hSu.unbase hS2
      have hm1:∀b c,μ b=some c→μ1 b=some c:=fun b c hb=>hS1'.mle.le b c (hmu' b c hb)
      have hm2:∀b c,μ b=some c→μ2 b=some c:=fun b c hb=>hS2.mle.le b c (hm1 b c hb)
      have hKm1:∀b,K b→μ1 b=none:=fun b hb=>by
       cases hc:μ1 b with
       |none=>rfl
       | some c=>
        rcases hS1'.mle.new b c hc with q|q|q
        ·rw [show(⟨R1.tab,μ'⟩:Bor).mu b=μ' b from rfl,hap'.1 b hb]at q;cases q
        ·have:=hK b hb;omega
        ·exact(hown' b q hb).elim
      have hKs1:∀b,K b→¬uks s1.fs ν1 μ1 b:=fun b hb q=>by
       rcases q with⟨id,hs,hb'⟩|q
       rotate_left
       ·exact q.no (hKm1 b hb)
       rcases hS1'.ms.own.place id b hs hb' with q|q
       ·have:=hK b hb;omega
       ·exact hown' b q hb
      have hKs2:∀id b,(lk s2.H id).isSome=true→ν2.b id=some b→¬K b:=fun id b hs hb hk=>by
       rcases hS2.ms.own.place id b hs hb with q|q
       ·have:=hK b hk;omega
       ·exact hKs1 b hk q
      have hKm2:∀b,K b→μ2 b=none:=fun b hb=>by
       cases hc:μ2 b with
       |none=>rfl
       | some c=>
        rcases hS2.mle.new b c hc with q|q|q
        ·rw [show(⟨R1.tab,μ1⟩:Bor).mu b=μ1 b from rfl,hKm1 b hb]at q;cases q
        ·have:=hK b hb;omega
        ·exact(hKs1 b hb q).elim
      have hlw:w.heap[l]? =some (.loop (ubO fn' a ps assign body D0 .busy none)):=hst2 l _ hl1' rfl
      have hmk:ucU W.heap.size l mark w:=by
       rcases hmark with q|⟨k,q1,q2,q3,q4⟩
       ·exact .inl q
       ·exact .inr ⟨k,q1,q2,q3,hst2 k _ ((hoth k (by omega)).trans (hst1 k _ q4 rfl)) rfl⟩
      have hW2:w1'.heap.size≤w.heap.size:=hS2.ms.frm.size
      have hos1:w1'.os=w1.os∧w1'.tape=w1.tape∧w1'.output=w1.output:=by rw [←hw1'];exact⟨rfl,rfl,rfl⟩
      have hkept:Kept μ K W' w:=⟨fun b c hb=>hS2.ms.mem b c (hm2 b c hb),by omega,fun b hb=>by
       have hbK:=hK b hb
       exact(hS2.ms.frm.block b (by omega) (hKs1 b hb)).trans ((hoth b (by omega)).trans (hS1'.ms.frm.block b hbK.2 fun q=>hown' b q hb)),
       hS2.ms.frm.os.trans (hos1.1.trans hS1'.ms.frm.os),hS2.ms.frm.tape.trans (hos1.2.1.trans hS1'.ms.frm.tape),hS2.ms.frm.output.trans (hos1.2.2.trans hS1'.ms.frm.output)⟩
      have hstW:ufX W w:=fun k o hk hc=>by
       have h1:=hst1 k o (hst' k o hk hc) hc
       have h2:=uao hk
       exact hst2 k o ((hoth k (by omega)).trans h1) hc
      have hst3:∀o',St ⟨s0.env,s2.H,s2.nxt⟩ K (w.putObj l o'):=fun o'=>
       ⟨μ2,ν2,(hturn hSw hm2).alike (Alike.putObj hlw rfl (hWl hl)),hf2,uju hl hstW,hm2,hKm2,hKs2⟩
      refine⟨hlw,hmk,hkept,?_⟩
      cases e with
      | normal=>
       obtain⟨y,hy⟩:=hq2
       intro o'
       obtain⟨μ3,ν3,p1,p2,p3,p4,p5⟩:=hst3 o'
       have hy':uy3 (kp++uhE s0.env) (⟨s0.env,s2.H,s2.nxt⟩:LS).H ⟨(⟨s0.env,s2.H,s2.nxt⟩:LS).env,(I (i+1) y).1,(I (i+1) y).2⟩:=hy
       obtain⟨q1,q2,q3⟩:=uhu hy' hR1 p1
       exact⟨y,μ3,ν3,q1,q2,p3,p4,p5.1,fun id b hs hb=>p5.2 id b (q3 id hs) hb⟩
      |ret=>exact fun o'=>⟨.ret,_,.inl ⟨rfl,rfl⟩,hq2,hst3 o'⟩
      |exit j=>exact fun o'=>⟨.exit j,_,.inr ⟨j,rfl,rfl⟩,hq2,hst3 o'⟩
      |goto=>exact hq2.elim
      |panic=>exact hq2.elim
      |outgrown=>exact hq2.elim
     |_=>exact hq.elim
    ·rintro fn' l mark D0 K W' hl ⟨x,μ',ν',q1,q2,q3,q4,q5⟩ hrec hmark
     have hD':a.defers=D:=hS.defers
     rw [hD']
     exact hE (mark++D) .normal _ μ' ν' _ _ (hdone x) q2 ((hext (q1.alike (Alike.putObj hrec rfl (hWl hl)))).marks _) (hDef hl hmark q3)
    ·rintro fn' l mark D0 c K W' hl ⟨e,s2,he,hq,μ',ν',q1,q2,q3,q4,q5⟩ hrec hmark
     have hD':a.defers=D:=hS.defers
     rw [hD']
     have q1':=q1.alike (Alike.putObj (o':=.loop (ubO fn' a ps assign body D0 .exhausted (some c))) hrec rfl (hWl hl))
     have:=hE (mark++D) e _ μ' ν' _ _ hq q2 ((hext q1').marks _) (hDef hl hmark q3)
     rcases he with⟨rfl,rfl⟩|⟨j,rfl,rfl⟩
     ·exact wpIn_ret this
     ·exact wpIn_exit this
   ·exact h.elim
  ·exact h.elim
 ·exact h.elim
end
end Go.Eng

namespace Go.Eng
open Go
theorem uiZ :∀(m:Nat) (l:List Nat),l.Nodup→(∀x∈l,x<m)→l.length≤m:=by
 intro m
 induction m with
 | zero=>
  intro l _ h
  cases l with
  |nil=>simp
  |cons x l=>have:=h x (by simp);omega
 | succ m ih=>
  intro l hd h
  by_cases hm:m∈l
  ·have:=ih (l.erase m) (hd.erase m) (fun x hx=>by
    have h1:=h x (List.mem_of_mem_erase hx)
    have h2:x≠m:=fun e=>by
     rw [e]at hx
     exact(hd.mem_erase_iff.1 hx).1 rfl
    omega)
   rw [List.length_erase_of_mem hm]at this
   omega
  ·have:=ih l hd (fun x hx=>by
    have h1:=h x hx
    have h2:x≠m:=fun e=>hm (e▸hx)
    omega)
   omega
section
variable {P:Program} {T:uav} {W0:World} {B0:Nat→Prop} {R0:Bor} {N:Nat} {D:List Deferred} {t t':Sta} {μ μ':Mem} {ν ν':Vl} {a a':Act} {W W':World}
variable {N0:Nat} {F:Fence} {n:Nat} {Q:Exit→Act→World→Prop} {sc:SC} {kp:List Nat}
theorem usi {s:LS} {id:Nat} {l:List SV} {ty:TypeId}(hS:Sat W0 B0 R0 N D s.fs μ ν a W)(hid:lk s.H id=some (.cells l ty))(hl:SV.idsL l=[])(hk:R0 id=none):
 ∃μ',Sat W0 B0 R0 N D (ub8 s none (umP l id)).fs μ' ν a W:=by
 obtain⟨b,cs,q1,q2,q3⟩:=hS.ms.own.holds id _ hid
 have hout:=hS.ms.own.out id b (ua1 hid) q1
 have hle:∀k c,μ k=some c→(fun k=>if k=b then some (Cel.arr cs)else μ k:Mem) k=some c:=fun k c hk=>by
  have:k≠b:=fun e=>by rw [e,hout]at hk;cases hk
  simp only [this,if_false];exact hk
 have hnew:∀k c,(fun k=>if k=b then some (Cel.arr cs)else μ k:Mem) k=some c→μ k=some c∨(k=b∧c = .arr cs):=fun k c hk=>by
  by_cases e:k=b
  ·simp only [e,if_true,Option.some.injEq]at hk;exact .inr ⟨e,hk.symm⟩
  ·simp only [e,if_false]at hk;exact .inl hk
 generalize hμ:(fun k=>if k=b then some (Cel.arr cs)else μ k:Mem)=μ' at hle hnew
 have hb:μ' b=some (.arr cs):=by rw [←hμ];simp
 have hg:∀j,j≠id→uar [(id,To.cells l)] j=none:=fun j hj=>by
  simp only [uar,lk]
  cases hb:Nat.beq id j with
  |true=>exact absurd (Nat.eq_of_beq_eq_true hb).symm hj
  |false=>rfl
 have hgid:uar [(id,To.cells l)] id=some (.cells l):=by
  simp only [uar,lk,Nat.beq_refl]
 have hrel:Rel μ' Vl.nil (.agg l) (.agg cs):=(q3.mono hle Vl.nil (by rw [show(SV.agg l).ids=[] by simp only [SV.ids,hl]];intro i hi;cases hi))
 have hturn:∀j,uaH μ' ν ν (uar [(id,To.cells l)]) j:=fun j=>by
  unfold uaH
  by_cases e:j=id
  ·subst e
   rw [hgid]
   intro b' off hb'
   rw [q1]at hb'
   cases hb'
   have:=Rel.pp (μ:=μ') ν off l b 0 cs.size cs hb (by omega) (by simpa using hrel)
   simpa using this
  ·rw [hg j e]
   exact⟨rfl,rfl⟩
 have hno:∀s:SV,∀j∈(s.sub (uar [(id,To.cells l)])).ids,j≠id∧j∈s.ids:=fun s j hj=>by
  rcases udn _ s j hj with⟨k1,k2⟩|⟨i,_,k2⟩
  ·exact⟨fun e=>by rw [e,hgid]at k2;(cases k2),k1⟩
  ·exfalso
   by_cases e:i=id
   ·subst e;rw [hgid]at k2;cases k2
   ·rw [hg i e]at k2;cases k2
 have hH:∀k,(s.fs.upd none (umP l id)).H k=if k=id then none else(lk s.H k).map (Blk.sub (uar [(id,To.cells l)])):=fun k=>by
  show uat (uaK [(id,To.cells l)] s.fs.H) [(id,none)] k=_
  simp only [uat,ucv]
  rfl
 have hHs:∀k,k≠id→(lk s.H k).isSome=true→((s.fs.upd none (umP l id)).H k).isSome=true:=fun k hk hs=>by
  rw [hH,if_neg hk]
  cases hq:lk s.H k with
  |none=>rw [hq]at hs;cases hs
  |some b=>rfl
 have hHo:∀k,((s.fs.upd none (umP l id)).H k).isSome=true→k≠id∧(lk s.H k).isSome=true:=fun k hs=>by
  rw [hH]at hs
  by_cases e:k=id
  ·rw [if_pos e]at hs;cases hs
  ·rw [if_neg e]at hs
   refine⟨e,?_⟩
   cases hq:lk s.H k with
   |none=>rw [hq]at hs;cases hs
   |some b=>rfl
 have hblk:∀blk,∀j∈ua8 (Blk.sub (uar [(id,To.cells l)]) blk),j≠id∧j∈ua8 blk:=fun blk j hj=>by
  cases blk with
  | cells l' ty=>
   have:=hno (.agg l') j (by simpa [ua8,Blk.sub,SV.sub,SV.ids]using hj)
   simpa [ua8,SV.ids]using this
  |row=>simp [ua8,Blk.sub]at hj
  |map=>simp [ua8,Blk.sub]at hj
 have hkeep:∀k blk,(s.fs.upd none (umP l id)).H k=some blk→∃b0,lk s.H k=some b0∧blk=b0.sub (uar [(id,To.cells l)]):=fun k blk h=>by
  rw [hH]at h
  by_cases e:k=id
  ·rw [if_pos e]at h;cases h
  ·rw [if_neg e]at h
   cases hq:lk s.H k with
   |none=>rw [hq]at h;cases h
   |some b0=>rw [hq]at h;exact⟨b0,rfl,(Option.some.inj h).symm⟩
 refine⟨μ',?_⟩
 rw [uaE]
 refine⟨hS.size,hS.defers,fun k=> ?_,fun k j hj=> ?_,?_,hS.mle.trans ⟨hle,fun k c hc=> ?_⟩,fun j r p hr=> ?_,hS.mm⟩
 ·show Rel μ' ν ((s.fs.E k).sub (uar [(id,To.cells l)])) _
  exact(hS.env k).sub hle _ ν fun j _=>hturn j
 ·have hj:j∈((s.fs.E k).sub (uar [(id,To.cells l)])).ids:=hj
  have:=hno _ j hj
  exact hHs j this.1 (hS.wf k j this.2)
 ·refine ucb hS.ms (uar [(id,To.cells l)]) (fun _=>False) hle (fun k c hc=> ?_) hS.ms.frm (fun k blk _ hb=>hkeep k blk hb) (fun k _ _=>⟨rfl,rfl⟩) (fun _ _ _ _ _=>rfl) (fun k b0 _ _ _ j _=>hturn j) (fun k b' _ hs hb'=> ?_) (fun k blk _ hb j hj=> ?_) (fun k blk hk=>hk.elim)
  ·rcases hnew k c hc with q|⟨rfl,rfl⟩
   ·exact hS.ms.mem k c q
   ·exact⟨_,_,q2⟩
  ·cases hm:μ' b' with
   |none=>rfl
   | some c=>
    have hs':=hHo k hs
    rcases hnew b' c hm with q|⟨q,_⟩
    ·rw [hS.ms.own.out k b' hs'.2 hb']at q;cases q
    ·exact absurd (hS.ms.own.inj k id b hs'.2 (ua1 hid) (q▸hb') q1) hs'.1
  ·obtain⟨b0,h1,rfl⟩:=hkeep k blk hb
   have:=hblk b0 j hj
   exact hHs j this.1 (hS.ms.wf k b0 h1 j this.2)
 ·rcases hnew k c hc with q|⟨rfl,_⟩
  ·exact .inl q
  ·exact .inr (hS.ms.own.place id k (ua1 hid) q1)
 ·obtain⟨blk,p1,p2,p3⟩:=hS.bor j r p hr
  have hne:j≠id:=fun e=>by rw [e,hk]at hr;cases hr
  refine⟨blk.sub (uar [(id,To.cells l)]),?_,by rw [←p2];cases blk<;>rfl,p3⟩
  rw [hH,if_neg hne,show lk s.H j=some blk from p1];rfl
theorem ue5 {kp:List Nat}(hR:∀id,(R0 id).isSome=true→id∈kp):∀(l:List Nat) {s s':LS} {μ:Mem} {ν:Vl} {nid:Nat},ubu kp l s=some s'→(∀id,nid≤id→lk s.H id=none)→Sat W0 B0 R0 N D s.fs μ ν a W→∃μ' ν',Sat W0 B0 R0 N D s'.fs μ' ν' a W∧∀id,nid≤id→lk s'.H id=none:=by
 intro l
 induction l with
 | nil=>
  intro s s' μ ν nid h hf hS
  simp only [ubu,Option.some.injEq]at h
  subst h
  exact⟨μ,ν,hS,hf⟩
 | cons id l ih=>
  intro s s' μ ν nid h hf hS
  have hfr:∀(u:Upd),u.hs.map (·.1)=[id]→(lk s.H id).isSome=true→∀k,nid≤k→lk (ub8 s none u).H k=none:=fun u hu hs k hk'=>by
   have hne:k≠id:=fun q=>by
    rw [←q,hf k hk']at hs;cases hs
   have e1:lk (ub8 s none u).H k=(s.fs.upd none u).H k:=by rw [←uaE];rfl
   rw [e1]
   show uat (uaK u.sub s.fs.H) u.hs k=none
   rw [ub1 _ _ fun p hp q=>hne (by
    have:p.1∈u.hs.map (·.1):=List.mem_map.2 ⟨p,hp,rfl⟩
    rw [hu,List.mem_singleton]at this
    exact q.symm.trans this)]
   exact uhh (hf k hk')
  simp only [ubu]at h
  split at h
  ·rename_i ety sz n e hid
   obtain⟨μ2,ν2,v0,hU,_,_⟩:=ufN hS.ms (id:=id) hid
   have h2:=ucn hS hU (d:=none) (fun k hk=>by cases hk)
   have hU2:(s.fs.upd none ⟨.sl sz n e,[(id,some (.row ety sz (.lit 0) fun _=>[]))],[(id,.sl sz n e)]⟩)=(ub8 s none (uon ety sz n e id)).fs:=by
    rw [uaE];rfl
   rw [hU2]at h2
   exact ih h (hfr _ rfl (ua1 hid)) h2
  ·rename_i c ty hid
   split at h
   ·rename_i hc hk
    have hk0:R0 id=none:=by
     cases hq:R0 id with
     |none=>rfl
     | some x=>
      have:=hR id (ua1 hq)
      rw [uaD.2 this]at hk;cases hk
    obtain⟨μ2,h2⟩:=usi hS hid hc hk0
    exact ih h (hfr _ rfl (ua1 hid)) h2
   ·cases h
  ·cases h
theorem uim {kp:List Nat}:∀(l:List Nat) {s s':LS},ubu kp l s=some s'→s'.nxt=s.nxt:=by
 intro l
 induction l with
 |nil=>intro s s' h;simp only [ubu,Option.some.injEq]at h;rw [h]
 | cons id l ih=>
  intro s s' h
  simp only [ubu]at h
  split at h
  ·exact(ih h).trans rfl
  ·split at h
   ·exact(ih h).trans rfl
   ·cases h
  ·cases h
theorem urU (hF:FenceOk F P) {K:LS→Prop} {ops:Array Oper} {K':Act→World→Prop} {s:LS}(h:Sat W0 B0 R0 N D s.fs μ ν a W) {i nid:Nat} {o:Oper}(ho:ops[i]? =some o)(hnid:lk s.H nid=none)
 (hc:uul P ops.toList o nid s K) (hn:∀u μ' ν' v W',K (ub8 s o.dst u)→(∀id,nid<id→lk s.H id=none→(s.fs.upd o.dst u).H id=none)→UpdOk W0 B0 s.fs u μ ν μ' ν' v W'→K' (a.put o.dst v) W'):wpOpIn F n P ops Q i K' a W:=by
 have hg:=ufw (ops:=ops) h o
 have hE:s.fs.E=ubZ s:=rfl
 rw [hE]at hg
 unfold uul at hc
 split at hc
 rotate_left
 ·exact hc.elim
 rename_i c hgd hop
 rw [hgd]at hg
 split at hc
 rotate_left
 ·exact hc.elim
 rename_i f hcal
 split at hc
 rotate_left
 ·exact hc.elim
 rename_i fn first caps hev
 split at hc
 rotate_left
 ·exact hc.elim
 rename_i hids
 obtain⟨e,hc⟩:=hc
 split at hc
 rotate_left
 ·exact hc.elim
 rename_i hlt hfree
 obtain⟨post,hS,hK⟩:=hc
 have hlt:=uaW hlt
 unfold wpOpIn
 have hw:Region.wanted o (yielded ops a.tmps)=true:=hg
 simp only [ho,hw,if_true]
 refine⟨fun f _=>hF.fn f,?_⟩
 rw [Oper.semAt_eq _ _ o fun c' hc'=>by rw [hop]at hc';cases hc']
 have hrel:=uai h f
 rw [hE,hev]at hrel
 obtain⟨fs,cs,hval,hr1,hr2⟩:=uhY hrel
 obtain⟨hr3,_⟩:=ufu h c.args.toList
 rw [hE]at hr3
 have hargs:Rel μ ν (.tup (first++(evs (ubZ s) c.args.toList++caps))) (.tuple (fs++c.args.map a.eval++cs)):=by
  have:=uii (cs:=fs.toList) (ds:=c.args.toList.map a.eval++cs.toList) hr1 (uii hr3 hr2)
  have e:(fs++c.args.map a.eval++cs)=⟨fs.toList++(c.args.toList.map a.eval++cs.toList)⟩:=by apply Array.ext';simp
  rw [e];exact this
 have hgo:ubI P W0 B0 s.fs μ ν (fun u=>K (ub8 s o.dst u)∧∀id,nid<id→lk s.H id=none→(s.fs.upd o.dst u).H id=none) ((execOp a.eval o).run P W):=by
  obtain⟨dst,op,ty,pos,aft,gd⟩:=o
  simp only at hop
  subst hop
  refine ujb (gH:=s.fs.H) h (fun _ _ h=>h) hargs (bor:=[]) (bl:=[]) (ex:=[nid,e]) rfl (by rw [hids];rfl) rfl rfl (by simp;omega) (fun x hx=> ?_) hS (fun r bs hp _=> ?_) (ujy hcal hval hS.1)
  ·rcases List.mem_cons.1 hx with rfl|hx
   ·exact hnid
   ·rw [List.mem_singleton.1 hx];exact hfree
  ·have q:=hK r bs hp
   refine⟨q.1,q.2,fun id hid hz=> ?_⟩
   show uat (uaK [] s.fs.H) (uiF _ ([]++[nid,e]) bs) id=none
   rw [uhN _ id _ _ _ (by simp;omega)]
   exact hz
 exact ud0 hF hgo fun u μ' ν' v W' ⟨hk,hf⟩ hU=>hn u μ' ν' v W' hk hf hU
theorem utX (hF:FenceOk F P)(hT:ucj P T) {K:LS→Prop} {ops:Array Oper} {K':Act→World→Prop} {s:LS}(h:Sat W0 B0 R0 N D s.fs μ ν a W) {i nid:Nat} {o:Oper}(ho:ops[i]? =some o)(hnid:lk s.H nid=none)
 (hc:uzF T ops.toList o nid s K) (hn:∀u μ' ν' v W',K (ub8 s o.dst u)→(∀id,nid<id→lk s.H id=none→(s.fs.upd o.dst u).H id=none)→UpdOk W0 B0 s.fs u μ ν μ' ν' v W'→K' (a.put o.dst v) W'):wpOpIn F n P ops Q i K' a W:=by
 have hg:=ufw (ops:=ops) h o
 have hE:s.fs.E=ubZ s:=rfl
 rw [hE]at hg
 unfold uzF at hc
 split at hc
 rotate_left
 ·exact hc.elim
 rename_i t len ps hgd hop
 rw [hgd]at hg
 unfold wpOpIn
 have hw:Region.wanted o (yielded ops a.tmps)=true:=hg
 simp only [ho,hw,if_true]
 refine⟨fun f _=>hF.fn f,?_⟩
 rw [Oper.semAt_eq _ _ o fun c' hc'=>by rw [hop]at hc';cases hc']
 have hgo:ubI P W0 B0 s.fs μ ν (fun u=>K (ub8 s o.dst u)∧∀id,nid<id→lk s.H id=none→(s.fs.upd o.dst u).H id=none) ((execOp a.eval o).run P W):=by
  obtain⟨dst,op,ty,pos,aft,gd⟩:=o
  simp only at hop
  subst hop
  refine unr hT h hnid t len ps (uqw (fun s2 l e2 hk=>⟨hk,fun id hid hz=> ?_⟩) hc)
  show uat (uaK [] s.fs.H) [(nid,some (.cells l e2))] id=none
  have hz2:s.fs.H id=none:=hz
  have hne:¬id=nid:=by omega
  simp [uat,uaK,hne,hz2]
 exact ud0 hF hgo fun u μ' ν' v W' ⟨hk,hf⟩ hU=>hn u μ' ν' v W' hk hf hU
theorem ui4 {kp ix:List Nat} {K:LS→Prop} {ops:Array Oper}(hR:∀id,(R0 id).isSome=true→id∈kp)(hF:FenceOk F P)(hT:ucj P T)(hdst:ufs N ops.toList=true)
 (hQ:∀s' μ' ν' a' W',K s'→s'.Fresh→Sat W0 B0 R0 N D s'.fs μ' ν' a' W'→Q .normal a' W'):
 ∀ (l:List Oper) (i nid:Nat) (s:LS) (μ:Mem) (ν:Vl) (a:Act) (W:World),ops.toList.drop i=l→(∀id,nid≤id→lk s.H id=none)→Sat W0 B0 R0 N D s.fs μ ν a W→uci T P kp ix ops.toList l i nid s K →
  wpOpsIn F n P ops Q (List.range' i l.length) a W:=by
 intro l
 induction l with
 | nil=>
  intro i nid s μ ν a W _ hfree hS hrun
  exact hQ _ μ ν a W hrun (fun id hid=>hfree id hid) ⟨hS.size,hS.defers,hS.env,hS.wf,hS.ms,hS.mle,hS.bor,hS.mm⟩
 | cons o l ih=>
  intro i nid s μ ν a W hdrop hfree hS hrun
  have ho:ops[i]? =some o:=by
   have:=congrArg (fun l=>l[0]?) hdrop
   simpa using this
  have hdrop':ops.toList.drop (i+1)=l:=by
   have:=congrArg (List.drop 1) hdrop
   simpa [List.drop_drop,Nat.add_comm]using this
  have hd:∀k,o.dst=some k→k<N:=udc hdst o (by
   have:=Array.mem_of_getElem? ho
   simpa using this)
  rw [List.length_cons,List.range'_succ,wpOpsIn_cons]
  cases hm2:udL ix (i+1000)with
  | true=>
   simp only [uci,hm2]at hrun
   refine urU hF hS ho (hfree nid (Nat.le_refl _)) hrun fun u μ' ν' v W' hk hf hU=> ?_
   have hS2:=ucn hS hU hd
   rw [←uaE]at hS2
   refine ih (i+1) (nid+1) _ μ' ν' _ W' hdrop' (fun id hid=> ?_) hS2 hk
   have:=hf id (by omega) (hfree id (by omega))
   rw [←uaE]at this
   exact this
  |false=>
  cases hm3:udL ix (i+2000)with
  | true=>
   simp only [uci,hm2,hm3]at hrun
   refine utX hF hT hS ho (hfree nid (Nat.le_refl _)) hrun fun u μ' ν' v W' hk hf hU=> ?_
   have hS2:=ucn hS hU hd
   rw [←uaE]at hS2
   refine ih (i+1) (nid+1) _ μ' ν' _ W' hdrop' (fun id hid=> ?_) hS2 hk
   have:=hf id (by omega) (hfree id (by omega))
   rw [←uaE]at this
   exact this
  |false=>
  obtain⟨s,μ,ν,hfree,hS,hrun⟩:∃(s0:LS) (μ0:Mem) (ν0:Vl),(∀id,nid≤id→lk s0.H id=none)∧Sat W0 B0 R0 N D s0.fs μ0 ν0 a W∧ufD T P ops.toList o nid s0 (fun s'=>uci T P kp ix ops.toList l (i+1) (nid+1) s' K):=by
   simp only [uci,hm2,hm3]at hrun
   split at hrun
   ·exact⟨s,μ,ν,hfree,hS,hrun⟩
   ·obtain⟨ids,hrun⟩:=hrun
    split at hrun
    ·rename_i s1 hs1
     obtain⟨μ2,ν2,hS2,hf2⟩:=ue5 hR ids hs1 hfree hS
     exact⟨s1,μ2,ν2,hf2,hS2,hrun⟩
    ·exact hrun.elim
  simp only [ufD]at hrun
  have hg:=ufw (ops:=ops) hS o
  have next:∀(s1:LS),(∀id,nid≤id→lk s1.H id=none)→Sat W0 B0 R0 N D s1.fs μ ν a W→∀u μ' ν' v W',uci T P kp ix ops.toList l (i+1) (nid+1) (ub8 s1 o.dst u) K→u.Good nid s1.fs.H true→UpdOk W0 B0 s1.fs u μ ν μ' ν' v W' →
   wpOpsIn F n P ops Q (List.range' (i+1) l.length) (a.put o.dst v) W':=fun s1 hf1 hS1 u μ' ν' v W' hk hgood hU=>by
   have hS2:=ucn hS1 hU hd
   rw [←uaE]at hS2
   refine ih (i+1) (nid+1) _ μ' ν' _ W' hdrop' (fun id hid=> ?_) hS2 hk
   have:(s1.fs.upd o.dst u).H id=none:=ued hgood (fun _ _ h=>h) (by omega) (hf1 id (by omega))
   rw [←uaE]at this
   exact this
  have skip:∀(s1:LS),(∀id,nid≤id→lk s1.H id=none)→Sat W0 B0 R0 N D s1.fs μ ν a W→uci T P kp ix ops.toList l (i+1) (nid+1) ⟨udb s1.env o.dst (.tup []),s1.H,s1.nxt⟩ K →
   wpOpsIn F n P ops Q (List.range' (i+1) l.length) (a.put o.dst undef) W:=fun s1 hf1 hS1 hk=>
   next s1 hf1 hS1 (ua5 (.tup [])) μ ν undef W hk (uab _) (uc7 hS1.ms ue0 (by simp [SV.ids,SV.idsL]))
  have lit:∀dj f w,ubZ s dj = .bool (.sym f)→f ()=w→Sat W0 B0 R0 N D (⟨udb s.env (some dj) (.bool (.lit w)),s.H,s.nxt⟩:LS).fs μ ν a W:=fun dj f w he hf=>by
   have:=hS.put dj (x:=.bool (.lit w)) (by
    have:=hS.env dj
    rw [show s.fs.E dj = .bool (.sym f)from he]at this
    rw [ubp this]
    simp only [BX.den,hf]
    exact .bool ν (.lit w)) (by simp [SV.ids])
   have e:(⟨udb s.env (some dj) (.bool (.lit w)),s.H,s.nxt⟩:LS).fs=⟨ucg s.fs.E (some dj) (.bool (.lit w)),s.fs.H,s.fs.nxt⟩:=by
    simp only [LS.fs]
    congr 1
    exact ucA s s.env (some dj) _ _ _
   rw [e];exact this
  have hE:s.fs.E=ubZ s:=rfl
  rw [hE]at hg
  split at hrun
  ·rename_i e
   rw [e]at hg
   exact ujc hF hT hS ho (hfree nid (Nat.le_refl _)) hg hrun (next s hfree hS)
  ·rename_i e
   rw [e]at hg
   exact umW hF ho hg (skip s hfree hS hrun)
  ·rename_i dj f w e
   rw [e]at hg
   by_cases hf:f ()=w
   ·have hSl:=lit dj f w hg.1 hf
    exact ujc hF hT hSl ho (hfree nid (Nat.le_refl _)) (by rw [hg.2,hf];simp) (hrun.1 hf) (next ⟨udb s.env (some dj) (.bool (.lit w)),s.H,s.nxt⟩ hfree hSl)
   ·have hf':f () = !w:=by cases h:f ()<;>cases w<;>simp_all
    have hSl:=lit dj f (!w) hg.1 hf'
    exact umW hF ho (by rw [hg.2,hf'];cases w<;>rfl) (skip ⟨udb s.env (some dj) (.bool (.lit (!w))),s.H,s.nxt⟩ hfree hSl (hrun.2 hf'))
  ·exact hrun.elim
theorem urc (l:List SE)(k:Nat):∀e:List (Nat×SV),lk (uia l e) k=none∨lk (uia l e) k=lk e k:=by
 intro e
 induction e with
 |nil=>exact .inl rfl
 | cons p r ih=>
  obtain⟨j,x⟩:=p
  simp only [uia]
  cases hm:uxR l j with
  | true=>
   simp only [lk]
   cases hj:Nat.beq j k with
   |true=>exact .inr rfl
   |false=>exact ih
  | false =>
   simp only [lk]
   cases hj:Nat.beq j k with
   | true=>
    have e:j=k:=Nat.eq_of_beq_eq_true hj
    subst e
    left
    clear ih
    induction r with
    |nil=>rfl
    | cons q r ih=>
     obtain⟨i,y⟩:=q
     simp only [uia]
     cases hi:uxR l i with
     |false=>exact ih
     | true=>
      simp only [lk]
      cases hij:Nat.beq i j with
      | true=>
       have:=Nat.eq_of_beq_eq_true hij
       subst this
       rw [hm]at hi;cases hi
      |false=>exact ih
   |false=>exact ih
theorem uk1 (o:Option (List SE)) {s:LS}(h:Sat W0 B0 R0 N D s.fs μ ν a W):Sat W0 B0 R0 N D (ugI o s).fs μ ν a W:=by
 cases o with
 |none=>exact h
 | some l=>
  have hE:∀k,ubZ (ugI (some l) s) k = .any∨ubZ (ugI (some l) s) k=ubZ s k:=fun k=>by
   unfold ubZ ugI
   rcases urc l k s.env with q|q
   ·exact .inl (by show ue1 (lk (uia l s.env) k)=_;rw [q];rfl)
   ·exact .inr (by show ue1 (lk (uia l s.env) k)=_;rw [q])
  refine⟨h.size,h.defers,fun k=> ?_,fun k id hid=> ?_,h.ms,h.mle,h.bor,h.mm⟩
  ·rcases hE k with q|q
   ·show Rel μ ν (ubZ (ugI (some l) s) k) _
    rw [q];exact .any ν _
   ·show Rel μ ν (ubZ (ugI (some l) s) k) _
    rw [q];exact h.env k
  ·have hid':id∈(ubZ (ugI (some l) s) k).ids:=hid
   rcases hE k with q|q
   ·rw [q]at hid';simp [SV.ids]at hid'
   ·rw [q]at hid';exact h.wf k id hid'
theorem uhn (o:Option (List SE)) {s:LS}(h:s.Fresh):(ugI o s).Fresh:=by
 cases o with
 |none=>exact h
 |some l=>exact h
theorem ufV (hR:∀id,(R0 id).isSome=true→id∈kp)(hF:FenceOk F P)(hT:ucj P T) {id:Nat} {ops:Array Oper}(hdst:ufs N ops.toList=true):uha F n P T W0 B0 R0 N N0 sc kp (.region id ops false):=by
 intro s Qs Q D μ ν a W h hf hS hD hE
 simp only [vcC]at h
 replace hS:=uk1 (lk sc (id+150)) hS
 replace hf:=uhn (lk sc (id+150)) hf
 generalize ugI (lk sc (id+150)) s=s at h hf hS
 simp only [vcR]at h
 refine wpIn_region ?_
 have hl:List.range ops.size=List.range' 0 ops.toList.length:=by simp [List.range_eq_range']
 rw [hl]
 split at h
 rotate_left
 ·exact ui4 (W0:=W) (B0:=uks s.fs ν μ) (R0:=⟨R0.tab,μ⟩) (D:=D) hR hF hT hdst (fun s' μ' ν' a' W' hk hf' hS'=>hE D .normal s' μ' ν' a' W' hk hf' (hS.unbase hS') (hS.defOk hS' hD)) ops.toList 0 s.nxt s μ ν a W rfl hf hS.rebase h
 exact ujj (W0:=W) (B0:=uks s.fs ν μ) (R0:=⟨R0.tab,μ⟩) (D:=D) hF hT hdst (fun s' μ' ν' a' W' hk hf' hS'=>hE D .normal s' μ' ν' a' W' hk hf' (hS.unbase hS') (hS.defOk hS' hD)) ops.toList 0 s.nxt s μ ν a W rfl hf hS.rebase h
theorem udM (hF:FenceOk F P)(hT:ucj P T)(hmix:P.follows .mixedOrders=true) {id:Nat} {ops:Array Oper}(hdst:ufs N ops.toList=true) {l:List SE}(hsc:ubU ops.toList l=true):
 ∀ (s:LS) (Qs:LS→Prop) (Q:Exit→Act→World→Prop) D μ ν a W,udF T P ops.toList ops.toList.length l s Qs→(∀e∈l,∀x,e.x=some x→x<s.nxt)→s.Fresh→Sat W0 B0 R0 N D s.fs μ ν a W →
  (∀s' μ' ν' a' W',Qs s'→s'.Fresh→Sat W (uks s.fs ν μ) ⟨R0.tab,μ⟩ N D s'.fs μ' ν' a' W'→Q .normal a' W')→(Code.region id ops true).wpIn F n P Q a W:=by
 intro s Qs Q D μ ν a W h hX hf hS hE
 refine wpIn_region_any hmix ?_
 have hlen:l.length=ops.size:=by
  have h':=hsc
  simp only [ubU,Bool.and_eq_true]at h'
  simpa using uac h'.1.1.1
 have hnd:(ubv l).Nodup:=by
  have h':=hsc
  simp only [ubU,Bool.and_eq_true]at h'
  exact ud6 h'.1.1.2
 have hpre:∀e∈l,e.i<ops.size:=fun e he=>by
  have h':=hsc
  simp only [ubU,Bool.and_eq_true,List.all_eq_true]at h'
  obtain⟨o,ho,_⟩:=ubR (h'.2 e he)
  rw [uaU]at ho
  exact(Array.getElem?_eq_some_iff.1 ho).1
 have hall:∀i,i<ops.size→i∈ubv l:=fun i hi=>by
  have hil:(ubv l).length=ops.size:=by
   rw [←hlen]
   clear hnd hpre hsc h hX hlen
   induction l with
   |nil=>rfl
   |cons e l ih=>simp [ubv,ih]
  refine Classical.byContradiction fun hni=> ?_
  have:=uiZ ops.size (i::ubv l) (List.nodup_cons.2 ⟨hni,hnd⟩) (fun x hx=>by
   rcases List.mem_cons.1 hx with q|q
   ·omega
   ·obtain⟨e,he,rfl⟩:=uax.1 q
    exact hpre e he)
  simp only [List.length_cons]at this
  omega
 have hrun:ub3 T P ops.toList s.nxt ops.size l s.fs (fun t=>∃s',t=s'.fs∧Qs s'):=by
  have:=uiv (T:=T) (P:=P) (ops:=ops.toList) (base:=s.nxt) (N:=ops.toList.length) (K:=fun t=>∃s',t=s'.fs∧Qs s') (fun s' hs'=>⟨s',rfl,hs'⟩) l s rfl h
  simpa using this
 let Wd:World:={W with drawn:=W.drawn+1}
 have hSd:Sat W (uks s.fs ν μ) ⟨R0.tab,μ⟩ N D s.fs μ ν a Wd:=hS.rebase.world rfl rfl rfl rfl
 refine uh8 (W0:=W) (B0:=uks s.fs ν μ) (R0:=⟨R0.tab,μ⟩) (D:=D) (K:=fun t=>∃s',t=s'.fs∧Qs s') hF hT (fun j o k ho hk=>udc hdst o (by
  have:=Array.mem_of_getElem? ho
  simpa using this) k hk) hsc hX ?_ ops.size l _ s.fs μ ν a Wd hlen (List.Sublist.refl _) (by simp) (fun i=> ?_) (fun e' he' hn=>absurd (uax.2 ⟨e',he',rfl⟩) hn) (fun e _=>hf _ (Nat.le_add_right _ _)) (fun id hid=>hf id (by omega)) hrun hSd
 ·rintro t' μ' ν' a' W' ⟨s',rfl,hq⟩ hfr hS'
  exact hE s' μ' ν' a' W' hq (fun id hid=>hfr id hid) hS'
 ·constructor
  ·intro hq
   refine hall i ?_
   by_cases hi:i<ops.size
   ·exact hi
   ·simp [Array.getD_eq_getD_getElem?,hi]at hq
  ·intro hi
   obtain⟨e,he,rfl⟩:=uax.1 hi
   have:=hpre e he
   simp [Array.getD_eq_getD_getElem?,this]
theorem ud4 (hF:FenceOk F P)(hT:ucj P T)(hmix:P.follows .mixedOrders=true) {id:Nat} {ops:Array Oper}(hdst:ufs N ops.toList=true) {l:List SE}(hl:lk sc id=some l)(hsc:ubU ops.toList l=true):
 ∀ (s:LS) (Qs:LS→Prop) (Q:Exit→Act→World→Prop) D μ ν a W,ujg T P ops.toList ops.toList.length l s Qs→s.Fresh→Sat W0 B0 R0 N D s.fs μ ν a W →
  (∀s' μ' ν' a' W',Qs s'→s'.Fresh→Sat W (uks s.fs ν μ) ⟨R0.tab,μ⟩ N D s'.fs μ' ν' a' W'→Q .normal a' W')→(Code.region id ops true).wpIn F n P Q a W:=by
 intro s Qs Q D μ ν a W h hf hS hE
 unfold ujg at h
 split at h
 ·exact udM hF hT hmix hdst (udq hsc) s Qs Q D μ ν a W h (fun e he x q=>by
   obtain⟨e',_,rfl⟩:=List.mem_map.1 he
   unfold SE.setX at q
   split at q<;>cases q) hf hS hE
 ·obtain ⟨X,h⟩:=h
  split at h
  ·rename_i hb
   split at h
   ·exact udM hF hT hmix hdst (udq hsc) s Qs Q D μ ν a W h (fun e he x q=>by
     obtain⟨e',_,rfl⟩:=List.mem_map.1 he
     unfold SE.setX at q
     split at q<;>cases q
     exact uaW hb) hf hS hE
   ·obtain⟨Y,h⟩:=h
    split at h
    ·rename_i hy
     exact udM hF hT hmix hdst (udq hsc) s Qs Q D μ ν a W h (fun e he x q=>by
      obtain⟨e',_,rfl⟩:=List.mem_map.1 he
      unfold SE.setX at q
      split at q<;>cases q
      ·exact uaW hb
      ·exact uaW hy) hf hS hE
    ·exact h.elim
  ·exact h.elim
theorem ufT (hR:∀id,(R0 id).isSome=true→id∈kp)(hF:FenceOk F P)(hT:ucj P T)(hmix:P.follows .mixedOrders=true) {id:Nat} {ops:Array Oper}(hdst:ufs N ops.toList=true) {l:List SE}(hl:lk sc id=some l)(hsc:ubU ops.toList l=true):
 uha F n P T W0 B0 R0 N N0 sc kp (.region id ops true):=by
 intro s Qs Q D μ ν a W h hf hS hD hE
 simp only [vcC]at h
 replace hS:=uk1 (lk sc (id+150)) hS
 replace hf:=uhn (lk sc (id+150)) hf
 generalize ugI (lk sc (id+150)) s=s at h hf hS
 simp only [vcR,hl]at h
 split at h
 ·exact ud4 (n:=n) (id:=id) hF hT hmix hdst hl hsc s _ Q D μ ν a W h hf hS fun s' μ' ν' a' W' hq hf' hS'=>hE D .normal s' μ' ν' a' W' hq hf' (hS.unbase hS') (hS.defOk hS' hD)
 ·obtain⟨ids,h⟩:=h
  split at h
  ·rename_i s1 hs1
   obtain⟨μ2,ν2,hS2,hf2⟩:=ue5 hR ids hs1 (nid:=s.nxt) hf hS
   have hnx:s1.nxt=s.nxt:=uim ids hs1
   exact ud4 (n:=n) (id:=id) hF hT hmix hdst hl hsc s1 _ Q D μ2 ν2 a W h (fun k hk=>hf2 k (by rw [←hnx];exact hk)) hS2 fun s' μ' ν' a' W' hq hf' hS'=>hE D .normal s' μ' ν' a' W' hq hf' (hS2.unbase hS') (hS2.defOk hS' hD)
  ·exact h.elim
theorem uc9 {b:Frame} {c:Code} {k:List Item} {cs:List Frame} {w:World}:step P (lone (b.atR a (.code (.scope c)::k)) cs w) = .next (lone (b.atR a (.code c:: .inScope c::k)) cs w):=
 step_lone_go (by simp [stepG,stepG.exec,Frame.atR])
theorem uij {b:Frame} {c:Code} {k:List Item} {cs:List Frame} {w:World}:step P (lone (b.atR a (.inScope c::k)) cs w) = .next (lone (b.atR a k) cs w):=
 step_lone_go (by simp [stepG,stepG.exec,Frame.atR])
theorem un9 {c:Code} {w:World}(h:c.wpIn F n P (Exit.noGoto Q) a w):(Code.scope c).wpIn F n P Q a w:=by
 intro b k cs hro hb hr
 have h0:(lone (b.atR a (.code (.scope c)::k)) cs w).fenced P F:=fenced_calm hb hr rfl
 obtain⟨e,a₁,w₁,hq,harr⟩:=h b (.inScope c::k) cs hro hb hr
 cases e with
 |normal=>exact⟨.normal,a₁,w₁,hq,.head h0 uc9 (StepsIn.trans harr (.one (fenced_calm hb hr rfl) uij))⟩
 | exit id=>
  have hx:exitTo id (.inScope c::k)=exitTo id k:=by simp [exitTo]
  exact⟨_,a₁,w₁,hq,fun k' hk=>.head h0 uc9 (harr.1 k' (by rw [hx];exact hk)),fun hr' hk=>let ⟨k₁,h1,h2⟩:=harr.2 hr' (by rw [hx];exact hk);⟨k₁,h1,.head h0 uc9 h2⟩⟩
 |goto l=>exact hq.elim
 |ret=>exact⟨_,a₁,w₁,hq,.of_steps (.one h0 uc9) harr⟩
 |panic ch=>exact⟨_,a₁,w₁,hq,.of_steps (.one h0 uc9) harr⟩
 |outgrown=>exact⟨_,a₁,w₁,hq,.of_steps (.one h0 uc9) harr⟩
theorem ujS {c:Code}(hc:uha F n P T W0 B0 R0 N N0 sc kp c) {Qs:Exit→LS→Prop}(hE:uyh F.round W0 B0 R0 N N0 Qs Q):
 ∀(k:Nat) (s:LS) D μ ν a W,uoY (vcC T P sc kp c) k s Qs→s.Fresh→Sat W0 B0 R0 N D s.fs μ ν a W→ujd F.round N0 D W→Code.roundsIn F n P c Q k a W:=by
 intro k
 induction k with
 |zero=>intro s D μ ν a W h;exact h.elim
 | succ k ih=>
  intro s D μ ν a W h hf hS hD
  rw [roundsIn_succ]
  refine hc s _ _ D μ ν a W h hf hS hD ?_
  intro D' e s' μ' ν' a' W' hq hf' hS' hD'
  cases e with
  |normal=>exact ih s' D' μ' ν' a' W' hq hf' hS' hD'
  |_=>exact hE D' _ s' μ' ν' a' W' hq hf' hS' hD'
theorem uny {c:Code}(hc:uha F n P T W0 B0 R0 N N0 sc kp c)(hR:∀id,(R0 id).isSome=true→id∈kp) {Qs:Exit→LS→Prop}(hE:uyh F.round W0 B0 R0 N N0 Qs Q) {σ:Type} {I:σ→LS} {m:σ→Nat}
 (hI :∀x,vcC T P sc kp c (I x) (fun e s'=>match e with
     | .normal=>∃y,m y<m x∧Ent kp s' (I y)
     |e=>Qs e s')):
 ∀(k:Nat) (x:σ) D μ ν a W,m x<k→(I x).Fresh→Sat W0 B0 R0 N D (I x).fs μ ν a W→ujd F.round N0 D W→Code.roundsIn F n P c Q k a W:=by
 intro k
 induction k with
 |zero=>intro x D μ ν a W h;omega
 | succ k ih=>
  intro x D μ ν a W h hf hS hD
  rw [roundsIn_succ]
  refine hc (I x) _ _ D μ ν a W (hI x) hf hS hD ?_
  intro D' e s' μ' ν' a' W' hq hf' hS' hD'
  cases e with
  | normal=>
   obtain⟨y,hy,hent⟩:=hq
   obtain⟨hS2,hf2⟩:=ueH hent hR hS'
   exact ih y D' μ' ν' a' W' (by omega) hf2 hS2 hD'
  |_=>exact hE D' _ s' μ' ν' a' W' hq hf' hS' hD'
theorem uoh (hT:ucj P T)(hmix:P.follows .mixedOrders=true):∀(c:Code),uaV N sc c=true→upq P T N sc c:=by
 intro c
 induction c with
 | skip=>
  intro _ F n W0 B0 R0 N0 kp hF hN hR s Qs Q D μ ν a W h hf hS hD hE
  exact wpIn_skip (hE D .normal s μ ν a W h hf hS hD)
 | region id ops draw=>
  intro hok F n W0 B0 R0 N0 kp hF hN hR
  simp only [uaV]at hok
  split at hok
  ·rename_i h1
   exact ufV hR hF hT h1
  ·rename_i h1
   split at hok
   ·rename_i l hl
    exact ufT hR hF hT hmix h1 hl hok
   ·cases hok
  ·cases hok
 | seq x y ihx ihy=>
  intro hok F n W0 B0 R0 N0 kp hF hN hR s Qs Q D μ ν a W h hf hS hD hE
  simp only [uaV,Bool.and_eq_true]at hok
  refine wpIn_seq ((ihx hok.1 F n W0 B0 R0 N0 kp hF hN hR) s _ _ D μ ν a W h hf hS hD ?_)
  intro D' e s' μ' ν' a' W' hq hf' hS' hD'
  cases e with
  |normal=>exact(ihy hok.2 F n W0 B0 R0 N0 kp hF hN hR) s' Qs Q D' μ' ν' a' W' hq hf' hS' hD' hE
  |_=>exact hE D' _ s' μ' ν' a' W' hq hf' hS' hD'
 | cond c x y ihx ihy=>
  intro hok F n W0 B0 R0 N0 kp hF hN hR s Qs Q D μ ν a W h hf hS hD hE
  simp only [uaV,Bool.and_eq_true]at hok
  simp only [vcC]at h
  split at h
  ·rename_i hc
   exact wpIn_cond_true (ucm hS hc) ((ihx hok.1 F n W0 B0 R0 N0 kp hF hN hR) s Qs Q D μ ν a W h hf hS hD hE)
  ·rename_i hc
   exact wpIn_cond_false (ucm hS hc) ((ihy hok.2 F n W0 B0 R0 N0 kp hF hN hR) s Qs Q D μ ν a W h hf hS hD hE)
  ·rename_i f hc
   refine wpIn_cond_split (ucm hS hc) (fun hb=> ?_) (fun hb=> ?_)
   ·exact(ihx hok.1 F n W0 B0 R0 N0 kp hF hN hR) s Qs Q D μ ν a W (h.1 hb) hf hS hD hE
   ·exact(ihy hok.2 F n W0 B0 R0 N0 kp hF hN hR) s Qs Q D μ ν a W (h.2 hb) hf hS hD hE
  ·exact h.elim
 | block id c ih=>
  intro hok F n W0 B0 R0 N0 kp hF hN hR s Qs Q D μ ν a W h hf hS hD hE
  simp only [uaV]at hok
  refine wpIn_block ((ih hok F n W0 B0 R0 N0 kp hF hN hR) s _ _ D μ ν a W h hf hS hD ?_)
  intro D' e s' μ' ν' a' W' hq hf' hS' hD'
  cases e with
  | exit j=>
   simp only at hq
   simp only [Exit.inBlock]
   cases hb:Nat.beq j id with
   | true=>
    rw [hb]at hq
    rw [if_pos (uac hb)]
    exact hE D' .normal s' μ' ν' a' W' hq hf' hS' hD'
   | false=>
    rw [hb]at hq
    rw [if_neg (by rintro rfl;simp at hb)]
    exact hE D' _ s' μ' ν' a' W' hq hf' hS' hD'
  |_=>exact hE D' _ s' μ' ν' a' W' hq hf' hS' hD'
 | loop c ih=>
  intro hok F n W0 B0 R0 N0 kp hF hN hR s Qs Q D μ ν a W h hf hS hD hE
  simp only [uaV]at hok
  obtain⟨un,h⟩:=h
  cases un with
  |some k=>exact wpIn_loop_rounds k (ujS (ih hok F n W0 B0 R0 N0 kp hF hN hR) hE k s D μ ν a W h hf hS hD)
  | none=>
   obtain⟨seeds,σ,I,m,h0,hI⟩:=h
   cases hs:ucB seeds s with
   |none=>rw [hs]at h0;exact h0.elim
   | some s0=>
    rw [hs]at h0
    obtain⟨x,hent⟩:=h0
    obtain⟨ν',hS',hf'⟩:=ucr seeds hs hf hS
    obtain⟨hS2,hf2⟩:=ueH hent hR hS'
    exact wpIn_loop_rounds (m x+1) (uny (ih hok F n W0 B0 R0 N0 kp hF hN hR) hR hE hI (m x+1) x D μ ν' a W (by omega) hf2 hS2 hD)
 | rangeFunc g ps x y ihx ihy=>
  intro hok F n W0 B0 R0 N0 kp hF hN hR
  simp only [uaV,Bool.and_eq_true]at hok
  exact ugo hF hN hR hok.1 (ihx hok.2.1) (ihy hok.2.2)
 | exit id=>
  intro _ F n W0 B0 R0 N0 kp hF hN hR s Qs Q D μ ν a W h hf hS hD hE
  exact wpIn_exit (hE D _ s μ ν a W h hf hS hD)
 | scope c ih=>
  intro hok F n W0 B0 R0 N0 kp hF hN hR s Qs Q D μ ν a W h hf hS hD hE
  simp only [uaV]at hok
  refine un9 ((ih hok F n W0 B0 R0 N0 kp hF hN hR) s _ _ D μ ν a W h hf hS hD ?_)
  intro D' e s' μ' ν' a' W' hq hf' hS' hD'
  cases e with
  |goto l=>exact hq.elim
  |_=>exact hE D' _ s' μ' ν' a' W' hq hf' hS' hD'
 | label l=>
  intro _ F n W0 B0 R0 N0 kp hF hN hR s Qs Q D μ ν a W h hf hS hD hE
  exact wpIn_label (hE D .normal s μ ν a W h hf hS hD)
 |goto l=>intro _ F n W0 B0 R0 N0 kp hF hN hR s Qs Q D μ ν a W h;exact h.elim
 | ret=>
  intro _ F n W0 B0 R0 N0 kp hF hN hR s Qs Q D μ ν a W h hf hS hD hE
  exact wpIn_ret (hE D _ s μ ν a W h hf hS hD)
 |refuse=>intro _ F n W0 B0 R0 N0 kp hF hN hR s Qs Q D μ ν a W h;exact h.elim
end
end Go.Eng

namespace Go.Eng
open Go
section
variable {P:Program} {T:uav} {W0:World} {B0:Nat→Prop} {R0:Bor} {N:Nat} {D:List Deferred} {t t':Sta} {μ μ':Mem} {ν ν':Vl} {a a':Act} {W W':World}
variable {F:Fence} {n:Nat} {Q:Exit→Act→World→Prop} {sc:SC} {kp:List Nat}
theorem ufP {fn:Func} {tmps:Array Value} {R:Ending→World→Prop} {ro:Option Nat} {N0:Nat}:∀(D:List Deferred) (W:World),ujd ro N0 D W →
 (∀W',Alike N0 W W'→∃v,(results fn tmps).run P W' = .ok v W'∧R (.returned v) W')→LeavesInM F n P fn tmps R D .returning W:=by
 intro D
 induction D with
 |nil=>intro W _ h;exact h W (Alike.refl _ _)
 | cons d D ih=>
  intro W hD h
  obtain⟨k,e,hn,hk⟩:=hD.2.1 d (by simp)
  refine⟨by simp,.inl ⟨k,_,by rw [e],run_takeDeferred hk,?_⟩⟩
  have hal:Alike N0 W (W.putObj k (.deferred none)):=Alike.putObj hk rfl hn
  have hpw:=List.pairwise_cons.1 hD.1
  refine ih _ ⟨hpw.2,⟨fun d' hd'=> ?_,fun l0 hl=> ?_⟩⟩ fun W' hW'=>h W' (hal.trans hW')
  ·obtain⟨k',e',hn',hk'⟩:=hD.2.1 d' (List.mem_cons_of_mem _ hd')
   refine⟨k',e',hn',?_⟩
   have:k'≠k:=fun q=>hpw.1 d' hd' (by rw [e,e',q])
   rw [World.putObj_heap_other this];exact hk'
  ·obtain⟨r,hr⟩:=hD.2.2 l0 hl
   refine⟨r,?_⟩
   rw [World.putObj_heap_other (by rintro rfl;rw [hk]at hr;cases hr)];exact hr
def usT (tmps:Array Value):ResultVar→Sem Value
 | .tmp t=>pure (tmps.getD t undef)
 | .cell a t=>do loadVar t (←asAddr (tmps.getD a undef))
theorem ufk {e:TypeId} {ti:TI}(h:TyOk1 P e ti)(W:World)(b o:Nat)(cs:Array Value)(ty:TypeId)(fr:Nat×Nat)(hb:W.heap[b]? =some (.cells cs ty fr))(hl:o+ti.size≤cs.size):
 (loadVar e ⟨b,o,none⟩).run P W = .ok (ujP ti cs.toList o) W:=by
 have:=udE h W b o cs ty fr hb hl
 simpa only [Instr.loadAt,Instr.sureAddr,Sem.run_bind,Sem.run_pure,Result.andThen_ok]using this
theorem uhj (hT:ucj P T) {s:LS}(h:Sat W0 B0 R0 N D s.fs μ ν a W):∀(rl:List ResultVar) (l:List SV),utc T s rl=some l →
 ∃vs:List Value,vs.length=l.length∧Rel μ ν (.tup l) (.tuple ⟨vs⟩)∧(∀id∈SV.idsL l,(s.fs.H id).isSome=true)∧(rl.mapM (m:=Sem) (usT a.tmps)).run P W = .ok vs W:=by
 intro rl
 induction rl with
 | nil=>
  intro l hl
  simp only [utc,Option.some.injEq]at hl
  subst hl
  exact⟨[],rfl,.tnil ν,by simp [SV.idsL],by simp⟩
 | cons x rl ih=>
  intro l hl
  cases x with
  | tmp k=>
   simp only [utc]at hl
   split at hl
   ·rename_i r hr
    simp only [Option.some.injEq]at hl
    subst hl
    obtain⟨vs,h1,h2,h3,h4⟩:=ih r hr
    refine⟨a.tmps.getD k undef::vs,by simp [h1],.tcons ν _ _ _ _ (h.env k) h2,fun id hid=> ?_,?_⟩
    ·simp only [SV.idsL]at hid
     rcases List.mem_append.1 hid with q|q
     ·exact h.wf k id q
     ·exact h3 id q
    ·rw [List.mapM_cons]
     simp only [usT,Sem.run_bind,Sem.run_pure,Result.andThen_ok,h4]
   ·cases hl
  | cell k e=>
   simp only [utc]at hl
   split at hl
   ·rename_i id off ti r hk hte hr
    split at hl
    ·rename_i c e' hid
     have ht:=hT e ti hte
     have hrel:=h.env k
     rw [show s.fs.E k = .own id off from hk]at hrel
     obtain⟨b,hb,hval⟩:=ueu hrel
     obtain⟨b',cs,q1,q2,q3⟩:=h.ms.own.holds id _ hid
     have hbb:b'=b:=Option.some.inj (q1.symm.trans hb)
     subst hbb
     obtain⟨vs,h1,h2,h3,h4⟩:=ih r hr
     have hids:∀j∈SV.idsL c,(s.fs.H j).isSome=true:=fun j hj=>h.ms.wf id _ hid j hj
     have fin:∀(x:SV),off+ti.size≤cs.size→Rel μ ν x (ujP ti cs.toList off)→(∀j∈x.ids,(s.fs.H j).isSome=true)→l=x::r →
      ∃vs:List Value,vs.length=l.length∧Rel μ ν (.tup l) (.tuple ⟨vs⟩)∧(∀id∈SV.idsL l,(s.fs.H id).isSome=true)∧((ResultVar.cell k e::rl).mapM (m:=Sem) (usT a.tmps)).run P W = .ok vs W:=fun x hsz hx hxi hle=>by
      subst hle
      refine⟨ujP ti cs.toList off::vs,by simp [h1],.tcons ν _ _ _ _ hx h2,fun j hj=> ?_,?_⟩
      ·simp only [SV.idsL]at hj
       rcases List.mem_append.1 hj with q|q
       ·exact hxi j q
       ·exact h3 j q
      ·rw [List.mapM_cons]
       simp only [usT,Sem.run_bind,Sem.run_pure,Result.andThen_ok,hval,asAddr,ufk ht W b' off cs e' (0,0) q2 hsz,h4]
     split at hl
     ·rename_i hag
      split at hl
      ·rename_i x hx
       simp only [Option.some.injEq]at hl
       obtain⟨p1,p2⟩:=ubF q3 hx
       refine fin (.agg x) (by simpa using p2) ?_ (fun j hj=>hids j (uhF hx j (by simpa [SV.ids]using hj))) hl.symm
       unfold ujP
       rw [hag]
       exact p1
      ·cases hl
     ·rename_i hag
      split at hl
      ·rename_i x hx
       simp only [Option.some.injEq]at hl
       obtain⟨cv,p1,p2,p3⟩:=ugU q3 hx
       have hlt:=(List.getElem?_eq_some_iff.1 p1).1
       have hlv:ujP ti cs.toList off=cv:=by
        unfold ujP
        rw [hag]
        show cs.toList.getD off undef=cv
        rw [List.getD_eq_getElem?_getD,p1];rfl
       refine fin x (by rw [ht.one hag];simp at hlt;omega) (by rw [hlv];exact p2) (fun j hj=> ?_) hl.symm
       rcases ujA q3 hx with q|⟨v,q⟩
       ·exact hids j (q j hj)
       ·rw [Rel.no_ids q rfl]at hj;cases hj
      ·cases hl
    ·cases hl
   ·cases hl
def uvS :List Value→Value
 |[v]=>v
 |l=>.tuple ⟨l⟩
theorem uew {fn:Func} {vs:List Value}(h:(fn.results.toList.mapM (m:=Sem) (usT a.tmps)).run P W = .ok vs W):
 (results fn a.tmps).run P W = .ok (uvS vs) W:=by
 have e:(results fn a.tmps)=(do let vs ←fn.results.mapM (m:=Sem) (usT a.tmps);pure (if h:vs.size=1 then vs[0]else .tuple vs)):=by
  unfold results
  congr 1
 have hm:(fn.results.mapM (m:=Sem) (usT a.tmps)).run P W = .ok vs.toArray W:=by
  rw [Array.mapM_eq_mapM_toList]
  show Sem.run P (List.mapM (usT a.tmps) fn.results.toList >>=fun x=>pure x.toArray) W=_
  rw [Sem.run_bind,h]
  rfl
 rw [e,Sem.run_bind,hm]
 match vs with
 |[]=>rfl
 |[v]=>rfl
 | v::w::r=>
  have:¬(v::w::r).toArray.size=1:=by simp
  simp only [Result.andThen_ok,dif_neg this,Sem.run_pure,uvS]
section
variable {H:Nat→Option Blk} {kp:Nat→Bool}
theorem ucS (h:MSat W0 B0 H μ ν W)(m:Nat)(j:Nat):uaH (uiY μ ν H kp W) ν ν (uee H kp (m+1) true) j:=by
 have:=usN (kp:=kp) h (m+1) ν j
 unfold uaH at this⊢
 simp only [uee]at this⊢
 cases hb:kp j with
 |true=>exact⟨trivial,trivial⟩
 | false=>
  rw [hb]at this
  exact this
end
theorem ulP :∀(l:List SV) (n k:Nat),lk (ufS n l) (n+k)=l[k]? :=by
 intro l
 induction l with
 |nil=>intro n k;rfl
 | cons x l ih=>
  intro n k
  simp only [ufS,lk]
  cases k with
  |zero=>simp
  | succ k=>
   have:Nat.beq n (n+(k+1))=false:=by
    cases h:Nat.beq n (n+(k+1))with
    |false=>rfl
    |true=>have:=uac h;omega
   rw [this]
   have:=ih (n+1) k
   rw [show n+1+k=n+(k+1) by omega]at this
   simpa using this
theorem uwF :∀(l:List Blk) (n k:Nat),lk (hOf n l) (n+k)=l[k]? :=by
 intro l
 induction l with
 |nil=>intro n k;rfl
 | cons x l ih=>
  intro n k
  simp only [hOf,lk]
  cases k with
  |zero=>simp
  | succ k=>
   have:Nat.beq n (n+(k+1))=false:=by
    cases h:Nat.beq n (n+(k+1))with
    |false=>rfl
    |true=>have:=uac h;omega
   rw [this]
   have:=ih (n+1) k
   rw [show n+1+k=n+(k+1) by omega]at this
   simpa using this
theorem uk0 {gH:Nat→Option Blk}:∀{n:Nat} {bs:List Blk},uvZ gH n=some bs→bs.length=n∧∀j,j<n→gH j=bs[j]? :=by
 intro n
 induction n with
 |zero=>intro bs h;simp only [uvZ,Option.some.injEq]at h;subst h;exact⟨rfl,fun j h=>by omega⟩
 | succ n ih=>
  intro bs h
  simp only [uvZ]at h
  split at h
  ·rename_i l b hl hb
   simp only [Option.some.injEq]at h
   subst h
   obtain⟨h1,h2⟩:=ih hl
   refine⟨by simp [h1],fun j hj=> ?_⟩
   by_cases e:j=n
   ·subst e
    rw [hb,List.getElem?_append_right (by omega),h1];simp
   ·rw [h2 j (by omega),List.getElem?_append_left (by omega)]
  ·cases h
theorem ucL {l:List Blk} {b:Blk} {i:Nat}(hb:b∈l)(hi:i∈ua8 b):i∈ubt l:=by
 induction l with
 |nil=>cases hb
 | cons y l ih=>
  simp only [ubt]
  rcases List.mem_cons.1 hb with rfl|hb
  ·exact List.mem_append_left _ hi
  ·exact List.mem_append_right _ (ih hb)
theorem ulU {l:List SV} {x:SV} {i:Nat}(hx:x∈l)(hi:i∈x.ids):i∈SV.idsL l:=by
 induction l with
 |nil=>cases hx
 | cons y l ih=>
  simp only [SV.idsL]
  rcases List.mem_cons.1 hx with rfl|hx
  ·exact List.mem_append_left _ hi
  ·exact List.mem_append_right _ (ih hx)
theorem unY (P:Program):FenceOk Fence.wide P:=⟨fun _=>trivial,rfl,fun _ _ _ _ _ h=>callsIn_wide.2 h⟩
theorem uoG {g:Nat→Option To} {l:List SV} {vs:List Value}(h:Rel μ ν (.tup (SV.subL g l)) (.tuple ⟨vs⟩)):Rel μ ν (one (SV.subL g l)) (uvS vs):=by
 cases l with
 |nil=>cases h;exact .tnil ν
 | cons x l=>
  cases l with
  | nil=>
   simp only [SV.subL]at h⊢
   cases h with
   |tcons _ _ _ c rest h1 h2=>cases h2;exact h1
  | cons y l=>
   simp only [SV.subL]at h⊢
   cases h with
   | tcons _ _ _ c rest h1 h2=>
    cases h2 with
    |tcons _ _ _ c' rest' h3 h4=>exact .tcons ν _ _ _ _ h1 (.tcons ν _ _ _ _ h3 h4)
def uvY (bor:List Blk)(μ:Mem)(ν:Vl):Bor:=⟨fun id=>bor[id]?.map fun blk=>(blk.isRow,ν.b id,ν.r id),μ⟩
theorem Sat.place0 {B:Nat→Prop} {R0:Bor} {N:Nat} {D:List Deferred} {t:Sta} {μ:Mem} {ν:Vl} {a:Act} {W W1:World}(h:Sat W (fun b=>B b∨uaA R0.mu b) R0 N D t μ ν a W1) {id b:Nat}(hs:(t.H id).isSome=true)(hb:ν.b id=some b):W.heap.size≤b∨B b:=by
 rcases h.ms.own.place id b hs hb with q|q|q
 ·exact .inl q
 ·exact .inr q
 ·exact((q.mono h.mle.le).no (h.ms.own.out id b hs hb)).elim
theorem Sat.new0 {B:Nat→Prop} {R0:Bor} {N:Nat} {D:List Deferred} {t:Sta} {μ:Mem} {ν:Vl} {a:Act} {W W1:World}(h:Sat W (fun b=>B b∨uaA R0.mu b) R0 N D t μ ν a W1) {b:Nat} {c:Cel}(hc:μ b=some c):R0.mu b=some c∨W.heap.size≤b∨B b:=by
 rcases h.mle.new b c hc with q|q|q|⟨kt,vt,sc,nk,F,q⟩
 ·exact .inl q
 ·exact .inr (.inl q)
 ·exact .inr (.inr q)
 ·have:=h.mle.le _ _ q
  rw [hc]at this
  rw [Option.some.inj this];exact .inl q
theorem uoJ (hT:ucj P T)(hmix:P.follows .mixedOrders=true) {f:FuncId} {fn:Func} {c:Code}(hf:P.funcs[f]? =some fn)(hb:fn.body=some c)
 (hok:uaV fn.ntmps sc c=true) {args:List SV} {bor:List Blk} {E:LS→Prop} (hlen:args.length≤fn.ntmps)
 (h:subset (SV.idsL args++ubt bor) (List.range bor.length)=true∧vcC T P sc (List.range bor.length) c (unE args bor) (fun e s=>match e with
  | .normal=>E s
  | .ret=>E s
  |_=>False)) (μ:Mem) (ν:Vl) (W:World) (vs:Array Value) (hmem:uca μ W) (hown:OwnOk W.heap.size (ubr ν bor.length) μ ν (fun id=>bor[id]?) W) (hargs:Rel μ ν (.tup args) (.tuple vs))
 {R:Ending→World→Prop} (fin:∀D' s' μ1 ν1 a1 W1,E s'→s'.Fresh→Sat W (fun b=>ubr ν bor.length b∨uaA μ b) (uvY bor μ ν) fn.ntmps D' s'.fs μ1 ν1 a1 W1→∃v,(results fn a1.tmps).run P W1 = .ok v W1∧R (.returned v) W1):Calls P f vs W R:=by
 obtain⟨hwf,h⟩:=h
 have hvl:vs.size=args.length:=by
  obtain⟨cs,e,hl⟩:=ugF hargs
  injection e with e
  subst e
  exact hl
 have hids:∀id∈SV.idsL args++ubt bor,id<bor.length:=fun id hid=>List.mem_range.1 (uaB hwf id hid)
 have hH:∀id,lk (hOf 0 bor) id=bor[id]? :=fun id=>by have:=uwF bor 0 id;simpa using this
 have hE:∀k,lk (ufS 0 args) k=args[k]? :=fun k=>by have:=ulP args 0 k;simpa using this
 let R0:Bor:=uvY bor μ ν
 have hS :Sat W (fun b=>ubr ν bor.length b∨uaA μ b) R0 fn.ntmps [] (unE args bor).fs μ ν {tmps:=vs++Array.replicate (fn.ntmps-vs.size) undef,defers:=[]} W:=by
  refine⟨by simp;omega,rfl,fun k=> ?_,fun k id hid=> ?_,⟨hmem,⟨fun id blk hb=> ?_,fun id id' b hs hs'=> ?_,fun id b hs=> ?_,fun id b hs=> ?_⟩,ufZ _ _,fun i b hb id hid=> ?_⟩,MLe.refl _ _ _,fun id r b hr=> ?_,fun b hb=>.inr hb⟩
  ·show Rel μ ν (ue1 (lk (ufS 0 args) k)) _
   rw [hE]
   cases hk:args[k]? with
   |none=>exact .any _ _
   | some x=>
    have hlt:=(List.getElem?_eq_some_iff.1 hk).1
    obtain⟨cv,q1,q2⟩:=uku (cs:=vs.toList) hargs (by rw [uhe];exact hk)
    have:(vs++Array.replicate (fn.ntmps-vs.size) undef).getD k undef=cv:=by
     rw [Array.getD_eq_getD_getElem?,Array.getElem?_append_left (by omega)]
     simp only [Array.getElem?_toList]at q1
     rw [q1];rfl
    rw [this];exact q2
  ·have hid':id∈(ue1 (lk (ufS 0 args) k)).ids:=hid
   rw [hE]at hid'
   cases hk:args[k]? with
   |none=>rw [hk]at hid';simp [ue1,SV.ids]at hid'
   | some x=>
    rw [hk]at hid'
    have:=hids id (List.mem_append_left _ (ulU (List.mem_of_getElem? hk) hid'))
    show(lk (hOf 0 bor) id).isSome=true
    rw [hH,List.getElem?_eq_getElem this];rfl
  ·have hb':lk (hOf 0 bor) id=some blk:=hb
   rw [hH]at hb'
   exact hown.holds id blk hb'
  ·have e1:lk (hOf 0 bor) id=bor[id]? :=hH id
   have e2:lk (hOf 0 bor) id'=bor[id']? :=hH id'
   exact hown.inj id id' b (by rw [←e1];exact hs) (by rw [←e2];exact hs')
  ·have e1:lk (hOf 0 bor) id=bor[id]? :=hH id
   exact hown.out id b (by rw [←e1];exact hs)
  ·have e1:lk (hOf 0 bor) id=bor[id]? :=hH id
   exact fun hb=>(hown.place id b (by rw [←e1];exact hs) hb).imp (fun q=>q) .inl
  ·have hb':lk (hOf 0 bor) i=some b:=hb
   rw [hH]at hb'
   have:=hids id (List.mem_append_right _ (ucL (List.mem_of_getElem? hb') hid))
   show(lk (hOf 0 bor) id).isSome=true
   rw [hH,List.getElem?_eq_getElem this];rfl
  ·have hr:(bor[id]?.map fun blk=>(blk.isRow,ν.b id,ν.r id))=some (r,b):=hr
   cases hq:bor[id]? with
   |none=>rw [hq]at hr;cases hr
   | some blk=>
    rw [hq]at hr
    simp only [Option.map_some,Option.some.injEq,Prod.mk.injEq]at hr
    obtain⟨rfl,rfl⟩:=hr
    exact⟨blk,(hH id).trans hq,rfl,fun _=>rfl⟩
 have hFresh:(unE args bor).Fresh:=fun id hid=>by
  have hid':bor.length≤id:=hid
  show lk (hOf 0 bor) id=none
  rw [hH]
  exact List.getElem?_eq_none hid'
 have hR:∀id,(R0 id).isSome=true→id∈List.range bor.length:=fun id hs=>by
  have hs:(bor[id]?.map fun blk=>(blk.isRow,ν.b id,ν.r id)).isSome=true:=hs
  cases hq:bor[id]? with
  |none=>rw [hq]at hs;cases hs
  |some blk=>exact List.mem_range.2 (List.getElem?_eq_some_iff.1 hq).1
 refine callsIn_wide.1 (callsIn_of_wp_marks (F:=Fence.wide) (n:=0) hf hb trivial ?_)
 refine uoh hT hmix c hok Fence.wide 0 W (fun b=>ubr ν bor.length b∨uaA μ b) R0 W.heap.size _ (unY P) (Nat.le_refl _) hR (unE args bor) _ _ [] μ ν _ W h hFresh hS ⟨.nil,⟨fun d hd=>(by cases hd),fun l0 e=>(by cases e)⟩⟩ ?_
 intro D' e s' μ1 ν1 a1 W1 hq hf1 hS1 hD1
 have key:∀R,(∀W2,Alike W.heap.size W1 W2→∃v,(results fn a1.tmps).run P W2 = .ok v W2∧R (.returned v) W2)→LeavesInM Fence.wide 0 P fn a1.tmps R a1.defers .returning W1:=fun R hR=>by
  rw [hS1.defers]
  exact ufP D' W1 hD1 hR
 cases e with
 |normal=>exact key _ fun W2 hW2=>fin D' s' μ1 ν1 a1 W2 hq hf1 (hS1.alike hW2)
 |ret=>exact key _ fun W2 hW2=>fin D' s' μ1 ν1 a1 W2 hq hf1 (hS1.alike hW2)
 |_=>exact hq.elim
theorem ul6 (hT:ucj P T)(hmix:P.follows .mixedOrders=true) {f:FuncId} {fn:Func} {c:Code}(hf:P.funcs[f]? =some fn)(hb:fn.body=some c)(hent:∀args w,(callFunc f args).run P w = .ok (.enter f args) w)
 (hok:uaV fn.ntmps sc c=true) {args:List SV} {bor:List Blk} {post:SV→List Blk→Prop} (hlen:args.length≤fn.ntmps) (h:vcF T P sc fn c args bor post):ua0 P f args bor post:=by
 refine⟨hent,fun μ ν W vs hmem hown hargs=> ?_⟩
 refine uoJ hT hmix hf hb hok hlen h μ ν W vs hmem hown hargs (fun D' s' μ1 ν1 a1 W1 hq _ hS1=> ?_)
 unfold uyk at hq
 split at hq
 ·rename_i l bs0 hres hgr
  obtain⟨hbl,hget⟩:=uk0 hgr
  split at hq
  ·rename_i hnil hsub
   obtain⟨vs1,p1,p2,p3,p4⟩:=uhj hT hS1 _ _ hres
   have hgid:∀id,id<bor.length→lk s'.H id=bs0[id]? :=hget
   have hm:=hS1.ms
   have hpl:∀{id b:Nat},(lk s'.H id).isSome=true→ν1.b id=some b→W.heap.size≤b∨ubr ν bor.length b:=fun {id b} hs hb=>Sat.place0 (B:=ubr ν bor.length) (R0:=uvY bor μ ν) hS1 hs hb
   have hnw:∀{b:Nat} {c:Cel},μ1 b=some c→μ b=some c∨W.heap.size≤b∨ubr ν bor.length b:=fun {b c} hc=>Sat.new0 (B:=ubr ν bor.length) (R0:=uvY bor μ ν) hS1 hc
   have hsubv:=p2.sub (fun _ _ h=>ucd (H:=lk s'.H) (kp:=fun id=>Nat.blt id bor.length) (ν:=ν1) (W:=W1) h) (uee (lk s'.H) (fun id=>Nat.blt id bor.length) 6 true) ν1 (fun j _=>ucS hm 5 j)
   simp only [SV.sub]at hsubv
   have hone:=uoG hsubv
   have hids0:(one (SV.subL (uee (lk s'.H) (fun id=>Nat.blt id bor.length) 6 true) l)).ids=[]:=by
    generalize SV.subL (uee (lk s'.H) (fun id=>Nat.blt id bor.length) 6 true) l=l' at hnil
    match l' with
    |[]=>rfl
    |[x]=>simpa [one,SV.idsL]using hnil
    |x::y::r=>simpa [one,SV.ids]using hnil
   have hbsub:∀j,(bs0.map (Blk.sub (uee (lk s'.H) (fun id=>Nat.blt id bor.length) 6 true)))[j]? =(bs0[j]?).map (Blk.sub (uee (lk s'.H) (fun id=>Nat.blt id bor.length) 6 true)):=fun j=>by rw [List.getElem?_map]
   have hsome:∀{j:Nat},((bs0.map (Blk.sub (uee (lk s'.H) (fun id=>Nat.blt id bor.length) 6 true)))[j]?).isSome=true→j<bor.length∧(lk s'.H j).isSome=true:=fun {j} hs=>by
    rw [hbsub]at hs
    have hj:j<bor.length:=by
     rw [←hbl]
     cases hq':bs0[j]? with
     |none=>rw [hq']at hs;cases hs
     |some b=>exact(List.getElem?_eq_some_iff.1 hq').1
    refine⟨hj,?_⟩
    rw [hgid j hj]
    cases hq':bs0[j]? with
    |none=>rw [hq']at hs;cases hs
    |some b=>rfl
   have hbor:∀(j:Nat) (blk:Blk),bor[j]? =some blk→∃b,lk s'.H j=some b∧bs0[j]? =some b∧b.isRow=blk.isRow∧(blk.isRow=false→(ν1.b j,ν1.r j)=(ν.b j,ν.r j)):=fun j blk hj=>by
    have hlt:=(List.getElem?_eq_some_iff.1 hj).1
    obtain⟨b,q1,q2,q3⟩:=hS1.bor j blk.isRow (ν.b j,ν.r j) (by show bor[j]?.map _=_;rw [hj];rfl)
    have q1':lk s'.H j=some b:=q1
    exact⟨b,q1',by rw [←hgid j hlt];exact q1',q2,q3⟩
   refine⟨uvS vs1,uew p4,_,_,_,uiY μ1 ν1 (lk s'.H) (fun id=>Nat.blt id bor.length) W1,ν1,rfl,hq,hone.strip hids0,⟨by simp [hbl],fun b c hc=> ?_,fun b c hc=> ?_,fun b c hc=> ?_,⟨fun j b hb=> ?_,fun j j' b hs hs' hb hb'=> ?_,fun j b hs hb=> ?_,fun j b hs hb=> ?_⟩,?_,fun j b hb i hi=> ?_,fun j blk hj hrow=> ?_,hm.frm⟩⟩
   ·exact ucd (hS1.mle.le b c hc)
   ·rcases ucR hc with q|⟨id,q1,q2,q3,_⟩
    ·exact hnw q
    ·exact .inr (hpl q2 q3)
   ·rcases ucR hc with q|⟨id,q1,q2,q3,c',rfl,e,fr,q4⟩
    ·exact hm.mem b c q
    ·exact⟨e,fr,q4⟩
   ·rw [hbsub]at hb
    cases hq':bs0[j]? with
    |none=>rw [hq']at hb;cases hb
    | some b0=>
     rw [hq']at hb
     cases hb
     have hj:j<bor.length:=by rw [←hbl];exact(List.getElem?_eq_some_iff.1 hq').1
     exact(hm.own.holds j b0 ((hgid j hj).trans hq')).turn (fun _ _ h=>ucd h) _ ⟨rfl,rfl⟩ (fun i _=>ucS hm 5 i) (fun _ _=>rfl)
   ·obtain⟨_,h1⟩:=hsome hs
    obtain⟨_,h2⟩:=hsome hs'
    exact hm.own.inj j j' b h1 h2 hb hb'
   ·obtain⟨hj,h1⟩:=hsome hs
    cases hq':uiY μ1 ν1 (lk s'.H) (fun id=>Nat.blt id bor.length) W1 b with
    |none=>rfl
    | some c=>
     rcases ucR hq' with q|⟨id,q1,q2,q3,_⟩
     ·rw [hm.own.out j b h1 hb]at q;cases q
     ·have:=hm.own.inj j id b h1 q2 hb q3
      subst this
      have q5:Nat.blt j bor.length=true:=Nat.ble_eq_true_of_le hj
      rw [q5]at q1;cases q1
   ·obtain⟨_,h1⟩:=hsome hs
    exact hpl h1 hb
   ·apply List.ext_getElem?
    intro j
    rw [List.getElem?_map,List.getElem?_map (l:=bor),hbsub]
    cases hj:bor[j]? with
    | none=>
     have:bor.length≤j:=List.getElem?_eq_none_iff.1 hj
     rw [List.getElem?_eq_none (by omega:bs0.length≤j)];rfl
    | some blk=>
     obtain⟨b,_,q2,q3,_⟩:=hbor j blk hj
     rw [q2]
     simp [ubA,q3]
   ·exact List.mem_range.1 (uaB hsub i (ucL (List.mem_of_getElem? hb) hi))
   ·obtain⟨b,_,_,_,q4⟩:=hbor j blk hj
    exact q4 hrow
  ·exact hq.elim
 ·exact hq.elim
def un7 (n k:Nat)(id:Nat):Option To:=match Nat.beq id n with
 |true=>some (.id k)
 |false=>none
def uxu (T:uav)(fn:Func)(k n:Nat)(post:SV→List Blk→Prop)(s:LS):Prop:=
 match Nat.ble k n,utc T s fn.results.toList,uvZ (lk s.H) k,lk s.H n with
 | true,some l,some bs,some bn=>match subset (SV.idsL (SV.subL (un7 n k) (SV.subL (uee (lk s.H) (fun id=>Nat.blt id k||Nat.beq id n) 6 true) l))) (List.range (k+1)),
  subset (ubt ((bs++[bn]).map (fun b=>(b.sub (uee (lk s.H) (fun id=>Nat.blt id k||Nat.beq id n) 6 true)).sub (un7 n k)))) (List.range (k+1))with
  |true,true=>post (one (SV.subL (un7 n k) (SV.subL (uee (lk s.H) (fun id=>Nat.blt id k||Nat.beq id n) 6 true) l))) ((bs++[bn]).map (fun b=>(b.sub (uee (lk s.H) (fun id=>Nat.blt id k||Nat.beq id n) 6 true)).sub (un7 n k)))
  |_,_=>False
 |_,_,_,_=>False
theorem upE {gH:Nat→Option Blk} {kp:Nat→Bool} {m:Nat} {s:SV}:∀j∈(s.sub (uee gH kp (m+1) true)).ids,kp j=true:=by
 intro j hj
 have key:∀i:Nat,(uee gH kp (m+1) true i=none→kp i=true)∧∀x,uee gH kp (m+1) true i≠some (.id x):=fun i=>by
  simp only [uee]
  cases kp i with
  |true=>exact⟨fun _=>rfl,fun x e=>by cases e⟩
  | false=>
   refine⟨fun e=> ?_,fun x e=> ?_⟩
   ·revert e;simp only [];split<;>intro e<;>cases e
   ·revert e;simp only [];split<;>intro e<;>cases e
 rcases udn _ s j hj with⟨_,q⟩|⟨i,_,q⟩
 ·exact(key j).1 q
 ·exact absurd q ((key i).2 j)
theorem unx {gH:Nat→Option Blk} {kp:Nat→Bool} {m:Nat} {b:Blk}:∀j∈ua8 (b.sub (uee gH kp (m+1) true)),kp j=true:=by
 cases b with
 |cells l ty=>intro j hj;exact upE (s:=.agg l) j (by simpa [ua8,Blk.sub,SV.sub,SV.ids]using hj)
 |row=>intro j hj;simp [ua8,Blk.sub]at hj
 |map=>intro j hj;simp [ua8,Blk.sub]at hj
def uuo (T:uav)(fn:Func)(k:Nat)(post:SV→List Blk→Prop)(s:LS):Prop:=
 ∃ (seeds:List Seed) (n:Nat),match ucB seeds s with
  |some s0=>uxu T fn k n post s0
  |none=>False
def uzV (T:uav)(P:Program)(sc:SC)(fn:Func)(c:Code)(args:List SV)(bor:List Blk)(post:SV→List Blk→Prop):Prop:=
 subset (SV.idsL args++ubt bor) (List.range bor.length)=true∧vcC T P sc (List.range bor.length) c (unE args bor) (fun e s=>match e with
  | .normal=>uuo T fn bor.length post s
  | .ret=>uuo T fn bor.length post s
  |_=>False)
theorem ujo (hT:ucj P T)(hmix:P.follows .mixedOrders=true) {f:FuncId} {fn:Func} {c:Code}(hf:P.funcs[f]? =some fn)(hb:fn.body=some c)(hent:∀args w,(callFunc f args).run P w = .ok (.enter f args) w)
 (hok:uaV fn.ntmps sc c=true) {args:List SV} {bor:List Blk} {post:SV→List Blk→Prop} (hlen:args.length≤fn.ntmps) (h:uzV T P sc fn c args bor post):ubc P f args bor post:=by
 refine⟨hent,fun μ ν W vs hmem hown hargs=> ?_⟩
 refine uoJ (E:=fun s=>uuo T fn bor.length post s) hT hmix hf hb hok hlen h μ ν W vs hmem hown hargs (fun D' s0' μ1 ν0 a1 W1 hq hf1 hS0=> ?_)
 obtain⟨seeds,n,hq⟩:=hq
 cases hsd:ucB seeds s0' with
 |none=>rw [hsd]at hq;exact hq.elim
 |some s'=>
 rw [hsd]at hq
 simp only at hq
 obtain⟨ν1,hS1,_⟩:=ucr seeds hsd hf1 hS0
 unfold uxu at hq
 split at hq
 ·rename_i l bs0 bn hkn hres hgr hbn
  have hkn:bor.length≤n:=Nat.le_of_ble_eq_true hkn
  obtain⟨hbl,hget⟩:=uk0 hgr
  obtain⟨kp,hkp⟩:∃kp:Nat→Bool,kp=fun id=>Nat.blt id bor.length||Nat.beq id n:=⟨_,rfl⟩
  have hkt:∀id,kp id=true↔id<bor.length∨id=n:=fun id=>by
   rw [hkp]
   simp only [Bool.or_eq_true]
   constructor
   ·rintro(q|q)
    ·exact .inl (uaW q)
    ·exact .inr (uac q)
   ·rintro(q|q)
    ·exact .inl (Nat.ble_eq_true_of_le q)
    ·exact .inr (by rw [q];exact Nat.beq_refl _)
  rw [←hkp]at hq
  split at hq
  ·rename_i hnil hsub
   obtain⟨vs1,p1,p2,p3,p4⟩:=uhj hT hS1 _ _ hres
   have hm:=hS1.ms
   have hpl:∀{id b:Nat},(lk s'.H id).isSome=true→ν1.b id=some b→W.heap.size≤b∨ubr ν bor.length b:=fun {id b} hs hb=>Sat.place0 (B:=ubr ν bor.length) (R0:=uvY bor μ ν) hS1 hs hb
   have hnw:∀{b:Nat} {c:Cel},μ1 b=some c→μ b=some c∨W.heap.size≤b∨ubr ν bor.length b:=fun {b c} hc=>Sat.new0 (B:=ubr ν bor.length) (R0:=uvY bor μ ν) hS1 hc
   let ν2:Vl:=⟨fun id=>if id=bor.length then ν1.b n else ν1.b id,fun id=>if id=bor.length then ν1.r n else ν1.r id⟩
   have hν:∀id,id≠bor.length→ν2.b id=ν1.b id∧ν2.r id=ν1.r id:=fun id hid=>by simp [ν2,hid]
   have hνk:ν2.b bor.length=ν1.b n∧ν2.r bor.length=ν1.r n:=by simp [ν2]
   have hren:∀{μ':Mem} (id:Nat),kp id=true→uaH μ' ν1 ν2 (un7 n bor.length) id:=fun {μ'} id hid=>by
    unfold uaH un7
    cases hb2:Nat.beq id n with
    | true=>
     have:=uac hb2
     subst this
     exact hνk
    | false=>
     refine hν id fun e=> ?_
     rcases(hkt id).1 hid with q|q
     ·omega
     ·rw [q,Nat.beq_refl]at hb2;cases hb2
   have hsubv:=p2.sub (fun _ _ h=>ucd (H:=lk s'.H) (kp:=kp) (ν:=ν1) (W:=W1) h) (uee (lk s'.H) kp 6 true) ν1 (fun j _=>ucS hm 5 j)
   have hsubv2:=hsubv.sub (fun _ _ h=>h) (un7 n bor.length) ν2 (fun j hj=>hren j (upE j hj))
   simp only [SV.sub]at hsubv2
   have hone:=uoG hsubv2
   have hids0:∀id∈(one (SV.subL (un7 n bor.length) (SV.subL (uee (lk s'.H) kp 6 true) l))).ids,id<bor.length+1:=fun id hid=>by
    refine List.mem_range.1 (uaB hnil id ?_)
    generalize SV.subL (un7 n bor.length) (SV.subL (uee (lk s'.H) kp 6 true) l)=l' at hid
    match l' with
    |[]=>exact hid
    |[x]=>simpa [one,SV.idsL]using hid
    |x::y::r=>simpa [one,SV.ids]using hid
   obtain⟨G,hG⟩:∃G,G=uee (lk s'.H) kp 6 true:=⟨_,rfl⟩
   have hlen1:((bs0++[bn]).map (fun b=>(b.sub G).sub (un7 n bor.length))).length=bor.length+1:=by simp [hbl]
   have hj2:∀{j:Nat} {b:Blk},((bs0++[bn]).map (fun b=>(b.sub G).sub (un7 n bor.length)))[j]? =some b→∃j' b0,(j<bor.length∧j'=j∨j=bor.length∧j'=n)∧lk s'.H j'=some b0∧b=(b0.sub G).sub (un7 n bor.length)∧(bs0++[bn])[j]? =some b0∧(ν2.b j=ν1.b j'∧ν2.r j=ν1.r j'):=fun {j b} hb=>by
    rw [List.getElem?_map]at hb
    cases hq':(bs0++[bn])[j]? with
    |none=>rw [hq']at hb;cases hb
    | some b0=>
     rw [hq']at hb
     cases hb
     by_cases hj:j<bor.length
     ·refine⟨j,b0,.inl ⟨hj,rfl⟩,?_,rfl,rfl,hν j (by omega)⟩
      rw [hget j hj,←hq',List.getElem?_append_left (by omega)]
     ·have hjl:=(List.getElem?_eq_some_iff.1 hq').1
      simp [hbl]at hjl
      have hje:j=bor.length:=by omega
      subst hje
      refine⟨n,b0,.inr ⟨rfl,rfl⟩,?_,rfl,rfl,hνk⟩
      rw [List.getElem?_append_right (by omega),hbl]at hq'
      simp at hq'
      rw [←hq']
      exact hbn
   have hs2:∀{j:Nat},(((bs0++[bn]).map (fun b=>(b.sub G).sub (un7 n bor.length)))[j]?).isSome=true→∃j',(j<bor.length∧j'=j∨j=bor.length∧j'=n)∧(lk s'.H j').isSome=true∧ν2.b j=ν1.b j'∧kp j'=true:=fun {j} hs=>by
    obtain⟨b,hb⟩:=Option.isSome_iff_exists.1 hs
    obtain⟨j',b0,h1,h2,_,_,h4,_⟩:=hj2 hb
    refine⟨j',h1,ua1 h2,h4,(hkt j').2 ?_⟩
    rcases h1 with⟨q1,q2⟩|⟨q1,q2⟩
    ·exact .inl (by omega)
    ·exact .inr q2
   have hbor:∀(j:Nat) (blk:Blk),bor[j]? =some blk→∃b,lk s'.H j=some b∧bs0[j]? =some b∧b.isRow=blk.isRow∧(blk.isRow=false→(ν1.b j,ν1.r j)=(ν.b j,ν.r j)):=fun j blk hj=>by
    have hlt:=(List.getElem?_eq_some_iff.1 hj).1
    obtain⟨b,q1,q2,q3⟩:=hS1.bor j blk.isRow (ν.b j,ν.r j) (by show bor[j]?.map _=_;rw [hj];rfl)
    have q1':lk s'.H j=some b:=q1
    exact⟨b,q1',by rw [←hget j hlt];exact q1',q2,q3⟩
   rw [←hG]at hq hsub
   refine⟨uvS vs1,uew p4,_,_,_,uiY μ1 ν1 (lk s'.H) kp W1,ν2,rfl,hq,by rw [hG];exact hone,fun id hid=>by rw [hlen1];rw [hG]at hid;exact hids0 id hid,⟨by rw [hlen1];omega,fun b c hc=> ?_,fun b c hc=> ?_,fun b c hc=> ?_,⟨fun j b hb=> ?_,fun j j' b hs hs' hb hb'=> ?_,fun j b hs hb=> ?_,fun j b hs hb=> ?_⟩,?_,fun j b hb i hi=> ?_,fun j blk hj hrow=> ?_,hm.frm⟩⟩
   ·exact ucd (hS1.mle.le b c hc)
   ·rcases ucR hc with q|⟨id,q1,q2,q3,_⟩
    ·exact hnw q
    ·exact .inr (hpl q2 q3)
   ·rcases ucR hc with q|⟨id,q1,q2,q3,c',rfl,e,fr,q4⟩
    ·exact hm.mem b c q
    ·exact⟨e,fr,q4⟩
   ·obtain⟨j',b0,h1,h2,rfl,_,h4⟩:=hj2 hb
    have hh:=(hm.own.holds j' b0 h2).turn (μ':=uiY μ1 ν1 (lk s'.H) kp W1) (W':=W1) (fun _ _ h=>ucd h) G ⟨rfl,rfl⟩ (fun i _=>by rw [hG];exact ucS hm 5 i) (fun _ _=>rfl)
    exact hh.turn (fun _ _ h=>h) _ h4 (fun i hi=>hren i (by rw [hG]at hi;exact unx i hi)) (fun _ _=>rfl)
   ·obtain⟨i,q1,q2,q3,_⟩:=hs2 hs
    obtain⟨i',r1,r2,r3,_⟩:=hs2 hs'
    rw [q3]at hb
    rw [r3]at hb'
    have:=hm.own.inj i i' b q2 r2 hb hb'
    omega
   ·obtain⟨i,q1,q2,q3,q4⟩:=hs2 hs
    rw [q3]at hb
    cases hq':uiY μ1 ν1 (lk s'.H) kp W1 b with
    |none=>rfl
    | some c=>
     rcases ucR hq' with q|⟨id,r1,r2,r3,_⟩
     ·rw [hm.own.out i b q2 hb]at q;cases q
     ·have:=hm.own.inj i id b q2 r2 hb r3
      subst this
      rw [q4]at r1;cases r1
   ·obtain⟨i,q1,q2,q3,q4⟩:=hs2 hs
    rw [q3]at hb
    exact hpl q2 hb
   ·apply List.ext_getElem?
    intro j
    rw [List.getElem?_map,List.getElem?_map (l:=bor),List.getElem?_take,List.getElem?_map]
    cases hj:bor[j]? with
    | none=>
     have:bor.length≤j:=List.getElem?_eq_none_iff.1 hj
     rw [if_neg (by omega)]
    | some blk=>
     have hjl:=(List.getElem?_eq_some_iff.1 hj).1
     obtain⟨b,_,q2,q3,_⟩:=hbor j blk hj
     rw [if_pos hjl,List.getElem?_append_left (by omega),q2]
     simp [ubA,q3]
   ·rw [hlen1]
    exact List.mem_range.1 (uaB hsub i (ucL (List.mem_of_getElem? hb) hi))
   ·obtain⟨b,_,_,_,q4⟩:=hbor j blk hj
    have:=(List.getElem?_eq_some_iff.1 hj).1
    rw [(hν j (by omega)).1,(hν j (by omega)).2]
    exact q4 hrow
  ·exact hq.elim
 ·exact hq.elim
end
end Go.Eng

namespace Go.Eng
open Go
def uu6 :TypeDesc→TK
 | .int k=>.int k
 | .bool=>.bool
 | .slice e=>.sli e
 | .array n e=>.arr n e
 | .struct fs=>.str (fs.toList.map fun f=>(f.offset,f.type))
 | d=>match d.isRow with
  |false=>.one
  |true=>.arr 0 0
def umz (P:Program):TK→Bool
 | .str fs=>fs.all fun f=>match P.info? f.2 with
  |some i=> !Nat.beq i.size 0
  |none=>false
 |_=>true
def tyC (P:Program)(t:Nat)(ti:TI):Option (Nat×Nat×Option Value)×Option TK×Bool:=((P.info? t).map fun i=>(i.size,i.bytes,i.zero),(P.underlying t).map uu6,umz P ti.k)
def tyE (ti:TI):Option (Nat×Nat×Option Value)×Option TK×Bool:=(some (ti.size,ti.bytes,some (uiG ti)),some ti.k,true)
def tyB (ti:TI):Bool:=Nat.beq (zvs ti.zero).length ti.size&&(ti.isAgg||Nat.beq ti.size 1)
theorem uxb {α:Type} {l:List (Nat×α)} {t:Nat} {x:α}(h:lk l t=some x):(t,x)∈l:=by
 induction l with
 |nil=>simp [lk]at h
 | cons y l ih=>
  obtain⟨k,z⟩:=y
  simp only [lk]at h
  cases hb:Nat.beq k t with
  | true=>
   rw [hb]at h
   simp only [Option.some.injEq]at h
   have:=uac hb
   subst this;subst h;simp
  |false=>rw [hb]at h;exact List.mem_cons_of_mem _ (ih h)
theorem urn {P:Program} {t:Nat} {ti:TI}(h:tyC P t ti=tyE ti)(hb:tyB ti=true):TyOk1 P t ti:=by
 simp only [tyC,tyE,Prod.mk.injEq]at h
 obtain⟨h1,h2,h3⟩:=h
 simp only [tyB,Bool.and_eq_true,Bool.or_eq_true]at hb
 obtain⟨b1,b2⟩:=hb
 cases hi:P.info? t with
 |none=>rw [hi]at h1;cases h1
 | some i=>
  rw [hi]at h1
  simp only [Option.map_some,Option.some.injEq,Prod.mk.injEq]at h1
  obtain⟨e1,e2,e3⟩:=h1
  refine⟨⟨i,hi,e1,e2,e3⟩,uac b1,?_,fun ha=> ?_⟩
  ·cases hu:P.underlying t with
   |none=>rw [hu]at h2;cases h2
   | some d=>
    rw [hu]at h2
    simp only [Option.map_some,Option.some.injEq]at h2
    rw [←h2]
    rw [←h2]at h3
    cases d<;>simp only [uu6]<;>first|rfl|skip
    case struct fs=>
     refine⟨fs,rfl,rfl,fun f hf=> ?_⟩
     simp only [uu6,umz,List.all_eq_true,List.mem_map,forall_exists_index,and_imp,forall_apply_eq_imp_iff₂]at h3
     have:=h3 f hf
     cases hq:P.info? f.type with
     |none=>rw [hq]at this;cases this
     | some j=>
      rw [hq]at this
      refine⟨j,rfl,fun e=> ?_⟩
      simp only [e]at this
      cases this
    all_goals first|exact⟨_,rfl,rfl⟩|(simp [TypeDesc.isRow];done)|skip
  ·rcases b2 with q|q
   ·rw [ha]at q;cases q
   ·exact uac q
theorem uvK {P:Program} {l:List (Nat×TI)}(h:l.map (fun p=>tyC P p.1 p.2)=l.map (fun p=>tyE p.2))(hb:l.all (fun p=>tyB p.2)=true):ucj P (fun t=>lk l t):=by
 intro t ti hl
 have hm:=uxb hl
 refine urn ?_ ((List.all_eq_true.1 hb) _ hm)
 exact List.map_inj_left.1 h _ hm
end Go.Eng

namespace Go.Eng
open Go
structure Fit (a b:SV):Prop where
 le:Le a b
theorem Fit.refl (a:SV):Fit a a:=⟨fun _ _ _ h=>h⟩
theorem Fit.trans {a b c:SV}(h:Fit a b)(h':Fit b c):Fit a c:=⟨fun μ ν v q=>h'.le μ ν v (h.le μ ν v q)⟩
theorem qE {k:IntKind} {x y:IX}(h:x.den=y.den):Fit (.int k x) (.int k y):=⟨fun μ ν v q=>by rw [udu q,h];exact .int ν k y⟩
theorem qF {x y:BX}(h:x.den=y.den):Fit (.bool x) (.bool y):=⟨fun μ ν v q=>by rw [ubp q,h];exact .bool ν y⟩
theorem qG (a:SV):Fit a .any:=⟨fun _ ν v _=>.any ν v⟩
theorem qB :Fit (.tup []) (.tup []):=.refl _
theorem qD {a b:SV} {l m:List SV}(h:Fit a b)(h':Fit (.tup l) (.tup m)):Fit (.tup (a::l)) (.tup (b::m)):=⟨fun μ ν v q=>by
 cases q with
 |tcons _ _ _ c rest h1 h2=>exact .tcons ν _ _ c rest (h.le _ _ _ h1) (h'.le _ _ _ h2)⟩
theorem qA :Fit (.agg []) (.agg []):=.refl _
theorem qC {a b:SV} {l m:List SV}(h:Fit a b)(ha:uep a=true)(h':Fit (.agg l) (.agg m)):Fit (.agg (a::l)) (.agg (b::m)):=⟨fun μ ν v q=>by
 cases q with
 |arr=>cases ha
 |cons _ _ _ c rest h1 h2 h3=>exact .cons ν _ _ c rest (h.le _ _ _ h1) h2 (h'.le _ _ _ h3)⟩
theorem ua2 {sz:Nat} {n m:IX} {e e':IX→List SV}(hn:n.den=m.den)(he:∀ix:IX,0≤ix.den→ix.den<n.den→Fit (.agg (e ix)) (.agg (e' ix))):Fit (.sl sz n e) (.sl sz m e'):=⟨fun μ ν v q=>by
 cases q with
 |slnil _ _ _ _ ad cap h1 h2=>exact .slnil ν sz m e' ad cap (hn▸h1) h2
 |sl _ _ _ _ b o len cap c h1 h2 h3 h4 h5 h6 h7=>exact .sl ν sz m e' b o len cap c h1 (hn▸h2) h3 h4 h5 (fun ix i0 i1=>(he ix i0 (by omega)).le _ _ _ (h6 ix i0 (by omega))) h7⟩
theorem qO {sz:Nat} {m:IX} {e':IX→List SV}(hm:m.den=0):Fit (.val (.slice none 0 0)) (.sl sz m e'):=⟨fun μ ν v q=>by
 rw [(uev q).1]
 exact .slnil ν sz m e' none 0 hm (Nat.zero_le _)⟩
def uaq (p:Prop):Prop:=p
theorem ua4 {p q:Prop}(h1:uaq p)(h2:q):(∀_:Unit,p)∧q:=⟨fun _=>h1,h2⟩
theorem uox {a b:Int} {k:IntKind} {K:Int→Prop}(hb:uaq (b≠0))(hr:uaq (inR k (a.tdiv b)))(h:K (a.tdiv b)):∃q,(∀_:Unit,uuN a b q∧inR k q)∧K q:=⟨_,fun _=>⟨⟨hb,rfl⟩,hr⟩,h⟩
theorem uoF {a b:Int} {K:Int→Prop}(hb:uaq (b≠0))(h:K (a.tmod b)):∃q,(∀_:Unit,us3 a b q)∧K q:=⟨_,fun _=>⟨hb,rfl⟩,h⟩
theorem ud9 {P:Program} {f:FuncId} {args args':List SV} {K:SV→Prop} {R:SV} {NN:Prop}(hF:ua0 P f args' [] fun r _=>r=R)(ha:Fit (.tup args) (.tup args'))(h:K R):
 (∃post:SV→Prop,ua0 P f args [] (fun r _=>post r)∧∀r,post r→K r)∨NN:=
 .inl ⟨fun r=>r=R,⟨hF.1,fun μ ν W vs hm ho hr=>hF.2 μ ν W vs hm ho (ha.le _ _ _ hr)⟩,fun r hr=>by rw [hr];exact h⟩
theorem qP {P:Program} {f:FuncId} {args args':List SV} {K:SV→Prop} {R:SV} {NN:Prop}(h:K R)(hF:ua0 P f args' [] fun r _=>r=R)(ha:Fit (.tup args) (.tup args')):
 (∃post:SV→Prop,ua0 P f args [] (fun r _=>post r)∧∀r,post r→K r)∨NN:=ud9 hF ha h
theorem qS {a b:Int} {k:IntKind} {K:Int→Prop}(h:K (a.tdiv b))(hb:uaq (b≠0))(hr:uaq (inR k (a.tdiv b))):∃q,(∀_:Unit,uuN a b q∧inR k q)∧K q:=uox hb hr h
theorem qT {a b:Int} {K:Int→Prop}(h:K (a.tmod b))(hb:uaq (b≠0)):∃q,(∀_:Unit,us3 a b q)∧K q:=uoF hb h
def uxT :List Blk→List Blk→Prop
 |[],[]=>True
 |b::l,b'::l'=>BLe b b'∧uxT l l'
 |_,_=>False
structure FitS (l l':List Blk):Prop where
 h:uxT l l'
structure FitK (b b':Blk):Prop where
 h:BLe b b'
theorem qH :FitS [] []:=⟨trivial⟩
theorem qI {b b':Blk} {l l':List Blk}(h:FitK b b')(h':FitS l l'):FitS (b::l) (b'::l'):=⟨⟨h.h,h'.h⟩⟩
theorem qJ {l l':List SV} {ty:TypeId}(h:Fit (.agg l) (.agg l')):FitK (.cells l ty) (.cells l' ty):=⟨⟨rfl,h.le⟩⟩
theorem ua9 {ety sz:Nat} {n n':IX} {e e':IX→List SV}(hn:n.den=n'.den)(h:∀ix:IX,0≤ix.den→ix.den<n.den→Fit (.agg (e ix)) (.agg (e' ix))):FitK (.row ety sz n e) (.row ety sz n' e'):=⟨⟨rfl,rfl,hn,fun _ _ ix c h0 h1 q=>(h ix h0 h1).le _ _ _ (q ix rfl)⟩⟩
theorem qK' (b:Blk):BLe b b:=by
 cases b with
 |cells l ty=>exact⟨rfl,fun _ _ _ h=>h⟩
 |row ety sz n e=>exact⟨rfl,rfl,rfl,fun _ _ ix _ _ _ h=>h ix rfl⟩
 |map kt vt sc nk f=>exact⟨rfl,rfl,rfl,rfl,fun ks=>by cases f ks<;>first|trivial|exact fun _ _ _ h=>h⟩
theorem qK (b:Blk):FitK b b:=⟨qK' b⟩
theorem uxT.spec :∀{l l':List Blk},uxT l l'→l'.length=l.length∧∀(j:Nat) (b:Blk),l[j]? =some b→∃b',l'[j]? =some b'∧BLe b b':=by
 intro l
 induction l with
 | nil=>intro l' h;cases l' with
  |nil=>exact⟨rfl,fun j b h=>by simp at h⟩
  |cons=>exact h.elim
 | cons x l ih=>
  intro l' h
  cases l' with
  |nil=>exact h.elim
  | cons x' l'=>
   obtain⟨h1,h2⟩:=h
   obtain⟨q1,q2⟩:=ih h2
   refine⟨by simp [q1],fun j b hj=> ?_⟩
   cases j with
   |zero=>simp only [List.getElem?_cons_zero,Option.some.injEq]at hj;subst hj;exact⟨x',by simp,h1⟩
   |succ j=>simpa using q2 j b (by simpa using hj)
theorem ua0.preB {P:Program} {f:FuncId} {args args':List SV} {bl bl':List Blk} {post:SV→List Blk→Prop}(h:ua0 P f args' bl' post)(ha:Fit (.tup args) (.tup args'))(hb:FitS bl bl'):ua0 P f args bl post:=by
 obtain⟨hl,hb⟩:=hb.h.spec
 have hback:∀j b',bl'[j]? =some b'→∃b,bl[j]? =some b∧BLe b b':=fun j b' hj=>by
  have hlt:j<bl.length:=by have:=(List.getElem?_eq_some_iff.1 hj).1;omega
  obtain⟨b2,q1,q2⟩:=hb j _ (List.getElem?_eq_getElem hlt)
  rw [hj]at q1
  exact⟨_,List.getElem?_eq_getElem hlt,by rw [Option.some.inj q1];exact q2⟩
 have hkind:bl'.map Blk.isRow=bl.map Blk.isRow:=by
  apply List.ext_getElem?
  intro j
  rw [List.getElem?_map,List.getElem?_map]
  cases hj:bl[j]? with
  |none=>rw [List.getElem?_eq_none (by have:=List.getElem?_eq_none_iff.1 hj;omega)]
  | some b=>
   obtain⟨b',q1,q2⟩:=hb j b hj
   rw [q1]
   simp [q2.isRow]
 refine⟨h.1,fun μ ν W vs hm ho hr=> ?_⟩
 have hso:∀id,(bl'[id]?).isSome=true→(bl[id]?).isSome=true:=fun id hs=>by
  obtain⟨b',hb'⟩:=Option.isSome_iff_exists.1 hs
  obtain⟨b,q,_⟩:=hback id b' hb'
  exact ua1 q
 refine(h.2 μ ν W vs hm ⟨fun id b' hb'=> ?_,fun id id' b hs hs'=>ho.inj id id' b (hso id hs) (hso id' hs'),fun id b hs=>ho.out id b (hso id hs),fun id b hs hbb=>by rw [hl];exact ho.place id b (hso id hs) hbb⟩ (ha.le _ _ _ hr)).mono ?_
 ·obtain⟨b,q1,q2⟩:=hback id b' hb'
  exact q2.holds (ho.holds id b q1)
 ·rintro e W' ⟨v,r,bs,μ',ν',he,hp,hrel,hA⟩
  refine⟨v,r,bs,μ',ν',he,hp,hrel,⟨hA.len.trans hl,hA.le,by rw [←hl];exact hA.new,hA.mem,by rw [←hl];exact hA.own,hA.kind.trans hkind,by rw [←hl];exact hA.wf,fun id blk hb' hrow=> ?_,by rw [←hl];exact hA.frm⟩⟩
  obtain⟨b',q1,q2⟩:=hb id blk hb'
  exact hA.same id b' q1 (by rw [q2.isRow];exact hrow)
theorem qR {P:Program} {f:FuncId} {args args':List SV} {K:SV→Prop} {R:SV}(h:K R)(hF:ua0 P f args' [] fun r _=>r=R)(hp:ubf R=true)(ha:Fit (.tup args) (.tup args')):
 ∃post:SV→Prop,ua0 P f args [] (fun r _=>post r)∧∀r,post r→(∀_:Unit,ubQ r)∧K r:=
 ⟨fun r=>r=R,⟨hF.1,fun μ ν W vs hm ho hr=>hF.2 μ ν W vs hm ho (ha.le _ _ _ hr)⟩,fun r hr=>by rw [hr];exact⟨fun _=>uot hp,h⟩⟩
theorem upS {P:Program} {f:FuncId} {args args':List SV} {K:SV→Prop} {R:SV}(h:K R)(hF:ua0 P f args' [] fun r _=>r=R)(hp:ubQ R)(ha:Fit (.tup args) (.tup args')):
 ∃post:SV→Prop,ua0 P f args [] (fun r _=>post r)∧∀r,post r→(∀_:Unit,ubQ r)∧K r:=
 ⟨fun r=>r=R,⟨hF.1,fun μ ν W vs hm ho hr=>hF.2 μ ν W vs hm ho (ha.le _ _ _ hr)⟩,fun r hr=>by rw [hr];exact⟨fun _=>hp,h⟩⟩
theorem ua0.toN {P:Program} {f:FuncId} {args:List SV} {bl:List Blk} {post:SV→List Blk→Prop}(h:ua0 P f args bl post):ubc P f args bl fun r bs=>post r bs∧bs.length=bl.length:=
 ⟨h.1,fun μ ν W vs hm ho hr=>(h.2 μ ν W vs hm ho hr).mono fun e W' ⟨v,r,bs,μ',ν',he,hp,hrel,hA⟩=>⟨v,r,bs,μ',ν',he,⟨hp,hA.len⟩,hrel.closed rfl ν',fun id hid=>(by rw [Rel.no_ids hrel rfl]at hid;cases hid),hA.toN⟩⟩
theorem qQ {P:Program} {f:FuncId} {args args':List SV} {bl bl':List Blk} {X:List Blk→Prop} {n:Nat} {K:SV→List Blk→Prop} {R:SV} {B:List Blk}(h:K R B)(hF:ua0 P f args' bl' fun r bs=>r=R∧bs=B)(ha:Fit (.tup args) (.tup args'))(hb:FitS bl bl')(hl:Nat.ble bl.length n=true:=by rfl):
 ∃post:SV→List Blk→Prop,ubc P f args bl post∧∀r bs,post r bs→(∀_:Unit,X bs)→(∀_:Unit,bs.length≤n)∧K r bs:=
 ⟨fun r bs=>(r=R∧bs=B)∧bs.length=bl.length,(hF.preB ha hb).toN,fun r bs ⟨⟨h1,h2⟩,h3⟩ _=>⟨fun _=>by rw [h3];exact Nat.le_of_ble_eq_true hl,by rw [h1,h2];exact h⟩⟩
theorem ubc.preB {P:Program} {f:FuncId} {args args':List SV} {bl bl':List Blk} {post:SV→List Blk→Prop}(h:ubc P f args' bl' post)(ha:Fit (.tup args) (.tup args'))(hb:FitS bl bl'):ubc P f args bl post:=by
 obtain⟨hl,hb⟩:=hb.h.spec
 have hback:∀j b',bl'[j]? =some b'→∃b,bl[j]? =some b∧BLe b b':=fun j b' hj=>by
  have hlt:j<bl.length:=by have:=(List.getElem?_eq_some_iff.1 hj).1;omega
  obtain⟨b2,q1,q2⟩:=hb j _ (List.getElem?_eq_getElem hlt)
  rw [hj]at q1
  exact⟨_,List.getElem?_eq_getElem hlt,by rw [Option.some.inj q1];exact q2⟩
 have hkind:bl'.map Blk.isRow=bl.map Blk.isRow:=by
  apply List.ext_getElem?
  intro j
  rw [List.getElem?_map,List.getElem?_map]
  cases hj:bl[j]? with
  |none=>rw [List.getElem?_eq_none (by have:=List.getElem?_eq_none_iff.1 hj;omega)]
  | some b=>
   obtain⟨b',q1,q2⟩:=hb j b hj
   rw [q1]
   simp [q2.isRow]
 have hso:∀id,(bl'[id]?).isSome=true→(bl[id]?).isSome=true:=fun id hs=>by
  obtain⟨b',hb'⟩:=Option.isSome_iff_exists.1 hs
  obtain⟨b,q,_⟩:=hback id b' hb'
  exact ua1 q
 refine⟨h.1,fun μ ν W vs hm ho hr=> ?_⟩
 refine(h.2 μ ν W vs hm ⟨fun id b' hb'=> ?_,fun id id' b hs hs'=>ho.inj id id' b (hso id hs) (hso id' hs'),fun id b hs=>ho.out id b (hso id hs),fun id b hs hbb=>by rw [hl];exact ho.place id b (hso id hs) hbb⟩ (ha.le _ _ _ hr)).mono ?_
 ·obtain⟨b,q1,q2⟩:=hback id b' hb'
  exact q2.holds (ho.holds id b q1)
 ·rintro e W' ⟨v,r,bs,μ',ν',he,hp,hrel,hri,hA⟩
  refine⟨v,r,bs,μ',ν',he,hp,hrel,hri,⟨hl▸hA.len,hA.le,by rw [←hl];exact hA.new,hA.mem,by rw [←hl];exact hA.own,by rw [←hl];exact hA.kind.trans hkind,hA.wf,fun id blk hb' hrow=> ?_,by rw [←hl];exact hA.frm⟩⟩
  obtain⟨b',q1,q2⟩:=hb id blk hb'
  exact hA.same id b' q1 (by rw [q2.isRow];exact hrow)
theorem qU {P:Program} {f:FuncId} {args args':List SV} {bl bl':List Blk} {X:List Blk→Prop} {n:Nat} {K:SV→List Blk→Prop} {R:SV} {B:List Blk}(h:K R B)(hF:ubc P f args' bl' fun r bs=>r=R∧bs=B)(ha:Fit (.tup args) (.tup args'))(hb:FitS bl bl')(hl:Nat.ble B.length n=true:=by rfl):
 ∃post:SV→List Blk→Prop,ubc P f args bl post∧∀r bs,post r bs→(∀_:Unit,X bs)→(∀_:Unit,bs.length≤n)∧K r bs:=
 ⟨fun r bs=>r=R∧bs=B,hF.preB ha hb,fun r bs ⟨h1,h2⟩ _=>⟨fun _=>by rw [h2];exact Nat.le_of_ble_eq_true hl,by rw [h1,h2];exact h⟩⟩
theorem ubc.is {P:Program} {f:FuncId} {args:List SV} {bl:List Blk} {R:SV} {B:List Blk}(hR:subset R.ids (List.range B.length)=true)(hB:subset (ubt B) (List.range B.length)=true)(h:∀R' B',R'=R→B'=B→ubc P f args bl fun r bs=>Fit r R'∧FitS bs B'):ubc P f args bl fun r bs=>r=R∧bs=B:=by
 have h:=h R B rfl rfl
 refine⟨h.1,fun μ ν W vs hm ho hr=>(h.2 μ ν W vs hm ho hr).mono ?_⟩
 rintro e W' ⟨v,r,bs,μ',ν',he,⟨hf,hb⟩,hrel,hri,hA⟩
 obtain⟨hl,hb⟩:=hb.h.spec
 have hback:∀(j:Nat) (b':Blk),B[j]? =some b'→∃b,bs[j]? =some b∧BLe b b':=fun j b' hj=>by
  have hlt:j<bs.length:=by have:=(List.getElem?_eq_some_iff.1 hj).1;omega
  obtain⟨b2,q1,q2⟩:=hb j _ (List.getElem?_eq_getElem hlt)
  rw [hj]at q1
  exact⟨_,List.getElem?_eq_getElem hlt,by rw [Option.some.inj q1];exact q2⟩
 have hso:∀id,(B[id]?).isSome=true→(bs[id]?).isSome=true:=fun id hs=>by
  obtain⟨b',hb'⟩:=Option.isSome_iff_exists.1 hs
  obtain⟨b,q,_⟩:=hback id b' hb'
  exact ua1 q
 have hkind:B.map Blk.isRow=bs.map Blk.isRow:=by
  apply List.ext_getElem?
  intro j
  rw [List.getElem?_map,List.getElem?_map]
  cases hj:bs[j]? with
  |none=>rw [List.getElem?_eq_none (by have:=List.getElem?_eq_none_iff.1 hj;omega)]
  | some b=>
   obtain⟨b',q1,q2⟩:=hb j b hj
   rw [q1]
   simp [q2.isRow]
 refine⟨v,R,B,μ',ν',he,⟨rfl,rfl⟩,hf.le _ _ _ hrel,fun id hid=>List.mem_range.1 (uaB hR id hid),⟨hl▸hA.len,hA.le,hA.new,hA.mem,⟨fun id b' hb'=> ?_,fun id id' b hs hs'=>hA.own.inj id id' b (hso id hs) (hso id' hs'),fun id b hs=>hA.own.out id b (hso id hs),fun id b hs=>hA.own.place id b (hso id hs)⟩,
  by rw [List.map_take,hkind,←List.map_take];exact hA.kind,fun j blk hj i hi=> ?_,hA.same,hA.frm⟩⟩
 ·obtain⟨b,q1,q2⟩:=hback id b' hb'
  exact q2.holds (hA.own.holds id b q1)
 ·exact List.mem_range.1 (uaB hB i (ucL (List.mem_of_getElem? hj) hi))
theorem ua0.isB {P:Program} {f:FuncId} {args:List SV} {bl:List Blk} {R:SV} {B:List Blk}(hB:subset (ubt B) (List.range bl.length)=true)(h:∀R' B',R'=R→B'=B→ua0 P f args bl fun r bs=>Fit r R'∧FitS bs B'):ua0 P f args bl fun r bs=>r=R∧bs=B:=by
 have h:=h R B rfl rfl
 refine⟨h.1,fun μ ν W vs hm ho hr=>(h.2 μ ν W vs hm ho hr).mono ?_⟩
 rintro e W' ⟨v,r,bs,μ',ν',he,⟨hf,hb⟩,hrel,hA⟩
 obtain⟨hl,hb⟩:=hb.h.spec
 have hback:∀(j:Nat) (b':Blk),B[j]? =some b'→∃b,bs[j]? =some b∧BLe b b':=fun j b' hj=>by
  have hlt:j<bs.length:=by have:=(List.getElem?_eq_some_iff.1 hj).1;omega
  obtain⟨b2,q1,q2⟩:=hb j _ (List.getElem?_eq_getElem hlt)
  rw [hj]at q1
  exact⟨_,List.getElem?_eq_getElem hlt,by rw [Option.some.inj q1];exact q2⟩
 have hso:∀id,(B[id]?).isSome=true→(bs[id]?).isSome=true:=fun id hs=>by
  obtain⟨b',hb'⟩:=Option.isSome_iff_exists.1 hs
  obtain⟨b,q,_⟩:=hback id b' hb'
  exact ua1 q
 have hkind:B.map Blk.isRow=bs.map Blk.isRow:=by
  apply List.ext_getElem?
  intro j
  rw [List.getElem?_map,List.getElem?_map]
  cases hj:bs[j]? with
  |none=>rw [List.getElem?_eq_none (by have:=List.getElem?_eq_none_iff.1 hj;omega)]
  | some b=>
   obtain⟨b',q1,q2⟩:=hb j b hj
   rw [q1]
   simp [q2.isRow]
 refine⟨v,R,B,μ',ν',he,⟨rfl,rfl⟩,hf.le _ _ _ hrel,⟨hl.trans hA.len,hA.le,hA.new,hA.mem,⟨fun id b' hb'=> ?_,fun id id' b hs hs'=>hA.own.inj id id' b (hso id hs) (hso id' hs'),fun id b hs=>hA.own.out id b (hso id hs),fun id b hs=>hA.own.place id b (hso id hs)⟩,
  hkind.trans hA.kind,fun j blk hj i hi=> ?_,hA.same,hA.frm⟩⟩
 ·obtain⟨b,q1,q2⟩:=hback id b' hb'
  exact q2.holds (hA.own.holds id b q1)
 ·exact List.mem_range.1 (uaB hB i (ucL (List.mem_of_getElem? hj) hi))
def zi (n:Nat):Int:=n
theorem uaa (n:Nat):zi n=(n:Int):=rfl
theorem qV (n:Nat): @NatCast.natCast Int instNatCastInt n=zi n:=rfl
theorem ub7 (f:Unit→Int):(IX.sym f).den=f ():=rfl
theorem den_lit (n:Int):(IX.lit n).den=n:=rfl
theorem ubk (f:Unit→Bool):(BX.sym f).den=f ():=rfl
theorem ubn (b:Bool):(BX.lit b).den=b:=rfl
theorem qN {n:Int}(h: -9223372036854775808≤n∧n≤9223372036854775807):uaq (inR .i64 n):=h
theorem qM {a b:SV}(h:Fit a b):uaq (Le a b):=h.le
theorem uct (x y:Int):uuJ x y=x+y:=rfl
theorem ucx (x y:Int):utb x y=x-y:=rfl
theorem ucw (x y:Int):uvU x y=x*y:=rfl
theorem udx (x y:Int):eqB x y=decide (x=y):=rfl
theorem udv (x y:Int):neB x y = !decide (x=y):=rfl
theorem udw (x y:Int):ltB x y=decide (x<y):=rfl
theorem udi (x y:Int):leB x y=decide (x≤y):=rfl
theorem udp (x y:Int):gtB x y=decide (y<x):=rfl
theorem udm (x y:Int):geB x y=decide (y≤x):=rfl
theorem qL {a b:Blk}(h:FitK a b):uaq (BLe a b):=h.h
theorem zA (f:Unit→Int):(IX.sym f).den=f ():=rfl
theorem zB (n:Int):(IX.lit n).den=n:=rfl
theorem zC (f:Unit→Bool):(BX.sym f).den=f ():=rfl
theorem zD (b:Bool):(BX.lit b).den=b:=rfl
theorem zE (x y:Int):uuJ x y=x+y:=rfl
theorem zF (x y:Int):utb x y=x-y:=rfl
theorem zG (x y:Int):uvU x y=x*y:=rfl
theorem zH (x y:Int):eqB x y=decide (x=y):=rfl
theorem zI (x y:Int):neB x y = !decide (x=y):=rfl
theorem zJ (x y:Int):ltB x y=decide (x<y):=rfl
theorem zK (x y:Int):leB x y=decide (x≤y):=rfl
theorem zL (x y:Int):gtB x y=decide (y<x):=rfl
theorem zM (x y:Int):geB x y=decide (y≤x):=rfl
theorem zN :(!true)=false:=rfl
theorem zO :(!false)=true:=rfl
theorem zP :(∀(p:Prop) [Decidable p],(decide p=true)=p)∧(∀(p:Prop) [Decidable p],(decide p=false)↔¬p)∧(∀b:Bool,((!b)=true)=(b=false))∧(∀b:Bool,((!b)=false)=(b=true)):=
 ⟨fun _ _=>decide_eq_true_eq,fun _ _=>decide_eq_false_iff_not,fun b=>by cases b<;>simp,fun b=>by cases b<;>simp⟩
theorem zQ (n:Nat):zi n=(n:Int):=rfl
theorem zR (n:Nat):(n:Int).toNat=n:=rfl
theorem zS (n:Nat):((n:Int)+1).toNat=n+1:=rfl
section
variable {P:Program} {f:FuncId} {args args':List SV}
theorem ua0.pre {post:SV→List Blk→Prop}(h:ua0 P f args' [] post)(ha:Fit (.tup args) (.tup args')):ua0 P f args [] post:=
 ⟨h.1,fun μ ν W vs hm ho hr=>h.2 μ ν W vs hm ho (ha.le _ _ _ hr)⟩
theorem ua0.post {bor:List Blk} {post post':SV→List Blk→Prop}(h:ua0 P f args bor post)(hp:∀r bs,post r bs→∃r',Fit r r'∧post' r' bs):ua0 P f args bor post':=
 ⟨h.1,fun μ ν W vs hm ho hr=>(h.2 μ ν W vs hm ho hr).mono fun e W' ⟨v,r,bs,μ',ν',he,hpo,hrel,hA⟩=>
  let ⟨r',hf,hp'⟩:=hp r bs hpo
  ⟨v,r',bs,μ',ν',he,hp',hf.le _ _ _ hrel,hA⟩⟩
theorem ua0.one {R:SV}(h:ua0 P f args [] fun r _=>Fit r R):ua0 P f args [] fun r _=>r=R:=h.post fun r _ hr=>⟨R,hr,rfl⟩
theorem ua0.is {R:SV}(h:∀R',R'=R→ua0 P f args [] fun r _=>Fit r R'):ua0 P f args [] fun r _=>r=R:=(h R rfl).one
theorem ua0.some {Rs:SV→Prop}(h:ua0 P f args [] fun r _=>∃R,Fit r R∧Rs R):ua0 P f args [] fun r _=>Rs r:=h.post fun r _ ⟨R,hf,hr⟩=>⟨R,hf,hr⟩
theorem qW {T:uav} {sc:SC}(hT:ucj P T)(hmix:P.follows .mixedOrders=true) {fn:Func} {c:Code}(hf:P.funcs[f]? =some fn)(hb:fn.body=some c)(hent:∀args w,(callFunc f args).run P w = .ok (.enter f args) w)
 (hok:uaV fn.ntmps sc c=true) {bor:List Blk} {post:SV→List Blk→Prop} (hlen:Nat.ble args.length fn.ntmps=true) (h:vcF T P sc fn c args bor post):ua0 P f args bor post:=
 ul6 hT hmix hf hb hent hok (Nat.le_of_ble_eq_true hlen) h
theorem uf2 {T:uav} {sc:SC}(hT:ucj P T)(hmix:P.follows .mixedOrders=true) {fn:Func} {c:Code}(hf:P.funcs[f]? =some fn)(hb:fn.body=some c)(hent:∀args w,(callFunc f args).run P w = .ok (.enter f args) w)
 (hok:uaV fn.ntmps sc c=true) {bor:List Blk} {post:SV→List Blk→Prop} (hlen:Nat.ble args.length fn.ntmps=true) (h:uzV T P sc fn c args bor post):ubc P f args bor post:=
 ujo hT hmix hf hb hent hok (Nat.le_of_ble_eq_true hlen) h
end
end Go.Eng

namespace Go.Eng
open Go
inductive Gh where
 |atg (f:Unit→Nat)
 |stop
def GEq (g g':Gh):Prop:=match g,g' with
 | .atg f,.atg f'=>f ()=f' ()
 | .stop,.stop=>True
 |_,_=>False
def un6 (ge:Nat→SV)(o:Oper):Option (Nat×List SV):=match o.op with
 | .call c=>match c.callee with
  | .value f=>match ge' f with
   | .val (.func (.yield l) ⟨[]⟩ ⟨[]⟩)=>some (l,evs ge c.args.toList)
   |_=>none
  |_=>none
 |_=>none
 where ge':Operand→SV
 | .tmp t=>ge t
 |_=>.any
def ueN :List SE→List SE×Option (SE×List SE)
 |[]=>([],none)
 | e ::l=>match Nat.beq e.k 5 with
  |true=>([],some (e,l))
  | false=>match ueN l with
   |(a,r)=>(e::a,r)
def ujh (pre:List Nat):List SE→Option Bool
 |[]=>none
 | e ::l=>match Nat.beq e.k 5 with
  | true=>match pre.all (udL e.pre)&&l.all (fun e'=>udL e'.pre e.i&&pre.all (udL e'.pre)),ujh [] l with
   |true,some b=>some b
   |true,none=>some true
   |false,_=>some false
  |false=>ujh (e.i::pre) l
section defs
variable (T:uav) (P:Program) (sc:SC) (kp:List Nat) (l:Nat) (L:Nat) (el:Nat→List SV)
def usq (o:Oper)(nid:Nat)(g:Gh)(s:LS)(K:Gh→LS→Prop):Prop:=match un6 (ubZ s) o with
 |none=>opT T P o nid (ubZ s) (lk s.H) true (fun u=>K g (ub8 s o.dst u))
 | some (l',args)=>match g,SV.idsL args with
  | .atg f,[]=>(∀_:Unit,l'=l∧f ()<L∧Le (.tup args) (.tup (el (f ())))) ∧
   K (.atg fun _=>f ()+1) ⟨udb s.env o.dst (.bool (.lit true)),s.H,s.nxt⟩∧K .stop ⟨udb s.env o.dst (.bool (.lit false)),s.H,s.nxt⟩
  |_,_=>False
def uec (ops:List Oper)(o:Oper)(nid:Nat)(g:Gh)(s:LS)(K:Gh→LS→Prop):Prop:=
 match umu ops o (ubZ s)with
 | .yes=>usq T P l L el o nid g s K
 | .no=>K g ⟨udb s.env o.dst (.tup []),s.H,s.nxt⟩
 | .ask dj f w=>
  (∀_:f ()=w,usq T P l L el o nid g ⟨udb s.env (some dj) (.bool (.lit w)),s.H,s.nxt⟩ K) ∧
  (∀_:f () = !w,K g ⟨udb (udb s.env (some dj) (.bool (.lit (!w)))) o.dst (.tup []),s.H,s.nxt⟩)
 | .bad=>False
def uy4 (ops:List Oper):List Oper→Nat→Gh→LS→(Gh→LS→Prop)→Prop
 |[],nid,g,s,K=>K g ⟨s.env,s.H,nid⟩
 |o::rest,nid,g,s,K=>uec T P l L el ops o nid g s (fun g' s'=>uy4 ops rest (nid+1) g' s' K)
def ukJ (step:Gh→LS→(Exit→Gh→LS→Prop)→Prop):Nat→Gh→LS→(Exit→Gh→LS→Prop)→Prop
 |0,_,_,_=>False
 | n+1,g,s,Q=>step g s (fun e g' s'=>match e with
  | .normal=>ukJ step n g' s' Q
  |e=>Q e g' s')
def ueB (ops:List Oper)(N:Nat):Nat→List SE→Gh→LS→(Gh→LS→Prop)→Prop
 |0,_,_,_,_=>False
 | n +1,sl,g,s,K=>match ueN sl with
  |(seg,none)=>udF T P ops N seg s (fun s'=>K g s')
  | (seg,some (y,rest))=>udF T P ops N seg s (fun s'=>match nth ops y.i with
   |some o=>uec T P l L el ops o s'.nxt g s' (fun g' s2=>ueB ops N n rest g' ⟨s2.env,s2.H,s'.nxt+1⟩ K)
   |none=>False)
def vcY :Code→Gh→LS→(Exit→Gh→LS→Prop)→Prop
 | .skip,g,s,Q=>Q .normal g s
 | .region id ops draw,g,s,Q=>match draw with
  |false=>uy4 T P l L el ops.toList ops.toList s.nxt g s (fun g' s'=>Q .normal g' s')
  | true=>match lk sc id with
   | some sl=>match ujh [] sl with
    |none=>ujg T P ops.toList ops.toList.length sl s (fun s'=>Q .normal g s')
    |some true=>ueB T P l L el ops.toList ops.toList.length (sl.length+1) (sl.map (SE.setX none none)) g s (fun g' s'=>Q .normal g' s')
    |some false=>False
   |none=>False
 | .seq a b,g,s,Q=>vcY a g s (fun e g' s'=>match e with
  | .normal=>vcY b g' s' Q
  |e=>Q e g' s')
 | .cond c a b,g,s,Q=>match ev (ubZ s) c with
  | .bool (.lit true)=>vcY a g s Q
  | .bool (.lit false)=>vcY b g s Q
  | .bool (.sym f)=>(∀_:f ()=true,vcY a g s Q)∧(∀_:f ()=false,vcY b g s Q)
  |_=>False
 | .block id c,g,s,Q=>vcY c g s (fun e g' s'=>match e with
  | .exit j=>match Nat.beq j id with
   |true=>Q .normal g' s'
   |false=>Q (.exit j) g' s'
  |e=>Q e g' s')
 | .loop c,g,s,Q=>∃un:Option Nat,match un with
  |some n=>ukJ (vcY c) n g s Q
  |none=>∃(seeds:List Seed) (σ:Type) (G:σ→Gh) (I:σ→LS) (m:σ→Nat),(match ucB seeds s with
   |some s0=>∃x,(∀_:Unit,GEq g (G x))∧Ent kp s0 (I x)
   |none=>False)∧∀x,vcY c (G x) (I x) (fun e g' s'=>match e with
   | .normal=>∃y,m y<m x∧(∀_:Unit,GEq g' (G y))∧Ent kp s' (I y)
   |e=>Q e g' s')
 | .exit id,g,s,Q=>Q (.exit id) g s
 | .ret,g,s,Q=>Q .ret g s
 | .label _,g,s,Q=>Q .normal g s
 |_,_,_,_=>False
def us5 (g:Gh):Prop:=match g with
 | .atg f=>∀_:Unit,f ()=L
 | .stop=>True
def vcI (fn:Func)(c:Code)(caps:List SV):Prop:=
 SV.idsL caps=[]∧fn.results.toList=[]∧(∀i,ubf (.tup (el i))=true)∧vcY T P sc [] l L el c (.atg fun _=>0) ⟨ufS 0 (.val (.func (.yield l) ⟨[]⟩ ⟨[]⟩)::caps),[],0⟩ (fun e g _=>match e with
  | .normal=>us5 L g
  | .ret=>us5 L g
  |_=>False)
end defs
section
variable {P:Program} {T:uav} {R0:Bor} {N:Nat} {μ μ':Mem} {ν ν':Vl} {a a':Act} {W W' W0:World} {K:Nat→Prop}
variable {F:Fence} {n:Nat} {sc:SC} {kp:List Nat} {l L:Nat} {el:Nat→List SV} {J:Nat→(Nat→Prop)→World→Prop} {Jx:(Nat→Prop)→World→Prop}
def Bas (J:Nat→(Nat→Prop)→World→Prop)(Jx:(Nat→Prop)→World→Prop)(g:Gh)(W:World)(K:Nat→Prop):Prop:=(∀b,K b→b<W.heap.size)∧match g with
 | .atg f=>J (f ()) K W
 | .stop=>Jx K W
theorem Bas.eq {g g':Gh}(h:Bas J Jx g W K)(e:GEq g g'):Bas J Jx g' W K:=by
 cases g with
 | atg f=>
  cases g' with
  | atg f'=>
   have e':f ()=f' ():=e
   refine⟨h.1,?_⟩
   show J (f' ()) K W
   rw [←e'];exact h.2
  |stop=>exact False.elim e
 | stop=>
  cases g' with
  |atg f'=>exact False.elim e
  |stop=>exact h
def ucN (K:Nat→Prop)(R0:Bor)(b:Nat):Prop:=K b∨uaA R0.mu b
def uuS (J:Nat→(Nat→Prop)→World→Prop)(Jx:(Nat→Prop)→World→Prop)(R0:Bor)(N:Nat)(Qs:Exit→Gh→LS→Prop)(Q:Exit→Act→World→Prop):Prop:=
 ∀e g s μ ν a W W0 K,Qs e g s→s.Fresh→Bas J Jx g W0 K→Sat W0 (ucN K R0) R0 N [] s.fs μ ν a W→Q e a W
def upJ (F:Fence)(n:Nat)(P:Program)(T:uav)(R0:Bor)(N:Nat)(sc:SC)(kp:List Nat)(l L:Nat)(el:Nat→List SV)(J:Nat→(Nat→Prop)→World→Prop)(Jx:(Nat→Prop)→World→Prop)(c:Code):Prop:=
 ∀g s Qs Q μ ν a W W0 K,vcY T P sc kp l L el c g s Qs→s.Fresh→Bas J Jx g W0 K→Sat W0 (ucN K R0) R0 N [] s.fs μ ν a W→uuS J Jx R0 N Qs Q→c.wpIn F n P Q a W
structure Given (F:Fence)(n:Nat)(P:Program)(l L:Nat)(el:Nat→List SV)(μ0:Mem)(J:Nat→(Nat→Prop)→World→Prop)(Jx:(Nat→Prop)→World→Prop):Prop where
 ext:∀i K W1 W2,J i K W1→Frm (fun b=>K b∨uaA μ0 b) W1 W2→uca μ0 W2→(∀b,K b→b<W1.heap.size)→J i (fun b=>K b∨(W1.heap.size≤b∧b<W2.heap.size)) W2
 extx:∀K W1 W2,Jx K W1→Frm (fun b=>K b∨uaA μ0 b) W1 W2→uca μ0 W2→(∀b,K b→b<W1.heap.size)→Jx (fun b=>K b∨(W1.heap.size≤b∧b<W2.heap.size)) W2
 plain:∀i,ubf (.tup (el i))=true
 round:∀i x K W1,i<L→Rel μ0 Vl.nil (.tup (el i)) (.tuple x)→J i K W1 →
  YieldAt F n P l x W1 fun e W2=>Kept μ0 K W1 W2∧((e = .returned (.bool true)∧J (i+1) K W2)∨(e = .returned (.bool false)∧Jx K W2))
theorem Bas.ext (hG:Given F n P l L el μ J Jx) {g:Gh}(h:Bas J Jx g W0 K)(hf:Frm (fun b=>K b∨uaA μ b) W0 W)(hm:uca μ W):Bas J Jx g W (fun b=>K b∨(W0.heap.size≤b∧b<W.heap.size)):=by
 have hs:=hf.size
 cases g with
 |atg f=>exact⟨fun b hb=>hb.elim (fun q=>by have:=h.1 b q;omega) (fun q=>q.2),hG.ext _ _ _ _ h.2 hf hm h.1⟩
 |stop=>exact⟨fun b hb=>hb.elim (fun q=>by have:=h.1 b q;omega) (fun q=>q.2),hG.extx _ _ _ h.2 hf hm h.1⟩
theorem Sat.moved {t:Sta}(h:Sat W0 (ucN K R0) R0 N [] t μ ν a W)(hk:Kept R0.mu (fun b=>K b∨(W0.heap.size≤b∧b<W.heap.size)) W W'):Sat W' (ucN (fun b=>K b∨(W0.heap.size≤b∧b<W.heap.size)) R0) R0 N [] t μ ν a W':=by
 have hown:∀id b,(t.H id).isSome=true→ν.b id=some b→(K b∨(W0.heap.size≤b∧b<W.heap.size)):=fun id b hs hb=>by
  rcases h.place0 hs hb with q|q
  ·exact .inr ⟨q,h.ms.own.lt hs hb⟩
  ·exact .inl q
 refine⟨h.size,h.defers,h.env,h.wf,⟨fun b c hb=> ?_,⟨fun id blk hb=>(h.ms.own.holds id blk hb).mono (fun _ _ h=>h) (fun _ _=>⟨rfl,rfl⟩) (fun b hb'=>hk.kept b (hown id b (ua1 hb) hb')),h.ms.own.inj,h.ms.own.out,fun id b hs hb=>.inr (.inl (hown id b hs hb))⟩,ufZ _ _,h.ms.wf⟩,
  ⟨h.mle.le,fun b c hc=> ?_⟩,h.bor,fun b hb=>.inr hb⟩
 ·have h1:=h.ms.mem b c hb
  rcases h.new0 hb with q|q|q
  ·exact hk.mem b c q
  ·exact h1.same (hk.kept b (.inr ⟨q,h1.lt⟩))
  ·exact h1.same (hk.kept b (.inl q))
 ·rcases h.new0 hc with q|q|q
  ·exact .inl q
  ·exact .inr (.inr (.inl (.inr ⟨q,h.ms.mem.lt hc⟩)))
  ·exact .inr (.inr (.inl (.inl q)))
theorem unI {B0:Nat→Prop} {t:Sta}(h:Sat W0 B0 R0 N [] t μ ν a W) {o:Oper} {l':Nat} {args:List SV}(hy:un6 t.E o=some (l',args)):
 (o.semAt F.round a.eval)=execOp a.eval o∧∃vs:List Value,Rel μ ν (.tup args) (.tuple ⟨vs⟩)∧(execOp a.eval o).run P W=(Instr.yield l' ⟨vs⟩).run P W:=by
 obtain⟨dst,op,ty,pos,aft,gd⟩:=o
 unfold un6 at hy
 simp only at hy
 split at hy
 ·rename_i c
  split at hy
  ·rename_i f hc
   split at hy
   ·rename_i l'' hf
    simp only [Option.some.injEq,Prod.mk.injEq]at hy
    obtain⟨rfl,rfl⟩:=hy
    have hev:a.eval f = .func (.yield l'') ⟨[]⟩ ⟨[]⟩:=by
     cases f with
     | tmp k=>
      simp only [un6.ge']at hf
      have:=uai h (.tmp k)
      simp only [ev]at this
      rw [hf]at this
      exact(uev this).1
     |_=>simp [un6.ge']at hf
    obtain⟨hr,_⟩:=ufu h c.args.toList
    refine⟨Oper.semAt_eq _ _ _ (fun c' e=>(by cases e)),_,hr,?_⟩
    simp only [execOp,resolve,hc,hev,Deferred.ofValue,Sem.run_bind,Sem.run_pure,Result.andThen_ok,invoke]
    congr 2
    apply Array.ext'
    simp
   ·cases hy
  ·cases hy
 ·cases hy
theorem uvM {n m:Nat}(hF:FenceOk F P) {l:Nat} {f:FuncId} {tmps:Array Value} {assign body:Code} {w:World} {R:Ending→World→Prop}(h:RoundIn F n P l f tmps assign body w R):RoundIn F m P l f tmps assign body w R:=
 ⟨h.1,fun c cs _=>h.2 c cs (by simp [Fence.room,hF.depth])⟩
section seq
variable {ops:Array Oper} {Kc:Gh→LS→Prop} {Q:Exit→Act→World→Prop}
theorem ur5 (hF:FenceOk F P)(hG:Given F n P l L el R0.mu J Jx) {K':Act→World→Prop} {t:Sta}(h:Sat W0 (ucN K R0) R0 N [] t μ ν a W) {i:Nat} {o:Oper}(ho:ops[i]? =some o)(hw:Region.wanted o (yielded ops a.tmps)=true)
 {args:List SV} (hy:un6 t.E o=some (l,args)) {f:Unit→Nat} (hb:Bas J Jx (.atg f) W0 K) (hL:f ()<L) (hle:Le (.tup args) (.tup (el (f ()))))
 (hn:∀(b:Bool) W' K1,Bas J Jx (if b then .atg fun _=>f ()+1 else .stop) W' K1→Sat W' (ucN K1 R0) R0 N [] t μ ν a W'→K' (a.put o.dst (.bool b)) W'):wpOpIn F n P ops Q i K' a W:=by
 unfold wpOpIn
 simp only [ho,hw,if_true]
 refine⟨fun f _=>hF.fn f,?_⟩
 obtain⟨hs,vs,hr,hrun⟩:=unI (F:=F) (P:=P) h hy
 rw [hs,hrun]
 have hr':Rel R0.mu Vl.nil (.tup (el (f ()))) (.tuple ⟨vs⟩):=ulX (hle _ _ _ hr) (hG.plain _)
 have hb1:=hb.ext hG h.ms.frm (fun b c hc=>h.ms.mem b c (h.mle.le b c hc))
 obtain⟨fn,tmps,assign,body,hyr,hround⟩:=hG.round (f ()) ⟨vs⟩ _ W hL hr' hb1.2
 rw [hyr,Oper.uponIn_round]
 refine⟨fun hd=>(by rw [hF.depth]at hd;cases hd),(uvM hF hround).mono ?_⟩
 rintro e W' ⟨hk,(⟨rfl,hj⟩|⟨rfl,hj⟩)⟩
 ·refine hn true W' _ ⟨fun b hb=> ?_,hj⟩ (h.moved hk)
  have:=hb1.1 b hb
  have:=hk.size
  omega
 ·refine hn false W' _ ⟨fun b hb=> ?_,hj⟩ (h.moved hk)
  have:=hb1.1 b hb
  have:=hk.size
  omega
theorem ugw (hF:FenceOk F P)(hT:ucj P T)(hG:Given F n P l L el R0.mu J Jx) {K':Act→World→Prop} {s:LS} {g:Gh}(hb:Bas J Jx g W0 K)(h:Sat W0 (ucN K R0) R0 N [] s.fs μ ν a W) {i nid:Nat} {o:Oper}(hd:∀k,o.dst=some k→k<N)(ho:ops[i]? =some o)
 (hfree:∀id,nid≤id→lk s.H id=none) (hw:Region.wanted o (yielded ops a.tmps)=true) (hst:usq T P l L el o nid g s Kc)
 (hn:∀g' s' μ' ν' v W' W0' K1,Kc g' s'→(∀id,nid+1≤id→lk s'.H id=none)→Bas J Jx g' W0' K1→Sat W0' (ucN K1 R0) R0 N [] s'.fs μ' ν' (a.put o.dst v) W'→K' (a.put o.dst v) W'):wpOpIn F n P ops Q i K' a W:=by
 unfold usq at hst
 split at hst
 ·refine ujc hF hT h ho (hfree nid (Nat.le_refl _)) hw hst fun u μ' ν' v W' hk hgood hU=> ?_
  have hS2:=ucn h hU hd
  rw [←uaE]at hS2
  refine hn g _ μ' ν' v W' W0 K hk (fun id hid=> ?_) hb hS2
  have:(s.fs.upd o.dst u).H id=none:=ued hgood (fun _ _ h=>h) (by omega) (hfree id (by omega))
  rw [←uaE]at this
  exact this
 ·rename_i l' args hy
  split at hst
  ·rename_i f hids
   obtain⟨hob,h1,h2⟩:=hst
   obtain⟨rfl,hL,hle⟩:=hob ()
   refine ur5 hF hG h ho hw hy hb hL hle fun b W' K1 hb' hS'=> ?_
   have hput:∀x:Bool,Sat W' (ucN K1 R0) R0 N [] (⟨udb s.env o.dst (.bool (.lit x)),s.H,s.nxt⟩:LS).fs μ ν (a.put o.dst (.bool x)) W':=fun x=>by
    have hU:UpdOk W' (ucN K1 R0) s.fs (ua5 (.bool (.lit x))) μ ν μ ν (.bool x) W':=uc7 hS'.ms (.bool ν (.lit x)) (by simp [SV.ids])
    have hS2:=ucn hS' hU hd
    rw [←uaE]at hS2
    exact hS2
   cases b with
   |true=>exact hn _ _ μ ν _ W' W' K1 h1 (fun id hid=>hfree id (by omega)) hb' (hput true)
   |false=>exact hn _ _ μ ν _ W' W' K1 h2 (fun id hid=>hfree id (by omega)) hb' (hput false)
  ·exact hst.elim
theorem uer (hF:FenceOk F P)(hT:ucj P T)(hG:Given F n P l L el R0.mu J Jx) {K':Act→World→Prop} {s:LS} {g:Gh}(hb:Bas J Jx g W0 K)(hS:Sat W0 (ucN K R0) R0 N [] s.fs μ ν a W) {i nid:Nat} {o:Oper}(hd:∀k,o.dst=some k→k<N)(ho:ops[i]? =some o)
 (hfree:∀id,nid≤id→lk s.H id=none) (hrun:uec T P l L el ops.toList o nid g s Kc)
 (next:∀g' s' μ' ν' v W' W0' K1,Kc g' s'→(∀id,nid+1≤id→lk s'.H id=none)→Bas J Jx g' W0' K1→Sat W0' (ucN K1 R0) R0 N [] s'.fs μ' ν' (a.put o.dst v) W'→K' (a.put o.dst v) W'):wpOpIn F n P ops Q i K' a W:=by
 simp only [uec]at hrun
 have hg:=ufw (ops:=ops) hS o
 have skip:∀(s1:LS),(∀id,nid≤id→lk s1.H id=none)→Sat W0 (ucN K R0) R0 N [] s1.fs μ ν a W→Kc g ⟨udb s1.env o.dst (.tup []),s1.H,s1.nxt⟩→K' (a.put o.dst undef) W:=fun s1 hf1 hS1 hk=>by
  have hU:UpdOk W0 (ucN K R0) s1.fs (ua5 (.tup [])) μ ν μ ν undef W:=uc7 hS1.ms ue0 (by simp [SV.ids,SV.idsL])
  have hS2:=ucn hS1 hU hd
  rw [←uaE]at hS2
  exact next g _ μ ν undef W W0 K hk (fun id hid=>hf1 id (by omega)) hb hS2
 have lit:∀dj f w,ubZ s dj = .bool (.sym f)→f ()=w→Sat W0 (ucN K R0) R0 N [] (⟨udb s.env (some dj) (.bool (.lit w)),s.H,s.nxt⟩:LS).fs μ ν a W:=fun dj f w he hf=>by
  have:=hS.put dj (x:=.bool (.lit w)) (by
   have:=hS.env dj
   rw [show s.fs.E dj = .bool (.sym f)from he]at this
   rw [ubp this]
   simp only [BX.den,hf]
   exact .bool ν (.lit w)) (by simp [SV.ids])
  have e:(⟨udb s.env (some dj) (.bool (.lit w)),s.H,s.nxt⟩:LS).fs=⟨ucg s.fs.E (some dj) (.bool (.lit w)),s.fs.H,s.fs.nxt⟩:=by
   simp only [LS.fs]
   congr 1
   exact ucA s s.env (some dj) _ _ _
  rw [e];exact this
 have hE:s.fs.E=ubZ s:=rfl
 rw [hE]at hg
 split at hrun
 ·rename_i e
  rw [e]at hg
  exact ugw hF hT hG hb hS hd ho hfree hg hrun next
 ·rename_i e
  rw [e]at hg
  exact umW hF ho hg (skip s hfree hS hrun)
 ·rename_i dj f w e
  rw [e]at hg
  by_cases hf:f ()=w
  ·have hSl:=lit dj f w hg.1 hf
   exact ugw (s:=⟨udb s.env (some dj) (.bool (.lit w)),s.H,s.nxt⟩) hF hT hG hb hSl hd ho hfree (by rw [hg.2,hf];simp) (hrun.1 hf) next
  ·have hf':f () = !w:=by cases h:f ()<;>cases w<;>simp_all
   have hSl:=lit dj f (!w) hg.1 hf'
   exact umW hF ho (by rw [hg.2,hf'];cases w<;>rfl) (skip ⟨udb s.env (some dj) (.bool (.lit (!w))),s.H,s.nxt⟩ hfree hSl (hrun.2 hf'))
 ·exact hrun.elim
theorem umT (hF:FenceOk F P)(hT:ucj P T)(hG:Given F n P l L el R0.mu J Jx)(hdst:ufs N ops.toList=true)
 (hQ:∀g' s' μ' ν' a' W' W0' K1,Kc g' s'→s'.Fresh→Bas J Jx g' W0' K1→Sat W0' (ucN K1 R0) R0 N [] s'.fs μ' ν' a' W'→Q .normal a' W'):
 ∀ (ol:List Oper) (i nid:Nat) (g:Gh) (s:LS) (μ:Mem) (ν:Vl) (a:Act) (W W0:World) (K:Nat→Prop),ops.toList.drop i=ol→(∀id,nid≤id→lk s.H id=none)→Bas J Jx g W0 K→Sat W0 (ucN K R0) R0 N [] s.fs μ ν a W→uy4 T P l L el ops.toList ol nid g s Kc →
  wpOpsIn F n P ops Q (List.range' i ol.length) a W:=by
 intro ol
 induction ol with
 | nil=>
  intro i nid g s μ ν a W W0 K _ hfree hb hS hrun
  exact hQ _ _ μ ν a W W0 K hrun (fun id hid=>hfree id hid) hb ⟨hS.size,hS.defers,hS.env,hS.wf,hS.ms,hS.mle,hS.bor,hS.mm⟩
 | cons o ol ih=>
  intro i nid g s μ ν a W W0 K hdrop hfree hb hS hrun
  have ho:ops[i]? =some o:=by
   have:=congrArg (fun l=>l[0]?) hdrop
   simpa using this
  have hdrop':ops.toList.drop (i+1)=ol:=by
   have:=congrArg (List.drop 1) hdrop
   simpa [List.drop_drop,Nat.add_comm]using this
  have hd:∀k,o.dst=some k→k<N:=udc hdst o (by
   have:=Array.mem_of_getElem? ho
   simpa using this)
  rw [List.length_cons,List.range'_succ,wpOpsIn_cons]
  simp only [uy4]at hrun
  exact uer hF hT hG hb hS hd ho hfree hrun fun g' s' μ' ν' v W' W0' K1 hk hf hb' hS'=>ih (i+1) (nid+1) g' s' μ' ν' _ W' W0' K1 hdrop' hf hb' hS' hk
theorem uet :∀{sl seg:List SE} {r:Option (SE×List SE)},ueN sl=(seg,r)→match r with
 |none=>sl=seg
 |some (y,rest)=>sl=seg++y::rest:=by
 intro sl
 induction sl with
 |nil=>intro seg r h;cases h;rfl
 | cons e sl ih=>
  intro seg r h
  simp only [ueN]at h
  split at h
  ·cases h;rfl
  ·cases hq:ueN sl with
   | mk a r'=>
    rw [hq]at h
    cases h
    have:=ih hq
    cases r' with
    |none=>simp only at this⊢;rw [this]
    |some p=>simp only at this⊢;rw [this];rfl
inductive BarOk :List SE→Prop where
 |none (sl seg:List SE):ueN sl=(seg,none)→BarOk sl
 |some (sl seg:List SE) (y:SE) (rest:List SE):ueN sl=(seg,some (y,rest))→(∀e1∈seg,e1.i∈y.pre)→(∀e∈rest,y.i∈e.pre∧∀e1∈seg,e1.i∈e.pre)→BarOk rest→BarOk sl
theorem uqx :∀(sl:List SE) (pre:List Nat),(ujh pre sl = .none∨ujh pre sl = .some true)→∃seg r,ueN sl=(seg,r)∧match r with
 | .none=>True
 | .some (y,rest)=>(∀x∈pre,x∈y.pre∧∀e∈rest,x∈e.pre)∧(∀e1∈seg,e1.i∈y.pre)∧(∀e∈rest,y.i∈e.pre∧∀e1∈seg,e1.i∈e.pre)∧(ujh [] rest = .none∨ujh [] rest = .some true):=by
 intro sl
 induction sl with
 |nil=>intro pre _;exact⟨[],.none,rfl,trivial⟩
 | cons e sl ih=>
  intro pre h
  simp only [ujh]at h
  simp only [ueN]
  split at h
  ·rename_i hk
   refine⟨[],.some (e,sl),by simp only [hk],?_⟩
   have key:(pre.all (udL e.pre)&&sl.all (fun e'=>udL e'.pre e.i&&pre.all (udL e'.pre)))=true∧(ujh [] sl = .none∨ujh [] sl = .some true):=by
    split at h
    ·rename_i h1 h2
     rcases h with h|h
     ·cases h
     ·exact⟨h1,.inr (h2.trans h)⟩
    ·rename_i h1 h2;exact⟨h1,.inl h2⟩
    ·rcases h with h|h<;>cases h
   obtain⟨h1,h2⟩:=key
   simp only [Bool.and_eq_true,List.all_eq_true]at h1
   exact⟨fun x hx=>⟨uaD.1 (h1.1 x hx),fun e' he'=>uaD.1 ((h1.2 e' he').2 x hx)⟩,fun e1 h=>(by cases h),fun e' he'=>⟨uaD.1 (h1.2 e' he').1,fun e1 h=>(by cases h)⟩,h2⟩
  ·rename_i hk
   obtain⟨seg,r,q1,q2⟩:=ih _ h
   refine⟨e::seg,r,by simp only [hk,q1],?_⟩
   cases r with
   |none=>trivial
   | some p=>
    obtain⟨y,rest⟩:=p
    obtain⟨p1,p2,p3,p4⟩:=q2
    refine⟨fun x hx=>p1 x (List.mem_cons_of_mem _ hx),fun e1 h1=> ?_,fun e' he'=>⟨(p3 e' he').1,fun e1 h1=> ?_⟩,p4⟩
    ·rcases List.mem_cons.1 h1 with rfl|h1
     ·exact(p1 _ (by simp)).1
     ·exact p2 e1 h1
    ·rcases List.mem_cons.1 h1 with rfl|h1
     ·exact(p1 _ (by simp)).2 e' he'
     ·exact(p3 e' he').2 e1 h1
theorem urd :∀(n:Nat) (sl:List SE),sl.length≤n→(ujh [] sl = .none∨ujh [] sl = .some true)→BarOk sl:=by
 intro n
 induction n with
 | zero=>
  intro sl hl _
  cases sl with
  |nil=>exact .none [] [] rfl
  |cons=>simp at hl
 | succ n ih=>
  intro sl hl h
  obtain⟨seg,r,q1,q2⟩:=uqx sl [] h
  cases r with
  |none=>exact .none sl seg q1
  | some p=>
   obtain⟨y,rest⟩:=p
   obtain⟨_,p2,p3,p4⟩:=q2
   have:=uet q1
   simp only at this
   exact .some sl seg y rest q1 p2 p3 (ih rest (by rw [this]at hl;simp at hl;omega) p4)
theorem uqt :∀(sl:List SE) (pre:List Nat),ujh pre (sl.map (SE.setX none none))=ujh pre sl:=by
 intro sl
 induction sl with
 |nil=>intro pre;rfl
 | cons e sl ih=>
  intro pre
  have hf:((fun e':SE=>udL e'.pre e.i&&pre.all (udL e'.pre))∘SE.setX none none)=fun e'=>udL e'.pre e.i&&pre.all (udL e'.pre):=by
   funext e'
   simp only [Function.comp,udj]
  simp only [List.map_cons,ujh,ih,List.all_map,ufb,ulG,udj,hf]
theorem uqC {ops:Array Oper} {sl:List SE}(hsc:ubU ops.toList sl=true):sl.length=ops.size∧∀i,i<ops.size→i∈ubv sl:=by
 have h':=hsc
 simp only [ubU,Bool.and_eq_true,List.all_eq_true]at h'
 have hlen:sl.length=ops.size:=by simpa using uac h'.1.1.1
 have hnd:=ud6 h'.1.1.2
 refine⟨hlen,fun i hi=> ?_⟩
 have hil:(ubv sl).length=ops.size:=by
  rw [←hlen]
  clear h' hsc hlen hnd
  induction sl with
  |nil=>rfl
  |cons e l ih=>simp [ubv,ih]
 refine Classical.byContradiction fun hni=> ?_
 have:=uiZ ops.size (i::ubv sl) (List.nodup_cons.2 ⟨hni,hnd⟩) (fun x hx=>by
  rcases List.mem_cons.1 hx with q|q
  ·omega
  ·obtain⟨e,he,rfl⟩:=uax.1 q
   obtain⟨o,ho,_⟩:=ubR (h'.2 e he)
   rw [uaU]at ho
   exact(Array.getElem?_eq_some_iff.1 ho).1)
 simp only [List.length_cons]at this
 omega
theorem unt (hF:FenceOk F P)(hT:ucj P T)(hG:Given F n P l L el R0.mu J Jx)(hdst:ufs N ops.toList=true) {l0:List SE}(hs:ubU ops.toList l0=true)(hx:∀e∈l0,e.x=none)
 (hQ:∀g' s' μ' ν' a' W' W0' K1,Kc g' s'→s'.Fresh→Bas J Jx g' W0' K1→Sat W0' (ucN K1 R0) R0 N [] s'.fs μ' ν' a' W'→Q .normal a' W'):
 ∀ (m:Nat) (sl:List SE) (listed:Array Bool) (g:Gh) (s:LS) (μ:Mem) (ν:Vl) (a:Act) (W W0:World) (K:Nat→Prop),BarOk sl→sl.Sublist l0→listed.size=ops.size→(∀i,listed.getD i true=false↔i∈ubv sl) →
  (∀e'∈l0,e'.i∉ubv sl→∀x∈e'.pre,x∉ubv sl)→s.Fresh→Bas J Jx g W0 K→Sat W0 (ucN K R0) R0 N [] s.fs μ ν a W→ueB T P l L el ops.toList ops.toList.length m sl g s Kc →
  wpAnyIn F n P .any ops Q sl.length listed a W:=by
 have hd':∀(j:Nat) (o:Oper) k,ops[j]? =some o→o.dst=some k→k<N:=fun j o k ho hk=>udc hdst o (by
  have:=Array.mem_of_getElem? ho
  simpa using this) k hk
 intro m
 induction m with
 |zero=>intro sl listed g s μ ν a W W0 K _ _ _ _ _ _ _ _ h;exact h.elim
 | succ m ih =>
  intro sl listed g s μ ν a W W0 K hbar hsub hsz hli hinv hf hb hS hrun
  have hfree:∀sg:List SE,uy1 s.nxt sg s.fs:=fun sg e _=>hf _ (Nat.le_add_right _ _)
  have htop:∀id,s.nxt+ops.size≤id→s.fs.H id=none:=fun id hid=>hf id (by omega)
  simp only [ueB]at hrun
  cases hbar with
  | none _ seg hsp=>
   rw [hsp]at hrun
   simp only at hrun
   have e:=uet hsp
   simp only at e
   subst e
   have hrunF:ub3 T P ops.toList s.nxt ops.size sl s.fs (fun t=>∃s',t=s'.fs∧Kc g s'):=by
    have:=uiv (T:=T) (P:=P) (ops:=ops.toList) (base:=s.nxt) (N:=ops.toList.length) (K:=fun t=>∃s',t=s'.fs∧Kc g s') (fun s' hs'=>⟨s',rfl,hs'⟩) sl s rfl hrun
    simpa using this
   refine uh8 hF hT hd' hs (fun e he x q=>by rw [hx e he]at q;cases q) ?_ sl.length sl listed s.fs μ ν a W rfl hsub hsz hli hinv (hfree sl) htop hrunF hS
   rintro t' μ' ν' a' W' ⟨s',rfl,hq⟩ hfr hS'
   exact hQ g s' μ' ν' a' W' W0 K hq (fun id hid=>hfr id hid) hb hS'
  | some _ seg y rest hsp hy hrest hbar'=>
   rw [hsp]at hrun
   simp only at hrun
   have e:=uet hsp
   simp only at e
   subst e
   have hrunF:ub3 T P ops.toList s.nxt ops.size seg s.fs (fun t=>∃s',t=s'.fs∧match nth ops.toList y.i with
    |some o=>uec T P l L el ops.toList o s'.nxt g s' (fun g' s2=>ueB T P l L el ops.toList ops.toList.length m rest g' ⟨s2.env,s2.H,s'.nxt+1⟩ Kc)
    |none=>False):=by
    have:=uiv (T:=T) (P:=P) (ops:=ops.toList) (base:=s.nxt) (N:=ops.toList.length) (K:=fun t=>∃s',t=s'.fs∧match nth ops.toList y.i with
     |some o=>uec T P l L el ops.toList o s'.nxt g s' (fun g' s2=>ueB T P l L el ops.toList ops.toList.length m rest g' ⟨s2.env,s2.H,s'.nxt+1⟩ Kc)
     |none=>False) (fun s' hs'=>⟨s',rfl,hs'⟩) seg s rfl hrun
    simpa using this
   have hs':=hs
   simp only [ubU,Bool.and_eq_true,List.all_eq_true]at hs'
   obtain⟨⟨⟨hlen,hnd⟩,hpairs⟩,hpre⟩:=hs'
   have hnd:=ud6 hnd
   have hpairs:=ueq hpairs
   have hmem:∀e∈y::rest,e∈l0:=fun e he=>hsub.subset (List.mem_append_right _ he)
   have hsubr:(y::rest).Sublist l0:=(List.sublist_append_right _ _).trans hsub
   obtain⟨o,ho,hp⟩:=ubR (hpre y (hmem y (by simp)))
   have hlt:y.i<ops.size:=by
    rw [uaU]at ho
    exact(Array.getElem?_eq_some_iff.1 ho).1
   rw [List.length_append]
   refine ujq hF hT hd' hs (fun e he x q=>by rw [hx e he]at q;cases q) (y::rest) ?_ seg.length seg listed s.fs μ ν a W rfl hsub hsz hli hinv (fun e he e1 h1=> ?_) (hfree seg) htop hrunF hS
   rotate_left
   ·rcases List.mem_cons.1 he with rfl|he
    ·exact hy e1 h1
    ·exact(hrest e he).2 e1 h1
   rintro listed2 t2 μ2 ν2 a2 W2 ⟨s2,rfl,hk⟩ hfr2 hS2 hsz2 hli2 hinv2
   rw [ho]at hk
   simp only at hk
   rw [uaU]at ho
   have hunl:∀d,d<ops.size→d∉ubv (y::rest)→listed2.getD d false=true:=fun d hd hnd=>by
    have:¬listed2.getD d true=false:=fun q=>hnd ((hli2 d).1 q)
    rw [uc3 (by omega)]at this⊢
    simpa using this
   have hpw:=(List.pairwise_cons.1 (hpairs.sublist hsubr)).1
   have hidy:∀{e:SE},e∈rest→e.i≠y.i:=fun {e} he q=>by
    have h1:(y.i::ubv rest).Nodup:=hnd.sublist (udQ hsubr)
    exact(List.nodup_cons.1 h1).1 (uax.2 ⟨e,he,q⟩)
   refine⟨fun hnil=> ?_,fun i hi=> ?_⟩
   ·have:y.i∈Region.ready .any ops listed2:=mem_ready.2 ⟨(hli2 y.i).2 (by simp [ubv]),o,ho,fun ed hed hb=>by
     rw [ud5]at hb
     have hd:=hp.deps ed.on (uen.2 ⟨ed,hed,hb,rfl⟩)
     refine hunl _ (by simpa using hd.2) fun hin=> ?_
     obtain⟨e',he',hi'⟩:=uax.1 hin
     rcases List.mem_cons.1 he' with q|q
     ·subst q;exact hp.self (by rw [hi'];exact hd.1)
     ·have hpw:=hpw e' q
      unfold uiK at hpw
      rw [hi',uaD.2 hd.1]at hpw
      cases hpw⟩
    rw [hnil]at this;cases this
   ·obtain ⟨hiun,o',ho',hall⟩:=mem_ready.1 hi
    have hin:=(hli2 i).1 hiun
    obtain⟨e,he,rfl⟩:=uax.1 hin
    have hey:e=y:=by
     rcases List.mem_cons.1 he with q|q
     ·exact q
     ·exfalso
      obtain⟨oe,hoe,hpe⟩:=ubR (hpre e (hmem e he))
      rw [uaU,ho']at hoe
      cases hoe
      have hdl:∀d∈deps o',d∉ubv (y::rest):=fun d hd hin=>by
       obtain⟨ed,hed,hb,rfl⟩:=uen.1 hd
       have h1:=hall ed hed (by rw [ud5];exact hb)
       have h2:=(hli2 ed.on).2 hin
       have h3:ed.on<listed2.size:=by have:=(hpe.deps _ hd).2;simp at this;omega
       rw [uc3 h3]at h1 h2
       rw [h1]at h2;cases h2
      have hyin:y.i∈ubv (y::rest):=by simp [ubv]
      rcases hpe.pre y.i (hrest e q).1 with r|⟨d,hd,e',he',rfl,hx'⟩
      ·exact hdl _ r hyin
      ·exact hinv2 e' he' (hdl _ hd) y.i hx' hyin
    subst hey
    rw [ho]at ho'
    cases ho'
    refine uer (Kc:=fun g' s3=>ueB T P l L el ops.toList ops.toList.length m rest g' ⟨s3.env,s3.H,s2.nxt+1⟩ Kc) (nid:=s2.nxt) hF hT hG hb hS2 (fun k hk=>hd' _ o k ho hk) ho (fun id hid=>hfr2 id hid) hk ?_
    intro g' s3 μ3 ν3 v W3 W03 K3 hk3 hf3 hb3 hS3
    have hyi:e.i<listed2.size:=by omega
    have hset:∀j,(listed2.setIfInBounds e.i true).getD j true=if j=e.i then true else listed2.getD j true:=fun j=>by
     by_cases q:j=e.i
     ·subst q;simp [Array.getD_eq_getD_getElem?,hyi]
     ·rw [if_neg q,Array.getD_eq_getD_getElem?,Array.getD_eq_getD_getElem?,Array.getElem?_setIfInBounds,if_neg (fun h=>q h.symm)]
    have hidx:∀j,j∈ubv rest↔j∈ubv (e::rest)∧j≠e.i:=fun j=>by
     simp only [ubv,List.mem_cons]
     constructor
     ·intro hj
      refine⟨.inr hj,fun q=> ?_⟩
      obtain⟨e',h1,h2⟩:=uax.1 hj
      exact hidy h1 (h2.trans q)
     ·rintro⟨q|q,h⟩
      ·exact absurd q h
      ·exact q
    refine ih rest _ g' ⟨s3.env,s3.H,s2.nxt+1⟩ μ3 ν3 _ W3 W03 K3 hbar' ((List.sublist_cons_self _ _).trans hsubr) (by simpa using hsz2) (fun j=> ?_) (fun e' he' hn x hx=> ?_) (fun id hid=>hf3 id hid) hb3 ⟨hS3.size,hS3.defers,hS3.env,hS3.wf,hS3.ms,hS3.mle,hS3.bor,hS3.mm⟩ hk3
    ·rw [hset,hidx]
     by_cases q:j=e.i
     ·simp [q]
     ·simp only [q,if_false,ne_eq,not_false_eq_true,and_true];exact hli2 j
    ·rw [hidx] at hn⊢
     rintro⟨h1,h2⟩
     by_cases q:e'.i=e.i
     ·have:e'=e:=by
       have h1':=hmem e (by simp)
       have:∀{l:List SE},(ubv l).Nodup→e'∈l→e∈l→e'=e:=by
        intro l
        induction l with
        |nil=>intro _ h;cases h
        | cons y l ih=>
         intro hnd h h'
         have hnd':=List.nodup_cons.1 (show(y.i::ubv l).Nodup from hnd)
         rcases List.mem_cons.1 h with r|r
         ·rcases List.mem_cons.1 h' with r'|r'
          ·rw [r,r']
          ·exact absurd (uax.2 ⟨e,r',by rw [←q,r]⟩) hnd'.1
         ·rcases List.mem_cons.1 h' with r'|r'
          ·exact absurd (uax.2 ⟨e',r,by rw [q,r']⟩) hnd'.1
          ·exact ih hnd'.2 r r'
       exact this hnd he' h1'
      subst this
      rcases hp.pre x hx with r|⟨d,hd,e2,he2,rfl,hx2⟩
      ·obtain⟨ed,hed,hb2,rfl⟩:=uen.1 r
       have a1:=hall ed hed (by rw [ud5];exact hb2)
       have a2:=(hli2 ed.on).2 h1
       have a3:ed.on<listed2.size:=by have:=(hp.deps _ r).2;simp at this;omega
       rw [uc3 a3]at a1 a2
       rw [a1]at a2;cases a2
      ·refine hinv2 e2 he2 (fun hin=> ?_) x hx2 h1
       obtain⟨ed,hed,hb2,hq⟩:=uen.1 hd
       have a1:=hall ed hed (by rw [ud5];exact hb2)
       have a2:=(hli2 ed.on).2 (by rw [hq];exact hin)
       have a3:ed.on<listed2.size:=by have:=(hp.deps _ hd).2;rw [←hq]at this;simp at this;omega
       rw [uc3 a3]at a1 a2
       rw [a1]at a2;cases a2
     ·exact hinv2 e' he' (fun h=>hn ⟨h,q⟩) x hx h1
end seq
variable {Q:Exit→Act→World→Prop}
theorem uiu {c:Code}(hc:upJ F n P T R0 N sc kp l L el J Jx c) {Qs:Exit→Gh→LS→Prop}(hE:uuS J Jx R0 N Qs Q):
 ∀(k:Nat) (g:Gh) (s:LS) μ ν a W W0 K,ukJ (vcY T P sc kp l L el c) k g s Qs→s.Fresh→Bas J Jx g W0 K→Sat W0 (ucN K R0) R0 N [] s.fs μ ν a W→Code.roundsIn F n P c Q k a W:=by
 intro k
 induction k with
 |zero=>intro g s μ ν a W W0 K h;exact h.elim
 | succ k ih=>
  intro g s μ ν a W W0 K h hf hb hS
  rw [roundsIn_succ]
  refine hc g s _ _ μ ν a W W0 K h hf hb hS ?_
  intro e g' s' μ' ν' a' W' W0' K1 hq hf' hb' hS'
  cases e with
  |normal=>exact ih g' s' μ' ν' a' W' W0' K1 hq hf' hb' hS'
  |_=>exact hE _ g' s' μ' ν' a' W' W0' K1 hq hf' hb' hS'
theorem ukO {c:Code}(hc:upJ F n P T R0 N sc kp l L el J Jx c)(hR:∀id,(R0 id).isSome=true→id∈kp) {Qs:Exit→Gh→LS→Prop}(hE:uuS J Jx R0 N Qs Q) {σ:Type} {G:σ→Gh} {I:σ→LS} {m:σ→Nat}
 (hI :∀x,vcY T P sc kp l L el c (G x) (I x) (fun e g' s'=>match e with
     | .normal=>∃y,m y<m x∧(∀_:Unit,GEq g' (G y))∧Ent kp s' (I y)
     |e=>Qs e g' s')):
 ∀(k:Nat) (x:σ) μ ν a W W0 K,m x<k→(I x).Fresh→Bas J Jx (G x) W0 K→Sat W0 (ucN K R0) R0 N [] (I x).fs μ ν a W→Code.roundsIn F n P c Q k a W:=by
 intro k
 induction k with
 |zero=>intro x μ ν a W W0 K h;omega
 | succ k ih=>
  intro x μ ν a W W0 K h hf hb hS
  rw [roundsIn_succ]
  refine hc (G x) (I x) _ _ μ ν a W W0 K (hI x) hf hb hS ?_
  intro e g' s' μ' ν' a' W' W0' K1 hq hf' hb' hS'
  cases e with
  | normal=>
   obtain⟨y,hy,hge,hent⟩:=hq
   obtain⟨hS2,hf2⟩:=ueH hent hR hS'
   exact ih y μ' ν' a' W' W0' K1 (by omega) hf2 (hb'.eq (hge ())) hS2
  |_=>exact hE _ g' s' μ' ν' a' W' W0' K1 hq hf' hb' hS'
theorem uo8 (hF:FenceOk F P)(hT:ucj P T)(hmix:P.follows .mixedOrders=true)(hR:∀id,(R0 id).isSome=true→id∈kp)(hG:Given F n P l L el R0.mu J Jx):
 ∀(c:Code),uaV N sc c=true→upJ F n P T R0 N sc kp l L el J Jx c:=by
 intro c
 induction c with
 | skip=>
  intro _ g s Qs Q μ ν a W W0 K h hf hb hS hE
  exact wpIn_skip (hE .normal g s μ ν a W W0 K h hf hb hS)
 | region id ops draw=>
  intro hok
  simp only [uaV]at hok
  split at hok
  ·rename_i h1
   intro g s Qs Q μ ν a W W0 K h hf hb hS hE
   simp only [vcY]at h
   refine wpIn_region ?_
   have hl:List.range ops.size=List.range' 0 ops.toList.length:=by simp [List.range_eq_range']
   rw [hl]
   exact umT hF hT hG h1 (fun g' s' μ' ν' a' W' W0' K1 hk hf' hb' hS'=>hE .normal g' s' μ' ν' a' W' W0' K1 hk hf' hb' hS') ops.toList 0 s.nxt g s μ ν a W W0 K rfl hf hb hS h
  ·rename_i h1
   split at hok
   ·rename_i sl hl
    intro g s Qs Q μ ν a W W0 K h hf hb hS hE
    simp only [vcY,hl]at h
    split at h
    ·exact ud4 (n:=n) (id:=id) hF hT hmix h1 hl hok s _ Q [] μ ν a W h hf hS fun s' μ' ν' a' W' hq hf' hS'=>hE .normal g s' μ' ν' a' W' W0 K hq hf' hb (hS.unbase hS')
    ·rename_i hbar
     refine wpIn_region_any hmix ?_
     have hbar':ujh [] (sl.map (SE.setX none none))=ujh [] sl:=uqt sl []
     have hok':ubU ops.toList (sl.map (SE.setX none none))=true:=udq hok
     obtain⟨hlen,hall⟩:=uqC hok'
     rw [←hlen]
     refine unt (Kc:=fun g' s'=>Qs .normal g' s') hF hT hG h1 hok' (fun e he=>by
      obtain⟨e',_,rfl⟩:=List.mem_map.1 he
      unfold SE.setX
      split<;>rfl) (fun g' s' μ' ν' a' W' W0' K1 hk hf' hb' hS'=>hE .normal g' s' μ' ν' a' W' W0' K1 hk hf' hb' hS') _ (sl.map (SE.setX none none)) _ g s μ ν a _ W0 K (urd _ _ (Nat.le_refl _) (by rw [hbar'];exact .inr hbar)) (List.Sublist.refl _) (by rw [hlen];simp) (fun i=> ?_) (fun e' he' hn=>absurd (uax.2 ⟨e',he',rfl⟩) hn) hf hb (hS.world rfl rfl rfl rfl) h
     constructor
     ·intro hq
      refine hall i ?_
      by_cases hi:i<ops.size
      ·exact hi
      ·rw [hlen]at hq;simp [Array.getD_eq_getD_getElem?,hi]at hq
     ·intro hi
      have hi':i<ops.size:=by
       obtain⟨e,he,rfl⟩:=uax.1 hi
       have h':=hok'
       simp only [ubU,Bool.and_eq_true,List.all_eq_true]at h'
       obtain⟨o,ho,_⟩:=ubR (h'.2 e he)
       rw [uaU]at ho
       exact(Array.getElem?_eq_some_iff.1 ho).1
      rw [hlen];simp [Array.getD_eq_getD_getElem?,hi']
    ·exact h.elim
   ·cases hok
  ·cases hok
 | seq x y ihx ihy=>
  intro hok g s Qs Q μ ν a W W0 K h hf hb hS hE
  simp only [uaV,Bool.and_eq_true]at hok
  refine wpIn_seq (ihx hok.1 g s _ _ μ ν a W W0 K h hf hb hS ?_)
  intro e g' s' μ' ν' a' W' W0' K1 hq hf' hb' hS'
  cases e with
  |normal=>exact ihy hok.2 g' s' Qs Q μ' ν' a' W' W0' K1 hq hf' hb' hS' hE
  |_=>exact hE _ g' s' μ' ν' a' W' W0' K1 hq hf' hb' hS'
 | cond c x y ihx ihy=>
  intro hok g s Qs Q μ ν a W W0 K h hf hb hS hE
  simp only [uaV,Bool.and_eq_true]at hok
  simp only [vcY]at h
  split at h
  ·rename_i hc
   exact wpIn_cond_true (ucm hS hc) (ihx hok.1 g s Qs Q μ ν a W W0 K h hf hb hS hE)
  ·rename_i hc
   exact wpIn_cond_false (ucm hS hc) (ihy hok.2 g s Qs Q μ ν a W W0 K h hf hb hS hE)
  ·rename_i f hc
   refine wpIn_cond_split (ucm hS hc) (fun hb'=> ?_) (fun hb'=> ?_)
   ·exact ihx hok.1 g s Qs Q μ ν a W W0 K (h.1 hb') hf hb hS hE
   ·exact ihy hok.2 g s Qs Q μ ν a W W0 K (h.2 hb') hf hb hS hE
  ·exact h.elim
 | block id c ih=>
  intro hok g s Qs Q μ ν a W W0 K h hf hb hS hE
  simp only [uaV]at hok
  refine wpIn_block (ih hok g s _ _ μ ν a W W0 K h hf hb hS ?_)
  intro e g' s' μ' ν' a' W' W0' K1 hq hf' hb' hS'
  cases e with
  | exit j=>
   simp only at hq
   simp only [Exit.inBlock]
   cases hbj:Nat.beq j id with
   | true=>
    rw [hbj]at hq
    rw [if_pos (uac hbj)]
    exact hE .normal g' s' μ' ν' a' W' W0' K1 hq hf' hb' hS'
   | false=>
    rw [hbj]at hq
    rw [if_neg (by rintro rfl;simp at hbj)]
    exact hE _ g' s' μ' ν' a' W' W0' K1 hq hf' hb' hS'
  |_=>exact hE _ g' s' μ' ν' a' W' W0' K1 hq hf' hb' hS'
 | loop c ih=>
  intro hok g s Qs Q μ ν a W W0 K h hf hb hS hE
  simp only [uaV]at hok
  obtain⟨un,h⟩:=h
  cases un with
  |some k=>exact wpIn_loop_rounds k (uiu (ih hok) hE k g s μ ν a W W0 K h hf hb hS)
  | none=>
   obtain⟨seeds,σ,G,I,m,h0,hI⟩:=h
   cases hs:ucB seeds s with
   |none=>rw [hs]at h0;exact h0.elim
   | some s0=>
    rw [hs]at h0
    obtain⟨x,hge,hent⟩:=h0
    obtain⟨ν',hS',hf'⟩:=ucr seeds hs hf hS
    obtain⟨hS2,hf2⟩:=ueH hent hR hS'
    exact wpIn_loop_rounds (m x+1) (ukO (ih hok) hR hE hI (m x+1) x μ ν' a W W0 K (by omega) hf2 (hb.eq (hge ())) hS2)
 |rangeFunc=>intro _ g s Qs Q μ ν a W W0 K h;exact h.elim
 | exit id=>
  intro _ g s Qs Q μ ν a W W0 K h hf hb hS hE
  exact wpIn_exit (hE _ g s μ ν a W W0 K h hf hb hS)
 |scope=>intro _ g s Qs Q μ ν a W W0 K h;exact h.elim
 | label l=>
  intro _ g s Qs Q μ ν a W W0 K h hf hb hS hE
  exact wpIn_label (hE .normal g s μ ν a W W0 K h hf hb hS)
 |goto l=>intro _ g s Qs Q μ ν a W W0 K h;exact h.elim
 | ret=>
  intro _ g s Qs Q μ ν a W W0 K h hf hb hS hE
  exact wpIn_ret (hE _ g s μ ν a W W0 K h hf hb hS)
 |refuse=>intro _ g s Qs Q μ ν a W W0 K h;exact h.elim
theorem ug9 (hT:ucj P T)(hmix:P.follows .mixedOrders=true) {f:FuncId} {fn:Func} {c:Code}(hf:P.funcs[f]? =some fn)(hbody:fn.body=some c)(hent:∀args w,(callFunc f args).run P w = .ok (.enter f args) w)
 (hok:uaV fn.ntmps sc c=true) {caps:List SV} {L:Nat} {el:Nat→List SV} (hlen:Nat.ble (caps.length+1) fn.ntmps=true) (h:∀l,vcI T P sc l L el fn c caps):ulv P f caps L el:=by
 refine⟨hent,fun F n hF hro μ W cs hmem hcs l J Jx hext hextx hround hJ0=> ?_⟩
 obtain⟨hidc,hres,hpl,h⟩:=h l
 have hcl:cs.size=caps.length:=by
  obtain⟨l,e,hl⟩:=ugF hcs
  injection e with e
  subst e
  exact hl
 have hlen':=Nat.le_of_ble_eq_true hlen
 let R0:Bor:=⟨fun _=>none,μ⟩
 have hG:Given F n P l L el R0.mu J Jx:=⟨hext,hextx,hpl,hround⟩
 have hrel:Rel μ Vl.nil (.tup (.val (.func (.yield l) ⟨[]⟩ ⟨[]⟩)::caps)) (.tuple ⟨.func (.yield l) ⟨[]⟩ ⟨[]⟩::cs.toList⟩):=.tcons _ _ _ _ _ (.val _ _ rfl) (by simpa using hcs)
 have hE:∀k,lk (ufS 0 (.val (.func (.yield l) ⟨[]⟩ ⟨[]⟩)::caps)) k=(SV.val (.func (.yield l) ⟨[]⟩ ⟨[]⟩)::caps)[k]? :=fun k=>by have:=ulP (.val (.func (.yield l) ⟨[]⟩ ⟨[]⟩)::caps) 0 k;simpa using this
 have hS :Sat W (ucN (fun _=>False) R0) R0 fn.ntmps [] (⟨ufS 0 (.val (.func (.yield l) ⟨[]⟩ ⟨[]⟩)::caps),[],0⟩:LS).fs μ Vl.nil {tmps:=(#[Value.func (.yield l) #[] #[]]++cs)++Array.replicate (fn.ntmps-(#[Value.func (.yield l) #[] #[]]++cs).size) undef,defers:=[]} W:=by
  refine⟨by simp;omega,rfl,fun k=> ?_,fun k id hid=> ?_,⟨hmem,⟨fun id blk hb=>(by cases hb),fun id id' b hs hs'=>(by cases hs),fun id b hs=>(by cases hs),fun id b hs=>(by cases hs)⟩,ufZ _ _,fun i b hb id hid=>(by cases hb)⟩,MLe.refl _ _ _,fun id r b hr=>(by cases hr),fun b hb=>.inr hb⟩
  ·show Rel μ Vl.nil (ue1 (lk (ufS 0 (.val (.func (.yield l) ⟨[]⟩ ⟨[]⟩)::caps)) k)) _
   rw [hE]
   cases hk:(SV.val (.func (.yield l) ⟨[]⟩ ⟨[]⟩)::caps)[k]? with
   |none=>exact .any _ _
   | some x=>
    have hlt:=(List.getElem?_eq_some_iff.1 hk).1
    simp only [List.length_cons]at hlt
    obtain⟨cv,q1,q2⟩:=uku hrel (by rw [uhe];exact hk)
    have:((#[Value.func (.yield l) #[] #[]]++cs)++Array.replicate (fn.ntmps-(#[Value.func (.yield l) #[] #[]]++cs).size) undef).getD k undef=cv:=by
     rw [Array.getD_eq_getD_getElem?,Array.getElem?_append_left (by simp;omega)]
     rw [←Array.getElem?_toList]
     simp only [Array.toList_append]
     rw [show(#[Value.func (.yield l) #[] #[]]).toList++cs.toList = .func (.yield l) ⟨[]⟩ ⟨[]⟩::cs.toList from rfl,q1];rfl
    rw [this];exact q2
  ·have hid':id∈(ue1 (lk (ufS 0 (.val (.func (.yield l) ⟨[]⟩ ⟨[]⟩)::caps)) k)).ids:=hid
   rw [hE]at hid'
   cases hk:(SV.val (.func (.yield l) ⟨[]⟩ ⟨[]⟩)::caps)[k]? with
   |none=>rw [hk]at hid';simp [ue1,SV.ids]at hid'
   | some x=>
    rw [hk]at hid'
    have:=ulU (List.mem_of_getElem? hk) hid'
    simp only [SV.idsL,SV.ids,hidc,List.append_nil]at this
    cases this
 have fin:∀g W0 K W1,us5 L g→Bas J Jx g W0 K→Frm (fun b=>K b∨uaA μ b) W0 W1→uca μ W1→∃K,J L K W1∨Jx K W1:=fun g W0 K W1 hd hb hfr hm=>by
  have hb1:=hb.ext hG hfr hm
  cases g with
  | atg f=>
   have e:f ()=L:=hd ()
   have:=hb1.2
   simp only [e]at this
   exact⟨_,.inl this⟩
  |stop=>exact⟨_,.inr hb1.2⟩
 refine callsIn_of_wp_marks (F:=F) (n:=n) hf hbody (hF.fn f) ?_ hro
 refine uo8 hF hT hmix (kp:=[]) (fun id hs=>by cases hs) hG c hok (.atg fun _=>0) _ _ _ μ Vl.nil _ W W (fun _=>False) h (fun id _=>rfl) ⟨fun b hb=>hb.elim,hJ0⟩ hS ?_
 intro e g s μ1 ν1 a1 W1 W0 K hq hf1 hb hS1
 have key:∀R,(∀W2,Alike W1.heap.size W1 W2→∃v,(results fn a1.tmps).run P W2 = .ok v W2∧R (.returned v) W2)→LeavesInM F n P fn a1.tmps R a1.defers .returning W1:=fun R hR=>by
  rw [hS1.defers]
  exact ufP (ro:=none) [] W1 ⟨.nil,⟨fun d hd=>(by cases hd),fun l0 e=>(by cases e)⟩⟩ hR
 have hrun:∀W2,(results fn a1.tmps).run P W2 = .ok (uvS []) W2:=fun W2=>uew (a:=a1) (by rw [hres];simp)
 have hend:us5 L g→LeavesInM F n P fn a1.tmps (fun e W'=>(∃v,e = .returned v)∧∃K,J L K W'∨Jx K W') a1.defers .returning W1:=fun hd=>by
  refine key _ fun W2 hW2=>⟨_,hrun W2,⟨_,rfl⟩,fin g W0 K W2 hd hb ?_ (fun b c hc=>(hS1.alike ⟨hW2.os,hW2.tape,hW2.output,hW2.size,fun b hb=>hW2.low b (by have:=hS1.ms.frm.size;omega),hW2.data⟩).ms.mem b c (hS1.mle.le b c hc))⟩
  have hfr:=hS1.ms.frm
  exact⟨hW2.os.trans hfr.os,hW2.tape.trans hfr.tape,hW2.output.trans hfr.output,by rw [hW2.size];exact hfr.size,fun b hb' hB=>(hW2.low b (by have:=hfr.size;omega)).trans (hfr.block b hb' hB)⟩
 cases e with
 |normal=>exact hend hq
 |ret=>exact hend hq
 |_=>exact hq.elim
end
end Go.Eng

namespace Go.Eng
open Go
theorem ubj {n m b:Int} {e new e':IX→List SV}(h0:∀ix jx:IX,0≤ix.den→ix.den<n→jx.den=ix.den→Fit (.agg (e ix)) (.agg (e' jx)))
 (h1:∀ix jx:IX,0≤ix.den→ix.den<m→jx.den=n+ix.den→Fit (.agg (new ix)) (.agg (e' jx))) (hb:0≤n∧0≤m∧(n+m)*b≤140737488355328):
 uaq (udI n e m new e'∧0≤n∧0≤m∧(n+m)*b≤140737488355328):=
 ⟨⟨fun μ ν ix c i0 i1 q jx hj=>(h0 ix jx i0 i1 hj).le _ _ _ q,fun μ ν ix c i0 i1 q jx hj=>(h1 ix jx i0 i1 hj).le _ _ _ q⟩,hb⟩
theorem ugP {n ix:Int} {f f':IX→SV} {x:SV}(h1:∀jx:IX,0≤jx.den→jx.den<n→jx.den=ix→Fit x (f' jx))(h2:∀jx:IX,0≤jx.den→jx.den<n→jx.den≠ix→Fit (f jx) (f' jx)):
 uaq (umk n f ix x f'):=⟨fun jx a b c=>(h1 jx a b c).le,fun jx a b c=>(h2 jx a b c).le⟩
theorem uaZ {n:Nat} {f f':IX→SV} {l l':List SV}(h:∀ix:IX,0≤ix.den→ix.den<(n:Int)→Fit (f ix) (f' ix))(h':Fit (.agg l) (.agg l')):Fit (.agg (.arr n f::l)) (.agg (.arr n f'::l')):=⟨fun μ ν v q=>by
 cases q with
 |arr _ _ _ _ cs rest h1 h2 h3 h4=>exact .arr ν n f' l' cs rest h1 (fun ix i0 i1=>(h ix i0 i1).le _ _ _ (h2 ix i0 i1)) h3 (h'.le _ _ _ h4)
 |cons _ _ _ c rest h1=>cases h1⟩
theorem usW {off:Nat} {a b:List SV}(h:Fit (.agg a) (.agg b)):Fit (.pp off a) (.pp off b):=⟨fun μ ν v q=>by
 cases q with
 |pp _ _ _ b o m c h1 h2 h3=>exact .pp ν off _ b o m c h1 h2 (h.le _ _ _ h3)⟩
end Go.Eng

namespace Go.Eng
open Go
theorem unK {P:Program} {d:Nat} {e:TypeId} {k:IntKind}(he:P.plainKey e=true)(hu:P.underlying e=some (.int k)) {xs ys:List Int} {i:Nat}(hx:i<xs.length)(hy:i<ys.length)(W:World):
 (part e ⟨xs.map (Value.int .i64)⟩ i).run P W = .ok (.int .i64 xs[i]) W∧(part e ⟨ys.map (Value.int .i64)⟩ i).run P W = .ok (.int .i64 ys[i]) W∧(Op.equalIn (d+1) e (.int .i64 xs[i]) (.int .i64 ys[i])).run P W = .ok (decide (xs[i]? =ys[i]?)) W:=by
 refine⟨run_part_plain W he (by simp [hx]),run_part_plain W he (by simp [hy]),?_⟩
 rw [run_equalIn_int W d e _ k _ _ hu,List.getElem?_eq_getElem hx,List.getElem?_eq_getElem hy]
 congr 1
 by_cases q:xs[i]=ys[i]<;>simp [q]
theorem uhT {P:Program} {d:Nat} {xs ys:List Int}(W:World):∀fs:List Field,(∀f∈fs,f.name≠ "_"∧P.plainKey f.type=true∧(∃k,P.underlying f.type=some (.int k))∧f.offset<xs.length∧f.offset<ys.length) →
 (Op.eqFields (d+1) ⟨xs.map (Value.int .i64)⟩ ⟨ys.map (Value.int .i64)⟩ fs).run P W = .ok (decide (∀f∈fs,xs[f.offset]? =ys[f.offset]?)) W:=by
 intro fs
 induction fs with
 |nil=>intro _;simp [Op.eqFields]
 | cons f fs ih=>
  intro h
  obtain⟨hn,he,⟨k,hu⟩,hx,hy⟩:=h f (by simp)
  obtain⟨p1,p2,p3⟩:=unK (d:=d) he hu hx hy W
  have ih:=ih fun j hj=>h j (List.mem_cons_of_mem _ hj)
  simp only [Op.eqFields,hn,ne_eq,not_false_eq_true,if_true,Sem.run_bind,p1,p2,p3,Result.andThen_ok]
  by_cases q:xs[f.offset]? =ys[f.offset]?
  ·simp only [q,decide_true,Bool.not_true,Bool.false_eq_true,if_false,ih]
   congr 1
   simp [q]
  ·simp only [q,decide_false,Bool.not_false,if_true,Sem.run_pure]
   congr 1
   simp [q]
theorem ur7 {P:Program} {t:TypeId} {n:Nat}(hu:P.underlying t=some (.struct (P.fieldsOf t)))(hp:P.stoodInHeld t=false)
 (hf:∀f∈(P.fieldsOf t).toList,f.name≠ "_"∧P.plainKey f.type=true∧(∃k,P.underlying f.type=some (.int k))∧f.offset<n) (ho:∀j,j<n→∃f∈(P.fieldsOf t).toList,f.offset=j)
 (hg:Program.eqGuardType P P.depth t=false):uo5 P t n:=by
 intro xs ys W hx hy
 refine⟨?_,hg⟩
 show(Op.equalIn (9999+1) t _ _).run P W=_
 rw [run_equalIn_struct W 9999 t _ _ hu hp]
 rw [show(9999:Nat)=9998+1 from rfl,uhT W _ fun f hm=>by
  obtain⟨a,b,c,d⟩:=hf f hm
  exact⟨a,b,c,by omega,by omega⟩]
 congr 1
 have:(∀f∈(P.fieldsOf t).toList,xs[f.offset]? =ys[f.offset]?)↔xs=ys:=⟨fun h=>List.ext_getElem? fun j=>by
  by_cases q:j<n
  ·obtain⟨f,hm,rfl⟩:=ho j q
   exact h f hm
  ·rw [List.getElem?_eq_none (by omega),List.getElem?_eq_none (by omega)],fun h f _=>by rw [h]⟩
 simp only [this]
def uhw :Option TypeDesc→Bool
 |some (.int _)=>true
 |_=>false
def uzZ (P:Program)(t:TypeId)(n:Nat):Bool:=match P.underlying t with
 |some (.struct fs)=>fs.toList.all (fun f=>f.name != "_"&&P.plainKey f.type&&uhw (P.underlying f.type)&&decide (f.offset<n))&&(List.range n).all (fun j=>fs.toList.any fun f=>f.offset==j)&& !P.stoodInHeld t&& !Program.eqGuardType P P.depth t
 |_=>false
theorem ugT {u:Option TypeDesc}(h:uhw u=true):∃k,u=some (.int k):=by
 unfold uhw at h
 split at h
 ·exact⟨_,rfl⟩
 ·cases h
theorem uqO {P:Program} {t:TypeId} {n:Nat}(h:uzZ P t n=true):uo5 P t n:=by
 unfold uzZ at h
 split at h
 ·rename_i fs hu
  have hfo:P.fieldsOf t=fs:=by simp [Program.fieldsOf,hu]
  simp only [Bool.and_eq_true,Bool.not_eq_true',List.all_eq_true,bne_iff_ne,decide_eq_true_eq,List.any_eq_true,beq_iff_eq,List.mem_range]at h
  obtain⟨⟨⟨h1,h2⟩,h3⟩,h4⟩:=h
  exact ur7 (by rw [hfo];exact hu) h3 (fun f hf=>by rw [hfo]at hf;obtain⟨⟨⟨a,b⟩,c⟩,d⟩:=h1 f hf;exact⟨a,b,ugT c,d⟩) (fun j hj=>by rw [hfo];exact h2 j hj) h4
 ·cases h
end Go.Eng

namespace Go.Eng
open Go
theorem ulo {L:List Int} {x:Int} {i:Nat}(h:i<L.length):(L++[x]).getD i 0=L.getD i 0:=by
 simp only [List.getD_eq_getElem?_getD]
 rw [List.getElem?_append_left h]
theorem ukK {L:List Int} {x:Int} {i:Nat}(h:i=L.length):(L++[x]).getD i 0=x:=by
 subst h
 simp only [List.getD_eq_getElem?_getD]
 rw [List.getElem?_append_right (Nat.le_refl _),Nat.sub_self];rfl
def udJ (L:List Int)(ix:IX):List SV:=[.int .i64 (.sym fun _=>L.getD ix.den.toNat 0)]
theorem ual {n m b:Int} {L L2:List Int} {x:Int} {e new:IX→List SV}(h2:L2=L++[x])(hn:n=(L.length:Int))(hm:m=1)(he:∀ix,Fit (.agg (e ix)) (.agg (udJ L ix)))(hx:∀ix:IX,ix.den=0→Fit (.agg (new ix)) (.agg [.int .i64 (.sym fun _=>x)]))(hb:(n+1)*b≤140737488355328):
 uaq (udI n e m new (udJ L2)∧0≤n∧0≤m∧(n+m)*b≤140737488355328):=by
 subst hm
 subst h2
 refine ubj (fun ix jx h0 h1 h2=>(he ix).trans (qC (qE ?_) rfl qA)) (fun ix jx h0 h1 h2=>(hx ix (by omega)).trans (qC (qE ?_) rfl qA)) ⟨by omega,by omega,hb⟩
 ·simp only [ub7,h2]
  exact(ulo (by omega)).symm
 ·simp only [ub7]
  exact(ukK (by omega)).symm
theorem urs {ety:Nat} {n n':IX} {e:IX→List SV} {L:List Int}(hn:n.den=n'.den)(he:∀ix,Fit (.agg (e ix)) (.agg (udJ L ix))):FitK (.row ety 1 n e) (.row ety 1 n' (fun ix=>[.int .i64 (.sym fun _=>L.getD ix.den.toNat 0)])):=
 ua9 hn fun ix _ _=>he ix
end Go.Eng

namespace Go.Eng
open Go
theorem uqb {xs ys:List Int}(h:ubW false xs=ubW false ys):xs=ys:=by
 unfold ubW at h
 injection h with h
 injection h with h
 exact List.map_inj_right (fun a b q=>by injection q) |>.1 h
theorem ugq {P:Program} {t:TypeId} {n:Nat}(h:uo5 P t n) {xs:List Int}(hx:xs.length=n)(W:World):∀(es:List MapEntry) (i:Nat),(∀e∈es,∃ks:List Int,ks.length=n∧e.key=ubW false ks) →
 ∃r,(Instr.findAsking t (ubW false xs) es i).run P W = .ok r W∧((r=none∧∀e∈es,e.key≠ubW false xs)∨∃j e,es[j]? =some e∧e.key=ubW false xs∧r=some (i+j,e.val)):=by
 intro es
 induction es with
 |nil=>intro i _;exact⟨none,by simp [Instr.findAsking],.inl ⟨rfl,fun e he=>by cases he⟩⟩
 | cons e es ih=>
  intro i hes
  obtain⟨ks,hk,hke⟩:=hes e (by simp)
  have he:(Op.equal t (ubW false xs) e.key).run P W = .ok (decide (xs=ks)) W:=by rw [hke];exact(h xs ks W hx hk).1
  rw [Instr.findAsking]
  simp only [Sem.run_bind,he,Result.andThen_ok]
  by_cases q:xs=ks
  ·subst q
   exact⟨some (i,e.val),by simp,.inr ⟨0,e,rfl,hke,rfl⟩⟩
  ·obtain⟨r,hr,hc⟩:=ih (i+1) fun e' he'=>hes e' (by simp [he'])
   refine⟨r,by simpa [q]using hr,?_⟩
   rcases hc with⟨h1,h2⟩|⟨j,e',h1,h2,h3⟩
   ·refine .inl ⟨h1,fun e' he'=> ?_⟩
    rcases List.mem_cons.1 he' with rfl|he'
    ·rw [hke];exact fun hc=>q (uqb hc).symm
    ·exact h2 e' he'
   ·exact .inr ⟨j+1,e',by simpa using h1,h2,by rw [h3,show i+1+j=i+(j+1) by omega]⟩
end Go.Eng

namespace Go.Eng
open Go
def vI (ag:Bool)(xs:List Int):Value:=if ag=true then .agg ⟨xs.map (Value.int .i64)⟩else .int .i64 (xs.headD 0)
structure DeepE (P:Program)(dd:Nat)(e:TypeId)(n:Nat)(ag:Bool):Prop where
 part:∀(xs:List Int) (off:Nat) (W:World),off+n≤xs.length→(Go.part e ⟨xs.map (Value.int .i64)⟩ off).run P W = .ok (vI ag ((xs.drop off).take n)) W
 eq:∀(xs ys:List Int) (W:World),xs.length=n→ys.length=n→(Op.equalIn dd e (vI ag xs) (vI ag ys)).run P W = .ok (decide (xs=ys)) W
structure Deep (P:Program)(dd:Nat)(e:TypeId)(n:Nat)(ag:Bool):Prop extends DeepE P dd e n ag where
 check:∀(em:Bool) (xs:List Int) (W:World),xs.length=n→(Instr.checkKey em dd e (vI ag xs)).run P W = .ok () W
theorem url {P:Program} {d:Nat} {e:TypeId} {k:IntKind}(he:P.plainKey e=true)(hu:P.underlying e=some (.int k)):Deep P (d+1) e 1 false:=by
 refine⟨⟨fun xs off W h=> ?_,fun xs ys W hx hy=> ?_⟩,fun em xs W hx=> ?_⟩
 ·have hl:off<xs.length:=by omega
  rw [run_part_plain W he (v:=.int .i64 xs[off]) (by simp [hl])]
  unfold vI
  rw [if_neg (by decide)]
  congr 2
  rw [List.drop_eq_getElem_cons hl]
  rfl
 ·match xs,ys,hx,hy with
  | [x],[y],_,_=>
   show(Op.equalIn (d+1) e (.int .i64 x) (.int .i64 y)).run P W=_
   rw [run_equalIn_int W d e _ k _ _ hu]
   congr 1
   by_cases q:x=y<;>simp [q]
 ·match xs,hx with
  | [x],_=>
   show(Instr.checkKey em (d+1) e (.int .i64 x)).run P W=_
   simp [Instr.checkKey,run_underlying hu]
theorem ulH {P:Program} {e:TypeId} {i:TypeInfo}(hi:P.info? e=some i)(ha:(∃n e',P.underlying e=some (.array n e'))∨∃fs,P.underlying e=some (.struct fs)) {n:Nat}(hc:P.cellsOf e=n)(xs:List Int)(off:Nat)(W:World):
 (Go.part e ⟨xs.map (Value.int .i64)⟩ off).run P W = .ok (vI true ((xs.drop off).take n)) W:=by
 have hl:(⟨xs.map (Value.int .i64)⟩:Array Value).extract off (off+P.cellsOf e)=⟨((xs.drop off).take n).map (Value.int .i64)⟩:=by
  apply Array.toList_inj.1
  rw [Array.toList_extract]
  simp [List.extract,hc,List.map_drop,List.map_take]
 unfold vI
 rw [if_pos rfl,←hl]
 rcases ha with⟨m,e',hu⟩|⟨fs,hu⟩<;>simp [Go.part,isAgg,run_underlying hu,run_sizeOf W hi]
theorem uj7 {P:Program} {d:Nat} {e:TypeId} {m:Nat} {ag:Bool}(D:DeepE P d e m ag) {xs ys:List Int}(W:World):∀is:List Nat,(∀i∈is,i*m+m≤xs.length∧i*m+m≤ys.length) →
 (Op.eqItems d e m ⟨xs.map (Value.int .i64)⟩ ⟨ys.map (Value.int .i64)⟩ is).run P W = .ok (decide (∀i∈is,(xs.drop (i*m)).take m=(ys.drop (i*m)).take m)) W:=by
 intro is
 induction is with
 |nil=>intro _;simp [Op.eqItems]
 | cons i is ih=>
  intro h
  obtain⟨hx,hy⟩:=h i (by simp)
  have p1:=D.part xs (i*m) W hx
  have p2:=D.part ys (i*m) W hy
  have p3:=D.eq ((xs.drop (i*m)).take m) ((ys.drop (i*m)).take m) W (by simp;omega) (by simp;omega)
  have ih:=ih fun j hj=>h j (List.mem_cons_of_mem _ hj)
  simp only [Op.eqItems,Sem.run_bind,p1,p2,p3,Result.andThen_ok]
  by_cases q:(xs.drop (i*m)).take m=(ys.drop (i*m)).take m
  ·simp only [q,decide_true,Bool.not_true,Bool.false_eq_true,if_false,ih]
   congr 1
   simp [q]
  ·simp only [q,decide_false,Bool.not_false,if_true,Sem.run_pure]
   congr 1
   simp [q]
theorem uhX {P:Program} {d:Nat} {xs ys:List Int}(W:World):∀fs:List Field,(∀f∈fs,f.name≠ "_"∧∃ag,DeepE P d f.type (P.cellsOf f.type) ag∧f.offset+P.cellsOf f.type≤xs.length∧f.offset+P.cellsOf f.type≤ys.length) →
 (Op.eqFields d ⟨xs.map (Value.int .i64)⟩ ⟨ys.map (Value.int .i64)⟩ fs).run P W = .ok (decide (∀f∈fs,(xs.drop f.offset).take (P.cellsOf f.type)=(ys.drop f.offset).take (P.cellsOf f.type))) W:=by
 intro fs
 induction fs with
 |nil=>intro _;simp [Op.eqFields]
 | cons f fs ih=>
  intro h
  obtain⟨hn,ag,D,hx,hy⟩:=h f (by simp)
  have p1:=D.part xs f.offset W hx
  have p2:=D.part ys f.offset W hy
  have p3:=D.eq ((xs.drop f.offset).take (P.cellsOf f.type)) ((ys.drop f.offset).take (P.cellsOf f.type)) W (by simp;omega) (by simp;omega)
  have ih:=ih fun j hj=>h j (List.mem_cons_of_mem _ hj)
  simp only [Op.eqFields,hn,ne_eq,not_false_eq_true,if_true,Sem.run_bind,p1,p2,p3,Result.andThen_ok]
  by_cases q:(xs.drop f.offset).take (P.cellsOf f.type)=(ys.drop f.offset).take (P.cellsOf f.type)
  ·simp only [q,decide_true,Bool.not_true,Bool.false_eq_true,if_false,ih]
   congr 1
   simp [q]
  ·simp only [q,decide_false,Bool.not_false,if_true,Sem.run_pure]
   congr 1
   simp [q]
theorem ulN {xs ys:List Int} {o m j:Nat}(h:(xs.drop o).take m=(ys.drop o).take m)(h1:o≤j)(h2:j<o+m):xs[j]? =ys[j]? :=by
 have e:=congrArg (fun l=>l[j-o]?) h
 simp only [List.getElem?_take,List.getElem?_drop]at e
 rw [if_pos (by omega),if_pos (by omega),show o+(j-o)=j by omega]at e
 exact e
theorem uld {P:Program} {d:Nat} {t:TypeId} {n:Nat} {i:TypeInfo}(hu:P.underlying t=some (.struct (P.fieldsOf t)))(hi:P.info? t=some i)(hc:P.cellsOf t=n)(hp:P.stoodInHeld t=false)
 (hf:∀f∈(P.fieldsOf t).toList,f.name≠ "_"∧∃ag,Deep P (d+1) f.type (P.cellsOf f.type) ag∧f.offset+P.cellsOf f.type≤n) (ho:∀j,j<n→∃f∈(P.fieldsOf t).toList,f.offset≤j∧j<f.offset+P.cellsOf f.type):
 Deep P (d+1+1) t n true:=by
 refine⟨⟨fun xs off W h=>ulH hi (.inr ⟨_,hu⟩) hc xs off W,fun xs ys W hx hy=> ?_⟩,fun em xs W hx=> ?_⟩
 ·show(Op.equalIn (d+1+1) t (.agg _) (.agg _)).run P W=_
  rw [run_equalIn_struct W (d+1) t _ _ hu hp,uhX W _ fun f hm=>by
   obtain⟨a,ag,b,c⟩:=hf f hm
   exact⟨a,ag,b.toDeepE,by omega,by omega⟩]
  congr 1
  have:(∀f∈(P.fieldsOf t).toList,(xs.drop f.offset).take (P.cellsOf f.type)=(ys.drop f.offset).take (P.cellsOf f.type))↔xs=ys:=⟨fun h=>List.ext_getElem? fun j=>by
   by_cases q:j<n
   ·obtain⟨f,hm,a,b⟩:=ho j q
    exact ulN (h f hm) a b
   ·rw [List.getElem?_eq_none (by omega),List.getElem?_eq_none (by omega)],fun h f _=>by rw [h]⟩
  simp only [this]
 ·show(Instr.checkKey em (d+1+1) t (.agg _)).run P W=_
  rw [Instr.checkKey]
  simp only [Sem.run_bind,run_underlying hu,Result.andThen_ok]
  rw [←Array.forIn_toList]
  generalize (P.fieldsOf t).toList=L at hf
  clear ho
  induction L with
  |nil=>simp
  | cons f L ih=>
   obtain⟨hn,ag,D,ho⟩:=hf f (by simp)
   have p1:=D.part xs f.offset W (by omega)
   have p2:=D.check em ((xs.drop f.offset).take (P.cellsOf f.type)) W (by simp;omega)
   simp only [List.forIn_cons,Sem.run_bind,hn,ne_eq,not_false_eq_true,if_true,Result.andThen_ok,p1,p2,Sem.run_pure]
   exact ih (fun y hy=>hf y (by simp [hy]))
theorem um8 {P:Program} {d:Nat} {t e:TypeId} {n m:Nat} {i it:TypeInfo} {ag:Bool}(hu:P.underlying t=some (.array n e))(hit:P.info? t=some it)(hct:P.cellsOf t=n*m)(hi:P.info? e=some i)(hc:P.cellsOf e=m)(D:DeepE P d e m ag)(hm:0<m):DeepE P (d+1) t (n*m) true:=by
 refine⟨fun xs off W h=>ulH hit (.inl ⟨_,_,hu⟩) hct xs off W,fun xs ys W hx hy=> ?_⟩
 show(Op.equalIn (d+1) t (.agg _) (.agg _)).run P W=_
 rw [run_equalIn_array W d _ _ hu hi,hc,uj7 D W _ fun j hj=>by
  have:=List.mem_range.1 hj
  have:j*m+m≤n*m:=by rw [←Nat.succ_mul];exact Nat.mul_le_mul_right _ this
  omega]
 congr 1
 have:(∀j∈List.range n,(xs.drop (j*m)).take m=(ys.drop (j*m)).take m)↔xs=ys:=⟨fun h=>List.ext_getElem? fun j=>by
  by_cases q:j<n*m
  ·have hd:j/m<n:=(Nat.div_lt_iff_lt_mul hm).2 q
   have e1:=Nat.div_add_mod j m
   have e2:=Nat.mod_lt j hm
   have e3:j/m*m=m*(j/m):=Nat.mul_comm _ _
   exact ulN (h (j/m) (List.mem_range.2 hd)) (by omega) (by omega)
  ·rw [List.getElem?_eq_none (by omega),List.getElem?_eq_none (by omega)],fun h j _=>by rw [h]⟩
 simp only [this]
theorem unq {P:Program} {t:TypeId} {n:Nat}(D:Deep P 10000 t n true) {fs:Array Field}(hu:P.underlying t=some (.struct fs))(hg:Program.eqGuardType P P.depth t=false):ul4 P t false n:=by
 have hE:uo5 P t n:=fun xs ys W hx hy=>⟨D.eq xs ys W hx hy,hg⟩
 intro xs W hx
 refine⟨fun em=>D.check em xs W hx,fun es hes=> ?_⟩
 obtain⟨r,hr,hc⟩:=ugq hE hx W es 0 hes
 refine⟨r,by rw [run_findKey_eq W (by rw [hu])];exact hr,?_⟩
 rcases hc with hc|⟨j,e,a,b,c⟩
 ·exact .inl hc
 ·exact .inr ⟨j,e,a,b,by rw [c,Nat.zero_add]⟩
def usa (P:Program)(t:TypeId):Bool:=P.plainKey t&&uhw (P.underlying t)&&P.cellsOf t==1
def urK (P:Program):Nat→TypeId→Bool
 |0,t=>usa P t
 | k+1,t=>usa P t||match P.underlying t with
  |some (.struct fs)=>(P.info? t).isSome&& !P.stoodInHeld t&&fs.toList.all (fun f=>f.name != "_"&&urK P k f.type&&Nat.ble (f.offset+P.cellsOf f.type) (P.cellsOf t))&&(List.range (P.cellsOf t)).all fun j=>fs.toList.any fun f=>Nat.ble f.offset j&&Nat.blt j (f.offset+P.cellsOf f.type)
  |_=>false
theorem ukN {P:Program} {t:TypeId}(h:usa P t=true)(d:Nat):Deep P (d+1) t (P.cellsOf t) false:=by
 unfold usa at h
 simp only [Bool.and_eq_true,beq_iff_eq]at h
 obtain⟨⟨h1,h2⟩,h3⟩:=h
 obtain⟨k,hk⟩:=ugT h2
 rw [h3]
 exact url h1 hk
theorem use {P:Program}:∀{k:Nat} {t:TypeId},urK P k t=true→∀d,k<d→∃ag,Deep P d t (P.cellsOf t) ag∧((∃fs,P.underlying t=some (.struct fs))→ag=true):=by
 intro k
 induction k with
 | zero=>
  intro t h d hd
  match d,hd with
  | d+1,_=>
   refine⟨false,ukN h d,?_⟩
   rintro⟨fs,hu⟩
   have h:usa P t=true:=h
   unfold usa at h
   rw [hu]at h
   simp [uhw]at h
 | succ k ih=>
  intro t h d hd
  unfold urK at h
  rw [Bool.or_eq_true]at h
  match d,hd with
  |d+1,hd=>
  rcases h with h|h
  ·refine⟨false,ukN h d,?_⟩
   rintro⟨fs,hu⟩
   unfold usa at h
   rw [hu]at h
   simp [uhw]at h
  ·match d,hd with
   |0,hd=>omega
   |d+1,hd=>
   split at h
   ·rename_i fs hu
    have hfo:P.fieldsOf t=fs:=by simp [Program.fieldsOf,hu]
    simp only [Bool.and_eq_true,Bool.not_eq_true',List.all_eq_true,bne_iff_ne,List.any_eq_true,List.mem_range,Nat.ble_eq,Nat.blt_eq]at h
    obtain⟨⟨⟨h1,h2⟩,h3⟩,h4⟩:=h
    obtain⟨i,hi⟩:=Option.isSome_iff_exists.1 h1
    refine⟨true,uld (by rw [hfo];exact hu) hi rfl h2 (fun f hf=> ?_) (fun j hj=>by rw [hfo];exact h4 j hj),fun _=>rfl⟩
    rw [hfo]at hf
    obtain⟨⟨a,b⟩,c⟩:=h3 f hf
    obtain⟨ag,D,_⟩:=ih b (d+1) (by omega)
    exact⟨a,ag,D,c⟩
   ·cases h
def usQ :Option TypeDesc→Bool
 |some (.struct _)=>true
 |_=>false
def uzR (P:Program)(t:TypeId)(n:Nat):Bool:=urK P 3 t&&usQ (P.underlying t)&&P.cellsOf t==n&& !Program.eqGuardType P P.depth t
theorem uub {P:Program} {t:TypeId} {n:Nat}(h:uzR P t n=true):ul4 P t false n∧uo5 P t n:=by
 unfold uzR at h
 simp only [Bool.and_eq_true,Bool.not_eq_true',beq_iff_eq]at h
 obtain⟨⟨⟨h1,h2⟩,h3⟩,h4⟩:=h
 obtain⟨fs,hu⟩:∃fs,P.underlying t=some (.struct fs):=by
  unfold usQ at h2
  split at h2
  ·exact⟨_,by assumption⟩
  ·cases h2
 obtain⟨ag,D,e⟩:=use h1 10000 (by decide)
 rw [e ⟨fs,hu⟩,h3]at D
 exact⟨unq D hu h4,fun xs ys W hx hy=>⟨D.eq xs ys W hx hy,h4⟩⟩
def uwn (P:Program)(t e g:TypeId)(n m:Nat):Bool:=(match P.underlying t with
    |some (.array n' e')=>n'==n&&e'==e
    |_=>false)&&(match P.underlying e with
    |some (.array m' g')=>m'==m&&g'==g
    |_=>false)&&usa P g&&(P.info? g).isSome&&(P.info? e).isSome&&(P.info? t).isSome&&P.cellsOf e==m&&P.cellsOf t==n*m&&Nat.blt 0 m&& !Program.eqGuardType P P.depth t
theorem urk {P:Program} {t e g:TypeId} {n m:Nat}(h:uwn P t e g n m=true):uo5 P t (n*m):=by
 unfold uwn at h
 simp only [Bool.and_eq_true,Bool.not_eq_true',beq_iff_eq,Nat.blt_eq]at h
 obtain⟨⟨⟨⟨⟨⟨⟨⟨⟨h1,h2⟩,h3⟩,h4⟩,h5⟩,h6⟩,h7⟩,h8⟩,h9⟩,h10⟩:=h
 have u1:P.underlying t=some (.array n e):=by
  split at h1
  ·rename_i hu
   simp only [Bool.and_eq_true,beq_iff_eq]at h1
   rw [hu,h1.1,h1.2]
  ·cases h1
 have u2:P.underlying e=some (.array m g):=by
  split at h2
  ·rename_i hu
   simp only [Bool.and_eq_true,beq_iff_eq]at h2
   rw [hu,h2.1,h2.2]
  ·cases h2
 obtain⟨ig,hg⟩:=Option.isSome_iff_exists.1 h4
 obtain⟨ie,he⟩:=Option.isSome_iff_exists.1 h5
 obtain⟨it,ht⟩:=Option.isSome_iff_exists.1 h6
 have G:=ukN h3 9997
 have hg1:P.cellsOf g=1:=by
  unfold usa at h3
  simp only [Bool.and_eq_true,beq_iff_eq]at h3
  exact h3.2
 rw [hg1]at G
 have E:=um8 u2 he (by rw [h7,Nat.mul_one]) hg hg1 G.toDeepE (by decide)
 rw [Nat.mul_one]at E
 have T:=um8 u1 ht h8 he h7 E h9
 exact fun xs ys W hx hy=>⟨T.eq xs ys W hx hy,h10⟩
end Go.Eng

namespace Go.Eng
open Go Go.ChangeShapes Go.WideShapes
def ufC (W:World):Mem:=fun b=>match W.heap[b]? with
 |some (.cells c _ _)=>some (.arr c)
 |_=>none
theorem urC (W:World):uca (ufC W) W:=fun b c h=>by
 unfold ufC at h
 split at h
 ·rename_i h1
  cases h
  exact⟨_,_,h1⟩
 ·cases h
theorem unc {W:World} {b:Nat}(h:uaA (ufC W) b):False:=by
 obtain⟨kt,vt,sc,nk,F,h⟩:=h
 unfold ufC at h
 split at h<;>cases h
section
variable {H:Type} {enc:TypeId×Value→H} {P:Program} {W:World} {base:Nat} {sp:Nat→Bool} {held:Bool}
def Dec (enc:TypeId×Value→H)(P:Program)(W:World)(base:Nat)(sp:Nat→Bool)(held:Bool)(t:TypeId)(α:Type)(pa:α→Prop)(ca:α→List SV):Prop:=
 ∀n cs x,DataW.trod enc P W base sp held n t cs=some x→∃a:α,pa a∧∀ν,uby (ufC W) ν (ca a) cs
theorem uod {t:TypeId} {k:IntKind}(ht:P.underlying t=some (.int k)):Dec enc P W base sp held t Int (fun n=>(Lit.int k n).wf=true) (fun n=>[.int k (.sym fun _=>n)]):=fun n cs x h=>by
 obtain⟨m,rfl,rfl,hw⟩:=DataW.trod_int ht h
 exact⟨m,hw,fun ν=>.cons ν _ _ _ _ (.int ν k (.sym fun _=>m)) rfl (.nil ν)⟩
theorem ue6 {t:TypeId} {α β:Type} {pa:α→Prop} {ca:α→List SV}(f:α→β) {pb:β→Prop} {cb:β→List SV}(h:Dec enc P W base sp held t α pa ca)(hp:∀a,pa a→pb (f a))(hc:∀a,ca a=cb (f a)):Dec enc P W base sp held t β pb cb:=fun n cs x q=>by
 obtain⟨a,h1,h2⟩:=h n cs x q
 exact⟨f a,hp a h1,fun ν=>hc a▸h2 ν⟩
theorem uga {a:Addr} {m:Nat} {cs:List Value}(h:W.cells? base a m=some cs):cs.length=m∧∀j,j<m→W.cell? (a.add j)=cs[j]? :=by
 unfold World.cells? at h
 split at h
 ·refine⟨by simpa using mapM_some_length h,fun j hj=>mapM_some_get h j j (by simp [hj])⟩
 ·cases h
theorem uiQ {t e:TypeId} {sz:Nat} {α:Type} {pa:α→Prop} {ca:α→List SV}(d:α)(ht:P.underlying t=some (.slice e))(hc:P.cellsOf e=sz)(hz:0<sz)(he:Dec enc P W base sp held e α pa ca):
 Dec enc P W base sp held t (List α) (fun l=>(∀a∈l,pa a)∧l.length≤maxLen) (fun l=>[.sl sz (.sym fun _=>zi l.length) (fun ix=>ca (l.getD ix.den.toNat d))]):=fun n cs x h=>by
 rcases DataW.trod_slice ht h with⟨rfl,_⟩|⟨a,len,cap,elems,rest,m,_,rfl,_,_,hl,hm,hlen,hel,_,_⟩
 ·exact⟨[],⟨fun a ha=>(by cases ha),Nat.zero_le _⟩,fun ν=>.cons ν _ _ _ _ (.slnil ν _ _ _ none 0 rfl (Nat.zero_le _)) rfl (.nil ν)⟩
 ·have each : ∀i,i<len→∃a':α,pa a'∧∃csi,W.cells? base (a.add (i*sz)) sz=some csi∧∀ν,uby (ufC W) ν (ca a') csi:=fun i hi=>by
   have:=hel i hi
   rw [List.getElem?_eq_getElem (by omega),hc]at this
   obtain⟨csi,h1,h2⟩:=Option.bind_eq_some_iff.1 this
   obtain⟨a',p1,p2⟩:=he m csi _ h2
   exact⟨a',p1,csi,h1,p2⟩
  obtain⟨g,hg⟩:∃g:Nat→α,∀i,i<len→pa (g i)∧∃csi,W.cells? base (a.add (i*sz)) sz=some csi∧∀ν,uby (ufC W) ν (ca (g i)) csi:=by
   refine⟨fun i=>open Classical in if hi:i<len then Classical.choose (each i hi)else d,fun i hi=> ?_⟩
   simp only [hi,dite_true]
   exact Classical.choose_spec (each i hi)
  have hll:((List.range len).map g).length=len:=by simp
  have hgd:∀i,i<len→((List.range len).map g).getD i d=g i:=fun i hi=>by
   rw [List.getD_eq_getElem?_getD,List.getElem?_map,List.getElem?_range hi];rfl
  refine⟨(List.range len).map g,⟨fun a' ha=> ?_,by rw [hll];exact Nat.le_trans hl hm⟩,fun ν=>.cons ν _ _ _ _ ?_ rfl (.nil ν)⟩
  ·obtain⟨i,hi,rfl⟩:=List.mem_map.1 ha
   exact(hg i (List.mem_range.1 hi)).1
  ·by_cases h0:len=0
   ·subst h0
    exact .slnil ν _ _ _ _ cap (by show zi _=0;rw [hll];rfl) hm
   ·obtain ⟨b,o,spot⟩:=a
    have hspot:spot=none:=by
     obtain⟨_,csi,h1,_⟩:=hg 0 (by omega)
     obtain⟨l1,l2⟩:=uga h1
     have:=l2 0 hz
     rw [List.getElem?_eq_getElem (by omega)]at this
     exact World.cell?_spot (a:=⟨b,o,spot⟩) (by simpa [Addr.add]using this)
    subst hspot
    have hadd:∀k,(⟨b,o,none⟩:Addr).add k=⟨b,o+k,none⟩:=fun k=>by
     unfold Addr.add
     split
     ·rename_i h;rw [h];rfl
     ·rfl
    have hcell:∀i,i<len→∀j,j<sz→∃csi,W.cells? base ((⟨b,o,none⟩:Addr).add (i*sz)) sz=some csi∧W.cell? ⟨b,o+i*sz+j,none⟩=csi[j]? ∧csi.length=sz:=fun i hi j hj=>by
     obtain⟨_,csi,h1,_⟩:=hg i hi
     have:=uga h1
     refine⟨csi,h1,?_,this.1⟩
     have h2:=this.2 j hj
     rw [hadd]at h2
     have e:(⟨b,o+i*sz,none⟩:Addr).add j=⟨b,o+i*sz+j,none⟩:=by
      unfold Addr.add
      split
      ·rename_i h;rw [h];rfl
      ·rfl
     rw [e]at h2
     exact h2
    obtain⟨cs0,q1,q2,q3⟩:=hcell 0 (by omega) 0 hz
    have hsome:W.cell? ⟨b,o+0*sz+0,none⟩=some cs0[0]:=by rw [q2,List.getElem?_eq_getElem (by omega)]
    obtain⟨cur,et,fr,hcur⟩:∃cur et fr,W.heap[b]? =some (.cells cur et fr):=by
     unfold World.cell? at hsome
     split at hsome
     ·rename_i h1;exact⟨_,_,_,h1⟩
     ·cases hsome
    have hmu:ufC W b=some (.arr cur):=by unfold ufC;rw [hcur]
    have hat:∀k,W.cell? ⟨b,k,none⟩=cur[k]? :=fun k=>by
     unfold World.cell?
     simp [hcur]
    refine .sl ν sz _ _ b o len cap cur hmu (by show zi _=_;rw [hll];rfl) hl hm (by omega) (fun ix i0 i1=> ?_) ?_
    ·have hi:ix.den.toNat<len:=by
      have i2:ix.den<zi ((List.range len).map g).length:=i1
      rw [hll,uaa]at i2
      omega
     obtain⟨_,csi,h1,h2⟩:=hg ix.den.toNat hi
     have e1:(cur.extract (o+ix.den.toNat*sz) (o+ix.den.toNat*sz+sz))=⟨csi⟩:=by
      obtain⟨l1,l2⟩:=uga h1
      apply Array.ext_getElem?
      intro j
      have hm1:(⟨csi⟩:Array Value)[j]? =csi[j]? :=by simp
      rw [hm1,Array.getElem?_extract]
      by_cases hj:j<sz
      ·obtain⟨csj,k1,k2,_⟩:=hcell ix.den.toNat hi j hj
       have k3:csj=csi:=Option.some.inj (k1.symm.trans h1)
       subst k3
       rw [hat]at k2
       have hlt:o+ix.den.toNat*sz+j<cur.size:=by
        rw [List.getElem?_eq_getElem (by omega)]at k2
        exact(Array.getElem?_eq_some_iff.1 k2).1
       rw [if_pos (by omega)]
       exact k2
      ·rw [List.getElem?_eq_none (by omega),if_neg (by omega)]
     rw [e1,hgd _ hi]
     exact h2 Vl.nil
    ·obtain⟨csl,p1,p2,p3⟩:=hcell (len-1) (by omega) (sz-1) (by omega)
     rw [hat,List.getElem?_eq_getElem (by omega)]at p2
     have:=(Array.getElem?_eq_some_iff.1 p2).1
     have e3:len*sz=(len-1)*sz+sz:=by
      rw [←Nat.succ_mul];congr 1;omega
     omega
def uy7 (enc:TypeId×Value→H)(P:Program)(W:World)(base:Nat)(sp:Nat→Bool)(held:Bool)(tot:Nat)(fs:List (Nat×TypeId))(off:Nat)(α:Type)(pa:α→Prop)(ca:α→List SV):Prop:=
 ∀n (cs:List Value),cs.length=tot→(∀f∈fs,∃x,DataW.trod enc P W base sp held n f.2 ((cs.drop f.1).take (P.cellsOf f.2))=some x)→∃a:α,pa a∧∀ν,uby (ufC W) ν (ca a) (cs.drop off)
theorem ueS {tot:Nat}:uy7 enc P W base sp held tot [] tot Unit (fun _=>True) (fun _=>[]):=fun n cs hl _=>by
 refine⟨(),trivial,fun ν=> ?_⟩
 rw [List.drop_eq_nil_of_le (by omega)]
 exact .nil ν
theorem uaC {tot off m:Nat} {t:TypeId} {fs:List (Nat×TypeId)} {α β:Type} {pa:α→Prop} {ca:α→List SV} {pb:β→Prop} {cb:β→List SV}(hm:P.cellsOf t=m)(h:Dec enc P W base sp held t α pa ca)(hF:uy7 enc P W base sp held tot fs (off+m) β pb cb):
 uy7 enc P W base sp held tot ((off,t)::fs) off (α×β) (fun p=>pa p.1∧pb p.2) (fun p=>ca p.1++cb p.2):=fun n cs hl hf=>by
 obtain⟨x,hx⟩:=hf (off,t) (by simp)
 obtain⟨a,h1,h2⟩:=h n _ x hx
 obtain⟨b,h3,h4⟩:=hF n cs hl fun f hm=>hf f (List.mem_cons_of_mem _ hm)
 refine⟨(a,b),⟨h1,h3⟩,fun ν=> ?_⟩
 have e:cs.drop off=(cs.drop off).take m++cs.drop (off+m):=by
  rw [←List.drop_drop,List.take_append_drop]
 rw [e,←hm]
 have:=h4 ν
 rw [←hm]at this
 exact udt (h2 ν) this
theorem ugu {t:TypeId} {fs:Array Field} {fl:List (Nat×TypeId)} {tot:Nat} {α:Type} {pa:α→Prop} {ca:α→List SV}(ht:P.underlying t=some (.struct fs))(hfl:fs.toList.map (fun f=>(f.offset,f.type))=fl)(hc:P.cellsOf t=tot)
 (h:uy7 enc P W base sp held tot fl 0 α pa ca):Dec enc P W base sp held t α pa ca:=fun n cs x q=>by
 obtain⟨xs,m,_,_,hl,hlen,hf⟩:=DataW.trod_struct ht q
 obtain⟨a,h1,h2⟩:=h m cs (by rw [hl,hc]) fun f hm=>by
  rw [←hfl]at hm
  obtain⟨fd,hfd,rfl⟩:=List.mem_map.1 hm
  obtain⟨i,hi,rfl⟩:=List.mem_iff_getElem.1 hfd
  simp only [Array.length_toList]at hi
  have:=hf i fs[i] (by simp [hi])
  exact⟨xs[i]'(by omega),by simpa [List.getElem?_eq_getElem (show i<xs.length by omega)]using this⟩
 exact⟨a,h1,fun ν=>by simpa using h2 ν⟩
def Arg (W:World)(v:Value)(α:Type)(pa:α→Prop)(sa:α→SV):Prop:=∃a:α,pa a∧∀ν,Rel (ufC W) ν (sa a) v
theorem uvc {t:TypeId} {fs:Array Field} {r:Reach} {b0:Nat} {v:Value} {d:DataW H} {p:List MemPlace} {α:Type} {pa:α→Prop} {ca:α→List SV}(ht:P.underlying t=some (.struct fs))(hv:Value.okWide P W r b0 t v)
 (h:DataW.Trod enc P W base sp held t v d p) (hd:Dec enc P W base sp held t α pa ca):Arg W v α pa (fun a=>.agg (ca a)):=by
 obtain⟨cs,rfl,_⟩:=okWide_struct ht hv
 obtain⟨n,hn⟩:=h
 obtain⟨a,h1,h2⟩:=hd n _ _ hn
 exact⟨a,h1,fun ν=>by simpa [Value.cells]using h2 ν⟩
theorem uwq {t e:TypeId} {r:Reach} {b0:Nat} {v:Value} {d:DataW H} {p:List MemPlace} {α:Type} {pa:α→Prop} {sz:α→Nat} {na:α→IX} {ea:α→IX→List SV}(ht:P.underlying t=some (.slice e))(hv:Value.okWide P W r b0 t v)
 (h:DataW.Trod enc P W base sp held t v d p) (hd:Dec enc P W base sp held t α pa (fun a=>[.sl (sz a) (na a) (ea a)])):Arg W v α pa (fun a=>.sl (sz a) (na a) (ea a)):=by
 obtain⟨a0,len,cap,rfl⟩:=okWide_slice ht hv
 obtain⟨n,hn⟩:=h
 obtain⟨a,h1,h2⟩:=hd n _ _ hn
 refine⟨a,h1,fun ν=> ?_⟩
 obtain⟨c,rest,q1,q2,_,_⟩:=ucu (by intro n f e;cases e) (h2 ν)
 simp only [Value.cells,List.cons.injEq]at q1
 rw [q1.1];exact q2
theorem uv3 {t:TypeId} {k:IntKind} {r:Reach} {b0:Nat} {v:Value} {d:DataW H} {p:List MemPlace}(ht:P.underlying t=some (.int k))(hv:Value.okWide P W r b0 t v)
 (h:DataW.Trod enc P W base sp held t v d p):Arg W v Int (fun n=>(Lit.int k n).wf=true) (fun n=>.int k (.sym fun _=>n)):=by
 obtain⟨n,rfl,_,_,hw⟩:=open_int ht hv h
 exact⟨n,hw,fun ν=>.int ν k (.sym fun _=>n)⟩
structure Left1 (W W':World):Prop where
 os:W'.os=W.os
 output:W'.output=W.output
 size:W.heap.size≤W'.heap.size
 block:∀b,b<W.heap.size→W'.heap[b]? =W.heap[b]?
theorem uni {f:FuncId} {args:List SV} {vs:Array Value}(hF:ua0 P f args [] (fun r _=>r = .bool (.lit true)))(hr:Rel (ufC W) Vl.nil (.tup args) (.tuple vs)):
 Calls P f vs W fun e W'=>e = .returned (.bool true)∧Left1 W W':=by
 refine(hF.2 (ufC W) Vl.nil W vs (urC W) ⟨fun id blk hb=>by simp at hb,fun id id' b hs=>by simp at hs,fun id b hs=>by simp at hs,fun id b hs=>by simp at hs⟩ hr).mono ?_
 rintro e W' ⟨v,r,bs,μ',ν',rfl,rfl,hrel,hA⟩
 refine⟨?_,⟨hA.frm.os,hA.frm.output,hA.frm.size,fun b hb=>hA.frm.block b hb fun q=>by
  rcases q with⟨id,q,_⟩|q
  ·simp at q
  ·exact unc q⟩⟩
 rw [ubp hrel];rfl
theorem Left1.kept {W':World}(h:Left1 W W')(may:MemPlace→Prop):W.keptBut W' may:=by
 refine⟨h.os,h.output,fun i hi=> ?_⟩
 rw [h.block i hi]
 cases hw:W.heap[i]? with
 |none=>rfl
 | some o=>cases o with
  |cells c t fr=>exact⟨rfl,rfl,rfl,fun _ _=>rfl⟩
  |map es clock=>exact .inr ⟨rfl,rfl⟩
  |_=>rfl
theorem Left1.frozen {W':World}(h:Left1 W W') {a:Addr}(ha:a.block<W.heap.size):W'.frozen? a=W.frozen? a:=by
 unfold World.frozen?
 rw [h.block _ ha]
theorem Left1.sameAt {W':World}(h:Left1 W W') {p:MemPlace}(hp:p.block<W.heap.size):W.sameAt W' p:=by
 cases p with
 | cell b off=>
  show W'.cell? ⟨b,off,none⟩=W.cell? ⟨b,off,none⟩
  unfold World.cell?
  rw [h.block b hp]
 |map b=>exact h.block b hp
theorem ufc {T:TypeId→Prop}(K:Kids P T)(hsz:∀t e,T t→P.underlying t=some (.slice e)→0<P.cellsOf e) {W':World} {sp':Nat→Bool}:∀{ts:List TypeId} {vs:List Value} {ds:List (DataW H)} {ps:List MemPlace},
 (∀t∈ts,T t)→DataW.TrodAll enc P W base (fun _=>true) true ts vs ds ps→(∀p∈ps,W.sameAt W' p)→(∀p∈ps,sp' p.block=true)→DataW.TrodAll enc P W' base sp' true ts vs ds ps
 |[],[],[],_,_,h,_,_=>h
 | _ ::_,_::_,_::_,_,hT,⟨p,q,⟨n,h1⟩,h2,e⟩,hm,hs=>
  ⟨p,q,⟨n,DataW.trod_stays K (fun {t e}=>hsz t e) (fun h=>by cases h) (hT _ (List.mem_cons.2 (.inl rfl))) h1 (fun x hx=>hm x (by rw [e];exact List.mem_append_left _ hx)) (fun x hx=>hs x (by rw [e];exact List.mem_append_left _ hx))⟩,
   ufc K hsz (fun t ht=>hT t (List.mem_cons.2 (.inr ht))) h2 (fun x hx=>hm x (by rw [e];exact List.mem_append_right _ hx)) (fun x hx=>hs x (by rw [e];exact List.mem_append_right _ hx)),e⟩
theorem uq4 {fn:Func} {s:ChangeSpec} {apart fresh handsOn again:Bool} {W':World} {args:Array Value} {ds gs:List (DataW H)} {before:List MemPlace} {tb:TypeId}
 (K:Kids P (· <P.types.size)) (hsz:∀t e,t<P.types.size→P.underlying t=some (.slice e)→0<P.cellsOf e) (hts:∀t∈fn.params.toList,t<P.types.size) (hrt:fn.resultTypes = #[tb]) (htb:P.underlying tb=some .bool)
 (hv0:s.vars=[]) (hW:DataW.Whole enc P fn.params.toList s.vars apart W args.toList ds gs before) (hL:Left1 W W')
 (h1:(s.fn H (ds++gs)).results=[.lit (.bool true)]) (h2:(s.fn H (ds++gs)).args=ds) (h3:(s.fn H (ds++gs)).vars=[]):
 s.post enc P fn apart fresh handsOn again W args (.bool true) W':=by
 have hW':=hW
 obtain⟨p,q,hA,hV,hpq,hz,hn⟩:=hW
 have hgq:gs=[]∧q=[]:=by rw [hv0]at hV;exact trodVars_none hV
 obtain⟨rfl,rfl⟩:=hgq
 simp only [List.append_nil]at hpq
 subst hpq
 have hlt:∀x∈before,x.block<W.heap.size:=fun x hx=>hW'.lt x hx
 have ua4:∀x∈before,(fun b=>decide (b<W.heap.size)) x.block=true:=fun x hx=>by simpa using hlt x hx
 have hargs:∀sp:Nat→Bool,(∀x∈before,sp x.block=true)→DataW.TrodAll enc P W' 0 sp true fn.params.toList args.toList (s.fn H (ds++[])).args before:=fun sp hsp=>by
  rw [h2];exact ufc K hsz hts hA (fun x hx=>hL.sameAt (hlt x hx)) hsp
 have hres:∀(b:Nat) (sp:Nat→Bool) (hd:Bool),DataW.TrodAll enc P W' b sp hd fn.resultTypes.toList ((Value.bool true).resultList fn.resultTypes.size) (s.fn H (ds++[])).results []:=fun b sp hd=>by
  rw [h1,hrt]
  exact trodAll_mk1 (Go.RowKit.shut_bool htb true)
 have hvars:∀sp:Nat→Bool,DataW.TrodVars enc P W' sp s.vars (s.fn H (ds++[])).vars []:=fun sp=>by
  rw [h3,hv0];rfl
 refine⟨ds,[],before,[],before,[],hW',hres _ _ _,hargs _ ua4,hvars _,hL.kept _,fun _=> ?_⟩
 refine⟨?_,_,_,([]++before)++[],⟨[]++before,[],trodAll_append (hargs _ (fun _ _=>rfl)) (hres _ _ _),hvars _,rfl,?_,?_⟩,?_⟩
 ·exact Go.RowKit.ok_one hrt rfl (Go.RowKit.okWide_bool_mk htb true)
 ·intro b off hp
  have hp:MemPlace.cell b off∈before:=by simpa using hp
  rw [hL.frozen (hlt _ hp)]
  exact hz b off hp
 ·intro ha
  simpa using hn ha
 ·intro x hx _
  simpa using hx
end
end Go.Eng
