/- The engine by which contracts are proved. No condition. -/
import Derived.Test.YtpkgnhcfmpbidaaE3
import Derived.DeepKeys
import Derived.WideKeyRuns
import Derived.ChangeSame
import Derived.ChangeSlices
import Derived.JoinedOf
import Derived.JoinedAt
import Derived.RowKit3
import Derived.ReadAgain
import Derived.ChangeStays
import Derived.SizedLaws
import Derived.Shelf.Slices.CompactI
set_option linter.unusedVariables false
set_option linter.unusedSimpArgs false
set_option linter.deprecated false

namespace Go.Eng
open Go
theorem uh9 {P:Program} {d:Nat} {e:TypeId} {k:IntKind}(he:P.plainKey e=true)(hu:P.underlying e=some (.int k)) {xs ys:List Int} {i:Nat}(hx:i<xs.length)(hy:i<ys.length)(W:World):
 (part e ⟨xs.map (Value.int .i64)⟩ i).run P W = .ok (.int .i64 xs[i]) W∧(part e ⟨ys.map (Value.int .i64)⟩ i).run P W = .ok (.int .i64 ys[i]) W∧(Op.equalIn (d+1) e (.int .i64 xs[i]) (.int .i64 ys[i])).run P W = .ok (decide (xs[i]? =ys[i]?)) W:=by
 refine⟨run_part_plain W he (by simp [hx]),run_part_plain W he (by simp [hy]),?_⟩
 rw [run_equalIn_int W d e _ k _ _ hu,List.getElem?_eq_getElem hx,List.getElem?_eq_getElem hy]
 congr 1
 by_cases q:xs[i]=ys[i]<;>simp [q]
theorem uiX {P:Program} {d:Nat} {e:TypeId} {k:IntKind}(he:P.plainKey e=true)(hu:P.underlying e=some (.int k)) {xs ys:List Int}(W:World):∀is:List Nat,(∀i∈is,i<xs.length∧i<ys.length) →
 (Op.eqItems (d+1) e 1 ⟨xs.map (Value.int .i64)⟩ ⟨ys.map (Value.int .i64)⟩ is).run P W = .ok (decide (∀i∈is,xs[i]? =ys[i]?)) W:=by
 intro is
 induction is with
 |nil=>intro _;simp [Op.eqItems]
 | cons i is ih=>
  intro h
  obtain⟨hx,hy⟩:=h i (by simp)
  obtain⟨p1,p2,p3⟩:=uh9 (d:=d) he hu hx hy W
  have ih:=ih fun j hj=>h j (List.mem_cons_of_mem _ hj)
  simp only [Op.eqItems,Nat.mul_one,Sem.run_bind,p1,p2,p3,Result.andThen_ok]
  by_cases q:xs[i]? =ys[i]?
  ·simp only [q,decide_true,Bool.not_true,Bool.false_eq_true,if_false,ih]
   congr 1
   simp [q]
  ·simp only [q,decide_false,Bool.not_false,if_true,Sem.run_pure]
   congr 1
   simp [q]
theorem uhB {P:Program} {d:Nat} {xs ys:List Int}(W:World):∀fs:List Field,(∀f∈fs,f.name≠ "_"∧P.plainKey f.type=true∧(∃k,P.underlying f.type=some (.int k))∧f.offset<xs.length∧f.offset<ys.length) →
 (Op.eqFields (d+1) ⟨xs.map (Value.int .i64)⟩ ⟨ys.map (Value.int .i64)⟩ fs).run P W = .ok (decide (∀f∈fs,xs[f.offset]? =ys[f.offset]?)) W:=by
 intro fs
 induction fs with
 |nil=>intro _;simp [Op.eqFields]
 | cons f fs ih=>
  intro h
  obtain⟨hn,he,⟨k,hu⟩,hx,hy⟩:=h f (by simp)
  obtain⟨p1,p2,p3⟩:=uh9 (d:=d) he hu hx hy W
  have ih:=ih fun j hj=>h j (List.mem_cons_of_mem _ hj)
  simp only [Op.eqFields,hn,ne_eq,not_false_eq_true,if_true,Sem.run_bind,p1,p2,p3,Result.andThen_ok]
  by_cases q:xs[f.offset]? =ys[f.offset]?
  ·simp only [q,decide_true,Bool.not_true,Bool.false_eq_true,if_false,ih]
   congr 1
   simp [q]
  ·simp only [q,decide_false,Bool.not_false,if_true,Sem.run_pure]
   congr 1
   simp [q]
theorem uqP {P:Program} {t e:TypeId} {n:Nat} {k:IntKind} {i:TypeInfo}(hu:P.underlying t=some (.array n e))(hi:P.info? e=some i)(he:P.plainKey e=true)(hue:P.underlying e=some (.int k))(hc:P.cellsOf e=1)
 (hg:Program.eqGuardType P P.depth t=false):umK P t n:=by
 intro xs ys W hx hy
 refine⟨?_,hg⟩
 show(Op.equalIn (9999+1) t _ _).run P W=_
 rw [run_equalIn_array W 9999 _ _ hu hi,hc]
 rw [show(9999:Nat)=9998+1 from rfl,uiX he hue W _ fun j hj=>by have:=List.mem_range.1 hj;omega]
 congr 1
 have:(∀j∈List.range n,xs[j]? =ys[j]?)↔xs=ys:=⟨fun h=>List.ext_getElem? fun j=>by
  by_cases q:j<n
  ·exact h j (List.mem_range.2 q)
  ·rw [List.getElem?_eq_none (by omega),List.getElem?_eq_none (by omega)],fun h j _=>by rw [h]⟩
 simp only [this]
theorem uqk {P:Program} {t:TypeId} {n:Nat}(hu:P.underlying t=some (.struct (P.fieldsOf t)))(hp:P.stoodInHeld t=false)
 (hf:∀f∈(P.fieldsOf t).toList,f.name≠ "_"∧P.plainKey f.type=true∧(∃k,P.underlying f.type=some (.int k))∧f.offset<n) (ho:∀j,j<n→∃f∈(P.fieldsOf t).toList,f.offset=j)
 (hg:Program.eqGuardType P P.depth t=false):umK P t n:=by
 intro xs ys W hx hy
 refine⟨?_,hg⟩
 show(Op.equalIn (9999+1) t _ _).run P W=_
 rw [run_equalIn_struct W 9999 t _ _ hu hp]
 rw [show(9999:Nat)=9998+1 from rfl,uhB W _ fun f hm=>by
  obtain⟨a,b,c,d⟩:=hf f hm
  exact⟨a,b,c,by omega,by omega⟩]
 congr 1
 have:(∀f∈(P.fieldsOf t).toList,xs[f.offset]? =ys[f.offset]?)↔xs=ys:=⟨fun h=>List.ext_getElem? fun j=>by
  by_cases q:j<n
  ·obtain⟨f,hm,rfl⟩:=ho j q
   exact h f hm
  ·rw [List.getElem?_eq_none (by omega),List.getElem?_eq_none (by omega)],fun h f _=>by rw [h]⟩
 simp only [this]
def ukX :Option TypeDesc→Bool
 |some (.int _)=>true
 |_=>false
def uvF (P:Program)(t:TypeId)(n:Nat):Bool:=match P.underlying t with
 |some (.struct fs)=>fs.toList.all (fun f=>f.name != "_"&&P.plainKey f.type&&ukX (P.underlying f.type)&&decide (f.offset<n))&&(List.range n).all (fun j=>fs.toList.any fun f=>f.offset==j)&& !P.stoodInHeld t&& !Program.eqGuardType P P.depth t
 |_=>false
def uy0 (P:Program)(t e:TypeId)(n:Nat):Bool:=match P.underlying t with
 |some (.array m e')=>m==n&&e'==e&&(P.info? e).isSome&&P.plainKey e&&ukX (P.underlying e)&&P.cellsOf e==1&& !Program.eqGuardType P P.depth t
 |_=>false
theorem ueu {u:Option TypeDesc}(h:ukX u=true):∃k,u=some (.int k):=by
 unfold ukX at h
 split at h
 ·exact⟨_,rfl⟩
 ·cases h
theorem ueZ {P:Program} {t:TypeId} {n:Nat}(h:uvF P t n=true):umK P t n:=by
 unfold uvF at h
 split at h
 ·rename_i fs hu
  have hfo:P.fieldsOf t=fs:=by simp [Program.fieldsOf,hu]
  simp only [Bool.and_eq_true,Bool.not_eq_true',List.all_eq_true,bne_iff_ne,decide_eq_true_eq,List.any_eq_true,beq_iff_eq,List.mem_range]at h
  obtain⟨⟨⟨h1,h2⟩,h3⟩,h4⟩:=h
  exact uqk (by rw [hfo];exact hu) h3 (fun f hf=>by rw [hfo]at hf;obtain⟨⟨⟨a,b⟩,c⟩,d⟩:=h1 f hf;exact⟨a,b,ueu c,d⟩) (fun j hj=>by rw [hfo];exact h2 j hj) h4
 ·cases h
theorem uog {P:Program} {t e:TypeId} {n:Nat}(h:uy0 P t e n=true):umK P t n:=by
 unfold uy0 at h
 split at h
 ·rename_i m e' hu
  simp only [Bool.and_eq_true,Bool.not_eq_true',beq_iff_eq]at h
  obtain⟨⟨⟨⟨⟨⟨rfl,rfl⟩,h1⟩,h2⟩,h3⟩,h4⟩,h5⟩:=h
  obtain⟨i,hi⟩:=Option.isSome_iff_exists.1 h1
  obtain⟨k,hk⟩:=ueu h3
  exact uqP hu hi h2 hk h4 h5
 ·cases h
end Go.Eng

namespace Go.Eng
open Go
theorem uk1 {L:List Int} {x:Int} {i:Nat}(h:i<L.length):(L++[x]).getD i 0=L.getD i 0:=by
 simp only [List.getD_eq_getElem?_getD]
 rw [List.getElem?_append_left h]
theorem ujF {L:List Int} {x:Int} {i:Nat}(h:i=L.length):(L++[x]).getD i 0=x:=by
 subst h
 simp only [List.getD_eq_getElem?_getD]
 rw [List.getElem?_append_right (Nat.le_refl _),Nat.sub_self];rfl
def ulF (L:List Int)(ix:IX):List SV:=[.int .i64 (.sym fun _=>L.getD ix.den.toNat 0)]
theorem ucQ {n m b:Int} {L L2:List Int} {x:Int} {e new:IX→List SV}(h2:L2=L++[x])(hn:n=(L.length:Int))(hm:m=1)(he:∀ix,Fit (.agg (e ix)) (.agg (ulF L ix)))(hx:∀ix:IX,ix.den=0→Fit (.agg (new ix)) (.agg [.int .i64 (.sym fun _=>x)]))(hb:(n+1)*b≤140737488355328):
 uap (ucI n e m new (ulF L2)∧0≤n∧0≤m∧(n+m)*b≤140737488355328):=by
 subst hm
 subst h2
 refine uaH (fun ix jx h0 h1 h2=>(he ix).trans (qC (qE ?_) rfl qA)) (fun ix jx h0 h1 h2=>(hx ix (by omega)).trans (qC (qE ?_) rfl qA)) ⟨by omega,by omega,hb⟩
 ·simp only [ugt,h2]
  exact(uk1 (by omega)).symm
 ·simp only [ugt]
  exact(ujF (by omega)).symm
end Go.Eng

namespace Go.Eng
open Go
theorem uhN {P:Program} {t:TypeId} {n d:Nat} {fs:Array Field}(em:Bool)(hu:P.underlying t=some (.struct fs))(hf:∀f∈fs.toList,f.name≠ "_"∧P.plainKey f.type=true∧(∃k,P.underlying f.type=some (.int k))∧f.offset<n)
 {xs:List Int} (hx:xs.length=n) (W:World):(Instr.checkKey em (d+1+1) t (.agg ⟨xs.map (Value.int .i64)⟩)).run P W = .ok () W:=by
 rw [Instr.checkKey]
 simp only [Sem.run_bind,run_underlying hu,Result.andThen_ok]
 rw [←Array.forIn_toList]
 generalize fs.toList=L at hf
 induction L with
 |nil=>simp
 | cons f L ih=>
  obtain⟨hn,hp,⟨k,hk⟩,ho⟩:=hf f (by simp)
  have hlt:f.offset<xs.length:=by omega
  have p1:(part f.type ⟨xs.map (Value.int .i64)⟩ f.offset).run P W = .ok (.int .i64 xs[f.offset]) W:=run_part_plain W hp (by simp [hlt])
  have p2:(Instr.checkKey em (d+1) f.type (.int .i64 xs[f.offset])).run P W = .ok () W:=by simp [Instr.checkKey,run_underlying hk]
  simp only [List.forIn_cons,Sem.run_bind,hn,ne_eq,not_false_eq_true,if_true,Result.andThen_ok,p1,p2,Sem.run_pure]
  exact ih (fun y hy=>hf y (by simp [hy]))
theorem unT {xs ys:List Int}(h:ubc false xs=ubc false ys):xs=ys:=by
 unfold ubc at h
 injection h with h
 injection h with h
 exact List.map_inj_right (fun a b q=>by injection q) |>.1 h
theorem ugA {P:Program} {t:TypeId} {n:Nat}(h:umK P t n) {xs:List Int}(hx:xs.length=n)(W:World):∀(es:List MapEntry) (i:Nat),(∀e∈es,∃ks:List Int,ks.length=n∧e.key=ubc false ks) →
 ∃r,(Instr.findAsking t (ubc false xs) es i).run P W = .ok r W∧((r=none∧∀e∈es,e.key≠ubc false xs)∨∃j e,es[j]? =some e∧e.key=ubc false xs∧r=some (i+j,e.val)):=by
 intro es
 induction es with
 |nil=>intro i _;exact⟨none,by simp [Instr.findAsking],.inl ⟨rfl,fun e he=>by cases he⟩⟩
 | cons e es ih=>
  intro i hes
  obtain⟨ks,hk,hke⟩:=hes e (by simp)
  have he:(Op.equal t (ubc false xs) e.key).run P W = .ok (decide (xs=ks)) W:=by rw [hke];exact(h xs ks W hx hk).1
  rw [Instr.findAsking]
  simp only [Sem.run_bind,he,Result.andThen_ok]
  by_cases q:xs=ks
  ·subst q
   exact⟨some (i,e.val),by simp,.inr ⟨0,e,rfl,hke,rfl⟩⟩
  ·obtain⟨r,hr,hc⟩:=ih (i+1) fun e' he'=>hes e' (by simp [he'])
   refine⟨r,by simpa [q]using hr,?_⟩
   rcases hc with⟨h1,h2⟩|⟨j,e',h1,h2,h3⟩
   ·refine .inl ⟨h1,fun e' he'=> ?_⟩
    rcases List.mem_cons.1 he' with rfl|he'
    ·rw [hke];exact fun hc=>q (unT hc).symm
    ·exact h2 e' he'
   ·exact .inr ⟨j+1,e',by simpa using h1,h2,by rw [h3,show i+1+j=i+(j+1) by omega]⟩
theorem ulv {P:Program} {t:TypeId} {n:Nat}(h:uvF P t n=true):ujT P t false n:=by
 have hE:=ueZ h
 unfold uvF at h
 split at h
 ·rename_i fs hu
  simp only [Bool.and_eq_true,Bool.not_eq_true',List.all_eq_true,bne_iff_ne,decide_eq_true_eq,List.any_eq_true,beq_iff_eq,List.mem_range]at h
  obtain⟨⟨⟨h1,h2⟩,h3⟩,h4⟩:=h
  intro xs W hx
  refine⟨fun em=>uhN (d:=9998) em hu (fun f hf=>by obtain⟨⟨⟨a,b⟩,c⟩,d⟩:=h1 f hf;exact⟨a,b,ueu c,d⟩) hx W,fun es hes=> ?_⟩
  obtain⟨r,hr,hc⟩:=ugA hE hx W es 0 hes
  refine⟨r,by rw [run_findKey_eq W (by rw [hu])];exact hr,?_⟩
  rcases hc with hc|⟨j,e,a,b,c⟩
  ·exact .inl hc
  ·exact .inr ⟨j,e,a,b,by rw [c,Nat.zero_add]⟩
 ·cases h
end Go.Eng

namespace Go.Eng
open Go
def vI (ag:Bool)(xs:List Int):Value:=if ag=true then .agg ⟨xs.map (Value.int .i64)⟩else .int .i64 (xs.headD 0)
structure DeepE (P:Program)(dd:Nat)(e:TypeId)(n:Nat)(ag:Bool):Prop where
 part:∀(xs:List Int) (off:Nat) (W:World),off+n≤xs.length→(Go.part e ⟨xs.map (Value.int .i64)⟩ off).run P W = .ok (vI ag ((xs.drop off).take n)) W
 eq:∀(xs ys:List Int) (W:World),xs.length=n→ys.length=n→(Op.equalIn dd e (vI ag xs) (vI ag ys)).run P W = .ok (decide (xs=ys)) W
structure Deep (P:Program)(dd:Nat)(e:TypeId)(n:Nat)(ag:Bool):Prop extends DeepE P dd e n ag where
 check:∀(em:Bool) (xs:List Int) (W:World),xs.length=n→(Instr.checkKey em dd e (vI ag xs)).run P W = .ok () W
end Go.Eng

namespace Go.Eng
open Go Go.ChangeShapes Go.WideShapes
def ufa (W:World):Mem:=fun b=>match W.heap[b]? with
 |some (.cells c _ _)=>some (.arr c)
 |_=>none
theorem uqV (W:World):ubR (ufa W) W:=fun b c h=>by
 unfold ufa at h
 split at h
 ·rename_i h1
  cases h
  exact⟨_,_,h1⟩
 ·cases h
theorem umw {W:World} {b:Nat}(h:uaz (ufa W) b):False:=by
 obtain⟨kt,vt,sc,nk,F,h⟩:=h
 unfold ufa at h
 split at h<;>cases h
section
variable {H:Type} {enc:TypeId×Value→H} {P:Program} {W:World} {base:Nat} {sp:Nat→Bool} {held:Bool}
def Dec (enc:TypeId×Value→H)(P:Program)(W:World)(base:Nat)(sp:Nat→Bool)(held:Bool)(t:TypeId)(α:Type)(pa:α→Prop)(ca:α→List SV):Prop:=
 ∀n cs x,DataW.trod enc P W base sp held n t cs=some x→∃a:α,pa a∧∀ν,ubp (ufa W) ν (ca a) cs
theorem usI {t:TypeId} {k:IntKind}(ht:P.underlying t=some (.int k)):Dec enc P W base sp held t Int (fun n=>(Lit.int k n).wf=true) (fun n=>[.int k (.sym fun _=>n)]):=fun n cs x h=>by
 obtain⟨m,rfl,rfl,hw⟩:=DataW.trod_int ht h
 exact⟨m,hw,fun ν=>.cons ν _ _ _ _ (.int ν k (.sym fun _=>m)) rfl (.nil ν)⟩
theorem ucW {t:TypeId} {α β:Type} {pa:α→Prop} {ca:α→List SV}(f:α→β) {pb:β→Prop} {cb:β→List SV}(h:Dec enc P W base sp held t α pa ca)(hp:∀a,pa a→pb (f a))(hc:∀a,ca a=cb (f a)):Dec enc P W base sp held t β pb cb:=fun n cs x q=>by
 obtain⟨a,h1,h2⟩:=h n cs x q
 exact⟨f a,hp a h1,fun ν=>hc a▸h2 ν⟩
theorem ug4 {a:Addr} {m:Nat} {cs:List Value}(h:W.cells? base a m=some cs):cs.length=m∧∀j,j<m→W.cell? (a.add j)=cs[j]? :=by
 unfold World.cells? at h
 split at h
 ·refine⟨by simpa using mapM_some_length h,fun j hj=>mapM_some_get h j j (by simp [hj])⟩
 ·cases h
theorem ul2 {t e:TypeId} {sz:Nat} {α:Type} {pa:α→Prop} {ca:α→List SV}(d:α)(ht:P.underlying t=some (.slice e))(hc:P.cellsOf e=sz)(hz:0<sz)(he:Dec enc P W base sp held e α pa ca):
 Dec enc P W base sp held t (List α) (fun l=>(∀a∈l,pa a)∧l.length≤maxLen) (fun l=>[.sl sz (.sym fun _=>zi l.length) (fun ix=>ca (l.getD ix.den.toNat d))]):=fun n cs x h=>by
 rcases DataW.trod_slice ht h with⟨rfl,_⟩|⟨a,len,cap,elems,rest,m,_,rfl,_,_,hl,hm,hlen,hel,_,_⟩
 ·exact⟨[],⟨fun a ha=>(by cases ha),Nat.zero_le _⟩,fun ν=>.cons ν _ _ _ _ (.slnil ν _ _ _ none 0 rfl (Nat.zero_le _)) rfl (.nil ν)⟩
 ·have each : ∀i,i<len→∃a':α,pa a'∧∃csi,W.cells? base (a.add (i*sz)) sz=some csi∧∀ν,ubp (ufa W) ν (ca a') csi:=fun i hi=>by
   have:=hel i hi
   rw [List.getElem?_eq_getElem (by omega),hc]at this
   obtain⟨csi,h1,h2⟩:=Option.bind_eq_some_iff.1 this
   obtain⟨a',p1,p2⟩:=he m csi _ h2
   exact⟨a',p1,csi,h1,p2⟩
  obtain⟨g,hg⟩:∃g:Nat→α,∀i,i<len→pa (g i)∧∃csi,W.cells? base (a.add (i*sz)) sz=some csi∧∀ν,ubp (ufa W) ν (ca (g i)) csi:=by
   refine⟨fun i=>open Classical in if hi:i<len then Classical.choose (each i hi)else d,fun i hi=> ?_⟩
   simp only [hi,dite_true]
   exact Classical.choose_spec (each i hi)
  have hll:((List.range len).map g).length=len:=by simp
  have hgd:∀i,i<len→((List.range len).map g).getD i d=g i:=fun i hi=>by
   rw [List.getD_eq_getElem?_getD,List.getElem?_map,List.getElem?_range hi];rfl
  refine⟨(List.range len).map g,⟨fun a' ha=> ?_,by rw [hll];exact Nat.le_trans hl hm⟩,fun ν=>.cons ν _ _ _ _ ?_ rfl (.nil ν)⟩
  ·obtain⟨i,hi,rfl⟩:=List.mem_map.1 ha
   exact(hg i (List.mem_range.1 hi)).1
  ·by_cases h0:len=0
   ·subst h0
    exact .slnil ν _ _ _ _ cap (by show zi _=0;rw [hll];rfl) hm
   ·obtain ⟨b,o,spot⟩:=a
    have hspot:spot=none:=by
     obtain⟨_,csi,h1,_⟩:=hg 0 (by omega)
     obtain⟨l1,l2⟩:=ug4 h1
     have:=l2 0 hz
     rw [List.getElem?_eq_getElem (by omega)]at this
     exact World.cell?_spot (a:=⟨b,o,spot⟩) (by simpa [Addr.add]using this)
    subst hspot
    have hadd:∀k,(⟨b,o,none⟩:Addr).add k=⟨b,o+k,none⟩:=fun k=>by
     unfold Addr.add
     split
     ·rename_i h;rw [h];rfl
     ·rfl
    have hcell:∀i,i<len→∀j,j<sz→∃csi,W.cells? base ((⟨b,o,none⟩:Addr).add (i*sz)) sz=some csi∧W.cell? ⟨b,o+i*sz+j,none⟩=csi[j]? ∧csi.length=sz:=fun i hi j hj=>by
     obtain⟨_,csi,h1,_⟩:=hg i hi
     have:=ug4 h1
     refine⟨csi,h1,?_,this.1⟩
     have h2:=this.2 j hj
     rw [hadd]at h2
     have e:(⟨b,o+i*sz,none⟩:Addr).add j=⟨b,o+i*sz+j,none⟩:=by
      unfold Addr.add
      split
      ·rename_i h;rw [h];rfl
      ·rfl
     rw [e]at h2
     exact h2
    obtain⟨cs0,q1,q2,q3⟩:=hcell 0 (by omega) 0 hz
    have hsome:W.cell? ⟨b,o+0*sz+0,none⟩=some cs0[0]:=by rw [q2,List.getElem?_eq_getElem (by omega)]
    obtain⟨cur,et,fr,hcur⟩:∃cur et fr,W.heap[b]? =some (.cells cur et fr):=by
     unfold World.cell? at hsome
     split at hsome
     ·rename_i h1;exact⟨_,_,_,h1⟩
     ·cases hsome
    have hmu:ufa W b=some (.arr cur):=by unfold ufa;rw [hcur]
    have hat:∀k,W.cell? ⟨b,k,none⟩=cur[k]? :=fun k=>by
     unfold World.cell?
     simp [hcur]
    refine .sl ν sz _ _ b o len cap cur hmu (by show zi _=_;rw [hll];rfl) hl hm (by omega) (fun ix i0 i1=> ?_) ?_
    ·have hi:ix.den.toNat<len:=by
      have i2:ix.den<zi ((List.range len).map g).length:=i1
      rw [hll,uaw]at i2
      omega
     obtain⟨_,csi,h1,h2⟩:=hg ix.den.toNat hi
     have e1:(cur.extract (o+ix.den.toNat*sz) (o+ix.den.toNat*sz+sz))=⟨csi⟩:=by
      obtain⟨l1,l2⟩:=ug4 h1
      apply Array.ext_getElem?
      intro j
      have hm1:(⟨csi⟩:Array Value)[j]? =csi[j]? :=by simp
      rw [hm1,Array.getElem?_extract]
      by_cases hj:j<sz
      ·obtain⟨csj,k1,k2,_⟩:=hcell ix.den.toNat hi j hj
       have k3:csj=csi:=Option.some.inj (k1.symm.trans h1)
       subst k3
       rw [hat]at k2
       have hlt:o+ix.den.toNat*sz+j<cur.size:=by
        rw [List.getElem?_eq_getElem (by omega)]at k2
        exact(Array.getElem?_eq_some_iff.1 k2).1
       rw [if_pos (by omega)]
       exact k2
      ·rw [List.getElem?_eq_none (by omega),if_neg (by omega)]
     rw [e1,hgd _ hi]
     exact h2 Vl.nil
    ·obtain⟨csl,p1,p2,p3⟩:=hcell (len-1) (by omega) (sz-1) (by omega)
     rw [hat,List.getElem?_eq_getElem (by omega)]at p2
     have:=(Array.getElem?_eq_some_iff.1 p2).1
     have e3:len*sz=(len-1)*sz+sz:=by
      rw [←Nat.succ_mul];congr 1;omega
     omega
def uvA (enc:TypeId×Value→H)(P:Program)(W:World)(base:Nat)(sp:Nat→Bool)(held:Bool)(tot:Nat)(fs:List (Nat×TypeId))(off:Nat)(α:Type)(pa:α→Prop)(ca:α→List SV):Prop:=
 ∀n (cs:List Value),cs.length=tot→(∀f∈fs,∃x,DataW.trod enc P W base sp held n f.2 ((cs.drop f.1).take (P.cellsOf f.2))=some x)→∃a:α,pa a∧∀ν,ubp (ufa W) ν (ca a) (cs.drop off)
theorem ued {tot:Nat}:uvA enc P W base sp held tot [] tot Unit (fun _=>True) (fun _=>[]):=fun n cs hl _=>by
 refine⟨(),trivial,fun ν=> ?_⟩
 rw [List.drop_eq_nil_of_le (by omega)]
 exact .nil ν
theorem uaF {tot off m:Nat} {t:TypeId} {fs:List (Nat×TypeId)} {α β:Type} {pa:α→Prop} {ca:α→List SV} {pb:β→Prop} {cb:β→List SV}(hm:P.cellsOf t=m)(h:Dec enc P W base sp held t α pa ca)(hF:uvA enc P W base sp held tot fs (off+m) β pb cb):
 uvA enc P W base sp held tot ((off,t)::fs) off (α×β) (fun p=>pa p.1∧pb p.2) (fun p=>ca p.1++cb p.2):=fun n cs hl hf=>by
 obtain⟨x,hx⟩:=hf (off,t) (by simp)
 obtain⟨a,h1,h2⟩:=h n _ x hx
 obtain⟨b,h3,h4⟩:=hF n cs hl fun f hm=>hf f (List.mem_cons_of_mem _ hm)
 refine⟨(a,b),⟨h1,h3⟩,fun ν=> ?_⟩
 have e:cs.drop off=(cs.drop off).take m++cs.drop (off+m):=by
  rw [←List.drop_drop,List.take_append_drop]
 rw [e,←hm]
 have:=h4 ν
 rw [←hm]at this
 exact udo (h2 ν) this
theorem ufw {t:TypeId} {fs:Array Field} {fl:List (Nat×TypeId)} {tot:Nat} {α:Type} {pa:α→Prop} {ca:α→List SV}(ht:P.underlying t=some (.struct fs))(hfl:fs.toList.map (fun f=>(f.offset,f.type))=fl)(hc:P.cellsOf t=tot)
 (h:uvA enc P W base sp held tot fl 0 α pa ca):Dec enc P W base sp held t α pa ca:=fun n cs x q=>by
 obtain⟨xs,m,_,_,hl,hlen,hf⟩:=DataW.trod_struct ht q
 obtain⟨a,h1,h2⟩:=h m cs (by rw [hl,hc]) fun f hm=>by
  rw [←hfl]at hm
  obtain⟨fd,hfd,rfl⟩:=List.mem_map.1 hm
  obtain⟨i,hi,rfl⟩:=List.mem_iff_getElem.1 hfd
  simp only [Array.length_toList]at hi
  have:=hf i fs[i] (by simp [hi])
  exact⟨xs[i]'(by omega),by simpa [List.getElem?_eq_getElem (show i<xs.length by omega)]using this⟩
 exact⟨a,h1,fun ν=>by simpa using h2 ν⟩
def Arg (W:World)(v:Value)(α:Type)(pa:α→Prop)(sa:α→SV):Prop:=∃a:α,pa a∧∀ν,Rel (ufa W) ν (sa a) v
theorem urK {t:TypeId} {fs:Array Field} {r:Reach} {b0:Nat} {v:Value} {d:DataW H} {p:List MemPlace} {α:Type} {pa:α→Prop} {ca:α→List SV}(ht:P.underlying t=some (.struct fs))(hv:Value.okWide P W r b0 t v)
 (h:DataW.Trod enc P W base sp held t v d p) (hd:Dec enc P W base sp held t α pa ca):Arg W v α pa (fun a=>.agg (ca a)):=by
 obtain⟨cs,rfl,_⟩:=okWide_struct ht hv
 obtain⟨n,hn⟩:=h
 obtain⟨a,h1,h2⟩:=hd n _ _ hn
 exact⟨a,h1,fun ν=>by simpa [Value.cells]using h2 ν⟩
theorem ui3 {t:TypeId} {k:IntKind} {r:Reach} {b0:Nat} {v:Value} {d:DataW H} {p:List MemPlace}(ht:P.underlying t=some (.int k))(hv:Value.okWide P W r b0 t v)
 (h:DataW.Trod enc P W base sp held t v d p):Arg W v Int (fun n=>(Lit.int k n).wf=true) (fun n=>.int k (.sym fun _=>n)):=by
 obtain⟨n,rfl,_,_,hw⟩:=open_int ht hv h
 exact⟨n,hw,fun ν=>.int ν k (.sym fun _=>n)⟩
structure Left1 (W W':World):Prop where
 os:W'.os=W.os
 output:W'.output=W.output
 size:W.heap.size≤W'.heap.size
 block:∀b,b<W.heap.size→W'.heap[b]? =W.heap[b]?
theorem ulZ {f:FuncId} {args:List SV} {vs:Array Value}(hF:ua0 P f args [] (fun r _=>r = .bool (.lit true)))(hr:Rel (ufa W) Vl.nil (.tup args) (.tuple vs)):
 Calls P f vs W fun e W'=>e = .returned (.bool true)∧Left1 W W':=by
 refine(hF.2 (ufa W) Vl.nil W vs (uqV W) ⟨fun id blk hb=>by simp at hb,fun id id' b hs=>by simp at hs,fun id b hs=>by simp at hs,fun id b hs=>by simp at hs⟩ hr).mono ?_
 rintro e W' ⟨v,r,bs,μ',ν',rfl,rfl,hrel,hA⟩
 refine⟨?_,⟨hA.frm.os,hA.frm.output,hA.frm.size,fun b hb=>hA.frm.block b hb fun q=>by
  rcases q with⟨id,q,_⟩|q
  ·simp at q
  ·exact umw q⟩⟩
 rw [ubm hrel];rfl
theorem Left1.kept {W':World}(h:Left1 W W')(may:MemPlace→Prop):W.keptBut W' may:=by
 refine⟨h.os,h.output,fun i hi=> ?_⟩
 rw [h.block i hi]
 cases hw:W.heap[i]? with
 |none=>rfl
 | some o=>cases o with
  |cells c t fr=>exact⟨rfl,rfl,rfl,fun _ _=>rfl⟩
  |map es clock=>exact .inr ⟨rfl,rfl⟩
  |_=>rfl
theorem Left1.frozen {W':World}(h:Left1 W W') {a:Addr}(ha:a.block<W.heap.size):W'.frozen? a=W.frozen? a:=by
 unfold World.frozen?
 rw [h.block _ ha]
theorem Left1.sameAt {W':World}(h:Left1 W W') {p:MemPlace}(hp:p.block<W.heap.size):W.sameAt W' p:=by
 cases p with
 | cell b off=>
  show W'.cell? ⟨b,off,none⟩=W.cell? ⟨b,off,none⟩
  unfold World.cell?
  rw [h.block b hp]
 |map b=>exact h.block b hp
theorem ueE {T:TypeId→Prop}(K:Kids P T)(hsz:∀t e,T t→P.underlying t=some (.slice e)→0<P.cellsOf e) {W':World} {sp':Nat→Bool}:∀{ts:List TypeId} {vs:List Value} {ds:List (DataW H)} {ps:List MemPlace},
 (∀t∈ts,T t)→DataW.TrodAll enc P W base (fun _=>true) true ts vs ds ps→(∀p∈ps,W.sameAt W' p)→(∀p∈ps,sp' p.block=true)→DataW.TrodAll enc P W' base sp' true ts vs ds ps
 |[],[],[],_,_,h,_,_=>h
 | _ ::_,_::_,_::_,_,hT,⟨p,q,⟨n,h1⟩,h2,e⟩,hm,hs=>
  ⟨p,q,⟨n,DataW.trod_stays K (fun {t e}=>hsz t e) (fun h=>by cases h) (hT _ (List.mem_cons.2 (.inl rfl))) h1 (fun x hx=>hm x (by rw [e];exact List.mem_append_left _ hx)) (fun x hx=>hs x (by rw [e];exact List.mem_append_left _ hx))⟩,
   ueE K hsz (fun t ht=>hT t (List.mem_cons.2 (.inr ht))) h2 (fun x hx=>hm x (by rw [e];exact List.mem_append_right _ hx)) (fun x hx=>hs x (by rw [e];exact List.mem_append_right _ hx)),e⟩
theorem unl {fn:Func} {s:ChangeSpec} {apart fresh handsOn again:Bool} {W':World} {args:Array Value} {ds gs:List (DataW H)} {before:List MemPlace} {tb:TypeId}
 (K:Kids P (· <P.types.size)) (hsz:∀t e,t<P.types.size→P.underlying t=some (.slice e)→0<P.cellsOf e) (hts:∀t∈fn.params.toList,t<P.types.size) (hrt:fn.resultTypes = #[tb]) (htb:P.underlying tb=some .bool)
 (hv0:s.vars=[]) (hW:DataW.Whole enc P fn.params.toList s.vars apart W args.toList ds gs before) (hL:Left1 W W')
 (h1:(s.fn H (ds++gs)).results=[.lit (.bool true)]) (h2:(s.fn H (ds++gs)).args=ds) (h3:(s.fn H (ds++gs)).vars=[]):
 s.post enc P fn apart fresh handsOn again W args (.bool true) W':=by
 have hW':=hW
 obtain⟨p,q,hA,hV,hpq,hz,hn⟩:=hW
 have hgq:gs=[]∧q=[]:=by rw [hv0]at hV;exact trodVars_none hV
 obtain⟨rfl,rfl⟩:=hgq
 simp only [List.append_nil]at hpq
 subst hpq
 have hlt:∀x∈before,x.block<W.heap.size:=fun x hx=>hW'.lt x hx
 have ua3:∀x∈before,(fun b=>decide (b<W.heap.size)) x.block=true:=fun x hx=>by simpa using hlt x hx
 have hargs:∀sp:Nat→Bool,(∀x∈before,sp x.block=true)→DataW.TrodAll enc P W' 0 sp true fn.params.toList args.toList (s.fn H (ds++[])).args before:=fun sp hsp=>by
  rw [h2];exact ueE K hsz hts hA (fun x hx=>hL.sameAt (hlt x hx)) hsp
 have hres:∀(b:Nat) (sp:Nat→Bool) (hd:Bool),DataW.TrodAll enc P W' b sp hd fn.resultTypes.toList ((Value.bool true).resultList fn.resultTypes.size) (s.fn H (ds++[])).results []:=fun b sp hd=>by
  rw [h1,hrt]
  exact trodAll_mk1 (Go.RowKit.shut_bool htb true)
 have hvars:∀sp:Nat→Bool,DataW.TrodVars enc P W' sp s.vars (s.fn H (ds++[])).vars []:=fun sp=>by
  rw [h3,hv0];rfl
 refine⟨ds,[],before,[],before,[],hW',hres _ _ _,hargs _ ua3,hvars _,hL.kept _,fun _=> ?_⟩
 refine⟨?_,_,_,([]++before)++[],⟨[]++before,[],trodAll_append (hargs _ (fun _ _=>rfl)) (hres _ _ _),hvars _,rfl,?_,?_⟩,?_⟩
 ·exact Go.RowKit.ok_one hrt rfl (Go.RowKit.okWide_bool_mk htb true)
 ·intro b off hp
  have hp:MemPlace.cell b off∈before:=by simpa using hp
  rw [hL.frozen (hlt _ hp)]
  exact hz b off hp
 ·intro ha
  simpa using hn ha
 ·intro x hx _
  simpa using hx
end
end Go.Eng

namespace Go.Eng
open Go
theorem ujr {P:Program} {f:FuncId} {sz T N k:Nat} {nt:IX} {elem:IX→List SV} {el':Nat→IX→List SV} {nn:Nat→IX} {cN:SV}(hnt:nt.den=(T:Int))(hT:0<T)(hTm:T≤maxLen)(hN:0<N)(hk:N*k≤T)(hnn:∀i,(nn i).den=(N:Int))
 (hel:∀i,i<k→∀ix:IX,0≤ix.den→ix.den<(N:Int)→Le (.agg (elem (.sym fun _=>zi (N*i+ix.den.toNat)))) (.agg (el' i ix)))
 (h:∀(b o cap:Nat),T≤cap→cap≤maxLen→ugj P f [.pp 0 [.val (.slice (some ⟨b,o,none⟩) T cap)],cN] k (fun i=>[.val (.slice (some ⟨b,o+(N*i)*sz,none⟩) N N)])):
 ugj P f [.pp 0 [.sl sz nt elem],cN] k (fun i=>[.sl sz (nn i) (el' i)]):=by
 refine⟨(h 0 0 T (Nat.le_refl _) hTm).1,fun F n hF hro μ W cs hmem hcs l J Jx hext hextx hround hJ0=> ?_⟩
 obtain⟨cl,hcl⟩:∃cl:List Value,cs=⟨cl⟩:=⟨cs.toList,rfl⟩
 subst hcl
 cases hcs with
 | tcons _ _ _ v rest h1 h2=>
  obtain⟨b',o',m',c',q1,q2,q3,rfl⟩:=uiJ h1
  obtain⟨cs',e,hrl⟩:=ucD q3
  have e:c'.extract o' (o'+m')=⟨cs'⟩:=by injection e
  have hs:∃s,cs'=[s]∧Rel μ Vl.nil (.sl sz nt elem) s:=by
   cases hrl with
   | cons _ _ _ s r g1 g2 g3=>
    cases g3 with
    |nil=>exact⟨s,rfl,g1⟩
  obtain⟨s,rfl,hs⟩:=hs
  obtain⟨ad,len,cap,rfl,hn,hc,hcase⟩:=ugp hs
  have hlT:len=T:=by rw [hnt]at hn;exact(Int.ofNat.inj hn).symm
  subst hlT
  rcases hcase with h0|⟨b,o,c,rfl,p1,p2,p3,p4,p5⟩
  ·omega
  have hcs':Rel μ Vl.nil (.tup [.pp 0 [.val (.slice (some ⟨b,o,none⟩) len cap)],cN]) (.tuple ⟨.pointer (some ⟨b',o'+0,none⟩)::rest⟩):=by
   refine .tcons _ _ _ _ _ (.pp _ 0 _ b' o' m' c' q1 q2 ?_) h2
   rw [e]
   exact .cons _ _ _ _ _ (.val _ _ rfl) rfl (.nil _)
  refine(h b o cap p2 hc).2 F n hF hro μ W _ hmem hcs' l J Jx hext hextx (fun i x K W1 hi hx hJ=>hround i x K W1 hi ?_ hJ) hJ0
  obtain⟨xl,hxl⟩:∃xl:List Value,x=⟨xl⟩:=⟨x.toList,rfl⟩
  subst hxl
  cases hx with
  | tcons _ _ _ v' rest' g1 g2=>
   have:=(ucY g1).1
   subst this
   cases g2 with
   | tnil=>
    refine .tcons _ _ _ _ _ ?_ (.tnil _)
    have hNi:N*i+N≤len:=by
     have:N*(i+1)≤N*k:=Nat.mul_le_mul_left N hi
     rw [Nat.mul_succ]at this
     omega
    have hin:∀jx:IX,0≤jx.den→jx.den<(N:Int)→Rel μ Vl.nil (.agg (el' i jx)) (.agg (c.extract (o+(N*i)*sz+jx.den.toNat*sz) (o+(N*i)*sz+jx.den.toNat*sz+sz))):=fun jx r1 r2=>by
     refine hel i hi jx r1 r2 _ _ _ ?_
     have:=p4 (.sym fun _=>zi (N*i+jx.den.toNat)) (by show(0:Int)≤((N*i+jx.den.toNat:Nat):Int);omega) (by rw [hn];show((N*i+jx.den.toNat:Nat):Int)<_;omega)
     have e1:(IX.sym fun _=>zi (N*i+jx.den.toNat)).den.toNat=N*i+jx.den.toNat:=Int.toNat_natCast _
     rw [e1,Nat.add_mul,←Nat.add_assoc]at this
     exact this
    refine .sl _ sz _ _ b (o+(N*i)*sz) N N c p3 (hnn i) (Nat.le_refl _) (by omega) hN (fun jx r1 r2=>hin jx r1 (by rw [hnn]at r2;exact r2)) ?_
    have:(N*i+N)*sz≤len*sz:=Nat.mul_le_mul_right _ hNi
    rw [Nat.add_mul]at this
    omega
theorem uaj {P:Program} {f:FuncId} {args args':List SV} {K:SV→Prop} {R:SV} {NN:Prop}(h:K R)(hF:ua0 P f args' [] fun r _=>r=R)(ha:Fit (.tup args) (.tup args'):=by repeat' (first|exact qB|refine qD ?_ ?_|exact qE (by rfl)|exact qF (by rfl)|exact Fit.refl _|exact qA|refine qC ?_ rfl ?_)):
 (∃post:SV→Prop,ua0 P f args [] (fun r _=>post r)∧∀r,post r→K r)∨NN:=qQ h hF ha
theorem om {p:Prop}(h:p:=by(try simp only [qX]at *);(try simp only [zQ,zA,zB,zC,zD,zE,zF,zG,zH,zI,zJ,zK,zL,zM,zN,zO,zP,zR,zS]at *);omega):p:=h
end Go.Eng
